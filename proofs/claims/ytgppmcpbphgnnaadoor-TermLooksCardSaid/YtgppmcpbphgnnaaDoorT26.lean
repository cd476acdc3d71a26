/- Rounds of the laws. No condition. -/
import Derived.Test.YtgppmcpbphgnnaaDoorT10
set_option linter.unusedSimpArgs false
set_option linter.unusedVariables false
set_option linter.unusedSectionVars false
namespace Go.Proofs.YtgppmcpbphgnnaaDoor
open Go Go.Vx
attribute [local congr] seqO_congr iteB_congr
attribute [local go_sem ↓] sO_some sO_none iB_true iB_false
attribute [local go_sem] stepJ sO_some sO_none iB_true iB_false seqO_iteB startSt acode aops aopR wantsR aopX isFnCall aop fetch takeAt moveTup St.val PV.ofValue D.ofCell put isTmp PV.maySrc aBin eqFieldsA eqCell binLit eqKind abool aint aUn thenC inBlockC polOf aConv retOf aress ares okRes okAl dstsOf stays outOf tupOf PV.noPtr PV.isDat PV.isOwn PV.strip aLoad frz0 frz1 frz2 frz3 frz4 frz5 frz6 frz7 frz8 frz9 frz10 frz11 frz12 freezeC PV.frz PV.frozen aStore aStore0 homeStore PV.isHome hookOf runHook ownPlace aConv0 aConvP eqRes aAppendR aAppendS builtin_sd builtin_us aSliceData aUnsafeString aSliceP zeros Vx.keyOf ksz sr_append sr_len stored undef cl_tnil cl_home cl_siter aFieldAddr aIndexAddr addOff rowPtr rd_eq rdV rdPV_dat rdPV_own rdI_nil rdI_sl oneC_lit oneC_nil oneC_sl Rd.rows Rd.fits cut setCells isCell_dat isCell_own isCell_ptr isCell_iptr isCell_clo cells_dat cells_own cells_ptr cells_iptr cells_clo cells_agg toD_dat toDs aBuild canBuild aRows fetchs fetchN fetchNs aSlice aAppend builtin_len lenV builtin_append builtin_max builtin_min maxV minV ptrBox ptrBoxes prep prepN fin noAlias aopN aopNX aopNR anseg asegs segFree segsOf atHead atExit loopCode loopAt gc refLt cl_dat cl_own cl_ptr cl_clo cl_iptr cl_dead cl_alias cl_eptr ridOf keepAt St.at St.mark touch TK.isAgg Value.oneCell' iteB_not wl_0 wl_1 wl_2 wl_3 wl_4 wl_5 wl_6 wl_7 wl_8 wl_9 wl_10 wl_11 wl_12 wl_13 wl_14 wl_15 wl_16 wl_17 wl_18 wl_19 wl_20 wl_21 wl_22 wl_23 wl_24 wl_25 wl_26 wl_27 wl_28 wl_29 wl_30 beq_true' beq_false' app_get app_get0 app_set app_set0 app_take app_takek app_drop set_old get_old get_set take_set take_set0 take_setk drop_set get_setn get_setn0 set_setn set_setn0 lt_addk List.set_set List.getElem?_toArray List.size_toArray Array.size_empty lt_irr add_lt_irr lt_add add_lt_add le_add add_sub List.getD_cons_zero List.getD_cons_succ List.set_cons_zero List.set_cons_succ List.replicate List.length_cons List.length_nil List.length_set List.cons_append List.nil_append List.append_nil List.append_assoc List.map_cons List.map_nil List.all_cons List.all_nil List.any_cons List.any_nil List.take_succ_cons List.take_zero List.take_nil List.drop_succ_cons List.drop_zero List.drop_nil List.zip_cons_cons List.zip_nil_left List.zip_nil_right List.find? List.contains List.elem List.getElem?_cons_zero List.getElem?_cons_succ List.getElem?_nil List.length_append List.length_map List.isEmpty Option.getD_none Option.getD_some Option.map_none Option.map_some Option.bind_some Option.bind_none Option.isSome_none Option.isSome_some Nat.min_self Nat.add_zero Nat.zero_add Nat.add_assoc ne_eq not_false_eq_true not_true_eq_false BEq.rfl beq_self_eq_true if_true if_false Bool.false_eq_true Bool.and_true Bool.true_and Bool.and_false Bool.false_and Bool.or_true Bool.or_false Bool.true_or Bool.false_or Bool.not_false Bool.not_true Bool.not_not Bool.and_self and_self and_true true_and and_false false_and or_self or_false false_or or_true true_or decide_true decide_false
attribute [local go_sem] hookC byteTC bytePC homeC ptrTC unsPC unsToC cmpC
set_option maxHeartbeats 8000000
set_option maxRecDepth 10000

section
variable {bx : List Box} {K K' K2 : D} {op n m o n' o2 n2 e e2 : Int} {l tx : List UInt8} {b : Bool}

theorem f5 {x y : Int} (hK : K.oneC = true)
    (hL : ev cfg (.call 19 [.agg [I op, I n, .dat K], .ptr (bx.length + 1) 0, I 1] (bx ++ [[I op, I n, .dat K], [I 3000]])) = some (.ret (B b) (some ⟨bx ++ [[I op, I n, .dat K], [I m]], bx.length + 1, false⟩)))
    (hl : ∀ bx : List Box, ev cfg (.call 20 [] bx) = some (.ret (B true) none))
    (h1 : b = false → ∀ bx : List Box, ev cfg (.call 21 [.agg [I op, I n, .dat K]] bx) = some (.ret (.tup [I x, I y]) none))
    (h2 : b = false → ∀ bx : List Box, ev cfg (.call 22 [.agg [I op, I n, .dat K]] bx) = some (.ret (.tup [I x, I y]) none)) :
    stepJ (ev cfg) cfg (.call 5 [.agg [I op, I n, .dat K]] bx) = some (.ret (B true) none) := by
  cases b
  · have h1' := h1 rfl
    have h2' := h2 rfl
    simp (maxSteps := 2000000) only [go_sem, Nat.reduceSub, Nat.reduceAdd, Nat.reduceMul, Nat.reduceLT, Nat.reduceLeDiff, Nat.reduceBEq, Nat.reduceEqDiff, Nat.reduceGT, Int.reduceToNat, Int.reduceLT, Int.reduceNeg, Int.reduceEq, Int.reduceBEq, Int.reduceBNe, Int.reduceLE, Int.reduceGT, Int.reduceGE, Int.reduceNe, Int.reduceAdd, Int.reduceSub, Int.reduceMul, reduceIte, ↓reduceIte, fn5, cx5, Tryd.f5, ti3, ti46, ti48, ti51, hK, hL, hl, h1', h2', beq_self_eq_true]
  · simp (maxSteps := 2000000) only [go_sem, Nat.reduceSub, Nat.reduceAdd, Nat.reduceMul, Nat.reduceLT, Nat.reduceLeDiff, Nat.reduceBEq, Nat.reduceEqDiff, Nat.reduceGT, Int.reduceToNat, Int.reduceLT, Int.reduceNeg, Int.reduceEq, Int.reduceBEq, Int.reduceBNe, Int.reduceLE, Int.reduceGT, Int.reduceGE, Int.reduceNe, Int.reduceAdd, Int.reduceSub, Int.reduceMul, reduceIte, ↓reduceIte, fn5, cx5, Tryd.f5, ti3, ti46, ti48, ti51, hK, hL, hl]
theorem f6 {x : ByteArray} {y : Int} (hK : K.oneC = true)
    (hL : ev cfg (.call 19 [.agg [I op, I n, .dat K], .ptr (bx.length + 1) 0, I 1] (bx ++ [[I op, I n, .dat K], [I 3000]])) = some (.ret (B b) (some ⟨bx ++ [[I op, I n, .dat K], [I m]], bx.length + 1, false⟩)))
    (hl : ∀ bx : List Box, ev cfg (.call 20 [] bx) = some (.ret (B true) none))
    (h1 : b = false → ∀ bx : List Box, ev cfg (.call 23 [.agg [I op, I n, .dat K]] bx) = some (.ret (.tup [S x, I y]) none))
    (h2 : b = false → ∀ bx : List Box, ev cfg (.call 24 [.agg [I op, I n, .dat K]] bx) = some (.ret (.tup [S x, I y]) none)) :
    stepJ (ev cfg) cfg (.call 6 [.agg [I op, I n, .dat K]] bx) = some (.ret (B true) none) := by
  cases b
  · have h1' := h1 rfl
    have h2' := h2 rfl
    simp (maxSteps := 2000000) only [go_sem, Nat.reduceSub, Nat.reduceAdd, Nat.reduceMul, Nat.reduceLT, Nat.reduceLeDiff, Nat.reduceBEq, Nat.reduceEqDiff, Nat.reduceGT, Int.reduceToNat, Int.reduceLT, Int.reduceNeg, Int.reduceEq, Int.reduceBEq, Int.reduceBNe, Int.reduceLE, Int.reduceGT, Int.reduceGE, Int.reduceNe, Int.reduceAdd, Int.reduceSub, Int.reduceMul, reduceIte, ↓reduceIte, fn6, cx6, Tryd.f6, ti3, ti46, ti48, ti51, hK, hL, hl, h1', h2', beq_self_eq_true]
  · simp (maxSteps := 2000000) only [go_sem, Nat.reduceSub, Nat.reduceAdd, Nat.reduceMul, Nat.reduceLT, Nat.reduceLeDiff, Nat.reduceBEq, Nat.reduceEqDiff, Nat.reduceGT, Int.reduceToNat, Int.reduceLT, Int.reduceNeg, Int.reduceEq, Int.reduceBEq, Int.reduceBNe, Int.reduceLE, Int.reduceGT, Int.reduceGE, Int.reduceNe, Int.reduceAdd, Int.reduceSub, Int.reduceMul, reduceIte, ↓reduceIte, fn6, cx6, Tryd.f6, ti3, ti46, ti48, ti51, hK, hL, hl]
theorem f7_long (h : decide ((l.length : Int) > 21000) = true) (hl : ∀ bx : List Box, ev cfg (.call 20 [] bx) = some (.ret (B true) none)) :
    stepJ (ev cfg) cfg (.call 7 [S (bsT l)] bx) = some (.ret (B true) none) := by
  simp (maxSteps := 2000000) only [go_sem, Nat.reduceSub, Nat.reduceAdd, Nat.reduceMul, Nat.reduceLT, Nat.reduceLeDiff, Nat.reduceBEq, Nat.reduceEqDiff, Nat.reduceGT, Int.reduceToNat, Int.reduceLT, Int.reduceNeg, Int.reduceEq, Int.reduceBEq, Int.reduceBNe, Int.reduceLE, Int.reduceGT, Int.reduceGE, Int.reduceNe, Int.reduceAdd, Int.reduceSub, Int.reduceMul, reduceIte, ↓reduceIte, fn7, cx7, Tryd.f7, ti3, ti9, ti46, ti48, bsT_size, h, hl]
theorem f7 (h : decide ((l.length : Int) > 21000) = false) (hl : ∀ bx : List Box, ev cfg (.call 20 [] bx) = some (.ret (B true) none)) (hK : K.oneC = true) (hK2 : K2.oneC = true)
    (h1 : ∀ bx : List Box, ev cfg (.call 25 [S (bsT l)] bx) = some (.ret (.tup [.agg [I op, I n, .dat K], I e]) none))
    (h2 : ∀ bx : List Box, ev cfg (.call 26 [S (bsT l)] bx) = some (.ret (.tup [.agg [I o2, I n2, .dat K2], I e]) none))
    (h3 : ∀ bx : List Box, ev cfg (.call 27 [.agg [I op, I n, .dat K], .agg [I o2, I n2, .dat K2]] bx) = some (.ret (B true) none)) :
    stepJ (ev cfg) cfg (.call 7 [S (bsT l)] bx) = some (.ret (B true) none) := by
  simp (maxSteps := 2000000) only [go_sem, Nat.reduceSub, Nat.reduceAdd, Nat.reduceMul, Nat.reduceLT, Nat.reduceLeDiff, Nat.reduceBEq, Nat.reduceEqDiff, Nat.reduceGT, Int.reduceToNat, Int.reduceLT, Int.reduceNeg, Int.reduceEq, Int.reduceBEq, Int.reduceBNe, Int.reduceLE, Int.reduceGT, Int.reduceGE, Int.reduceNe, Int.reduceAdd, Int.reduceSub, Int.reduceMul, reduceIte, ↓reduceIte, fn7, cx7, Tryd.f7, ti3, ti9, ti46, ti48, bsT_size, h, hl, hK, hK2, h1, h2, h3, beq_self_eq_true]
theorem f8_big (hK : K.oneC = true)
    (hL : ev cfg (.call 19 [.agg [I op, I n, .dat K], .ptr (bx.length + 1) 0, I 1] (bx ++ [[I op, I n, .dat K], [I 2000]])) = some (.ret (B b) (some ⟨bx ++ [[I op, I n, .dat K], [I m]], bx.length + 1, false⟩)))
    (hl : ∀ bx : List Box, ev cfg (.call 20 [] bx) = some (.ret (B true) none)) (h : (b || decide ((l.length : Int) > 5000)) = true) :
    stepJ (ev cfg) cfg (.call 8 [.agg [I op, I n, .dat K], S (bsT l)] bx) = some (.ret (B true) none) := by
  cases b
  · rw [Bool.false_or] at h
    simp (maxSteps := 2000000) only [go_sem, Nat.reduceSub, Nat.reduceAdd, Nat.reduceMul, Nat.reduceLT, Nat.reduceLeDiff, Nat.reduceBEq, Nat.reduceEqDiff, Nat.reduceGT, Int.reduceToNat, Int.reduceLT, Int.reduceNeg, Int.reduceEq, Int.reduceBEq, Int.reduceBNe, Int.reduceLE, Int.reduceGT, Int.reduceGE, Int.reduceNe, Int.reduceAdd, Int.reduceSub, Int.reduceMul, reduceIte, ↓reduceIte, fn8, cx8, Tryd.f8, ti3, ti9, ti46, ti48, ti51, bsT_size, hK, hL, hl, h]
  · simp (maxSteps := 2000000) only [go_sem, Nat.reduceSub, Nat.reduceAdd, Nat.reduceMul, Nat.reduceLT, Nat.reduceLeDiff, Nat.reduceBEq, Nat.reduceEqDiff, Nat.reduceGT, Int.reduceToNat, Int.reduceLT, Int.reduceNeg, Int.reduceEq, Int.reduceBEq, Int.reduceBNe, Int.reduceLE, Int.reduceGT, Int.reduceGE, Int.reduceNe, Int.reduceAdd, Int.reduceSub, Int.reduceMul, reduceIte, ↓reduceIte, fn8, cx8, Tryd.f8, ti3, ti9, ti46, ti48, ti51, bsT_size, hK, hL, hl]
theorem f8 (hK : K.oneC = true) (hK' : K'.oneC = true) (hK2 : K2.oneC = true)
    (hL : ev cfg (.call 19 [.agg [I op, I n, .dat K], .ptr (bx.length + 1) 0, I 1] (bx ++ [[I op, I n, .dat K], [I 2000]])) = some (.ret (B false) (some ⟨bx ++ [[I op, I n, .dat K], [I m]], bx.length + 1, false⟩)))
    (hl : ∀ bx : List Box, ev cfg (.call 20 [] bx) = some (.ret (B true) none)) (h : decide ((l.length : Int) > 5000) = false)
    (h1 : ∀ bx : List Box, ev cfg (.call 23 [.agg [I op, I n, .dat K]] bx) = some (.ret (.tup [S (bsT tx), I e]) none))
    (h2 : (e == 0) = true → ∀ bx : List Box, ev cfg (.call 25 [S (bsT tx)] bx) = some (.ret (.tup [.agg [I o, I n', .dat K'], I 0]) none))
    (h3 : (e == 0) = true → ∀ bx : List Box, ev cfg (.call 27 [.agg [I op, I n, .dat K], .agg [I o, I n', .dat K']] bx) = some (.ret (B true) none))
    (h4 : ∀ bx : List Box, ev cfg (.call 25 [S (bsT l)] bx) = some (.ret (.tup [.agg [I o2, I n2, .dat K2], I e2]) none))
    (h5 : (e2 == 0) = true → ∀ bx : List Box, ev cfg (.call 23 [.agg [I o2, I n2, .dat K2]] bx) = some (.ret (.tup [S (bsT l), I 0]) none)) :
    stepJ (ev cfg) cfg (.call 8 [.agg [I op, I n, .dat K], S (bsT l)] bx) = some (.ret (B true) none) := by
  cases c1 : (e == 0)
  · cases c2 : (e2 == 0)
    · simp (maxSteps := 2000000) only [go_sem, Nat.reduceSub, Nat.reduceAdd, Nat.reduceMul, Nat.reduceLT, Nat.reduceLeDiff, Nat.reduceBEq, Nat.reduceEqDiff, Nat.reduceGT, Int.reduceToNat, Int.reduceLT, Int.reduceNeg, Int.reduceEq, Int.reduceBEq, Int.reduceBNe, Int.reduceLE, Int.reduceGT, Int.reduceGE, Int.reduceNe, Int.reduceAdd, Int.reduceSub, Int.reduceMul, reduceIte, ↓reduceIte, fn8, cx8, Tryd.f8, ti3, ti9, ti46, ti48, ti51, bsT_size, hK, hK', hK2, hL, hl, h, h1, h4, c1, c2]
    · have h5' := h5 c2
      simp (maxSteps := 2000000) only [go_sem, Nat.reduceSub, Nat.reduceAdd, Nat.reduceMul, Nat.reduceLT, Nat.reduceLeDiff, Nat.reduceBEq, Nat.reduceEqDiff, Nat.reduceGT, Int.reduceToNat, Int.reduceLT, Int.reduceNeg, Int.reduceEq, Int.reduceBEq, Int.reduceBNe, Int.reduceLE, Int.reduceGT, Int.reduceGE, Int.reduceNe, Int.reduceAdd, Int.reduceSub, Int.reduceMul, reduceIte, ↓reduceIte, fn8, cx8, Tryd.f8, ti3, ti9, ti46, ti48, ti51, bsT_size, hK, hK', hK2, hL, hl, h, h1, h4, h5', c1, c2, beq_self_eq_true, bne_self_eq_false]
  · have h2' := h2 c1
    have h3' := h3 c1
    cases c2 : (e2 == 0)
    · simp (maxSteps := 2000000) only [go_sem, Nat.reduceSub, Nat.reduceAdd, Nat.reduceMul, Nat.reduceLT, Nat.reduceLeDiff, Nat.reduceBEq, Nat.reduceEqDiff, Nat.reduceGT, Int.reduceToNat, Int.reduceLT, Int.reduceNeg, Int.reduceEq, Int.reduceBEq, Int.reduceBNe, Int.reduceLE, Int.reduceGT, Int.reduceGE, Int.reduceNe, Int.reduceAdd, Int.reduceSub, Int.reduceMul, reduceIte, ↓reduceIte, fn8, cx8, Tryd.f8, ti3, ti9, ti46, ti48, ti51, bsT_size, hK, hK', hK2, hL, hl, h, h1, h2', h3', h4, c1, c2, bne_self_eq_false]
    · have h5' := h5 c2
      simp (maxSteps := 2000000) only [go_sem, Nat.reduceSub, Nat.reduceAdd, Nat.reduceMul, Nat.reduceLT, Nat.reduceLeDiff, Nat.reduceBEq, Nat.reduceEqDiff, Nat.reduceGT, Int.reduceToNat, Int.reduceLT, Int.reduceNeg, Int.reduceEq, Int.reduceBEq, Int.reduceBNe, Int.reduceLE, Int.reduceGT, Int.reduceGE, Int.reduceNe, Int.reduceAdd, Int.reduceSub, Int.reduceMul, reduceIte, ↓reduceIte, fn8, cx8, Tryd.f8, ti3, ti9, ti46, ti48, ti51, bsT_size, hK, hK', hK2, hL, hl, h, h1, h2', h3', h4, h5', c1, c2, beq_self_eq_true, bne_self_eq_false]
end
end Go.Proofs.YtgppmcpbphgnnaaDoor
