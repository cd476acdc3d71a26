/- Rounds of the terms' functions: shaped, typed, wrong, Check. No condition. -/
import Derived.Test.YtgppmcpbphgnnaaDoorT1
set_option linter.unusedSimpArgs false
set_option linter.unusedVariables false
set_option linter.unusedSectionVars false
namespace Go.Proofs.YtgppmcpbphgnnaaDoor
open Go Go.Vx
attribute [local congr] seqO_congr iteB_congr
attribute [local go_sem ↓] sO_some sO_none iB_true iB_false
attribute [local go_sem] stepJ sO_some sO_none iB_true iB_false seqO_iteB startSt acode aops aopR wantsR aopX isFnCall aop fetch takeAt moveTup St.val PV.ofValue D.ofCell put isTmp PV.maySrc aBin eqFieldsA eqCell binLit eqKind abool aint aUn thenC inBlockC polOf aConv retOf aress ares okRes okAl dstsOf stays outOf tupOf PV.noPtr PV.isDat PV.isOwn PV.strip aLoad frz0 frz1 frz2 frz3 frz4 frz5 frz6 frz7 frz8 frz9 frz10 frz11 frz12 freezeC PV.frz PV.frozen aStore aStore0 homeStore PV.isHome hookOf runHook ownPlace aConv0 aConvP eqRes aAppendR aAppendS builtin_sd builtin_us aSliceData aUnsafeString aSliceP zeros Vx.keyOf ksz sr_append sr_len stored undef cl_tnil cl_home cl_siter aFieldAddr aIndexAddr addOff rowPtr rd_eq rdV rdPV_dat rdPV_own rdI_nil rdI_sl oneC_lit oneC_nil oneC_sl Rd.rows Rd.fits cut setCells isCell_dat isCell_own isCell_ptr isCell_iptr isCell_clo cells_dat cells_own cells_ptr cells_iptr cells_clo cells_agg toD_dat toDs aBuild canBuild aRows fetchs fetchN fetchNs aSlice aAppend builtin_len lenV builtin_append builtin_max builtin_min maxV minV ptrBox ptrBoxes prep prepN fin noAlias aopN aopNX aopNR anseg asegs segFree segsOf atHead atExit loopCode loopAt gc refLt cl_dat cl_own cl_ptr cl_clo cl_iptr cl_dead cl_alias cl_eptr ridOf keepAt St.at St.mark touch TK.isAgg Value.oneCell' iteB_not wl_0 wl_1 wl_2 wl_3 wl_4 wl_5 wl_6 wl_7 wl_8 wl_9 wl_10 wl_11 wl_12 wl_13 wl_14 wl_15 wl_16 wl_17 wl_18 wl_19 wl_20 wl_21 wl_22 wl_23 wl_24 wl_25 wl_26 wl_27 wl_28 wl_29 wl_30 beq_true' beq_false' app_get app_get0 app_set app_set0 app_take app_takek app_drop set_old get_old get_set take_set take_set0 take_setk drop_set get_setn get_setn0 set_setn set_setn0 lt_addk List.set_set List.getElem?_toArray List.size_toArray Array.size_empty lt_irr add_lt_irr lt_add add_lt_add le_add add_sub List.getD_cons_zero List.getD_cons_succ List.set_cons_zero List.set_cons_succ List.replicate List.length_cons List.length_nil List.length_set List.cons_append List.nil_append List.append_nil List.append_assoc List.map_cons List.map_nil List.all_cons List.all_nil List.any_cons List.any_nil List.take_succ_cons List.take_zero List.take_nil List.drop_succ_cons List.drop_zero List.drop_nil List.zip_cons_cons List.zip_nil_left List.zip_nil_right List.find? List.contains List.elem List.getElem?_cons_zero List.getElem?_cons_succ List.getElem?_nil List.length_append List.length_map List.isEmpty Option.getD_none Option.getD_some Option.map_none Option.map_some Option.bind_some Option.bind_none Option.isSome_none Option.isSome_some Nat.min_self Nat.add_zero Nat.zero_add Nat.add_assoc ne_eq not_false_eq_true not_true_eq_false BEq.rfl beq_self_eq_true if_true if_false Bool.false_eq_true Bool.and_true Bool.true_and Bool.and_false Bool.false_and Bool.or_true Bool.or_false Bool.true_or Bool.false_or Bool.not_false Bool.not_true Bool.not_not Bool.and_self and_self and_true true_and and_false false_and or_self or_false false_or or_true true_or decide_true decide_false
attribute [local go_sem] hookC byteTC bytePC homeC ptrTC unsPC unsToC cmpC
set_option maxHeartbeats 4000000
set_option maxRecDepth 10000

/-- the table of operators -/
noncomputable def wordsD : List D := (cfg.glob 1).getD []
theorem gw : cfg.glob 1 = some wordsD := rfl

def bsL (l : List UInt8) : ByteArray := ⟨l.toArray⟩

structure Wd (op : Int) : Prop where
  neg : (op < 0) = False
  lt : (op.toNat < 15) = True
  row : (wordsD.drop (op.toNat * 4)).take 4 = [.lit (.string (bsL (wordL op))), dI (arity op), dI (tyOf (asked op)), dI (tyOf (truth op))]
  len : (op.toNat * 4 + 4 ≤ wordsD.length) = True
  r0 : wordsD[op.toNat * 4]? = some (.lit (.string (bsL (wordL op))))
  r1 : wordsD[op.toNat * 4 + 1]? = some (dI (arity op))

theorem wd {op : Int} (h : okOp op = true) : Wd op := by
  rcases okOp_cases h with rfl | rfl | rfl | rfl | rfl | rfl | rfl | rfl | rfl | rfl | rfl | rfl <;>
    exact ⟨eq_false (by decide), eq_true (by decide), rfl, eq_true (by decide), rfl, rfl⟩

section
variable {bx : List Box} {c : Box} {rows : List (List D)} {K : D} {i : Nat} {op n : Int} {K' : D}

theorem f62_1 {kl : Nat} (hK : IsS 3 rows K) (hrl : rows.length = kl) :
    stepJ (ev cfg) cfg (.call 62 [.agg [I 1, I n, .dat K]] bx) = some (.ret (B ((kl : Int) == 0 && decide (n ≥ 0) && decide (n ≤ 1099511627776))) none) := by
  obtain ⟨w, h1, h2, h3⟩ := hK
  cases c1 : ((kl : Int) == 0) <;> cases c2 : decide (n ≥ 0) <;> simp (maxSteps := 2000000) only [go_sem, Nat.reduceSub, Nat.reduceAdd, Nat.reduceMul, Nat.reduceLT, Nat.reduceLeDiff, Nat.reduceBEq, Nat.reduceEqDiff, Nat.reduceGT, Int.reduceToNat, Int.reduceLT, Int.reduceNeg, Int.reduceEq, Int.reduceBEq, Int.reduceBNe, Int.reduceLE, Int.reduceGT, Int.reduceGE, Int.reduceNe, Int.reduceAdd, Int.reduceSub, Int.reduceMul, reduceIte, ↓reduceIte, fn62, cx62, Tryd.f62, ti3, ti9, ti46, ti48, ti102, ti103, h1, h3, hrl, c1, c2]
theorem f62_2 {kl : Nat} (hK : IsS 3 rows K) (hrl : rows.length = kl) :
    stepJ (ev cfg) cfg (.call 62 [.agg [I 2, I n, .dat K]] bx) = some (.ret (B ((kl : Int) == 0 && decide (n ≥ 0) && decide (n < 4))) none) := by
  obtain ⟨w, h1, h2, h3⟩ := hK
  cases c1 : ((kl : Int) == 0) <;> cases c2 : decide (n ≥ 0) <;> simp (maxSteps := 2000000) only [go_sem, Nat.reduceSub, Nat.reduceAdd, Nat.reduceMul, Nat.reduceLT, Nat.reduceLeDiff, Nat.reduceBEq, Nat.reduceEqDiff, Nat.reduceGT, Int.reduceToNat, Int.reduceLT, Int.reduceNeg, Int.reduceEq, Int.reduceBEq, Int.reduceBNe, Int.reduceLE, Int.reduceGT, Int.reduceGE, Int.reduceNe, Int.reduceAdd, Int.reduceSub, Int.reduceMul, reduceIte, ↓reduceIte, fn62, cx62, Tryd.f62, ti3, ti9, ti46, ti48, ti102, ti103, h1, h3, hrl, c1, c2]
theorem f62_no (hK : IsS 3 rows K) (h1 : (op == 1) = false) (h2 : (op == 2) = false) (h : (decide (op < 3) || decide (op > 14) || n != 0) = true) :
    stepJ (ev cfg) cfg (.call 62 [.agg [I op, I n, .dat K]] bx) = some (.ret (B false) none) := by
  obtain ⟨w, k1, k2, k3⟩ := hK
  cases c1 : decide (op < 3)
  · cases c2 : decide (op > 14)
    · rw [c1, c2] at h
      simp only [Bool.false_or] at h
      simp (maxSteps := 2000000) only [go_sem, Nat.reduceSub, Nat.reduceAdd, Nat.reduceMul, Nat.reduceLT, Nat.reduceLeDiff, Nat.reduceBEq, Nat.reduceEqDiff, Nat.reduceGT, Int.reduceToNat, Int.reduceLT, Int.reduceNeg, Int.reduceEq, Int.reduceBEq, Int.reduceBNe, Int.reduceLE, Int.reduceGT, Int.reduceGE, Int.reduceNe, Int.reduceAdd, Int.reduceSub, Int.reduceMul, reduceIte, ↓reduceIte, fn62, cx62, Tryd.f62, ti3, ti9, ti46, ti48, ti102, ti103, k1, k3, h1, h2, c1, c2, h]
    · simp (maxSteps := 2000000) only [go_sem, Nat.reduceSub, Nat.reduceAdd, Nat.reduceMul, Nat.reduceLT, Nat.reduceLeDiff, Nat.reduceBEq, Nat.reduceEqDiff, Nat.reduceGT, Int.reduceToNat, Int.reduceLT, Int.reduceNeg, Int.reduceEq, Int.reduceBEq, Int.reduceBNe, Int.reduceLE, Int.reduceGT, Int.reduceGE, Int.reduceNe, Int.reduceAdd, Int.reduceSub, Int.reduceMul, reduceIte, ↓reduceIte, fn62, cx62, Tryd.f62, ti3, ti9, ti46, ti48, ti102, ti103, k1, k3, h1, h2, c1, c2]
  · simp (maxSteps := 2000000) only [go_sem, Nat.reduceSub, Nat.reduceAdd, Nat.reduceMul, Nat.reduceLT, Nat.reduceLeDiff, Nat.reduceBEq, Nat.reduceEqDiff, Nat.reduceGT, Int.reduceToNat, Int.reduceLT, Int.reduceNeg, Int.reduceEq, Int.reduceBEq, Int.reduceBNe, Int.reduceLE, Int.reduceGT, Int.reduceGE, Int.reduceNe, Int.reduceAdd, Int.reduceSub, Int.reduceMul, reduceIte, ↓reduceIte, fn62, cx62, Tryd.f62, ti3, ti9, ti46, ti48, ti102, ti103, k1, k3, h1, h2, c1]
theorem f62_op {kl : Nat} {b : Bool} (hK : IsS 3 rows K) (hrl : rows.length = kl) (h1 : (op == 1) = false) (h2 : (op == 2) = false) (c1 : decide (op < 3) = false) (c2 : decide (op > 14) = false) (c3 : (n != 0) = false) (W : Wd op)
    (h : ∀ bx : List Box, ev cfg (.call 63 [.dat K, .clo 83 []] bx) = some (.ret (B b) none)) :
    stepJ (ev cfg) cfg (.call 62 [.agg [I op, I n, .dat K]] bx) = some (.ret (B (!((kl : Int) != (arity op : Int)) && !b)) none) := by
  obtain ⟨w, k1, k2, k3⟩ := hK
  obtain ⟨w1, w2, w3, w4, w5, w6⟩ := W
  cases c4 : ((kl : Int) != (arity op : Int)) <;> simp (maxSteps := 2000000) only [go_sem, Nat.reduceSub, Nat.reduceAdd, Nat.reduceMul, Nat.reduceLT, Nat.reduceLeDiff, Nat.reduceBEq, Nat.reduceEqDiff, Nat.reduceGT, Int.reduceToNat, Int.reduceLT, Int.reduceNeg, Int.reduceEq, Int.reduceBEq, Int.reduceBNe, Int.reduceLE, Int.reduceGT, Int.reduceGE, Int.reduceNe, Int.reduceAdd, Int.reduceSub, Int.reduceMul, reduceIte, ↓reduceIte, fn62, cx62, Tryd.f62, ti3, ti9, ti46, ti48, ti102, ti103, k1, k3, h1, h2, c1, c2, c3, gw, w1, w2, w6, hrl, c4, h]
theorem f83 {b : Bool} (hK : IsS 3 rows K) (h : ∀ bx : List Box, ev cfg (.call 62 [.agg [I op, I n, .dat K]] bx) = some (.ret (B b) none)) :
    stepJ (ev cfg) cfg (.call 83 [.agg [I op, I n, .dat K]] bx) = some (.ret (B (!b)) none) := by
  obtain ⟨w, k1, k2, k3⟩ := hK
  simp (maxSteps := 2000000) only [go_sem, Nat.reduceSub, Nat.reduceAdd, Nat.reduceMul, Nat.reduceLT, Nat.reduceLeDiff, Nat.reduceBEq, Nat.reduceEqDiff, Nat.reduceGT, Int.reduceToNat, Int.reduceLT, Int.reduceNeg, Int.reduceEq, Int.reduceBEq, Int.reduceBNe, Int.reduceLE, Int.reduceGT, Int.reduceGE, Int.reduceNe, Int.reduceAdd, Int.reduceSub, Int.reduceMul, reduceIte, ↓reduceIte, fn83, cx83, Tryd.f83, ti3, ti46, ti48, k1, k3, h]

theorem f44_leaf (hK : IsS 3 rows K) (h : (op == 1 || op == 2) = true) : stepJ (ev cfg) cfg (.call 44 [.agg [I op, I n, .dat K]] bx) = some (.ret (I 1) none) := by
  obtain ⟨w, k1, k2, k3⟩ := hK
  cases c1 : (op == 1)
  · rw [c1, Bool.false_or] at h
    simp (maxSteps := 2000000) only [go_sem, Nat.reduceSub, Nat.reduceAdd, Nat.reduceMul, Nat.reduceLT, Nat.reduceLeDiff, Nat.reduceBEq, Nat.reduceEqDiff, Nat.reduceGT, Int.reduceToNat, Int.reduceLT, Int.reduceNeg, Int.reduceEq, Int.reduceBEq, Int.reduceBNe, Int.reduceLE, Int.reduceGT, Int.reduceGE, Int.reduceNe, Int.reduceAdd, Int.reduceSub, Int.reduceMul, reduceIte, ↓reduceIte, fn44, cx44, Tryd.f44, ti3, ti9, ti46, ti48, ti102, ti103, k1, k3, c1, h]
  · simp (maxSteps := 2000000) only [go_sem, Nat.reduceSub, Nat.reduceAdd, Nat.reduceMul, Nat.reduceLT, Nat.reduceLeDiff, Nat.reduceBEq, Nat.reduceEqDiff, Nat.reduceGT, Int.reduceToNat, Int.reduceLT, Int.reduceNeg, Int.reduceEq, Int.reduceBEq, Int.reduceBNe, Int.reduceLE, Int.reduceGT, Int.reduceGE, Int.reduceNe, Int.reduceAdd, Int.reduceSub, Int.reduceMul, reduceIte, ↓reduceIte, fn44, cx44, Tryd.f44, ti3, ti9, ti46, ti48, ti102, ti103, k1, k3, c1]
theorem f44_op {b : Bool} (hK : IsS 3 rows K) (h1 : (op == 1) = false) (h2 : (op == 2) = false) (W : Wd op)
    (h : ∀ c : Box, ev cfg (.call 63 [.dat K, .clo 64 [bx.length + 1]] (bx ++ [c, [S (bsL (wordL op)), I (arity op), I (tyOf (asked op)), I (tyOf (truth op))]])) = some (.ret (B b) none)) :
    stepJ (ev cfg) cfg (.call 44 [.agg [I op, I n, .dat K]] bx) = some (.ret (I (if b = true then 0 else tyOf (truth op))) none) := by
  obtain ⟨w, k1, k2, k3⟩ := hK
  obtain ⟨w1, w2, w3, w4, w5, w6⟩ := W
  cases b <;> simp (maxSteps := 2000000) only [go_sem, Nat.reduceSub, Nat.reduceAdd, Nat.reduceMul, Nat.reduceLT, Nat.reduceLeDiff, Nat.reduceBEq, Nat.reduceEqDiff, Nat.reduceGT, Int.reduceToNat, Int.reduceLT, Int.reduceNeg, Int.reduceEq, Int.reduceBEq, Int.reduceBNe, Int.reduceLE, Int.reduceGT, Int.reduceGE, Int.reduceNe, Int.reduceAdd, Int.reduceSub, Int.reduceMul, reduceIte, ↓reduceIte, fn44, cx44, Tryd.f44, ti3, ti9, ti46, ti48, ti102, ti103, k1, k3, h1, h2, gw, w1, w2, w3, w4, h]
theorem f64 {l : Nat} {s : ByteArray} {ar ask out x : Int} (hK : IsS 3 rows K) (hl : l < bx.length) (hb : bx[l]? = some [S s, I ar, I ask, I out]) (h : ∀ bx : List Box, ev cfg (.call 44 [.agg [I op, I n, .dat K]] bx) = some (.ret (I x) none)) :
    stepJ (ev cfg) cfg (.call 64 [.agg [I op, I n, .dat K], .ptr l 0] bx) = some (.ret (B (x != ask)) none) := by
  obtain ⟨w, k1, k2, k3⟩ := hK
  simp (maxSteps := 2000000) only [go_sem, Nat.reduceSub, Nat.reduceAdd, Nat.reduceMul, Nat.reduceLT, Nat.reduceLeDiff, Nat.reduceBEq, Nat.reduceEqDiff, Nat.reduceGT, Int.reduceToNat, Int.reduceLT, Int.reduceNeg, Int.reduceEq, Int.reduceBEq, Int.reduceBNe, Int.reduceLE, Int.reduceGT, Int.reduceGE, Int.reduceNe, Int.reduceAdd, Int.reduceSub, Int.reduceMul, reduceIte, ↓reduceIte, fn64, cx64, Tryd.f64, ti3, ti9, ti46, ti48, ti102, k1, k3, hl, hb, h]

theorem f43 {b1 b2 : Bool} (hK : IsS 3 rows K) (h1 : ∀ bx : List Box, ev cfg (.call 61 [.agg [I op, I n, .dat K], I 1] bx) = some (.ret (B b1) none)) (h2 : ∀ bx : List Box, ev cfg (.call 62 [.agg [I op, I n, .dat K]] bx) = some (.ret (B b2) none)) :
    stepJ (ev cfg) cfg (.call 43 [.agg [I op, I n, .dat K]] bx) = some (.ret (I (if b1 = true then 2 else if b2 = true then 0 else 4)) none) := by
  obtain ⟨w, k1, k2, k3⟩ := hK
  cases b1 <;> cases b2 <;> simp (maxSteps := 2000000) only [go_sem, Nat.reduceSub, Nat.reduceAdd, Nat.reduceMul, Nat.reduceLT, Nat.reduceLeDiff, Nat.reduceBEq, Nat.reduceEqDiff, Nat.reduceGT, Int.reduceToNat, Int.reduceLT, Int.reduceNeg, Int.reduceEq, Int.reduceBEq, Int.reduceBNe, Int.reduceLE, Int.reduceGT, Int.reduceGE, Int.reduceNe, Int.reduceAdd, Int.reduceSub, Int.reduceMul, reduceIte, ↓reduceIte, fn43, cx43, Tryd.f43, ti3, ti46, ti48, k1, k3, h1, h2]
theorem f21_bad {x : Int} (hK : IsS 3 rows K) (hx : (x != 0) = true) (h1 : ∀ bx : List Box, ev cfg (.call 43 [.agg [I op, I n, .dat K]] bx) = some (.ret (I x) none)) :
    stepJ (ev cfg) cfg (.call 21 [.agg [I op, I n, .dat K]] bx) = some (.ret (.tup [I 0, I x]) none) := by
  obtain ⟨w, k1, k2, k3⟩ := hK
  simp (maxSteps := 2000000) only [go_sem, Nat.reduceSub, Nat.reduceAdd, Nat.reduceMul, Nat.reduceLT, Nat.reduceLeDiff, Nat.reduceBEq, Nat.reduceEqDiff, Nat.reduceGT, Int.reduceToNat, Int.reduceLT, Int.reduceNeg, Int.reduceEq, Int.reduceBEq, Int.reduceBNe, Int.reduceLE, Int.reduceGT, Int.reduceGE, Int.reduceNe, Int.reduceAdd, Int.reduceSub, Int.reduceMul, reduceIte, ↓reduceIte, fn21, cx21, Tryd.f21, ti3, ti46, ti48, k1, k3, h1, hx]
theorem f21_ok {y : Int} (hK : IsS 3 rows K) (h1 : ∀ bx : List Box, ev cfg (.call 43 [.agg [I op, I n, .dat K]] bx) = some (.ret (I 0) none)) (h2 : ∀ bx : List Box, ev cfg (.call 44 [.agg [I op, I n, .dat K]] bx) = some (.ret (I y) none)) :
    stepJ (ev cfg) cfg (.call 21 [.agg [I op, I n, .dat K]] bx) = some (.ret (.tup [I y, I (if (y == 0) = true then 30 else 0)]) none) := by
  obtain ⟨w, k1, k2, k3⟩ := hK
  have h0 : ((0 : Int) != 0) = false := rfl
  cases c1 : (y == 0)
  · simp (maxSteps := 2000000) only [go_sem, Nat.reduceSub, Nat.reduceAdd, Nat.reduceMul, Nat.reduceLT, Nat.reduceLeDiff, Nat.reduceBEq, Nat.reduceEqDiff, Nat.reduceGT, Int.reduceToNat, Int.reduceLT, Int.reduceNeg, Int.reduceEq, Int.reduceBEq, Int.reduceBNe, Int.reduceLE, Int.reduceGT, Int.reduceGE, Int.reduceNe, Int.reduceAdd, Int.reduceSub, Int.reduceMul, reduceIte, ↓reduceIte, fn21, cx21, Tryd.f21, ti3, ti46, ti48, k1, k3, h1, h2, h0, c1]
  · have : y = 0 := by simpa using c1
    subst this
    simp (maxSteps := 2000000) only [go_sem, Nat.reduceSub, Nat.reduceAdd, Nat.reduceMul, Nat.reduceLT, Nat.reduceLeDiff, Nat.reduceBEq, Nat.reduceEqDiff, Nat.reduceGT, Int.reduceToNat, Int.reduceLT, Int.reduceNeg, Int.reduceEq, Int.reduceBEq, Int.reduceBNe, Int.reduceLE, Int.reduceGT, Int.reduceGE, Int.reduceNe, Int.reduceAdd, Int.reduceSub, Int.reduceMul, reduceIte, ↓reduceIte, fn21, cx21, Tryd.f21, ti3, ti46, ti48, k1, k3, h1, h2, h0, c1]
end

end Go.Proofs.YtgppmcpbphgnnaaDoor
