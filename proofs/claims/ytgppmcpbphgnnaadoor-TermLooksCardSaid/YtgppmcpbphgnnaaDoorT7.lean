/- The Builder's methods, by what its box holds. No condition. -/
import Derived.Test.YtgppmcpbphgnnaaDoorT1
set_option linter.unusedSimpArgs false
set_option linter.unusedVariables false
set_option linter.unusedSectionVars false
namespace Go.Proofs.YtgppmcpbphgnnaaDoor
open Go Go.Vx
attribute [local congr] seqO_congr iteB_congr
attribute [local go_sem ↓] sO_some sO_none iB_true iB_false
attribute [local go_sem] stepJ sO_some sO_none iB_true iB_false seqO_iteB startSt acode aops aopR wantsR aopX isFnCall aop fetch takeAt moveTup St.val PV.ofValue D.ofCell put isTmp PV.maySrc aBin eqFieldsA eqCell binLit eqKind abool aint aUn thenC inBlockC polOf aConv retOf aress ares okRes okAl Vx.dstsOf stays outOf tupOf PV.noPtr PV.isDat PV.isOwn PV.strip aLoad frz0 frz1 frz2 frz3 frz4 frz5 frz6 frz7 frz8 frz9 frz10 frz11 frz12 freezeC PV.frz PV.frozen aStore aStore0 homeStore PV.isHome hookOf runHook ownPlace aConv0 aConvP eqRes aAppendR aAppendS builtin_sd builtin_us aSliceData aUnsafeString aSliceP zeros Vx.keyOf ksz sr_append sr_len Vx.stored undef cl_tnil cl_home cl_siter aFieldAddr aIndexAddr addOff rowPtr rd_eq rdV rdPV_dat rdPV_own rdI_nil rdI_sl oneC_lit oneC_nil oneC_sl Rd.rows Rd.fits cut setCells isCell_dat isCell_own isCell_ptr isCell_iptr isCell_clo cells_dat cells_own cells_ptr cells_iptr cells_clo cells_agg toD_dat toDs aBuild canBuild aRows fetchs fetchN fetchNs aSlice aAppend builtin_len lenV builtin_append builtin_max builtin_min maxV minV ptrBox ptrBoxes prep prepN fin noAlias aopN aopNX aopNR anseg asegs segFree segsOf atHead atExit loopCode loopAt gc refLt cl_dat cl_own cl_ptr cl_clo cl_iptr cl_dead cl_alias cl_eptr ridOf keepAt St.at St.mark touch TK.isAgg Value.oneCell' iteB_not wl_0 wl_1 wl_2 wl_3 wl_4 wl_5 wl_6 wl_7 wl_8 wl_9 wl_10 wl_11 wl_12 wl_13 wl_14 wl_15 wl_16 wl_17 wl_18 wl_19 wl_20 wl_21 wl_22 wl_23 wl_24 wl_25 wl_26 wl_27 wl_28 wl_29 wl_30 beq_true' beq_false' app_get app_get0 app_set app_set0 app_take app_takek app_drop set_old get_old get_set take_set take_set0 take_setk drop_set get_setn get_setn0 set_setn set_setn0 lt_addk List.set_set List.getElem?_toArray List.size_toArray Array.size_empty lt_irr add_lt_irr lt_add add_lt_add le_add add_sub List.getD_cons_zero List.getD_cons_succ List.set_cons_zero List.set_cons_succ List.replicate List.length_cons List.length_nil List.length_set List.cons_append List.nil_append List.append_nil List.append_assoc List.map_cons List.map_nil List.all_cons List.all_nil List.any_cons List.any_nil List.take_succ_cons List.take_zero List.take_nil List.drop_succ_cons List.drop_zero List.drop_nil List.zip_cons_cons List.zip_nil_left List.zip_nil_right List.find? List.contains List.elem List.getElem?_cons_zero List.getElem?_cons_succ List.getElem?_nil List.length_append List.length_map List.isEmpty Option.getD_none Option.getD_some Option.map_none Option.map_some Option.bind_some Option.bind_none Option.isSome_none Option.isSome_some Nat.min_self Nat.add_zero Nat.zero_add Nat.add_assoc ne_eq not_false_eq_true not_true_eq_false BEq.rfl beq_self_eq_true if_true if_false Bool.false_eq_true Bool.and_true Bool.true_and Bool.and_false Bool.false_and Bool.or_true Bool.or_false Bool.true_or Bool.false_or Bool.not_false Bool.not_true Bool.not_not Bool.and_self and_self and_true true_and and_false false_and or_self or_false false_or or_true true_or decide_true decide_false
attribute [local go_sem] hookC byteTC bytePC homeC ptrTC unsPC unsToC cmpC
set_option maxHeartbeats 4000000
set_option maxRecDepth 10000

/-- a Builder's box -/
def bldB (u : Bool) (b : ByteArray) : Box := if u = true then [.home, .own true 0 (strRows b)] else [.tnil 85, .dat .nil]

theorem strRows_byte (n : Nat) (h : n < 256) : ([[.lit (.int .u8 (n : Int))]] : List (List D)) = strRows ⟨#[UInt8.ofNat n]⟩ := by
  simp [strRows, UInt8.toNat_ofNat', Nat.mod_eq_of_lt h]

section
variable {bx : List Box} {c : Box} {l : Nat} {b : ByteArray}

theorem f85_new (hl : l < bx.length) (hb : bx[l]? = some [.tnil 85, .dat .nil]) :
    stepJ (ev cfg) cfg (.call 85 [.ptr l 0] bx) = some (.ret (.tup []) (some ⟨bx.set l [.home, .dat .nil], l, false⟩)) := by
  simp (maxSteps := 2000000) only [go_sem, Nat.reduceSub, Nat.reduceAdd, Nat.reduceMul, Nat.reduceLT, Nat.reduceLeDiff, Nat.reduceBEq, Nat.reduceEqDiff, Nat.reduceGT, Int.reduceToNat, Int.reduceLT, Int.reduceNeg, Int.reduceEq, Int.reduceBEq, Int.reduceBNe, Int.reduceLE, Int.reduceGT, Int.reduceGE, Int.reduceNe, Int.reduceAdd, Int.reduceSub, Int.reduceMul, reduceIte, ↓reduceIte, fn85, cx85, Tryd.f85, ti5, ti82, ti83, ti85, hl, hb]
theorem f85_old {x : PV} (hl : l < bx.length) (hb : bx[l]? = some [.home, x]) :
    stepJ (ev cfg) cfg (.call 85 [.ptr l 0] bx) = some (.ret (.tup []) none) := by
  simp (maxSteps := 2000000) only [go_sem, Nat.reduceSub, Nat.reduceAdd, Nat.reduceMul, Nat.reduceLT, Nat.reduceLeDiff, Nat.reduceBEq, Nat.reduceEqDiff, Nat.reduceGT, Int.reduceToNat, Int.reduceLT, Int.reduceNeg, Int.reduceEq, Int.reduceBEq, Int.reduceBNe, Int.reduceLE, Int.reduceGT, Int.reduceGE, Int.reduceNe, Int.reduceAdd, Int.reduceSub, Int.reduceMul, reduceIte, ↓reduceIte, fn85, cx85, Tryd.f85, ti5, ti82, ti83, ti85, hl, hb]

theorem f67_new {s : ByteArray} {r : List D} {rs : List (List D)} (hl : l < bx.length) (hb : bx[l]? = some [.tnil 85, .dat .nil]) (h0 : strRows s = r :: rs) (hs : s.size * 1 ≤ 140737488355328)
    (h85 : ev cfg (.call 85 [.ptr l 0] bx) = some (.ret (.tup []) (some ⟨bx.set l [.home, .dat .nil], l, false⟩))) :
    stepJ (ev cfg) cfg (.call 67 [.ptr l 0, S s] bx) = some (.ret (.tup [I s.size, .dat (.lit .nilIface)]) (some ⟨bx.set l [.home, .own true 0 (strRows s)], l, false⟩)) := by
  simp (maxSteps := 2000000) only [go_sem, Nat.reduceSub, Nat.reduceAdd, Nat.reduceMul, Nat.reduceLT, Nat.reduceLeDiff, Nat.reduceBEq, Nat.reduceEqDiff, Nat.reduceGT, Int.reduceToNat, Int.reduceLT, Int.reduceNeg, Int.reduceEq, Int.reduceBEq, Int.reduceBNe, Int.reduceLE, Int.reduceGT, Int.reduceGE, Int.reduceNe, Int.reduceAdd, Int.reduceSub, Int.reduceMul, reduceIte, ↓reduceIte, fn67, cx67, Tryd.f67, ti5, ti9, ti82, ti83, ti85, hl, hb, h85, hs, h0]
theorem f67_old {s : ByteArray} (hl : l < bx.length) (hb : bx[l]? = some [.home, .own true 0 (strRows b)]) (hs : (b.size + s.size) * 1 ≤ 140737488355328)
    (h85 : ev cfg (.call 85 [.ptr l 0] bx) = some (.ret (.tup []) none)) :
    stepJ (ev cfg) cfg (.call 67 [.ptr l 0, S s] bx) = some (.ret (.tup [I s.size, .dat (.lit .nilIface)]) (some ⟨bx.set l [.home, .own true 0 (strRows (b ++ s))], l, false⟩)) := by
  simp (maxSteps := 2000000) only [go_sem, Nat.reduceSub, Nat.reduceAdd, Nat.reduceMul, Nat.reduceLT, Nat.reduceLeDiff, Nat.reduceBEq, Nat.reduceEqDiff, Nat.reduceGT, Int.reduceToNat, Int.reduceLT, Int.reduceNeg, Int.reduceEq, Int.reduceBEq, Int.reduceBNe, Int.reduceLE, Int.reduceGT, Int.reduceGE, Int.reduceNe, Int.reduceAdd, Int.reduceSub, Int.reduceMul, reduceIte, ↓reduceIte, fn67, cx67, Tryd.f67, ti5, ti9, ti82, ti83, ti85, hl, hb, h85, hs]
theorem f69_old {n : Nat} (hn : ([[.lit (.int .u8 (n : Int))]] : List (List D)) = strRows ⟨#[UInt8.ofNat n]⟩) (hl : l < bx.length) (hb : bx[l]? = some [.home, .own true 0 (strRows b)]) (hs : (b.size + (⟨#[UInt8.ofNat n]⟩ : ByteArray).size) * 1 ≤ 140737488355328)
    (h85 : ev cfg (.call 85 [.ptr l 0] bx) = some (.ret (.tup []) none)) :
    stepJ (ev cfg) cfg (.call 69 [.ptr l 0, .dat (.lit (.int .u8 (n : Int)))] bx) = some (.ret (.dat (.lit .nilIface)) (some ⟨bx.set l [.home, .own true 0 (strRows (b ++ ⟨#[UInt8.ofNat n]⟩))], l, false⟩)) := by
  simp (maxSteps := 2000000) only [go_sem, Nat.reduceSub, Nat.reduceAdd, Nat.reduceMul, Nat.reduceLT, Nat.reduceLeDiff, Nat.reduceBEq, Nat.reduceEqDiff, Nat.reduceGT, Int.reduceToNat, Int.reduceLT, Int.reduceNeg, Int.reduceEq, Int.reduceBEq, Int.reduceBNe, Int.reduceLE, Int.reduceGT, Int.reduceGE, Int.reduceNe, Int.reduceAdd, Int.reduceSub, Int.reduceMul, reduceIte, ↓reduceIte, fn69, cx69, Tryd.f69, ti5, ti82, ti83, ti85, hl, hb, h85, hs, hn]
theorem f49_own (hb : bx[l]? = some [.home, .own true 0 (strRows b)]) : stepJ (ev cfg) cfg (.call 49 [.ptr l 0] bx) = some (.ret (I b.size) none) := by
  simp (maxSteps := 2000000) only [go_sem, Nat.reduceSub, Nat.reduceAdd, Nat.reduceMul, Nat.reduceLT, Nat.reduceLeDiff, Nat.reduceBEq, Nat.reduceEqDiff, Nat.reduceGT, Int.reduceToNat, Int.reduceLT, Int.reduceNeg, Int.reduceEq, Int.reduceBEq, Int.reduceBNe, Int.reduceLE, Int.reduceGT, Int.reduceGE, Int.reduceNe, Int.reduceAdd, Int.reduceSub, Int.reduceMul, reduceIte, ↓reduceIte, fn49, cx49, Tryd.f49, ti5, ti82, ti83, ti85, hb]
theorem f50_own (hl : l < bx.length) (hb : bx[l]? = some [.home, .own true 0 (strRows b)]) (h0 : hasRows (strRows b) = true) : stepJ (ev cfg) cfg (.call 50 [.ptr l 0] bx) = some (.ret (S b) (some ⟨bx.set l [.home, .dead], l, false⟩)) := by
  simp (maxSteps := 2000000) only [go_sem, Nat.reduceSub, Nat.reduceAdd, Nat.reduceMul, Nat.reduceLT, Nat.reduceLeDiff, Nat.reduceBEq, Nat.reduceEqDiff, Nat.reduceGT, Int.reduceToNat, Int.reduceLT, Int.reduceNeg, Int.reduceEq, Int.reduceBEq, Int.reduceBNe, Int.reduceLE, Int.reduceGT, Int.reduceGE, Int.reduceNe, Int.reduceAdd, Int.reduceSub, Int.reduceMul, reduceIte, ↓reduceIte, fn50, cx50, Tryd.f50, ti3, ti5, ti82, ti83, ti85, ti110, hl, hb, h0, rb_sr, sr_back]
end

end Go.Proofs.YtgppmcpbphgnnaaDoor
