/- An office's methods, step by step: open, close, put, take. No condition. -/
import Derived.Test.YtgppmcpbphgnnaaP1
set_option linter.unusedSimpArgs false
set_option linter.unusedVariables false
set_option linter.unusedSectionVars false
namespace Go.Proofs.Ytgppmcpbphgnnaa
open Go Go.Vx
attribute [local congr] seqO_congr iteB_congr
attribute [local go_sem ↓] sO_some sO_none iB_true iB_false
attribute [local go_sem] stepJ sO_some sO_none iB_true iB_false seqO_iteB startSt acode aops aopR wantsR aopX isFnCall aop fetch takeAt moveTup St.val PV.ofValue D.ofCell put isTmp PV.maySrc aBin eqFieldsA eqCell binLit eqKind abool aint aUn thenC inBlockC polOf aConv retOf aress ares okRes okAl Vx.dstsOf stays outOf tupOf PV.noPtr PV.isDat PV.isOwn PV.strip aLoad frz0 frz1 frz2 frz3 frz4 frz5 frz6 frz7 frz8 frz9 frz10 frz11 frz12 freezeC PV.frz PV.frozen aStore aStore0 homeStore PV.isHome hookOf runHook ownPlace aConv0 aConvP eqRes aAppendR aAppendS builtin_sd builtin_us aSliceData aUnsafeString aSliceP zeros Vx.keyOf ksz sr_append sr_len Vx.stored undef cl_tnil cl_home cl_siter cl_mp Nat.le_refl Nat.sub_self List.take_length List.drop_length mapOf runMap int64 mapPlace lookRes aggDs mapBox isNilP eqCellsA List.range' amix aopE outE applyE nOk loadBox stab stabL mixOf mixIn noCellAl eq_self aFieldAddr aIndexAddr addOff rowPtr rd_eq rdV rdPV_dat rdPV_own rdI_nil rdI_sl oneC_lit oneC_nil oneC_sl Rd.rows Rd.fits cut setCells isCell_dat isCell_own isCell_ptr isCell_iptr isCell_clo cells_dat cells_own cells_ptr cells_iptr cells_clo cells_agg toD_dat toDs aBuild canBuild aRows fetchs fetchN fetchNs aSlice aAppend builtin_len lenV builtin_append builtin_max builtin_min maxV minV ptrBox ptrBoxes prep prepN fin noAlias aopN aopNX aopNR anseg asegs segFree segsOf atHead atExit loopCode loopAt gc refLt cl_dat cl_own cl_ptr cl_clo cl_iptr cl_dead cl_alias cl_eptr ridOf keepAt St.at St.mark touch TK.isAgg Value.oneCell' iteB_not wl_0 wl_1 wl_2 wl_3 wl_4 wl_5 wl_6 wl_7 wl_8 wl_9 wl_10 wl_11 wl_12 wl_13 wl_14 wl_15 wl_16 wl_17 wl_18 wl_19 wl_20 wl_21 wl_22 wl_23 wl_24 wl_25 wl_26 wl_27 wl_28 wl_29 wl_30 beq_true' beq_false' app_get app_get0 app_set app_set0 app_take app_takek app_drop set_old get_old get_set take_set take_set0 take_setk drop_set get_setn get_setn0 set_setn set_setn0 lt_addk List.set_set List.getElem?_toArray List.size_toArray Array.size_empty lt_irr add_lt_irr lt_add add_lt_add le_add add_sub List.getD_cons_zero List.getD_cons_succ List.set_cons_zero List.set_cons_succ List.replicate List.length_cons List.length_nil List.length_set List.cons_append List.nil_append List.append_nil List.append_assoc List.map_cons List.map_nil List.all_cons List.all_nil List.any_cons List.any_nil List.take_succ_cons List.take_zero List.take_nil List.drop_succ_cons List.drop_zero List.drop_nil List.zip_cons_cons List.zip_nil_left List.zip_nil_right List.find? List.contains List.elem List.getElem?_cons_zero List.getElem?_cons_succ List.getElem?_nil List.length_append List.length_map List.isEmpty Option.getD_none Option.getD_some Option.map_none Option.map_some Option.bind_some Option.bind_none Option.isSome_none Option.isSome_some Nat.min_self Nat.add_zero Nat.zero_add Nat.add_assoc ne_eq not_false_eq_true not_true_eq_false BEq.rfl beq_self_eq_true if_true if_false Bool.false_eq_true Bool.and_true Bool.true_and Bool.and_false Bool.false_and Bool.or_true Bool.or_false Bool.true_or Bool.false_or Bool.not_false Bool.not_true Bool.not_not Bool.and_self and_self and_true true_and and_false false_and or_self or_false false_or or_true true_or decide_true decide_false
attribute [local go_sem] hookC byteTC bytePC homeC ptrTC unsPC unsToC cmpC cmpAC mapTC
set_option maxHeartbeats 4000000
set_option maxRecDepth 10000

/-- what a method has done to an office -/
def oO (bx : List Box) (lo : Nat) : Option Bxs → Option Eff
  | none => none
  | some l => some ⟨bx.set lo (OB l), lo, false⟩

def openR (l : Bxs) (k : Int) : Int × Option Bxs :=
  if (decide (k < 0) || decide (k > 999)) = true then (1, none) else if (get l k).isSome = true then (8, none) else if ((l.length : Int) == 8) = true then (5, none) else (0, some (put4 l k (0, 0, 0, 0)))
def closeR (l : Bxs) (k : Int) : Int × Option Bxs := if (get l k).isSome = true then (0, some (del l k)) else (6, none)
def wrongPut (n : Int) : Int := if decide (n ≥ 3) = true then 5 else 0
def wrongTake (n : Int) : Int := if (n == 0) = true then 6 else 0
def changeR (l : Bxs) (k m by' : Int) (wr : Int → Int) : Int × Option Bxs :=
  if (decide (m < 0) || decide (m ≥ 4)) = true then (1, none) else match get l k with
    | none => (6, none)
    | some n => if (wr (nat4 n m) != 0) = true then (wr (nat4 n m), none) else (0, some (put4 l k (set4 n m (IntKind.wrap .i64 (nat4 n m + by')))))

section
variable {bx : List Box} {lo : Nat} {l : Bxs} {k m by' : Int} {n : N4} {g : FuncId}

theorem f16 (hl : lo < bx.length) (hb : bx[lo]? = some (OB l)) :
    stepJ (ev cfg) cfg (.call 16 [.ptr lo 0, I k] bx) = some (.ret (I (openR l k).1) (oO bx lo (openR l k).2)) := by
  unfold openR
  cases c1 : decide (k < 0) with
  | true => simp only [Bool.true_or, if_true, oO]; simp (maxSteps := 2000000) only [go_sem, Nat.reduceSub, Nat.reduceAdd, Nat.reduceMul, Nat.reduceLT, Nat.reduceLeDiff, Nat.reduceBEq, Nat.reduceEqDiff, Nat.reduceGT, Int.reduceToNat, Int.reduceLT, Int.reduceNeg, Int.reduceEq, Int.reduceBEq, Int.reduceBNe, Int.reduceLE, Int.reduceGT, Int.reduceGE, Int.reduceNe, Int.reduceAdd, Int.reduceSub, Int.reduceMul, reduceIte, ↓reduceIte, fn16, cx16, Try.f16, ti3, ti33, ti49, ti51, hl, hb, c1]
  | false =>
    cases c2 : decide (k > 999) with
    | true => simp only [Bool.or_true, if_true, oO]; simp (maxSteps := 2000000) only [go_sem, Nat.reduceSub, Nat.reduceAdd, Nat.reduceMul, Nat.reduceLT, Nat.reduceLeDiff, Nat.reduceBEq, Nat.reduceEqDiff, Nat.reduceGT, Int.reduceToNat, Int.reduceLT, Int.reduceNeg, Int.reduceEq, Int.reduceBEq, Int.reduceBNe, Int.reduceLE, Int.reduceGT, Int.reduceGE, Int.reduceNe, Int.reduceAdd, Int.reduceSub, Int.reduceMul, reduceIte, ↓reduceIte, fn16, cx16, Try.f16, ti3, ti33, ti49, ti51, hl, hb, c1, c2]
    | false =>
      simp only [Bool.or_false, Bool.false_eq_true, if_false]
      cases hg : get l k with
      | some n =>
        have h1 : mapGet k (ents l) = some (row n) := by rw [get_ents, hg]; rfl
        simp only [Option.isSome_some, if_true, oO]; simp (maxSteps := 2000000) only [go_sem, Nat.reduceSub, Nat.reduceAdd, Nat.reduceMul, Nat.reduceLT, Nat.reduceLeDiff, Nat.reduceBEq, Nat.reduceEqDiff, Nat.reduceGT, Int.reduceToNat, Int.reduceLT, Int.reduceNeg, Int.reduceEq, Int.reduceBEq, Int.reduceBNe, Int.reduceLE, Int.reduceGT, Int.reduceGE, Int.reduceNe, Int.reduceAdd, Int.reduceSub, Int.reduceMul, reduceIte, ↓reduceIte, fn16, cx16, Try.f16, ti3, ti33, ti49, ti51, hl, hb, c1, c2, h1, row]
      | none =>
        have h1 : mapGet k (ents l) = none := by rw [get_ents, hg]; rfl
        have h2 : mapPut k [dI 0, dI 0, dI 0, dI 0] (ents l) = ents (put4 l k (0, 0, 0, 0)) := put_ents k (0, 0, 0, 0) l
        simp only [Option.isSome_none, Bool.false_eq_true, if_false]
        cases c3 : ((l.length : Int) == 8) with
        | true => simp only [if_true, oO]; simp (maxSteps := 2000000) only [go_sem, Nat.reduceSub, Nat.reduceAdd, Nat.reduceMul, Nat.reduceLT, Nat.reduceLeDiff, Nat.reduceBEq, Nat.reduceEqDiff, Nat.reduceGT, Int.reduceToNat, Int.reduceLT, Int.reduceNeg, Int.reduceEq, Int.reduceBEq, Int.reduceBNe, Int.reduceLE, Int.reduceGT, Int.reduceGE, Int.reduceNe, Int.reduceAdd, Int.reduceSub, Int.reduceMul, reduceIte, ↓reduceIte, fn16, cx16, Try.f16, ti3, ti33, ti49, ti51, hl, hb, c1, c2, h1, ents_len, c3]
        | false => simp only [Bool.false_eq_true, if_false, oO]; simp (maxSteps := 2000000) only [go_sem, Nat.reduceSub, Nat.reduceAdd, Nat.reduceMul, Nat.reduceLT, Nat.reduceLeDiff, Nat.reduceBEq, Nat.reduceEqDiff, Nat.reduceGT, Int.reduceToNat, Int.reduceLT, Int.reduceNeg, Int.reduceEq, Int.reduceBEq, Int.reduceBNe, Int.reduceLE, Int.reduceGT, Int.reduceGE, Int.reduceNe, Int.reduceAdd, Int.reduceSub, Int.reduceMul, reduceIte, ↓reduceIte, fn16, cx16, Try.f16, ti3, ti33, ti49, ti51, hl, hb, c1, c2, h1, h2, ents_len, c3]

theorem f19 (hl : lo < bx.length) (hb : bx[lo]? = some (OB l)) :
    stepJ (ev cfg) cfg (.call 19 [.ptr lo 0, I k] bx) = some (.ret (I (closeR l k).1) (oO bx lo (closeR l k).2)) := by
  unfold closeR
  cases hg : get l k with
  | some n =>
    have h1 : mapGet k (ents l) = some (row n) := by rw [get_ents, hg]; rfl
    simp only [Option.isSome_some, if_true, oO]; simp (maxSteps := 2000000) only [go_sem, Nat.reduceSub, Nat.reduceAdd, Nat.reduceMul, Nat.reduceLT, Nat.reduceLeDiff, Nat.reduceBEq, Nat.reduceEqDiff, Nat.reduceGT, Int.reduceToNat, Int.reduceLT, Int.reduceNeg, Int.reduceEq, Int.reduceBEq, Int.reduceBNe, Int.reduceLE, Int.reduceGT, Int.reduceGE, Int.reduceNe, Int.reduceAdd, Int.reduceSub, Int.reduceMul, reduceIte, ↓reduceIte, fn19, cx19, Try.f19, ti3, ti33, ti49, ti51, hl, hb, h1, del_ents, row]
  | none =>
    have h1 : mapGet k (ents l) = none := by rw [get_ents, hg]; rfl
    simp only [Option.isSome_none, Bool.false_eq_true, if_false, oO]; simp (maxSteps := 2000000) only [go_sem, Nat.reduceSub, Nat.reduceAdd, Nat.reduceMul, Nat.reduceLT, Nat.reduceLeDiff, Nat.reduceBEq, Nat.reduceEqDiff, Nat.reduceGT, Int.reduceToNat, Int.reduceLT, Int.reduceNeg, Int.reduceEq, Int.reduceBEq, Int.reduceBNe, Int.reduceLE, Int.reduceGT, Int.reduceGE, Int.reduceNe, Int.reduceAdd, Int.reduceSub, Int.reduceMul, reduceIte, ↓reduceIte, fn19, cx19, Try.f19, ti3, ti33, ti49, ti51, hl, hb, h1]

theorem f28 {n : Int} : stepJ (ev cfg) cfg (.call 28 [I n] bx) = some (.ret (I (wrongPut n)) none) := by
  unfold wrongPut
  cases c : decide (n ≥ 3) <;> simp only [if_true, Bool.false_eq_true, if_false] <;> simp (maxSteps := 2000000) only [go_sem, Nat.reduceSub, Nat.reduceAdd, Nat.reduceMul, Nat.reduceLT, Nat.reduceLeDiff, Nat.reduceBEq, Nat.reduceEqDiff, Nat.reduceGT, Int.reduceToNat, Int.reduceLT, Int.reduceNeg, Int.reduceEq, Int.reduceBEq, Int.reduceBNe, Int.reduceLE, Int.reduceGT, Int.reduceGE, Int.reduceNe, Int.reduceAdd, Int.reduceSub, Int.reduceMul, reduceIte, ↓reduceIte, fn28, cx28, Try.f28, c]
theorem f29 {n : Int} : stepJ (ev cfg) cfg (.call 29 [I n] bx) = some (.ret (I (wrongTake n)) none) := by
  unfold wrongTake
  cases c : (n == 0) <;> simp only [if_true, Bool.false_eq_true, if_false] <;> simp (maxSteps := 2000000) only [go_sem, Nat.reduceSub, Nat.reduceAdd, Nat.reduceMul, Nat.reduceLT, Nat.reduceLeDiff, Nat.reduceBEq, Nat.reduceEqDiff, Nat.reduceGT, Int.reduceToNat, Int.reduceLT, Int.reduceNeg, Int.reduceEq, Int.reduceBEq, Int.reduceBNe, Int.reduceLE, Int.reduceGT, Int.reduceGE, Int.reduceNe, Int.reduceAdd, Int.reduceSub, Int.reduceMul, reduceIte, ↓reduceIte, fn29, cx29, Try.f29, c]

theorem set4_0 (n : N4) (v : Int) : row (set4 n 0 v) = [dI v, dI n.2.1, dI n.2.2.1, dI n.2.2.2] := rfl
theorem set4_1 (n : N4) (v : Int) : row (set4 n 1 v) = [dI n.1, dI v, dI n.2.2.1, dI n.2.2.2] := rfl
theorem set4_2 (n : N4) (v : Int) : row (set4 n 2 v) = [dI n.1, dI n.2.1, dI v, dI n.2.2.2] := rfl
theorem set4_3 (n : N4) (v : Int) : row (set4 n 3 v) = [dI n.1, dI n.2.1, dI n.2.2.1, dI v] := rfl
theorem four (h : (decide (m < 0) || decide (m ≥ 4)) = false) : m = 0 ∨ m = 1 ∨ m = 2 ∨ m = 3 := by
  simp only [Bool.or_eq_false_iff, decide_eq_false_iff_not] at h
  omega

theorem f27 {wr : Int → Int} (hl : lo < bx.length) (hb : bx[lo]? = some (OB l)) (hcall : ∀ (n : Int) (bx : List Box), ev cfg (.call g [I n] bx) = some (.ret (I (wr n)) none)) :
    stepJ (ev cfg) cfg (.call 27 [.ptr lo 0, I k, I m, I by', .clo g []] bx) = some (.ret (I (changeR l k m by' wr).1) (oO bx lo (changeR l k m by' wr).2)) := by
  unfold changeR
  cases c1 : decide (m < 0) with
  | true => simp only [Bool.true_or, if_true, oO]; simp (maxSteps := 2000000) only [go_sem, Nat.reduceSub, Nat.reduceAdd, Nat.reduceMul, Nat.reduceLT, Nat.reduceLeDiff, Nat.reduceBEq, Nat.reduceEqDiff, Nat.reduceGT, Int.reduceToNat, Int.reduceLT, Int.reduceNeg, Int.reduceEq, Int.reduceBEq, Int.reduceBNe, Int.reduceLE, Int.reduceGT, Int.reduceGE, Int.reduceNe, Int.reduceAdd, Int.reduceSub, Int.reduceMul, reduceIte, ↓reduceIte, fn27, cx27, Try.f27, ti3, ti33, ti49, ti51, hl, hb, c1]
  | false =>
    cases c2 : decide (m ≥ 4) with
    | true => simp only [Bool.or_true, if_true, oO]; simp (maxSteps := 2000000) only [go_sem, Nat.reduceSub, Nat.reduceAdd, Nat.reduceMul, Nat.reduceLT, Nat.reduceLeDiff, Nat.reduceBEq, Nat.reduceEqDiff, Nat.reduceGT, Int.reduceToNat, Int.reduceLT, Int.reduceNeg, Int.reduceEq, Int.reduceBEq, Int.reduceBNe, Int.reduceLE, Int.reduceGT, Int.reduceGE, Int.reduceNe, Int.reduceAdd, Int.reduceSub, Int.reduceMul, reduceIte, ↓reduceIte, fn27, cx27, Try.f27, ti3, ti33, ti49, ti51, hl, hb, c1, c2]
    | false =>
      simp only [Bool.or_false, Bool.false_eq_true, if_false]
      cases hg : get l k with
      | none =>
        have h1 : mapGet k (ents l) = none := by rw [get_ents, hg]; rfl
        simp only [oO]; simp (maxSteps := 2000000) only [go_sem, Nat.reduceSub, Nat.reduceAdd, Nat.reduceMul, Nat.reduceLT, Nat.reduceLeDiff, Nat.reduceBEq, Nat.reduceEqDiff, Nat.reduceGT, Int.reduceToNat, Int.reduceLT, Int.reduceNeg, Int.reduceEq, Int.reduceBEq, Int.reduceBNe, Int.reduceLE, Int.reduceGT, Int.reduceGE, Int.reduceNe, Int.reduceAdd, Int.reduceSub, Int.reduceMul, reduceIte, ↓reduceIte, fn27, cx27, Try.f27, ti3, ti33, ti49, ti51, hl, hb, c1, c2, h1]
      | some n =>
        have h1 : mapGet k (ents l) = some [dI n.1, dI n.2.1, dI n.2.2.1, dI n.2.2.2] := by rw [get_ents, hg]; rfl
        simp only
        cases c3 : (wr (nat4 n m) != 0) with
        | true =>
          simp only [if_true, oO]
          obtain rfl | rfl | rfl | rfl := four (m := m) (by rw [c1, c2]; rfl) <;> (simp only [nat4, if_true, if_false, Int.reduceEq] at c3 ⊢; simp (maxSteps := 2000000) only [go_sem, Nat.reduceSub, Nat.reduceAdd, Nat.reduceMul, Nat.reduceLT, Nat.reduceLeDiff, Nat.reduceBEq, Nat.reduceEqDiff, Nat.reduceGT, Int.reduceToNat, Int.reduceLT, Int.reduceNeg, Int.reduceEq, Int.reduceBEq, Int.reduceBNe, Int.reduceLE, Int.reduceGT, Int.reduceGE, Int.reduceNe, Int.reduceAdd, Int.reduceSub, Int.reduceMul, reduceIte, ↓reduceIte, fn27, cx27, Try.f27, ti3, ti33, ti49, ti51, hl, hb, h1, hcall, c3])
        | false =>
          simp only [Bool.false_eq_true, if_false, oO]
          have h2 : ∀ v : N4, mapPut k (row v) (ents l) = ents (put4 l k v) := fun v => put_ents k v l
          obtain rfl | rfl | rfl | rfl := four (m := m) (by rw [c1, c2]; rfl)
          · have h3 := h2 (set4 n 0 (IntKind.wrap .i64 (nat4 n 0 + by')))
            rw [set4_0] at h3
            simp only [nat4, if_true, if_false, Int.reduceEq] at c3 h3 ⊢; simp (maxSteps := 2000000) only [go_sem, Nat.reduceSub, Nat.reduceAdd, Nat.reduceMul, Nat.reduceLT, Nat.reduceLeDiff, Nat.reduceBEq, Nat.reduceEqDiff, Nat.reduceGT, Int.reduceToNat, Int.reduceLT, Int.reduceNeg, Int.reduceEq, Int.reduceBEq, Int.reduceBNe, Int.reduceLE, Int.reduceGT, Int.reduceGE, Int.reduceNe, Int.reduceAdd, Int.reduceSub, Int.reduceMul, reduceIte, ↓reduceIte, fn27, cx27, Try.f27, ti3, ti33, ti49, ti51, hl, hb, h1, hcall, c3, h3]
          · have h3 := h2 (set4 n 1 (IntKind.wrap .i64 (nat4 n 1 + by')))
            rw [set4_1] at h3
            simp only [nat4, if_true, if_false, Int.reduceEq] at c3 h3 ⊢; simp (maxSteps := 2000000) only [go_sem, Nat.reduceSub, Nat.reduceAdd, Nat.reduceMul, Nat.reduceLT, Nat.reduceLeDiff, Nat.reduceBEq, Nat.reduceEqDiff, Nat.reduceGT, Int.reduceToNat, Int.reduceLT, Int.reduceNeg, Int.reduceEq, Int.reduceBEq, Int.reduceBNe, Int.reduceLE, Int.reduceGT, Int.reduceGE, Int.reduceNe, Int.reduceAdd, Int.reduceSub, Int.reduceMul, reduceIte, ↓reduceIte, fn27, cx27, Try.f27, ti3, ti33, ti49, ti51, hl, hb, h1, hcall, c3, h3]
          · have h3 := h2 (set4 n 2 (IntKind.wrap .i64 (nat4 n 2 + by')))
            rw [set4_2] at h3
            simp only [nat4, if_true, if_false, Int.reduceEq] at c3 h3 ⊢; simp (maxSteps := 2000000) only [go_sem, Nat.reduceSub, Nat.reduceAdd, Nat.reduceMul, Nat.reduceLT, Nat.reduceLeDiff, Nat.reduceBEq, Nat.reduceEqDiff, Nat.reduceGT, Int.reduceToNat, Int.reduceLT, Int.reduceNeg, Int.reduceEq, Int.reduceBEq, Int.reduceBNe, Int.reduceLE, Int.reduceGT, Int.reduceGE, Int.reduceNe, Int.reduceAdd, Int.reduceSub, Int.reduceMul, reduceIte, ↓reduceIte, fn27, cx27, Try.f27, ti3, ti33, ti49, ti51, hl, hb, h1, hcall, c3, h3]
          · have h3 := h2 (set4 n 3 (IntKind.wrap .i64 (nat4 n 3 + by')))
            rw [set4_3] at h3
            simp only [nat4, if_true, if_false, Int.reduceEq] at c3 h3 ⊢; simp (maxSteps := 2000000) only [go_sem, Nat.reduceSub, Nat.reduceAdd, Nat.reduceMul, Nat.reduceLT, Nat.reduceLeDiff, Nat.reduceBEq, Nat.reduceEqDiff, Nat.reduceGT, Int.reduceToNat, Int.reduceLT, Int.reduceNeg, Int.reduceEq, Int.reduceBEq, Int.reduceBNe, Int.reduceLE, Int.reduceGT, Int.reduceGE, Int.reduceNe, Int.reduceAdd, Int.reduceSub, Int.reduceMul, reduceIte, ↓reduceIte, fn27, cx27, Try.f27, ti3, ti33, ti49, ti51, hl, hb, h1, hcall, c3, h3]

theorem f17 {e : Int} {o : Option Bxs} (hl : lo < bx.length) (h : ev cfg (.call 27 [.ptr lo 0, I k, I m, I 1, .clo 28 []] bx) = some (.ret (I e) (oO bx lo o))) :
    stepJ (ev cfg) cfg (.call 17 [.ptr lo 0, I k, I m] bx) = some (.ret (I e) (oO bx lo o)) := by
  have h' := h
  cases o <;> simp only [oO] at h' ⊢ <;> simp (maxSteps := 2000000) only [go_sem, Nat.reduceSub, Nat.reduceAdd, Nat.reduceMul, Nat.reduceLT, Nat.reduceLeDiff, Nat.reduceBEq, Nat.reduceEqDiff, Nat.reduceGT, Int.reduceToNat, Int.reduceLT, Int.reduceNeg, Int.reduceEq, Int.reduceBEq, Int.reduceBNe, Int.reduceLE, Int.reduceGT, Int.reduceGE, Int.reduceNe, Int.reduceAdd, Int.reduceSub, Int.reduceMul, reduceIte, ↓reduceIte, fn17, cx17, Try.f17, h', hl]
theorem f18 {e : Int} {o : Option Bxs} (hl : lo < bx.length) (h : ev cfg (.call 27 [.ptr lo 0, I k, I m, I (-1), .clo 29 []] bx) = some (.ret (I e) (oO bx lo o))) :
    stepJ (ev cfg) cfg (.call 18 [.ptr lo 0, I k, I m] bx) = some (.ret (I e) (oO bx lo o)) := by
  have h' := h
  cases o <;> simp only [oO] at h' ⊢ <;> simp (maxSteps := 2000000) only [go_sem, Nat.reduceSub, Nat.reduceAdd, Nat.reduceMul, Nat.reduceLT, Nat.reduceLeDiff, Nat.reduceBEq, Nat.reduceEqDiff, Nat.reduceGT, Int.reduceToNat, Int.reduceLT, Int.reduceNeg, Int.reduceEq, Int.reduceBEq, Int.reduceBNe, Int.reduceLE, Int.reduceGT, Int.reduceGE, Int.reduceNe, Int.reduceAdd, Int.reduceSub, Int.reduceMul, reduceIte, ↓reduceIte, fn18, cx18, Try.f18, h', hl]
end

end Go.Proofs.Ytgppmcpbphgnnaa
