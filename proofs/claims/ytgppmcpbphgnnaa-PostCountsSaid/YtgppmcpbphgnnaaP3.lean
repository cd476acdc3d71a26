/- The reference's methods, step by step. No condition. -/
import Derived.Test.YtgppmcpbphgnnaaP1
set_option linter.unusedSimpArgs false
set_option linter.unusedVariables false
set_option linter.unusedSectionVars false
namespace Go.Proofs.Ytgppmcpbphgnnaa
open Go Go.Vx
attribute [local congr] seqO_congr iteB_congr
attribute [local go_sem ↓] sO_some sO_none iB_true iB_false
attribute [local go_sem] stepJ sO_some sO_none iB_true iB_false seqO_iteB startSt acode aops aopR wantsR aopX isFnCall aop fetch takeAt moveTup St.val PV.ofValue D.ofCell put isTmp PV.maySrc aBin eqFieldsA eqCell binLit eqKind abool aint aUn thenC inBlockC polOf aConv retOf aress ares okRes okAl Vx.dstsOf stays outOf tupOf PV.noPtr PV.isDat PV.isOwn PV.strip aLoad frz0 frz1 frz2 frz3 frz4 frz5 frz6 frz7 frz8 frz9 frz10 frz11 frz12 freezeC PV.frz PV.frozen aStore aStore0 homeStore PV.isHome hookOf runHook ownPlace aConv0 aConvP eqRes aAppendR aAppendS builtin_sd builtin_us aSliceData aUnsafeString aSliceP zeros Vx.keyOf ksz sr_append sr_len Vx.stored undef cl_tnil cl_home cl_siter cl_mp Nat.le_refl Nat.sub_self List.take_length List.drop_length mapOf runMap int64 mapPlace lookRes aggDs mapBox isNilP eqCellsA List.range' amix aopE outE applyE nOk loadBox stab stabL mixOf mixIn noCellAl eq_self aFieldAddr aIndexAddr addOff rowPtr rd_eq rdV rdPV_dat rdPV_own rdI_nil rdI_sl oneC_lit oneC_nil oneC_sl Rd.rows Rd.fits cut setCells isCell_dat isCell_own isCell_ptr isCell_iptr isCell_clo cells_dat cells_own cells_ptr cells_iptr cells_clo cells_agg toD_dat toDs aBuild canBuild aRows fetchs fetchN fetchNs aSlice aAppend builtin_len lenV builtin_append builtin_max builtin_min maxV minV ptrBox ptrBoxes prep prepN fin noAlias aopN aopNX aopNR anseg asegs segFree segsOf atHead atExit loopCode loopAt gc refLt cl_dat cl_own cl_ptr cl_clo cl_iptr cl_dead cl_alias cl_eptr ridOf keepAt St.at St.mark touch TK.isAgg Value.oneCell' iteB_not wl_0 wl_1 wl_2 wl_3 wl_4 wl_5 wl_6 wl_7 wl_8 wl_9 wl_10 wl_11 wl_12 wl_13 wl_14 wl_15 wl_16 wl_17 wl_18 wl_19 wl_20 wl_21 wl_22 wl_23 wl_24 wl_25 wl_26 wl_27 wl_28 wl_29 wl_30 beq_true' beq_false' app_get app_get0 app_set app_set0 app_take app_takek app_drop set_old get_old get_set take_set take_set0 take_setk drop_set get_setn get_setn0 set_setn set_setn0 lt_addk List.set_set List.getElem?_toArray List.size_toArray Array.size_empty lt_irr add_lt_irr lt_add add_lt_add le_add add_sub List.getD_cons_zero List.getD_cons_succ List.set_cons_zero List.set_cons_succ List.replicate List.length_cons List.length_nil List.length_set List.cons_append List.nil_append List.append_nil List.append_assoc List.map_cons List.map_nil List.all_cons List.all_nil List.any_cons List.any_nil List.take_succ_cons List.take_zero List.take_nil List.drop_succ_cons List.drop_zero List.drop_nil List.zip_cons_cons List.zip_nil_left List.zip_nil_right List.find? List.contains List.elem List.getElem?_cons_zero List.getElem?_cons_succ List.getElem?_nil List.length_append List.length_map List.isEmpty Option.getD_none Option.getD_some Option.map_none Option.map_some Option.bind_some Option.bind_none Option.isSome_none Option.isSome_some Nat.min_self Nat.add_zero Nat.zero_add Nat.add_assoc ne_eq not_false_eq_true not_true_eq_false BEq.rfl beq_self_eq_true if_true if_false Bool.false_eq_true Bool.and_true Bool.true_and Bool.and_false Bool.false_and Bool.or_true Bool.or_false Bool.true_or Bool.false_or Bool.not_false Bool.not_true Bool.not_not Bool.and_self and_self and_true true_and and_false false_and or_self or_false false_or or_true true_or decide_true decide_false
attribute [local go_sem] hookC byteTC bytePC homeC ptrTC unsPC unsToC cmpC cmpAC mapTC
set_option maxHeartbeats 4000000
set_option maxRecDepth 10000

/-- where a key's box stands -/
theorem idx_spec (k : Int) : ∀ (l : Bxs) (i : Nat), (get l k = none ∧ atFrom k i l = -1 ∧ ∀ n, put4 l k n = l ++ [(k, n)]) ∨
    ∃ a n b, l = a ++ (k, n) :: b ∧ atFrom k i l = ((i + a.length : Nat) : Int) ∧ get l k = some n ∧ (∀ n', put4 l k n' = a ++ (k, n') :: b) ∧ del l k = a ++ b
  | [], i => .inl ⟨rfl, rfl, fun _ => rfl⟩
  | p :: ps, i => by
    by_cases h : p.1 = k
    · subst h
      refine .inr ⟨[], p.2, ps, rfl, by simp [atFrom], by simp [get], fun n' => by simp [put4], by simp [del]⟩
    · rcases idx_spec k ps (i + 1) with ⟨h1, h2, h3⟩ | ⟨a, n, b, h1, h2, h3, h4, h5⟩
      · exact .inl ⟨by simp [get, h, h1], by simp [atFrom, h, h2], fun n => by simp [put4, h, h3]⟩
      · refine .inr ⟨p :: a, n, b, by rw [h1]; rfl, by rw [atFrom, if_neg h, h2]; simp; omega, by simp [get, h, h3], fun n' => by simp [put4, h, h4], by simp [del, h, h5]⟩

def oR (bx : List Box) (lo : Nat) : Option Bxs → Option Eff
  | none => none
  | some l => some ⟨bx.set lo (RB l), lo, false⟩

def openW (l : Bxs) (k : Int) : Int × Option Bxs :=
  if (decide (k < 0) || decide (k > 999)) = true then (1, none) else if (get l k).isSome = true then (8, none) else if decide ((l.length : Int) > 7) = true then (5, none) else (0, some (l ++ [(k, 0, 0, 0, 0)]))
def closeW (l : Bxs) (k : Int) : Int × Option Bxs := if (get l k).isSome = true then (0, some (del l k)) else (6, none)
def set4' (n : N4) (m v : Int) : N4 := if m = 0 then (v, n.2.1, n.2.2.1, n.2.2.2) else if m = 1 then (n.1, v, n.2.2.1, n.2.2.2) else if m = 2 then (n.1, n.2.1, v, n.2.2.2) else (n.1, n.2.1, n.2.2.1, v)
def putW (l : Bxs) (k m : Int) : Int × Option Bxs :=
  if (decide (m < 0) || decide (m > 3)) = true then (1, none) else match get l k with
    | none => (6, none)
    | some n => if decide (nat4 n m > 2) = true then (5, none) else (0, some (put4 l k (set4' n m (IntKind.wrap .i64 (nat4 n m + 1)))))
def takeW (l : Bxs) (k m : Int) : Int × Option Bxs :=
  if (decide (m < 0) || decide (m > 3)) = true then (1, none) else match get l k with
    | none => (6, none)
    | some n => if (nat4 n m == 0) = true then (6, none) else (0, some (put4 l k (set4' n m (IntKind.wrap .i64 (nat4 n m - 1)))))

section
variable {bx : List Box} {lo : Nat} {l a b : Bxs} {k m : Int} {n : N4}

theorem rows_app (a b : Bxs) : rows (a ++ b) = rows a ++ rows b := by simp [rows]
theorem RB_cons (p : Int × N4) (ps : Bxs) : RB (p :: ps) = [.own true 5 (rows (p :: ps))] := rfl
theorem RB_ne {l : Bxs} (h : l ≠ []) : RB l = [.own true 5 (rows l)] := by cases l <;> first | exact absurd rfl h | rfl
theorem RB_app (a : Bxs) (p : Int × N4) (b : Bxs) : RB (a ++ p :: b) = [.own true 5 (rows (a ++ p :: b))] := by cases a <;> rfl

theorem four' (h : (decide (m < 0) || decide (m > 3)) = false) : m = 0 ∨ m = 1 ∨ m = 2 ∨ m = 3 := by
  simp only [Bool.or_eq_false_iff, decide_eq_false_iff_not] at h
  omega

theorem f20_no (hl : lo < bx.length) {e : Int} (h : (openW l k) = (e, none)) (hb : bx[lo]? = some (RB l)) (hat : ev cfg (.call 12 [.ptr lo 0, I k] bx) = some (.ret (I (idx l k)) none)) (hi : decide (idx l k ≥ 0) = (get l k).isSome) :
    stepJ (ev cfg) cfg (.call 20 [.ptr lo 0, I k] bx) = some (.ret (I e) none) := by
  unfold openW at h
  cases c1 : decide (k < 0) with
  | true =>
    simp only [c1, Bool.true_or, if_true, Prod.mk.injEq] at h
    obtain ⟨rfl, _⟩ := h
    simp (maxSteps := 2000000) only [go_sem, Nat.reduceSub, Nat.reduceAdd, Nat.reduceMul, Nat.reduceLT, Nat.reduceLeDiff, Nat.reduceBEq, Nat.reduceEqDiff, Nat.reduceGT, Int.reduceToNat, Int.reduceLT, Int.reduceNeg, Int.reduceEq, Int.reduceBEq, Int.reduceBNe, Int.reduceLE, Int.reduceGT, Int.reduceGE, Int.reduceNe, Int.reduceAdd, Int.reduceSub, Int.reduceMul, reduceIte, ↓reduceIte, fn20, cx20, Try.f20, ti3, ti27, ti29, ti33, ti38, hl, c1]
  | false =>
    cases c2 : decide (k > 999) with
    | true =>
      simp only [c1, c2, Bool.or_true, if_true, Prod.mk.injEq] at h
      obtain ⟨rfl, _⟩ := h
      simp (maxSteps := 2000000) only [go_sem, Nat.reduceSub, Nat.reduceAdd, Nat.reduceMul, Nat.reduceLT, Nat.reduceLeDiff, Nat.reduceBEq, Nat.reduceEqDiff, Nat.reduceGT, Int.reduceToNat, Int.reduceLT, Int.reduceNeg, Int.reduceEq, Int.reduceBEq, Int.reduceBNe, Int.reduceLE, Int.reduceGT, Int.reduceGE, Int.reduceNe, Int.reduceAdd, Int.reduceSub, Int.reduceMul, reduceIte, ↓reduceIte, fn20, cx20, Try.f20, ti3, ti27, ti29, ti33, ti38, hl, c1, c2]
    | false =>
      simp only [c1, c2, Bool.or_false, Bool.false_eq_true, if_false] at h
      cases c3 : (get l k).isSome with
      | true =>
        simp only [c3, if_true, Prod.mk.injEq] at h
        obtain ⟨rfl, _⟩ := h
        rw [c3] at hi
        simp (maxSteps := 2000000) only [go_sem, Nat.reduceSub, Nat.reduceAdd, Nat.reduceMul, Nat.reduceLT, Nat.reduceLeDiff, Nat.reduceBEq, Nat.reduceEqDiff, Nat.reduceGT, Int.reduceToNat, Int.reduceLT, Int.reduceNeg, Int.reduceEq, Int.reduceBEq, Int.reduceBNe, Int.reduceLE, Int.reduceGT, Int.reduceGE, Int.reduceNe, Int.reduceAdd, Int.reduceSub, Int.reduceMul, reduceIte, ↓reduceIte, fn20, cx20, Try.f20, ti3, ti27, ti29, ti33, ti38, hl, c1, c2, hat, hi]
      | false =>
        simp only [c3, Bool.false_eq_true, if_false] at h
        rw [c3] at hi
        cases c4 : decide ((l.length : Int) > 7) with
        | true =>
          simp only [c4, if_true, Prod.mk.injEq] at h
          obtain ⟨rfl, _⟩ := h
          rw [RB_ne (by rintro rfl; simp at c4)] at hb
          simp (maxSteps := 2000000) only [go_sem, Nat.reduceSub, Nat.reduceAdd, Nat.reduceMul, Nat.reduceLT, Nat.reduceLeDiff, Nat.reduceBEq, Nat.reduceEqDiff, Nat.reduceGT, Int.reduceToNat, Int.reduceLT, Int.reduceNeg, Int.reduceEq, Int.reduceBEq, Int.reduceBNe, Int.reduceLE, Int.reduceGT, Int.reduceGE, Int.reduceNe, Int.reduceAdd, Int.reduceSub, Int.reduceMul, reduceIte, ↓reduceIte, fn20, cx20, Try.f20, ti3, ti27, ti29, ti33, ti38, hl, c1, c2, hat, hi, hb, rows_len, c4]
        | false => simp [c4] at h

theorem f20_yes (hl : lo < bx.length) {l' : Bxs} (h : (openW l k) = (0, some l')) (hb : bx[lo]? = some (RB l)) (hat : ev cfg (.call 12 [.ptr lo 0, I k] bx) = some (.ret (I (idx l k)) none)) (hi : decide (idx l k ≥ 0) = (get l k).isSome) :
    stepJ (ev cfg) cfg (.call 20 [.ptr lo 0, I k] bx) = some (.ret (I 0) (some ⟨bx.set lo (RB l'), lo, false⟩)) := by
  unfold openW at h
  cases c1 : decide (k < 0) with
  | true => simp [c1] at h
  | false =>
    cases c2 : decide (k > 999) with
    | true => simp [c1, c2] at h
    | false =>
      simp only [c1, c2, Bool.or_false, Bool.false_eq_true, if_false] at h
      cases c3 : (get l k).isSome with
      | true => simp [c3] at h
      | false =>
        simp only [c3, Bool.false_eq_true, if_false] at h
        rw [c3] at hi
        cases c4 : decide ((l.length : Int) > 7) with
        | true => simp [c4] at h
        | false =>
          simp only [c4, Bool.false_eq_true, if_false, Prod.mk.injEq, true_and, Option.some.injEq] at h
          subst h
          by_cases hne : l = []
          · subst hne
            have e1 : RB [] = [.dat .nil] := rfl
            have e2 : RB ([] ++ [(k, 0, 0, 0, 0)]) = [.own true 5 [[dI k, dI 0, dI 0, dI 0, dI 0]]] := rfl
            rw [e1] at hb
            rw [e2]
            have c5 : decide (((0 : Nat) : Int) > 7) = false := by decide
            simp (maxSteps := 2000000) only [go_sem, Nat.reduceSub, Nat.reduceAdd, Nat.reduceMul, Nat.reduceLT, Nat.reduceLeDiff, Nat.reduceBEq, Nat.reduceEqDiff, Nat.reduceGT, Int.reduceToNat, Int.reduceLT, Int.reduceNeg, Int.reduceEq, Int.reduceBEq, Int.reduceBNe, Int.reduceLE, Int.reduceGT, Int.reduceGE, Int.reduceNe, Int.reduceAdd, Int.reduceSub, Int.reduceMul, reduceIte, ↓reduceIte, fn20, cx20, Try.f20, ti3, ti27, ti29, ti33, ti38, hl, c1, c2, hat, hi, hb, c5]
          · have hz : ((l.length + 1) * 40 ≤ 140737488355328) = True := by simp at c4 ⊢; omega
            have e2 : RB (l ++ [(k, 0, 0, 0, 0)]) = [.own true 5 (rows l ++ [[dI k, dI 0, dI 0, dI 0, dI 0]])] := by rw [RB_ne (by simp), rows_app]; rfl
            rw [RB_ne hne] at hb
            rw [e2]
            simp (maxSteps := 2000000) only [go_sem, Nat.reduceSub, Nat.reduceAdd, Nat.reduceMul, Nat.reduceLT, Nat.reduceLeDiff, Nat.reduceBEq, Nat.reduceEqDiff, Nat.reduceGT, Int.reduceToNat, Int.reduceLT, Int.reduceNeg, Int.reduceEq, Int.reduceBEq, Int.reduceBNe, Int.reduceLE, Int.reduceGT, Int.reduceGE, Int.reduceNe, Int.reduceAdd, Int.reduceSub, Int.reduceMul, reduceIte, ↓reduceIte, fn20, cx20, Try.f20, ti3, ti27, ti29, ti33, ti38, hl, c1, c2, hat, hi, hb, rows_len, c4, hz]

theorem f21_no (hl : lo < bx.length) (hat : ev cfg (.call 12 [.ptr lo 0, I k] bx) = some (.ret (I (idx l k)) none)) (hi : decide (idx l k < 0) = true) :
    stepJ (ev cfg) cfg (.call 21 [.ptr lo 0, I k] bx) = some (.ret (I 6) none) := by
  simp (maxSteps := 2000000) only [go_sem, Nat.reduceSub, Nat.reduceAdd, Nat.reduceMul, Nat.reduceLT, Nat.reduceLeDiff, Nat.reduceBEq, Nat.reduceEqDiff, Nat.reduceGT, Int.reduceToNat, Int.reduceLT, Int.reduceNeg, Int.reduceEq, Int.reduceBEq, Int.reduceBNe, Int.reduceLE, Int.reduceGT, Int.reduceGE, Int.reduceNe, Int.reduceAdd, Int.reduceSub, Int.reduceMul, reduceIte, ↓reduceIte, fn21, cx21, Try.f21, ti3, ti27, ti29, ti33, ti38, hl, hat, hi]
/-- a list of rows in a variable -/
def RL : List (List D) → Box
  | [] => [.dat .nil]
  | r :: rs => [.own true 5 (r :: rs)]
theorem RL_rows (l : Bxs) : RL (rows l) = RB l := by cases l <;> rfl
theorem f21_core {R A Q : List (List D)} {c L : Nat} (hl : lo < bx.length) (hb : bx[lo]? = some [.own true 5 R]) (hlen : R.length = L) (hcl : c + 1 ≤ L) (hm : L < 1000) (h2 : R.take c = A) (h3 : R.drop (c + 1) = Q) (hat : ev cfg (.call 12 [.ptr lo 0, I k] bx) = some (.ret (I (c : Int)) none)) :
    stepJ (ev cfg) cfg (.call 21 [.ptr lo 0, I k] bx) = some (.ret (I 0) (some ⟨bx.set lo (RL (A ++ Q)), lo, false⟩)) := by
  have hA : A.length = c := by rw [← h2, List.length_take]; omega
  have hQ : Q.length = L - (c + 1) := by rw [← h3, List.length_drop, hlen]
  have h0 : decide ((c : Int) < 0) = false := by simp
  have h1 : ((0 : Int) ≤ (c : Int) ∧ (c : Int) ≤ (L : Int)) = True := by simp; omega
  have h4 : IntKind.wrap .i64 ((c : Int) + 1) = ((c + 1 : Nat) : Int) := by rw [wrap_lo (by omega) (by omega)]; rfl
  have h5 : ((((c + 1 : Nat) : Int)) ≤ (L : Int) ∧ (L : Int) ≤ (L : Int)) = True := by simp; omega
  have h6 : (((c + 1 : Nat) : Int) < 0) = False := by simp; omega
  have h7 : List.take L R = R := by rw [← hlen, List.take_length]
  cases A with
  | nil =>
    cases Q with
    | nil =>
      have e : RL ([] ++ []) = [.dat .nil] := rfl
      rw [e]
      simp (maxSteps := 2000000) only [go_sem, Nat.reduceSub, Nat.reduceAdd, Nat.reduceMul, Nat.reduceLT, Nat.reduceLeDiff, Nat.reduceBEq, Nat.reduceEqDiff, Nat.reduceGT, Int.reduceToNat, Int.reduceLT, Int.reduceNeg, Int.reduceEq, Int.reduceBEq, Int.reduceBNe, Int.reduceLE, Int.reduceGT, Int.reduceGE, Int.reduceNe, Int.reduceAdd, Int.reduceSub, Int.reduceMul, reduceIte, ↓reduceIte, fn21, cx21, Try.f21, ti3, ti27, ti29, ti33, ti38, hl, hat, h0, hb, hlen, h1, h2, h3, h4, h5, h6, h7, nat_neg, zero_neg, Int.toNat_natCast]
    | cons q qs =>
      have e : RL ([] ++ q :: qs) = [.own true 5 (q :: qs)] := rfl
      have hz : ((qs.length + 1) * 40 ≤ 140737488355328) = True := by simp at hQ ⊢; omega
      rw [e]
      simp (maxSteps := 2000000) only [go_sem, Nat.reduceSub, Nat.reduceAdd, Nat.reduceMul, Nat.reduceLT, Nat.reduceLeDiff, Nat.reduceBEq, Nat.reduceEqDiff, Nat.reduceGT, Int.reduceToNat, Int.reduceLT, Int.reduceNeg, Int.reduceEq, Int.reduceBEq, Int.reduceBNe, Int.reduceLE, Int.reduceGT, Int.reduceGE, Int.reduceNe, Int.reduceAdd, Int.reduceSub, Int.reduceMul, reduceIte, ↓reduceIte, fn21, cx21, Try.f21, ti3, ti27, ti29, ti33, ti38, hl, hat, h0, hb, hlen, h1, h2, h3, h4, h5, h6, h7, hz, nat_neg, zero_neg, Int.toNat_natCast]
  | cons x xs =>
    have e : RL (x :: xs ++ Q) = [.own true 5 (x :: (xs ++ Q))] := rfl
    have hz : ((xs.length + 1) * 40 ≤ 140737488355328) = True := by simp at hA ⊢; omega
    have hz2 : ((xs.length + (1 + Q.length)) * 40 ≤ 140737488355328) = True := by simp at hA ⊢; omega
    rw [e]
    simp (maxSteps := 2000000) only [go_sem, Nat.reduceSub, Nat.reduceAdd, Nat.reduceMul, Nat.reduceLT, Nat.reduceLeDiff, Nat.reduceBEq, Nat.reduceEqDiff, Nat.reduceGT, Int.reduceToNat, Int.reduceLT, Int.reduceNeg, Int.reduceEq, Int.reduceBEq, Int.reduceBNe, Int.reduceLE, Int.reduceGT, Int.reduceGE, Int.reduceNe, Int.reduceAdd, Int.reduceSub, Int.reduceMul, reduceIte, ↓reduceIte, fn21, cx21, Try.f21, ti3, ti27, ti29, ti33, ti38, hl, hat, h0, hb, hlen, h1, h2, h3, h4, h5, h6, h7, hz, hz2, nat_neg, zero_neg, Int.toNat_natCast]
end
end Go.Proofs.Ytgppmcpbphgnnaa
