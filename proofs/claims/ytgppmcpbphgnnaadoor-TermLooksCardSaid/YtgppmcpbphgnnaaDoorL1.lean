/- Rounds: Vars, Has, Same, EqualFunc, the reference's Size. No condition. -/
import Derived.Test.YtgppmcpbphgnnaaDoorT1
import Derived.Test.YtgppmcpbphgnnaaDoorVe
set_option linter.unusedSimpArgs false
set_option linter.unusedVariables false
set_option linter.unusedSectionVars false
namespace Go.Proofs.YtgppmcpbphgnnaaDoor
open Go Go.Vx
attribute [local congr] seqO_congr iteB_congr
attribute [local go_sem ↓] sO_some sO_none iB_true iB_false
attribute [local go_sem] stepJ sO_some sO_none iB_true iB_false seqO_iteB startSt acode aops aopR wantsR aopX isFnCall aop fetch takeAt moveTup St.val PV.ofValue D.ofCell put isTmp PV.maySrc aBin eqFieldsA eqCell binLit eqKind abool aint aUn thenC inBlockC polOf aConv retOf aress ares okRes okAl Vx.dstsOf stays outOf tupOf PV.noPtr PV.isDat PV.isOwn PV.strip aLoad frz0 frz1 frz2 frz3 frz4 frz5 frz6 frz7 frz8 frz9 frz10 frz11 frz12 freezeC PV.frz PV.frozen aStore aStore0 homeStore PV.isHome hookOf runHook ownPlace aConv0 aConvP eqRes aAppendR aAppendS builtin_sd builtin_us aSliceData aUnsafeString aSliceP zeros Vx.keyOf ksz sr_append sr_len Vx.stored undef cl_tnil cl_home cl_siter aFieldAddr aIndexAddr addOff rowPtr rd_eq rdV rdPV_dat rdPV_own rdI_nil rdI_sl oneC_lit oneC_nil oneC_sl Rd.rows Rd.fits cut setCells isCell_dat isCell_own isCell_ptr isCell_iptr isCell_clo cells_dat cells_own cells_ptr cells_iptr cells_clo cells_agg toD_dat toDs aBuild canBuild aRows fetchs fetchN fetchNs aSlice aAppend builtin_len lenV builtin_append builtin_max builtin_min maxV minV ptrBox ptrBoxes prep prepN fin noAlias aopN aopNX aopNR anseg asegs segFree segsOf atHead atExit loopCode loopAt gc refLt cl_dat cl_own cl_ptr cl_clo cl_iptr cl_dead cl_alias cl_eptr ridOf keepAt St.at St.mark touch TK.isAgg Value.oneCell' iteB_not wl_0 wl_1 wl_2 wl_3 wl_4 wl_5 wl_6 wl_7 wl_8 wl_9 wl_10 wl_11 wl_12 wl_13 wl_14 wl_15 wl_16 wl_17 wl_18 wl_19 wl_20 wl_21 wl_22 wl_23 wl_24 wl_25 wl_26 wl_27 wl_28 wl_29 wl_30 beq_true' beq_false' app_get app_get0 app_set app_set0 app_take app_takek app_drop set_old get_old get_set take_set take_set0 take_setk drop_set get_setn get_setn0 set_setn set_setn0 lt_addk List.set_set List.getElem?_toArray List.size_toArray Array.size_empty lt_irr add_lt_irr lt_add add_lt_add le_add add_sub List.getD_cons_zero List.getD_cons_succ List.set_cons_zero List.set_cons_succ List.replicate List.length_cons List.length_nil List.length_set List.cons_append List.nil_append List.append_nil List.append_assoc List.map_cons List.map_nil List.all_cons List.all_nil List.any_cons List.any_nil List.take_succ_cons List.take_zero List.take_nil List.drop_succ_cons List.drop_zero List.drop_nil List.zip_cons_cons List.zip_nil_left List.zip_nil_right List.find? List.contains List.elem List.getElem?_cons_zero List.getElem?_cons_succ List.getElem?_nil List.length_append List.length_map List.isEmpty Option.getD_none Option.getD_some Option.map_none Option.map_some Option.bind_some Option.bind_none Option.isSome_none Option.isSome_some Nat.min_self Nat.add_zero Nat.zero_add Nat.add_assoc ne_eq not_false_eq_true not_true_eq_false BEq.rfl beq_self_eq_true if_true if_false Bool.false_eq_true Bool.and_true Bool.true_and Bool.and_false Bool.false_and Bool.or_true Bool.or_false Bool.true_or Bool.false_or Bool.not_false Bool.not_true Bool.not_not Bool.and_self and_self and_true true_and and_false false_and or_self or_false false_or or_true true_or decide_true decide_false
attribute [local go_sem] hookC byteTC bytePC homeC ptrTC unsPC unsToC cmpC
set_option maxHeartbeats 4000000
set_option maxRecDepth 10000

/-- ints as a slice -/
def XI (zs : List Int) : PV := if zs.isEmpty then .dat .nil else .own true 1 (rowsOf zs)
theorem intRows_of : ∀ zs : List Int, intRows (rowsOf zs) = some zs
  | [] => rfl
  | z :: zs => by
    have : rowsOf (z :: zs) = [.lit (.int .i64 z)] :: rowsOf zs := rfl
    rw [this, intRows, intRows_of zs]; rfl
theorem rowsOf_app (zs : List Int) (y : Int) (ys : List Int) : rowsOf zs ++ ([dI y] :: rowsOf ys) = rowsOf (zs ++ y :: ys) := by simp [rowsOf]
theorem intRows_cons (z : Int) (zs : List Int) : intRows ([dI z] :: rowsOf zs) = some (z :: zs) := intRows_of (z :: zs)
theorem XI_nil : XI [] = .dat .nil := rfl
theorem XI_cons (z : Int) (zs : List Int) : XI (z :: zs) = .own true 1 ([dI z] :: rowsOf zs) := rfl

section
variable {bx : List Box} {c : Box} {rows rows2 : List (List D)} {K K2 : D} {i : Nat} {op n m op2 n2 : Int} {K' K2' : D} {zs ys : List Int}

theorem r28 (hK : IsS 3 rows K) (hc : c.all (cellLt (bx.length + 1)) = true) (hget : rows[i]? = some [dI op, dI n, K']) (hlt : i < rows.length) (hmax : rows.length < 9223372036854775808) (hk : K'.oneC = true) (hz : (zs.length + ys.length) * 8 ≤ 1000000)
    (hcall : ∀ bx : List Box, ev cfg (.call 28 [.agg [I op, I n, .dat K']] bx) = some (.ret (XI ys) none)) :
    stepJ (ev cfg) cfg (.loop 28 5 ⟨(.dead :: .dead :: .dead :: XI zs :: .dead :: .dead :: .dead :: .dead :: .dead :: .dead :: .dead :: .dead :: .dead :: .dead :: .dead :: .dat K :: I rows.length :: I i :: .dead :: .dead :: .dead :: .dead :: .dead :: .dead :: .dead :: .dead :: .dead :: .dead :: .dead :: .dead :: []), bx ++ [c], bx.length, none, false⟩) =
      ev cfg (.loop 28 5 ⟨(.dead :: .dead :: .dead :: XI (zs ++ ys) :: .dead :: .dead :: .dead :: .dead :: .dead :: .dead :: .dead :: .dead :: .dead :: .dead :: .dead :: .dat K :: I rows.length :: I ((i + 1 : Nat) : Int) :: .dead :: .dead :: .dead :: .dead :: .dead :: .dead :: .dead :: .dead :: .dead :: .dead :: .dead :: .dead :: []), bx ++ [c], bx.length, none, false⟩) := by
  obtain ⟨w, h1, h2, h3⟩ := hK
  obtain rfl := isS_w h2 hget
  cases zs with
  | nil =>
    cases ys with
    | nil =>
      rw [List.append_nil, XI_nil]
      rw [XI_nil] at hcall
      simp (maxSteps := 2000000) only [go_sem, Nat.reduceSub, Nat.reduceAdd, Nat.reduceMul, Nat.reduceLT, Nat.reduceLeDiff, Nat.reduceBEq, Nat.reduceEqDiff, Nat.reduceGT, Int.reduceToNat, Int.reduceLT, Int.reduceNeg, Int.reduceEq, Int.reduceBEq, Int.reduceBNe, Int.reduceLE, Int.reduceGT, Int.reduceGE, Int.reduceNe, Int.reduceAdd, Int.reduceSub, Int.reduceMul, reduceIte, ↓reduceIte, fn28, cx28, Tryd.f28, ti3, ti46, ti48, ti66, h1, h3, hk, nat_lt hlt, nat_neg, Int.toNat_natCast, hget, hcall, hc, nat_succ hlt hmax]
    | cons y ys =>
      rw [XI_cons] at hcall
      rw [XI_nil, List.nil_append, XI_cons]
      have hz1 : ((ys.length + 1) * 8 ≤ 140737488355328) = True := by simp at hz ⊢; omega
      simp only [rowsOf_len, hz1, go_sem, Nat.reduceSub, Nat.reduceAdd, Nat.reduceMul, Nat.reduceLT, Nat.reduceLeDiff, Nat.reduceBEq, Nat.reduceEqDiff, Nat.reduceGT, Int.reduceToNat, Int.reduceLT, Int.reduceNeg, Int.reduceEq, Int.reduceBEq, Int.reduceBNe, Int.reduceLE, Int.reduceGT, Int.reduceGE, Int.reduceNe, Int.reduceAdd, Int.reduceSub, Int.reduceMul, reduceIte, ↓reduceIte, fn28, cx28, Tryd.f28, ti3, ti46, ti48, ti66, h1, h3, hk, nat_lt hlt, nat_neg, Int.toNat_natCast, hget, hcall, hc, nat_succ hlt hmax]
  | cons z zs =>
    cases ys with
    | nil =>
      rw [List.append_nil, XI_cons]
      rw [XI_nil] at hcall
      have hz1 : ((zs.length + 1) * 8 ≤ 140737488355328) = True := by simp at hz ⊢; omega
      simp only [rowsOf_len, hz1, go_sem, Nat.reduceSub, Nat.reduceAdd, Nat.reduceMul, Nat.reduceLT, Nat.reduceLeDiff, Nat.reduceBEq, Nat.reduceEqDiff, Nat.reduceGT, Int.reduceToNat, Int.reduceLT, Int.reduceNeg, Int.reduceEq, Int.reduceBEq, Int.reduceBNe, Int.reduceLE, Int.reduceGT, Int.reduceGE, Int.reduceNe, Int.reduceAdd, Int.reduceSub, Int.reduceMul, reduceIte, ↓reduceIte, fn28, cx28, Tryd.f28, ti3, ti46, ti48, ti66, h1, h3, hk, nat_lt hlt, nat_neg, Int.toNat_natCast, hget, hcall, hc, nat_succ hlt hmax]
    | cons y ys =>
      rw [XI_cons] at hcall
      rw [List.cons_append, XI_cons, XI_cons]
      have hz1 : ((zs.length + (1 + (ys.length + 1))) * 8 ≤ 140737488355328) = True := by simp at hz ⊢; omega
      simp only [rowsOf_len, hz1, rowsOf_app, go_sem, Nat.reduceSub, Nat.reduceAdd, Nat.reduceMul, Nat.reduceLT, Nat.reduceLeDiff, Nat.reduceBEq, Nat.reduceEqDiff, Nat.reduceGT, Int.reduceToNat, Int.reduceLT, Int.reduceNeg, Int.reduceEq, Int.reduceBEq, Int.reduceBNe, Int.reduceLE, Int.reduceGT, Int.reduceGE, Int.reduceNe, Int.reduceAdd, Int.reduceSub, Int.reduceMul, reduceIte, ↓reduceIte, fn28, cx28, Tryd.f28, ti3, ti46, ti48, ti66, h1, h3, hk, nat_lt hlt, nat_neg, Int.toNat_natCast, hget, hcall, hc, nat_succ hlt hmax]
theorem e28 {k : Nat} (hc : c.all (cellLt (bx.length + 1)) = true) (hge : k ≤ i) :
    stepJ (ev cfg) cfg (.loop 28 5 ⟨(.dead :: .dead :: .dead :: XI zs :: .dead :: .dead :: .dead :: .dead :: .dead :: .dead :: .dead :: .dead :: .dead :: .dead :: .dead :: .dat K :: I k :: I i :: .dead :: .dead :: .dead :: .dead :: .dead :: .dead :: .dead :: .dead :: .dead :: .dead :: .dead :: .dead :: []), bx ++ [c], bx.length, none, false⟩) = some (.loop (.exit 0) ⟨(.dead :: .dead :: .dead :: XI zs :: .dead :: .dead :: .dead :: .dead :: .dead :: .dead :: .dead :: .dead :: .dead :: .dead :: .dead :: .dead :: .dead :: .dead :: .dead :: .dead :: .dead :: .dead :: .dead :: .dead :: .dead :: .dead :: .dead :: .dead :: .dead :: .dead :: []), bx ++ [c], bx.length, none, false⟩) := by
  cases zs with
  | nil =>
    rw [XI_nil]
    simp (maxSteps := 2000000) only [go_sem, Nat.reduceSub, Nat.reduceAdd, Nat.reduceMul, Nat.reduceLT, Nat.reduceLeDiff, Nat.reduceBEq, Nat.reduceEqDiff, Nat.reduceGT, Int.reduceToNat, Int.reduceLT, Int.reduceNeg, Int.reduceEq, Int.reduceBEq, Int.reduceBNe, Int.reduceLE, Int.reduceGT, Int.reduceGE, Int.reduceNe, Int.reduceAdd, Int.reduceSub, Int.reduceMul, reduceIte, ↓reduceIte, fn28, cx28, Tryd.f28, ti3, ti46, ti48, ti66, nat_ge hge, hc]
  | cons z zs =>
    rw [XI_cons]
    simp (maxSteps := 2000000) only [go_sem, Nat.reduceSub, Nat.reduceAdd, Nat.reduceMul, Nat.reduceLT, Nat.reduceLeDiff, Nat.reduceBEq, Nat.reduceEqDiff, Nat.reduceGT, Int.reduceToNat, Int.reduceLT, Int.reduceNeg, Int.reduceEq, Int.reduceBEq, Int.reduceBNe, Int.reduceLE, Int.reduceGT, Int.reduceGE, Int.reduceNe, Int.reduceAdd, Int.reduceSub, Int.reduceMul, reduceIte, ↓reduceIte, fn28, cx28, Tryd.f28, ti3, ti46, ti48, ti66, nat_ge hge, hc]
theorem f28 {b : Bool} (hK : IsS 3 rows K) (h2 : (op == 2) = b) (hl : (zs.length < 4611686018427387904) = True)
    (hloop : ∀ c : Box, c.all (cellLt (bx.length + 1)) = true → ev cfg (.loop 28 5 ⟨(.dead :: .dead :: .dead :: XI (if b = true then [n] else []) :: .dead :: .dead :: .dead :: .dead :: .dead :: .dead :: .dead :: .dead :: .dead :: .dead :: .dead :: .dat K :: I rows.length :: I 0 :: .dead :: .dead :: .dead :: .dead :: .dead :: .dead :: .dead :: .dead :: .dead :: .dead :: .dead :: .dead :: []), bx ++ [c], bx.length, none, false⟩) = some (.loop (.exit 0) ⟨(.dead :: .dead :: .dead :: XI zs :: .dead :: .dead :: .dead :: .dead :: .dead :: .dead :: .dead :: .dead :: .dead :: .dead :: .dead :: .dead :: .dead :: .dead :: .dead :: .dead :: .dead :: .dead :: .dead :: .dead :: .dead :: .dead :: .dead :: .dead :: .dead :: .dead :: []), bx ++ [c], bx.length, none, false⟩)) :
    stepJ (ev cfg) cfg (.call 28 [.agg [I op, I n, .dat K]] bx) = some (.ret (match zs with | [] => .dat .nil | z :: zs => .own true 1 (rowsOf (Lib.compact (sortI (z :: zs))))) none) := by
  obtain ⟨w, h1, h2', h3⟩ := hK
  have hloop' := hloop [I op, I n, .dat K] (by simp [cellLt])
  cases b with
  | false =>
    simp only [Bool.false_eq_true, if_false, XI_nil] at hloop'
    cases zs with
    | nil =>
      rw [XI_nil] at hloop'
      simp (maxSteps := 2000000) only [go_sem, Nat.reduceSub, Nat.reduceAdd, Nat.reduceMul, Nat.reduceLT, Nat.reduceLeDiff, Nat.reduceBEq, Nat.reduceEqDiff, Nat.reduceGT, Int.reduceToNat, Int.reduceLT, Int.reduceNeg, Int.reduceEq, Int.reduceBEq, Int.reduceBNe, Int.reduceLE, Int.reduceGT, Int.reduceGE, Int.reduceNe, Int.reduceAdd, Int.reduceSub, Int.reduceMul, reduceIte, ↓reduceIte, fn28, cx28, Tryd.f28, ti3, ti46, ti48, ti66, h1, h3, h2, hloop']
    | cons z zs =>
      rw [XI_cons] at hloop'
      simp only [List.length_cons] at hl
      simp (maxSteps := 2000000) only [go_sem, Nat.reduceSub, Nat.reduceAdd, Nat.reduceMul, Nat.reduceLT, Nat.reduceLeDiff, Nat.reduceBEq, Nat.reduceEqDiff, Nat.reduceGT, Int.reduceToNat, Int.reduceLT, Int.reduceNeg, Int.reduceEq, Int.reduceBEq, Int.reduceBNe, Int.reduceLE, Int.reduceGT, Int.reduceGE, Int.reduceNe, Int.reduceAdd, Int.reduceSub, Int.reduceMul, reduceIte, ↓reduceIte, fn28, cx28, Tryd.f28, ti3, ti46, ti48, ti66, h1, h3, h2, hloop', intRows_cons, intRows_of, hl, sortI_len, List.length_cons]
  | true =>
    have e1 : XI [n] = .own true 1 [[dI n]] := rfl
    simp only [if_true, e1] at hloop'
    cases zs with
    | nil =>
      rw [XI_nil] at hloop'
      simp (maxSteps := 2000000) only [go_sem, Nat.reduceSub, Nat.reduceAdd, Nat.reduceMul, Nat.reduceLT, Nat.reduceLeDiff, Nat.reduceBEq, Nat.reduceEqDiff, Nat.reduceGT, Int.reduceToNat, Int.reduceLT, Int.reduceNeg, Int.reduceEq, Int.reduceBEq, Int.reduceBNe, Int.reduceLE, Int.reduceGT, Int.reduceGE, Int.reduceNe, Int.reduceAdd, Int.reduceSub, Int.reduceMul, reduceIte, ↓reduceIte, fn28, cx28, Tryd.f28, ti3, ti46, ti48, ti66, h1, h3, h2, hloop']
    | cons z zs =>
      rw [XI_cons] at hloop'
      simp only [List.length_cons] at hl
      simp (maxSteps := 2000000) only [go_sem, Nat.reduceSub, Nat.reduceAdd, Nat.reduceMul, Nat.reduceLT, Nat.reduceLeDiff, Nat.reduceBEq, Nat.reduceEqDiff, Nat.reduceGT, Int.reduceToNat, Int.reduceLT, Int.reduceNeg, Int.reduceEq, Int.reduceBEq, Int.reduceBNe, Int.reduceLE, Int.reduceGT, Int.reduceGE, Int.reduceNe, Int.reduceAdd, Int.reduceSub, Int.reduceMul, reduceIte, ↓reduceIte, fn28, cx28, Tryd.f28, ti3, ti46, ti48, ti66, h1, h3, h2, hloop', intRows_cons, intRows_of, hl, sortI_len, List.length_cons]

/-! ### Has -/
theorem r29 {b : Bool} (hK : IsS 3 rows K) (hc : c.all (cellLt (bx.length + 1)) = true) (hget : rows[i]? = some [dI op, dI n, K']) (hlt : i < rows.length) (hmax : rows.length < 9223372036854775808) (hk : K'.oneC = true)
    (hcall : ∀ bx : List Box, ev cfg (.call 29 [.agg [I op, I n, .dat K'], I m] bx) = some (.ret (B b) none)) :
    stepJ (ev cfg) cfg (.loop 29 4 ⟨(.dead :: I m :: .dead :: .dead :: .dead :: .dead :: .dead :: .dead :: .dead :: .dead :: .dead :: .dead :: .dead :: .dead :: .dead :: .dead :: .dead :: .dat K :: I rows.length :: I i :: .dead :: .dead :: .dead :: .dead :: .dead :: .dead :: .dead :: []), bx ++ [c], bx.length, none, false⟩) =
      if b = true then some (.loop .ret ⟨(.dead :: .dead :: .dead :: .dead :: B true :: .dead :: .dead :: .dead :: .dead :: .dead :: .dead :: .dead :: .dead :: .dead :: .dead :: .dead :: .dead :: .dead :: .dead :: .dead :: .dead :: .dead :: .dead :: .dead :: .dead :: .dead :: .dead :: []), bx ++ [c], bx.length, none, false⟩)
      else ev cfg (.loop 29 4 ⟨(.dead :: I m :: .dead :: .dead :: .dead :: .dead :: .dead :: .dead :: .dead :: .dead :: .dead :: .dead :: .dead :: .dead :: .dead :: .dead :: .dead :: .dat K :: I rows.length :: I ((i + 1 : Nat) : Int) :: .dead :: .dead :: .dead :: .dead :: .dead :: .dead :: .dead :: []), bx ++ [c], bx.length, none, false⟩) := by
  obtain ⟨w, h1, h2, h3⟩ := hK
  obtain rfl := isS_w h2 hget
  cases b <;> simp (maxSteps := 2000000) only [go_sem, Nat.reduceSub, Nat.reduceAdd, Nat.reduceMul, Nat.reduceLT, Nat.reduceLeDiff, Nat.reduceBEq, Nat.reduceEqDiff, Nat.reduceGT, Int.reduceToNat, Int.reduceLT, Int.reduceNeg, Int.reduceEq, Int.reduceBEq, Int.reduceBNe, Int.reduceLE, Int.reduceGT, Int.reduceGE, Int.reduceNe, Int.reduceAdd, Int.reduceSub, Int.reduceMul, reduceIte, ↓reduceIte, fn29, cx29, Tryd.f29, ti3, ti46, ti48, h1, h3, hk, nat_lt hlt, nat_neg, Int.toNat_natCast, hget, hcall, hc, nat_succ hlt hmax]
theorem e29 {k : Nat} (hc : c.all (cellLt (bx.length + 1)) = true) (hge : k ≤ i) :
    stepJ (ev cfg) cfg (.loop 29 4 ⟨(.dead :: I m :: .dead :: .dead :: .dead :: .dead :: .dead :: .dead :: .dead :: .dead :: .dead :: .dead :: .dead :: .dead :: .dead :: .dead :: .dead :: .dat K :: I k :: I i :: .dead :: .dead :: .dead :: .dead :: .dead :: .dead :: .dead :: []), bx ++ [c], bx.length, none, false⟩) = some (.loop (.exit 0) ⟨(.dead :: .dead :: .dead :: .dead :: .dead :: .dead :: .dead :: .dead :: .dead :: .dead :: .dead :: .dead :: .dead :: .dead :: .dead :: .dead :: .dead :: .dead :: .dead :: .dead :: .dead :: .dead :: .dead :: .dead :: .dead :: .dead :: .dead :: []), bx ++ [c], bx.length, none, false⟩) := by
  simp (maxSteps := 2000000) only [go_sem, Nat.reduceSub, Nat.reduceAdd, Nat.reduceMul, Nat.reduceLT, Nat.reduceLeDiff, Nat.reduceBEq, Nat.reduceEqDiff, Nat.reduceGT, Int.reduceToNat, Int.reduceLT, Int.reduceNeg, Int.reduceEq, Int.reduceBEq, Int.reduceBNe, Int.reduceLE, Int.reduceGT, Int.reduceGE, Int.reduceNe, Int.reduceAdd, Int.reduceSub, Int.reduceMul, reduceIte, ↓reduceIte, fn29, cx29, Tryd.f29, ti3, ti46, ti48, nat_ge hge, hc]
theorem f29_yes (hK : IsS 3 rows K) (h : ((op == 2) && (n == m)) = true) : stepJ (ev cfg) cfg (.call 29 [.agg [I op, I n, .dat K], I m] bx) = some (.ret (B true) none) := by
  obtain ⟨w, h1, h2', h3⟩ := hK
  rw [Bool.and_eq_true] at h
  simp (maxSteps := 2000000) only [go_sem, Nat.reduceSub, Nat.reduceAdd, Nat.reduceMul, Nat.reduceLT, Nat.reduceLeDiff, Nat.reduceBEq, Nat.reduceEqDiff, Nat.reduceGT, Int.reduceToNat, Int.reduceLT, Int.reduceNeg, Int.reduceEq, Int.reduceBEq, Int.reduceBNe, Int.reduceLE, Int.reduceGT, Int.reduceGE, Int.reduceNe, Int.reduceAdd, Int.reduceSub, Int.reduceMul, reduceIte, ↓reduceIte, fn29, cx29, Tryd.f29, ti3, ti46, ti48, h1, h3, h.1, h.2]
theorem f29 {b : Bool} (hK : IsS 3 rows K) (h : ((op == 2) && (n == m)) = false)
    (hloop : ∀ c : Box, c.all (cellLt (bx.length + 1)) = true → ev cfg (.loop 29 4 ⟨(.dead :: I m :: .dead :: .dead :: .dead :: .dead :: .dead :: .dead :: .dead :: .dead :: .dead :: .dead :: .dead :: .dead :: .dead :: .dead :: .dead :: .dat K :: I rows.length :: I 0 :: .dead :: .dead :: .dead :: .dead :: .dead :: .dead :: .dead :: []), bx ++ [c], bx.length, none, false⟩) =
      some (if b = true then .loop .ret ⟨(.dead :: .dead :: .dead :: .dead :: B true :: .dead :: .dead :: .dead :: .dead :: .dead :: .dead :: .dead :: .dead :: .dead :: .dead :: .dead :: .dead :: .dead :: .dead :: .dead :: .dead :: .dead :: .dead :: .dead :: .dead :: .dead :: .dead :: []), bx ++ [c], bx.length, none, false⟩ else .loop (.exit 0) ⟨(.dead :: .dead :: .dead :: .dead :: .dead :: .dead :: .dead :: .dead :: .dead :: .dead :: .dead :: .dead :: .dead :: .dead :: .dead :: .dead :: .dead :: .dead :: .dead :: .dead :: .dead :: .dead :: .dead :: .dead :: .dead :: .dead :: .dead :: []), bx ++ [c], bx.length, none, false⟩)) :
    stepJ (ev cfg) cfg (.call 29 [.agg [I op, I n, .dat K], I m] bx) = some (.ret (B b) none) := by
  obtain ⟨w, h1, h2', h3⟩ := hK
  have hloop' := hloop [I op, I n, .dat K] (by simp [cellLt])
  cases c1 : (op == 2)
  · cases b <;> simp only [if_true, if_false, Bool.false_eq_true] at hloop' <;> simp (maxSteps := 2000000) only [go_sem, Nat.reduceSub, Nat.reduceAdd, Nat.reduceMul, Nat.reduceLT, Nat.reduceLeDiff, Nat.reduceBEq, Nat.reduceEqDiff, Nat.reduceGT, Int.reduceToNat, Int.reduceLT, Int.reduceNeg, Int.reduceEq, Int.reduceBEq, Int.reduceBNe, Int.reduceLE, Int.reduceGT, Int.reduceGE, Int.reduceNe, Int.reduceAdd, Int.reduceSub, Int.reduceMul, reduceIte, ↓reduceIte, fn29, cx29, Tryd.f29, ti3, ti46, ti48, h1, h3, c1, hloop']
  · rw [c1, Bool.true_and] at h
    cases b <;> simp only [if_true, if_false, Bool.false_eq_true] at hloop' <;> simp (maxSteps := 2000000) only [go_sem, Nat.reduceSub, Nat.reduceAdd, Nat.reduceMul, Nat.reduceLT, Nat.reduceLeDiff, Nat.reduceBEq, Nat.reduceEqDiff, Nat.reduceGT, Int.reduceToNat, Int.reduceLT, Int.reduceNeg, Int.reduceEq, Int.reduceBEq, Int.reduceBNe, Int.reduceLE, Int.reduceGT, Int.reduceGE, Int.reduceNe, Int.reduceAdd, Int.reduceSub, Int.reduceMul, reduceIte, ↓reduceIte, fn29, cx29, Tryd.f29, ti3, ti46, ti48, h1, h3, c1, h, hloop']

/-! ### Same -/
theorem f30_no (hK : IsS 3 rows K) (hK2 : IsS 3 rows2 K2) (h : ((op == op2) && (n == n2)) = false) :
    stepJ (ev cfg) cfg (.call 30 [.agg [I op, I n, .dat K], .agg [I op2, I n2, .dat K2]] bx) = some (.ret (B false) none) := by
  obtain ⟨w, h1, h2', h3⟩ := hK
  obtain ⟨w', j1, j2, j3⟩ := hK2
  cases c1 : (op == op2)
  · simp (maxSteps := 2000000) only [go_sem, Nat.reduceSub, Nat.reduceAdd, Nat.reduceMul, Nat.reduceLT, Nat.reduceLeDiff, Nat.reduceBEq, Nat.reduceEqDiff, Nat.reduceGT, Int.reduceToNat, Int.reduceLT, Int.reduceNeg, Int.reduceEq, Int.reduceBEq, Int.reduceBNe, Int.reduceLE, Int.reduceGT, Int.reduceGE, Int.reduceNe, Int.reduceAdd, Int.reduceSub, Int.reduceMul, reduceIte, ↓reduceIte, fn30, cx30, Tryd.f30, ti3, ti46, ti48, h1, h3, j1, j3, c1]
  · rw [c1, Bool.true_and] at h
    simp (maxSteps := 2000000) only [go_sem, Nat.reduceSub, Nat.reduceAdd, Nat.reduceMul, Nat.reduceLT, Nat.reduceLeDiff, Nat.reduceBEq, Nat.reduceEqDiff, Nat.reduceGT, Int.reduceToNat, Int.reduceLT, Int.reduceNeg, Int.reduceEq, Int.reduceBEq, Int.reduceBNe, Int.reduceLE, Int.reduceGT, Int.reduceGE, Int.reduceNe, Int.reduceAdd, Int.reduceSub, Int.reduceMul, reduceIte, ↓reduceIte, fn30, cx30, Tryd.f30, ti3, ti46, ti48, h1, h3, j1, j3, c1, h]
theorem f30 {b : Bool} (hK : IsS 3 rows K) (hK2 : IsS 3 rows2 K2) (c1 : (op == op2) = true) (c2 : (n == n2) = true) (h : ∀ bx : List Box, ev cfg (.call 56 [.dat K, .dat K2, .clo 30 []] bx) = some (.ret (B b) none)) :
    stepJ (ev cfg) cfg (.call 30 [.agg [I op, I n, .dat K], .agg [I op2, I n2, .dat K2]] bx) = some (.ret (B b) none) := by
  obtain ⟨w, h1, h2', h3⟩ := hK
  obtain ⟨w', j1, j2, j3⟩ := hK2
  simp (maxSteps := 2000000) only [go_sem, Nat.reduceSub, Nat.reduceAdd, Nat.reduceMul, Nat.reduceLT, Nat.reduceLeDiff, Nat.reduceBEq, Nat.reduceEqDiff, Nat.reduceGT, Int.reduceToNat, Int.reduceLT, Int.reduceNeg, Int.reduceEq, Int.reduceBEq, Int.reduceBNe, Int.reduceLE, Int.reduceGT, Int.reduceGE, Int.reduceNe, Int.reduceAdd, Int.reduceSub, Int.reduceMul, reduceIte, ↓reduceIte, fn30, cx30, Tryd.f30, ti3, ti46, ti48, h1, h3, j1, j3, c1, c2, h]
theorem f56_no (hK : IsS 3 rows K) (hK2 : IsS 3 rows2 K2) (h : ((rows.length : Int) != (rows2.length : Int)) = true) :
    stepJ (ev cfg) cfg (.call 56 [.dat K, .dat K2, .clo 30 []] bx) = some (.ret (B false) none) := by
  obtain ⟨w, h1, h2', h3⟩ := hK
  obtain ⟨w', j1, j2, j3⟩ := hK2
  simp (maxSteps := 2000000) only [go_sem, Nat.reduceSub, Nat.reduceAdd, Nat.reduceMul, Nat.reduceLT, Nat.reduceLeDiff, Nat.reduceBEq, Nat.reduceEqDiff, Nat.reduceGT, Int.reduceToNat, Int.reduceLT, Int.reduceNeg, Int.reduceEq, Int.reduceBEq, Int.reduceBNe, Int.reduceLE, Int.reduceGT, Int.reduceGE, Int.reduceNe, Int.reduceAdd, Int.reduceSub, Int.reduceMul, reduceIte, ↓reduceIte, fn56, cx56, Tryd.f56, ti3, ti46, ti48, h1, h3, j1, j3, h]
theorem f56 {b : Bool} (hK : IsS 3 rows K) (hK2 : IsS 3 rows2 K2) (h : ((rows.length : Int) != (rows2.length : Int)) = false)
    (hloop : ev cfg (.loop 56 4 ⟨(.dead :: .dat K2 :: .clo 30 [] :: .dead :: .dead :: .dead :: .dead :: .dead :: .dead :: .dead :: .dead :: .dead :: .dead :: .dead :: .dead :: .dat K :: I rows.length :: I 0 :: .dead :: .dead :: .dead :: .dead :: .dead :: .dead :: .dead :: .dead :: .dead :: .dead :: .dead :: .dead :: .dead :: .dead :: []), bx, bx.length, none, false⟩) =
      some (if b = true then .loop (.exit 0) ⟨(.dead :: .dead :: .dead :: .dead :: .dead :: .dead :: .dead :: .dead :: .dead :: .dead :: .dead :: .dead :: .dead :: .dead :: .dead :: .dead :: .dead :: .dead :: .dead :: .dead :: .dead :: .dead :: .dead :: .dead :: .dead :: .dead :: .dead :: .dead :: .dead :: .dead :: .dead :: .dead :: []), bx, bx.length, none, false⟩ else .loop .ret ⟨(.dead :: .dead :: .dead :: .dead :: .dead :: .dead :: B false :: .dead :: .dead :: .dead :: .dead :: .dead :: .dead :: .dead :: .dead :: .dead :: .dead :: .dead :: .dead :: .dead :: .dead :: .dead :: .dead :: .dead :: .dead :: .dead :: .dead :: .dead :: .dead :: .dead :: .dead :: .dead :: []), bx, bx.length, none, false⟩)) :
    stepJ (ev cfg) cfg (.call 56 [.dat K, .dat K2, .clo 30 []] bx) = some (.ret (B b) none) := by
  obtain ⟨w, h1, h2', h3⟩ := hK
  obtain ⟨w', j1, j2, j3⟩ := hK2
  cases b <;> simp only [if_true, if_false, Bool.false_eq_true] at hloop <;> simp (maxSteps := 2000000) only [go_sem, Nat.reduceSub, Nat.reduceAdd, Nat.reduceMul, Nat.reduceLT, Nat.reduceLeDiff, Nat.reduceBEq, Nat.reduceEqDiff, Nat.reduceGT, Int.reduceToNat, Int.reduceLT, Int.reduceNeg, Int.reduceEq, Int.reduceBEq, Int.reduceBNe, Int.reduceLE, Int.reduceGT, Int.reduceGE, Int.reduceNe, Int.reduceAdd, Int.reduceSub, Int.reduceMul, reduceIte, ↓reduceIte, fn56, cx56, Tryd.f56, ti3, ti46, ti48, h1, h3, j1, j3, h, hloop]
theorem r56 {b : Bool} (hK : IsS 3 rows K) (hK2 : IsS 3 rows2 K2) (hget : rows[i]? = some [dI op, dI n, K']) (hget2 : rows2[i]? = some [dI op2, dI n2, K2']) (hlt : i < rows.length) (hlt2 : i < rows2.length) (hmax : rows.length < 9223372036854775808) (hk : K'.oneC = true) (hk2 : K2'.oneC = true)
    (hcall : ∀ bx : List Box, ev cfg (.call 30 [.agg [I op, I n, .dat K'], .agg [I op2, I n2, .dat K2']] bx) = some (.ret (B b) none)) :
    stepJ (ev cfg) cfg (.loop 56 4 ⟨(.dead :: .dat K2 :: .clo 30 [] :: .dead :: .dead :: .dead :: .dead :: .dead :: .dead :: .dead :: .dead :: .dead :: .dead :: .dead :: .dead :: .dat K :: I rows.length :: I i :: .dead :: .dead :: .dead :: .dead :: .dead :: .dead :: .dead :: .dead :: .dead :: .dead :: .dead :: .dead :: .dead :: .dead :: []), bx, bx.length, none, false⟩) =
      if b = true then ev cfg (.loop 56 4 ⟨(.dead :: .dat K2 :: .clo 30 [] :: .dead :: .dead :: .dead :: .dead :: .dead :: .dead :: .dead :: .dead :: .dead :: .dead :: .dead :: .dead :: .dat K :: I rows.length :: I ((i + 1 : Nat) : Int) :: .dead :: .dead :: .dead :: .dead :: .dead :: .dead :: .dead :: .dead :: .dead :: .dead :: .dead :: .dead :: .dead :: .dead :: []), bx, bx.length, none, false⟩)
      else some (.loop .ret ⟨(.dead :: .dead :: .dead :: .dead :: .dead :: .dead :: B false :: .dead :: .dead :: .dead :: .dead :: .dead :: .dead :: .dead :: .dead :: .dead :: .dead :: .dead :: .dead :: .dead :: .dead :: .dead :: .dead :: .dead :: .dead :: .dead :: .dead :: .dead :: .dead :: .dead :: .dead :: .dead :: []), bx, bx.length, none, false⟩) := by
  obtain ⟨w, h1, h2', h3⟩ := hK
  obtain ⟨w', j1, j2, j3⟩ := hK2
  obtain rfl := isS_w h2' hget
  obtain rfl := isS_w j2 hget2
  cases b <;> simp (maxSteps := 2000000) only [go_sem, Nat.reduceSub, Nat.reduceAdd, Nat.reduceMul, Nat.reduceLT, Nat.reduceLeDiff, Nat.reduceBEq, Nat.reduceEqDiff, Nat.reduceGT, Int.reduceToNat, Int.reduceLT, Int.reduceNeg, Int.reduceEq, Int.reduceBEq, Int.reduceBNe, Int.reduceLE, Int.reduceGT, Int.reduceGE, Int.reduceNe, Int.reduceAdd, Int.reduceSub, Int.reduceMul, reduceIte, ↓reduceIte, fn56, cx56, Tryd.f56, ti3, ti46, ti48, h1, h3, j1, j3, hk, hk2, nat_lt hlt, nat_lt hlt2, nat_neg, Int.toNat_natCast, hget, hget2, hcall, nat_succ hlt hmax, Nat.min_self, List.take_length, Nat.le_refl, Nat.sub_self, List.drop_length]
theorem e56 {k : Nat} (hge : k ≤ i) :
    stepJ (ev cfg) cfg (.loop 56 4 ⟨(.dead :: .dat K2 :: .clo 30 [] :: .dead :: .dead :: .dead :: .dead :: .dead :: .dead :: .dead :: .dead :: .dead :: .dead :: .dead :: .dead :: .dat K :: I k :: I i :: .dead :: .dead :: .dead :: .dead :: .dead :: .dead :: .dead :: .dead :: .dead :: .dead :: .dead :: .dead :: .dead :: .dead :: []), bx, bx.length, none, false⟩) = some (.loop (.exit 0) ⟨(.dead :: .dead :: .dead :: .dead :: .dead :: .dead :: .dead :: .dead :: .dead :: .dead :: .dead :: .dead :: .dead :: .dead :: .dead :: .dead :: .dead :: .dead :: .dead :: .dead :: .dead :: .dead :: .dead :: .dead :: .dead :: .dead :: .dead :: .dead :: .dead :: .dead :: .dead :: .dead :: []), bx, bx.length, none, false⟩) := by
  simp (maxSteps := 2000000) only [go_sem, Nat.reduceSub, Nat.reduceAdd, Nat.reduceMul, Nat.reduceLT, Nat.reduceLeDiff, Nat.reduceBEq, Nat.reduceEqDiff, Nat.reduceGT, Int.reduceToNat, Int.reduceLT, Int.reduceNeg, Int.reduceEq, Int.reduceBEq, Int.reduceBNe, Int.reduceLE, Int.reduceGT, Int.reduceGE, Int.reduceNe, Int.reduceAdd, Int.reduceSub, Int.reduceMul, reduceIte, ↓reduceIte, fn56, cx56, Tryd.f56, ti3, ti46, ti48, nat_ge hge, List.take_length, Nat.le_refl, Nat.sub_self, List.drop_length]

/-! ### the reference's Size -/
theorem r32 {x m : Int} (hK : IsS 3 rows K) (hc : c.all (cellLt (bx.length + 1)) = true) (hget : rows[i]? = some [dI op, dI n, K']) (hlt : i < rows.length) (hmax : rows.length < 9223372036854775808) (hk : K'.oneC = true) (hw : IntKind.wrap .i64 (m + x) = m + x)
    (hcall : ∀ bx : List Box, ev cfg (.call 32 [.agg [I op, I n, .dat K']] bx) = some (.ret (I x) none)) :
    stepJ (ev cfg) cfg (.loop 32 3 ⟨(.dead :: .dead :: .dead :: I m :: .dead :: .dead :: .dead :: .dat K :: I rows.length :: I i :: .dead :: .dead :: .dead :: .dead :: .dead :: .dead :: .dead :: .dead :: .dead :: []), bx ++ [c], bx.length, none, false⟩) =
      ev cfg (.loop 32 3 ⟨(.dead :: .dead :: .dead :: I (m + x) :: .dead :: .dead :: .dead :: .dat K :: I rows.length :: I ((i + 1 : Nat) : Int) :: .dead :: .dead :: .dead :: .dead :: .dead :: .dead :: .dead :: .dead :: .dead :: []), bx ++ [c], bx.length, none, false⟩) := by
  obtain ⟨w, h1, h2, h3⟩ := hK
  obtain rfl := isS_w h2 hget
  simp (maxSteps := 2000000) only [go_sem, Nat.reduceSub, Nat.reduceAdd, Nat.reduceMul, Nat.reduceLT, Nat.reduceLeDiff, Nat.reduceBEq, Nat.reduceEqDiff, Nat.reduceGT, Int.reduceToNat, Int.reduceLT, Int.reduceNeg, Int.reduceEq, Int.reduceBEq, Int.reduceBNe, Int.reduceLE, Int.reduceGT, Int.reduceGE, Int.reduceNe, Int.reduceAdd, Int.reduceSub, Int.reduceMul, reduceIte, ↓reduceIte, fn32, cx32, Tryd.f32, ti3, ti46, ti48, h1, h3, hk, nat_lt hlt, nat_neg, Int.toNat_natCast, hget, hcall, hc, nat_succ hlt hmax, hw]
theorem e32 {m : Int} {n i : Nat} (hc : c.all (cellLt (bx.length + 1)) = true) (hge : n ≤ i) :
    stepJ (ev cfg) cfg (.loop 32 3 ⟨(.dead :: .dead :: .dead :: I m :: .dead :: .dead :: .dead :: .dat K :: I n :: I i :: .dead :: .dead :: .dead :: .dead :: .dead :: .dead :: .dead :: .dead :: .dead :: []), bx ++ [c], bx.length, none, false⟩) = some (.loop (.exit 0) ⟨(.dead :: .dead :: .dead :: I m :: .dead :: .dead :: .dead :: .dead :: .dead :: .dead :: .dead :: .dead :: .dead :: .dead :: .dead :: .dead :: .dead :: .dead :: .dead :: []), bx ++ [c], bx.length, none, false⟩) := by
  simp (maxSteps := 2000000) only [go_sem, Nat.reduceSub, Nat.reduceAdd, Nat.reduceMul, Nat.reduceLT, Nat.reduceLeDiff, Nat.reduceBEq, Nat.reduceEqDiff, Nat.reduceGT, Int.reduceToNat, Int.reduceLT, Int.reduceNeg, Int.reduceEq, Int.reduceBEq, Int.reduceBNe, Int.reduceLE, Int.reduceGT, Int.reduceGE, Int.reduceNe, Int.reduceAdd, Int.reduceSub, Int.reduceMul, reduceIte, ↓reduceIte, fn32, cx32, Tryd.f32, ti3, ti46, ti48, nat_ge hge, hc]
theorem f32 {x : Int} (hK : IsS 3 rows K)
    (hloop : ∀ c : Box, c.all (cellLt (bx.length + 1)) = true → ev cfg (.loop 32 3 ⟨(.dead :: .dead :: .dead :: I 1 :: .dead :: .dead :: .dead :: .dat K :: I rows.length :: I 0 :: .dead :: .dead :: .dead :: .dead :: .dead :: .dead :: .dead :: .dead :: .dead :: []), bx ++ [c], bx.length, none, false⟩) = some (.loop (.exit 0) ⟨(.dead :: .dead :: .dead :: I x :: .dead :: .dead :: .dead :: .dead :: .dead :: .dead :: .dead :: .dead :: .dead :: .dead :: .dead :: .dead :: .dead :: .dead :: .dead :: []), bx ++ [c], bx.length, none, false⟩)) :
    stepJ (ev cfg) cfg (.call 32 [.agg [I op, I n, .dat K]] bx) = some (.ret (I x) none) := by
  obtain ⟨w, h1, h2, h3⟩ := hK
  have hloop' := hloop [I op, I n, .dat K] (by simp [cellLt])
  simp (maxSteps := 2000000) only [go_sem, Nat.reduceSub, Nat.reduceAdd, Nat.reduceMul, Nat.reduceLT, Nat.reduceLeDiff, Nat.reduceBEq, Nat.reduceEqDiff, Nat.reduceGT, Int.reduceToNat, Int.reduceLT, Int.reduceNeg, Int.reduceEq, Int.reduceBEq, Int.reduceBNe, Int.reduceLE, Int.reduceGT, Int.reduceGE, Int.reduceNe, Int.reduceAdd, Int.reduceSub, Int.reduceMul, reduceIte, ↓reduceIte, fn32, cx32, Tryd.f32, ti3, ti46, ti48, h1, h3, hloop']
end
end Go.Proofs.YtgppmcpbphgnnaaDoor
