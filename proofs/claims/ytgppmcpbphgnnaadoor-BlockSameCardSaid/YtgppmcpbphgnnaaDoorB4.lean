/- Rounds of the blocks' functions: depth, size, each. No condition. -/
import Derived.Test.YtgppmcpbphgnnaaDoorB1
set_option linter.unusedSimpArgs false
set_option linter.unusedVariables false
set_option linter.unusedSectionVars false
namespace Go.Proofs.YtgppmcpbphgnnaaDoor
open Go Go.Vx
attribute [local congr] seqO_congr iteB_congr
attribute [local go_sem ↓] sO_some sO_none iB_true iB_false
attribute [local go_sem] stepJ sO_some sO_none iB_true iB_false seqO_iteB startSt acode aops aopR wantsR aopX isFnCall aop fetch takeAt moveTup St.val PV.ofValue D.ofCell put isTmp PV.maySrc aBin eqFieldsA eqCell binLit eqKind abool aint aUn thenC inBlockC polOf aConv retOf aress ares okRes okAl dstsOf stays outOf tupOf PV.noPtr PV.isDat PV.isOwn PV.strip aLoad frz0 frz1 frz2 frz3 frz4 frz5 frz6 frz7 frz8 frz9 frz10 frz11 frz12 freezeC PV.frz PV.frozen aStore aFieldAddr aIndexAddr addOff rowPtr rd_eq rdV rdPV_dat rdPV_own rdI_nil rdI_sl oneC_lit oneC_nil oneC_sl Rd.rows Rd.fits cut setCells isCell_dat isCell_own isCell_ptr isCell_iptr isCell_clo cells_dat cells_own cells_ptr cells_iptr cells_clo cells_agg toD_dat toDs aBuild canBuild aRows fetchs fetchN fetchNs aSlice aAppend builtin_len lenV builtin_append builtin_max builtin_min maxV minV ptrBox ptrBoxes prep prepN fin noAlias aopN aopNX aopNR anseg asegs segFree segsOf atHead atExit loopCode loopAt gc refLt cl_dat cl_own cl_ptr cl_clo cl_iptr cl_dead cl_alias cl_eptr ridOf keepAt St.at St.mark touch TK.isAgg Value.oneCell' iteB_not wl_0 wl_1 wl_2 wl_3 wl_4 wl_5 wl_6 wl_7 wl_8 wl_9 wl_10 wl_11 wl_12 wl_13 wl_14 wl_15 wl_16 wl_17 wl_18 wl_19 wl_20 wl_21 wl_22 wl_23 wl_24 wl_25 wl_26 wl_27 wl_28 wl_29 wl_30 beq_true' beq_false' app_get app_get0 app_set app_set0 app_take app_takek app_drop set_old get_old get_set take_set take_setk drop_set get_setn get_setn0 set_setn set_setn0 lt_addk List.set_set List.getElem?_toArray List.size_toArray Array.size_empty lt_irr add_lt_irr lt_add add_lt_add le_add add_sub List.getD_cons_zero List.getD_cons_succ List.set_cons_zero List.set_cons_succ List.replicate List.length_cons List.length_nil List.length_set List.cons_append List.nil_append List.append_nil List.append_assoc List.map_cons List.map_nil List.all_cons List.all_nil List.any_cons List.any_nil List.take_succ_cons List.take_zero List.take_nil List.drop_succ_cons List.drop_zero List.drop_nil List.zip_cons_cons List.zip_nil_left List.zip_nil_right List.find? List.contains List.elem List.getElem?_cons_zero List.getElem?_cons_succ List.getElem?_nil List.length_append List.length_map List.isEmpty Option.getD_none Option.getD_some Option.map_none Option.map_some Option.bind_some Option.bind_none Option.isSome_none Option.isSome_some Nat.add_zero Nat.zero_add Nat.add_assoc ne_eq not_false_eq_true not_true_eq_false BEq.rfl beq_self_eq_true if_true if_false Bool.false_eq_true Bool.and_true Bool.true_and Bool.and_false Bool.false_and Bool.or_true Bool.or_false Bool.true_or Bool.false_or Bool.not_false Bool.not_true Bool.not_not Bool.and_self and_self and_true true_and and_false false_and or_self or_false false_or or_true true_or decide_true decide_false
set_option maxHeartbeats 4000000
set_option maxRecDepth 10000

section
variable {bx : List Box} {c : Box} {rows : List (List D)} {K L : D} {lr : List (List D)} {i : Nat} {k n a : Int} {K' L' : D}

/-! ### deep -/
theorem r57 {x m : Int} (hK : IsS 5 rows K) (hc : c.all (cellLt (bx.length + 1)) = true) (hget : rows[i]? = some [dI k, dI n, dI a, K', L']) (hlt : i < rows.length) (hmax : rows.length < 9223372036854775808) (hk : K'.oneC = true) (hL : L'.oneC = true)
    (hcall : ∀ bx : List Box, ev cfg (.call 57 [.agg [I k, I n, I a, .dat K', .dat L']] bx) = some (.ret (I x) none)) :
    stepJ (ev cfg) cfg (.loop 57 3 ⟨(.dead :: .dead :: .dead :: I m :: .dead :: .dead :: .dead :: .dat K :: I rows.length :: I i :: .dead :: .dead :: .dead :: .dead :: .dead :: .dead :: .dead :: .dead :: .dead :: .dead :: []), bx ++ [c], bx.length, none, false⟩) =
      ev cfg (.loop 57 3 ⟨(.dead :: .dead :: .dead :: I (if m < x then x else m) :: .dead :: .dead :: .dead :: .dat K :: I rows.length :: I ((i + 1 : Nat) : Int) :: .dead :: .dead :: .dead :: .dead :: .dead :: .dead :: .dead :: .dead :: .dead :: .dead :: []), bx ++ [c], bx.length, none, false⟩) := by
  obtain ⟨w, h1, h2, h3⟩ := hK
  obtain rfl := isS_w h2 hget
  simp only [go_sem, Nat.reduceSub, Nat.reduceAdd, Nat.reduceMul, Nat.reduceLT, Nat.reduceLeDiff, Nat.reduceBEq, Nat.reduceEqDiff, Nat.reduceGT, Int.reduceToNat, Int.reduceLT, Int.reduceNeg, Int.reduceEq, Int.reduceLE, Int.reduceGT, Int.reduceGE, Int.reduceNe, Int.reduceAdd, Int.reduceSub, Int.reduceMul, reduceIte, ↓reduceIte, fn57, cx57, Tryd.f57, ti3, ti22, ti23, ti25, ti71, h1, h3, hk, hL, nat_lt hlt, nat_neg, Int.toNat_natCast, hget, hcall, hc, nat_succ hlt hmax, Nat.min_self]
theorem e57 {m : Int} {n i : Nat} (hc : c.all (cellLt (bx.length + 1)) = true) (hge : n ≤ i) :
    stepJ (ev cfg) cfg (.loop 57 3 ⟨(.dead :: .dead :: .dead :: I m :: .dead :: .dead :: .dead :: .dat K :: I n :: I i :: .dead :: .dead :: .dead :: .dead :: .dead :: .dead :: .dead :: .dead :: .dead :: .dead :: []), bx ++ [c], bx.length, none, false⟩) = some (.loop (.exit 0) ⟨(.dead :: .dead :: .dead :: I m :: .dead :: .dead :: .dead :: .dead :: .dead :: .dead :: .dead :: .dead :: .dead :: .dead :: .dead :: .dead :: .dead :: .dead :: .dead :: .dead :: []), bx ++ [c], bx.length, none, false⟩) := by
  simp only [go_sem, Nat.reduceSub, Nat.reduceAdd, Nat.reduceMul, Nat.reduceLT, Nat.reduceLeDiff, Nat.reduceBEq, Nat.reduceEqDiff, Nat.reduceGT, Int.reduceToNat, Int.reduceLT, Int.reduceNeg, Int.reduceEq, Int.reduceLE, Int.reduceGT, Int.reduceGE, Int.reduceNe, Int.reduceAdd, Int.reduceSub, Int.reduceMul, reduceIte, ↓reduceIte, fn57, cx57, Tryd.f57, ti3, ti22, ti23, ti25, ti71, nat_ge hge, hc]
theorem f57 {x : Int} (hK : IsS 5 rows K) (hL : IsS 3 lr L) (hx : IntKind.wrap .i64 (x + 1) = x + 1)
    (hloop : ∀ c : Box, c.all (cellLt (bx.length + 1)) = true → ev cfg (.loop 57 3 ⟨(.dead :: .dead :: .dead :: I 0 :: .dead :: .dead :: .dead :: .dat K :: I rows.length :: I 0 :: .dead :: .dead :: .dead :: .dead :: .dead :: .dead :: .dead :: .dead :: .dead :: .dead :: []), bx ++ [c], bx.length, none, false⟩) = some (.loop (.exit 0) ⟨(.dead :: .dead :: .dead :: I x :: .dead :: .dead :: .dead :: .dead :: .dead :: .dead :: .dead :: .dead :: .dead :: .dead :: .dead :: .dead :: .dead :: .dead :: .dead :: .dead :: []), bx ++ [c], bx.length, none, false⟩)) :
    stepJ (ev cfg) cfg (.call 57 [.agg [I k, I n, I a, .dat K, .dat L]] bx) = some (.ret (I (x + 1)) none) := by
  obtain ⟨w, h1, h2, h3⟩ := hK
  obtain ⟨wl, l1, l2, l3⟩ := hL
  have hloop' := hloop [I k, I n, I a, .dat K, .dat L] (by simp [cellLt])
  simp only [go_sem, Nat.reduceSub, Nat.reduceAdd, Nat.reduceMul, Nat.reduceLT, Nat.reduceLeDiff, Nat.reduceBEq, Nat.reduceEqDiff, Nat.reduceGT, Int.reduceToNat, Int.reduceLT, Int.reduceNeg, Int.reduceEq, Int.reduceLE, Int.reduceGT, Int.reduceGE, Int.reduceNe, Int.reduceAdd, Int.reduceSub, Int.reduceMul, reduceIte, ↓reduceIte, fn57, cx57, Tryd.f57, ti3, ti22, ti23, ti25, ti71, h1, h3, l1, l3, hloop', hx]

/-! ### the reference's depth -/
theorem r36 {x m : Int} (hK : IsS 5 rows K) (hc : c.all (cellLt (bx.length + 1)) = true) (hget : rows[i]? = some [dI k, dI n, dI a, K', L']) (hlt : i < rows.length) (hmax : rows.length < 9223372036854775808) (hk : K'.oneC = true) (hL : L'.oneC = true)
    (hcall : ∀ bx : List Box, ev cfg (.call 36 [.agg [I k, I n, I a, .dat K', .dat L']] bx) = some (.ret (I x) none)) :
    stepJ (ev cfg) cfg (.loop 36 3 ⟨(.dead :: .dead :: .dead :: I m :: .dead :: .dead :: .dead :: .dead :: .dat K :: I rows.length :: I i :: .dead :: .dead :: .dead :: .dead :: .dead :: .dead :: .dead :: .dead :: .dead :: .dead :: .dead :: .dead :: []), bx ++ [c], bx.length, none, false⟩) =
      ev cfg (.loop 36 3 ⟨(.dead :: .dead :: .dead :: I (if m < x then x else m) :: .dead :: .dead :: .dead :: .dead :: .dat K :: I rows.length :: I ((i + 1 : Nat) : Int) :: .dead :: .dead :: .dead :: .dead :: .dead :: .dead :: .dead :: .dead :: .dead :: .dead :: .dead :: .dead :: []), bx ++ [c], bx.length, none, false⟩) := by
  obtain ⟨w, h1, h2, h3⟩ := hK
  obtain rfl := isS_w h2 hget
  cases hx : decide (x > m)
  · have hx' : ¬ m < x := by simpa using hx
    simp only [go_sem, Nat.reduceSub, Nat.reduceAdd, Nat.reduceMul, Nat.reduceLT, Nat.reduceLeDiff, Nat.reduceBEq, Nat.reduceEqDiff, Nat.reduceGT, Int.reduceToNat, Int.reduceLT, Int.reduceNeg, Int.reduceEq, Int.reduceLE, Int.reduceGT, Int.reduceGE, Int.reduceNe, Int.reduceAdd, Int.reduceSub, Int.reduceMul, reduceIte, ↓reduceIte, fn36, cx36, Tryd.f36, ti3, ti31, ti32, ti34, ti72, h1, h3, hk, hL, nat_lt hlt, nat_neg, Int.toNat_natCast, hget, hcall, hc, nat_succ hlt hmax, Nat.min_self, hx, hx']
  · have hx' : m < x := by simpa using hx
    simp only [go_sem, Nat.reduceSub, Nat.reduceAdd, Nat.reduceMul, Nat.reduceLT, Nat.reduceLeDiff, Nat.reduceBEq, Nat.reduceEqDiff, Nat.reduceGT, Int.reduceToNat, Int.reduceLT, Int.reduceNeg, Int.reduceEq, Int.reduceLE, Int.reduceGT, Int.reduceGE, Int.reduceNe, Int.reduceAdd, Int.reduceSub, Int.reduceMul, reduceIte, ↓reduceIte, fn36, cx36, Tryd.f36, ti3, ti31, ti32, ti34, ti72, h1, h3, hk, hL, nat_lt hlt, nat_neg, Int.toNat_natCast, hget, hcall, hc, nat_succ hlt hmax, Nat.min_self, hx, hx']
theorem e36 {m : Int} {n i : Nat} (hc : c.all (cellLt (bx.length + 1)) = true) (hge : n ≤ i) :
    stepJ (ev cfg) cfg (.loop 36 3 ⟨(.dead :: .dead :: .dead :: I m :: .dead :: .dead :: .dead :: .dead :: .dat K :: I n :: I i :: .dead :: .dead :: .dead :: .dead :: .dead :: .dead :: .dead :: .dead :: .dead :: .dead :: .dead :: .dead :: []), bx ++ [c], bx.length, none, false⟩) = some (.loop (.exit 0) ⟨(.dead :: .dead :: .dead :: I m :: .dead :: .dead :: .dead :: .dead :: .dead :: .dead :: .dead :: .dead :: .dead :: .dead :: .dead :: .dead :: .dead :: .dead :: .dead :: .dead :: .dead :: .dead :: .dead :: []), bx ++ [c], bx.length, none, false⟩) := by
  simp only [go_sem, Nat.reduceSub, Nat.reduceAdd, Nat.reduceMul, Nat.reduceLT, Nat.reduceLeDiff, Nat.reduceBEq, Nat.reduceEqDiff, Nat.reduceGT, Int.reduceToNat, Int.reduceLT, Int.reduceNeg, Int.reduceEq, Int.reduceLE, Int.reduceGT, Int.reduceGE, Int.reduceNe, Int.reduceAdd, Int.reduceSub, Int.reduceMul, reduceIte, ↓reduceIte, fn36, cx36, Tryd.f36, ti3, ti31, ti32, ti34, ti72, nat_ge hge, hc]
theorem f36 {x : Int} (hK : IsS 5 rows K) (hL : IsS 3 lr L) (hx : IntKind.wrap .i64 (x + 1) = x + 1)
    (hloop : ∀ c : Box, c.all (cellLt (bx.length + 1)) = true → ev cfg (.loop 36 3 ⟨(.dead :: .dead :: .dead :: I 0 :: .dead :: .dead :: .dead :: .dead :: .dat K :: I rows.length :: I 0 :: .dead :: .dead :: .dead :: .dead :: .dead :: .dead :: .dead :: .dead :: .dead :: .dead :: .dead :: .dead :: []), bx ++ [c], bx.length, none, false⟩) = some (.loop (.exit 0) ⟨(.dead :: .dead :: .dead :: I x :: .dead :: .dead :: .dead :: .dead :: .dead :: .dead :: .dead :: .dead :: .dead :: .dead :: .dead :: .dead :: .dead :: .dead :: .dead :: .dead :: .dead :: .dead :: .dead :: []), bx ++ [c], bx.length, none, false⟩)) :
    stepJ (ev cfg) cfg (.call 36 [.agg [I k, I n, I a, .dat K, .dat L]] bx) = some (.ret (I (x + 1)) none) := by
  obtain ⟨w, h1, h2, h3⟩ := hK
  obtain ⟨wl, l1, l2, l3⟩ := hL
  have hloop' := hloop [I k, I n, I a, .dat K, .dat L] (by simp [cellLt])
  simp only [go_sem, Nat.reduceSub, Nat.reduceAdd, Nat.reduceMul, Nat.reduceLT, Nat.reduceLeDiff, Nat.reduceBEq, Nat.reduceEqDiff, Nat.reduceGT, Int.reduceToNat, Int.reduceLT, Int.reduceNeg, Int.reduceEq, Int.reduceLE, Int.reduceGT, Int.reduceGE, Int.reduceNe, Int.reduceAdd, Int.reduceSub, Int.reduceMul, reduceIte, ↓reduceIte, fn36, cx36, Tryd.f36, ti3, ti31, ti32, ti34, ti72, h1, h3, l1, l3, hloop', hx]

/-! ### the reference's size -/
theorem r16 {x m : Int} (hK : IsS 5 rows K) (hc : c.all (cellLt (bx.length + 1)) = true) (hget : rows[i]? = some [dI k, dI n, dI a, K', L']) (hlt : i < rows.length) (hmax : rows.length < 9223372036854775808) (hk : K'.oneC = true) (hL : L'.oneC = true) (hw : IntKind.wrap .i64 (m + x) = m + x)
    (hcall : ∀ bx : List Box, ev cfg (.call 16 [.agg [I k, I n, I a, .dat K', .dat L']] bx) = some (.ret (I x) none)) :
    stepJ (ev cfg) cfg (.loop 16 3 ⟨(.dead :: .dead :: .dead :: I m :: .dead :: .dead :: .dead :: .dat K :: I rows.length :: I i :: .dead :: .dead :: .dead :: .dead :: .dead :: .dead :: .dead :: .dead :: .dead :: []), bx ++ [c], bx.length, none, false⟩) =
      ev cfg (.loop 16 3 ⟨(.dead :: .dead :: .dead :: I (m + x) :: .dead :: .dead :: .dead :: .dat K :: I rows.length :: I ((i + 1 : Nat) : Int) :: .dead :: .dead :: .dead :: .dead :: .dead :: .dead :: .dead :: .dead :: .dead :: []), bx ++ [c], bx.length, none, false⟩) := by
  obtain ⟨w, h1, h2, h3⟩ := hK
  obtain rfl := isS_w h2 hget
  simp only [go_sem, Nat.reduceSub, Nat.reduceAdd, Nat.reduceMul, Nat.reduceLT, Nat.reduceLeDiff, Nat.reduceBEq, Nat.reduceEqDiff, Nat.reduceGT, Int.reduceToNat, Int.reduceLT, Int.reduceNeg, Int.reduceEq, Int.reduceLE, Int.reduceGT, Int.reduceGE, Int.reduceNe, Int.reduceAdd, Int.reduceSub, Int.reduceMul, reduceIte, ↓reduceIte, fn16, cx16, Tryd.f16, ti3, ti31, ti32, ti34, ti72, h1, h3, hk, hL, nat_lt hlt, nat_neg, Int.toNat_natCast, hget, hcall, hc, nat_succ hlt hmax, Nat.min_self, hw]
theorem e16 {m : Int} {n i : Nat} (hc : c.all (cellLt (bx.length + 1)) = true) (hge : n ≤ i) :
    stepJ (ev cfg) cfg (.loop 16 3 ⟨(.dead :: .dead :: .dead :: I m :: .dead :: .dead :: .dead :: .dat K :: I n :: I i :: .dead :: .dead :: .dead :: .dead :: .dead :: .dead :: .dead :: .dead :: .dead :: []), bx ++ [c], bx.length, none, false⟩) = some (.loop (.exit 0) ⟨(.dead :: .dead :: .dead :: I m :: .dead :: .dead :: .dead :: .dead :: .dead :: .dead :: .dead :: .dead :: .dead :: .dead :: .dead :: .dead :: .dead :: .dead :: .dead :: []), bx ++ [c], bx.length, none, false⟩) := by
  simp only [go_sem, Nat.reduceSub, Nat.reduceAdd, Nat.reduceMul, Nat.reduceLT, Nat.reduceLeDiff, Nat.reduceBEq, Nat.reduceEqDiff, Nat.reduceGT, Int.reduceToNat, Int.reduceLT, Int.reduceNeg, Int.reduceEq, Int.reduceLE, Int.reduceGT, Int.reduceGE, Int.reduceNe, Int.reduceAdd, Int.reduceSub, Int.reduceMul, reduceIte, ↓reduceIte, fn16, cx16, Tryd.f16, ti3, ti31, ti32, ti34, ti72, nat_ge hge, hc]
theorem f16 {x : Int} (hK : IsS 5 rows K) (hL : IsS 3 lr L)
    (hloop : ∀ c : Box, c.all (cellLt (bx.length + 1)) = true → ev cfg (.loop 16 3 ⟨(.dead :: .dead :: .dead :: I 1 :: .dead :: .dead :: .dead :: .dat K :: I rows.length :: I 0 :: .dead :: .dead :: .dead :: .dead :: .dead :: .dead :: .dead :: .dead :: .dead :: []), bx ++ [c], bx.length, none, false⟩) = some (.loop (.exit 0) ⟨(.dead :: .dead :: .dead :: I x :: .dead :: .dead :: .dead :: .dead :: .dead :: .dead :: .dead :: .dead :: .dead :: .dead :: .dead :: .dead :: .dead :: .dead :: .dead :: []), bx ++ [c], bx.length, none, false⟩)) :
    stepJ (ev cfg) cfg (.call 16 [.agg [I k, I n, I a, .dat K, .dat L]] bx) = some (.ret (I x) none) := by
  obtain ⟨w, h1, h2, h3⟩ := hK
  obtain ⟨wl, l1, l2, l3⟩ := hL
  have hloop' := hloop [I k, I n, I a, .dat K, .dat L] (by simp [cellLt])
  simp only [go_sem, Nat.reduceSub, Nat.reduceAdd, Nat.reduceMul, Nat.reduceLT, Nat.reduceLeDiff, Nat.reduceBEq, Nat.reduceEqDiff, Nat.reduceGT, Int.reduceToNat, Int.reduceLT, Int.reduceNeg, Int.reduceEq, Int.reduceLE, Int.reduceGT, Int.reduceGE, Int.reduceNe, Int.reduceAdd, Int.reduceSub, Int.reduceMul, reduceIte, ↓reduceIte, fn16, cx16, Tryd.f16, ti3, ti31, ti32, ti34, ti72, h1, h3, l1, l3, hloop']

/-! ### each: a closure over one box -/
theorem r39 {l : Nat} {u v : Box} {g : FuncId} (hK : IsS 5 rows K) (hl : l < bx.length) (hb : bx[l]? = some u) (hc : c.all (cellLt (bx.length + 1)) = true) (hget : rows[i]? = some [dI k, dI n, dI a, K', L']) (hlt : i < rows.length) (hmax : rows.length < 9223372036854775808) (hk : K'.oneC = true) (hL : L'.oneC = true)
    (lo : Option Nat) (hlo : lo = none ∨ lo = some l)
    (hcall : ∀ bx : List Box, bx[l]? = some u → ev cfg (.call 39 [.agg [I k, I n, I a, .dat K', .dat L'], .clo g [l]] bx) = some (.ret (.tup []) (some ⟨bx.set l v, l, false⟩))) :
    stepJ (ev cfg) cfg (.loop 39 3 ⟨(.dead :: .clo g [l] :: .dead :: .dead :: .dead :: .dead :: .dead :: .dead :: .dead :: .dead :: .dat K :: I rows.length :: I i :: .dead :: .dead :: .dead :: .dead :: .dead :: .dead :: .dead :: []), bx ++ [c], bx.length, lo, false⟩) =
      ev cfg (.loop 39 3 ⟨(.dead :: .clo g [l] :: .dead :: .dead :: .dead :: .dead :: .dead :: .dead :: .dead :: .dead :: .dat K :: I rows.length :: I ((i + 1 : Nat) : Int) :: .dead :: .dead :: .dead :: .dead :: .dead :: .dead :: .dead :: []), bx.set l v ++ [c], bx.length, some l, false⟩) := by
  obtain ⟨w, h1, h2, h3⟩ := hK
  obtain rfl := isS_w h2 hget
  have hcall' : ∀ r : Box, ev cfg (.call 39 [.agg [I k, I n, I a, .dat K', .dat L'], .clo g [l]] (bx ++ [c, r])) = some (.ret (.tup []) (some ⟨bx.set l v ++ [c, r], l, false⟩)) := by
    intro r
    rw [hcall _ (by rw [get_old hl]; exact hb), set_old hl]
  rcases hlo with rfl | rfl <;> simp only [go_sem, Nat.reduceSub, Nat.reduceAdd, Nat.reduceMul, Nat.reduceLT, Nat.reduceLeDiff, Nat.reduceBEq, Nat.reduceEqDiff, Nat.reduceGT, Int.reduceToNat, Int.reduceLT, Int.reduceNeg, Int.reduceEq, Int.reduceLE, Int.reduceGT, Int.reduceGE, Int.reduceNe, Int.reduceAdd, Int.reduceSub, Int.reduceMul, reduceIte, ↓reduceIte, fn39, cx39, Tryd.f39, ti3, ti22, ti23, ti25, ti71, h1, h3, hk, hL, nat_lt hlt, nat_neg, Int.toNat_natCast, hget, hcall', hc, hl, nat_succ hlt hmax, Nat.min_self]
theorem e39 {l : Nat} {g : FuncId} {n i : Nat} (hl : l < bx.length) (hc : c.all (cellLt (bx.length + 1)) = true) (hge : n ≤ i) (lo : Option Nat) :
    stepJ (ev cfg) cfg (.loop 39 3 ⟨(.dead :: .clo g [l] :: .dead :: .dead :: .dead :: .dead :: .dead :: .dead :: .dead :: .dead :: .dat K :: I n :: I i :: .dead :: .dead :: .dead :: .dead :: .dead :: .dead :: .dead :: []), bx ++ [c], bx.length, lo, false⟩) = some (.loop (.exit 0) ⟨(.dead :: .dead :: .dead :: .dead :: .dead :: .dead :: .dead :: .dead :: .dead :: .dead :: .dead :: .dead :: .dead :: .dead :: .dead :: .dead :: .dead :: .dead :: .dead :: .dead :: []), bx ++ [c], bx.length, lo, false⟩) := by
  simp only [go_sem, Nat.reduceSub, Nat.reduceAdd, Nat.reduceMul, Nat.reduceLT, Nat.reduceLeDiff, Nat.reduceBEq, Nat.reduceEqDiff, Nat.reduceGT, Int.reduceToNat, Int.reduceLT, Int.reduceNeg, Int.reduceEq, Int.reduceLE, Int.reduceGT, Int.reduceGE, Int.reduceNe, Int.reduceAdd, Int.reduceSub, Int.reduceMul, reduceIte, ↓reduceIte, fn39, cx39, Tryd.f39, ti3, ti22, ti23, ti25, ti71, nat_ge hge, hc, hl]
theorem f39 {l : Nat} {u v w' : Box} {g : FuncId} (hK : IsS 5 rows K) (hL : IsS 3 lr L) (hl : l < bx.length) (hb : bx[l]? = some u)
    (hg : ∀ bx : List Box, bx[l]? = some u → ev cfg (.call g [.agg [I k, I n, I a, .dat K, .dat L], .ptr l 0] bx) = some (.ret (.tup []) (some ⟨bx.set l v, l, false⟩)))
    (hloop : ∀ c : Box, c.all (cellLt (bx.length + 1)) = true → ev cfg (.loop 39 3 ⟨(.dead :: .clo g [l] :: .dead :: .dead :: .dead :: .dead :: .dead :: .dead :: .dead :: .dead :: .dat K :: I rows.length :: I 0 :: .dead :: .dead :: .dead :: .dead :: .dead :: .dead :: .dead :: []), bx.set l v ++ [c], bx.length, some l, false⟩) = some (.loop (.exit 0) ⟨(.dead :: .dead :: .dead :: .dead :: .dead :: .dead :: .dead :: .dead :: .dead :: .dead :: .dead :: .dead :: .dead :: .dead :: .dead :: .dead :: .dead :: .dead :: .dead :: .dead :: []), bx.set l w' ++ [c], bx.length, some l, false⟩)) :
    stepJ (ev cfg) cfg (.call 39 [.agg [I k, I n, I a, .dat K, .dat L], .clo g [l]] bx) = some (.ret (.tup []) (some ⟨bx.set l w', l, false⟩)) := by
  obtain ⟨w, h1, h2, h3⟩ := hK
  obtain ⟨wl, l1, l2, l3⟩ := hL
  have hloop' := hloop [I k, I n, I a, .dat K, .dat L] (by simp [cellLt])
  have hg' : ∀ r : Box, ev cfg (.call g [.agg [I k, I n, I a, .dat K, .dat L], .ptr l 0] (bx ++ [r])) = some (.ret (.tup []) (some ⟨bx.set l v ++ [r], l, false⟩)) := by
    intro r
    rw [hg _ (by rw [get_old hl]; exact hb), set_old hl]
  simp only [go_sem, Nat.reduceSub, Nat.reduceAdd, Nat.reduceMul, Nat.reduceLT, Nat.reduceLeDiff, Nat.reduceBEq, Nat.reduceEqDiff, Nat.reduceGT, Int.reduceToNat, Int.reduceLT, Int.reduceNeg, Int.reduceEq, Int.reduceLE, Int.reduceGT, Int.reduceGE, Int.reduceNe, Int.reduceAdd, Int.reduceSub, Int.reduceMul, reduceIte, ↓reduceIte, fn39, cx39, Tryd.f39, ti3, ti22, ti23, ti25, ti71, h1, h3, l1, l3, hl, hb, hg', hloop']

/-! ### what Size and wrong hand on -/
theorem f40 {l : Nat} {m : Int} (hK : IsS 5 rows K) (hL : IsS 3 lr L) (hl : l < bx.length) (hb : bx[l]? = some [I m]) :
    stepJ (ev cfg) cfg (.call 40 [.agg [I k, I n, I a, .dat K, .dat L], .ptr l 0] bx) = some (.ret (.tup []) (some ⟨bx.set l [I (IntKind.wrap .i64 (m + 1))], l, false⟩)) := by
  obtain ⟨w, h1, h2, h3⟩ := hK
  obtain ⟨wl, l1, l2, l3⟩ := hL
  simp only [go_sem, Nat.reduceSub, Nat.reduceAdd, Nat.reduceMul, Nat.reduceLT, Nat.reduceLeDiff, Nat.reduceBEq, Nat.reduceEqDiff, Nat.reduceGT, Int.reduceToNat, Int.reduceLT, Int.reduceNeg, Int.reduceEq, Int.reduceLE, Int.reduceGT, Int.reduceGE, Int.reduceNe, Int.reduceAdd, Int.reduceSub, Int.reduceMul, reduceIte, ↓reduceIte, fn40, cx40, Tryd.f40, ti3, h1, h3, l1, l3, hl, hb]
theorem f15 {m : Int} (hK : IsS 5 rows K) (hL : IsS 3 lr L)
    (he : ∀ c : Box, ev cfg (.call 39 [.agg [I k, I n, I a, .dat K, .dat L], .clo 40 [bx.length + 1]] (bx ++ [c, [I 0]])) = some (.ret (.tup []) (some ⟨bx ++ [c, [I m]], bx.length + 1, false⟩))) :
    stepJ (ev cfg) cfg (.call 15 [.agg [I k, I n, I a, .dat K, .dat L]] bx) = some (.ret (I m) none) := by
  obtain ⟨w, h1, h2, h3⟩ := hK
  obtain ⟨wl, l1, l2, l3⟩ := hL
  simp only [go_sem, Nat.reduceSub, Nat.reduceAdd, Nat.reduceMul, Nat.reduceLT, Nat.reduceLeDiff, Nat.reduceBEq, Nat.reduceEqDiff, Nat.reduceGT, Int.reduceToNat, Int.reduceLT, Int.reduceNeg, Int.reduceEq, Int.reduceLE, Int.reduceGT, Int.reduceGE, Int.reduceNe, Int.reduceAdd, Int.reduceSub, Int.reduceMul, reduceIte, ↓reduceIte, fn15, cx15, Tryd.f15, ti3, ti22, ti23, ti25, ti71, h1, h3, l1, l3, he]
theorem f34 {m : Bool} (hK : IsS 5 rows K) (hL : IsS 3 lr L)
    (he : ∀ c : Box, ev cfg (.call 39 [.agg [I k, I n, I a, .dat K, .dat L], .clo 58 [bx.length + 1]] (bx ++ [c, [B false]])) = some (.ret (.tup []) (some ⟨bx ++ [c, [B m]], bx.length + 1, false⟩))) :
    stepJ (ev cfg) cfg (.call 34 [.agg [I k, I n, I a, .dat K, .dat L]] bx) = some (.ret (B m) none) := by
  obtain ⟨w, h1, h2, h3⟩ := hK
  obtain ⟨wl, l1, l2, l3⟩ := hL
  simp only [go_sem, Nat.reduceSub, Nat.reduceAdd, Nat.reduceMul, Nat.reduceLT, Nat.reduceLeDiff, Nat.reduceBEq, Nat.reduceEqDiff, Nat.reduceGT, Int.reduceToNat, Int.reduceLT, Int.reduceNeg, Int.reduceEq, Int.reduceLE, Int.reduceGT, Int.reduceGE, Int.reduceNe, Int.reduceAdd, Int.reduceSub, Int.reduceMul, reduceIte, ↓reduceIte, fn34, cx34, Tryd.f34, ti3, ti4, ti22, ti23, ti25, ti71, h1, h3, l1, l3, he]
theorem f33 {d z : Int} (hK : IsS 5 rows K) (hL : IsS 3 lr L)
    (hd : ∀ bx : List Box, ev cfg (.call 57 [.agg [I k, I n, I a, .dat K, .dat L]] bx) = some (.ret (I d) none))
    (hz : ∀ bx : List Box, ev cfg (.call 15 [.agg [I k, I n, I a, .dat K, .dat L]] bx) = some (.ret (I z) none)) :
    stepJ (ev cfg) cfg (.call 33 [.agg [I k, I n, I a, .dat K, .dat L]] bx) = some (.ret (B (decide (d > 24) || decide (z > 96))) none) := by
  obtain ⟨w, h1, h2, h3⟩ := hK
  obtain ⟨wl, l1, l2, l3⟩ := hL
  cases c : decide (d > 24) <;> simp only [go_sem, Nat.reduceSub, Nat.reduceAdd, Nat.reduceMul, Nat.reduceLT, Nat.reduceLeDiff, Nat.reduceBEq, Nat.reduceEqDiff, Nat.reduceGT, Int.reduceToNat, Int.reduceLT, Int.reduceNeg, Int.reduceEq, Int.reduceLE, Int.reduceGT, Int.reduceGE, Int.reduceNe, Int.reduceAdd, Int.reduceSub, Int.reduceMul, reduceIte, ↓reduceIte, fn33, cx33, Tryd.f33, ti3, ti22, ti23, ti25, ti71, h1, h3, l1, l3, hd, hz, c]
end

end Go.Proofs.YtgppmcpbphgnnaaDoor
