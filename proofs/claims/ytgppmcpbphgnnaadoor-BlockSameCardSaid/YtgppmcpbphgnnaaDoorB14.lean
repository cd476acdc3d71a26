/- Rounds: Same of the program, the small case that each statement asks, the statement. No condition. -/
import Derived.Test.YtgppmcpbphgnnaaDoorB1
set_option linter.unusedSimpArgs false
set_option linter.unusedVariables false
set_option linter.unusedSectionVars false
namespace Go.Proofs.YtgppmcpbphgnnaaDoor
open Go Go.Vx
attribute [local congr] seqO_congr iteB_congr
attribute [local go_sem ↓] sO_some sO_none iB_true iB_false
attribute [local go_sem] stepJ sO_some sO_none iB_true iB_false seqO_iteB startSt acode aops aopR wantsR aopX isFnCall aop fetch takeAt moveTup St.val PV.ofValue D.ofCell put isTmp PV.maySrc aBin eqFieldsA eqCell binLit eqKind abool aint aUn thenC inBlockC polOf aConv retOf aress ares okRes okAl dstsOf stays outOf tupOf PV.noPtr PV.isDat PV.isOwn PV.strip aLoad frz0 frz1 frz2 frz3 frz4 frz5 frz6 frz7 frz8 frz9 frz10 frz11 frz12 freezeC PV.frz PV.frozen aStore aFieldAddr aIndexAddr addOff rowPtr rd_eq rdV rdPV_dat rdPV_own rdI_nil rdI_sl oneC_lit oneC_nil oneC_sl Rd.rows Rd.fits cut setCells isCell_dat isCell_own isCell_ptr isCell_iptr isCell_clo cells_dat cells_own cells_ptr cells_iptr cells_clo cells_agg toD_dat toDs aBuild canBuild aRows fetchs fetchN fetchNs aSlice aAppend builtin_len lenV builtin_append builtin_max builtin_min maxV minV ptrBox ptrBoxes prep prepN fin noAlias aopN aopNX aopNR anseg asegs segFree segsOf atHead atExit loopCode loopAt gc refLt cl_dat cl_own cl_ptr cl_clo cl_iptr cl_dead cl_alias cl_eptr ridOf keepAt St.at St.mark touch TK.isAgg Value.oneCell' iteB_not wl_0 wl_1 wl_2 wl_3 wl_4 wl_5 wl_6 wl_7 wl_8 wl_9 wl_10 wl_11 wl_12 wl_13 wl_14 wl_15 wl_16 wl_17 wl_18 wl_19 wl_20 wl_21 wl_22 wl_23 wl_24 wl_25 wl_26 wl_27 wl_28 wl_29 wl_30 beq_true' beq_false' app_get app_get0 app_set app_set0 app_take app_takek app_drop set_old get_old get_set take_set take_setk drop_set get_setn get_setn0 set_setn set_setn0 lt_addk List.set_set List.getElem?_toArray List.size_toArray Array.size_empty lt_irr add_lt_irr lt_add add_lt_add le_add add_sub List.getD_cons_zero List.getD_cons_succ List.set_cons_zero List.set_cons_succ List.replicate List.length_cons List.length_nil List.length_set List.cons_append List.nil_append List.append_nil List.append_assoc List.map_cons List.map_nil List.all_cons List.all_nil List.any_cons List.any_nil List.take_succ_cons List.take_zero List.take_nil List.drop_succ_cons List.drop_zero List.drop_nil List.zip_cons_cons List.zip_nil_left List.zip_nil_right List.find? List.contains List.elem List.getElem?_cons_zero List.getElem?_cons_succ List.getElem?_nil List.length_append List.length_map List.isEmpty Option.getD_none Option.getD_some Option.map_none Option.map_some Option.bind_some Option.bind_none Option.isSome_none Option.isSome_some Nat.add_zero Nat.zero_add Nat.add_assoc ne_eq not_false_eq_true not_true_eq_false BEq.rfl beq_self_eq_true if_true if_false Bool.false_eq_true Bool.and_true Bool.true_and Bool.and_false Bool.false_and Bool.or_true Bool.or_false Bool.true_or Bool.false_or Bool.not_false Bool.not_true Bool.not_not Bool.and_self and_self and_true true_and and_false false_and or_self or_false false_or or_true true_or decide_true decide_false
set_option maxHeartbeats 4000000
set_option maxRecDepth 10000

section
variable {bx : List Box} {c : Box} {rows rows2 : List (List D)} {K L K2 L2 : D} {lr lr2 : List (List D)} {i : Nat} {k n a k2 n2 a2 : Int} {K' L' K2' L2' : D}

theorem f17 {x y : Bool} (hK : IsS 5 rows K) (hL : IsS 3 lr L) (hK2 : IsS 5 rows2 K2) (hL2 : IsS 3 lr2 L2)
    (h41 : ∀ bx : List Box, ev cfg (.call 41 [.dat L, .dat L2] bx) = some (.ret (B x) none)) (h42 : ∀ bx : List Box, ev cfg (.call 42 [.dat K, .dat K2, .clo 17 []] bx) = some (.ret (B y) none)) :
    stepJ (ev cfg) cfg (.call 17 [.agg [I k, I n, I a, .dat K, .dat L], .agg [I k2, I n2, I a2, .dat K2, .dat L2]] bx) = some (.ret (B (k == k2 && n == n2 && a == a2 && x && y)) none) := by
  obtain ⟨w, h1, h2, h3⟩ := hK
  obtain ⟨wl, l1, l2, l3⟩ := hL
  obtain ⟨w2, g1, g2, g3⟩ := hK2
  obtain ⟨wl2, m1, m2, m3⟩ := hL2
  cases c1 : (k == k2)
  · simp only [go_sem, Nat.reduceSub, Nat.reduceAdd, Nat.reduceMul, Nat.reduceLT, Nat.reduceLeDiff, Nat.reduceBEq, Nat.reduceEqDiff, Nat.reduceGT, Int.reduceToNat, Int.reduceLT, Int.reduceNeg, Int.reduceEq, Int.reduceLE, Int.reduceGT, Int.reduceGE, Int.reduceNe, Int.reduceAdd, Int.reduceSub, Int.reduceMul, reduceIte, ↓reduceIte, fn17, cx17, Tryd.f17, ti3, ti22, ti23, ti25, ti71, h1, h3, l1, l3, g1, g3, m1, m3, h41, h42, c1]
  · cases c2 : (n == n2)
    · simp only [go_sem, Nat.reduceSub, Nat.reduceAdd, Nat.reduceMul, Nat.reduceLT, Nat.reduceLeDiff, Nat.reduceBEq, Nat.reduceEqDiff, Nat.reduceGT, Int.reduceToNat, Int.reduceLT, Int.reduceNeg, Int.reduceEq, Int.reduceLE, Int.reduceGT, Int.reduceGE, Int.reduceNe, Int.reduceAdd, Int.reduceSub, Int.reduceMul, reduceIte, ↓reduceIte, fn17, cx17, Tryd.f17, ti3, ti22, ti23, ti25, ti71, h1, h3, l1, l3, g1, g3, m1, m3, h41, h42, c1, c2]
    · cases c3 : (a == a2)
      · simp only [go_sem, Nat.reduceSub, Nat.reduceAdd, Nat.reduceMul, Nat.reduceLT, Nat.reduceLeDiff, Nat.reduceBEq, Nat.reduceEqDiff, Nat.reduceGT, Int.reduceToNat, Int.reduceLT, Int.reduceNeg, Int.reduceEq, Int.reduceLE, Int.reduceGT, Int.reduceGE, Int.reduceNe, Int.reduceAdd, Int.reduceSub, Int.reduceMul, reduceIte, ↓reduceIte, fn17, cx17, Tryd.f17, ti3, ti22, ti23, ti25, ti71, h1, h3, l1, l3, g1, g3, m1, m3, h41, h42, c1, c2, c3]
      · cases x <;> simp only [go_sem, Nat.reduceSub, Nat.reduceAdd, Nat.reduceMul, Nat.reduceLT, Nat.reduceLeDiff, Nat.reduceBEq, Nat.reduceEqDiff, Nat.reduceGT, Int.reduceToNat, Int.reduceLT, Int.reduceNeg, Int.reduceEq, Int.reduceLE, Int.reduceGT, Int.reduceGE, Int.reduceNe, Int.reduceAdd, Int.reduceSub, Int.reduceMul, reduceIte, ↓reduceIte, fn17, cx17, Tryd.f17, ti3, ti22, ti23, ti25, ti71, h1, h3, l1, l3, g1, g3, m1, m3, h41, h42, c1, c2, c3]

theorem r42 {x : Bool} (hK : IsS 5 rows K) (hK2 : IsS 5 rows2 K2) (hget : rows[i]? = some [dI k, dI n, dI a, K', L']) (hget2 : rows2[i]? = some [dI k2, dI n2, dI a2, K2', L2']) (hlt : i < rows.length) (hmax : rows.length < 9223372036854775808) (hk : K'.oneC = true) (hL : L'.oneC = true) (hk2 : K2'.oneC = true) (hL2 : L2'.oneC = true)
    (hcall : ∀ bx : List Box, ev cfg (.call 17 [.agg [I k, I n, I a, .dat K', .dat L'], .agg [I k2, I n2, I a2, .dat K2', .dat L2']] bx) = some (.ret (B x) none)) :
    stepJ (ev cfg) cfg (.loop 42 4 ⟨(.dead :: .dat K2 :: .clo 17 [] :: .dead :: .dead :: .dead :: .dead :: .dead :: .dead :: .dead :: .dead :: .dead :: .dead :: .dead :: .dead :: .dat K :: I rows.length :: I i :: .dead :: .dead :: .dead :: .dead :: .dead :: .dead :: .dead :: .dead :: .dead :: .dead :: .dead :: .dead :: .dead :: .dead :: []), bx, bx.length, none, false⟩) =
      if x = true then ev cfg (.loop 42 4 ⟨(.dead :: .dat K2 :: .clo 17 [] :: .dead :: .dead :: .dead :: .dead :: .dead :: .dead :: .dead :: .dead :: .dead :: .dead :: .dead :: .dead :: .dat K :: I rows.length :: I ((i + 1 : Nat) : Int) :: .dead :: .dead :: .dead :: .dead :: .dead :: .dead :: .dead :: .dead :: .dead :: .dead :: .dead :: .dead :: .dead :: .dead :: []), bx, bx.length, none, false⟩)
      else some (.loop .ret ⟨(.dead :: .dead :: .dead :: .dead :: .dead :: .dead :: B false :: .dead :: .dead :: .dead :: .dead :: .dead :: .dead :: .dead :: .dead :: .dead :: .dead :: .dead :: .dead :: .dead :: .dead :: .dead :: .dead :: .dead :: .dead :: .dead :: .dead :: .dead :: .dead :: .dead :: .dead :: .dead :: []), bx, bx.length, none, false⟩) := by
  obtain ⟨w, h1, h2, h3⟩ := hK
  obtain rfl := isS_w h2 hget
  obtain ⟨w2, g1, g2, g3⟩ := hK2
  obtain rfl := isS_w g2 hget2
  cases x <;> simp only [go_sem, Nat.reduceSub, Nat.reduceAdd, Nat.reduceMul, Nat.reduceLT, Nat.reduceLeDiff, Nat.reduceBEq, Nat.reduceEqDiff, Nat.reduceGT, Int.reduceToNat, Int.reduceLT, Int.reduceNeg, Int.reduceEq, Int.reduceLE, Int.reduceGT, Int.reduceGE, Int.reduceNe, Int.reduceAdd, Int.reduceSub, Int.reduceMul, reduceIte, ↓reduceIte, fn42, cx42, Tryd.f42, ti3, ti22, ti23, ti25, ti71, h1, h3, g1, g3, hk, hL, hk2, hL2, nat_lt hlt, nat_neg, Int.toNat_natCast, hget, hget2, hcall, nat_succ hlt hmax, Nat.min_self, List.take_length, List.drop_length, Nat.le_refl, Nat.sub_self]
theorem e42 {n i : Nat} (hge : n ≤ i) :
    stepJ (ev cfg) cfg (.loop 42 4 ⟨(.dead :: .dat K2 :: .clo 17 [] :: .dead :: .dead :: .dead :: .dead :: .dead :: .dead :: .dead :: .dead :: .dead :: .dead :: .dead :: .dead :: .dat K :: I n :: I i :: .dead :: .dead :: .dead :: .dead :: .dead :: .dead :: .dead :: .dead :: .dead :: .dead :: .dead :: .dead :: .dead :: .dead :: []), bx, bx.length, none, false⟩) = some (.loop (.exit 0) ⟨(.dead :: .dead :: .dead :: .dead :: .dead :: .dead :: .dead :: .dead :: .dead :: .dead :: .dead :: .dead :: .dead :: .dead :: .dead :: .dead :: .dead :: .dead :: .dead :: .dead :: .dead :: .dead :: .dead :: .dead :: .dead :: .dead :: .dead :: .dead :: .dead :: .dead :: .dead :: .dead :: []), bx, bx.length, none, false⟩) := by
  simp only [go_sem, Nat.reduceSub, Nat.reduceAdd, Nat.reduceMul, Nat.reduceLT, Nat.reduceLeDiff, Nat.reduceBEq, Nat.reduceEqDiff, Nat.reduceGT, Int.reduceToNat, Int.reduceLT, Int.reduceNeg, Int.reduceEq, Int.reduceLE, Int.reduceGT, Int.reduceGE, Int.reduceNe, Int.reduceAdd, Int.reduceSub, Int.reduceMul, reduceIte, ↓reduceIte, fn42, cx42, Tryd.f42, ti3, ti22, ti23, ti25, ti71, nat_ge hge, List.take_length, List.drop_length, Nat.le_refl, Nat.sub_self]
theorem f42_len (hK : IsS 5 rows K) (hK2 : IsS 5 rows2 K2) (h : ((rows.length : Int) != (rows2.length : Int)) = true) :
    stepJ (ev cfg) cfg (.call 42 [.dat K, .dat K2, .clo 17 []] bx) = some (.ret (B false) none) := by
  obtain ⟨w, h1, h2, h3⟩ := hK
  obtain ⟨w2, g1, g2, g3⟩ := hK2
  simp only [go_sem, Nat.reduceSub, Nat.reduceAdd, Nat.reduceMul, Nat.reduceLT, Nat.reduceLeDiff, Nat.reduceBEq, Nat.reduceEqDiff, Nat.reduceGT, Int.reduceToNat, Int.reduceLT, Int.reduceNeg, Int.reduceEq, Int.reduceLE, Int.reduceGT, Int.reduceGE, Int.reduceNe, Int.reduceAdd, Int.reduceSub, Int.reduceMul, reduceIte, ↓reduceIte, fn42, cx42, Tryd.f42, ti3, ti22, ti23, ti25, ti71, h1, h3, g1, g3, h]
theorem f42 {x : Bool} (hK : IsS 5 rows K) (hK2 : IsS 5 rows2 K2) (h : ((rows.length : Int) != (rows2.length : Int)) = false)
    (hloop : ev cfg (.loop 42 4 ⟨(.dead :: .dat K2 :: .clo 17 [] :: .dead :: .dead :: .dead :: .dead :: .dead :: .dead :: .dead :: .dead :: .dead :: .dead :: .dead :: .dead :: .dat K :: I rows.length :: I 0 :: .dead :: .dead :: .dead :: .dead :: .dead :: .dead :: .dead :: .dead :: .dead :: .dead :: .dead :: .dead :: .dead :: .dead :: []), bx, bx.length, none, false⟩) = some (if x = true then .loop (.exit 0) ⟨(.dead :: .dead :: .dead :: .dead :: .dead :: .dead :: .dead :: .dead :: .dead :: .dead :: .dead :: .dead :: .dead :: .dead :: .dead :: .dead :: .dead :: .dead :: .dead :: .dead :: .dead :: .dead :: .dead :: .dead :: .dead :: .dead :: .dead :: .dead :: .dead :: .dead :: .dead :: .dead :: []), bx, bx.length, none, false⟩ else .loop .ret ⟨(.dead :: .dead :: .dead :: .dead :: .dead :: .dead :: B false :: .dead :: .dead :: .dead :: .dead :: .dead :: .dead :: .dead :: .dead :: .dead :: .dead :: .dead :: .dead :: .dead :: .dead :: .dead :: .dead :: .dead :: .dead :: .dead :: .dead :: .dead :: .dead :: .dead :: .dead :: .dead :: []), bx, bx.length, none, false⟩)) :
    stepJ (ev cfg) cfg (.call 42 [.dat K, .dat K2, .clo 17 []] bx) = some (.ret (B x) none) := by
  obtain ⟨w, h1, h2, h3⟩ := hK
  obtain ⟨w2, g1, g2, g3⟩ := hK2
  cases x <;> simp only [Bool.false_eq_true, if_true, if_false] at hloop <;> simp only [go_sem, Nat.reduceSub, Nat.reduceAdd, Nat.reduceMul, Nat.reduceLT, Nat.reduceLeDiff, Nat.reduceBEq, Nat.reduceEqDiff, Nat.reduceGT, Int.reduceToNat, Int.reduceLT, Int.reduceNeg, Int.reduceEq, Int.reduceLE, Int.reduceGT, Int.reduceGE, Int.reduceNe, Int.reduceAdd, Int.reduceSub, Int.reduceMul, reduceIte, ↓reduceIte, fn42, cx42, Tryd.f42, ti3, ti22, ti23, ti25, ti71, h1, h3, g1, g3, h, hloop]

theorem e41 {n i : Nat} (hge : n ≤ i) :
    stepJ (ev cfg) cfg (.loop 41 4 ⟨(.dat L :: .dat L2 :: .dead :: .dead :: .dead :: .dead :: .dead :: .dead :: .dead :: .dead :: .dead :: .dead :: I n :: I i :: .dead :: .dead :: .dead :: .dead :: .dead :: .dead :: .dead :: .dead :: .dead :: .dead :: .dead :: .dead :: []), bx, bx.length, none, false⟩) = some (.loop (.exit 0) ⟨(.dead :: .dead :: .dead :: .dead :: .dead :: .dead :: .dead :: .dead :: .dead :: .dead :: .dead :: .dead :: .dead :: .dead :: .dead :: .dead :: .dead :: .dead :: .dead :: .dead :: .dead :: .dead :: .dead :: .dead :: .dead :: .dead :: []), bx, bx.length, none, false⟩) := by
  simp only [go_sem, Nat.reduceSub, Nat.reduceAdd, Nat.reduceMul, Nat.reduceLT, Nat.reduceLeDiff, Nat.reduceBEq, Nat.reduceEqDiff, Nat.reduceGT, Int.reduceToNat, Int.reduceLT, Int.reduceNeg, Int.reduceEq, Int.reduceLE, Int.reduceGT, Int.reduceGE, Int.reduceNe, Int.reduceAdd, Int.reduceSub, Int.reduceMul, reduceIte, ↓reduceIte, fn41, cx41, Tryd.f41, ti3, ti23, ti71, nat_ge hge, List.take_length, List.drop_length, Nat.le_refl, Nat.sub_self]
theorem f41_len (hL : IsS 3 lr L) (hL2 : IsS 3 lr2 L2) (h : ((lr.length : Int) != (lr2.length : Int)) = true) :
    stepJ (ev cfg) cfg (.call 41 [.dat L, .dat L2] bx) = some (.ret (B false) none) := by
  obtain ⟨w, h1, h2, h3⟩ := hL
  obtain ⟨w2, g1, g2, g3⟩ := hL2
  simp only [go_sem, Nat.reduceSub, Nat.reduceAdd, Nat.reduceMul, Nat.reduceLT, Nat.reduceLeDiff, Nat.reduceBEq, Nat.reduceEqDiff, Nat.reduceGT, Int.reduceToNat, Int.reduceLT, Int.reduceNeg, Int.reduceEq, Int.reduceLE, Int.reduceGT, Int.reduceGE, Int.reduceNe, Int.reduceAdd, Int.reduceSub, Int.reduceMul, reduceIte, ↓reduceIte, fn41, cx41, Tryd.f41, ti3, ti23, ti71, h1, h3, g1, g3, h]
theorem f41 {x : Bool} (hL : IsS 3 lr L) (hL2 : IsS 3 lr2 L2) (h : ((lr.length : Int) != (lr2.length : Int)) = false)
    (hloop : ev cfg (.loop 41 4 ⟨(.dat L :: .dat L2 :: .dead :: .dead :: .dead :: .dead :: .dead :: .dead :: .dead :: .dead :: .dead :: .dead :: I lr.length :: I 0 :: .dead :: .dead :: .dead :: .dead :: .dead :: .dead :: .dead :: .dead :: .dead :: .dead :: .dead :: .dead :: []), bx, bx.length, none, false⟩) = some (if x = true then .loop (.exit 0) ⟨(.dead :: .dead :: .dead :: .dead :: .dead :: .dead :: .dead :: .dead :: .dead :: .dead :: .dead :: .dead :: .dead :: .dead :: .dead :: .dead :: .dead :: .dead :: .dead :: .dead :: .dead :: .dead :: .dead :: .dead :: .dead :: .dead :: []), bx, bx.length, none, false⟩ else .loop .ret ⟨(.dead :: .dead :: .dead :: .dead :: B false :: .dead :: .dead :: .dead :: .dead :: .dead :: .dead :: .dead :: .dead :: .dead :: .dead :: .dead :: .dead :: .dead :: .dead :: .dead :: .dead :: .dead :: .dead :: .dead :: .dead :: .dead :: []), bx, bx.length, none, false⟩)) :
    stepJ (ev cfg) cfg (.call 41 [.dat L, .dat L2] bx) = some (.ret (B x) none) := by
  obtain ⟨w, h1, h2, h3⟩ := hL
  obtain ⟨w2, g1, g2, g3⟩ := hL2
  cases x <;> simp only [Bool.false_eq_true, if_true, if_false] at hloop <;> simp only [go_sem, Nat.reduceSub, Nat.reduceAdd, Nat.reduceMul, Nat.reduceLT, Nat.reduceLeDiff, Nat.reduceBEq, Nat.reduceEqDiff, Nat.reduceGT, Int.reduceToNat, Int.reduceLT, Int.reduceNeg, Int.reduceEq, Int.reduceLE, Int.reduceGT, Int.reduceGE, Int.reduceNe, Int.reduceAdd, Int.reduceSub, Int.reduceMul, reduceIte, ↓reduceIte, fn41, cx41, Tryd.f41, ti3, ti23, ti71, h1, h3, g1, g3, h, hloop]

/-! ### the small case -/
def altK : D := .sl 5 [[dI 2, dI 1, dI 0, .nil, .nil], [dI 5, dI 2, dI 0, .sl 5 [[dI 2, dI 3, dI 0, .nil, .nil], [dI 1, dI 0, dI 0, .nil, .nil]], .nil]]
theorem f11 (ht : ∀ bx : List Box, ev cfg (.call 13 [.agg [I 3, I 0, I 0, .dat altK, .dat .nil]] bx) = some (.ret (.tup [S ⟨#[40, 115, 101, 113, 32, 49, 32, 40, 97, 108, 116, 58, 50, 32, 51, 32, 45, 41, 41]⟩, I 0]) none))
    (hz : ∀ bx : List Box, ev cfg (.call 15 [.agg [I 3, I 0, I 0, .dat altK, .dat .nil]] bx) = some (.ret (I 5) none))
    (hs : ∀ bx : List Box, ev cfg (.call 17 [.agg [I 3, I 0, I 0, .dat altK, .dat .nil], .agg [I 3, I 0, I 0, .dat altK, .dat .nil]] bx) = some (.ret (B true) none)) :
    stepJ (ev cfg) cfg (.call 11 [] bx) = some (.ret (B true) none) := by
  simp only [altK] at ht hz hs
  simp only [go_sem, Nat.reduceSub, Nat.reduceAdd, Nat.reduceMul, Nat.reduceLT, Nat.reduceLeDiff, Nat.reduceBEq, Nat.reduceEqDiff, Nat.reduceGT, Int.reduceToNat, Int.reduceLT, Int.reduceNeg, Int.reduceEq, Int.reduceLE, Int.reduceGT, Int.reduceGE, Int.reduceNe, Int.reduceAdd, Int.reduceSub, Int.reduceMul, reduceIte, ↓reduceIte, fn11, cx11, Tryd.f11, ti3, ti22, ti23, ti25, ti71, ht, hz, hs, Int.reduceBEq]

/-! ### the statement -/
theorem f3_big {x : Int} (hK : IsS 5 rows K) (hL : IsS 3 lr L) (ha : ∀ bx : List Box, ev cfg (.call 11 [] bx) = some (.ret (B true) none))
    (hb : ∀ c : Box, ev cfg (.call 10 [.agg [I k, I n, I a, .dat K, .dat L], .ptr 1 0, I 1] [c, [I 400]]) = some (.ret (B true) (some ⟨[c, [I x]], 1, false⟩))) :
    stepJ (ev cfg) cfg (.call 3 [.agg [I k, I n, I a, .dat K, .dat L]] []) = some (.ret (B true) none) := by
  obtain ⟨w, h1, h2, h3⟩ := hK
  obtain ⟨wl, l1, l2, l3⟩ := hL
  simp only [go_sem, Nat.reduceSub, Nat.reduceAdd, Nat.reduceMul, Nat.reduceLT, Nat.reduceLeDiff, Nat.reduceBEq, Nat.reduceEqDiff, Nat.reduceGT, Int.reduceToNat, Int.reduceLT, Int.reduceNeg, Int.reduceEq, Int.reduceLE, Int.reduceGT, Int.reduceGE, Int.reduceNe, Int.reduceAdd, Int.reduceSub, Int.reduceMul, reduceIte, ↓reduceIte, fn3, cx3, Tryd.f3, ti3, ti22, ti23, ti25, ti29, ti31, ti32, ti34, ti71, ti72, h1, h3, l1, l3, ha, hb]
theorem f3 {x e z : Int} {s : ByteArray} {M N : D} (hK : IsS 5 rows K) (hL : IsS 3 lr L) (ha : ∀ bx : List Box, ev cfg (.call 11 [] bx) = some (.ret (B true) none)) (hM : M.oneC = true) (hN : N.oneC = true)
    (hb : ∀ c : Box, ev cfg (.call 10 [.agg [I k, I n, I a, .dat K, .dat L], .ptr 1 0, I 1] [c, [I 400]]) = some (.ret (B false) (some ⟨[c, [I x]], 1, false⟩)))
    (hr : ∀ bx : List Box, ev cfg (.call 12 [.agg [I k, I n, I a, .dat K, .dat L]] bx) = some (.ret (.agg [I k, I n, I a, .dat M, .dat N]) none))
    (ht : ∀ bx : List Box, ev cfg (.call 13 [.agg [I k, I n, I a, .dat K, .dat L]] bx) = some (.ret (.tup [S s, I e]) none))
    (ht2 : ∀ bx : List Box, ev cfg (.call 14 [.agg [I k, I n, I a, .dat M, .dat N]] bx) = some (.ret (.tup [S s, I e]) none))
    (hz : ∀ bx : List Box, ev cfg (.call 15 [.agg [I k, I n, I a, .dat K, .dat L]] bx) = some (.ret (I z) none))
    (hz2 : ∀ bx : List Box, ev cfg (.call 16 [.agg [I k, I n, I a, .dat M, .dat N]] bx) = some (.ret (I z) none)) :
    stepJ (ev cfg) cfg (.call 3 [.agg [I k, I n, I a, .dat K, .dat L]] []) = some (.ret (B true) none) := by
  obtain ⟨w, h1, h2, h3⟩ := hK
  obtain ⟨wl, l1, l2, l3⟩ := hL
  simp only [go_sem, Nat.reduceSub, Nat.reduceAdd, Nat.reduceMul, Nat.reduceLT, Nat.reduceLeDiff, Nat.reduceBEq, Nat.reduceEqDiff, Nat.reduceGT, Int.reduceToNat, Int.reduceLT, Int.reduceNeg, Int.reduceEq, Int.reduceLE, Int.reduceGT, Int.reduceGE, Int.reduceNe, Int.reduceAdd, Int.reduceSub, Int.reduceMul, reduceIte, ↓reduceIte, fn3, cx3, Tryd.f3, ti3, ti22, ti23, ti25, ti29, ti31, ti32, ti34, ti71, ti72, h1, h3, l1, l3, hM, hN, ha, hb, hr, ht, ht2, hz, hz2]
end

end Go.Proofs.YtgppmcpbphgnnaaDoor
