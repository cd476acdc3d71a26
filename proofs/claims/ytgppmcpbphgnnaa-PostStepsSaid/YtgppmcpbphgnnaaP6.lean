/- Comparing lists of ints; the small case. No condition. -/
import Derived.Test.YtgppmcpbphgnnaaP1
set_option linter.unusedSimpArgs false
set_option linter.unusedVariables false
set_option linter.unusedSectionVars false
namespace Go.Proofs.Ytgppmcpbphgnnaa
open Go Go.Vx
attribute [local congr] seqO_congr iteB_congr
attribute [local go_sem ↓] sO_some sO_none iB_true iB_false
attribute [local go_sem] stepJ sO_some sO_none iB_true iB_false seqO_iteB startSt acode aops aopR wantsR aopX isFnCall aop fetch takeAt moveTup St.val PV.ofValue D.ofCell put isTmp PV.maySrc aBin eqFieldsA eqCell binLit eqKind abool aint aUn thenC inBlockC polOf aConv retOf aress ares okRes okAl Vx.dstsOf stays outOf tupOf PV.noPtr PV.isDat PV.isOwn PV.strip aLoad frz0 frz1 frz2 frz3 frz4 frz5 frz6 frz7 frz8 frz9 frz10 frz11 frz12 freezeC PV.frz PV.frozen aStore aStore0 homeStore PV.isHome hookOf runHook ownPlace aConv0 aConvP eqRes aAppendR aAppendS builtin_sd builtin_us aSliceData aUnsafeString aSliceP zeros Vx.keyOf ksz sr_append sr_len Vx.stored undef cl_tnil cl_home cl_siter cl_mp Nat.le_refl Nat.sub_self List.take_length List.drop_length mapOf runMap int64 mapPlace lookRes aggDs mapBox isNilP eqCellsA List.range' amix aopE outE applyE nOk loadBox stab stabL mixOf mixIn noCellAl eq_self aFieldAddr aIndexAddr addOff rowPtr rd_eq rdV rdPV_dat rdPV_own rdI_nil rdI_sl oneC_lit oneC_nil oneC_sl Rd.rows Rd.fits cut setCells isCell_dat isCell_own isCell_ptr isCell_iptr isCell_clo cells_dat cells_own cells_ptr cells_iptr cells_clo cells_agg toD_dat toDs aBuild canBuild aRows fetchs fetchN fetchNs aSlice aAppend builtin_len lenV builtin_append builtin_max builtin_min maxV minV ptrBox ptrBoxes prep prepN fin noAlias aopN aopNX aopNR anseg asegs segFree segsOf atHead atExit loopCode loopAt gc refLt cl_dat cl_own cl_ptr cl_clo cl_iptr cl_dead cl_alias cl_eptr ridOf keepAt St.at St.mark touch TK.isAgg Value.oneCell' iteB_not wl_0 wl_1 wl_2 wl_3 wl_4 wl_5 wl_6 wl_7 wl_8 wl_9 wl_10 wl_11 wl_12 wl_13 wl_14 wl_15 wl_16 wl_17 wl_18 wl_19 wl_20 wl_21 wl_22 wl_23 wl_24 wl_25 wl_26 wl_27 wl_28 wl_29 wl_30 beq_true' beq_false' app_get app_get0 app_set app_set0 app_take app_takek app_drop set_old get_old get_set take_set take_set0 take_setk drop_set get_setn get_setn0 set_setn set_setn0 lt_addk List.set_set List.getElem?_toArray List.size_toArray Array.size_empty lt_irr add_lt_irr lt_add add_lt_add le_add add_sub List.getD_cons_zero List.getD_cons_succ List.set_cons_zero List.set_cons_succ List.replicate List.length_cons List.length_nil List.length_set List.cons_append List.nil_append List.append_nil List.append_assoc List.map_cons List.map_nil List.all_cons List.all_nil List.any_cons List.any_nil List.take_succ_cons List.take_zero List.take_nil List.drop_succ_cons List.drop_zero List.drop_nil List.zip_cons_cons List.zip_nil_left List.zip_nil_right List.find? List.contains List.elem List.getElem?_cons_zero List.getElem?_cons_succ List.getElem?_nil List.length_append List.length_map List.isEmpty Option.getD_none Option.getD_some Option.map_none Option.map_some Option.bind_some Option.bind_none Option.isSome_none Option.isSome_some Nat.min_self Nat.add_zero Nat.zero_add Nat.add_assoc ne_eq not_false_eq_true not_true_eq_false BEq.rfl beq_self_eq_true if_true if_false Bool.false_eq_true Bool.and_true Bool.true_and Bool.and_false Bool.false_and Bool.or_true Bool.or_false Bool.true_or Bool.false_or Bool.not_false Bool.not_true Bool.not_not Bool.and_self and_self and_true true_and and_false false_and or_self or_false false_or or_true true_or decide_true decide_false
attribute [local go_sem] hookC byteTC bytePC homeC ptrTC unsPC unsToC cmpC cmpAC mapTC
set_option maxHeartbeats 4000000
set_option maxRecDepth 10000

section
variable {bx : List Box} {rws : List (List D)} {K K2 : D} {i : Nat} {x : Int}

theorem r15 (hK : IsS 1 rws K) (hK2 : IsS 1 rws K2) (hget : rws[i]? = some [dI x]) (hlt : i < rws.length) (hmax : rws.length < 9223372036854775808) :
    stepJ (ev cfg) cfg (.loop 15 2 ⟨(.dat K :: .dat K2 :: .dead :: .dead :: .dead :: .dead :: .dead :: I rws.length :: I i :: .dead :: .dead :: .dead :: .dead :: .dead :: .dead :: .dead :: .dead :: .dead :: .dead :: .dead :: .dead :: .dead :: .dead :: .dead :: .dead :: .dead :: .dead :: .dead :: .dead :: .dead :: .dead :: .dead :: []), bx, bx.length, none, false⟩) =
      ev cfg (.loop 15 2 ⟨(.dat K :: .dat K2 :: .dead :: .dead :: .dead :: .dead :: .dead :: I rws.length :: I ((i + 1 : Nat) : Int) :: .dead :: .dead :: .dead :: .dead :: .dead :: .dead :: .dead :: .dead :: .dead :: .dead :: .dead :: .dead :: .dead :: .dead :: .dead :: .dead :: .dead :: .dead :: .dead :: .dead :: .dead :: .dead :: .dead :: []), bx, bx.length, none, false⟩) := by
  obtain ⟨w, h1, h2, h3⟩ := hK
  obtain ⟨w2, k1, k2, k3⟩ := hK2
  obtain rfl := isS_w h2 hget
  obtain rfl := isS_w k2 hget
  have hge : decide ((i : Int) ≥ (rws.length : Int)) = false := by simp; omega
  have hne : (x != x) = false := by simp
  simp (maxSteps := 2000000) only [go_sem, Nat.reduceSub, Nat.reduceAdd, Nat.reduceMul, Nat.reduceLT, Nat.reduceLeDiff, Nat.reduceBEq, Nat.reduceEqDiff, Nat.reduceGT, Int.reduceToNat, Int.reduceLT, Int.reduceNeg, Int.reduceEq, Int.reduceBEq, Int.reduceBNe, Int.reduceLE, Int.reduceGT, Int.reduceGE, Int.reduceNe, Int.reduceAdd, Int.reduceSub, Int.reduceMul, reduceIte, ↓reduceIte, fn15, cx15, Try.f15, ti3, ti39, h1, h3, k1, k3, nat_lt hlt, nat_neg, Int.toNat_natCast, hget, hge, hne, nat_succ hlt hmax]
theorem e15 (hK : IsS 1 rws K) (hK2 : IsS 1 rws K2) {n : Nat} (hge : n ≤ i) :
    stepJ (ev cfg) cfg (.loop 15 2 ⟨(.dat K :: .dat K2 :: .dead :: .dead :: .dead :: .dead :: .dead :: I n :: I i :: .dead :: .dead :: .dead :: .dead :: .dead :: .dead :: .dead :: .dead :: .dead :: .dead :: .dead :: .dead :: .dead :: .dead :: .dead :: .dead :: .dead :: .dead :: .dead :: .dead :: .dead :: .dead :: .dead :: []), bx, bx.length, none, false⟩) = some (.loop (.exit 0) ⟨(.dat K :: .dat K2 :: .dead :: .dead :: .dead :: .dead :: .dead :: .dead :: .dead :: .dead :: .dead :: .dead :: .dead :: .dead :: .dead :: .dead :: .dead :: .dead :: .dead :: .dead :: .dead :: .dead :: .dead :: .dead :: .dead :: .dead :: .dead :: .dead :: .dead :: .dead :: .dead :: .dead :: []), bx, bx.length, none, false⟩) := by
  obtain ⟨w, h1, h2, h3⟩ := hK
  obtain ⟨w2, k1, k2, k3⟩ := hK2
  simp (maxSteps := 2000000) only [go_sem, Nat.reduceSub, Nat.reduceAdd, Nat.reduceMul, Nat.reduceLT, Nat.reduceLeDiff, Nat.reduceBEq, Nat.reduceEqDiff, Nat.reduceGT, Int.reduceToNat, Int.reduceLT, Int.reduceNeg, Int.reduceEq, Int.reduceBEq, Int.reduceBNe, Int.reduceLE, Int.reduceGT, Int.reduceGE, Int.reduceNe, Int.reduceAdd, Int.reduceSub, Int.reduceMul, reduceIte, ↓reduceIte, fn15, cx15, Try.f15, ti3, ti39, nat_ge hge, h1, h3, k1, k3]
theorem f15 (hK : IsS 1 rws K) (hK2 : IsS 1 rws K2)
    (hloop : ev cfg (.loop 15 2 ⟨(.dat K :: .dat K2 :: .dead :: .dead :: .dead :: .dead :: .dead :: I rws.length :: I 0 :: .dead :: .dead :: .dead :: .dead :: .dead :: .dead :: .dead :: .dead :: .dead :: .dead :: .dead :: .dead :: .dead :: .dead :: .dead :: .dead :: .dead :: .dead :: .dead :: .dead :: .dead :: .dead :: .dead :: []), bx, bx.length, none, false⟩) = some (.loop (.exit 0) ⟨(.dat K :: .dat K2 :: .dead :: .dead :: .dead :: .dead :: .dead :: .dead :: .dead :: .dead :: .dead :: .dead :: .dead :: .dead :: .dead :: .dead :: .dead :: .dead :: .dead :: .dead :: .dead :: .dead :: .dead :: .dead :: .dead :: .dead :: .dead :: .dead :: .dead :: .dead :: .dead :: .dead :: []), bx, bx.length, none, false⟩)) :
    stepJ (ev cfg) cfg (.call 15 [.dat K, .dat K2] bx) = some (.ret (B true) none) := by
  obtain ⟨w, h1, h2, h3⟩ := hK
  obtain ⟨w2, k1, k2, k3⟩ := hK2
  have he : ((rws.length : Int) == (rws.length : Int)) = true := by simp
  simp (maxSteps := 2000000) only [go_sem, Nat.reduceSub, Nat.reduceAdd, Nat.reduceMul, Nat.reduceLT, Nat.reduceLeDiff, Nat.reduceBEq, Nat.reduceEqDiff, Nat.reduceGT, Int.reduceToNat, Int.reduceLT, Int.reduceNeg, Int.reduceEq, Int.reduceBEq, Int.reduceBNe, Int.reduceLE, Int.reduceGT, Int.reduceGE, Int.reduceNe, Int.reduceAdd, Int.reduceSub, Int.reduceMul, reduceIte, ↓reduceIte, fn15, cx15, Try.f15, ti3, ti39, h1, h3, k1, k3, hloop, he]
end

theorem ints_loop {bx : List Box} {zs : List Int} {K K2 : D} (hK : IsS 1 (rowsOf zs) K) (hK2 : IsS 1 (rowsOf zs) K2) (hmax : (rowsOf zs).length < 9223372036854775808) : ∀ (l : List Int) (i : Nat), zs.drop i = l →
    ev cfg (.loop 15 2 ⟨(.dat K :: .dat K2 :: .dead :: .dead :: .dead :: .dead :: .dead :: I (rowsOf zs).length :: I i :: .dead :: .dead :: .dead :: .dead :: .dead :: .dead :: .dead :: .dead :: .dead :: .dead :: .dead :: .dead :: .dead :: .dead :: .dead :: .dead :: .dead :: .dead :: .dead :: .dead :: .dead :: .dead :: .dead :: []), bx, bx.length, none, false⟩) = some (.loop (.exit 0) ⟨(.dat K :: .dat K2 :: .dead :: .dead :: .dead :: .dead :: .dead :: .dead :: .dead :: .dead :: .dead :: .dead :: .dead :: .dead :: .dead :: .dead :: .dead :: .dead :: .dead :: .dead :: .dead :: .dead :: .dead :: .dead :: .dead :: .dead :: .dead :: .dead :: .dead :: .dead :: .dead :: .dead :: []), bx, bx.length, none, false⟩)
  | [], i, h => ev_step cfg (e15 hK hK2 (by have := drop_nil h; simpa [rowsOf] using this))
  | x :: xs, i, h => by
    obtain ⟨h1, h2, h3⟩ := drop_cons h
    refine ev_step cfg ?_
    rw [r15 (x := x) hK hK2 (by simp [rowsOf, h1]) (by simpa [rowsOf] using h3) hmax]
    exact ints_loop hK hK2 hmax xs (i + 1) h2
theorem ints_ev {bx : List Box} {zs : List Int} {K K2 : D} (hK : IsS 1 (rowsOf zs) K) (hK2 : IsS 1 (rowsOf zs) K2) (hmax : (rowsOf zs).length < 9223372036854775808) : ev cfg (.call 15 [.dat K, .dat K2] bx) = some (.ret (B true) none) :=
  ev_step cfg (f15 hK hK2 (ints_loop hK hK2 hmax zs 0 rfl))

/-! ### one -/
theorem f9 {o1 o2 : Box}
    (h1 : ∀ bx : List Box, ev cfg (.call 16 [.ptr bx.length 0, I 5] (bx ++ [[.mp 4 []]])) = some (.ret (I 0) (some ⟨bx ++ [o1], bx.length, false⟩)))
    (h2 : ∀ bx : List Box, ev cfg (.call 17 [.ptr bx.length 0, I 5, I 1] (bx ++ [o1])) = some (.ret (I 0) (some ⟨bx ++ [o2], bx.length, false⟩)))
    (h3 : ∀ bx : List Box, ev cfg (.call 18 [.ptr bx.length 0, I 6, I 1] (bx ++ [o2])) = some (.ret (I 6) none))
    (h4 : ∀ bx : List Box, ev cfg (.call 18 [.ptr bx.length 0, I 5, I 1] (bx ++ [o2])) = some (.ret (I 0) (some ⟨bx ++ [[.mp 4 [(5, [dI 0, dI 0, dI 0, dI 0])]]], bx.length, false⟩)))
    (h5 : ∀ bx : List Box, ev cfg (.call 11 [.ptr bx.length 0, I 5] (bx ++ [[.mp 4 [(5, [dI 0, dI 0, dI 0, dI 0])]]])) = some (.ret (.tup [.agg [I 0, I 0, I 0, I 0], B true]) none))
    (h6 : ∀ (bx : List Box), ev cfg (.call 15 [.dat (.sl 1 [[dI 5]]), .dat (.sl 1 [[dI 5]])] bx) = some (.ret (B true) none)) {bx : List Box} :
    stepJ (ev cfg) cfg (.call 9 [] bx) = some (.ret (B true) none) := by
  have e : sortedKeys [(5, [dI 0, dI 0, dI 0, dI 0])] = .own true 1 [[dI 5]] := by simp [sortedKeys, sortI, rowsOf]
  have e2 : ([(5, [dI 0, dI 0, dI 0, dI 0])] : List (Int × List D)).all keyIn = true := rfl
  simp (maxSteps := 2000000) only [go_sem, Nat.reduceSub, Nat.reduceAdd, Nat.reduceMul, Nat.reduceLT, Nat.reduceLeDiff, Nat.reduceBEq, Nat.reduceEqDiff, Nat.reduceGT, Int.reduceToNat, Int.reduceLT, Int.reduceNeg, Int.reduceEq, Int.reduceBEq, Int.reduceBNe, Int.reduceLE, Int.reduceGT, Int.reduceGE, Int.reduceNe, Int.reduceAdd, Int.reduceSub, Int.reduceMul, reduceIte, ↓reduceIte, fn9, cx9, Try.f9, ti3, ti33, ti39, h1, h2, h3, h4, h5, h6, e, e2]
end Go.Proofs.Ytgppmcpbphgnnaa
