/- Rounds of package net's functions: Start, End, leads, places. No condition. -/
import Derived.Test.YtifckjhggamefaaDoorAt
import Derived.Test.YtifckjhggamefaaDoorB9
set_option linter.unusedSimpArgs false
set_option linter.unusedVariables false
set_option linter.unusedSectionVars false
namespace Go.Proofs.YtifckjhggamefaaDoor
open Go Go.Vx
set_option maxHeartbeats 4000000
set_option maxRecDepth 10000

section
variable {bx : List Box} {c : Box} {nr fr r : List (List D)} {N F K K' : D} {i l : Nat} {k a op n : Int} {rs : List (List D)} {v : Bool}

theorem index_round {g : FuncId} (hN : IsS 5 nr N) (hget : nr[i]? = some [dI k, dI a, dI op, dI n, K]) (hlt : i < nr.length) (hmax : nr.length < 9223372036854775808) (hk : K.oneC = true) (hcall : ∀ bx : List Box, ev cfg (.call g [.agg [I k, I a, I op, I n, .dat K]] bx) = some (.ret (B v) none)) :
    stepJ (ev cfg) cfg (.loop 68 2 ⟨(.dat N :: .clo g [] :: .dead :: .dead :: .dead :: .dead :: .dead :: I nr.length :: I i :: .dead :: .dead :: .dead :: .dead :: .dead :: .dead :: .dead :: .dead :: .dead :: .dead :: []), bx, bx.length, none, false⟩) =
      if v = true then some (.loop .ret ⟨(.dead :: .dead :: .dead :: .dead :: I i :: .dead :: .dead :: .dead :: .dead :: .dead :: .dead :: .dead :: .dead :: .dead :: .dead :: .dead :: .dead :: .dead :: .dead :: []), bx, bx.length, none, false⟩)
      else ev cfg (.loop 68 2 ⟨(.dat N :: .clo g [] :: .dead :: .dead :: .dead :: .dead :: .dead :: I nr.length :: I ((i + 1 : Nat) : Int) :: .dead :: .dead :: .dead :: .dead :: .dead :: .dead :: .dead :: .dead :: .dead :: .dead :: []), bx, bx.length, none, false⟩) := by
  obtain ⟨w, h1, h2, h3⟩ := hN
  obtain rfl := isS_w h2 hget
  cases v <;> simp (maxSteps := 2000000) only [go_sem, Nat.reduceSub, Nat.reduceAdd, Nat.reduceMul, Nat.reduceLT, Nat.reduceLeDiff, Nat.reduceBEq, Nat.reduceEqDiff, Nat.reduceGT, Int.reduceToNat, Int.reduceLT, Int.reduceNeg, Int.reduceEq, Int.reduceBEq, Int.reduceBNe, Int.reduceLE, Int.reduceGT, Int.reduceGE, Int.reduceNe, Int.reduceAdd, Int.reduceSub, Int.reduceMul, reduceIte, ↓reduceIte, fn68, cx68, Tryd.f68, ti3, ti22, ti53, ti55, ti57, h1, h3, hk, nat_lt hlt, nat_neg, Int.toNat_natCast, hget, hcall, nat_succ hlt hmax]
theorem index_end {g : FuncId} {m : Nat} (hge : m ≤ i) :
    stepJ (ev cfg) cfg (.loop 68 2 ⟨(.dat N :: .clo g [] :: .dead :: .dead :: .dead :: .dead :: .dead :: I m :: I i :: .dead :: .dead :: .dead :: .dead :: .dead :: .dead :: .dead :: .dead :: .dead :: .dead :: []), bx, bx.length, none, false⟩) = some (.loop (.exit 0) ⟨(.dead :: .dead :: .dead :: .dead :: .dead :: .dead :: .dead :: .dead :: .dead :: .dead :: .dead :: .dead :: .dead :: .dead :: .dead :: .dead :: .dead :: .dead :: .dead :: []), bx, bx.length, none, false⟩) := by
  simp (maxSteps := 2000000) only [go_sem, Nat.reduceSub, Nat.reduceAdd, Nat.reduceMul, Nat.reduceLT, Nat.reduceLeDiff, Nat.reduceBEq, Nat.reduceEqDiff, Nat.reduceGT, Int.reduceToNat, Int.reduceLT, Int.reduceNeg, Int.reduceEq, Int.reduceBEq, Int.reduceBNe, Int.reduceLE, Int.reduceGT, Int.reduceGE, Int.reduceNe, Int.reduceAdd, Int.reduceSub, Int.reduceMul, reduceIte, ↓reduceIte, fn68, cx68, Tryd.f68, ti3, ti22, ti53, ti55, ti57, nat_ge hge]
theorem index_f {g : FuncId} {y : Option Int} (hN : IsS 5 nr N) 
    (hloop : ev cfg (.loop 68 2 ⟨(.dat N :: .clo g [] :: .dead :: .dead :: .dead :: .dead :: .dead :: I nr.length :: I 0 :: .dead :: .dead :: .dead :: .dead :: .dead :: .dead :: .dead :: .dead :: .dead :: .dead :: []), bx, bx.length, none, false⟩) = some (match y with
      | some j => .loop .ret ⟨(.dead :: .dead :: .dead :: .dead :: I j :: .dead :: .dead :: .dead :: .dead :: .dead :: .dead :: .dead :: .dead :: .dead :: .dead :: .dead :: .dead :: .dead :: .dead :: []), bx, bx.length, none, false⟩
      | none => .loop (.exit 0) ⟨(.dead :: .dead :: .dead :: .dead :: .dead :: .dead :: .dead :: .dead :: .dead :: .dead :: .dead :: .dead :: .dead :: .dead :: .dead :: .dead :: .dead :: .dead :: .dead :: []), bx, bx.length, none, false⟩)) :
    stepJ (ev cfg) cfg (.call 68 [.dat N, .clo g []] bx) = some (.ret (I (y.getD (-1))) none) := by
  obtain ⟨w, h1, h2, h3⟩ := hN
  cases y <;> simp (maxSteps := 2000000) only [go_sem, Nat.reduceSub, Nat.reduceAdd, Nat.reduceMul, Nat.reduceLT, Nat.reduceLeDiff, Nat.reduceBEq, Nat.reduceEqDiff, Nat.reduceGT, Int.reduceToNat, Int.reduceLT, Int.reduceNeg, Int.reduceEq, Int.reduceBEq, Int.reduceBNe, Int.reduceLE, Int.reduceGT, Int.reduceGE, Int.reduceNe, Int.reduceAdd, Int.reduceSub, Int.reduceMul, reduceIte, ↓reduceIte, fn68, cx68, Tryd.f68, ti3, ti22, ti53, ti55, ti57, h1, h3, hloop]
theorem start1_f (hK : K.oneC = true) : stepJ (ev cfg) cfg (.call 69 [.agg [I k, I a, I op, I n, .dat K]] bx) = some (.ret (B (k == 1)) none) := by
  simp (maxSteps := 2000000) only [go_sem, Nat.reduceSub, Nat.reduceAdd, Nat.reduceMul, Nat.reduceLT, Nat.reduceLeDiff, Nat.reduceBEq, Nat.reduceEqDiff, Nat.reduceGT, Int.reduceToNat, Int.reduceLT, Int.reduceNeg, Int.reduceEq, Int.reduceBEq, Int.reduceBNe, Int.reduceLE, Int.reduceGT, Int.reduceGE, Int.reduceNe, Int.reduceAdd, Int.reduceSub, Int.reduceMul, reduceIte, ↓reduceIte, fn69, cx69, Tryd.f69, ti3, ti53, ti55, ti57, hK]
theorem end1_f (hK : K.oneC = true) : stepJ (ev cfg) cfg (.call 70 [.agg [I k, I a, I op, I n, .dat K]] bx) = some (.ret (B (k == 2)) none) := by
  simp (maxSteps := 2000000) only [go_sem, Nat.reduceSub, Nat.reduceAdd, Nat.reduceMul, Nat.reduceLT, Nat.reduceLeDiff, Nat.reduceBEq, Nat.reduceEqDiff, Nat.reduceGT, Int.reduceToNat, Int.reduceLT, Int.reduceNeg, Int.reduceEq, Int.reduceBEq, Int.reduceBNe, Int.reduceLE, Int.reduceGT, Int.reduceGE, Int.reduceNe, Int.reduceAdd, Int.reduceSub, Int.reduceMul, reduceIte, ↓reduceIte, fn70, cx70, Tryd.f70, ti3, ti53, ti55, ti57, hK]
theorem start_f {y : Int} (hN : N.oneC = true) (hF : F.oneC = true) (hc : ∀ bx : List Box, ev cfg (.call 68 [.dat N, .clo 69 []] bx) = some (.ret (I y) none)) :
    stepJ (ev cfg) cfg (.call 52 [.agg [.dat N, .dat F]] bx) = some (.ret (I y) none) := by
  simp (maxSteps := 2000000) only [go_sem, Nat.reduceSub, Nat.reduceAdd, Nat.reduceMul, Nat.reduceLT, Nat.reduceLeDiff, Nat.reduceBEq, Nat.reduceEqDiff, Nat.reduceGT, Int.reduceToNat, Int.reduceLT, Int.reduceNeg, Int.reduceEq, Int.reduceBEq, Int.reduceBNe, Int.reduceLE, Int.reduceGT, Int.reduceGE, Int.reduceNe, Int.reduceAdd, Int.reduceSub, Int.reduceMul, reduceIte, ↓reduceIte, fn52, cx52, Tryd.f52, ti3, ti4, ti22, ti23, ti25, ti53, ti55, ti57, ti60, hN, hF, hc]
theorem end_f {y : Int} (hN : N.oneC = true) (hF : F.oneC = true) (hc : ∀ bx : List Box, ev cfg (.call 68 [.dat N, .clo 70 []] bx) = some (.ret (I y) none)) :
    stepJ (ev cfg) cfg (.call 53 [.agg [.dat N, .dat F]] bx) = some (.ret (I y) none) := by
  simp (maxSteps := 2000000) only [go_sem, Nat.reduceSub, Nat.reduceAdd, Nat.reduceMul, Nat.reduceLT, Nat.reduceLeDiff, Nat.reduceBEq, Nat.reduceEqDiff, Nat.reduceGT, Int.reduceToNat, Int.reduceLT, Int.reduceNeg, Int.reduceEq, Int.reduceBEq, Int.reduceBNe, Int.reduceLE, Int.reduceGT, Int.reduceGE, Int.reduceNe, Int.reduceAdd, Int.reduceSub, Int.reduceMul, reduceIte, ↓reduceIte, fn53, cx53, Tryd.f53, ti3, ti4, ti22, ti23, ti25, ti53, ti55, ti57, ti60, hN, hF, hc]

theorem leads1_f {q : Int} (hN : IsS 5 nr N) (hl : l < bx.length) (hb : bx[l]? = some [.dat N, .dat F]) : stepJ (ev cfg) cfg (.call 65 [I q, .ptr l 0] bx) = some (.ret (B (decide (q ≥ 0) && decide (q < (nr.length : Int)))) none) := by
  obtain ⟨w, h1, h2, h3⟩ := hN
  cases c1 : decide (q ≥ 0) <;> simp (maxSteps := 2000000) only [go_sem, Nat.reduceSub, Nat.reduceAdd, Nat.reduceMul, Nat.reduceLT, Nat.reduceLeDiff, Nat.reduceBEq, Nat.reduceEqDiff, Nat.reduceGT, Int.reduceToNat, Int.reduceLT, Int.reduceNeg, Int.reduceEq, Int.reduceBEq, Int.reduceBNe, Int.reduceLE, Int.reduceGT, Int.reduceGE, Int.reduceNe, Int.reduceAdd, Int.reduceSub, Int.reduceMul, reduceIte, ↓reduceIte, fn65, cx65, Tryd.f65, ti3, ti4, ti22, ti23, ti25, ti53, ti55, ti57, ti60, h1, h3, hl, hb, c1]

section
variable {f t : Int} {e v1 v2 z : Bool} {p : Nat} {X : D} {ors : List (List D)} {K2 : D} {op2 n2 : Int}
theorem leads_no1 (hN : N.oneC = true) (hF : F.oneC = true) (hK : K.oneC = true) (h1 : ∀ c : Box, ev cfg (.call 65 [I f, .ptr bx.length 0] (bx ++ [[.dat N, .dat F], c])) = some (.ret (B false) none)) :
    stepJ (ev cfg) cfg (.call 49 [.agg [.dat N, .dat F], .agg [I f, I t, B e, I op, I n, .dat K]] bx) = some (.ret (B false) none) := by
  simp (maxSteps := 2000000) only [go_sem, Nat.reduceSub, Nat.reduceAdd, Nat.reduceMul, Nat.reduceLT, Nat.reduceLeDiff, Nat.reduceBEq, Nat.reduceEqDiff, Nat.reduceGT, Int.reduceToNat, Int.reduceLT, Int.reduceNeg, Int.reduceEq, Int.reduceBEq, Int.reduceBNe, Int.reduceLE, Int.reduceGT, Int.reduceGE, Int.reduceNe, Int.reduceAdd, Int.reduceSub, Int.reduceMul, reduceIte, ↓reduceIte, fn49, cx49, Tryd.f49, ti3, ti4, ti22, ti23, ti25, ti42, ti53, ti55, ti57, ti60, hN, hF, hK, h1]
theorem leads_no2 (hN : N.oneC = true) (hF : F.oneC = true) (hK : K.oneC = true) (h1 : ∀ c : Box, ev cfg (.call 65 [I f, .ptr bx.length 0] (bx ++ [[.dat N, .dat F], c])) = some (.ret (B true) none))
    (h2 : ∀ c : Box, ev cfg (.call 65 [I t, .ptr bx.length 0] (bx ++ [[.dat N, .dat F], c])) = some (.ret (B v2) none)) (h : v2 = false ∨ (f == t) = true) :
    stepJ (ev cfg) cfg (.call 49 [.agg [.dat N, .dat F], .agg [I f, I t, B e, I op, I n, .dat K]] bx) = some (.ret (B false) none) := by
  cases v2
  · simp (maxSteps := 2000000) only [go_sem, Nat.reduceSub, Nat.reduceAdd, Nat.reduceMul, Nat.reduceLT, Nat.reduceLeDiff, Nat.reduceBEq, Nat.reduceEqDiff, Nat.reduceGT, Int.reduceToNat, Int.reduceLT, Int.reduceNeg, Int.reduceEq, Int.reduceBEq, Int.reduceBNe, Int.reduceLE, Int.reduceGT, Int.reduceGE, Int.reduceNe, Int.reduceAdd, Int.reduceSub, Int.reduceMul, reduceIte, ↓reduceIte, fn49, cx49, Tryd.f49, ti3, ti4, ti22, ti23, ti25, ti42, ti53, ti55, ti57, ti60, hN, hF, hK, h1, h2]
  · have h' : (f == t) = true := by rcases h with h | h; cases h; exact h
    simp (maxSteps := 2000000) only [go_sem, Nat.reduceSub, Nat.reduceAdd, Nat.reduceMul, Nat.reduceLT, Nat.reduceLeDiff, Nat.reduceBEq, Nat.reduceEqDiff, Nat.reduceGT, Int.reduceToNat, Int.reduceLT, Int.reduceNeg, Int.reduceEq, Int.reduceBEq, Int.reduceBNe, Int.reduceLE, Int.reduceGT, Int.reduceGE, Int.reduceNe, Int.reduceAdd, Int.reduceSub, Int.reduceMul, reduceIte, ↓reduceIte, fn49, cx49, Tryd.f49, ti3, ti4, ti22, ti23, ti25, ti42, ti53, ti55, ti57, ti60, hN, hF, hK, h1, h2, h']
theorem leads_go {zo : Bool} (hN : IsS 5 nr N) (hF : F.oneC = true) (hK : K.oneC = true) (h1 : ∀ c : Box, ev cfg (.call 65 [I p, .ptr bx.length 0] (bx ++ [[.dat N, .dat F], c])) = some (.ret (B true) none))
    (h2 : ∀ c : Box, ev cfg (.call 65 [I t, .ptr bx.length 0] (bx ++ [[.dat N, .dat F], c])) = some (.ret (B true) none)) (h3 : ((p : Int) == t) = false) (hget : nr[p]? = some [dI k, dI a, dI op2, dI n2, K2])
    (hX : IsS 1 ors X) (ho : ∀ bx : List Box, ev cfg (.call 39 [.agg [.dat N, .dat F], I p] bx) = some (.ret (.dat X) none)) (hn : ∀ bx : List Box, ev cfg (.call 64 [.agg [I op, I n, .dat K]] bx) = some (.ret (B z) none))
    (hof : ∀ bx : List Box, ev cfg (.call 63 [.agg [I op, I n, .dat K], I 2] bx) = some (.ret (B zo) none)) :
    stepJ (ev cfg) cfg (.call 49 [.agg [.dat N, .dat F], .agg [I p, I t, B e, I op, I n, .dat K]] bx) =
      some (.ret (B (if ((k != 5) || decide ((ors.length : Int) < 2)) = true then !e && z else if e = true then z else zo)) none) := by
  obtain ⟨w, g1, g2, g3⟩ := hN
  obtain rfl := isS_w g2 hget
  obtain ⟨w', g1', g2', g3'⟩ := hX
  have hlt : p < nr.length := (List.getElem?_eq_some_iff.1 hget).1
  cases c1 : (k != 5) <;> cases c2 : decide ((ors.length : Int) < 2) <;> cases e <;> simp (maxSteps := 2000000) only [go_sem, Nat.reduceSub, Nat.reduceAdd, Nat.reduceMul, Nat.reduceLT, Nat.reduceLeDiff, Nat.reduceBEq, Nat.reduceEqDiff, Nat.reduceGT, Int.reduceToNat, Int.reduceLT, Int.reduceNeg, Int.reduceEq, Int.reduceBEq, Int.reduceBNe, Int.reduceLE, Int.reduceGT, Int.reduceGE, Int.reduceNe, Int.reduceAdd, Int.reduceSub, Int.reduceMul, reduceIte, ↓reduceIte, fn49, cx49, Tryd.f49, ti3, ti4, ti22, ti23, ti25, ti42, ti53, ti55, ti57, ti60, g1, g3, g1', g3', hF, hK, h1, h2, h3, hget, ho, hn, hof, c1, c2, nat_neg, Int.toNat_natCast, hlt]
end

theorem places_round0 {g : FuncId} {cap : List Nat} {rule : Int} {m : Nat} (hcap : (cap.all fun l => decide (l < bx.length)) = true) (hlt : i < m) (hmax : m < 9223372036854775808)
    (hcall : ev cfg (.call g (I i :: cap.map fun l => .ptr l 0) bx) = some (.ret (B v) none)) :
    stepJ (ev cfg) cfg (.loop 45 3 ⟨(I rule :: .dead :: .clo g cap :: .dead :: .dead :: .dead :: .dead :: .dat .nil :: .dead :: I m :: I i :: .dead :: .dead :: .dead :: .dead :: .dead :: .dead :: .dead :: .dead :: .dead :: .dead :: .dead :: .dead :: .dead :: []), bx, bx.length, none, false⟩) =
      ev cfg (.loop 45 3 ⟨(I rule :: .dead :: .clo g cap :: .dead :: .dead :: .dead :: .dead :: (if v = true then .own true 2 [[dI rule, dI i]] else .dat .nil) :: .dead :: I m :: I ((i + 1 : Nat) : Int) :: .dead :: .dead :: .dead :: .dead :: .dead :: .dead :: .dead :: .dead :: .dead :: .dead :: .dead :: .dead :: .dead :: []), bx, bx.length, none, false⟩) := by
  cases v <;> simp (maxSteps := 2000000) only [go_sem, Nat.reduceSub, Nat.reduceAdd, Nat.reduceMul, Nat.reduceLT, Nat.reduceLeDiff, Nat.reduceBEq, Nat.reduceEqDiff, Nat.reduceGT, Int.reduceToNat, Int.reduceLT, Int.reduceNeg, Int.reduceEq, Int.reduceBEq, Int.reduceBNe, Int.reduceLE, Int.reduceGT, Int.reduceGE, Int.reduceNe, Int.reduceAdd, Int.reduceSub, Int.reduceMul, reduceIte, ↓reduceIte, fn45, cx45, Tryd.f45, ti3, ti79, ti82, nat_lt hlt, hcall, hcap, nat_succ hlt hmax]
theorem places_round1 {g : FuncId} {cap : List Nat} {rule : Int} {m : Nat} (hcap : (cap.all fun l => decide (l < bx.length)) = true) (hlt : i < m) (hmax : m < 9223372036854775808) (hks : (rs.length + 1) * 16 ≤ 140737488355328)
    (hcall : ev cfg (.call g (I i :: cap.map fun l => .ptr l 0) bx) = some (.ret (B v) none)) :
    stepJ (ev cfg) cfg (.loop 45 3 ⟨(I rule :: .dead :: .clo g cap :: .dead :: .dead :: .dead :: .dead :: .own true 2 rs :: .dead :: I m :: I i :: .dead :: .dead :: .dead :: .dead :: .dead :: .dead :: .dead :: .dead :: .dead :: .dead :: .dead :: .dead :: .dead :: []), bx, bx.length, none, false⟩) =
      ev cfg (.loop 45 3 ⟨(I rule :: .dead :: .clo g cap :: .dead :: .dead :: .dead :: .dead :: (.own true 2 (if v = true then rs ++ [[dI rule, dI i]] else rs)) :: .dead :: I m :: I ((i + 1 : Nat) : Int) :: .dead :: .dead :: .dead :: .dead :: .dead :: .dead :: .dead :: .dead :: .dead :: .dead :: .dead :: .dead :: .dead :: []), bx, bx.length, none, false⟩) := by
  cases v <;> simp (maxSteps := 2000000) only [go_sem, Nat.reduceSub, Nat.reduceAdd, Nat.reduceMul, Nat.reduceLT, Nat.reduceLeDiff, Nat.reduceBEq, Nat.reduceEqDiff, Nat.reduceGT, Int.reduceToNat, Int.reduceLT, Int.reduceNeg, Int.reduceEq, Int.reduceBEq, Int.reduceBNe, Int.reduceLE, Int.reduceGT, Int.reduceGE, Int.reduceNe, Int.reduceAdd, Int.reduceSub, Int.reduceMul, reduceIte, ↓reduceIte, fn45, cx45, Tryd.f45, ti3, ti79, ti82, nat_lt hlt, hcall, hcap, hks, nat_succ hlt hmax]
theorem places_end {g : FuncId} {cap : List Nat} {rule : Int} {m : Nat} (hcap : (cap.all fun l => decide (l < bx.length)) = true) (hge : m ≤ i) :
    stepJ (ev cfg) cfg (.loop 45 3 ⟨(I rule :: .dead :: .clo g cap :: .dead :: .dead :: .dead :: .dead :: mkS 2 rs :: .dead :: I m :: I i :: .dead :: .dead :: .dead :: .dead :: .dead :: .dead :: .dead :: .dead :: .dead :: .dead :: .dead :: .dead :: .dead :: []), bx, bx.length, none, false⟩) = some (.loop (.exit 0) ⟨(.dead :: .dead :: .dead :: .dead :: .dead :: .dead :: .dead :: mkS 2 rs :: .dead :: .dead :: .dead :: .dead :: .dead :: .dead :: .dead :: .dead :: .dead :: .dead :: .dead :: .dead :: .dead :: .dead :: .dead :: .dead :: []), bx, bx.length, none, false⟩) := by
  cases rs <;> simp (maxSteps := 2000000) only [go_sem, Nat.reduceSub, Nat.reduceAdd, Nat.reduceMul, Nat.reduceLT, Nat.reduceLeDiff, Nat.reduceBEq, Nat.reduceEqDiff, Nat.reduceGT, Int.reduceToNat, Int.reduceLT, Int.reduceNeg, Int.reduceEq, Int.reduceBEq, Int.reduceBNe, Int.reduceLE, Int.reduceGT, Int.reduceGE, Int.reduceNe, Int.reduceAdd, Int.reduceSub, Int.reduceMul, reduceIte, ↓reduceIte, fn45, cx45, Tryd.f45, ti3, ti79, ti82, mkS, nat_ge hge, hcap]
theorem places_f {g : FuncId} {cap : List Nat} {rule : Int} {m : Nat} (hcap : (cap.all fun l => decide (l < bx.length)) = true)
    (hloop : ev cfg (.loop 45 3 ⟨(I rule :: .dead :: .clo g cap :: .dead :: .dead :: .dead :: .dead :: .dat .nil :: .dead :: I m :: I 0 :: .dead :: .dead :: .dead :: .dead :: .dead :: .dead :: .dead :: .dead :: .dead :: .dead :: .dead :: .dead :: .dead :: []), bx, bx.length, none, false⟩) = some (.loop (.exit 0) ⟨(.dead :: .dead :: .dead :: .dead :: .dead :: .dead :: .dead :: mkS 2 rs :: .dead :: .dead :: .dead :: .dead :: .dead :: .dead :: .dead :: .dead :: .dead :: .dead :: .dead :: .dead :: .dead :: .dead :: .dead :: .dead :: []), bx, bx.length, none, false⟩)) :
    stepJ (ev cfg) cfg (.call 45 [I rule, I m, .clo g cap] bx) = some (.ret (mkS 2 rs) none) := by
  cases rs <;> simp only [mkS] at hloop <;> simp (maxSteps := 2000000) only [go_sem, Nat.reduceSub, Nat.reduceAdd, Nat.reduceMul, Nat.reduceLT, Nat.reduceLeDiff, Nat.reduceBEq, Nat.reduceEqDiff, Nat.reduceGT, Int.reduceToNat, Int.reduceLT, Int.reduceNeg, Int.reduceEq, Int.reduceBEq, Int.reduceBNe, Int.reduceLE, Int.reduceGT, Int.reduceGE, Int.reduceNe, Int.reduceAdd, Int.reduceSub, Int.reduceMul, reduceIte, ↓reduceIte, fn45, cx45, Tryd.f45, ti3, ti79, ti82, mkS, hcap, hloop]
end

end Go.Proofs.YtifckjhggamefaaDoor
