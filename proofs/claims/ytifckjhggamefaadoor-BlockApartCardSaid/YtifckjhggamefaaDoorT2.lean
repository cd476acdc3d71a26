/- Rounds of the terms' functions: large, deep, shaped, typed. No condition. -/
import Derived.Test.YtifckjhggamefaaDoorAt
import Derived.Test.YtifckjhggamefaaDoorMA
set_option linter.unusedSimpArgs false
set_option linter.unusedVariables false
set_option linter.unusedSectionVars false
namespace Go.Proofs.YtifckjhggamefaaDoor
open Go Go.Vx
set_option maxHeartbeats 4000000
set_option maxRecDepth 10000

section
variable {bx : List Box} {c : Box} {rows : List (List D)} {K : D} {i : Nat} {op n : Int} {K' : D}

def idxI : Option Nat → Int
  | some j => j
  | none => -1
theorem r84 {g : FuncId} {cap : List Nat} {b : Bool} (hK : IsS 3 rows K) (hget : rows[i]? = some [dI op, dI n, K']) (hlt : i < rows.length) (hmax : rows.length < 9223372036854775808) (hcap : cap.all (fun l => decide (l < bx.length)) = true)
    (hcall : ev cfg (.call g ([.agg [I op, I n, .dat K']] ++ cap.map fun l => .ptr l 0) bx) = some (.ret (B b) none)) :
    stepJ (ev cfg) cfg (.loop 100 2 ⟨(.dat K :: .clo g cap :: .dead :: .dead :: .dead :: .dead :: .dead :: I rows.length :: I i :: .dead :: .dead :: .dead :: .dead :: .dead :: .dead :: .dead :: .dead :: .dead :: .dead :: []), bx, bx.length, none, false⟩) =
      if b = true then some (.loop .ret ⟨(.dead :: .dead :: .dead :: .dead :: I i :: .dead :: .dead :: .dead :: .dead :: .dead :: .dead :: .dead :: .dead :: .dead :: .dead :: .dead :: .dead :: .dead :: .dead :: []), bx, bx.length, none, false⟩)
      else ev cfg (.loop 100 2 ⟨(.dat K :: .clo g cap :: .dead :: .dead :: .dead :: .dead :: .dead :: I rows.length :: I ((i + 1 : Nat) : Int) :: .dead :: .dead :: .dead :: .dead :: .dead :: .dead :: .dead :: .dead :: .dead :: .dead :: []), bx, bx.length, none, false⟩) := by
  obtain ⟨w, h1, h2, h3⟩ := hK
  obtain rfl := isS_w h2 hget
  simp only [List.cons_append, List.nil_append] at hcall
  cases b <;> simp (maxSteps := 2000000) only [go_sem, Nat.reduceSub, Nat.reduceAdd, Nat.reduceMul, Nat.reduceLT, Nat.reduceLeDiff, Nat.reduceBEq, Nat.reduceEqDiff, Nat.reduceGT, Int.reduceToNat, Int.reduceLT, Int.reduceNeg, Int.reduceEq, Int.reduceBEq, Int.reduceBNe, Int.reduceLE, Int.reduceGT, Int.reduceGE, Int.reduceNe, Int.reduceAdd, Int.reduceSub, Int.reduceMul, reduceIte, ↓reduceIte, fn100, cx100, Tryd.f100, ti3, ti53, ti55, h1, h3, nat_lt hlt, nat_neg, Int.toNat_natCast, hget, hcall, hcap, nat_succ hlt hmax, Nat.min_self, List.take_length, Nat.le_refl, Nat.sub_self, List.drop_length]
theorem e84 {g : FuncId} {cap : List Nat} {n : Nat} (hcap : cap.all (fun l => decide (l < bx.length)) = true) (hge : n ≤ i) :
    stepJ (ev cfg) cfg (.loop 100 2 ⟨(.dat K :: .clo g cap :: .dead :: .dead :: .dead :: .dead :: .dead :: I n :: I i :: .dead :: .dead :: .dead :: .dead :: .dead :: .dead :: .dead :: .dead :: .dead :: .dead :: []), bx, bx.length, none, false⟩) = some (.loop (.exit 0) ⟨(.dead :: .dead :: .dead :: .dead :: .dead :: .dead :: .dead :: .dead :: .dead :: .dead :: .dead :: .dead :: .dead :: .dead :: .dead :: .dead :: .dead :: .dead :: .dead :: []), bx, bx.length, none, false⟩) := by
  simp (maxSteps := 2000000) only [go_sem, Nat.reduceSub, Nat.reduceAdd, Nat.reduceMul, Nat.reduceLT, Nat.reduceLeDiff, Nat.reduceBEq, Nat.reduceEqDiff, Nat.reduceGT, Int.reduceToNat, Int.reduceLT, Int.reduceNeg, Int.reduceEq, Int.reduceBEq, Int.reduceBNe, Int.reduceLE, Int.reduceGT, Int.reduceGE, Int.reduceNe, Int.reduceAdd, Int.reduceSub, Int.reduceMul, reduceIte, ↓reduceIte, fn100, cx100, Tryd.f100, ti3, ti53, ti55, nat_ge hge, hcap, List.take_length, Nat.le_refl, Nat.sub_self, List.drop_length]
theorem f84 {g : FuncId} {cap : List Nat} {r : Option Nat} (hK : IsS 3 rows K)
    (hloop : ev cfg (.loop 100 2 ⟨(.dat K :: .clo g cap :: .dead :: .dead :: .dead :: .dead :: .dead :: I rows.length :: I 0 :: .dead :: .dead :: .dead :: .dead :: .dead :: .dead :: .dead :: .dead :: .dead :: .dead :: []), bx, bx.length, none, false⟩) =
      some (match r with | some j => .loop .ret ⟨(.dead :: .dead :: .dead :: .dead :: I j :: .dead :: .dead :: .dead :: .dead :: .dead :: .dead :: .dead :: .dead :: .dead :: .dead :: .dead :: .dead :: .dead :: .dead :: []), bx, bx.length, none, false⟩ | none => .loop (.exit 0) ⟨(.dead :: .dead :: .dead :: .dead :: .dead :: .dead :: .dead :: .dead :: .dead :: .dead :: .dead :: .dead :: .dead :: .dead :: .dead :: .dead :: .dead :: .dead :: .dead :: []), bx, bx.length, none, false⟩)) :
    stepJ (ev cfg) cfg (.call 100 [.dat K, .clo g cap] bx) = some (.ret (I (idxI r)) none) := by
  obtain ⟨w, h1, h2, h3⟩ := hK
  cases r <;> simp only at hloop <;> simp (maxSteps := 2000000) only [go_sem, Nat.reduceSub, Nat.reduceAdd, Nat.reduceMul, Nat.reduceLT, Nat.reduceLeDiff, Nat.reduceBEq, Nat.reduceEqDiff, Nat.reduceGT, Int.reduceToNat, Int.reduceLT, Int.reduceNeg, Int.reduceEq, Int.reduceBEq, Int.reduceBNe, Int.reduceLE, Int.reduceGT, Int.reduceGE, Int.reduceNe, Int.reduceAdd, Int.reduceSub, Int.reduceMul, reduceIte, ↓reduceIte, fn100, cx100, Tryd.f100, ti3, ti53, ti55, h1, h3, hloop, idxI]
theorem f63 {g : FuncId} {cap : List Nat} {x : Int} (hK : IsS 3 rows K) (h : ev cfg (.call 100 [.dat K, .clo g cap] bx) = some (.ret (I x) none)) :
    stepJ (ev cfg) cfg (.call 96 [.dat K, .clo g cap] bx) = some (.ret (B (decide (x ≥ 0))) none) := by
  obtain ⟨w, h1, h2, h3⟩ := hK
  simp (maxSteps := 2000000) only [go_sem, Nat.reduceSub, Nat.reduceAdd, Nat.reduceMul, Nat.reduceLT, Nat.reduceLeDiff, Nat.reduceBEq, Nat.reduceEqDiff, Nat.reduceGT, Int.reduceToNat, Int.reduceLT, Int.reduceNeg, Int.reduceEq, Int.reduceBEq, Int.reduceBNe, Int.reduceLE, Int.reduceGT, Int.reduceGE, Int.reduceNe, Int.reduceAdd, Int.reduceSub, Int.reduceMul, reduceIte, ↓reduceIte, fn96, cx96, Tryd.f96, h1, h3, h]

theorem f61 {d : Int} {b : Bool} (hK : IsS 3 rows K) (h : ∀ c : Box, ev cfg (.call 96 [.dat K, .clo 98 [bx.length + 1]] (bx ++ [c, [I d]])) = some (.ret (B b) none)) :
    stepJ (ev cfg) cfg (.call 94 [.agg [I op, I n, .dat K], I d] bx) = some (.ret (B (decide (d > 24) || b)) none) := by
  obtain ⟨w, h1, h2, h3⟩ := hK
  cases c1 : decide (d > 24) <;> simp (maxSteps := 2000000) only [go_sem, Nat.reduceSub, Nat.reduceAdd, Nat.reduceMul, Nat.reduceLT, Nat.reduceLeDiff, Nat.reduceBEq, Nat.reduceEqDiff, Nat.reduceGT, Int.reduceToNat, Int.reduceLT, Int.reduceNeg, Int.reduceEq, Int.reduceBEq, Int.reduceBNe, Int.reduceLE, Int.reduceGT, Int.reduceGE, Int.reduceNe, Int.reduceAdd, Int.reduceSub, Int.reduceMul, reduceIte, ↓reduceIte, fn94, cx94, Tryd.f94, ti3, ti53, ti55, h1, h3, h, c1]
theorem f82 {l : Nat} {d : Int} {b : Bool} (hK : IsS 3 rows K) (hl : l < bx.length) (hb : bx[l]? = some [I d]) (hd : IntKind.wrap .i64 (d + 1) = d + 1) (h : ∀ bx : List Box, ev cfg (.call 94 [.agg [I op, I n, .dat K], I (d + 1)] bx) = some (.ret (B b) none)) :
    stepJ (ev cfg) cfg (.call 98 [.agg [I op, I n, .dat K], .ptr l 0] bx) = some (.ret (B b) none) := by
  obtain ⟨w, h1, h2, h3⟩ := hK
  simp (maxSteps := 2000000) only [go_sem, Nat.reduceSub, Nat.reduceAdd, Nat.reduceMul, Nat.reduceLT, Nat.reduceLeDiff, Nat.reduceBEq, Nat.reduceEqDiff, Nat.reduceGT, Int.reduceToNat, Int.reduceLT, Int.reduceNeg, Int.reduceEq, Int.reduceBEq, Int.reduceBNe, Int.reduceLE, Int.reduceGT, Int.reduceGE, Int.reduceNe, Int.reduceAdd, Int.reduceSub, Int.reduceMul, reduceIte, ↓reduceIte, fn98, cx98, Tryd.f98, ti3, ti53, ti55, h1, h3, h, hl, hb, hd]
end

end Go.Proofs.YtifckjhggamefaaDoor
