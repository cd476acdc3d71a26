/- What the law's 'large' answers: the whole. No condition. -/
import Derived.Test.YtifckjhggamefaaDoorAt
import Derived.Test.YtifckjhggamefaaDoorN14
import Derived.Test.YtifckjhggamefaaDoorMD
import Derived.Test.YtifckjhggamefaaDoorMC
import Derived.Test.YtifckjhggamefaaDoorN12
import Derived.Test.YtifckjhggamefaaDoorN18
import Derived.Test.YtifckjhggamefaaDoorN19
import Derived.Test.YtifckjhggamefaaDoorN19b
import Derived.Test.YtifckjhggamefaaDoorN19c
import Derived.Test.YtifckjhggamefaaDoorN19d
import Derived.Test.YtifckjhggamefaaDoorN19e
import Derived.Test.YtifckjhggamefaaDoorN19f
import Derived.Test.YtifckjhggamefaaDoorN22
import Derived.Test.YtifckjhggamefaaDoorN26
import Derived.Test.YtifckjhggamefaaDoorN27
import Derived.Test.YtifckjhggamefaaDoorMA
import Derived.Test.YtifckjhggamefaaDoorRows
import Derived.Test.YtifckjhggamefaaDoorVf
import Derived.MakeChecks
import Derived.KernelRfl
import Derived.OpenShut
import Derived.Test.YtifckjhggamefaaDoorVxOk
import Derived.Test.YtifckjhggamefaaDoorCards
import Derived.Test.YtifckjhggamefaaDoorTie
import Derived.ProofKit
import Derived.LaidMore
import Derived.Stop.Joined
import Derived.SevenTiedAt
set_option linter.unusedSimpArgs false
set_option linter.unusedVariables false
set_option linter.unusedSectionVars false
namespace Go.Proofs.YtifckjhggamefaaDoor
open Go Go.Vx
set_option maxHeartbeats 4000000
set_option maxRecDepth 10000

section
variable {bx : List Box} {nr fr : List (List D)} {N F : D} {r1 r2 : Bool × Int}
theorem large_big (hN : IsS 5 nr N) (hF : IsS 6 fr F) (hb : (decide ((nr.length : Int) > 30) || decide ((fr.length : Int) > 50)) = true) :
    stepJ (ev cfg) cfg (.call 5 [.agg [.dat N, .dat F]] bx) = some (.ret (B true) none) := by
  obtain ⟨w, h1, h2, h3⟩ := hN
  obtain ⟨w, g1, g2, g3⟩ := hF
  cases c1 : decide ((nr.length : Int) > 30)
  · rw [c1, Bool.false_or] at hb
    simp (maxSteps := 2000000) only [go_sem, Nat.reduceSub, Nat.reduceAdd, Nat.reduceMul, Nat.reduceLT, Nat.reduceLeDiff, Nat.reduceBEq, Nat.reduceEqDiff, Nat.reduceGT, Int.reduceToNat, Int.reduceLT, Int.reduceNeg, Int.reduceEq, Int.reduceBEq, Int.reduceBNe, Int.reduceLE, Int.reduceGT, Int.reduceGE, Int.reduceNe, Int.reduceAdd, Int.reduceSub, Int.reduceMul, reduceIte, ↓reduceIte, fn5, cx5, Tryd.f5, ti3, ti4, ti22, ti23, ti25, ti34, ti53, ti55, ti57, ti60, h1, h3, g1, g3, c1, hb]
  · simp (maxSteps := 2000000) only [go_sem, Nat.reduceSub, Nat.reduceAdd, Nat.reduceMul, Nat.reduceLT, Nat.reduceLeDiff, Nat.reduceBEq, Nat.reduceEqDiff, Nat.reduceGT, Int.reduceToNat, Int.reduceLT, Int.reduceNeg, Int.reduceEq, Int.reduceBEq, Int.reduceBNe, Int.reduceLE, Int.reduceGT, Int.reduceGE, Int.reduceNe, Int.reduceAdd, Int.reduceSub, Int.reduceMul, reduceIte, ↓reduceIte, fn5, cx5, Tryd.f5, ti3, ti4, ti22, ti23, ti25, ti34, ti53, ti55, ti57, ti60, h1, h3, g1, g3, c1]
theorem large_f (hN : IsS 5 nr N) (hF : IsS 6 fr F) (c1 : decide ((nr.length : Int) > 30) = false) (c2 : decide ((fr.length : Int) > 50) = false)
    (hl1 : ev cfg (.loop 5 5 ⟨(.dead :: .ptr bx.length 0 :: .dead :: .ptr (bx.length + 1) 0 :: .dead :: .dead :: .dead :: .dead :: .dead :: .dead :: .dead :: .dead :: .dead :: .dead :: .dead :: .dead :: .dead :: .dead :: .dead :: .dead :: .dead :: .dat N :: I nr.length :: I 0 :: .dead :: .dead :: .dead :: .dead :: .dead :: .dead :: .dead :: .dead :: .dead :: .dead :: .dead :: .dead :: .dead :: .dead :: .dead :: .dead :: .dead :: .dead :: .dead :: .dead :: []), bx ++ [[.dat N, .dat F], [I 2000]], bx.length, none, false⟩) =
      some (if r1.1 = true then .loop .ret ⟨(.dead :: .ptr bx.length 0 :: B true :: .ptr (bx.length + 1) 0 :: .dead :: .dead :: .dead :: .dead :: .dead :: .dead :: .dead :: .dead :: .dead :: .dead :: .dead :: .dead :: .dead :: .dead :: .dead :: .dead :: .dead :: .dead :: .dead :: .dead :: .dead :: .dead :: .dead :: .dead :: .dead :: .dead :: .dead :: .dead :: .dead :: .dead :: .dead :: .dead :: .dead :: .dead :: .dead :: .dead :: .dead :: .dead :: .dead :: .dead :: []), bx ++ [[.dat N, .dat F], [I r1.2]], bx.length, none, false⟩ else .loop (.exit 0) ⟨(.dead :: .ptr bx.length 0 :: .dead :: .ptr (bx.length + 1) 0 :: .dead :: .dead :: .dead :: .dead :: .dead :: .dead :: .dead :: .dead :: .dead :: .dead :: .dead :: .dead :: .dead :: .dead :: .dead :: .dead :: .dead :: .dead :: .dead :: .dead :: .dead :: .dead :: .dead :: .dead :: .dead :: .dead :: .dead :: .dead :: .dead :: .dead :: .dead :: .dead :: .dead :: .dead :: .dead :: .dead :: .dead :: .dead :: .dead :: .dead :: []), bx ++ [[.dat N, .dat F], [I r1.2]], bx.length, none, false⟩))
    (hl2 : r1.1 = false → ev cfg (.loop 5 11 ⟨(.dead :: .dead :: .dead :: .ptr (bx.length + 1) 0 :: .dead :: .dead :: .dead :: .dead :: .dead :: .dead :: .dead :: .dead :: .dead :: .dead :: .dead :: .dead :: .dead :: .dead :: .dead :: .dead :: .dead :: .dead :: .dead :: .dead :: .dead :: .dead :: .dead :: .dead :: .dead :: .dead :: .dead :: .dead :: .dead :: .dat F :: I fr.length :: I 0 :: .dead :: .dead :: .dead :: .dead :: .dead :: .dead :: .dead :: .dead :: []), bx ++ [[.dat N, .dat F], [I r1.2]], bx.length, none, false⟩) =
      some (if r2.1 = true then .loop .ret ⟨(.dead :: .dead :: B true :: .dead :: .dead :: .dead :: .dead :: .dead :: .dead :: .dead :: .dead :: .dead :: .dead :: .dead :: .dead :: .dead :: .dead :: .dead :: .dead :: .dead :: .dead :: .dead :: .dead :: .dead :: .dead :: .dead :: .dead :: .dead :: .dead :: .dead :: .dead :: .dead :: .dead :: .dead :: .dead :: .dead :: .dead :: .dead :: .dead :: .dead :: .dead :: .dead :: .dead :: .dead :: []), bx ++ [[.dat N, .dat F], [I r2.2]], bx.length, none, false⟩ else .loop (.exit 2) ⟨(.dead :: .dead :: .dead :: .dead :: .dead :: .dead :: .dead :: .dead :: .dead :: .dead :: .dead :: .dead :: .dead :: .dead :: .dead :: .dead :: .dead :: .dead :: .dead :: .dead :: .dead :: .dead :: .dead :: .dead :: .dead :: .dead :: .dead :: .dead :: .dead :: .dead :: .dead :: .dead :: .dead :: .dead :: .dead :: .dead :: .dead :: .dead :: .dead :: .dead :: .dead :: .dead :: .dead :: .dead :: []), bx ++ [[.dat N, .dat F], [I r2.2]], bx.length, none, false⟩)) :
    stepJ (ev cfg) cfg (.call 5 [.agg [.dat N, .dat F]] bx) = some (.ret (B (r1.1 || r2.1)) none) := by
  obtain ⟨w, h1, h2, h3⟩ := hN
  obtain ⟨w, g1, g2, g3⟩ := hF
  cases e1 : r1.1
  · have hl2' := hl2 e1
    rw [e1] at hl1
    cases e2 : r2.1 <;> rw [e2] at hl2' <;> simp only [if_true, if_false, Bool.false_eq_true] at hl1 hl2' <;> simp (maxSteps := 2000000) only [go_sem, Nat.reduceSub, Nat.reduceAdd, Nat.reduceMul, Nat.reduceLT, Nat.reduceLeDiff, Nat.reduceBEq, Nat.reduceEqDiff, Nat.reduceGT, Int.reduceToNat, Int.reduceLT, Int.reduceNeg, Int.reduceEq, Int.reduceBEq, Int.reduceBNe, Int.reduceLE, Int.reduceGT, Int.reduceGE, Int.reduceNe, Int.reduceAdd, Int.reduceSub, Int.reduceMul, reduceIte, ↓reduceIte, fn5, cx5, Tryd.f5, ti3, ti4, ti22, ti23, ti25, ti34, ti53, ti55, ti57, ti60, h1, h3, g1, g3, c1, c2, hl1, hl2']
  · rw [e1] at hl1
    simp only [if_true] at hl1
    simp (maxSteps := 2000000) only [go_sem, Nat.reduceSub, Nat.reduceAdd, Nat.reduceMul, Nat.reduceLT, Nat.reduceLeDiff, Nat.reduceBEq, Nat.reduceEqDiff, Nat.reduceGT, Int.reduceToNat, Int.reduceLT, Int.reduceNeg, Int.reduceEq, Int.reduceBEq, Int.reduceBNe, Int.reduceLE, Int.reduceGT, Int.reduceGE, Int.reduceNe, Int.reduceAdd, Int.reduceSub, Int.reduceMul, reduceIte, ↓reduceIte, fn5, cx5, Tryd.f5, ti3, ti4, ti22, ti23, ti25, ti34, ti53, ti55, ti57, ti60, h1, h3, g1, g3, c1, c2, hl1]
end

end Go.Proofs.YtifckjhggamefaaDoor
namespace Go.Proofs.YtifckjhggamefaaDoor
open Go Go.Vx
set_option maxRecDepth 10000
set_option maxHeartbeats 1000000

theorem lgs_app : ∀ (xs ys : List Trm) (m d : Int), lgT.lgs m d (xs ++ ys) = if (lgT.lgs m d xs).1 = true then lgT.lgs m d xs else lgT.lgs (lgT.lgs m d xs).2 d ys
  | [], ys, m, d => by rw [List.nil_append, lgT.lgs, if_neg (by simp)]
  | x :: xs, ys, m, d => by
    rw [List.cons_append, lgT.lgs, lgT.lgs]
    by_cases h : (lgT m d x).1 = true
    · rw [if_pos h, if_pos h, if_pos rfl]
    · rw [if_neg h, if_neg h, lgs_app xs ys]

theorem nlarge_ev {n : Nt} {N F : D} (h : IsN n N F) (bx : List Box) : ev cfg (.call 5 [.agg [.dat N, .dat F]] bx) = some (.ret (B (largeN n)) none) := by
  obtain ⟨o1, o2⟩ := isN_one h
  obtain ⟨nr, fr, hN, hnr, hmax, hF, hfr, hmax2⟩ := h
  have hlen : nr.length = n.nodes.length := hnr.1
  have hflen : fr.length = n.flows.length := hfr.1
  by_cases hb : (decide ((nr.length : Int) > 30) || decide ((fr.length : Int) > 50)) = true
  · rw [ev_step cfg (large_big hN hF hb), largeN, ← hlen, ← hflen, ← Bool.or_assoc, hb, Bool.true_or]
  have hb' := hb
  simp only [Bool.not_eq_true, Bool.or_eq_false_iff] at hb'
  obtain ⟨c1, c2⟩ := hb'
  have deep1 : ∀ (t : Trm) {op k : Int} {K : D} {m : Int}, IsT t op k K → -1 ≤ m → m ≤ 1000000 → ∀ c : Box, ev cfg (.call 16 [.agg [I op, I k, .dat K], .ptr (bx.length + 1) 0, I 1] (bx ++ [[.dat N, .dat F], [I m], c])) = some (.ret (B (lgT m 1 t).1) (some ⟨bx ++ [[.dat N, .dat F], [I (lgT m 1 t).2], c], bx.length + 1, false⟩)) := fun t op k K m hT h1 h2 c => by
    have := ldeep_ev t (bx := bx ++ [[.dat N, .dat F], [I m], c]) (l := bx.length + 1) (d := 1) hT h1 h2 (by omega) (by omega) (by simp)
    rw [this]
    simp
  have loop1 : ∀ (xs : List Nd) (i : Nat) (m : Int), n.nodes.drop i = xs → -1 ≤ m → m ≤ 1000000 → ev cfg (.loop 5 5 ⟨(.dead :: .ptr bx.length 0 :: .dead :: .ptr (bx.length + 1) 0 :: .dead :: .dead :: .dead :: .dead :: .dead :: .dead :: .dead :: .dead :: .dead :: .dead :: .dead :: .dead :: .dead :: .dead :: .dead :: .dead :: .dead :: .dat N :: I nr.length :: I i :: .dead :: .dead :: .dead :: .dead :: .dead :: .dead :: .dead :: .dead :: .dead :: .dead :: .dead :: .dead :: .dead :: .dead :: .dead :: .dead :: .dead :: .dead :: .dead :: .dead :: []), bx ++ [[.dat N, .dat F], [I m]], bx.length, none, false⟩) =
      some (if (lgT.lgs m 1 (xs.map (·.t))).1 = true then .loop .ret ⟨(.dead :: .ptr bx.length 0 :: B true :: .ptr (bx.length + 1) 0 :: .dead :: .dead :: .dead :: .dead :: .dead :: .dead :: .dead :: .dead :: .dead :: .dead :: .dead :: .dead :: .dead :: .dead :: .dead :: .dead :: .dead :: .dead :: .dead :: .dead :: .dead :: .dead :: .dead :: .dead :: .dead :: .dead :: .dead :: .dead :: .dead :: .dead :: .dead :: .dead :: .dead :: .dead :: .dead :: .dead :: .dead :: .dead :: .dead :: .dead :: []), bx ++ [[.dat N, .dat F], [I (lgT.lgs m 1 (xs.map (·.t))).2]], bx.length, none, false⟩ else .loop (.exit 0) ⟨(.dead :: .ptr bx.length 0 :: .dead :: .ptr (bx.length + 1) 0 :: .dead :: .dead :: .dead :: .dead :: .dead :: .dead :: .dead :: .dead :: .dead :: .dead :: .dead :: .dead :: .dead :: .dead :: .dead :: .dead :: .dead :: .dead :: .dead :: .dead :: .dead :: .dead :: .dead :: .dead :: .dead :: .dead :: .dead :: .dead :: .dead :: .dead :: .dead :: .dead :: .dead :: .dead :: .dead :: .dead :: .dead :: .dead :: .dead :: .dead :: []), bx ++ [[.dat N, .dat F], [I (lgT.lgs m 1 (xs.map (·.t))).2]], bx.length, none, false⟩) := by
    intro xs
    induction xs with
    | nil =>
      intro i m hd h1 h2
      rw [List.map_nil, lgT.lgs, if_neg (by simp)]
      exact ev_step cfg (large_e1 o1 o2 (by rw [hlen]; exact drop_nil hd))
    | cons x xs ih =>
      intro i m hd h1 h2
      obtain ⟨hget, hd', hlt⟩ := drop_cons hd
      obtain ⟨row, hrow, _, _, op, k, K, rfl, hT⟩ := hnr.2 i x hget
      have hr := large_r1 (res := lgT m 1 x.t) hN o2 hrow (by rw [hlen]; exact hlt) (by rw [hlen]; exact hmax) (isT_one hT) (deep1 x.t hT h1 h2)
      rw [List.map_cons, lgT.lgs]
      by_cases hc : (lgT m 1 x.t).1 = true
      · rw [if_pos hc] at hr
        rw [if_pos hc, if_pos rfl]
        exact ev_step cfg hr
      · rw [if_neg hc] at hr
        rw [if_neg hc]
        have := lgT_ge x.t m 1
        exact ev_step cfg (hr.trans (ih (i + 1) _ hd' (lgT_lo x.t m 1 hc) (by omega)))
  have loop2 : ∀ (xs : List Fl) (i : Nat) (m : Int), n.flows.drop i = xs → -1 ≤ m → m ≤ 1000000 → ev cfg (.loop 5 11 ⟨(.dead :: .dead :: .dead :: .ptr (bx.length + 1) 0 :: .dead :: .dead :: .dead :: .dead :: .dead :: .dead :: .dead :: .dead :: .dead :: .dead :: .dead :: .dead :: .dead :: .dead :: .dead :: .dead :: .dead :: .dead :: .dead :: .dead :: .dead :: .dead :: .dead :: .dead :: .dead :: .dead :: .dead :: .dead :: .dead :: .dat F :: I fr.length :: I i :: .dead :: .dead :: .dead :: .dead :: .dead :: .dead :: .dead :: .dead :: []), bx ++ [[.dat N, .dat F], [I m]], bx.length, none, false⟩) =
      some (if (lgT.lgs m 1 (xs.map (·.c))).1 = true then .loop .ret ⟨(.dead :: .dead :: B true :: .dead :: .dead :: .dead :: .dead :: .dead :: .dead :: .dead :: .dead :: .dead :: .dead :: .dead :: .dead :: .dead :: .dead :: .dead :: .dead :: .dead :: .dead :: .dead :: .dead :: .dead :: .dead :: .dead :: .dead :: .dead :: .dead :: .dead :: .dead :: .dead :: .dead :: .dead :: .dead :: .dead :: .dead :: .dead :: .dead :: .dead :: .dead :: .dead :: .dead :: .dead :: []), bx ++ [[.dat N, .dat F], [I (lgT.lgs m 1 (xs.map (·.c))).2]], bx.length, none, false⟩ else .loop (.exit 2) ⟨(.dead :: .dead :: .dead :: .dead :: .dead :: .dead :: .dead :: .dead :: .dead :: .dead :: .dead :: .dead :: .dead :: .dead :: .dead :: .dead :: .dead :: .dead :: .dead :: .dead :: .dead :: .dead :: .dead :: .dead :: .dead :: .dead :: .dead :: .dead :: .dead :: .dead :: .dead :: .dead :: .dead :: .dead :: .dead :: .dead :: .dead :: .dead :: .dead :: .dead :: .dead :: .dead :: .dead :: .dead :: []), bx ++ [[.dat N, .dat F], [I (lgT.lgs m 1 (xs.map (·.c))).2]], bx.length, none, false⟩) := by
    intro xs
    induction xs with
    | nil =>
      intro i m hd h1 h2
      rw [List.map_nil, lgT.lgs, if_neg (by simp)]
      exact ev_step cfg (large_e2 o1 o2 (by rw [hflen]; exact drop_nil hd))
    | cons x xs ih =>
      intro i m hd h1 h2
      obtain ⟨hget, hd', hlt⟩ := drop_cons hd
      obtain ⟨row, hrow, _, _, op, k, K, rfl, hT⟩ := hfr.2 i x hget
      have hr := large_r2 (res := lgT m 1 x.c) o1 hF hrow (by rw [hflen]; exact hlt) (by rw [hflen]; exact hmax2) (isT_one hT) (deep1 x.c hT h1 h2)
      rw [List.map_cons, lgT.lgs]
      by_cases hc : (lgT m 1 x.c).1 = true
      · rw [if_pos hc] at hr
        rw [if_pos hc, if_pos rfl]
        exact ev_step cfg hr
      · rw [if_neg hc] at hr
        rw [if_neg hc]
        have := lgT_ge x.c m 1
        exact ev_step cfg (hr.trans (ih (i + 1) _ hd' (lgT_lo x.c m 1 hc) (by omega)))
  have hl1 := loop1 n.nodes 0 2000 rfl (by omega) (by omega)
  have hl2 : (lgT.lgs 2000 1 (n.nodes.map (·.t))).1 = false → _ := fun e => loop2 n.flows 0 (lgT.lgs 2000 1 (n.nodes.map (·.t))).2 rfl (lgT_lo.go _ 2000 1 (by omega) (by rw [e]; decide)) (by have := lgT_ge.go (n.nodes.map (·.t)) 2000 1; omega)
  rw [ev_step cfg (large_f hN hF c1 c2 hl1 hl2), largeN, ← hlen, ← hflen, c1, c2, Bool.false_or, Bool.false_or, lgL, termsN, lgs_app]
  congr 3
  split
  · rename_i hc; rw [hc]; rfl
  · rename_i hc
    rw [Bool.not_eq_true] at hc
    rw [hc, Bool.false_or]

end Go.Proofs.YtifckjhggamefaaDoor
namespace Go.Proofs.YtifckjhggamefaaDoor
open Go Go.Vx
set_option maxRecDepth 10000
set_option maxHeartbeats 1000000

theorem intHas_ev (xs : List Int) (X : D) (hX : IsS 1 (intR xs) X) (hlen : xs.length < 1000000) (x : Int) (bx : List Box) : ev cfg (.call 29 [.dat X, I x] bx) = some (.ret (B (xs.any fun y => x == y)) none) := by
  have oX : X.oneC = true := by obtain ⟨_, _, _, h⟩ := hX; exact h
  have hl : (intR xs).length = xs.length := intR_len xs
  have loop : ∀ (ys : List Int) (i : Nat), xs.drop i = ys → ∃ q : Option Nat, q.isSome = (ys.any fun y => x == y) ∧ ev cfg (.loop 44 2 ⟨(.dat X :: I x :: .dead :: .dead :: .dead :: .dead :: .dead :: I (intR xs).length :: I i :: .dead :: .dead :: .dead :: .dead :: .dead :: .dead :: .dead :: .dead :: .dead :: .dead :: []), bx, bx.length, none, false⟩) = some (match q with
      | some j => .loop .ret ⟨(.dead :: .dead :: .dead :: .dead :: I j :: .dead :: .dead :: .dead :: .dead :: .dead :: .dead :: .dead :: .dead :: .dead :: .dead :: .dead :: .dead :: .dead :: .dead :: []), bx, bx.length, none, false⟩
      | none => .loop (.exit 0) ⟨(.dead :: .dead :: .dead :: .dead :: .dead :: .dead :: .dead :: .dead :: .dead :: .dead :: .dead :: .dead :: .dead :: .dead :: .dead :: .dead :: .dead :: .dead :: .dead :: []), bx, bx.length, none, false⟩) := by
    intro ys
    induction ys with
    | nil =>
      intro i hd
      exact ⟨none, rfl, ev_step cfg (intIdx_stop oX (by rw [hl]; exact drop_nil hd))⟩
    | cons y ys ih =>
      intro i hd
      obtain ⟨hget, hd', hlt⟩ := drop_cons hd
      have hr := intIdx_round (bx := bx) (x := x) (y := y) (i := i) hX (by simp [intR, hget]) (by rw [hl]; exact hlt) (by rw [hl]; omega)
      rw [List.any_cons]
      by_cases hx : (x == y) = true
      · rw [if_pos hx] at hr
        exact ⟨some i, by rw [hx]; rfl, ev_step cfg hr⟩
      · rw [if_neg hx] at hr
        obtain ⟨q, h1, h2⟩ := ih (i + 1) hd'
        rw [Bool.not_eq_true] at hx
        exact ⟨q, by rw [hx, Bool.false_or]; exact h1, ev_step cfg (hr.trans h2)⟩
  obtain ⟨q, h1, h2⟩ := loop xs 0 rfl
  have hc := ev_step cfg (intHas_call oX (ev_step cfg (intIdx_call hX h2)))
  rw [hc]
  cases q with
  | some j =>
    have e : (xs.any fun y => x == y) = true := h1.symm
    rw [e]
    have : decide (((j : Nat) : Int) ≥ 0) = true := decide_eq_true (by omega)
    simp only [this]
  | none =>
    have e : (xs.any fun y => x == y) = false := h1.symm
    rw [e]; rfl

theorem kids_ev {g : FuncId} {cap : List Nat} (p : Blk → Bool) {ks : List Blk} {rows : List (List D)} {K : D} (hK : IsS 5 rows K) (hks : IsB.IsBs ks rows) (hmax : ks.length < 9223372036854775808) {bx : List Box} (hcap : (cap.all fun l => decide (l < bx.length)) = true)
    (hcall : ∀ b ∈ ks, ∀ k n a K L, IsB b k n a K L → ev cfg (.call g (.agg [I k, I n, I a, .dat K, .dat L] :: cap.map fun l => .ptr l 0) bx) = some (.ret (B (p b)) none)) :
    ev cfg (.call 36 [.dat K, .clo g cap] bx) = some (.ret (B (ks.any p)) none) := by
  have oK : K.oneC = true := by obtain ⟨_, _, _, h⟩ := hK; exact h
  have hlen := isBs_len hks
  have loop : ∀ (bs : List Blk) (rs : List (List D)) (i : Nat), (∀ b ∈ bs, b ∈ ks) → rows.drop i = rs → IsB.IsBs bs rs → ∃ q : Option Nat, q.isSome = bs.any p ∧ ev cfg (.loop 58 2 ⟨(.dat K :: .clo g cap :: .dead :: .dead :: .dead :: .dead :: .dead :: I rows.length :: I i :: .dead :: .dead :: .dead :: .dead :: .dead :: .dead :: .dead :: .dead :: .dead :: .dead :: []), bx, bx.length, none, false⟩) = some (match q with
      | some j => .loop .ret ⟨(.dead :: .dead :: .dead :: .dead :: I j :: .dead :: .dead :: .dead :: .dead :: .dead :: .dead :: .dead :: .dead :: .dead :: .dead :: .dead :: .dead :: .dead :: .dead :: []), bx, bx.length, none, false⟩
      | none => .loop (.exit 0) ⟨(.dead :: .dead :: .dead :: .dead :: .dead :: .dead :: .dead :: .dead :: .dead :: .dead :: .dead :: .dead :: .dead :: .dead :: .dead :: .dead :: .dead :: .dead :: .dead :: []), bx, bx.length, none, false⟩) := by
    intro bs
    induction bs with
    | nil =>
      intro rs i hin hd hbs
      rw [IsB.IsBs] at hbs
      subst hbs
      exact ⟨none, rfl, ev_step cfg (kid_end hcap oK (drop_nil hd))⟩
    | cons b bs ih =>
      intro rs i hin hd hbs
      rw [IsB.IsBs] at hbs
      obtain ⟨k, n, a, K', L', rest, rfl, hB, hrest⟩ := hbs
      obtain ⟨hget, hd', hlt⟩ := drop_cons hd
      have hr := kid_round (bx := bx) (v := p b) hcap hK hget hlt (by rw [hlen]; exact hmax) (isB_one hB).1 (isB_one hB).2 (hcall b (hin b (List.mem_cons_self ..)) _ _ _ _ _ hB)
      rw [List.any_cons]
      by_cases hx : p b = true
      · rw [if_pos hx] at hr
        exact ⟨some i, by rw [hx]; rfl, ev_step cfg hr⟩
      · rw [if_neg hx] at hr
        obtain ⟨q, h1, h2⟩ := ih rest (i + 1) (fun c hc => hin c (List.mem_cons_of_mem _ hc)) hd' hrest
        rw [Bool.not_eq_true] at hx
        exact ⟨q, by rw [hx, Bool.false_or]; exact h1, ev_step cfg (hr.trans h2)⟩
  obtain ⟨q, h1, h2⟩ := loop ks rows 0 (fun _ h => h) rfl hks
  have hc := ev_step cfg (some_kid hcap oK (ev_step cfg (kid_f hcap hK h2)))
  rw [hc]
  cases q with
  | some j =>
    have e : ks.any p = true := h1.symm
    rw [e]
    have : decide (((j : Nat) : Int) ≥ 0) = true := decide_eq_true (by omega)
    simp only [this]
  | none =>
    have e : ks.any p = false := h1.symm
    rw [e]; rfl

def splitN (n : Nt) (q kd m : Int) : Bool := inN n q && (kindN n q == kd && (decide (m > 1) && ((outsN n q).length : Int) == m))
theorem inN_rows {n : Nt} {nr : List (List D)} (h : nr.length = n.nodes.length) (q : Int) : (decide (q ≥ 0) && decide (q < (nr.length : Int))) = inN n q := by rw [h]; rfl
theorem inN_nat {n : Nt} {q : Int} (h : inN n q = true) : ∃ p : Nat, q = p ∧ p < n.nodes.length := by
  simp only [inN, Bool.and_eq_true, decide_eq_true_eq] at h
  exact ⟨q.toNat, by omega, by omega⟩
theorem splits_ev {n : Nt} {N F : D} (h : IsN n N F) (hsz : n.flows.length ≤ 1000000) (q kd m : Int) (bx : List Box) : ev cfg (.call 56 [.agg [.dat N, .dat F], I q, I kd, I m] bx) = some (.ret (B (splitN n q kd m)) none) := by
  have hh := h
  obtain ⟨oN, oF⟩ := isN_one h
  obtain ⟨nr, fr, hN, hnr, _⟩ := h
  cases hin : inN n q with
  | false => rw [ev_step cfg (splits_no hN oF ((inN_rows hnr.1 q).trans hin)), splitN, hin, Bool.false_and]
  | true =>
    obtain ⟨p, rfl, hp⟩ := inN_nat hin
    obtain ⟨row, hrow, _, _, op, k, K, rfl, hT⟩ := hnr.get hp
    rw [ev_step cfg (splits_go hN oF hrow (mkD_is _ _) fun bx => outs_ev hh hsz p bx), splitN, hin, Bool.true_and, kind_at hp, natR_len]

def badX (nk nf : Nat) (x : Int × Int × Int) : Bool := badLk nk nf x.1 x.2.1 x.2.2
def cntW (g : Int × Int × Int → Int) (ls : List (Int × Int × Int)) : Nat := (ls.filter fun x => decide (g x < 0)).length
def linkedW (nk nf : Nat) (ls : List (Int × Int × Int)) : Bool := !ls.any (badX nk nf) && (((cntW (·.1) ls : Nat) : Int) == 1 && (((cntW (·.2.1) ls : Nat) : Int) == 1 && decide ((ls.length : Int) ≤ 40)))
theorem cnt_cons (g : Int × Int × Int → Int) (x : Int × Int × Int) (ls : List (Int × Int × Int)) : ((cntW g (x :: ls) : Nat) : Int) = (if g x < 0 then 1 else 0) + (cntW g ls : Nat) := by
  unfold cntW
  rw [List.filter_cons]
  by_cases h : g x < 0
  · simp [h]; omega
  · simp [h]
theorem linked_evB {n : Nt} {N F : D} (h : IsN n N F) {ks : List Blk} {ls : List (Int × Int × Int)} {rows : List (List D)} {K L : D} (hK : IsS 5 rows K) (hks : IsB.IsBs ks rows) (hL : IsS 3 (ls.map lnkD) L) (hmax : ls.length < 1000000000) (k nd a : Int) (bx : List Box) :
    ev cfg (.call 57 [.agg [.dat N, .dat F], .agg [I k, I nd, I a, .dat K, .dat L]] bx) = some (.ret (B (linkedW ks.length n.flows.length ls)) none) := by
  obtain ⟨oN, oF⟩ := isN_one h
  obtain ⟨nr, fr, hN, hnr, _, hF, hfr, _⟩ := h
  have oK : K.oneC = true := by obtain ⟨_, _, _, h⟩ := hK; exact h
  have oL : L.oneC = true := by obtain ⟨_, _, _, h⟩ := hL; exact h
  have hlen : (ls.map lnkD).length = ls.length := by simp
  have hkl := isBs_len hks
  have hfl := hfr.1
  have loop : ∀ (xs : List (Int × Int × Int)) (i : Nat) (ins outs : Int), ls.drop i = xs → 0 ≤ ins → ins ≤ i → 0 ≤ outs → outs ≤ i → ∃ p q : Int,
      ev cfg (.loop 57 3 ⟨(.dead :: .dead :: .ptr bx.length 0 :: .ptr (bx.length + 1) 0 :: .dead :: I ins :: I outs :: .dead :: .dead :: .dead :: .dat L :: I (ls.map lnkD).length :: I i :: .dead :: .dead :: .dead :: .dead :: .dead :: .dead :: .dead :: .dead :: .dead :: .dead :: .dead :: .dead :: .dead :: .dead :: .dead :: .dead :: .dead :: .dead :: .dead :: .dead :: .dead :: .dead :: .dead :: .dead :: .dead :: .dead :: .dead :: .dead :: .dead :: .dead :: .dead :: .dead :: .dead :: .dead :: .dead :: .dead :: .dead :: .dead :: .dead :: .dead :: .dead :: .dead :: .dead :: .dead :: .dead :: .dead :: .dead :: .dead :: .dead :: .dead :: .dead :: .dead :: .dead :: .dead :: .dead :: .dead :: .dead :: .dead :: .dead :: .dead :: .dead :: .dead :: .dead :: []), bx ++ [[.dat N, .dat F], [I k, I nd, I a, .dat K, .dat L]], bx.length, none, false⟩) =
        some (if xs.any (badX rows.length fr.length) = true then .loop .ret ⟨(.dead :: .dead :: .dead :: .ptr (bx.length + 1) 0 :: B false :: I p :: I q :: .dead :: .dead :: .dead :: .dead :: .dead :: .dead :: .dead :: .dead :: .dead :: .dead :: .dead :: .dead :: .dead :: .dead :: .dead :: .dead :: .dead :: .dead :: .dead :: .dead :: .dead :: .dead :: .dead :: .dead :: .dead :: .dead :: .dead :: .dead :: .dead :: .dead :: .dead :: .dead :: .dead :: .dead :: .dead :: .dead :: .dead :: .dead :: .dead :: .dead :: .dead :: .dead :: .dead :: .dead :: .dead :: .dead :: .dead :: .dead :: .dead :: .dead :: .dead :: .dead :: .dead :: .dead :: .dead :: .dead :: .dead :: .dead :: .dead :: .dead :: .dead :: .dead :: .dead :: .dead :: .dead :: .dead :: .dead :: .dead :: .dead :: []), bx ++ [[.dat N, .dat F], [I k, I nd, I a, .dat K, .dat L]], bx.length, none, false⟩
        else .loop (.exit 0) ⟨(.dead :: .dead :: .dead :: .ptr (bx.length + 1) 0 :: .dead :: I (ins + (cntW (·.1) xs : Nat)) :: I (outs + (cntW (·.2.1) xs : Nat)) :: .dead :: .dead :: .dead :: .dead :: .dead :: .dead :: .dead :: .dead :: .dead :: .dead :: .dead :: .dead :: .dead :: .dead :: .dead :: .dead :: .dead :: .dead :: .dead :: .dead :: .dead :: .dead :: .dead :: .dead :: .dead :: .dead :: .dead :: .dead :: .dead :: .dead :: .dead :: .dead :: .dead :: .dead :: .dead :: .dead :: .dead :: .dead :: .dead :: .dead :: .dead :: .dead :: .dead :: .dead :: .dead :: .dead :: .dead :: .dead :: .dead :: .dead :: .dead :: .dead :: .dead :: .dead :: .dead :: .dead :: .dead :: .dead :: .dead :: .dead :: .dead :: .dead :: .dead :: .dead :: .dead :: .dead :: .dead :: .dead :: .dead :: []), bx ++ [[.dat N, .dat F], [I k, I nd, I a, .dat K, .dat L]], bx.length, none, false⟩) := by
    intro xs
    induction xs with
    | nil =>
      intro i ins outs hd h1 h2 h3 h4
      refine ⟨0, 0, ?_⟩
      rw [if_neg (by simp)]
      have := ev_step cfg (blink_end (bx := bx) (k := k) (n := nd) (a := a) (ins := ins) (outs := outs) oN oF oK oL (m := (ls.map lnkD).length) (i := i) (by rw [hlen]; exact drop_nil hd))
      rw [this]
      simp [cntW]
    | cons x xs ih =>
      intro i ins outs hd h1 h2 h3 h4
      obtain ⟨hget, hd', hlt⟩ := drop_cons hd
      have hg : (ls.map lnkD)[i]? = some [dI x.1, dI x.2.1, dI x.2.2] := by simp [hget, lnkD]
      rw [List.any_cons]
      cases hb : badX rows.length fr.length x with
      | true =>
        refine ⟨ins, outs, ?_⟩
        rw [Bool.true_or, if_pos rfl]
        exact ev_step cfg (blink_bad oN hF hK hL hg (by rw [hlen]; exact hlt) hb)
      | false =>
        have hb' : badLk rows.length fr.length x.1 x.2.1 x.2.2 = false := hb
        simp only [badLk, Bool.or_eq_false_iff] at hb'
        obtain ⟨e1, e2, e3, e4, e5, e6⟩ := hb'
        obtain ⟨p, q, hpq⟩ := ih (i + 1) (if x.1 < 0 then ins + 1 else ins) (if x.2.1 < 0 then outs + 1 else outs) hd' (by split <;> omega) (by split <;> omega) (by split <;> omega) (by split <;> omega)
        refine ⟨p, q, ?_⟩
        rw [Bool.false_or]
        have hr := blink_ok (bx := bx) (k := k) (n := nd) (a := a) (ins := ins) (outs := outs) oN hF hK hL hg (by rw [hlen]; exact hlt) (by rw [hlen]; omega) e1 e2 e3 e4 e5 e6 (wrap_lo (by omega) (by omega)) (wrap_lo (by omega) (by omega))
        refine (ev_step cfg (hr.trans hpq)).trans ?_
        have c1 : (if x.1 < 0 then ins + 1 else ins) + ((cntW (·.1) xs : Nat) : Int) = ins + ((cntW (·.1) (x :: xs) : Nat) : Int) := by rw [cnt_cons]; split <;> omega
        have c2 : (if x.2.1 < 0 then outs + 1 else outs) + ((cntW (·.2.1) xs : Nat) : Int) = outs + ((cntW (·.2.1) (x :: xs) : Nat) : Int) := by rw [cnt_cons]; split <;> omega
        rw [c1, c2]
  obtain ⟨p, q, hpq⟩ := loop ls 0 0 0 rfl (by omega) (by omega) (by omega) (by omega)
  rw [hkl, hfl] at hpq
  unfold linkedW
  cases hb : ls.any (badX ks.length n.flows.length) with
  | true =>
    rw [hb, if_pos rfl] at hpq
    rw [ev_step cfg (blink_fno oN oF oK hL hpq)]; rfl
  | false =>
    rw [hb, if_neg (by decide), Int.zero_add, Int.zero_add] at hpq
    rw [ev_step cfg (blink_f oN oF oK hL hpq), hlen]; rfl

def headBad (k a : Int) (nl : Nat) : Bool := ((a != 0) && ((k != 7) || (a != 1))) || (decide ((nl : Int) > 0) && (k != 9))
def kB : Blk → Int
  | .mk k _ _ _ _ => k
def rightB (n : Nt) (k nd a : Int) (ks : List Blk) (ls : List (Int × Int × Int)) : Bool :=
  if headBad k a ls.length = true then false
  else if k = 1 ∨ k = 10 then nd == 0 && (ks.length : Int) == 0
  else if k = 2 then inN n nd && ((ks.length : Int) == 0 && [3, 4, 8].any fun y => kindN n nd == y)
  else if k = 8 then inN n nd && ((ks.length : Int) == 0 && [5, 6, 7].any fun y => kindN n nd == y)
  else if k = 3 then nd == 0 && (decide ((ks.length : Int) > 1) && !(ks.any fun b => kB b == 3))
  else if k = 4 then splitN n nd 6 ks.length
  else if k = 5 then splitN n nd 5 ks.length
  else if k = 6 then splitN n nd 7 ks.length
  else if k = 7 then (ks.length : Int) == 2 && splitN n nd 5 ks.length
  else if k = 9 then nd == 0 && (decide ((ks.length : Int) > 0) && linkedW ks.length n.flows.length ls)
  else false

theorem right_ev3 {n : Nt} {N F : D} (h : IsN n N F) (hsz : n.flows.length ≤ 1000) {k nd a : Int} {ks : List Blk} {ls : List (Int × Int × Int)} {K L : D} (hB : IsB (.mk k nd a ks ls) k nd a K L) (hlm : ls.length < 1000000000) (bx : List Box) :
    ev cfg (.call 35 [.agg [.dat N, .dat F], .agg [I k, I nd, I a, .dat K, .dat L]] bx) = some (.ret (B (rightB n k nd a ks ls)) none) := by
  have hh := h
  obtain ⟨oN, oF⟩ := isN_one h
  obtain ⟨nr, fr, hN, hnr, _, hF, hfr, _⟩ := h
  rw [IsB] at hB
  obtain ⟨_, _, _, _, _, _, rows, hK, hks, hmax, hL, _, _⟩ := hB
  have hkl := isBs_len hks
  have hll : (ls.map lnkD).length = ls.length := by simp
  rw [rightB]
  cases hb : headBad k a ls.length with
  | true =>
    rw [if_pos rfl]
    refine ev_step cfg (bright_no hN oF hK hL ?_)
    rw [hll]; exact hb
  | false =>
    rw [if_neg (by decide)]
    have hb' := hb
    simp only [headBad, Bool.or_eq_false_iff, Bool.and_eq_false_iff] at hb'
    obtain ⟨hb1, hb2⟩ := hb'
    have ha0 : k ≠ 7 → a = 0 := fun h7 => by
      rcases hb1 with h | h
      · simpa using h
      · exact absurd (by simpa using h.1) h7
    have hl0 : k ≠ 9 → decide (((ls.map lnkD).length : Int) > 0) = false := fun h9 => by
      have : (k != 9) = true := by simpa using h9
      rw [this] at hb2
      rw [hll]
      simpa using hb2
    by_cases k1 : k = 1
    · subst k1
      obtain rfl := ha0 (by decide)
      rw [if_pos (.inl rfl), ← hkl]
      exact ev_step cfg (bright_1 hN oF hK hL (hl0 (by decide)))
    by_cases k10 : k = 10
    · subst k10
      obtain rfl := ha0 (by decide)
      rw [if_pos (.inr rfl), ← hkl]
      exact ev_step cfg (bright_10 hN oF hK hL (hl0 (by decide)))
    rw [if_neg (by simp [k1, k10])]
    by_cases k2 : k = 2
    · subst k2
      obtain rfl := ha0 (by decide)
      rw [if_pos rfl]
      cases hin : inN n nd with
      | false => rw [Bool.false_and]; exact ev_step cfg (bright_2no hN oF hK hL (hl0 (by decide)) ((inN_rows hnr.1 nd).trans hin))
      | true =>
        obtain ⟨p, rfl, hp⟩ := inN_nat hin
        obtain ⟨row, hrow, _, _, op, m, K2, rfl, hT⟩ := hnr.get hp
        rw [Bool.true_and, kind_at hp, ← hkl]
        exact ev_step cfg (bright_2go hN oF hK hL (hl0 (by decide)) hrow fun bx => intHas_ev [3, 4, 8] _ (isS_sl 1 _) (by decide) _ bx)
    rw [if_neg k2]
    by_cases k8 : k = 8
    · subst k8
      obtain rfl := ha0 (by decide)
      rw [if_pos rfl]
      cases hin : inN n nd with
      | false => rw [Bool.false_and]; exact ev_step cfg (bright_8no hN oF hK hL (hl0 (by decide)) ((inN_rows hnr.1 nd).trans hin))
      | true =>
        obtain ⟨p, rfl, hp⟩ := inN_nat hin
        obtain ⟨row, hrow, _, _, op, m, K2, rfl, hT⟩ := hnr.get hp
        rw [Bool.true_and, kind_at hp, ← hkl]
        exact ev_step cfg (bright_8go hN oF hK hL (hl0 (by decide)) hrow fun bx => intHas_ev [5, 6, 7] _ (isS_sl 1 _) (by decide) _ bx)
    rw [if_neg k8]
    by_cases k3 : k = 3
    · subst k3
      obtain rfl := ha0 (by decide)
      rw [if_pos rfl, ← hkl]
      refine ev_step cfg (bright_3 hN oF hK hL (hl0 (by decide)) fun bx => kids_ev (fun b => kB b == 3) hK hks hmax rfl fun b _ k' n' a' K' L' hB' => ?_)
      have e : k' = kB b := by cases b; rw [IsB] at hB'; exact hB'.1
      subst e
      exact ev_step cfg (right1_f (isB_one hB').1 (isB_one hB').2)
    rw [if_neg k3]
    by_cases k4 : k = 4
    · subst k4
      obtain rfl := ha0 (by decide)
      rw [if_pos rfl, ← hkl]
      exact ev_step cfg (bright_4 hN oF hK hL (hl0 (by decide)) fun bx => splits_ev hh (by omega) nd 6 _ bx)
    rw [if_neg k4]
    by_cases k5 : k = 5
    · subst k5
      obtain rfl := ha0 (by decide)
      rw [if_pos rfl, ← hkl]
      exact ev_step cfg (bright_5 hN oF hK hL (hl0 (by decide)) fun bx => splits_ev hh (by omega) nd 5 _ bx)
    rw [if_neg k5]
    by_cases k6 : k = 6
    · subst k6
      obtain rfl := ha0 (by decide)
      rw [if_pos rfl, ← hkl]
      exact ev_step cfg (bright_6 hN oF hK hL (hl0 (by decide)) fun bx => splits_ev hh (by omega) nd 7 _ bx)
    rw [if_neg k6]
    by_cases k7 : k = 7
    · subst k7
      rw [if_pos rfl, ← hkl]
      refine ev_step cfg (bright_7 hN oF hK hL (hl0 (by decide)) ?_ fun bx => splits_ev hh (by omega) nd 5 _ bx)
      rcases hb1 with h1 | h1
      · rw [h1]; rfl
      · rw [h1.2, Bool.and_false]
    rw [if_neg k7]
    by_cases k9 : k = 9
    · subst k9
      obtain rfl := ha0 (by decide)
      rw [if_pos rfl]
      have := ev_step cfg (bright_9 (n := nd) (bx := bx) (fun bx => linked_evB hh hK hks hL hlm 9 nd 0 bx) hN oF hK hL)
      rw [this, hkl]
    rw [if_neg k9]
    obtain rfl := ha0 k7
    exact ev_step cfg (bright_o hN oF hK hL (hl0 k9) (by simpa using k1) (by simpa using k10) (by simpa using k2) (by simpa using k8) (by simpa using k3) (by simpa using k4) (by simpa using k5) (by simpa using k6) (by simpa using k7) (by simpa using k9))

end Go.Proofs.YtifckjhggamefaaDoor
namespace Go.Proofs.YtifckjhggamefaaDoor
open Go Go.Vx
set_option maxRecDepth 10000
set_option maxHeartbeats 1000000

def nestB (n : Nt) : Blk → Bool
  | .mk k nd a ks ls => rightB n k nd a ks ls && !go k ks
where
  /-- is some kid wrong? -/
  go (pk : Int) : List Blk → Bool
  | [] => false
  | b :: bs => (kB b == 9 || (kB b == 10 || ((kB b == 8 && pk != 9) || !nestB n b))) || go pk bs

theorem nest_any (n : Nt) (pk : Int) : ∀ bs : List Blk, nestB.go n pk bs = bs.any fun b => kB b == 9 || (kB b == 10 || ((kB b == 8 && pk != 9) || !nestB n b))
  | [] => by rw [nestB.go]; rfl
  | b :: bs => by rw [nestB.go, List.any_cons, nest_any n pk bs]

/-- no kid has too many links -/
def okL : Blk → Prop
  | .mk _ _ _ ks ls => ls.length < 1000000000 ∧ go ks
where
  go : List Blk → Prop
  | [] => True
  | b :: bs => okL b ∧ go bs

theorem okL_mem : ∀ {bs : List Blk}, okL.go bs → ∀ b ∈ bs, okL b
  | [], _, b, h => by cases h
  | c :: bs, h, b, hb => by
    rw [okL.go] at h
    rcases List.mem_cons.1 hb with rfl | hb
    · exact h.1
    · exact okL_mem h.2 b hb

theorem cap_new {bx : List Box} {c d : Box} : ([bx.length + 1, bx.length].all fun l => decide (l < (bx ++ [c, d]).length)) = true := by simp

theorem nest_ev {n : Nt} {N F : D} (h : IsN n N F) (hsz : n.flows.length ≤ 1000) : ∀ (b : Blk) {k nd a : Int} {K L : D}, IsB b k nd a K L → okL b → ∀ bx : List Box,
    ev cfg (.call 19 [.agg [.dat N, .dat F], .agg [I k, I nd, I a, .dat K, .dat L]] bx) = some (.ret (B (nestB n b)) none)
  | .mk _ _ _ ks ls, k, nd, a, K, L, hB, hok, bx => by
    have hB0 := hB
    obtain ⟨oN, oF⟩ := isN_one h
    obtain ⟨oK, oL⟩ := isB_one hB
    rw [IsB] at hB
    obtain ⟨rfl, rfl, rfl, _, _, _, rows, hK, hks, hmax, hL, _, _⟩ := hB
    rw [okL] at hok
    have hr := fun bx : List Box => right_ev3 h hsz hB0 hok.1 bx
    rw [nestB]
    cases hrb : rightB n k nd a ks ls with
    | false =>
      rw [hrb] at hr
      rw [Bool.false_and]
      exact ev_step cfg (nest_no oK oL oN oF hr)
    | true =>
      rw [hrb] at hr
      rw [Bool.true_and, nest_any]
      refine ev_step cfg (nest_f oK oL oN oF hr ?_)
      refine kids_ev _ hK hks hmax cap_new fun b hb k' n' a' K' L' hB' => ?_
      have e : k' = kB b := by cases b; rw [IsB] at hB'; exact hB'.1
      subst e
      exact ev_step cfg (nest1_f (isB_one hB').1 (isB_one hB').2 oN oF (by simp) (by simp) (by rw [app_get]; rfl) (by rw [app_get0]; rfl) fun bx => nest_ev h hsz b hB' (okL_mem hok.2 b hb) bx)
termination_by b => SizeOf.sizeOf b
decreasing_by
  have := List.sizeOf_lt_of_mem hb
  simp
  omega

def dupB (l : List Int) : Bool := decide ((Lib.compact (sortI l)).length < (sortI l).length)
def chkB (ok : Bool) (n : Nt) (b : Blk) : Int :=
  if ok = false then 1 else if longB b = true then 2 else if nestB n b = false then 4 else if dupB (nodesB n b) = true then 8 else 0

theorem clone_ev (xs : List Int) (hl : xs.length < 1000000000) (bx : List Box) : ev cfg (.call 22 [.dat (mkD 1 (intR xs))] bx) = some (.ret (mkS 1 (intR xs)) none) := by
  cases xs with
  | nil => exact ev_step cfg clone_nil
  | cons x xs => exact ev_step cfg (clone_rows (r := [dI x]) (rs := intR xs) (by rw [intR_len]; simp at hl; omega))

theorem bcheck_ev {n : Nt} {N F : D} (h : IsN n N F) (hfl : n.flows.length ≤ 1000) (hnd : n.nodes.length ≤ 1000) (hz : ∀ t ∈ termsN n, sizeT t ≤ 1000000) (ok : Bool) (hk : ok = true ↔ OkN n)
    (b : Blk) {k nd a : Int} {K L : D} (hB : IsB b k nd a K L) (hbz : sizeB b ≤ 1000) (hok : okL b) (bx : List Box) :
    ev cfg (.call 8 [.agg [.dat N, .dat F], .agg [I k, I nd, I a, .dat K, .dat L]] bx) = some (.ret (I (chkB ok n b)) none) := by
  obtain ⟨oN, oF⟩ := isN_one h
  obtain ⟨oK, oL⟩ := isB_one hB
  obtain ⟨r, q, hr, hn⟩ := ncheck_ev h hfl hnd hz
  unfold chkB
  cases ok with
  | false =>
    rw [if_pos rfl]
    have h0 : ¬ OkN n := fun h => by have := hk.2 h; cases this
    have : (r != 0) = true := by simpa using fun e => h0 (hr.1 e)
    exact ev_step cfg (bcheck_arg oK oL oN oF hn this)
  | true =>
    rw [if_neg (by decide)]
    obtain rfl : r = 0 := hr.2 (hk.1 rfl)
    have hlg := fun bx : List Box => long_ev b hB (by omega) bx
    cases h1 : longB b with
    | true =>
      rw [h1] at hlg
      rw [if_pos rfl]
      exact ev_step cfg (bcheck_long oK oL oN oF hn hlg)
    | false =>
      rw [h1] at hlg
      rw [if_neg (by decide)]
      have hns := fun bx : List Box => nest_ev h hfl b hB hok bx
      cases h2 : nestB n b with
      | false =>
        rw [h2] at hns
        rw [if_pos rfl]
        exact ev_step cfg (bcheck_form oK oL oN oF hn hlg hns)
      | true =>
        rw [h2] at hns
        rw [if_neg (by decide)]
        have hno := fun bx : List Box => nodes_ev h hfl b hB hbz bx
        have hlen := nodesB_len hfl b
        have hsl : (sortI (nodesB n b)).length = (nodesB n b).length := List.length_mergeSort ..
        have hcl := fun bx : List Box => clone_ev (sortI (nodesB n b)) (by rw [hsl]; omega) bx
        unfold dupB
        cases hs : sortI (nodesB n b) with
        | nil =>
          rw [hs] at hno hcl
          have : decide ((Lib.compact ([] : List Int)).length < ([] : List Int).length) = false := by simp
          rw [this, if_neg (by decide)]
          exact ev_step cfg (bcheck_nil oK oL oN oF hn hlg hns hno hcl)
        | cons y ys =>
          rw [hs] at hno hcl
          have hzl : (y :: ys).length < 4611686018427387904 := by rw [← hs, hsl]; omega
          have e : decide (((rowsOf (Lib.compact (y :: ys))).length : Int) < ((intR (y :: ys)).length : Int)) = decide ((Lib.compact (y :: ys)).length < (y :: ys).length) := by
            rw [show (rowsOf (Lib.compact (y :: ys))).length = (Lib.compact (y :: ys)).length by simp [rowsOf], intR_len]
            exact decide_eq_decide.2 (by omega)
          cases hd : decide ((Lib.compact (y :: ys)).length < (y :: ys).length) with
          | true =>
            rw [hd] at e
            rw [if_pos rfl]
            exact ev_step cfg (bcheck_same oK oL oN oF hn hlg hns hno hcl (intRows_intR _) hzl e)
          | false =>
            rw [hd] at e
            rw [if_neg (by decide)]
            exact ev_step cfg (bcheck_ok oK oL oN oF hn hlg hns hno hcl (intRows_intR _) hzl e)

theorem right_one {n : Nt} {k nd a : Int} {ks : List Blk} {ls : List (Int × Int × Int)} (h : rightB n k nd a ks ls = true) : oneW k nd a ks ls := by
  unfold rightB at h
  split at h
  · cases h
  rename_i hb
  have hb' : headBad k a ls.length = false := by simpa using hb
  simp only [headBad, Bool.or_eq_false_iff, Bool.and_eq_false_iff] at hb'
  obtain ⟨hb1, hb2⟩ := hb'
  have ha : k ≠ 7 → a = 0 := fun h7 => by
    rcases hb1 with h | h
    · simpa using h
    · exact absurd (by simpa using h.1) h7
  have ha7 : 0 ≤ a := by
    by_cases h7 : k = 7
    · rcases hb1 with h1 | h1
      · have : a = 0 := by simpa using h1
        omega
      · have : a = 1 := by simpa using h1.2
        omega
    · have := ha h7; omega
  have hl : k ≠ 9 → ls = [] := fun h9 => by
    have : (k != 9) = true := by simpa using h9
    rw [this] at hb2
    have : ls.length = 0 := by simpa using hb2
    exact List.eq_nil_of_length_eq_zero this
  have inq : ∀ q, inN n q = true → 0 ≤ q := fun q h => by
    simp only [inN, Bool.and_eq_true, decide_eq_true_eq] at h; exact h.1
  have spl : ∀ q kd m, splitN n q kd m = true → 0 ≤ q := fun q kd m h => by
    rw [splitN, Bool.and_eq_true] at h; exact inq q h.1
  have nil : ∀ {ks : List Blk}, (ks.length : Int) = 0 → ks = [] := fun h => List.eq_nil_of_length_eq_zero (by omega)
  have hx0 : k ≠ 9 → ∀ x ∈ ls, -1 ≤ x.1 ∧ -1 ≤ x.2.1 ∧ -1 ≤ x.2.2 := fun h9 x hx => by rw [hl h9] at hx; cases hx
  split at h
  · rename_i hk
    simp only [Bool.and_eq_true, beq_iff_eq] at h
    exact ⟨by omega, by omega, by omega, ha7, ha, hl, fun _ => h.1, fun _ => nil h.2, hx0 (by omega)⟩
  rename_i hk1
  split at h
  · rename_i hk
    simp only [Bool.and_eq_true, beq_iff_eq] at h
    have := inq _ h.1
    exact ⟨by omega, by omega, this, ha7, ha, hl, fun h => by omega, fun _ => nil h.2.1, hx0 (by omega)⟩
  rename_i hk2
  split at h
  · rename_i hk
    simp only [Bool.and_eq_true, beq_iff_eq] at h
    have := inq _ h.1
    exact ⟨by omega, by omega, this, ha7, ha, hl, fun h => by omega, fun _ => nil h.2.1, hx0 (by omega)⟩
  rename_i hk8
  split at h
  · rename_i hk
    rw [Bool.and_eq_true, beq_iff_eq] at h
    exact ⟨by omega, by omega, by omega, ha7, ha, hl, fun _ => h.1, fun h => by omega, hx0 (by omega)⟩
  rename_i hk3
  split at h
  · rename_i hk
    have := spl _ _ _ h
    exact ⟨by omega, by omega, this, ha7, ha, hl, fun h => by omega, fun h => by omega, hx0 (by omega)⟩
  rename_i hk4
  split at h
  · rename_i hk
    have := spl _ _ _ h
    exact ⟨by omega, by omega, this, ha7, ha, hl, fun h => by omega, fun h => by omega, hx0 (by omega)⟩
  rename_i hk5
  split at h
  · rename_i hk
    have := spl _ _ _ h
    exact ⟨by omega, by omega, this, ha7, ha, hl, fun h => by omega, fun h => by omega, hx0 (by omega)⟩
  rename_i hk6
  split at h
  · rename_i hk
    rw [Bool.and_eq_true] at h
    have := spl _ _ _ h.2
    exact ⟨by omega, by omega, this, ha7, ha, hl, fun h => by omega, fun h => by omega, hx0 (by omega)⟩
  rename_i hk7
  split at h
  · rename_i hk
    rw [Bool.and_eq_true, beq_iff_eq, Bool.and_eq_true] at h
    obtain ⟨h1, _, h3⟩ := h
    refine ⟨by omega, by omega, by omega, ha7, ha, hl, fun _ => h1, fun h => by omega, fun x hx => ?_⟩
    rw [linkedW, Bool.and_eq_true] at h3
    have h4 : ls.any (badX ks.length n.flows.length) = false := by simpa using h3.1
    rw [List.any_eq_false] at h4
    have h5 := h4 x hx
    simp only [badX, badLk, Bool.or_eq_true, decide_eq_true_eq] at h5
    omega
  · cases h

theorem nest_well (n : Nt) : ∀ b, nestB n b = true → wellB b
  | .mk k nd a ks ls, h => by
    rw [nestB, Bool.and_eq_true] at h
    rw [wellB]
    refine ⟨right_one h.1, go k ks ?_⟩
    simpa using h.2
where
  go (pk : Int) : ∀ bs, nestB.go n pk bs = false → wellB.go bs
  | [], _ => by rw [wellB.go]; trivial
  | b :: bs, h => by
    rw [nestB.go, Bool.or_eq_false_iff] at h
    rw [wellB.go]
    refine ⟨nest_well n b ?_, go pk bs h.2⟩
    have := h.1
    simp only [Bool.or_eq_false_iff] at this
    simpa using this.2.2.2

end Go.Proofs.YtifckjhggamefaaDoor
namespace Go.Proofs.YtifckjhggamefaaDoor
open Go Go.Vx
set_option maxRecDepth 10000
set_option maxHeartbeats 1000000

theorem okB_okL : ∀ b, okB b → okL b
  | .mk k n a ks ls, h => by
    rw [okB] at h
    rw [okL]
    exact ⟨by omega, go ks h.2.2⟩
where
  go : ∀ bs, okB.go bs → okL.go bs
  | [], _ => by rw [okL.go]; trivial
  | b :: bs, h => by
    rw [okB.go] at h
    rw [okL.go]
    exact ⟨okB_okL b h.1, go bs h.2⟩

open Classical in
/-- WHATEVER THE PROCESS AND THE BLOCKS: TRUE. -/
theorem blockApart_ev {n : Nt} {N F : D} (hn : IsN n N F) (b c : Blk) {k nd a k2 n2 a2 : Int} {K L K2 L2 : D} (h : IsB b k nd a K L) (h2 : IsB c k2 n2 a2 K2 L2) :
    ev cfg (.call 3 [.agg [.dat N, .dat F], .agg [I k, I nd, I a, .dat K, .dat L], .agg [I k2, I n2, I a2, .dat K2, .dat L2]] []) = some (.ret (B true) none) := by
  obtain ⟨oN, oF⟩ := isN_one hn
  obtain ⟨oK, oL⟩ := isB_one h
  obtain ⟨oK2, oL2⟩ := isB_one h2
  have hlg := fun bx : List Box => nlarge_ev hn bx
  cases hl : largeN n with
  | true =>
    rw [hl] at hlg
    exact ev_step cfg (apart_large oN oF oK oL oK2 oL2 alt_ev hlg)
  | false =>
  rw [hl] at hlg
  have hb1 := big_ev b (m := 400) (d := 1) (l := 3) (bx := [[.dat N, .dat F], [I k, I nd, I a, .dat K, .dat L], [I k2, I n2, I a2, .dat K2, .dat L2], [I 400]]) h (by omega) (by omega) (by omega) (by omega) rfl
  by_cases hg1 : (bigB 400 1 b).1 = true
  · rw [hg1] at hb1
    exact ev_step cfg (apart_big1 oN oF oK oL oK2 oL2 alt_ev hlg hb1)
  have hg1f : (bigB 400 1 b).1 = false := by simpa using hg1
  rw [hg1f] at hb1
  have hb2 := big_ev c (m := 400) (d := 1) (l := 4) (bx := [[.dat N, .dat F], [I k, I nd, I a, .dat K, .dat L], [I k2, I n2, I a2, .dat K2, .dat L2], [I (bigB 400 1 b).2], [I 400]]) h2 (by omega) (by omega) (by omega) (by omega) rfl
  by_cases hg2 : (bigB 400 1 c).1 = true
  · rw [hg2] at hb2
    exact ev_step cfg (apart_big2 oN oF oK oL oK2 oL2 alt_ev hlg hb1 hb2)
  have hg2f : (bigB 400 1 c).1 = false := by simpa using hg2
  rw [hg2f] at hb2
  obtain ⟨q1, q2, q3⟩ := large_size hl
  have ok1 := bigB_ok b 400 1 hg1
  have ok2 := bigB_ok c 400 1 hg2
  have z1 : sizeB b ≤ 1000 := by have := bigB_lo b 400 1 hg1; have := bigB_size b 400 1 hg1; omega
  have z2 : sizeB c ≤ 1000 := by have := bigB_lo c 400 1 hg2; have := bigB_size c 400 1 hg2; omega
  have hz : ∀ t ∈ termsN n, sizeT t ≤ 1000000 := fun t ht => by have := q3 t ht; omega
  obtain ⟨ok, hok⟩ : ∃ ok : Bool, ok = true ↔ OkN n := ⟨decide (OkN n), by simp⟩
  have hc1 := fun bx : List Box => bcheck_ev hn (by omega) (by omega) hz ok hok b h z1 (okB_okL b ok1) bx
  have hc2 := fun bx : List Box => bcheck_ev hn (by omega) (by omega) hz ok hok c h2 z2 (okB_okL c ok2) bx
  have ht1 := Text_ev b h ok1 (by omega)
  have ht2 := Text_ev c h2 ok2 (by omega)
  cases hw : (((chkB ok n b != 0) && (chkB ok n b != 8)) || ((chkB ok n c != 0) && (chkB ok n c != 8))) with
  | true => exact ev_step cfg (apart_alt oN oF oK oL oK2 oL2 alt_ev hlg hb1 hb2 hc1 hc2 ht1 ht2 hw)
  | false =>
    have key : ∀ x : Blk, ((chkB ok n x != 0) && (chkB ok n x != 8)) = false → longB x = false ∧ wellB x := fun x hx => by
      unfold chkB at hx
      split at hx
      · cases hx
      split at hx
      · cases hx
      rename_i hlo
      split at hx
      · cases hx
      rename_i hne
      exact ⟨by simpa using hlo, nest_well n x (by simpa using hne)⟩
    rw [Bool.or_eq_false_iff] at hw
    obtain ⟨l1, w1⟩ := key b hw.1
    obtain ⟨l2, w2⟩ := key c hw.2
    have o1 : outT b = (textB b, 0) := by rw [outT, if_neg (by rw [l1]; decide), if_neg (by rw [wellB_bad b w1]; decide)]
    have o2 : outT c = (textB c, 0) := by rw [outT, if_neg (by rw [l2]; decide), if_neg (by rw [wellB_bad c w2]; decide)]
    rw [o1] at ht1
    rw [o2] at ht2
    exact ev_step cfg (apart_go oN oF oK oL oK2 oL2 alt_ev hlg hb1 hb2 hc1 hc2 ht1 ht2 (by rw [Bool.or_eq_false_iff]; exact hw) (same_ev b c h h2) (apart_same w1 w2))

end Go.Proofs.YtifckjhggamefaaDoor
namespace Go.Proofs.YtifckjhggamefaaDoor
open Go Go.Vx Go.RowKit
set_option maxRecDepth 100000

structure FitQ (t : Nat) (ds : List D) : Prop where
  int : t = 3 → ∃ n, ds = [dI n] ∧ i64 n
  bool : t = 4 → ∃ b : Bool, ds = [.lit (.bool b)]
  terms : t = 53 → ∃ K, ds = [K] ∧ ∃ rows bs, IsS 3 rows K ∧ IsT.IsTs bs rows ∧ bs.length < 9223372036854775808
  term : t = 55 → ∃ b k n K, ds = [dI k, dI n, K] ∧ IsT b k n K
  node : t = 57 → ∃ x, IsNd x ds
  flow : t = 60 → ∃ x, IsFl x ds
  nodes : t = 22 → ∃ K, ds = [K] ∧ ∃ rows xs, IsS 5 rows K ∧ AreR IsNd xs rows ∧ xs.length < 9223372036854775808
  flows : t = 23 → ∃ K, ds = [K] ∧ ∃ rows xs, IsS 6 rows K ∧ AreR IsFl xs rows ∧ xs.length < 9223372036854775808
  net : t = 25 → ∃ n N F, ds = [N, F] ∧ IsN n N F
  link : t = 70 → ∃ x : Int × Int × Int, ds = lnkD x ∧ i64 x.1 ∧ i64 x.2.1 ∧ i64 x.2.2
  links : t = 27 → ∃ L, ds = [L] ∧ ∃ ls : List (Int × Int × Int), IsS 3 (ls.map lnkD) L ∧ ls.length < 9223372036854775808 ∧ ∀ x ∈ ls, i64 x.1 ∧ i64 x.2.1 ∧ i64 x.2.2
  blocks : t = 26 → ∃ K, ds = [K] ∧ ∃ rows bs, IsS 5 rows K ∧ IsB.IsBs bs rows ∧ bs.length < 9223372036854775808
  block : t = 29 → ∃ b k n a K L, ds = [dI k, dI n, dI a, K, L] ∧ IsB b k n a K L

theorem trms_of : ∀ {rows : List (List D)}, (∀ r ∈ rows, ∃ b k n K, r = [dI k, dI n, K] ∧ IsT b k n K) → ∃ bs, IsT.IsTs bs rows
  | [], _ => ⟨[], by rw [IsT.IsTs]⟩
  | r :: rows, h => by
    obtain ⟨b, k, n, K, rfl, h1⟩ := h r (List.mem_cons_self ..)
    obtain ⟨bs, h2⟩ := trms_of fun r hr => h r (List.mem_cons_of_mem _ hr)
    exact ⟨b :: bs, by rw [IsT.IsTs]; exact ⟨k, n, K, rows, rfl, h1, h2⟩⟩
theorem are_of {α : Type} {p : α → List D → Prop} : ∀ {rows : List (List D)}, (∀ r ∈ rows, ∃ x, p x r) → ∃ xs, AreR p xs rows
  | [], _ => ⟨[], rfl, fun i x hx => by simp at hx⟩
  | r :: rows, h => by
    obtain ⟨x, h1⟩ := h r (List.mem_cons_self ..)
    obtain ⟨xs, h2, h3⟩ := are_of fun r hr => h r (List.mem_cons_of_mem _ hr)
    refine ⟨x :: xs, by simp [h2], fun i y hy => ?_⟩
    cases i with
    | zero => obtain rfl : x = y := by simpa using hy
              exact ⟨r, rfl, h1⟩
    | succ i => exact h3 i y (by simpa using hy)
theorem links_of : ∀ {rows : List (List D)}, (∀ r ∈ rows, ∃ x : Int × Int × Int, r = lnkD x ∧ i64 x.1 ∧ i64 x.2.1 ∧ i64 x.2.2) → ∃ ls : List (Int × Int × Int), ls.map lnkD = rows ∧ ∀ x ∈ ls, i64 x.1 ∧ i64 x.2.1 ∧ i64 x.2.2
  | [], _ => ⟨[], rfl, fun x hx => by cases hx⟩
  | r :: rows, h => by
    obtain ⟨x, hx, h1⟩ := h r (List.mem_cons_self ..)
    obtain ⟨ls, h2, h3⟩ := links_of fun r hr => h r (List.mem_cons_of_mem _ hr)
    refine ⟨x :: ls, by rw [List.map_cons, h2, hx], fun y hy => ?_⟩
    rcases List.mem_cons.1 hy with rfl | hy
    · exact h1
    · exact h3 y hy
theorem blks_of : ∀ {rows : List (List D)}, (∀ r ∈ rows, ∃ b k n a K L, r = [dI k, dI n, dI a, K, L] ∧ IsB b k n a K L) → ∃ bs, IsB.IsBs bs rows
  | [], _ => ⟨[], by rw [IsB.IsBs]⟩
  | r :: rows, h => by
    obtain ⟨b, k, n, a, K, L, rfl, h1⟩ := h r (List.mem_cons_self ..)
    obtain ⟨bs, h2⟩ := blks_of fun r hr => h r (List.mem_cons_of_mem _ hr)
    exact ⟨b :: bs, by rw [IsB.IsBs]; exact ⟨k, n, a, K, L, rows, rfl, h1, h2⟩⟩

theorem maxLen_lt {n : Nat} (h : n ≤ maxLen) : n < 9223372036854775808 := by unfold maxLen at h; omega

theorem fit_q {t : TypeId} {ds : List D} (h : Fit tiT t ds) : FitQ t ds := by
  induction h with
  | @int t i k n h hk hw =>
    refine ⟨fun q => ?_, fun q => ?_, fun q => ?_, fun q => ?_, fun q => ?_, fun q => ?_, fun q => ?_, fun q => ?_, fun q => ?_, fun q => ?_, fun q => ?_, fun q => ?_, fun q => ?_⟩
    · subst q
      obtain rfl := Option.some.inj ((show tiT 3 = some _ from rfl).symm.trans h)
      cases hk
      refine ⟨n, rfl, ?_⟩
      simp only [Lit.wf, Bool.and_eq_true, decide_eq_true_eq] at hw
      exact hw
    · subst q
      obtain rfl := Option.some.inj ((show tiT 4 = some _ from rfl).symm.trans h)
      cases hk
    · subst q
      obtain rfl := Option.some.inj ((show tiT 53 = some _ from rfl).symm.trans h)
      cases hk
    · subst q
      obtain rfl := Option.some.inj ((show tiT 55 = some _ from rfl).symm.trans h)
      cases hk
    · subst q
      obtain rfl := Option.some.inj ((show tiT 57 = some _ from rfl).symm.trans h)
      cases hk
    · subst q
      obtain rfl := Option.some.inj ((show tiT 60 = some _ from rfl).symm.trans h)
      cases hk
    · subst q
      obtain rfl := Option.some.inj ((show tiT 22 = some _ from rfl).symm.trans h)
      cases hk
    · subst q
      obtain rfl := Option.some.inj ((show tiT 23 = some _ from rfl).symm.trans h)
      cases hk
    · subst q
      obtain rfl := Option.some.inj ((show tiT 25 = some _ from rfl).symm.trans h)
      cases hk
    · subst q
      obtain rfl := Option.some.inj ((show tiT 70 = some _ from rfl).symm.trans h)
      cases hk
    · subst q
      obtain rfl := Option.some.inj ((show tiT 27 = some _ from rfl).symm.trans h)
      cases hk
    · subst q
      obtain rfl := Option.some.inj ((show tiT 26 = some _ from rfl).symm.trans h)
      cases hk
    · subst q
      obtain rfl := Option.some.inj ((show tiT 29 = some _ from rfl).symm.trans h)
      cases hk
  | @bool t i b h hk =>
    refine ⟨fun q => ?_, fun q => ?_, fun q => ?_, fun q => ?_, fun q => ?_, fun q => ?_, fun q => ?_, fun q => ?_, fun q => ?_, fun q => ?_, fun q => ?_, fun q => ?_, fun q => ?_⟩
    · subst q
      obtain rfl := Option.some.inj ((show tiT 3 = some _ from rfl).symm.trans h)
      cases hk
    · subst q
      obtain rfl := Option.some.inj ((show tiT 4 = some _ from rfl).symm.trans h)
      exact ⟨b, rfl⟩
    · subst q
      obtain rfl := Option.some.inj ((show tiT 53 = some _ from rfl).symm.trans h)
      cases hk
    · subst q
      obtain rfl := Option.some.inj ((show tiT 55 = some _ from rfl).symm.trans h)
      cases hk
    · subst q
      obtain rfl := Option.some.inj ((show tiT 57 = some _ from rfl).symm.trans h)
      cases hk
    · subst q
      obtain rfl := Option.some.inj ((show tiT 60 = some _ from rfl).symm.trans h)
      cases hk
    · subst q
      obtain rfl := Option.some.inj ((show tiT 22 = some _ from rfl).symm.trans h)
      cases hk
    · subst q
      obtain rfl := Option.some.inj ((show tiT 23 = some _ from rfl).symm.trans h)
      cases hk
    · subst q
      obtain rfl := Option.some.inj ((show tiT 25 = some _ from rfl).symm.trans h)
      cases hk
    · subst q
      obtain rfl := Option.some.inj ((show tiT 70 = some _ from rfl).symm.trans h)
      cases hk
    · subst q
      obtain rfl := Option.some.inj ((show tiT 27 = some _ from rfl).symm.trans h)
      cases hk
    · subst q
      obtain rfl := Option.some.inj ((show tiT 26 = some _ from rfl).symm.trans h)
      cases hk
    · subst q
      obtain rfl := Option.some.inj ((show tiT 29 = some _ from rfl).symm.trans h)
      cases hk
  | @str t i s h hk hw =>
    refine ⟨fun q => ?_, fun q => ?_, fun q => ?_, fun q => ?_, fun q => ?_, fun q => ?_, fun q => ?_, fun q => ?_, fun q => ?_, fun q => ?_, fun q => ?_, fun q => ?_, fun q => ?_⟩
    · subst q
      obtain rfl := Option.some.inj ((show tiT 3 = some _ from rfl).symm.trans h)
      cases hk
    · subst q
      obtain rfl := Option.some.inj ((show tiT 4 = some _ from rfl).symm.trans h)
      cases hk
    · subst q
      obtain rfl := Option.some.inj ((show tiT 53 = some _ from rfl).symm.trans h)
      cases hk
    · subst q
      obtain rfl := Option.some.inj ((show tiT 55 = some _ from rfl).symm.trans h)
      cases hk
    · subst q
      obtain rfl := Option.some.inj ((show tiT 57 = some _ from rfl).symm.trans h)
      cases hk
    · subst q
      obtain rfl := Option.some.inj ((show tiT 60 = some _ from rfl).symm.trans h)
      cases hk
    · subst q
      obtain rfl := Option.some.inj ((show tiT 22 = some _ from rfl).symm.trans h)
      cases hk
    · subst q
      obtain rfl := Option.some.inj ((show tiT 23 = some _ from rfl).symm.trans h)
      cases hk
    · subst q
      obtain rfl := Option.some.inj ((show tiT 25 = some _ from rfl).symm.trans h)
      cases hk
    · subst q
      obtain rfl := Option.some.inj ((show tiT 70 = some _ from rfl).symm.trans h)
      cases hk
    · subst q
      obtain rfl := Option.some.inj ((show tiT 27 = some _ from rfl).symm.trans h)
      cases hk
    · subst q
      obtain rfl := Option.some.inj ((show tiT 26 = some _ from rfl).symm.trans h)
      cases hk
    · subst q
      obtain rfl := Option.some.inj ((show tiT 29 = some _ from rfl).symm.trans h)
      cases hk
  | @nil t e i h hk =>
    refine ⟨fun q => ?_, fun q => ?_, fun q => ?_, fun q => ?_, fun q => ?_, fun q => ?_, fun q => ?_, fun q => ?_, fun q => ?_, fun q => ?_, fun q => ?_, fun q => ?_, fun q => ?_⟩
    · subst q
      obtain rfl := Option.some.inj ((show tiT 3 = some _ from rfl).symm.trans h)
      cases hk
    · subst q
      obtain rfl := Option.some.inj ((show tiT 4 = some _ from rfl).symm.trans h)
      cases hk
    · subst q
      exact ⟨.nil, rfl, [], [], isS_nil 3, by rw [IsT.IsTs], by simp⟩
    · subst q
      obtain rfl := Option.some.inj ((show tiT 55 = some _ from rfl).symm.trans h)
      cases hk
    · subst q
      obtain rfl := Option.some.inj ((show tiT 57 = some _ from rfl).symm.trans h)
      cases hk
    · subst q
      obtain rfl := Option.some.inj ((show tiT 60 = some _ from rfl).symm.trans h)
      cases hk
    · subst q
      exact ⟨.nil, rfl, [], [], isS_nil 5, ⟨rfl, fun i x hx => by simp at hx⟩, by simp⟩
    · subst q
      exact ⟨.nil, rfl, [], [], isS_nil 6, ⟨rfl, fun i x hx => by simp at hx⟩, by simp⟩
    · subst q
      obtain rfl := Option.some.inj ((show tiT 25 = some _ from rfl).symm.trans h)
      cases hk
    · subst q
      obtain rfl := Option.some.inj ((show tiT 70 = some _ from rfl).symm.trans h)
      cases hk
    · subst q
      exact ⟨.nil, rfl, [], isS_nil 3, by simp, fun x hx => by cases hx⟩
    · subst q
      exact ⟨.nil, rfl, [], [], isS_nil 5, by rw [IsB.IsBs], by simp⟩
    · subst q
      obtain rfl := Option.some.inj ((show tiT 29 = some _ from rfl).symm.trans h)
      cases hk
  | @sl t e i j rows h hk hj hl hr ih =>
    refine ⟨fun q => ?_, fun q => ?_, fun q => ?_, fun q => ?_, fun q => ?_, fun q => ?_, fun q => ?_, fun q => ?_, fun q => ?_, fun q => ?_, fun q => ?_, fun q => ?_, fun q => ?_⟩
    · subst q
      obtain rfl := Option.some.inj ((show tiT 3 = some _ from rfl).symm.trans h)
      cases hk
    · subst q
      obtain rfl := Option.some.inj ((show tiT 4 = some _ from rfl).symm.trans h)
      cases hk
    · subst q
      obtain rfl := Option.some.inj ((show tiT 53 = some _ from rfl).symm.trans h)
      cases hk
      obtain rfl := Option.some.inj ((show tiT 55 = some _ from rfl).symm.trans hj)
      obtain ⟨bs, h1⟩ := trms_of fun r hr => (ih r hr).term rfl
      exact ⟨_, rfl, rows, bs, isS_sl 3 rows, h1, by rw [← isTs_len h1]; exact maxLen_lt hl⟩
    · subst q
      obtain rfl := Option.some.inj ((show tiT 55 = some _ from rfl).symm.trans h)
      cases hk
    · subst q
      obtain rfl := Option.some.inj ((show tiT 57 = some _ from rfl).symm.trans h)
      cases hk
    · subst q
      obtain rfl := Option.some.inj ((show tiT 60 = some _ from rfl).symm.trans h)
      cases hk
    · subst q
      obtain rfl := Option.some.inj ((show tiT 22 = some _ from rfl).symm.trans h)
      cases hk
      obtain rfl := Option.some.inj ((show tiT 57 = some _ from rfl).symm.trans hj)
      obtain ⟨xs, h1⟩ := are_of fun r hr => (ih r hr).node rfl
      exact ⟨_, rfl, rows, xs, isS_sl 5 rows, h1, by rw [← h1.1]; exact maxLen_lt hl⟩
    · subst q
      obtain rfl := Option.some.inj ((show tiT 23 = some _ from rfl).symm.trans h)
      cases hk
      obtain rfl := Option.some.inj ((show tiT 60 = some _ from rfl).symm.trans hj)
      obtain ⟨xs, h1⟩ := are_of fun r hr => (ih r hr).flow rfl
      exact ⟨_, rfl, rows, xs, isS_sl 6 rows, h1, by rw [← h1.1]; exact maxLen_lt hl⟩
    · subst q
      obtain rfl := Option.some.inj ((show tiT 25 = some _ from rfl).symm.trans h)
      cases hk
    · subst q
      obtain rfl := Option.some.inj ((show tiT 70 = some _ from rfl).symm.trans h)
      cases hk
    · subst q
      obtain rfl := Option.some.inj ((show tiT 27 = some _ from rfl).symm.trans h)
      cases hk
      obtain rfl := Option.some.inj ((show tiT 70 = some _ from rfl).symm.trans hj)
      obtain ⟨ls, h1, h2⟩ := links_of fun r hr => (ih r hr).link rfl
      refine ⟨_, rfl, ls, by rw [h1]; exact isS_sl 3 rows, ?_, h2⟩
      have := congrArg List.length h1
      rw [List.length_map] at this
      rw [this]; exact maxLen_lt hl
    · subst q
      obtain rfl := Option.some.inj ((show tiT 26 = some _ from rfl).symm.trans h)
      cases hk
      obtain rfl := Option.some.inj ((show tiT 29 = some _ from rfl).symm.trans hj)
      obtain ⟨bs, h1⟩ := blks_of fun r hr => (ih r hr).block rfl
      exact ⟨_, rfl, rows, bs, isS_sl 5 rows, h1, by rw [← isBs_len h1]; exact maxLen_lt hl⟩
    · subst q
      obtain rfl := Option.some.inj ((show tiT 29 = some _ from rfl).symm.trans h)
      cases hk
  | @struct t i fs ds h hk hl hf ih =>
    refine ⟨fun q => ?_, fun q => ?_, fun q => ?_, fun q => ?_, fun q => ?_, fun q => ?_, fun q => ?_, fun q => ?_, fun q => ?_, fun q => ?_, fun q => ?_, fun q => ?_, fun q => ?_⟩
    · subst q
      obtain rfl := Option.some.inj ((show tiT 3 = some _ from rfl).symm.trans h)
      cases hk
    · subst q
      obtain rfl := Option.some.inj ((show tiT 4 = some _ from rfl).symm.trans h)
      cases hk
    · subst q
      obtain rfl := Option.some.inj ((show tiT 53 = some _ from rfl).symm.trans h)
      cases hk
    · subst q
      obtain rfl := Option.some.inj ((show tiT 55 = some _ from rfl).symm.trans h)
      cases hk
      match ds, hl with
      | [d0, d1, d2], _ =>
        obtain ⟨n0, e0, w0⟩ := (ih (0, 3) (by simp) _ rfl).int rfl
        obtain ⟨n1, e1, w1⟩ := (ih (1, 3) (by simp) _ rfl).int rfl
        obtain ⟨K, e3, rows, bs, hK, hbs, hlen⟩ := (ih (2, 53) (by simp) _ rfl).terms rfl
        simp at e0 e1 e3
        subst e0; subst e1; subst e3
        exact ⟨.mk n0 n1 bs, n0, n1, _, rfl, by rw [IsT]; exact ⟨rfl, rfl, w0, w1, rows, hK, hbs, hlen⟩⟩
    · subst q
      obtain rfl := Option.some.inj ((show tiT 57 = some _ from rfl).symm.trans h)
      cases hk
      match ds, hl with
      | [d0, d1, d2, d3, d4], _ =>
        obtain ⟨n0, e0, w0⟩ := (ih (0, 3) (by simp) _ rfl).int rfl
        obtain ⟨n1, e1, w1⟩ := (ih (1, 3) (by simp) _ rfl).int rfl
        obtain ⟨b, op, m, K, e2, hT⟩ := (ih (2, 55) (by simp) _ rfl).term rfl
        simp at e0 e1 e2
        obtain ⟨rfl, rfl, rfl⟩ := e2
        subst e0; subst e1
        exact ⟨⟨n0, n1, b⟩, w0, w1, op, m, _, rfl, hT⟩
    · subst q
      obtain rfl := Option.some.inj ((show tiT 60 = some _ from rfl).symm.trans h)
      cases hk
      match ds, hl with
      | [d0, d1, d2, d3, d4, d5], _ =>
        obtain ⟨n0, e0, w0⟩ := (ih (0, 3) (by simp) _ rfl).int rfl
        obtain ⟨n1, e1, w1⟩ := (ih (1, 3) (by simp) _ rfl).int rfl
        obtain ⟨v, e3⟩ := (ih (2, 4) (by simp) _ rfl).bool rfl
        obtain ⟨b, op, m, K, e2, hT⟩ := (ih (3, 55) (by simp) _ rfl).term rfl
        simp at e0 e1 e2 e3
        obtain ⟨rfl, rfl, rfl⟩ := e2
        subst e0; subst e1; subst e3
        exact ⟨⟨n0, n1, v, b⟩, w0, w1, op, m, _, rfl, hT⟩
    · subst q
      obtain rfl := Option.some.inj ((show tiT 22 = some _ from rfl).symm.trans h)
      cases hk
    · subst q
      obtain rfl := Option.some.inj ((show tiT 23 = some _ from rfl).symm.trans h)
      cases hk
    · subst q
      obtain rfl := Option.some.inj ((show tiT 25 = some _ from rfl).symm.trans h)
      cases hk
      match ds, hl with
      | [d0, d1], _ =>
        obtain ⟨N, e0, nr, ns, hN, hnr, hn⟩ := (ih (0, 22) (by simp) _ rfl).nodes rfl
        obtain ⟨F, e1, fr, fs, hF, hfr, hf⟩ := (ih (1, 23) (by simp) _ rfl).flows rfl
        simp at e0 e1
        subst e0; subst e1
        exact ⟨⟨ns, fs⟩, _, _, rfl, nr, fr, hN, hnr, hn, hF, hfr, hf⟩
    · subst q
      obtain rfl := Option.some.inj ((show tiT 70 = some _ from rfl).symm.trans h)
      cases hk
      match ds, hl with
      | [d0, d1, d2], _ =>
        obtain ⟨n0, e0, w0⟩ := (ih (0, 3) (by simp) _ rfl).int rfl
        obtain ⟨n1, e1, w1⟩ := (ih (1, 3) (by simp) _ rfl).int rfl
        obtain ⟨n2, e2, w2⟩ := (ih (2, 3) (by simp) _ rfl).int rfl
        simp at e0 e1 e2
        subst e0; subst e1; subst e2
        exact ⟨(n0, n1, n2), rfl, w0, w1, w2⟩
    · subst q
      obtain rfl := Option.some.inj ((show tiT 27 = some _ from rfl).symm.trans h)
      cases hk
    · subst q
      obtain rfl := Option.some.inj ((show tiT 26 = some _ from rfl).symm.trans h)
      cases hk
    · subst q
      obtain rfl := Option.some.inj ((show tiT 29 = some _ from rfl).symm.trans h)
      cases hk
      match ds, hl with
      | [d0, d1, d2, d3, d4], _ =>
        obtain ⟨n0, e0, w0⟩ := (ih (0, 3) (by simp) _ rfl).int rfl
        obtain ⟨n1, e1, w1⟩ := (ih (1, 3) (by simp) _ rfl).int rfl
        obtain ⟨n2, e2, w2⟩ := (ih (2, 3) (by simp) _ rfl).int rfl
        obtain ⟨K, e3, rows, bs, hK, hbs, hlen⟩ := (ih (3, 26) (by simp) _ rfl).blocks rfl
        obtain ⟨L, e4, ls, hL, hlen2, hx⟩ := (ih (4, 27) (by simp) _ rfl).links rfl
        simp at e0 e1 e2 e3 e4
        subst e0; subst e1; subst e2; subst e3; subst e4
        exact ⟨.mk n0 n1 n2 bs ls, n0, n1, n2, _, _, rfl, by rw [IsB]; exact ⟨rfl, rfl, rfl, w0, w1, w2, rows, hK, hbs, hlen, hL, hlen2, hx⟩⟩

def fitT : List TypeId := [3, 4, 53, 55, 57, 60, 22, 23, 25, 70, 27, 26, 29]
theorem fitT_ok : closedTi tiT fitT = true := by decide

theorem lit_bytes {s : ByteArray} {l : List UInt8} (h : s.data.toList = l) : s = ⟨l.toArray⟩ := by
  cases s with
  | mk a => cases a; simp at h; subst h; rfl

theorem g_words : Tryd.prog.globalNamed "treenail/term.words" = some 1 := by kernel_rfl
theorem t_words : (Tryd.prog.globals[1]?).map (·.type) = some 133 := by kernel_rfl
def cells_words : List Value := (.string ⟨#[]⟩) :: (.int .i64 0) :: (.int .i64 0) :: (.int .i64 0) :: (.string ⟨#[]⟩) :: (.int .i64 0) :: (.int .i64 0) :: (.int .i64 0) :: (.string ⟨#[]⟩) :: (.int .i64 0) :: (.int .i64 0) :: (.int .i64 0) :: (.string ⟨#[110, 101, 103]⟩) :: (.int .i64 1) :: (.int .i64 1) :: (.int .i64 1) :: (.string ⟨#[110, 111, 116]⟩) :: (.int .i64 1) :: (.int .i64 2) :: (.int .i64 2) :: (.string ⟨#[97, 100, 100]⟩) :: (.int .i64 2) :: (.int .i64 1) :: (.int .i64 1) :: (.string ⟨#[115, 117, 98]⟩) :: (.int .i64 2) :: (.int .i64 1) :: (.int .i64 1) :: (.string ⟨#[109, 117, 108]⟩) :: (.int .i64 2) :: (.int .i64 1) :: (.int .i64 1) :: (.string ⟨#[100, 105, 118]⟩) :: (.int .i64 2) :: (.int .i64 1) :: (.int .i64 1) :: (.string ⟨#[109, 111, 100]⟩) :: (.int .i64 2) :: (.int .i64 1) :: (.int .i64 1) :: (.string ⟨#[101, 113]⟩) :: (.int .i64 2) :: (.int .i64 1) :: (.int .i64 2) :: (.string ⟨#[108, 116]⟩) :: (.int .i64 2) :: (.int .i64 1) :: (.int .i64 2) :: (.string ⟨#[108, 101]⟩) :: (.int .i64 2) :: (.int .i64 1) :: (.int .i64 2) :: (.string ⟨#[97, 110, 100]⟩) :: (.int .i64 2) :: (.int .i64 2) :: (.int .i64 2) :: (.string ⟨#[111, 114]⟩) :: (.int .i64 2) :: (.int .i64 2) :: (.int .i64 2) :: []
theorem word_row {H : Type} {enc : TypeId × Value → H} {w : World} {base : Nat} {spare : Nat → Bool} {held : Bool} {fuel : Nat} {cs : List Value} {l : List UInt8} {a b c : Int} {m : List MemPlace}
    (h : DataW.trod enc Tryd.prog w base spare held fuel 132 cs = some (.agg [.lit (.string l), .lit (.int .i64 a), .lit (.int .i64 b), .lit (.int .i64 c)], m)) :
    cs = [.string ⟨l.toArray⟩, .int .i64 a, .int .i64 b, .int .i64 c] := by
  obtain ⟨xs, n, rfl, hx, hlen, hn, hel⟩ := DataW.trod_struct Tryd.underlying132 h
  have cW : Tryd.prog.cellsOf 132 = 4 := by kernel_rfl
  have c9 : Tryd.prog.cellsOf 9 = 1 := by kernel_rfl
  have c3 : Tryd.prog.cellsOf 3 = 1 := by kernel_rfl
  rw [cW] at hlen
  have hx' : xs.map (·.1) = [.lit (.string l), .lit (.int .i64 a), .lit (.int .i64 b), .lit (.int .i64 c)] := by
    have := congrArg Prod.fst hx
    exact (DataW.agg.inj this).symm
  match cs, hlen with
  | [v0, v1, v2, v3], _ =>
    match xs, hx' with
    | [x0, x1, x2, x3], hx' =>
      simp only [List.map_cons, List.map_nil, List.cons.injEq, and_true] at hx'
      obtain ⟨e0, e1, e2, e3⟩ := hx'
      have h0 : DataW.trod enc Tryd.prog w base spare held n 9 (([v0, v1, v2, v3].drop 0).take (Tryd.prog.cellsOf 9)) = some x0 := hel 0 _ rfl
      rw [c9] at h0
      have h1 : DataW.trod enc Tryd.prog w base spare held n 3 (([v0, v1, v2, v3].drop 1).take (Tryd.prog.cellsOf 3)) = some x1 := hel 1 _ rfl
      rw [c3] at h1
      have h2 : DataW.trod enc Tryd.prog w base spare held n 3 (([v0, v1, v2, v3].drop 2).take (Tryd.prog.cellsOf 3)) = some x2 := hel 2 _ rfl
      rw [c3] at h2
      have h3 : DataW.trod enc Tryd.prog w base spare held n 3 (([v0, v1, v2, v3].drop 3).take (Tryd.prog.cellsOf 3)) = some x3 := hel 3 _ rfl
      rw [c3] at h3
      obtain ⟨s, f0, g0, _⟩ := DataW.trod_string Tryd.underlying9 h0
      obtain ⟨n1, f1, g1, _⟩ := DataW.trod_int Tryd.underlying3 h1
      obtain ⟨n2, f2, g2, _⟩ := DataW.trod_int Tryd.underlying3 h2
      obtain ⟨n3, f3, g3, _⟩ := DataW.trod_int Tryd.underlying3 h3
      subst g0; subst g1; subst g2; subst g3
      simp only [DataW.lit.injEq, Lit.string.injEq, Lit.int.injEq, true_and] at e0 e1 e2 e3
      subst e1; subst e2; subst e3
      obtain rfl := lit_bytes e0
      simp at f0 f1 f2 f3
      rw [f0, f1, f2, f3]
theorem met_words {W : World} {g0 : Nat} {t0 : TypeId} {cs0 : Array Value} {f0 : Nat} {p0 : List MemPlace} (hg0 : Tryd.prog.globalNamed "treenail/term.words" = some g0) (ht0 : (Tryd.prog.globals[g0]?).map (·.type) = some t0)
    (hv0 : W.var? Tryd.prog "treenail/term.words" = some cs0) (hd0 : DataW.trod (fun _ => ()) Tryd.prog W 0 (fun _ => true) false f0 t0 cs0.toList = some (Rows.laid_treenail_term_words, p0)) : ∀ (j : Nat) v, cells_words[j]? = some v → W.cell? ⟨1, j, none⟩ = some v := by
  obtain rfl := Option.some.inj (g_words.symm.trans hg0)
  obtain rfl := Option.some.inj (t_words.symm.trans ht0)
  obtain ⟨xs, m1, rfl, hx1, hlen, hn, hel⟩ := DataW.trod_array Tryd.underlying133 hd0
  have hx : xs.map (·.1) = [.agg [.lit (.string []), .lit (.int .i64 0), .lit (.int .i64 0), .lit (.int .i64 0)], .agg [.lit (.string []), .lit (.int .i64 0), .lit (.int .i64 0), .lit (.int .i64 0)], .agg [.lit (.string []), .lit (.int .i64 0), .lit (.int .i64 0), .lit (.int .i64 0)], .agg [.lit (.string [110, 101, 103]), .lit (.int .i64 1), .lit (.int .i64 1), .lit (.int .i64 1)], .agg [.lit (.string [110, 111, 116]), .lit (.int .i64 1), .lit (.int .i64 2), .lit (.int .i64 2)], .agg [.lit (.string [97, 100, 100]), .lit (.int .i64 2), .lit (.int .i64 1), .lit (.int .i64 1)], .agg [.lit (.string [115, 117, 98]), .lit (.int .i64 2), .lit (.int .i64 1), .lit (.int .i64 1)], .agg [.lit (.string [109, 117, 108]), .lit (.int .i64 2), .lit (.int .i64 1), .lit (.int .i64 1)], .agg [.lit (.string [100, 105, 118]), .lit (.int .i64 2), .lit (.int .i64 1), .lit (.int .i64 1)], .agg [.lit (.string [109, 111, 100]), .lit (.int .i64 2), .lit (.int .i64 1), .lit (.int .i64 1)], .agg [.lit (.string [101, 113]), .lit (.int .i64 2), .lit (.int .i64 1), .lit (.int .i64 2)], .agg [.lit (.string [108, 116]), .lit (.int .i64 2), .lit (.int .i64 1), .lit (.int .i64 2)], .agg [.lit (.string [108, 101]), .lit (.int .i64 2), .lit (.int .i64 1), .lit (.int .i64 2)], .agg [.lit (.string [97, 110, 100]), .lit (.int .i64 2), .lit (.int .i64 2), .lit (.int .i64 2)], .agg [.lit (.string [111, 114]), .lit (.int .i64 2), .lit (.int .i64 2), .lit (.int .i64 2)]] := by
    have := congrArg Prod.fst hx1
    exact (DataW.agg.inj this).symm
  have cW : Tryd.prog.cellsOf 132 = 4 := by kernel_rfl
  have hrow : ∀ (r : Nat) (l : List UInt8) (a b c : Int), r < 15 → (xs.map (·.1))[r]? = some (.agg [.lit (.string l), .lit (.int .i64 a), .lit (.int .i64 b), .lit (.int .i64 c)]) →
      W.cell? ⟨1, r * 4, none⟩ = some (.string ⟨l.toArray⟩) ∧ W.cell? ⟨1, r * 4 + 1, none⟩ = some (.int .i64 a) ∧ W.cell? ⟨1, r * 4 + 2, none⟩ = some (.int .i64 b) ∧ W.cell? ⟨1, r * 4 + 3, none⟩ = some (.int .i64 c) := by
    intro r l a b c hr hl
    have h1 := hel r hr
    rw [cW] at h1
    rw [List.getElem?_map] at hl
    cases hxj : xs[r]? with
    | none => rw [hxj] at hl; cases hl
    | some y =>
      rw [hxj] at h1 hl
      obtain ⟨y1, y2⟩ := y
      simp only [Option.map_some, Option.some.injEq] at hl
      subst hl
      have hw := word_row h1
      have hc : ∀ (k : Nat) (v : Value), k < 4 → ([.string ⟨l.toArray⟩, .int .i64 a, .int .i64 b, .int .i64 c] : List Value)[k]? = some v → W.cell? ⟨1, r * 4 + k, none⟩ = some v := by
        intro k v hk hv
        rw [← hw, List.getElem?_take_of_lt hk, List.getElem?_drop] at hv
        have := World.var?_cell hg0 hv0 (r * 4 + k)
        rw [Array.getElem?_toList] at hv
        rw [this, hv]
      exact ⟨hc 0 _ (by omega) rfl, hc 1 _ (by omega) rfl, hc 2 _ (by omega) rfl, hc 3 _ (by omega) rfl⟩
  rw [hx] at hrow
  have w0 := hrow 0 [] 0 0 0 (by omega) rfl
  have w1 := hrow 1 [] 0 0 0 (by omega) rfl
  have w2 := hrow 2 [] 0 0 0 (by omega) rfl
  have w3 := hrow 3 [110, 101, 103] 1 1 1 (by omega) rfl
  have w4 := hrow 4 [110, 111, 116] 1 2 2 (by omega) rfl
  have w5 := hrow 5 [97, 100, 100] 2 1 1 (by omega) rfl
  have w6 := hrow 6 [115, 117, 98] 2 1 1 (by omega) rfl
  have w7 := hrow 7 [109, 117, 108] 2 1 1 (by omega) rfl
  have w8 := hrow 8 [100, 105, 118] 2 1 1 (by omega) rfl
  have w9 := hrow 9 [109, 111, 100] 2 1 1 (by omega) rfl
  have w10 := hrow 10 [101, 113] 2 1 2 (by omega) rfl
  have w11 := hrow 11 [108, 116] 2 1 2 (by omega) rfl
  have w12 := hrow 12 [108, 101] 2 1 2 (by omega) rfl
  have w13 := hrow 13 [97, 110, 100] 2 2 2 (by omega) rfl
  have w14 := hrow 14 [111, 114] 2 2 2 (by omega) rfl
  clear hrow hel hx hx1
  intro j v hv
  match j with
  | 0 => obtain rfl := Option.some.inj hv; exact w0.1
  | 1 => obtain rfl := Option.some.inj hv; exact w0.2.1
  | 2 => obtain rfl := Option.some.inj hv; exact w0.2.2.1
  | 3 => obtain rfl := Option.some.inj hv; exact w0.2.2.2
  | 4 => obtain rfl := Option.some.inj hv; exact w1.1
  | 5 => obtain rfl := Option.some.inj hv; exact w1.2.1
  | 6 => obtain rfl := Option.some.inj hv; exact w1.2.2.1
  | 7 => obtain rfl := Option.some.inj hv; exact w1.2.2.2
  | 8 => obtain rfl := Option.some.inj hv; exact w2.1
  | 9 => obtain rfl := Option.some.inj hv; exact w2.2.1
  | 10 => obtain rfl := Option.some.inj hv; exact w2.2.2.1
  | 11 => obtain rfl := Option.some.inj hv; exact w2.2.2.2
  | 12 => obtain rfl := Option.some.inj hv; exact w3.1
  | 13 => obtain rfl := Option.some.inj hv; exact w3.2.1
  | 14 => obtain rfl := Option.some.inj hv; exact w3.2.2.1
  | 15 => obtain rfl := Option.some.inj hv; exact w3.2.2.2
  | 16 => obtain rfl := Option.some.inj hv; exact w4.1
  | 17 => obtain rfl := Option.some.inj hv; exact w4.2.1
  | 18 => obtain rfl := Option.some.inj hv; exact w4.2.2.1
  | 19 => obtain rfl := Option.some.inj hv; exact w4.2.2.2
  | 20 => obtain rfl := Option.some.inj hv; exact w5.1
  | 21 => obtain rfl := Option.some.inj hv; exact w5.2.1
  | 22 => obtain rfl := Option.some.inj hv; exact w5.2.2.1
  | 23 => obtain rfl := Option.some.inj hv; exact w5.2.2.2
  | 24 => obtain rfl := Option.some.inj hv; exact w6.1
  | 25 => obtain rfl := Option.some.inj hv; exact w6.2.1
  | 26 => obtain rfl := Option.some.inj hv; exact w6.2.2.1
  | 27 => obtain rfl := Option.some.inj hv; exact w6.2.2.2
  | 28 => obtain rfl := Option.some.inj hv; exact w7.1
  | 29 => obtain rfl := Option.some.inj hv; exact w7.2.1
  | 30 => obtain rfl := Option.some.inj hv; exact w7.2.2.1
  | 31 => obtain rfl := Option.some.inj hv; exact w7.2.2.2
  | 32 => obtain rfl := Option.some.inj hv; exact w8.1
  | 33 => obtain rfl := Option.some.inj hv; exact w8.2.1
  | 34 => obtain rfl := Option.some.inj hv; exact w8.2.2.1
  | 35 => obtain rfl := Option.some.inj hv; exact w8.2.2.2
  | 36 => obtain rfl := Option.some.inj hv; exact w9.1
  | 37 => obtain rfl := Option.some.inj hv; exact w9.2.1
  | 38 => obtain rfl := Option.some.inj hv; exact w9.2.2.1
  | 39 => obtain rfl := Option.some.inj hv; exact w9.2.2.2
  | 40 => obtain rfl := Option.some.inj hv; exact w10.1
  | 41 => obtain rfl := Option.some.inj hv; exact w10.2.1
  | 42 => obtain rfl := Option.some.inj hv; exact w10.2.2.1
  | 43 => obtain rfl := Option.some.inj hv; exact w10.2.2.2
  | 44 => obtain rfl := Option.some.inj hv; exact w11.1
  | 45 => obtain rfl := Option.some.inj hv; exact w11.2.1
  | 46 => obtain rfl := Option.some.inj hv; exact w11.2.2.1
  | 47 => obtain rfl := Option.some.inj hv; exact w11.2.2.2
  | 48 => obtain rfl := Option.some.inj hv; exact w12.1
  | 49 => obtain rfl := Option.some.inj hv; exact w12.2.1
  | 50 => obtain rfl := Option.some.inj hv; exact w12.2.2.1
  | 51 => obtain rfl := Option.some.inj hv; exact w12.2.2.2
  | 52 => obtain rfl := Option.some.inj hv; exact w13.1
  | 53 => obtain rfl := Option.some.inj hv; exact w13.2.1
  | 54 => obtain rfl := Option.some.inj hv; exact w13.2.2.1
  | 55 => obtain rfl := Option.some.inj hv; exact w13.2.2.2
  | 56 => obtain rfl := Option.some.inj hv; exact w14.1
  | 57 => obtain rfl := Option.some.inj hv; exact w14.2.1
  | 58 => obtain rfl := Option.some.inj hv; exact w14.2.2.1
  | 59 => obtain rfl := Option.some.inj hv; exact w14.2.2.2
  | k + 60 => simp [cells_words] at hv

theorem g_names : Tryd.prog.globalNamed "treenail/block.names" = some 0 := by kernel_rfl
theorem t_names : (Tryd.prog.globals[0]?).map (·.type) = some 86 := by kernel_rfl
def cells_names : List Value := (.string ⟨#[]⟩) :: (.string ⟨#[]⟩) :: (.string ⟨#[]⟩) :: (.string ⟨#[115, 101, 113]⟩) :: (.string ⟨#[112, 97, 114]⟩) :: (.string ⟨#[97, 108, 116]⟩) :: (.string ⟨#[112, 105, 99, 107]⟩) :: (.string ⟨#[108, 111, 111, 112]⟩) :: (.string ⟨#[]⟩) :: (.string ⟨#[119, 101, 98]⟩) :: (.string ⟨#[]⟩) :: []
theorem met_names {W : World} {g0 : Nat} {t0 : TypeId} {cs0 : Array Value} {f0 : Nat} {p0 : List MemPlace} (hg0 : Tryd.prog.globalNamed "treenail/block.names" = some g0) (ht0 : (Tryd.prog.globals[g0]?).map (·.type) = some t0)
    (hv0 : W.var? Tryd.prog "treenail/block.names" = some cs0) (hd0 : DataW.trod (fun _ => ()) Tryd.prog W 0 (fun _ => true) false f0 t0 cs0.toList = some (Rows.laid_treenail_block_names, p0)) : ∀ (j : Nat) v, cells_names[j]? = some v → W.cell? ⟨0, j, none⟩ = some v := by
  obtain rfl := Option.some.inj (g_names.symm.trans hg0)
  obtain rfl := Option.some.inj (t_names.symm.trans ht0)
  obtain ⟨xs, m1, rfl, hx1, hlen, hn, hel⟩ := DataW.trod_array Tryd.underlying86 hd0
  have hx : xs.map (·.1) = [.lit (.string []), .lit (.string []), .lit (.string []), .lit (.string [115, 101, 113]), .lit (.string [112, 97, 114]), .lit (.string [97, 108, 116]), .lit (.string [112, 105, 99, 107]), .lit (.string [108, 111, 111, 112]), .lit (.string []), .lit (.string [119, 101, 98]), .lit (.string [])] := by
    have := congrArg Prod.fst hx1
    exact (DataW.agg.inj this).symm
  have c9 : Tryd.prog.cellsOf 9 = 1 := by kernel_rfl
  have hcell : ∀ (j : Nat) (l : List UInt8), j < 11 → (xs.map (·.1))[j]? = some (.lit (.string l)) → W.cell? ⟨0, j, none⟩ = some (.string ⟨l.toArray⟩) := by
    intro j l hj hl
    have h1 := hel j hj
    rw [c9, Nat.mul_one] at h1
    rw [List.getElem?_map] at hl
    cases hxj : xs[j]? with
    | none => rw [hxj] at hl; cases hl
    | some y =>
      rw [hxj] at h1 hl
      obtain ⟨s, e1, e2, _⟩ := DataW.trod_string Tryd.underlying9 h1
      subst e2
      simp only [Option.map_some, Option.some.injEq, DataW.lit.injEq, Lit.string.injEq] at hl
      obtain rfl := lit_bytes hl
      have hv := World.var?_cell hg0 hv0 j
      have hcj : cs0.toList[j]? = some (.string ⟨l.toArray⟩) := by
        have : ((cs0.toList.drop j).take 1)[0]? = some (.string ⟨l.toArray⟩) := by rw [e1]; rfl
        rwa [List.getElem?_take_of_lt (by omega), List.getElem?_drop, Nat.add_zero] at this
      rw [Array.getElem?_toList] at hcj
      rw [hv, hcj]
  rw [hx] at hcell
  intro j v hv
  match j with
  | 0 => obtain rfl := Option.some.inj hv; exact hcell 0 [] (by omega) rfl
  | 1 => obtain rfl := Option.some.inj hv; exact hcell 1 [] (by omega) rfl
  | 2 => obtain rfl := Option.some.inj hv; exact hcell 2 [] (by omega) rfl
  | 3 => obtain rfl := Option.some.inj hv; exact hcell 3 [115, 101, 113] (by omega) rfl
  | 4 => obtain rfl := Option.some.inj hv; exact hcell 4 [112, 97, 114] (by omega) rfl
  | 5 => obtain rfl := Option.some.inj hv; exact hcell 5 [97, 108, 116] (by omega) rfl
  | 6 => obtain rfl := Option.some.inj hv; exact hcell 6 [112, 105, 99, 107] (by omega) rfl
  | 7 => obtain rfl := Option.some.inj hv; exact hcell 7 [108, 111, 111, 112] (by omega) rfl
  | 8 => obtain rfl := Option.some.inj hv; exact hcell 8 [] (by omega) rfl
  | 9 => obtain rfl := Option.some.inj hv; exact hcell 9 [119, 101, 98] (by omega) rfl
  | 10 => obtain rfl := Option.some.inj hv; exact hcell 10 [] (by omega) rfl
  | k + 11 => simp [cells_names] at hv

theorem one_glob {W : World} {gl : Nat} {ds : List D} {vs : List Value} (hd : ds = vs.map .lit) (h1 : ∀ v ∈ vs, v.oneCell' = true) (h : ∀ (j : Nat) v, vs[j]? = some v → W.cell? ⟨gl, j, none⟩ = some v) :
    ∃ us : Nat → Value, ∀ j d, ds[j]? = some d → memOf W ⟨gl, j, none⟩ = some (us j) ∧ RelD (memOf W) d (us j) := by
  subst hd
  refine ⟨fun j => (W.cell? ⟨gl, j, none⟩).getD undef, fun j d hd => ?_⟩
  rw [List.getElem?_map] at hd
  cases hv : vs[j]? with
  | none => rw [hv] at hd; cases hd
  | some v =>
    rw [hv] at hd
    obtain rfl := Option.some.inj hd
    have e := h j v hv
    simp only [memOf, e, Option.getD_some]
    exact ⟨trivial, .lit _ (h1 v (List.mem_of_getElem? hv))⟩

abbrev laidNames : List (String × DataW Unit) := [("treenail/term.words", Rows.laid_treenail_term_words), ("treenail/block.names", Rows.laid_treenail_block_names)]
theorem glob_ok {W : World} (h : laidMetH Tryd.prog laidNames W) : GlobOk cfg (gh0 cfg W) := by
  rw [MakeChecks.laidMetH_plain _ _ _ (by kernel_rfl)] at h
  obtain ⟨ps, ⟨g0, t0, cs0, f0, p0, q0, hg0, ht0, hv0, hd0, ⟨g1, t1, cs1, f1, p1, q1, hg1, ht1, hv1, hd1, _, _⟩, _⟩, _, _⟩ := h
  have m_words := met_words hg0 ht0 hv0 hd0
  have m_names := met_names hg1 ht1 hv1 hd1
  refine ⟨fun gl cs hgl => ?_, rfl⟩
  change glT gl = some cs at hgl
  unfold glT at hgl
  split at hgl
  · exact one_glob (vs := cells_names) (Option.some.inj hgl).symm (by decide) m_names
  · exact one_glob (vs := cells_words) (Option.some.inj hgl).symm (by decide) m_words
  · cases hgl

end Go.Proofs.YtifckjhggamefaaDoor
namespace Go.Proofs.YtifckjhggamefaaDoor
open Go Go.Vx
open Go.ChangeShapes Go.WideShapes Go.ChangeAt Go.WideElems Go.RowKit
set_option maxRecDepth 100000

theorem own : ownKnob Tryd.prog.godebug = none := by kernel_rfl
theorem laidOut : laidOutB Tryd.prog = true := by kernel_rfl

theorem door_met (os : Os) (args : Array Value) : laidMetH Tryd.prog laidNames ((World.doorLaid Tryd.prog 400 os).forCall (fun _ _ => 0) ⟨#[], args, []⟩).memory :=
  laidMetH_of_parts3 (fuel := 8) (laidMet_of_run' 8 (by kernel_rfl) (by kernel_rfl)) (by kernel_rfl) (by kernel_rfl)

section
variable {H : Type} {enc : TypeId × Value → H} {P : Program}
/-- behind a call that turns nothing that was there -/
theorem post_below {f : Func} {s : ChangeSpec} {apart fresh handsOn again : Bool} {W W' : World} {args : Array Value} {v : Value} {ds gs : List (DataW H)} {before pa pv : List MemPlace}
    (hW : DataW.Whole enc P f.params.toList s.vars apart W args.toList ds gs before)
    (hres : ∀ (b : Nat) (sp : Nat → Bool) (hd : Bool), DataW.TrodAll enc P W' b sp hd f.resultTypes.toList (v.resultList f.resultTypes.size) (s.fn H (ds ++ gs)).results [])
    (hargs : ∀ sp : Nat → Bool, (∀ p ∈ before, sp p.block = true) → DataW.TrodAll enc P W' 0 sp true f.params.toList args.toList (s.fn H (ds ++ gs)).args pa)
    (hvars : ∀ sp : Nat → Bool, (∀ p ∈ before, sp p.block = true) → DataW.TrodVars enc P W' sp s.vars (s.fn H (ds ++ gs)).vars pv)
    (hps : before = pa ++ pv) (hb : Below W.heap.size W W')
    (hok : ∀ (j : Nat) (t : TypeId) (r : Value), f.resultTypes[j]? = some t → (v.resultList f.resultTypes.size)[j]? = some r → Value.okWide P W' .any 0 t r) :
    s.post enc P f apart fresh handsOn again W args v W' := by
  have hlt : ∀ p ∈ before, p.block < W.heap.size := fun p hp => hW.lt p hp
  have hold : ∀ p ∈ before, (fun b => decide (b < W.heap.size)) p.block = true := fun p hp => by simpa using hlt p hp
  refine ⟨ds, gs, before, [], pa, pv, hW, hres _ _ _, hargs _ hold, hvars _ hold, World.keptBut_mono (fun p hp => ⟨hp, ?_⟩) (hb.frame (· ∈ before)), fun _ => ?_⟩
  · rw [hps, List.mem_append] at hp
    exact Or.inr hp
  · obtain ⟨_, _, _, _, _, hz, hn⟩ := hW
    refine ⟨hok, _, _, ([] ++ pa) ++ pv, ⟨[] ++ pa, pv, trodAll_append (hargs _ (fun _ _ => rfl)) (hres _ _ _), hvars _ (fun _ _ => rfl), rfl, ?_, ?_⟩, ?_⟩
    · intro b off hp
      have hin : MemPlace.cell b off ∈ before := by rw [hps]; simpa using hp
      rw [hb.frozen (hlt _ hin)]
      exact hz b off hin
    · intro ha
      have := hn ha
      rw [hps] at this
      simpa using this
    · intro p hp _
      rw [hps]
      simpa using hp
end

end Go.Proofs.YtifckjhggamefaaDoor
namespace Go.Proofs.YtifckjhggamefaaDoor
open Go Go.Vx
open Go.ChangeShapes Go.WideShapes Go.ChangeAt Go.WideElems Go.RowKit
set_option maxRecDepth 100000

theorem blockApart_lifted (os : Os) (started : os.Started) (H : Type) (enc : TypeId × Value → H) :
    ReturnsInHanded {} Tryd.checked os 3 .any (fun w args => (Rows.blockApartSpec.pre enc Tryd.prog Tryd.f3 [] false w args ∧ laidMetH Tryd.prog laidNames w) ∧ sizedMet enc Tryd.prog Tryd.f3 (OpenSpec.ofChange Rows.blockApartSpec) false w args)
      (Rows.blockApartSpec.post enc Tryd.prog Tryd.f3 false true false false) := by
  refine returnsInHanded_of_change_and (C := Tryd.checked) (X := fun w _ => laidMetH Tryd.prog laidNames w) (fun _ _ _ hh h => h.of_heap hh) own started (by kernel_rfl) Tryd.func3
    (ChangeSpec.witness_shaped (enc := enc) (C := Tryd.checked) (os := os) (X := fun w _ => laidMetH Tryd.prog laidNames w) false (World.doorLaid Tryd.prog 400 os) #[.agg #[.slice none 0 0, .slice none 0 0], .agg #[.int .i64 0, .int .i64 0, .int .i64 0, .slice none 0 0, .slice none 0 0], .agg #[.int .i64 0, .int .i64 0, .int .i64 0, .slice none 0 0, .slice none 0 0]] 8 rfl (World.shaped_of_RefB (by kernel_rfl) (by kernel_rfl)) (by kernel_rfl) (by kernel_rfl) (by kernel_rfl) (door_met os _)) ?_
  intro W base args ds gs before hval0 hW _ _ hL _
  have hval : ∀ (j : Nat) t v, Tryd.f3.params[j]? = some t → args[j]? = some v → Value.okWide Tryd.prog W .any base t v := hval0
  have hW' := hW
  obtain ⟨p, q, hA0, hV, rfl, hfz, hnd⟩ := hW
  have hA : DataW.TrodAll enc Tryd.prog W 0 (fun _ => true) true Tryd.f3.params.toList args.toList ds p := hA0
  rw [Tryd.params3] at hA hval
  obtain ⟨v0, v1, v2, d0, d1, d2, p0, p1, p2, rfl, rfl, rfl, h0, h1, h2⟩ := trodAll_three hA
  obtain ⟨rfl, rfl⟩ := trodVars_none hV
  obtain ⟨cs0, rfl, hcs0⟩ := okWide_struct Tryd.underlying25 (hval 0 25 v0 rfl rfl)
  obtain ⟨cs1, rfl, hcs1⟩ := okWide_struct Tryd.underlying29 (hval 1 29 v1 rfl rfl)
  obtain ⟨cs2, rfl, hcs2⟩ := okWide_struct Tryd.underlying29 (hval 2 29 v2 rfl rfl)
  obtain ⟨fuel0, hf0⟩ := h0
  obtain ⟨D0, hfit0, hrel0⟩ := trod_fit ti_ok fitT_ok fuel0 25 cs0.toList _ (by decide) hf0
  obtain ⟨b0, N0, F0, rfl, hB0⟩ := (fit_q hfit0).net rfl
  obtain ⟨fuel1, hf1⟩ := h1
  obtain ⟨D1, hfit1, hrel1⟩ := trod_fit ti_ok fitT_ok fuel1 29 cs1.toList _ (by decide) hf1
  obtain ⟨b1, k1, n1, a1, K1, L1, rfl, hB1⟩ := (fit_q hfit1).block rfl
  obtain ⟨fuel2, hf2⟩ := h2
  obtain ⟨D2, hfit2, hrel2⟩ := trod_fit ti_ok fitT_ok fuel2 29 cs2.toList _ (by decide) hf2
  obtain ⟨b2, k2, n2, a2, K2, L2, rfl, hB2⟩ := (fit_q hfit2).block rfl
  have hg := glob_ok hL
  clear hA0 hval0
  simp only [List.append_nil] at hW'
  refine (top_sound cfg_ok (blockApart_ev hB0 b1 b2 hB1 hB2) hg (us := [.agg cs0, .agg cs1, .agg cs2]) rfl (fun j c u hc hu => ?_)).mono fun e W' he => ?_
  · match j, hc, hu with
    | 0, hc, hu =>
      simp only [List.getElem?_cons_succ, List.getElem?_cons_zero, Option.some.injEq] at hc hu
      subst hc; subst hu
      exact relA_agg hrel0
    | 1, hc, hu =>
      simp only [List.getElem?_cons_succ, List.getElem?_cons_zero, Option.some.injEq] at hc hu
      subst hc; subst hu
      exact relA_agg hrel1
    | 2, hc, hu =>
      simp only [List.getElem?_cons_succ, List.getElem?_cons_zero, Option.some.injEq] at hc hu
      subst hc; subst hu
      exact relA_agg hrel2
    | j + 3, hc, hu => simp at hc
  · cases e with
    | returned u =>
      obtain ⟨rfl, hb⟩ := he
      refine ⟨_, rfl, post_below (pa := p0 ++ (p1 ++ p2)) (pv := []) hW' (fun _ _ _ => trodAll_mk1 (shut_bool Tryd.underlying4 _)) (fun sp hsp => ?_) (fun _ _ => rfl) (by simp) hb (ok_one (by kernel_rfl) rfl (okWide_bool_mk Tryd.underlying4 _))⟩
      have hlt : ∀ x ∈ p0 ++ (p1 ++ p2), x.block < W.heap.size := fun x hx => hW'.lt x (by simpa using hx)
      have hsp' : ∀ x ∈ p0 ++ (p1 ++ p2), sp x.block = true := fun x hx => hsp x (by simpa using hx)
      exact trodAll_mk3 (WideElems.Trod_stays laidOut (by kernel_rfl) (by decide +kernel) ⟨fuel0, hf0⟩ (fun x hx => hb.same (hlt x (List.mem_append_left _ hx))) (fun x hx => hsp' x (List.mem_append_left _ hx))) (WideElems.Trod_stays laidOut (by kernel_rfl) (by decide +kernel) ⟨fuel1, hf1⟩ (fun x hx => hb.same (hlt x (List.mem_append_right _ (List.mem_append_left _ hx)))) (fun x hx => hsp' x (List.mem_append_right _ (List.mem_append_left _ hx)))) (WideElems.Trod_stays laidOut (by kernel_rfl) (by decide +kernel) ⟨fuel2, hf2⟩ (fun x hx => hb.same (hlt x (List.mem_append_right _ (List.mem_append_right _ hx)))) (fun x hx => hsp' x (List.mem_append_right _ (List.mem_append_right _ hx))))
    | panicked => exact he.elim
    | outgrown => exact he.elim

theorem blockApart_holds : Rows.BlockApartSaid :=
  OpenClaim.holds_of_wide 3 Tryd.f3 rfl rfl rfl rfl rfl rfl rfl ⟨rfl, rfl, rfl, rfl, rfl⟩ rfl rfl rfl rfl rfl (by kernel_rfl) Tryd.func3 (by kernel_rfl)
    (of_decide_eq_true (by kernel_rfl)) (by unfold Func.isWrapper; first | (rw [if_pos (by decide +kernel)]; kernel_rfl) | (rw [if_neg (by decide +kernel)]; exact ⟨rfl, rfl⟩))
    (fun os started H enc _ => blockApart_lifted os started H enc)

theorem blockApart_card : Rows.BlockApartCardSaid :=
  Claim7.holds_tied_plain_at .later [] [.widerDeep, .data] true (true, "9d4823b12511e07216f998c591c04d5df61a1a0ba1a45117e2945e03e0676f10") false
    blockApart_holds (fun _ h => by cases h) (by kernel_rfl) (fun _ h => by cases h) blockApart_row_tie rfl ⟨rfl, rfl⟩ (by kernel_rfl) rfl
    (fun f fn hf hfn => by
      obtain rfl : f = 3 := Option.some.inj ((show Tryd.prog.funcNamed "treenail/treenaillaw10.BlockApart" = some 3 by kernel_rfl).symm.trans hf) |>.symm
      obtain rfl : fn = Tryd.f3 := (Option.some.inj (Tryd.func3.symm.trans hfn)).symm
      exact ⟨by kernel_rfl, fun j t ht => by
        rw [Tryd.params3] at ht
        have hm : t ∈ [25, 29, 29] := by simpa using Array.mem_of_getElem? ht
        have hall : ([25, 29, 29].all fun u => !Tryd.prog.wantsStandIn u) = true := by kernel_rfl
        exact (show Tryd.prog.wantsStandIn t = false by simpa using List.all_eq_true.1 hall t hm)⟩)
    (by kernel_rfl)
#print axioms blockApart_card
end Go.Proofs.YtifckjhggamefaaDoor
