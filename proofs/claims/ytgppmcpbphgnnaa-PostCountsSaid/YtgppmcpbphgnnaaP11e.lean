/- PostCounts, a round of a step of the key. No condition. -/
import Derived.Test.YtgppmcpbphgnnaaP11
import Derived.Test.YtgppmcpbphgnnaaP11a
import Derived.Test.YtgppmcpbphgnnaaP11b
import Derived.Test.YtgppmcpbphgnnaaP11c
import Derived.Test.YtgppmcpbphgnnaaP11d
set_option linter.unusedSimpArgs false
set_option linter.unusedVariables false
set_option linter.unusedSectionVars false
namespace Go.Proofs.Ytgppmcpbphgnnaa
open Go Go.Vx
set_option maxRecDepth 10000

section
variable {srows : List (List D)} {K : D} {i n : Nat} {w k m key sm N N2 p0 p1 p2 p3 a0 a1 a2 a3 : Int} {O R O' R' : Box} {b1 b2 : Bool}
/-- a step of the key: a box is opened, or closed, or there is none -/
theorem r5_turn (hK : IsS 3 srows K) (hget : srows[i]? = some [dI w, dI key, dI sm]) (hlt : i < srows.length) (hmax : srows.length < 9223372036854775808) (hd : Does5 O R O' R' w key sm)
    (h11 : ∀ r, ev cfg (.call 11 [.ptr 0 0, I key] (O :: R :: r)) = some (.ret (.tup [.agg [I p0, I p1, I p2, I p3], B b1]) none)) (h11' : ∀ r, ev cfg (.call 11 [.ptr 0 0, I key] (O' :: R' :: r)) = some (.ret (.tup [.agg [I a0, I a1, I a2, I a3], B b2]) none))
    (hO : O'.all (cellLt 2) = true) (hR : R'.all (cellLt 2) = true)
    (hb : (b1 = false ∧ b2 = false ∧ N2 = N) ∨ (b1 = true ∧ b2 = false ∧ N2 = 0) ∨ (b1 = false ∧ b2 = true ∧ N2 = 0 ∧ ((m = 0 ∧ (a0 != 0) = false) ∨ (m = 1 ∧ (a1 != 0) = false) ∨ (m = 2 ∧ (a2 != 0) = false) ∨ (m = 3 ∧ (a3 != 0) = false)))) :
    stepJ (ev cfg) cfg (.loop 5 7 ⟨(.dead :: I key :: I m :: .dead :: .dead :: .dead :: .dead :: .ptr 0 0 :: .ptr 1 0 :: I N :: .dead :: .dead :: .dead :: .dead :: .dead :: .dead :: .dead :: .dead :: .dead :: .dead :: .dead :: .dead :: .dead :: .dead :: .dead :: .dead :: .dead :: .dead :: .dead :: .dead :: .dead :: .dead :: .dead :: .dead :: .dead :: .dead :: .dead :: .dead :: .dead :: .dat K :: I srows.length :: I i :: .dead :: .dead :: .dead :: .dead :: .dead :: .dead :: .dead :: .dead :: .dead :: .dead :: .dead :: .dead :: .dead :: .dead :: .dead :: .dead :: .dead :: .dead :: .dead :: .dead :: .dead :: .dead :: .dead :: .dead :: .dead :: .dead :: .dead :: .dead :: .dead :: .dead :: .dead :: .dead :: .dead :: .dead :: .dead :: .dead :: .dead :: .dead :: .dead :: .dead :: .dead :: .dead :: .dead :: .dead :: .dead :: .dead :: .dead :: .dead :: .dead :: .dead :: .dead :: .dead :: .dead :: .dead :: .dead :: .dead :: .dead :: .dead :: .dead :: .dead :: .dead :: .dead :: .dead :: .dead :: .dead :: .dead :: .dead :: .dead :: .dead :: .dead :: .dead :: .dead :: .dead :: .dead :: .dead :: .dead :: []), [O, R], 0, none, false⟩) =
      ev cfg (.loop 5 7 ⟨(.dead :: I key :: I m :: .dead :: .dead :: .dead :: .dead :: .ptr 0 0 :: .ptr 1 0 :: I N2 :: .dead :: .dead :: .dead :: .dead :: .dead :: .dead :: .dead :: .dead :: .dead :: .dead :: .dead :: .dead :: .dead :: .dead :: .dead :: .dead :: .dead :: .dead :: .dead :: .dead :: .dead :: .dead :: .dead :: .dead :: .dead :: .dead :: .dead :: .dead :: .dead :: .dat K :: I srows.length :: I ((i + 1 : Nat) : Int) :: .dead :: .dead :: .dead :: .dead :: .dead :: .dead :: .dead :: .dead :: .dead :: .dead :: .dead :: .dead :: .dead :: .dead :: .dead :: .dead :: .dead :: .dead :: .dead :: .dead :: .dead :: .dead :: .dead :: .dead :: .dead :: .dead :: .dead :: .dead :: .dead :: .dead :: .dead :: .dead :: .dead :: .dead :: .dead :: .dead :: .dead :: .dead :: .dead :: .dead :: .dead :: .dead :: .dead :: .dead :: .dead :: .dead :: .dead :: .dead :: .dead :: .dead :: .dead :: .dead :: .dead :: .dead :: .dead :: .dead :: .dead :: .dead :: .dead :: .dead :: .dead :: .dead :: .dead :: .dead :: .dead :: .dead :: .dead :: .dead :: .dead :: .dead :: .dead :: .dead :: .dead :: .dead :: .dead :: .dead :: []), [O', R'], 0, none, false⟩) := by
  cases hs : (sm == m) <;> rcases hb with ⟨rfl, rfl, rfl⟩ | ⟨rfl, rfl, rfl⟩ | ⟨rfl, rfl, rfl, ⟨rfl, ha⟩ | ⟨rfl, ha⟩ | ⟨rfl, ha⟩ | ⟨rfl, ha⟩⟩ <;> rcases hd with ⟨e1, e2, hd⟩ | hd
  · exact r5_ff_nf hK hget hlt hmax e1 e2 hd h11 h11' hO hR hs
  · exact r5_ff_sf hK hget hlt hmax hd h11 h11' hO hR hs
  · exact r5_tf_nf hK hget hlt hmax e1 e2 hd h11 h11' hO hR hs
  · exact r5_tf_sf hK hget hlt hmax hd h11 h11' hO hR hs
  · exact r5_ft_nf0 hK hget hlt hmax e1 e2 hd h11 h11' hO hR hs ha
  · exact r5_ft_sf0 hK hget hlt hmax hd h11 h11' hO hR hs ha
  · exact r5_ft_nf1 hK hget hlt hmax e1 e2 hd h11 h11' hO hR hs ha
  · exact r5_ft_sf1 hK hget hlt hmax hd h11 h11' hO hR hs ha
  · exact r5_ft_nf2 hK hget hlt hmax e1 e2 hd h11 h11' hO hR hs ha
  · exact r5_ft_sf2 hK hget hlt hmax hd h11 h11' hO hR hs ha
  · exact r5_ft_nf3 hK hget hlt hmax e1 e2 hd h11 h11' hO hR hs ha
  · exact r5_ft_sf3 hK hget hlt hmax hd h11 h11' hO hR hs ha
  · exact r5_ff_nt hK hget hlt hmax e1 e2 hd h11 h11' hO hR hs
  · exact r5_ff_st hK hget hlt hmax hd h11 h11' hO hR hs
  · exact r5_tf_nt hK hget hlt hmax e1 e2 hd h11 h11' hO hR hs
  · exact r5_tf_st hK hget hlt hmax hd h11 h11' hO hR hs
  · exact r5_ft_nt0 hK hget hlt hmax e1 e2 hd h11 h11' hO hR hs ha
  · exact r5_ft_st0 hK hget hlt hmax hd h11 h11' hO hR hs ha
  · exact r5_ft_nt1 hK hget hlt hmax e1 e2 hd h11 h11' hO hR hs ha
  · exact r5_ft_st1 hK hget hlt hmax hd h11 h11' hO hR hs ha
  · exact r5_ft_nt2 hK hget hlt hmax e1 e2 hd h11 h11' hO hR hs ha
  · exact r5_ft_st2 hK hget hlt hmax hd h11 h11' hO hR hs ha
  · exact r5_ft_nt3 hK hget hlt hmax e1 e2 hd h11 h11' hO hR hs ha
  · exact r5_ft_st3 hK hget hlt hmax hd h11 h11' hO hR hs ha

/-- a step of the key in an open box -/
theorem r5_stay {p a : Int} (hK : IsS 3 srows K) (hget : srows[i]? = some [dI w, dI key, dI sm]) (hlt : i < srows.length) (hmax : srows.length < 9223372036854775808) (hd : Does5 O R O' R' w key sm)
    (h11 : ∀ r, ev cfg (.call 11 [.ptr 0 0, I key] (O :: R :: r)) = some (.ret (.tup [.agg [I p0, I p1, I p2, I p3], B true]) none)) (h11' : ∀ r, ev cfg (.call 11 [.ptr 0 0, I key] (O' :: R' :: r)) = some (.ret (.tup [.agg [I a0, I a1, I a2, I a3], B true]) none))
    (hO : O'.all (cellLt 2) = true) (hR : R'.all (cellLt 2) = true) (hm : (m = 0 ∧ p = p0 ∧ a = a0) ∨ (m = 1 ∧ p = p1 ∧ a = a1) ∨ (m = 2 ∧ p = p2 ∧ a = a2) ∨ (m = 3 ∧ p = p3 ∧ a = a3))
    (hs : ((sm == m) = true ∧ IntKind.wrap .i64 (IntKind.wrap .i64 (N + a) - p) = N2 ∧ decide (IntKind.wrap .i64 (a - p) > 1) = false ∧ decide (IntKind.wrap .i64 (p - a) > 1) = false) ∨ ((sm == m) = false ∧ N2 = N)) (ha : (a != N2) = false) :
    stepJ (ev cfg) cfg (.loop 5 7 ⟨(.dead :: I key :: I m :: .dead :: .dead :: .dead :: .dead :: .ptr 0 0 :: .ptr 1 0 :: I N :: .dead :: .dead :: .dead :: .dead :: .dead :: .dead :: .dead :: .dead :: .dead :: .dead :: .dead :: .dead :: .dead :: .dead :: .dead :: .dead :: .dead :: .dead :: .dead :: .dead :: .dead :: .dead :: .dead :: .dead :: .dead :: .dead :: .dead :: .dead :: .dead :: .dat K :: I srows.length :: I i :: .dead :: .dead :: .dead :: .dead :: .dead :: .dead :: .dead :: .dead :: .dead :: .dead :: .dead :: .dead :: .dead :: .dead :: .dead :: .dead :: .dead :: .dead :: .dead :: .dead :: .dead :: .dead :: .dead :: .dead :: .dead :: .dead :: .dead :: .dead :: .dead :: .dead :: .dead :: .dead :: .dead :: .dead :: .dead :: .dead :: .dead :: .dead :: .dead :: .dead :: .dead :: .dead :: .dead :: .dead :: .dead :: .dead :: .dead :: .dead :: .dead :: .dead :: .dead :: .dead :: .dead :: .dead :: .dead :: .dead :: .dead :: .dead :: .dead :: .dead :: .dead :: .dead :: .dead :: .dead :: .dead :: .dead :: .dead :: .dead :: .dead :: .dead :: .dead :: .dead :: .dead :: .dead :: .dead :: .dead :: []), [O, R], 0, none, false⟩) =
      ev cfg (.loop 5 7 ⟨(.dead :: I key :: I m :: .dead :: .dead :: .dead :: .dead :: .ptr 0 0 :: .ptr 1 0 :: I N2 :: .dead :: .dead :: .dead :: .dead :: .dead :: .dead :: .dead :: .dead :: .dead :: .dead :: .dead :: .dead :: .dead :: .dead :: .dead :: .dead :: .dead :: .dead :: .dead :: .dead :: .dead :: .dead :: .dead :: .dead :: .dead :: .dead :: .dead :: .dead :: .dead :: .dat K :: I srows.length :: I ((i + 1 : Nat) : Int) :: .dead :: .dead :: .dead :: .dead :: .dead :: .dead :: .dead :: .dead :: .dead :: .dead :: .dead :: .dead :: .dead :: .dead :: .dead :: .dead :: .dead :: .dead :: .dead :: .dead :: .dead :: .dead :: .dead :: .dead :: .dead :: .dead :: .dead :: .dead :: .dead :: .dead :: .dead :: .dead :: .dead :: .dead :: .dead :: .dead :: .dead :: .dead :: .dead :: .dead :: .dead :: .dead :: .dead :: .dead :: .dead :: .dead :: .dead :: .dead :: .dead :: .dead :: .dead :: .dead :: .dead :: .dead :: .dead :: .dead :: .dead :: .dead :: .dead :: .dead :: .dead :: .dead :: .dead :: .dead :: .dead :: .dead :: .dead :: .dead :: .dead :: .dead :: .dead :: .dead :: .dead :: .dead :: .dead :: .dead :: []), [O', R'], 0, none, false⟩) := by
  rcases hm with ⟨rfl, rfl, rfl⟩ | ⟨rfl, rfl, rfl⟩ | ⟨rfl, rfl, rfl⟩ | ⟨rfl, rfl, rfl⟩ <;> rcases hs with ⟨hs, hw, hd1, hd2⟩ | ⟨hs, rfl⟩ <;> rcases hd with ⟨e1, e2, hd⟩ | hd
  · exact r5_tt_nt0 hK hget hlt hmax e1 e2 hd h11 h11' hO hR hs hw hd1 hd2 ha
  · exact r5_tt_st0 hK hget hlt hmax hd h11 h11' hO hR hs hw hd1 hd2 ha
  · exact r5_tt_nf0 hK hget hlt hmax e1 e2 hd h11 h11' hO hR hs ha
  · exact r5_tt_sf0 hK hget hlt hmax hd h11 h11' hO hR hs ha
  · exact r5_tt_nt1 hK hget hlt hmax e1 e2 hd h11 h11' hO hR hs hw hd1 hd2 ha
  · exact r5_tt_st1 hK hget hlt hmax hd h11 h11' hO hR hs hw hd1 hd2 ha
  · exact r5_tt_nf1 hK hget hlt hmax e1 e2 hd h11 h11' hO hR hs ha
  · exact r5_tt_sf1 hK hget hlt hmax hd h11 h11' hO hR hs ha
  · exact r5_tt_nt2 hK hget hlt hmax e1 e2 hd h11 h11' hO hR hs hw hd1 hd2 ha
  · exact r5_tt_st2 hK hget hlt hmax hd h11 h11' hO hR hs hw hd1 hd2 ha
  · exact r5_tt_nf2 hK hget hlt hmax e1 e2 hd h11 h11' hO hR hs ha
  · exact r5_tt_sf2 hK hget hlt hmax hd h11 h11' hO hR hs ha
  · exact r5_tt_nt3 hK hget hlt hmax e1 e2 hd h11 h11' hO hR hs hw hd1 hd2 ha
  · exact r5_tt_st3 hK hget hlt hmax hd h11 h11' hO hR hs hw hd1 hd2 ha
  · exact r5_tt_nf3 hK hget hlt hmax e1 e2 hd h11 h11' hO hR hs ha
  · exact r5_tt_sf3 hK hget hlt hmax hd h11 h11' hO hR hs ha
end
end Go.Proofs.Ytgppmcpbphgnnaa
