/- What an argument that can be read says of a tree; what the listed table says. No condition. -/
import Derived.Test.YtgppmcpbphgnnaaDoorB1
import Derived.Test.YtgppmcpbphgnnaaDoorRows
import Derived.Test.YtgppmcpbphgnnaaDoorVe
import Derived.MakeChecks
import Derived.KernelRfl
set_option linter.unusedSimpArgs false
set_option linter.unusedVariables false
set_option linter.unusedSectionVars false
namespace Go.Proofs.YtgppmcpbphgnnaaDoor
open Go Go.Vx Go.RowKit

def FitQ (t : Nat) (ds : List D) : Prop :=
  (t = 3 → ∃ n, ds = [dI n] ∧ i64 n) ∧
  (t = 71 → ∃ x : Int × Int × Int, ds = lnkD x ∧ i64 x.1 ∧ i64 x.2.1 ∧ i64 x.2.2) ∧
  (t = 23 → ∃ L, ds = [L] ∧ ∃ ls : List (Int × Int × Int), IsS 3 (ls.map lnkD) L ∧ ls.length < 9223372036854775808 ∧ ∀ x ∈ ls, i64 x.1 ∧ i64 x.2.1 ∧ i64 x.2.2) ∧
  (t = 22 → ∃ K, ds = [K] ∧ ∃ rows bs, IsS 5 rows K ∧ IsB.IsBs bs rows ∧ bs.length < 9223372036854775808) ∧
  (t = 25 → ∃ b k n a K L, ds = [dI k, dI n, dI a, K, L] ∧ IsB b k n a K L)

theorem links_of {rows : List (List D)} (h : ∀ r ∈ rows, FitQ 71 r) : ∃ ls : List (Int × Int × Int), ls.map lnkD = rows ∧ ∀ x ∈ ls, i64 x.1 ∧ i64 x.2.1 ∧ i64 x.2.2 := by
  induction rows with
  | nil => exact ⟨[], rfl, fun x hx => by cases hx⟩
  | cons r rows ih =>
    obtain ⟨x, hx, h1⟩ := (h r (List.mem_cons_self ..)).2.1 rfl
    obtain ⟨ls, h2, h3⟩ := ih fun r hr => h r (List.mem_cons_of_mem _ hr)
    refine ⟨x :: ls, by rw [List.map_cons, h2, hx], fun y hy => ?_⟩
    rcases List.mem_cons.1 hy with rfl | hy
    · exact h1
    · exact h3 y hy

theorem blks_of {rows : List (List D)} (h : ∀ r ∈ rows, FitQ 25 r) : ∃ bs, IsB.IsBs bs rows := by
  induction rows with
  | nil => exact ⟨[], by rw [IsB.IsBs]⟩
  | cons r rows ih =>
    obtain ⟨b, k, n, a, K, L, rfl, h1⟩ := (h r (List.mem_cons_self ..)).2.2.2.2 rfl
    obtain ⟨bs, h2⟩ := ih fun r hr => h r (List.mem_cons_of_mem _ hr)
    exact ⟨b :: bs, by rw [IsB.IsBs]; exact ⟨k, n, a, K, L, rows, rfl, h1, h2⟩⟩

theorem maxLen_lt {n : Nat} (h : n ≤ maxLen) : n < 9223372036854775808 := by unfold maxLen at h; omega

theorem fit_q {t : TypeId} {ds : List D} (h : Fit tiT t ds) : FitQ t ds := by
  induction h with
  | @int t i k n h hk hw =>
    refine ⟨fun e => ?_, fun e => ?_, fun e => ?_, fun e => ?_, fun e => ?_⟩
    · subst e
      obtain rfl := Option.some.inj ((show tiT 3 = some _ from rfl).symm.trans h)
      cases hk
      refine ⟨n, rfl, ?_⟩
      simp only [Lit.wf, Bool.and_eq_true, decide_eq_true_eq] at hw
      exact hw
    all_goals
      subst e
      obtain rfl := Option.some.inj ((show tiT _ = some _ from rfl).symm.trans h)
      cases hk
  | @bool t i b h hk =>
    refine ⟨fun e => ?_, fun e => ?_, fun e => ?_, fun e => ?_, fun e => ?_⟩
    all_goals
      subst e
      obtain rfl := Option.some.inj ((show tiT _ = some _ from rfl).symm.trans h)
      cases hk
  | @str t i s h hk hw =>
    refine ⟨fun e => ?_, fun e => ?_, fun e => ?_, fun e => ?_, fun e => ?_⟩
    all_goals
      subst e
      obtain rfl := Option.some.inj ((show tiT _ = some _ from rfl).symm.trans h)
      cases hk
  | @nil t e i h hk =>
    refine ⟨fun q => ?_, fun q => ?_, fun q => ?_, fun q => ?_, fun q => ?_⟩
    · subst q
      obtain rfl := Option.some.inj ((show tiT _ = some _ from rfl).symm.trans h)
      cases hk
    · subst q
      obtain rfl := Option.some.inj ((show tiT _ = some _ from rfl).symm.trans h)
      cases hk
    · exact ⟨.nil, rfl, [], isS_nil 3, by simp, fun x hx => by cases hx⟩
    · exact ⟨.nil, rfl, [], [], isS_nil 5, by rw [IsB.IsBs], by simp⟩
    · subst q
      obtain rfl := Option.some.inj ((show tiT _ = some _ from rfl).symm.trans h)
      cases hk
  | @sl t e i j rows h hk hj hl hr ih =>
    refine ⟨fun q => ?_, fun q => ?_, fun q => ?_, fun q => ?_, fun q => ?_⟩
    · subst q
      obtain rfl := Option.some.inj ((show tiT _ = some _ from rfl).symm.trans h)
      cases hk
    · subst q
      obtain rfl := Option.some.inj ((show tiT _ = some _ from rfl).symm.trans h)
      cases hk
    · subst q
      obtain rfl := Option.some.inj ((show tiT _ = some _ from rfl).symm.trans h)
      cases hk
      obtain rfl := Option.some.inj ((show tiT 71 = some _ from rfl).symm.trans hj)
      obtain ⟨ls, h1, h2⟩ := links_of ih
      refine ⟨_, rfl, ls, by rw [h1]; exact isS_sl 3 rows, ?_, h2⟩
      have := congrArg List.length h1
      rw [List.length_map] at this
      rw [this]; exact maxLen_lt hl
    · subst q
      obtain rfl := Option.some.inj ((show tiT _ = some _ from rfl).symm.trans h)
      cases hk
      obtain rfl := Option.some.inj ((show tiT 25 = some _ from rfl).symm.trans hj)
      obtain ⟨bs, h1⟩ := blks_of ih
      exact ⟨_, rfl, rows, bs, isS_sl 5 rows, h1, by rw [← isBs_len h1]; exact maxLen_lt hl⟩
    · subst q
      obtain rfl := Option.some.inj ((show tiT _ = some _ from rfl).symm.trans h)
      cases hk
  | @struct t i fs ds h hk hl hf ih =>
    refine ⟨fun q => ?_, fun q => ?_, fun q => ?_, fun q => ?_, fun q => ?_⟩
    · subst q
      obtain rfl := Option.some.inj ((show tiT _ = some _ from rfl).symm.trans h)
      cases hk
    · subst q
      obtain rfl := Option.some.inj ((show tiT _ = some _ from rfl).symm.trans h)
      cases hk
      match ds, hl with
      | [d0, d1, d2], _ =>
        obtain ⟨n0, e0, w0⟩ := (ih (0, 3) (by simp) _ rfl).1 rfl
        obtain ⟨n1, e1, w1⟩ := (ih (1, 3) (by simp) _ rfl).1 rfl
        obtain ⟨n2, e2, w2⟩ := (ih (2, 3) (by simp) _ rfl).1 rfl
        simp at e0 e1 e2
        subst e0; subst e1; subst e2
        exact ⟨(n0, n1, n2), rfl, w0, w1, w2⟩
    · subst q
      obtain rfl := Option.some.inj ((show tiT _ = some _ from rfl).symm.trans h)
      cases hk
    · subst q
      obtain rfl := Option.some.inj ((show tiT _ = some _ from rfl).symm.trans h)
      cases hk
    · subst q
      obtain rfl := Option.some.inj ((show tiT _ = some _ from rfl).symm.trans h)
      cases hk
      match ds, hl with
      | [d0, d1, d2, d3, d4], _ =>
        obtain ⟨n0, e0, w0⟩ := (ih (0, 3) (by simp) _ rfl).1 rfl
        obtain ⟨n1, e1, w1⟩ := (ih (1, 3) (by simp) _ rfl).1 rfl
        obtain ⟨n2, e2, w2⟩ := (ih (2, 3) (by simp) _ rfl).1 rfl
        obtain ⟨K, e3, rows, bs, hK, hbs, hlen⟩ := (ih (3, 22) (by simp) _ rfl).2.2.2.1 rfl
        obtain ⟨L, e4, ls, hL, hlen2, hx⟩ := (ih (4, 23) (by simp) _ rfl).2.2.1 rfl
        simp at e0 e1 e2 e3 e4
        subst e0; subst e1; subst e2; subst e3; subst e4
        exact ⟨.mk n0 n1 n2 bs ls, n0, n1, n2, _, _, rfl, by rw [IsB]; exact ⟨rfl, rfl, rfl, w0, w1, w2, rows, hK, hbs, hlen, hL, hlen2, hx⟩⟩

def blkT : List TypeId := [3, 22, 23, 25, 71]
theorem blkT_ok : closedTi tiT blkT = true := by decide

/-! ### the listed table -/
theorem gNames : Tryd.prog.globalNamed "treenail/block.names" = some 0 := by kernel_rfl
theorem tNames : (Tryd.prog.globals[0]?).map (·.type) = some 99 := by kernel_rfl

theorem lit_bytes {s : ByteArray} {l : List UInt8} (h : s.data.toList = l) : s = ⟨l.toArray⟩ := by
  cases s with
  | mk a => cases a; simp at h; subst h; rfl

theorem glob_ok {W : World} (h : laidMetH Tryd.prog [("treenail/block.names", Rows.laid_treenail_block_names)] W) : GlobOk cfg (gh0 W) := by
  rw [MakeChecks.laidMetH_plain _ _ _ (by kernel_rfl)] at h
  obtain ⟨ps, ⟨g0, t0, cs0, f0, p0, q0, hg0, ht0, hv0, hd0, _, _⟩, _, _⟩ := h
  obtain rfl := Option.some.inj (gNames.symm.trans hg0)
  obtain rfl := Option.some.inj (tNames.symm.trans ht0)
  obtain ⟨xs, m1, rfl, hx1, hlen, hn, hel⟩ := DataW.trod_array Tryd.underlying99 hd0
  have c9 : Tryd.prog.cellsOf 9 = 1 := by kernel_rfl
  have c99 : Tryd.prog.cellsOf 99 = 11 := by kernel_rfl
  rw [c99] at hlen
  have hx : xs.map (·.1) = [.lit (.string []), .lit (.string []), .lit (.string []), .lit (.string [115, 101, 113]), .lit (.string [112, 97, 114]), .lit (.string [97, 108, 116]), .lit (.string [112, 105, 99, 107]), .lit (.string [108, 111, 111, 112]), .lit (.string []), .lit (.string [119, 101, 98]), .lit (.string [])] := by
    have := congrArg Prod.fst hx1
    exact (DataW.agg.inj this).symm
  intro gl cs hgl
  have key : gl = 0 ∧ cs = [.lit (.string ⟨#[]⟩), .lit (.string ⟨#[]⟩), .lit (.string ⟨#[]⟩), .lit (.string ⟨#[115, 101, 113]⟩), .lit (.string ⟨#[112, 97, 114]⟩), .lit (.string ⟨#[97, 108, 116]⟩), .lit (.string ⟨#[112, 105, 99, 107]⟩), .lit (.string ⟨#[108, 111, 111, 112]⟩), .lit (.string ⟨#[]⟩), .lit (.string ⟨#[119, 101, 98]⟩), .lit (.string ⟨#[]⟩)] := by
    change glT gl = some cs at hgl
    unfold glT at hgl
    split at hgl
    · exact ⟨rfl, (Option.some.inj hgl).symm⟩
    · cases hgl
  obtain ⟨rfl, rfl⟩ := key
  have hcell : ∀ (j : Nat) (l : List UInt8), j < 11 → (xs.map (·.1))[j]? = some (.lit (.string l)) → W.cell? ⟨0, j, none⟩ = some (.string ⟨l.toArray⟩) := by
    intro j l hj hl
    have h1 := hel j hj
    rw [c9, Nat.mul_one] at h1
    rw [List.getElem?_map] at hl
    cases hxj : xs[j]? with
    | none => rw [hxj] at hl; cases hl
    | some y =>
      rw [hxj] at h1 hl
      obtain ⟨s, e1, e2, _⟩ := DataW.trod_string Tryd.underlying9 h1
      subst e2
      simp only [Option.map_some, Option.some.injEq, DataW.lit.injEq, Lit.string.injEq] at hl
      obtain rfl := lit_bytes hl
      have hv := World.var?_cell hg0 hv0 j
      have hcj : cs0.toList[j]? = some (.string ⟨l.toArray⟩) := by
        have : ((cs0.toList.drop j).take 1)[0]? = some (.string ⟨l.toArray⟩) := by rw [e1]; rfl
        rwa [List.getElem?_take_of_lt (by omega), List.getElem?_drop, Nat.add_zero] at this
      rw [Array.getElem?_toList] at hcj
      rw [hv, hcj]
  refine ⟨fun j => (W.cell? ⟨0, j, none⟩).getD undef, fun j d hd => ?_⟩
  have hj : j < 11 := by have := (List.getElem?_eq_some_iff.1 hd).1; simpa using this
  rw [hx] at hcell
  show memOf W ⟨0, j, none⟩ = _ ∧ _
  match j, hj with
  | 0, _ => obtain rfl := Option.some.inj hd; have := hcell 0 _ (by omega) rfl; simp only [memOf, this, Option.getD_some]; exact ⟨trivial, .lit _ rfl⟩
  | 1, _ => obtain rfl := Option.some.inj hd; have := hcell 1 _ (by omega) rfl; simp only [memOf, this, Option.getD_some]; exact ⟨trivial, .lit _ rfl⟩
  | 2, _ => obtain rfl := Option.some.inj hd; have := hcell 2 _ (by omega) rfl; simp only [memOf, this, Option.getD_some]; exact ⟨trivial, .lit _ rfl⟩
  | 3, _ => obtain rfl := Option.some.inj hd; have := hcell 3 _ (by omega) rfl; simp only [memOf, this, Option.getD_some]; exact ⟨trivial, .lit _ rfl⟩
  | 4, _ => obtain rfl := Option.some.inj hd; have := hcell 4 _ (by omega) rfl; simp only [memOf, this, Option.getD_some]; exact ⟨trivial, .lit _ rfl⟩
  | 5, _ => obtain rfl := Option.some.inj hd; have := hcell 5 _ (by omega) rfl; simp only [memOf, this, Option.getD_some]; exact ⟨trivial, .lit _ rfl⟩
  | 6, _ => obtain rfl := Option.some.inj hd; have := hcell 6 _ (by omega) rfl; simp only [memOf, this, Option.getD_some]; exact ⟨trivial, .lit _ rfl⟩
  | 7, _ => obtain rfl := Option.some.inj hd; have := hcell 7 _ (by omega) rfl; simp only [memOf, this, Option.getD_some]; exact ⟨trivial, .lit _ rfl⟩
  | 8, _ => obtain rfl := Option.some.inj hd; have := hcell 8 _ (by omega) rfl; simp only [memOf, this, Option.getD_some]; exact ⟨trivial, .lit _ rfl⟩
  | 9, _ => obtain rfl := Option.some.inj hd; have := hcell 9 _ (by omega) rfl; simp only [memOf, this, Option.getD_some]; exact ⟨trivial, .lit _ rfl⟩
  | 10, _ => obtain rfl := Option.some.inj hd; have := hcell 10 _ (by omega) rfl; simp only [memOf, this, Option.getD_some]; exact ⟨trivial, .lit _ rfl⟩
  | k + 11, h => exact absurd h (by omega)

end Go.Proofs.YtgppmcpbphgnnaaDoor
