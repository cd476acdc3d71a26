/- What an argument that can be read says of a tree; what the listed table of words says. No condition. Written by a program (mkT28.py). -/
import Derived.Test.YtgppmcpbphgnnaaDoorT3
import Derived.Test.YtgppmcpbphgnnaaDoorRows
import Derived.Test.YtgppmcpbphgnnaaDoorVe
import Derived.MakeChecks
import Derived.KernelRfl
import Derived.OpenShut
set_option linter.unusedSimpArgs false
set_option linter.unusedVariables false
set_option linter.unusedSectionVars false
namespace Go.Proofs.YtgppmcpbphgnnaaDoor
open Go Go.Vx Go.RowKit
set_option maxRecDepth 100000

def FitQ (t : Nat) (ds : List D) : Prop :=
  (t = 3 → ∃ n, ds = [dI n] ∧ i64 n) ∧
  (t = 9 → ∃ s : ByteArray, ds = [.lit (.string s)]) ∧
  (t = 46 → ∃ K, ds = [K] ∧ ∃ rows bs, IsS 3 rows K ∧ IsT.IsTs bs rows ∧ bs.length < 9223372036854775808) ∧
  (t = 48 → ∃ b k n K, ds = [dI k, dI n, K] ∧ IsT b k n K)

theorem trms_of {rows : List (List D)} (h : ∀ r ∈ rows, FitQ 48 r) : ∃ bs, IsT.IsTs bs rows := by
  induction rows with
  | nil => exact ⟨[], by rw [IsT.IsTs]⟩
  | cons r rows ih =>
    obtain ⟨b, k, n, K, rfl, h1⟩ := (h r (List.mem_cons_self ..)).2.2.2 rfl
    obtain ⟨bs, h2⟩ := ih fun r hr => h r (List.mem_cons_of_mem _ hr)
    exact ⟨b :: bs, by rw [IsT.IsTs]; exact ⟨k, n, K, rows, rfl, h1, h2⟩⟩

theorem maxLen_lt {n : Nat} (h : n ≤ maxLen) : n < 9223372036854775808 := by unfold maxLen at h; omega

theorem fit_q {t : TypeId} {ds : List D} (h : Fit tiT t ds) : FitQ t ds := by
  induction h with
  | @int t i k n h hk hw =>
    refine ⟨fun e => ?_, fun e => ?_, fun e => ?_, fun e => ?_⟩
    · subst e
      obtain rfl := Option.some.inj ((show tiT 3 = some _ from rfl).symm.trans h)
      cases hk
      refine ⟨n, rfl, ?_⟩
      simp only [Lit.wf, Bool.and_eq_true, decide_eq_true_eq] at hw
      exact hw
    all_goals
      subst e
      obtain rfl := Option.some.inj ((show tiT _ = some _ from rfl).symm.trans h)
      cases hk
  | @bool t i b h hk =>
    refine ⟨fun e => ?_, fun e => ?_, fun e => ?_, fun e => ?_⟩
    all_goals
      subst e
      obtain rfl := Option.some.inj ((show tiT _ = some _ from rfl).symm.trans h)
      cases hk
  | @str t i s h hk hw =>
    refine ⟨fun e => ?_, fun e => ⟨s, rfl⟩, fun e => ?_, fun e => ?_⟩
    all_goals
      subst e
      obtain rfl := Option.some.inj ((show tiT _ = some _ from rfl).symm.trans h)
      cases hk
  | @nil t e i h hk =>
    refine ⟨fun q => ?_, fun q => ?_, fun q => ?_, fun q => ?_⟩
    · subst q
      obtain rfl := Option.some.inj ((show tiT _ = some _ from rfl).symm.trans h)
      cases hk
    · subst q
      obtain rfl := Option.some.inj ((show tiT _ = some _ from rfl).symm.trans h)
      cases hk
    · exact ⟨.nil, rfl, [], [], isS_nil 3, by rw [IsT.IsTs], by simp⟩
    · subst q
      obtain rfl := Option.some.inj ((show tiT _ = some _ from rfl).symm.trans h)
      cases hk
  | @sl t e i j rows h hk hj hl hr ih =>
    refine ⟨fun q => ?_, fun q => ?_, fun q => ?_, fun q => ?_⟩
    · subst q
      obtain rfl := Option.some.inj ((show tiT _ = some _ from rfl).symm.trans h)
      cases hk
    · subst q
      obtain rfl := Option.some.inj ((show tiT _ = some _ from rfl).symm.trans h)
      cases hk
    · subst q
      obtain rfl := Option.some.inj ((show tiT _ = some _ from rfl).symm.trans h)
      cases hk
      obtain rfl := Option.some.inj ((show tiT 48 = some _ from rfl).symm.trans hj)
      obtain ⟨bs, h1⟩ := trms_of ih
      exact ⟨_, rfl, rows, bs, isS_sl 3 rows, h1, by rw [← isTs_len h1]; exact maxLen_lt hl⟩
    · subst q
      obtain rfl := Option.some.inj ((show tiT _ = some _ from rfl).symm.trans h)
      cases hk
  | @struct t i fs ds h hk hl hf ih =>
    refine ⟨fun q => ?_, fun q => ?_, fun q => ?_, fun q => ?_⟩
    · subst q
      obtain rfl := Option.some.inj ((show tiT _ = some _ from rfl).symm.trans h)
      cases hk
    · subst q
      obtain rfl := Option.some.inj ((show tiT _ = some _ from rfl).symm.trans h)
      cases hk
    · subst q
      obtain rfl := Option.some.inj ((show tiT _ = some _ from rfl).symm.trans h)
      cases hk
    · subst q
      obtain rfl := Option.some.inj ((show tiT _ = some _ from rfl).symm.trans h)
      cases hk
      match ds, hl with
      | [d0, d1, d2], _ =>
        obtain ⟨n0, e0, w0⟩ := (ih (0, 3) (by simp) _ rfl).1 rfl
        obtain ⟨n1, e1, w1⟩ := (ih (1, 3) (by simp) _ rfl).1 rfl
        obtain ⟨K, e3, rows, bs, hK, hbs, hlen⟩ := (ih (2, 46) (by simp) _ rfl).2.2.1 rfl
        simp at e0 e1 e3
        subst e0; subst e1; subst e3
        exact ⟨.mk n0 n1 bs, n0, n1, _, rfl, by rw [IsT]; exact ⟨rfl, rfl, w0, w1, rows, hK, hbs, hlen⟩⟩

def trmT : List TypeId := [3, 9, 46, 48]
theorem trmT_ok : closedTi tiT trmT = true := by decide

/-! ### the listed table -/
theorem gWords : Tryd.prog.globalNamed "treenail/term.words" = some 1 := by kernel_rfl
theorem tWords : (Tryd.prog.globals[1]?).map (·.type) = some 103 := by kernel_rfl

theorem lit_bytes {s : ByteArray} {l : List UInt8} (h : s.data.toList = l) : s = ⟨l.toArray⟩ := by
  cases s with
  | mk a => cases a; simp at h; subst h; rfl

theorem word_row {H : Type} {enc : TypeId × Value → H} {w : World} {base : Nat} {spare : Nat → Bool} {held : Bool} {fuel : Nat} {cs : List Value} {l : List UInt8} {a b c : Int} {m : List MemPlace}
    (h : DataW.trod enc Tryd.prog w base spare held fuel 102 cs = some (.agg [.lit (.string l), .lit (.int .i64 a), .lit (.int .i64 b), .lit (.int .i64 c)], m)) :
    cs = [.string ⟨l.toArray⟩, .int .i64 a, .int .i64 b, .int .i64 c] := by
  obtain ⟨xs, n, rfl, hx, hlen, hn, hel⟩ := DataW.trod_struct Tryd.underlying102 h
  have c102 : Tryd.prog.cellsOf 102 = 4 := by kernel_rfl
  have c9 : Tryd.prog.cellsOf 9 = 1 := by kernel_rfl
  have c3 : Tryd.prog.cellsOf 3 = 1 := by kernel_rfl
  rw [c102] at hlen
  have hx' : xs.map (·.1) = [.lit (.string l), .lit (.int .i64 a), .lit (.int .i64 b), .lit (.int .i64 c)] := by
    have := congrArg Prod.fst hx
    exact (DataW.agg.inj this).symm
  match cs, hlen with
  | [v0, v1, v2, v3], _ =>
    match xs, hx' with
    | [x0, x1, x2, x3], hx' =>
      simp only [List.map_cons, List.map_nil, List.cons.injEq, and_true] at hx'
      obtain ⟨e0, e1, e2, e3⟩ := hx'
      have h0 : DataW.trod enc Tryd.prog w base spare held n 9 (([v0, v1, v2, v3].drop 0).take (Tryd.prog.cellsOf 9)) = some x0 := hel 0 _ rfl
      rw [c9] at h0
      have h1 : DataW.trod enc Tryd.prog w base spare held n 3 (([v0, v1, v2, v3].drop 1).take (Tryd.prog.cellsOf 3)) = some x1 := hel 1 _ rfl
      rw [c3] at h1
      have h2 : DataW.trod enc Tryd.prog w base spare held n 3 (([v0, v1, v2, v3].drop 2).take (Tryd.prog.cellsOf 3)) = some x2 := hel 2 _ rfl
      rw [c3] at h2
      have h3 : DataW.trod enc Tryd.prog w base spare held n 3 (([v0, v1, v2, v3].drop 3).take (Tryd.prog.cellsOf 3)) = some x3 := hel 3 _ rfl
      rw [c3] at h3
      obtain ⟨s, f0, g0, _⟩ := DataW.trod_string Tryd.underlying9 h0
      obtain ⟨n1, f1, g1, _⟩ := DataW.trod_int Tryd.underlying3 h1
      obtain ⟨n2, f2, g2, _⟩ := DataW.trod_int Tryd.underlying3 h2
      obtain ⟨n3, f3, g3, _⟩ := DataW.trod_int Tryd.underlying3 h3
      subst g0; subst g1; subst g2; subst g3
      simp only [DataW.lit.injEq, Lit.string.injEq, Lit.int.injEq, true_and] at e0 e1 e2 e3
      subst e1; subst e2; subst e3
      obtain rfl := lit_bytes e0
      simp at f0 f1 f2 f3
      rw [f0, f1, f2, f3]

theorem glob_ok {W : World} (h : laidMetH Tryd.prog [("treenail/term.words", Rows.laid_treenail_term_words)] W) : GlobOk cfg (gh0 cfg W) := by
  rw [MakeChecks.laidMetH_plain _ _ _ (by kernel_rfl)] at h
  obtain ⟨ps, ⟨g0, t0, cs0, f0, p0, q0, hg0, ht0, hv0, hd0, _, _⟩, _, _⟩ := h
  obtain rfl := Option.some.inj (gWords.symm.trans hg0)
  obtain rfl := Option.some.inj (tWords.symm.trans ht0)
  obtain ⟨xs, m1, rfl, hx1, hlen, hn, hel⟩ := DataW.trod_array Tryd.underlying103 hd0
  have c102 : Tryd.prog.cellsOf 102 = 4 := by kernel_rfl
  have hx : xs.map (·.1) = [.agg [.lit (.string []), .lit (.int .i64 0), .lit (.int .i64 0), .lit (.int .i64 0)], .agg [.lit (.string []), .lit (.int .i64 0), .lit (.int .i64 0), .lit (.int .i64 0)], .agg [.lit (.string []), .lit (.int .i64 0), .lit (.int .i64 0), .lit (.int .i64 0)], .agg [.lit (.string [110, 101, 103]), .lit (.int .i64 1), .lit (.int .i64 1), .lit (.int .i64 1)], .agg [.lit (.string [110, 111, 116]), .lit (.int .i64 1), .lit (.int .i64 2), .lit (.int .i64 2)], .agg [.lit (.string [97, 100, 100]), .lit (.int .i64 2), .lit (.int .i64 1), .lit (.int .i64 1)], .agg [.lit (.string [115, 117, 98]), .lit (.int .i64 2), .lit (.int .i64 1), .lit (.int .i64 1)], .agg [.lit (.string [109, 117, 108]), .lit (.int .i64 2), .lit (.int .i64 1), .lit (.int .i64 1)], .agg [.lit (.string [100, 105, 118]), .lit (.int .i64 2), .lit (.int .i64 1), .lit (.int .i64 1)], .agg [.lit (.string [109, 111, 100]), .lit (.int .i64 2), .lit (.int .i64 1), .lit (.int .i64 1)], .agg [.lit (.string [101, 113]), .lit (.int .i64 2), .lit (.int .i64 1), .lit (.int .i64 2)], .agg [.lit (.string [108, 116]), .lit (.int .i64 2), .lit (.int .i64 1), .lit (.int .i64 2)], .agg [.lit (.string [108, 101]), .lit (.int .i64 2), .lit (.int .i64 1), .lit (.int .i64 2)], .agg [.lit (.string [97, 110, 100]), .lit (.int .i64 2), .lit (.int .i64 2), .lit (.int .i64 2)], .agg [.lit (.string [111, 114]), .lit (.int .i64 2), .lit (.int .i64 2), .lit (.int .i64 2)]] := by
    have := congrArg Prod.fst hx1
    exact (DataW.agg.inj this).symm
  have hrow : ∀ (r : Nat) (l : List UInt8) (a b c : Int), r < 15 → (xs.map (·.1))[r]? = some (.agg [.lit (.string l), .lit (.int .i64 a), .lit (.int .i64 b), .lit (.int .i64 c)]) →
      W.cell? ⟨1, r * 4, none⟩ = some (.string ⟨l.toArray⟩) ∧ W.cell? ⟨1, r * 4 + 1, none⟩ = some (.int .i64 a) ∧ W.cell? ⟨1, r * 4 + 2, none⟩ = some (.int .i64 b) ∧ W.cell? ⟨1, r * 4 + 3, none⟩ = some (.int .i64 c) := by
    intro r l a b c hr hl
    have h1 := hel r hr
    rw [c102] at h1
    rw [List.getElem?_map] at hl
    cases hxj : xs[r]? with
    | none => rw [hxj] at hl; cases hl
    | some y =>
      rw [hxj] at h1 hl
      obtain ⟨y1, y2⟩ := y
      simp only [Option.map_some, Option.some.injEq] at hl
      subst hl
      have hw := word_row h1
      have hc : ∀ (k : Nat) (v : Value), k < 4 → ([.string ⟨l.toArray⟩, .int .i64 a, .int .i64 b, .int .i64 c] : List Value)[k]? = some v → W.cell? ⟨1, r * 4 + k, none⟩ = some v := by
        intro k v hk hv
        rw [← hw, List.getElem?_take_of_lt hk, List.getElem?_drop] at hv
        have := World.var?_cell hg0 hv0 (r * 4 + k)
        rw [Array.getElem?_toList] at hv
        rw [this, hv]
      exact ⟨hc 0 _ (by omega) rfl, hc 1 _ (by omega) rfl, hc 2 _ (by omega) rfl, hc 3 _ (by omega) rfl⟩
  rw [hx] at hrow
  have w0 := hrow 0 [] 0 0 0 (by omega) rfl
  have w1 := hrow 1 [] 0 0 0 (by omega) rfl
  have w2 := hrow 2 [] 0 0 0 (by omega) rfl
  have w3 := hrow 3 [110, 101, 103] 1 1 1 (by omega) rfl
  have w4 := hrow 4 [110, 111, 116] 1 2 2 (by omega) rfl
  have w5 := hrow 5 [97, 100, 100] 2 1 1 (by omega) rfl
  have w6 := hrow 6 [115, 117, 98] 2 1 1 (by omega) rfl
  have w7 := hrow 7 [109, 117, 108] 2 1 1 (by omega) rfl
  have w8 := hrow 8 [100, 105, 118] 2 1 1 (by omega) rfl
  have w9 := hrow 9 [109, 111, 100] 2 1 1 (by omega) rfl
  have w10 := hrow 10 [101, 113] 2 1 2 (by omega) rfl
  have w11 := hrow 11 [108, 116] 2 1 2 (by omega) rfl
  have w12 := hrow 12 [108, 101] 2 1 2 (by omega) rfl
  have w13 := hrow 13 [97, 110, 100] 2 2 2 (by omega) rfl
  have w14 := hrow 14 [111, 114] 2 2 2 (by omega) rfl
  clear hrow hel hx hx1
  refine ⟨fun gl cs hgl => ?_, rfl⟩
  have key : gl = 1 ∧ cs = wordsD := by
    change glT gl = some cs at hgl
    unfold glT at hgl
    split at hgl
    · exact ⟨rfl, (Option.some.inj hgl).symm⟩
    · cases hgl
  obtain ⟨rfl, rfl⟩ := key
  refine ⟨fun j => (W.cell? ⟨1, j, none⟩).getD undef, fun j d hd => ?_⟩
  have hj : j < 60 := by have := (List.getElem?_eq_some_iff.1 hd).1; exact Nat.lt_of_lt_of_le this (by rw [show wordsD.length = 60 from rfl]; exact Nat.le_refl _)
  show memOf W ⟨1, j, none⟩ = _ ∧ _
  match j, hj with
  | 0, _ =>
    have e : W.cell? ⟨1, 0, none⟩ = some (.string ⟨#[]⟩) := w0.1
    obtain rfl := Option.some.inj ((show wordsD[0]? = some (.lit (.string ⟨#[]⟩)) from rfl).symm.trans hd)
    simp only [memOf, e, Option.getD_some]; exact ⟨trivial, .lit _ rfl⟩
  | 1, _ =>
    have e : W.cell? ⟨1, 1, none⟩ = some (.int .i64 0) := w0.2.1
    obtain rfl := Option.some.inj ((show wordsD[1]? = some (.lit (.int .i64 0)) from rfl).symm.trans hd)
    simp only [memOf, e, Option.getD_some]; exact ⟨trivial, .lit _ rfl⟩
  | 2, _ =>
    have e : W.cell? ⟨1, 2, none⟩ = some (.int .i64 0) := w0.2.2.1
    obtain rfl := Option.some.inj ((show wordsD[2]? = some (.lit (.int .i64 0)) from rfl).symm.trans hd)
    simp only [memOf, e, Option.getD_some]; exact ⟨trivial, .lit _ rfl⟩
  | 3, _ =>
    have e : W.cell? ⟨1, 3, none⟩ = some (.int .i64 0) := w0.2.2.2
    obtain rfl := Option.some.inj ((show wordsD[3]? = some (.lit (.int .i64 0)) from rfl).symm.trans hd)
    simp only [memOf, e, Option.getD_some]; exact ⟨trivial, .lit _ rfl⟩
  | 4, _ =>
    have e : W.cell? ⟨1, 4, none⟩ = some (.string ⟨#[]⟩) := w1.1
    obtain rfl := Option.some.inj ((show wordsD[4]? = some (.lit (.string ⟨#[]⟩)) from rfl).symm.trans hd)
    simp only [memOf, e, Option.getD_some]; exact ⟨trivial, .lit _ rfl⟩
  | 5, _ =>
    have e : W.cell? ⟨1, 5, none⟩ = some (.int .i64 0) := w1.2.1
    obtain rfl := Option.some.inj ((show wordsD[5]? = some (.lit (.int .i64 0)) from rfl).symm.trans hd)
    simp only [memOf, e, Option.getD_some]; exact ⟨trivial, .lit _ rfl⟩
  | 6, _ =>
    have e : W.cell? ⟨1, 6, none⟩ = some (.int .i64 0) := w1.2.2.1
    obtain rfl := Option.some.inj ((show wordsD[6]? = some (.lit (.int .i64 0)) from rfl).symm.trans hd)
    simp only [memOf, e, Option.getD_some]; exact ⟨trivial, .lit _ rfl⟩
  | 7, _ =>
    have e : W.cell? ⟨1, 7, none⟩ = some (.int .i64 0) := w1.2.2.2
    obtain rfl := Option.some.inj ((show wordsD[7]? = some (.lit (.int .i64 0)) from rfl).symm.trans hd)
    simp only [memOf, e, Option.getD_some]; exact ⟨trivial, .lit _ rfl⟩
  | 8, _ =>
    have e : W.cell? ⟨1, 8, none⟩ = some (.string ⟨#[]⟩) := w2.1
    obtain rfl := Option.some.inj ((show wordsD[8]? = some (.lit (.string ⟨#[]⟩)) from rfl).symm.trans hd)
    simp only [memOf, e, Option.getD_some]; exact ⟨trivial, .lit _ rfl⟩
  | 9, _ =>
    have e : W.cell? ⟨1, 9, none⟩ = some (.int .i64 0) := w2.2.1
    obtain rfl := Option.some.inj ((show wordsD[9]? = some (.lit (.int .i64 0)) from rfl).symm.trans hd)
    simp only [memOf, e, Option.getD_some]; exact ⟨trivial, .lit _ rfl⟩
  | 10, _ =>
    have e : W.cell? ⟨1, 10, none⟩ = some (.int .i64 0) := w2.2.2.1
    obtain rfl := Option.some.inj ((show wordsD[10]? = some (.lit (.int .i64 0)) from rfl).symm.trans hd)
    simp only [memOf, e, Option.getD_some]; exact ⟨trivial, .lit _ rfl⟩
  | 11, _ =>
    have e : W.cell? ⟨1, 11, none⟩ = some (.int .i64 0) := w2.2.2.2
    obtain rfl := Option.some.inj ((show wordsD[11]? = some (.lit (.int .i64 0)) from rfl).symm.trans hd)
    simp only [memOf, e, Option.getD_some]; exact ⟨trivial, .lit _ rfl⟩
  | 12, _ =>
    have e : W.cell? ⟨1, 12, none⟩ = some (.string ⟨#[110, 101, 103]⟩) := w3.1
    obtain rfl := Option.some.inj ((show wordsD[12]? = some (.lit (.string ⟨#[110, 101, 103]⟩)) from rfl).symm.trans hd)
    simp only [memOf, e, Option.getD_some]; exact ⟨trivial, .lit _ rfl⟩
  | 13, _ =>
    have e : W.cell? ⟨1, 13, none⟩ = some (.int .i64 1) := w3.2.1
    obtain rfl := Option.some.inj ((show wordsD[13]? = some (.lit (.int .i64 1)) from rfl).symm.trans hd)
    simp only [memOf, e, Option.getD_some]; exact ⟨trivial, .lit _ rfl⟩
  | 14, _ =>
    have e : W.cell? ⟨1, 14, none⟩ = some (.int .i64 1) := w3.2.2.1
    obtain rfl := Option.some.inj ((show wordsD[14]? = some (.lit (.int .i64 1)) from rfl).symm.trans hd)
    simp only [memOf, e, Option.getD_some]; exact ⟨trivial, .lit _ rfl⟩
  | 15, _ =>
    have e : W.cell? ⟨1, 15, none⟩ = some (.int .i64 1) := w3.2.2.2
    obtain rfl := Option.some.inj ((show wordsD[15]? = some (.lit (.int .i64 1)) from rfl).symm.trans hd)
    simp only [memOf, e, Option.getD_some]; exact ⟨trivial, .lit _ rfl⟩
  | 16, _ =>
    have e : W.cell? ⟨1, 16, none⟩ = some (.string ⟨#[110, 111, 116]⟩) := w4.1
    obtain rfl := Option.some.inj ((show wordsD[16]? = some (.lit (.string ⟨#[110, 111, 116]⟩)) from rfl).symm.trans hd)
    simp only [memOf, e, Option.getD_some]; exact ⟨trivial, .lit _ rfl⟩
  | 17, _ =>
    have e : W.cell? ⟨1, 17, none⟩ = some (.int .i64 1) := w4.2.1
    obtain rfl := Option.some.inj ((show wordsD[17]? = some (.lit (.int .i64 1)) from rfl).symm.trans hd)
    simp only [memOf, e, Option.getD_some]; exact ⟨trivial, .lit _ rfl⟩
  | 18, _ =>
    have e : W.cell? ⟨1, 18, none⟩ = some (.int .i64 2) := w4.2.2.1
    obtain rfl := Option.some.inj ((show wordsD[18]? = some (.lit (.int .i64 2)) from rfl).symm.trans hd)
    simp only [memOf, e, Option.getD_some]; exact ⟨trivial, .lit _ rfl⟩
  | 19, _ =>
    have e : W.cell? ⟨1, 19, none⟩ = some (.int .i64 2) := w4.2.2.2
    obtain rfl := Option.some.inj ((show wordsD[19]? = some (.lit (.int .i64 2)) from rfl).symm.trans hd)
    simp only [memOf, e, Option.getD_some]; exact ⟨trivial, .lit _ rfl⟩
  | 20, _ =>
    have e : W.cell? ⟨1, 20, none⟩ = some (.string ⟨#[97, 100, 100]⟩) := w5.1
    obtain rfl := Option.some.inj ((show wordsD[20]? = some (.lit (.string ⟨#[97, 100, 100]⟩)) from rfl).symm.trans hd)
    simp only [memOf, e, Option.getD_some]; exact ⟨trivial, .lit _ rfl⟩
  | 21, _ =>
    have e : W.cell? ⟨1, 21, none⟩ = some (.int .i64 2) := w5.2.1
    obtain rfl := Option.some.inj ((show wordsD[21]? = some (.lit (.int .i64 2)) from rfl).symm.trans hd)
    simp only [memOf, e, Option.getD_some]; exact ⟨trivial, .lit _ rfl⟩
  | 22, _ =>
    have e : W.cell? ⟨1, 22, none⟩ = some (.int .i64 1) := w5.2.2.1
    obtain rfl := Option.some.inj ((show wordsD[22]? = some (.lit (.int .i64 1)) from rfl).symm.trans hd)
    simp only [memOf, e, Option.getD_some]; exact ⟨trivial, .lit _ rfl⟩
  | 23, _ =>
    have e : W.cell? ⟨1, 23, none⟩ = some (.int .i64 1) := w5.2.2.2
    obtain rfl := Option.some.inj ((show wordsD[23]? = some (.lit (.int .i64 1)) from rfl).symm.trans hd)
    simp only [memOf, e, Option.getD_some]; exact ⟨trivial, .lit _ rfl⟩
  | 24, _ =>
    have e : W.cell? ⟨1, 24, none⟩ = some (.string ⟨#[115, 117, 98]⟩) := w6.1
    obtain rfl := Option.some.inj ((show wordsD[24]? = some (.lit (.string ⟨#[115, 117, 98]⟩)) from rfl).symm.trans hd)
    simp only [memOf, e, Option.getD_some]; exact ⟨trivial, .lit _ rfl⟩
  | 25, _ =>
    have e : W.cell? ⟨1, 25, none⟩ = some (.int .i64 2) := w6.2.1
    obtain rfl := Option.some.inj ((show wordsD[25]? = some (.lit (.int .i64 2)) from rfl).symm.trans hd)
    simp only [memOf, e, Option.getD_some]; exact ⟨trivial, .lit _ rfl⟩
  | 26, _ =>
    have e : W.cell? ⟨1, 26, none⟩ = some (.int .i64 1) := w6.2.2.1
    obtain rfl := Option.some.inj ((show wordsD[26]? = some (.lit (.int .i64 1)) from rfl).symm.trans hd)
    simp only [memOf, e, Option.getD_some]; exact ⟨trivial, .lit _ rfl⟩
  | 27, _ =>
    have e : W.cell? ⟨1, 27, none⟩ = some (.int .i64 1) := w6.2.2.2
    obtain rfl := Option.some.inj ((show wordsD[27]? = some (.lit (.int .i64 1)) from rfl).symm.trans hd)
    simp only [memOf, e, Option.getD_some]; exact ⟨trivial, .lit _ rfl⟩
  | 28, _ =>
    have e : W.cell? ⟨1, 28, none⟩ = some (.string ⟨#[109, 117, 108]⟩) := w7.1
    obtain rfl := Option.some.inj ((show wordsD[28]? = some (.lit (.string ⟨#[109, 117, 108]⟩)) from rfl).symm.trans hd)
    simp only [memOf, e, Option.getD_some]; exact ⟨trivial, .lit _ rfl⟩
  | 29, _ =>
    have e : W.cell? ⟨1, 29, none⟩ = some (.int .i64 2) := w7.2.1
    obtain rfl := Option.some.inj ((show wordsD[29]? = some (.lit (.int .i64 2)) from rfl).symm.trans hd)
    simp only [memOf, e, Option.getD_some]; exact ⟨trivial, .lit _ rfl⟩
  | 30, _ =>
    have e : W.cell? ⟨1, 30, none⟩ = some (.int .i64 1) := w7.2.2.1
    obtain rfl := Option.some.inj ((show wordsD[30]? = some (.lit (.int .i64 1)) from rfl).symm.trans hd)
    simp only [memOf, e, Option.getD_some]; exact ⟨trivial, .lit _ rfl⟩
  | 31, _ =>
    have e : W.cell? ⟨1, 31, none⟩ = some (.int .i64 1) := w7.2.2.2
    obtain rfl := Option.some.inj ((show wordsD[31]? = some (.lit (.int .i64 1)) from rfl).symm.trans hd)
    simp only [memOf, e, Option.getD_some]; exact ⟨trivial, .lit _ rfl⟩
  | 32, _ =>
    have e : W.cell? ⟨1, 32, none⟩ = some (.string ⟨#[100, 105, 118]⟩) := w8.1
    obtain rfl := Option.some.inj ((show wordsD[32]? = some (.lit (.string ⟨#[100, 105, 118]⟩)) from rfl).symm.trans hd)
    simp only [memOf, e, Option.getD_some]; exact ⟨trivial, .lit _ rfl⟩
  | 33, _ =>
    have e : W.cell? ⟨1, 33, none⟩ = some (.int .i64 2) := w8.2.1
    obtain rfl := Option.some.inj ((show wordsD[33]? = some (.lit (.int .i64 2)) from rfl).symm.trans hd)
    simp only [memOf, e, Option.getD_some]; exact ⟨trivial, .lit _ rfl⟩
  | 34, _ =>
    have e : W.cell? ⟨1, 34, none⟩ = some (.int .i64 1) := w8.2.2.1
    obtain rfl := Option.some.inj ((show wordsD[34]? = some (.lit (.int .i64 1)) from rfl).symm.trans hd)
    simp only [memOf, e, Option.getD_some]; exact ⟨trivial, .lit _ rfl⟩
  | 35, _ =>
    have e : W.cell? ⟨1, 35, none⟩ = some (.int .i64 1) := w8.2.2.2
    obtain rfl := Option.some.inj ((show wordsD[35]? = some (.lit (.int .i64 1)) from rfl).symm.trans hd)
    simp only [memOf, e, Option.getD_some]; exact ⟨trivial, .lit _ rfl⟩
  | 36, _ =>
    have e : W.cell? ⟨1, 36, none⟩ = some (.string ⟨#[109, 111, 100]⟩) := w9.1
    obtain rfl := Option.some.inj ((show wordsD[36]? = some (.lit (.string ⟨#[109, 111, 100]⟩)) from rfl).symm.trans hd)
    simp only [memOf, e, Option.getD_some]; exact ⟨trivial, .lit _ rfl⟩
  | 37, _ =>
    have e : W.cell? ⟨1, 37, none⟩ = some (.int .i64 2) := w9.2.1
    obtain rfl := Option.some.inj ((show wordsD[37]? = some (.lit (.int .i64 2)) from rfl).symm.trans hd)
    simp only [memOf, e, Option.getD_some]; exact ⟨trivial, .lit _ rfl⟩
  | 38, _ =>
    have e : W.cell? ⟨1, 38, none⟩ = some (.int .i64 1) := w9.2.2.1
    obtain rfl := Option.some.inj ((show wordsD[38]? = some (.lit (.int .i64 1)) from rfl).symm.trans hd)
    simp only [memOf, e, Option.getD_some]; exact ⟨trivial, .lit _ rfl⟩
  | 39, _ =>
    have e : W.cell? ⟨1, 39, none⟩ = some (.int .i64 1) := w9.2.2.2
    obtain rfl := Option.some.inj ((show wordsD[39]? = some (.lit (.int .i64 1)) from rfl).symm.trans hd)
    simp only [memOf, e, Option.getD_some]; exact ⟨trivial, .lit _ rfl⟩
  | 40, _ =>
    have e : W.cell? ⟨1, 40, none⟩ = some (.string ⟨#[101, 113]⟩) := w10.1
    obtain rfl := Option.some.inj ((show wordsD[40]? = some (.lit (.string ⟨#[101, 113]⟩)) from rfl).symm.trans hd)
    simp only [memOf, e, Option.getD_some]; exact ⟨trivial, .lit _ rfl⟩
  | 41, _ =>
    have e : W.cell? ⟨1, 41, none⟩ = some (.int .i64 2) := w10.2.1
    obtain rfl := Option.some.inj ((show wordsD[41]? = some (.lit (.int .i64 2)) from rfl).symm.trans hd)
    simp only [memOf, e, Option.getD_some]; exact ⟨trivial, .lit _ rfl⟩
  | 42, _ =>
    have e : W.cell? ⟨1, 42, none⟩ = some (.int .i64 1) := w10.2.2.1
    obtain rfl := Option.some.inj ((show wordsD[42]? = some (.lit (.int .i64 1)) from rfl).symm.trans hd)
    simp only [memOf, e, Option.getD_some]; exact ⟨trivial, .lit _ rfl⟩
  | 43, _ =>
    have e : W.cell? ⟨1, 43, none⟩ = some (.int .i64 2) := w10.2.2.2
    obtain rfl := Option.some.inj ((show wordsD[43]? = some (.lit (.int .i64 2)) from rfl).symm.trans hd)
    simp only [memOf, e, Option.getD_some]; exact ⟨trivial, .lit _ rfl⟩
  | 44, _ =>
    have e : W.cell? ⟨1, 44, none⟩ = some (.string ⟨#[108, 116]⟩) := w11.1
    obtain rfl := Option.some.inj ((show wordsD[44]? = some (.lit (.string ⟨#[108, 116]⟩)) from rfl).symm.trans hd)
    simp only [memOf, e, Option.getD_some]; exact ⟨trivial, .lit _ rfl⟩
  | 45, _ =>
    have e : W.cell? ⟨1, 45, none⟩ = some (.int .i64 2) := w11.2.1
    obtain rfl := Option.some.inj ((show wordsD[45]? = some (.lit (.int .i64 2)) from rfl).symm.trans hd)
    simp only [memOf, e, Option.getD_some]; exact ⟨trivial, .lit _ rfl⟩
  | 46, _ =>
    have e : W.cell? ⟨1, 46, none⟩ = some (.int .i64 1) := w11.2.2.1
    obtain rfl := Option.some.inj ((show wordsD[46]? = some (.lit (.int .i64 1)) from rfl).symm.trans hd)
    simp only [memOf, e, Option.getD_some]; exact ⟨trivial, .lit _ rfl⟩
  | 47, _ =>
    have e : W.cell? ⟨1, 47, none⟩ = some (.int .i64 2) := w11.2.2.2
    obtain rfl := Option.some.inj ((show wordsD[47]? = some (.lit (.int .i64 2)) from rfl).symm.trans hd)
    simp only [memOf, e, Option.getD_some]; exact ⟨trivial, .lit _ rfl⟩
  | 48, _ =>
    have e : W.cell? ⟨1, 48, none⟩ = some (.string ⟨#[108, 101]⟩) := w12.1
    obtain rfl := Option.some.inj ((show wordsD[48]? = some (.lit (.string ⟨#[108, 101]⟩)) from rfl).symm.trans hd)
    simp only [memOf, e, Option.getD_some]; exact ⟨trivial, .lit _ rfl⟩
  | 49, _ =>
    have e : W.cell? ⟨1, 49, none⟩ = some (.int .i64 2) := w12.2.1
    obtain rfl := Option.some.inj ((show wordsD[49]? = some (.lit (.int .i64 2)) from rfl).symm.trans hd)
    simp only [memOf, e, Option.getD_some]; exact ⟨trivial, .lit _ rfl⟩
  | 50, _ =>
    have e : W.cell? ⟨1, 50, none⟩ = some (.int .i64 1) := w12.2.2.1
    obtain rfl := Option.some.inj ((show wordsD[50]? = some (.lit (.int .i64 1)) from rfl).symm.trans hd)
    simp only [memOf, e, Option.getD_some]; exact ⟨trivial, .lit _ rfl⟩
  | 51, _ =>
    have e : W.cell? ⟨1, 51, none⟩ = some (.int .i64 2) := w12.2.2.2
    obtain rfl := Option.some.inj ((show wordsD[51]? = some (.lit (.int .i64 2)) from rfl).symm.trans hd)
    simp only [memOf, e, Option.getD_some]; exact ⟨trivial, .lit _ rfl⟩
  | 52, _ =>
    have e : W.cell? ⟨1, 52, none⟩ = some (.string ⟨#[97, 110, 100]⟩) := w13.1
    obtain rfl := Option.some.inj ((show wordsD[52]? = some (.lit (.string ⟨#[97, 110, 100]⟩)) from rfl).symm.trans hd)
    simp only [memOf, e, Option.getD_some]; exact ⟨trivial, .lit _ rfl⟩
  | 53, _ =>
    have e : W.cell? ⟨1, 53, none⟩ = some (.int .i64 2) := w13.2.1
    obtain rfl := Option.some.inj ((show wordsD[53]? = some (.lit (.int .i64 2)) from rfl).symm.trans hd)
    simp only [memOf, e, Option.getD_some]; exact ⟨trivial, .lit _ rfl⟩
  | 54, _ =>
    have e : W.cell? ⟨1, 54, none⟩ = some (.int .i64 2) := w13.2.2.1
    obtain rfl := Option.some.inj ((show wordsD[54]? = some (.lit (.int .i64 2)) from rfl).symm.trans hd)
    simp only [memOf, e, Option.getD_some]; exact ⟨trivial, .lit _ rfl⟩
  | 55, _ =>
    have e : W.cell? ⟨1, 55, none⟩ = some (.int .i64 2) := w13.2.2.2
    obtain rfl := Option.some.inj ((show wordsD[55]? = some (.lit (.int .i64 2)) from rfl).symm.trans hd)
    simp only [memOf, e, Option.getD_some]; exact ⟨trivial, .lit _ rfl⟩
  | 56, _ =>
    have e : W.cell? ⟨1, 56, none⟩ = some (.string ⟨#[111, 114]⟩) := w14.1
    obtain rfl := Option.some.inj ((show wordsD[56]? = some (.lit (.string ⟨#[111, 114]⟩)) from rfl).symm.trans hd)
    simp only [memOf, e, Option.getD_some]; exact ⟨trivial, .lit _ rfl⟩
  | 57, _ =>
    have e : W.cell? ⟨1, 57, none⟩ = some (.int .i64 2) := w14.2.1
    obtain rfl := Option.some.inj ((show wordsD[57]? = some (.lit (.int .i64 2)) from rfl).symm.trans hd)
    simp only [memOf, e, Option.getD_some]; exact ⟨trivial, .lit _ rfl⟩
  | 58, _ =>
    have e : W.cell? ⟨1, 58, none⟩ = some (.int .i64 2) := w14.2.2.1
    obtain rfl := Option.some.inj ((show wordsD[58]? = some (.lit (.int .i64 2)) from rfl).symm.trans hd)
    simp only [memOf, e, Option.getD_some]; exact ⟨trivial, .lit _ rfl⟩
  | 59, _ =>
    have e : W.cell? ⟨1, 59, none⟩ = some (.int .i64 2) := w14.2.2.2
    obtain rfl := Option.some.inj ((show wordsD[59]? = some (.lit (.int .i64 2)) from rfl).symm.trans hd)
    simp only [memOf, e, Option.getD_some]; exact ⟨trivial, .lit _ rfl⟩
  | k + 60, h => exact absurd h (by omega)

end Go.Proofs.YtgppmcpbphgnnaaDoor
