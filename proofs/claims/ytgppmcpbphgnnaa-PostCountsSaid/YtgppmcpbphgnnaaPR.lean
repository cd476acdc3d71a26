/- The rows' common part: what an argument says as data. No condition. -/
import Derived.Test.YtgppmcpbphgnnaaVxOk
import Derived.Test.YtgppmcpbphgnnaaRows
import Derived.Test.YtgppmcpbphgnnaaP15
import Derived.Test.YtgppmcpbphgnnaaVf
import Derived.ProofKit
import Derived.LaidMore
import Derived.OpenShut
import Derived.Stop.Joined
import Derived.SevenTiedAt
set_option linter.unusedSimpArgs false
set_option linter.unusedVariables false
set_option linter.unusedSectionVars false
namespace Go.Proofs.Ytgppmcpbphgnnaa
open Go Go.Vx
open Go.ChangeShapes Go.WideShapes Go.ChangeAt Go.WideElems Go.RowKit
set_option maxRecDepth 100000

theorem own : ownKnob Try.prog.godebug = none := by kernel_rfl
theorem laidOut : laidOutB Try.prog = true := by kernel_rfl
theorem glob_ok (W : World) : GlobOk cfg (gh0 cfg W) := by
  refine ⟨fun gl cs h => ?_, rfl⟩
  change glT gl = some cs at h
  unfold glT at h
  cases h

section
variable {H : Type} {enc : TypeId × Value → H} {P : Program}
/-- behind a call that turns nothing that was there -/
theorem post_below {f : Func} {s : ChangeSpec} {apart fresh handsOn again : Bool} {W W' : World} {args : Array Value} {v : Value} {ds gs : List (DataW H)} {before pa pv : List MemPlace}
    (hW : DataW.Whole enc P f.params.toList s.vars apart W args.toList ds gs before)
    (hres : ∀ (b : Nat) (sp : Nat → Bool) (hd : Bool), DataW.TrodAll enc P W' b sp hd f.resultTypes.toList (v.resultList f.resultTypes.size) (s.fn H (ds ++ gs)).results [])
    (hargs : ∀ sp : Nat → Bool, (∀ p ∈ before, sp p.block = true) → DataW.TrodAll enc P W' 0 sp true f.params.toList args.toList (s.fn H (ds ++ gs)).args pa)
    (hvars : ∀ sp : Nat → Bool, (∀ p ∈ before, sp p.block = true) → DataW.TrodVars enc P W' sp s.vars (s.fn H (ds ++ gs)).vars pv)
    (hps : before = pa ++ pv) (hb : Below W.heap.size W W')
    (hok : ∀ (j : Nat) (t : TypeId) (r : Value), f.resultTypes[j]? = some t → (v.resultList f.resultTypes.size)[j]? = some r → Value.okWide P W' .any 0 t r) :
    s.post enc P f apart fresh handsOn again W args v W' := by
  have hlt : ∀ p ∈ before, p.block < W.heap.size := fun p hp => hW.lt p hp
  have hold : ∀ p ∈ before, (fun b => decide (b < W.heap.size)) p.block = true := fun p hp => by simpa using hlt p hp
  refine ⟨ds, gs, before, [], pa, pv, hW, hres _ _ _, hargs _ hold, hvars _ hold, World.keptBut_mono (fun p hp => ⟨hp, ?_⟩) (hb.frame (· ∈ before)), fun _ => ?_⟩
  · rw [hps, List.mem_append] at hp
    exact Or.inr hp
  · obtain ⟨_, _, _, _, _, hz, hn⟩ := hW
    refine ⟨hok, _, _, ([] ++ pa) ++ pv, ⟨[] ++ pa, pv, trodAll_append (hargs _ (fun _ _ => rfl)) (hres _ _ _), hvars _ (fun _ _ => rfl), rfl, ?_, ?_⟩, ?_⟩
    · intro b off hp
      have hin : MemPlace.cell b off ∈ before := by rw [hps]; simpa using hp
      rw [hb.frozen (hlt _ hin)]
      exact hz b off hin
    · intro ha
      have := hn ha
      rw [hps] at this
      simpa using this
    · intro p hp _
      rw [hps]
      simpa using hp
end

/-! ### steps as data -/
def stpT : List TypeId := [3, 22, 31]
theorem stpT_ok : closedTi tiT stpT = true := by decide

theorem fit_int {ds : List D} (h : Fit tiT 3 ds) : ∃ n, ds = [dI n] := by
  generalize ht : (3 : TypeId) = t at h
  cases h with
  | int h hk hw => subst ht; obtain rfl := Option.some.inj ((show tiT 3 = some _ from rfl).symm.trans h); cases hk; exact ⟨_, rfl⟩
  | bool h hk => subst ht; obtain rfl := Option.some.inj ((show tiT 3 = some _ from rfl).symm.trans h); cases hk
  | str h hk hw => subst ht; obtain rfl := Option.some.inj ((show tiT 3 = some _ from rfl).symm.trans h); cases hk
  | nil h hk => subst ht; obtain rfl := Option.some.inj ((show tiT 3 = some _ from rfl).symm.trans h); cases hk
  | sl h hk _ _ _ => subst ht; obtain rfl := Option.some.inj ((show tiT 3 = some _ from rfl).symm.trans h); cases hk
  | struct h hk _ _ => subst ht; obtain rfl := Option.some.inj ((show tiT 3 = some _ from rfl).symm.trans h); cases hk

theorem fit_step {ds : List D} (h : Fit tiT 31 ds) : ∃ s : Stp3, ds = srow s := by
  generalize ht : (31 : TypeId) = t at h
  cases h with
  | int h hk hw => subst ht; obtain rfl := Option.some.inj ((show tiT 31 = some _ from rfl).symm.trans h); cases hk
  | bool h hk => subst ht; obtain rfl := Option.some.inj ((show tiT 31 = some _ from rfl).symm.trans h); cases hk
  | str h hk hw => subst ht; obtain rfl := Option.some.inj ((show tiT 31 = some _ from rfl).symm.trans h); cases hk
  | nil h hk => subst ht; obtain rfl := Option.some.inj ((show tiT 31 = some _ from rfl).symm.trans h); cases hk
  | sl h hk _ _ _ => subst ht; obtain rfl := Option.some.inj ((show tiT 31 = some _ from rfl).symm.trans h); cases hk
  | struct h hk hl hf =>
    subst ht
    obtain rfl := Option.some.inj ((show tiT 31 = some _ from rfl).symm.trans h)
    cases hk
    have hl' : ds.length = 3 := hl
    match ds, hl' with
    | [d0, d1, d2], _ =>
      obtain ⟨n0, e0⟩ := fit_int (hf (0, 3) (by simp) _ rfl)
      obtain ⟨n1, e1⟩ := fit_int (hf (1, 3) (by simp) _ rfl)
      obtain ⟨n2, e2⟩ := fit_int (hf (2, 3) (by simp) _ rfl)
      simp at e0 e1 e2
      subst e0; subst e1; subst e2
      exact ⟨(n0, n1, n2), rfl⟩

theorem fit_rows : ∀ {rws : List (List D)}, (∀ r ∈ rws, Fit tiT 31 r) → ∃ ss : List Stp3, rws = srows ss
  | [], _ => ⟨[], rfl⟩
  | r :: rws, h => by
    obtain ⟨s, rfl⟩ := fit_step (h r (List.mem_cons_self ..))
    obtain ⟨ss, rfl⟩ := fit_rows fun r hr => h r (List.mem_cons_of_mem _ hr)
    exact ⟨s :: ss, rfl⟩

theorem fit_steps {ds : List D} (h : Fit tiT 22 ds) : ∃ (K : D) (ss : List Stp3), ds = [K] ∧ IsS 3 (srows ss) K ∧ (srows ss).length < 9223372036854775808 := by
  generalize ht : (22 : TypeId) = t at h
  cases h with
  | int h hk hw => subst ht; obtain rfl := Option.some.inj ((show tiT 22 = some _ from rfl).symm.trans h); cases hk
  | bool h hk => subst ht; obtain rfl := Option.some.inj ((show tiT 22 = some _ from rfl).symm.trans h); cases hk
  | str h hk hw => subst ht; obtain rfl := Option.some.inj ((show tiT 22 = some _ from rfl).symm.trans h); cases hk
  | struct h hk _ _ => subst ht; obtain rfl := Option.some.inj ((show tiT 22 = some _ from rfl).symm.trans h); cases hk
  | nil h hk => exact ⟨_, [], rfl, isS_nil 3, by simp [srows]⟩
  | sl h hk hj hl hr =>
    subst ht
    obtain rfl := Option.some.inj ((show tiT 22 = some _ from rfl).symm.trans h)
    cases hk
    obtain rfl := Option.some.inj ((show tiT 31 = some _ from rfl).symm.trans hj)
    obtain ⟨ss, rfl⟩ := fit_rows hr
    exact ⟨_, ss, rfl, isS_sl 3 (srows ss), by unfold maxLen at hl; omega⟩

section
variable {H : Type} {enc : TypeId × Value → H} {W : World} {v : Value} {d : DataW H} {p : List MemPlace}
theorem relDs_single {m : Addr → Option Value} {x : D} {cs : List Value} (h : RelDs m [x] cs) : ∃ u, cs = [u] ∧ RelD m x u := by
  obtain ⟨h1, h2⟩ := h
  match cs, h1 with
  | [u], _ => exact ⟨u, rfl, h2 0 x u rfl rfl⟩
/-- an argument that is a list of steps -/
theorem arg_steps {base : Nat} (ho : Value.okWide Try.prog W .any base 22 v) (h : DataW.Trod enc Try.prog W 0 (fun _ => true) true 22 v d p) : ∃ (K : D) (ss : List Stp3), RelA (gh0 cfg W) (.dat K) v ∧ IsS 3 (srows ss) K ∧ (srows ss).length < 9223372036854775808 := by
  obtain ⟨a, len, cap, rfl⟩ := okWide_slice Try.underlying22 ho
  obtain ⟨fuel, hf⟩ := h
  obtain ⟨D, hfit, hrel⟩ := trod_fit ti_ok stpT_ok fuel 22 _ _ (by decide) hf
  obtain ⟨K, ss, rfl, h1, h2⟩ := fit_steps hfit
  obtain ⟨u, hu, hr⟩ := relDs_single hrel
  have hv : Value.slice a len cap = u := by simpa [Value.cells] using hu
  subst hv
  exact ⟨K, ss, relA_dat hr, h1, h2⟩
/-- an argument that is an int -/
theorem arg_int {base : Nat} (ho : Value.okWide Try.prog W .any base 3 v) : ∃ n : Int, RelA (gh0 cfg W) (I n) v := by
  obtain ⟨n, rfl⟩ := okWide_int Try.underlying3 ho
  exact ⟨n, rfl⟩
/-- an argument that is a step -/
theorem arg_step {base : Nat} (ho : Value.okWide Try.prog W .any base 31 v) (h : DataW.Trod enc Try.prog W 0 (fun _ => true) true 31 v d p) : ∃ s : Stp3, RelA (gh0 cfg W) (.agg [I s.1, I s.2.1, I s.2.2]) v := by
  obtain ⟨cs, rfl, _⟩ := okWide_struct Try.underlying31 ho
  obtain ⟨fuel, hf⟩ := h
  obtain ⟨D, hfit, hrel⟩ := trod_fit ti_ok stpT_ok fuel 31 _ _ (by decide) hf
  obtain ⟨s, rfl⟩ := fit_step hfit
  exact ⟨s, relA_agg hrel⟩
end
end Go.Proofs.Ytgppmcpbphgnnaa
