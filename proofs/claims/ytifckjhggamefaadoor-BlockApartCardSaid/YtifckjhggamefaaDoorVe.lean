/- The abstract interpreter of the model's code, and its soundness: a part. No condition. -/
import Derived.Test.YtifckjhggamefaaDoorVd
import Derived.Orders
set_option linter.unusedSimpArgs false
set_option linter.unusedVariables false
set_option linter.unusedSectionVars false
namespace Go.Vx
open Go Go.RowKit

section
variable {P : Program} {cfg : Cfg} {base : Nat} {w0 w : World} {g : Gh} {d : Nat} {s : St} {vals : Array Value} {o : Oper} {a : Act}

def Gh.cutBlk (g : Gh) (k : Nat) : Gh := { g with blk := g.blk.take k }

theorem cutBlk_get {k l : Nat} (h : l < k) : (g.cutBlk k).blk[l]? = g.blk[l]? := by
  simp only [Gh.cutBlk]; exact List.getElem?_take_of_lt h

theorem RelC.cut {k : Nat} {c : PV} {u : Value} (hp : ptrLt k c) (h : RelC g c u) : RelC (g.cutBlk k) c u := by
  cases c with
  | mp V es => first | exact hr.elim | exact h.elim | exact hr.1.elim | exact h.1.elim | exact trivial | rfl | assumption
  | dat x => cases x <;> exact h
  | ptr l off => obtain ⟨b, h1, h2⟩ := h; exact ⟨b, by rw [cutBlk_get hp]; exact h1, h2⟩
  | clo f cap =>
    obtain ⟨us, h1, h2, h3⟩ := h
    refine ⟨us, h1, h2, fun j l hl => ?_⟩
    obtain ⟨b, h4, h5⟩ := h3 j l hl
    exact ⟨b, by rw [cutBlk_get (hp l (List.mem_of_getElem? hl))]; exact h4, h5⟩
  | iptr => exact h
  | dead => exact trivial
  | own => exact h.elim
  | agg => exact h.elim
  | tup => exact h.elim
  | «alias» => exact h.elim
  | eptr => exact h.elim
  | tnil => exact h.elim
  | home => exact h.elim
  | siter => exact h.elim

theorem RelC.lt {c : PV} {u : Value} (h : RelC g c u) : ptrLt g.blk.length c := by
  cases c with
  | ptr l off => obtain ⟨b, h1, _⟩ := h; exact (List.getElem?_eq_some_iff.1 h1).1
  | clo f cap =>
    obtain ⟨us, _, _, h3⟩ := h
    intro l hl
    obtain ⟨j, hj⟩ := List.getElem?_of_mem hl
    obtain ⟨b, h4, _⟩ := h3 j l hj
    exact (List.getElem?_eq_some_iff.1 h4).1
  | _ => exact trivial

theorem RelB.lt {b j : Nat} {c : PV} {u : Value} (h : RelB w g b j c u) : ptrLt g.blk.length c := by
  cases c with
  | ptr l off => exact RelC.lt h
  | clo f cap => exact RelC.lt h
  | _ => exact trivial

theorem BoxRel.lt {b : Nat} {bx : Box} (h : BoxRel w g b bx) : ∀ c ∈ bx, ptrLt g.blk.length c := by
  obtain ⟨_, _, cs, T, _, h4, h5⟩ := h
  intro c hc
  obtain ⟨j, hj⟩ := List.getElem?_of_mem hc
  have hlt : j < cs.size := by rw [h4]; exact (List.getElem?_eq_some_iff.1 hj).1
  exact (h5 j c _ hj (Array.getElem?_eq_getElem hlt)).lt

theorem BoxRel.cut {k b : Nat} {bx : Box} (hp : ∀ c ∈ bx, ptrLt k c) (h : BoxRel w g b bx) : BoxRel w (g.cutBlk k) b bx := by
  obtain ⟨h1, h2, cs, T, h3, h4, h5⟩ := h
  refine ⟨h1, h2, cs, T, h3, h4, fun j c u hc hu => ?_⟩
  have h := h5 j c u hc hu
  have hpc := hp c (List.mem_of_getElem? hc)
  cases c with
  | mp V es => first | exact hr.elim | exact h.elim | exact hr.1.elim | exact h.1.elim | exact trivial | rfl | assumption
  | own ex k xs => exact h
  | agg => exact h.elim
  | tup => exact h.elim
  | «alias» => exact h.elim
  | eptr => exact h.elim
  | tnil => exact h
  | home => exact h
  | siter => exact h.elim
  | dat _ => exact RelC.cut hpc h
  | ptr _ _ => exact RelC.cut hpc h
  | iptr _ _ => exact RelC.cut hpc h
  | clo _ _ => exact RelC.cut hpc h
  | dead => exact trivial

/-- every pointer in it leads below k -/
def allLt (k : Nat) : PV → Prop
  | .agg cs => ∀ c ∈ cs, ptrLt k c
  | c => ptrLt k c

theorem RelR.cut {k : Nat} {ow : Owner} {c : PV} {u : Value} (hp : allLt k c) (h : RelR w g ow c u) : RelR w (g.cutBlk k) ow c u := by
  cases c with
  | mp V es => first | exact hr.elim | exact h.elim | exact hr.1.elim | exact h.1.elim | exact trivial | rfl | assumption
  | own ex k xs => exact h
  | agg cs => obtain ⟨us, h1, h2, h3⟩ := h; exact ⟨us, h1, h2, fun j c v hc hv => (h3 j c v hc hv).cut (hp c (List.mem_of_getElem? hc))⟩
  | dat x => exact RelC.cut (c := .dat x) hp h
  | ptr x y => exact RelC.cut (c := .ptr x y) hp h
  | iptr x y => exact RelC.cut (c := .iptr x y) hp h
  | clo x y => exact RelC.cut (c := .clo x y) hp h
  | dead => exact trivial
  | tup => exact h.elim
  | «alias» => exact h.elim
  | eptr => exact h.elim
  | tnil => exact h.elim
  | home => exact h.elim
  | siter => exact h

theorem RelR.allLt {ow : Owner} {c : PV} {u : Value} (h : RelR w g ow c u) : allLt g.blk.length c := by
  cases c with
  | agg cs =>
    obtain ⟨us, h1, h2, h3⟩ := h
    intro c hc
    obtain ⟨j, hj⟩ := List.getElem?_of_mem hc
    have hlt : j < us.length := by rw [h2]; exact (List.getElem?_eq_some_iff.1 hj).1
    exact (h3 j c _ hj (List.getElem?_eq_getElem hlt)).lt
  | ptr x y => exact RelC.lt (c := .ptr x y) h
  | clo x y => exact RelC.lt (c := .clo x y) h
  | _ => exact trivial

theorem ret_core (hi : Inv base w0 w g d s vals) {st0 s' s2 : St} {w' : World} {g' : Gh} {vals' : Array Value} (hi' : Inv base w0 w' g' (d + 1) s' vals') (hst : Stp (d + 1) st0 s' w w' g g')
    (hb0 : st0.bx = s.bx) (hn0 : st0.nb = s.bx.length) {k : Nat} (hk1 : s.bx.length ≤ k) (hk2 : k ≤ s'.bx.length) (hp : ∀ (l : Nat) bx, l < k → s'.bx[l]? = some bx → ∀ c ∈ bx, ptrLt k c)
    (e1 : s2.nb = s.nb) (e2 : s2.bx = s'.bx.take k) (e3 : s2.ts = noAlias s.ts ∨ (s2.ts = s.ts ∧ ∀ l, l < s.bx.length → below l s'.lo))
    (e4 : ∀ l, l < s.nb → below l s2.lo → below l s'.lo) (e5 : ∀ l, below l s2.lo → below l s.lo) (e6 : s.kp = true → s2.kp = true) (e7 : s2.kp = false → s'.kp = false)
    {f : Owner → Option Owner} (hfb : f .box = some .box) (hfc : ∀ b off, f (.cell b off) = some (.cell b off)) (hft : ∀ d' i j, d' < d ∨ (d' = d ∧ i < s.ts.length) → f (.tmp d' i j) = some (.tmp d' i j))
    (hfd : ∀ o' d' i j, f o' = some (.tmp d' i j) → d' ≤ d) :
    Inv base w0 w' ((g'.relab f).cutBlk k) d s2 vals ∧ Stp d s s2 w w' g ((g'.relab f).cutBlk k) := by
  have hbl : g.blk.length = s.bx.length := hi.blen
  have hgr : Grows g ((g'.relab f).cutBlk k) := ⟨hst.gr.m, fun l b h => by
    have hl : l < s.bx.length := by rw [← hbl]; exact (List.getElem?_eq_some_iff.1 h).1
    rw [cutBlk_get (Nat.lt_of_lt_of_le hl hk1)]
    exact hst.gr.blk l b h, hst.gr.bt⟩
  have hkept : ∀ b o', g.own b = some o' → f o' = some o' → Kept w w' g g' b → Kept w w' g ((g'.relab f).cutBlk k) b := by
    intro b o' h1 h2 h3
    refine ⟨h3.1, ?_, h3.2.2⟩
    have : g'.own b = some o' := by rw [h3.2.1]; exact h1
    simp only [Gh.cutBlk, Gh.relab, this, Option.bind_some, h2, h1]
  have hkt : ∀ b d' i j, g.own b = some (.tmp d' i j) → (d' < d ∨ (d' = d ∧ i < s.ts.length)) → Kept w w' g ((g'.relab f).cutBlk k) b := by
    intro b d' i j h1 h2
    exact hkept b _ h1 (hft d' i j h2) (hst.tmps b d' i j h1 (by omega))
  have htl : s2.ts.length = s.ts.length := by
    rcases e3 with e3 | e3
    · rw [e3]; simp [noAlias]
    · rw [e3.1]
  have hcell : ∀ l, l < s.bx.length → below l s'.lo → ∀ b, g.blk[l]? = some b → ∀ off, w'.cell? ⟨b, off, none⟩ = w.cell? ⟨b, off, none⟩ := by
    intro l hl hlo b hb off
    obtain ⟨_, h2⟩ := hst.old l (by rw [hn0]; exact hl) hlo
    exact World.cell?_of_block (w := w) ((h2 b hb).1.1)
  have hslot : ∀ (i : Nat) c, s2.ts[i]? = some c → ∃ c0, s.ts[i]? = some c0 ∧ (c = .dead ∨ (c = c0 ∧ ∀ p, aliasOf c = some p → (∃ i, p = .tmp i) ∨ ∀ l, l < s.bx.length → below l s'.lo)) := by
    intro i c hc
    rcases e3 with e3 | e3
    · rw [e3] at hc
      simp only [noAlias, List.getElem?_map] at hc
      cases h0 : s.ts[i]? with
      | none => rw [h0] at hc; cases hc
      | some c0 =>
        rw [h0] at hc
        obtain rfl := Option.some.inj hc
        refine ⟨c0, rfl, ?_⟩
        cases ha : aliasOf c0 with
        | none => exact .inr ⟨PV.strip_of ha, fun p hp => by rw [PV.strip_of ha, ha] at hp; cases hp⟩
        | some p =>
          cases p with
          | tmp i' => exact .inr ⟨strip_false ha rfl, fun p hp => by rw [strip_false ha rfl, ha] at hp; cases hp; exact .inl ⟨i', rfl⟩⟩
          | cell l off => exact .inl (strip_true ha rfl)
    · rw [e3.1] at hc
      exact ⟨c, hc, .inr ⟨rfl, fun p _ => .inr e3.2⟩⟩
  refine ⟨⟨hi'.low, hi.hb, hi'.mem, fun b o' h => ?_, fun b o' h => ?_, fun b d' i j h => ?_, ?_, ?_, ?_, fun l b bx h1 h2 => ?_, by rw [htl]; exact hi.tl, fun i c v h1 h2 => ?_, fun i c p h1 h2 => ?_⟩, ⟨hgr, e1, ?_, fun b d' i j h hd => hkt b d' i j h (.inl hd), e5, fun l hl hlo => ?_, e6, fun hkp n l bx bx' hl h1 h2 h3 => ?_⟩⟩
  · obtain ⟨o'', h1, _⟩ := relab_own (g := g') (f := f) h; exact hi'.own_ge b o'' h1
  · obtain ⟨o'', h1, _⟩ := relab_own (g := g') (f := f) h; exact hi'.own_lt b o'' h1
  · obtain ⟨o'', h1, h2⟩ := relab_own (g := g') (f := f) h; exact hfd o'' d' i j h2
  · rw [e2, List.length_take]; simp only [Gh.cutBlk, Gh.relab, List.length_take, hi'.blen]
  · exact hi'.nodup.sublist (List.take_sublist ..)
  · rw [e1, e2, List.length_take]
    have := hi.nbl
    omega
  · rw [e2] at h2
    have hl : l < k := by
      have := (List.getElem?_eq_some_iff.1 h2).1
      rw [List.length_take] at this; omega
    rw [cutBlk_get hl] at h1
    rw [List.getElem?_take_of_lt hl] at h2
    exact BoxRel.cut (hp l bx hl h2) ((hi'.boxes l b bx h1 h2).relab hfb (hfc b))
  · obtain ⟨c0, h3, h4⟩ := hslot i c h1
    rcases h4 with h4 | ⟨h4, h5⟩
    · subst h4; exact trivial
    · subst h4
      have hil : i < s.ts.length := (List.getElem?_eq_some_iff.1 h3).1
      refine (hi.tmps i c v h3 h2).kept hgr (fun j b hb => hkt b d i j hb (.inr ⟨rfl, hil⟩)) fun p v' hp' hv' => ?_
      cases p with
      | tmp i' => exact hv'
      | cell l off =>
        rcases h5 _ hp' with ⟨i', h6⟩ | h6
        · cases h6
        · simp only [placeVal] at hv' ⊢
          cases hb : g.blk[l]? with
          | none => rw [hb] at hv'; cases hv'
          | some b =>
            rw [hb] at hv'
            rw [hgr.blk l b hb]
            have hl : l < s.bx.length := by rw [← hbl]; exact (List.getElem?_eq_some_iff.1 hb).1
            simp only [Option.bind_some] at hv' ⊢
            rw [hcell l hl (h6 l hl) b hb]
            exact hv'
  · obtain ⟨c0, h3, h4⟩ := hslot i c h1
    rcases h4 with h4 | ⟨h4, h5⟩
    · subst h4; cases h2
    · subst h4
      have hm := hi.al i c p h3 h2
      rcases h5 p h2 with ⟨i', h6⟩ | h6
      · subst h6
        simp only [St.at, List.getD_eq_getElem?_getD] at hm ⊢
        rcases e3 with e3 | e3
        · rw [e3]
          simp only [noAlias, List.getElem?_map]
          cases hq : s.ts[i']? with
          | none => rfl
          | some q =>
            rw [hq] at hm
            simp only [Option.map_some, Option.getD_some] at hm ⊢
            rw [maySrc_strip_of hm]; exact hm
        · rw [e3.1]; exact hm
      · cases p with
        | tmp i' =>
          simp only [St.at, List.getD_eq_getElem?_getD] at hm ⊢
          rcases e3 with e3 | e3
          · rw [e3]
            simp only [noAlias, List.getElem?_map]
            cases hq : s.ts[i']? with
            | none => rfl
            | some q =>
              rw [hq] at hm
              simp only [Option.map_some, Option.getD_some] at hm ⊢
              rw [maySrc_strip_of hm]; exact hm
          · rw [e3.1]; exact hm
        | cell l off =>
          simp only [St.at] at hm ⊢
          by_cases hl : l < s.bx.length
          · obtain ⟨q1, _⟩ := hst.old l (by rw [hn0]; exact hl) (h6 l hl)
            rw [e2, List.getElem?_take_of_lt (Nat.lt_of_lt_of_le hl hk1), q1, hb0]
            exact hm
          · -- a place beyond the boxes: its value cannot be
            have hlt : i < vals.size := by rw [hi.tl]; exact (List.getElem?_eq_some_iff.1 h3).1
            have hr := hi.tmps i c _ h3 (Array.getElem?_eq_getElem hlt)
            have : ∃ v, placeVal w g vals (.cell l off) = some v := by
              cases c <;> simp only [aliasOf] at h2 <;> first | cases h2 | skip
              · exact ⟨_, hr⟩
              · obtain ⟨b, o', n, c', h1, _⟩ := hr; exact ⟨_, h1⟩
            obtain ⟨v, hv⟩ := this
            simp only [placeVal] at hv
            have : g.blk[l]? = none := List.getElem?_eq_none (by omega)
            rw [this] at hv; cases hv
  · rw [e2, List.length_take]; omega
  · have hl' : l < s.bx.length := Nat.lt_of_lt_of_le hl hi.nbl
    obtain ⟨q1, q2⟩ := hst.old l (by rw [hn0]; exact hl') (e4 l hl hlo)
    refine ⟨by rw [e2, List.getElem?_take_of_lt (Nat.lt_of_lt_of_le hl' hk1), q1, hb0], fun b hb => ⟨?_, fun off b' hb' => ?_⟩⟩
    · exact hkept b _ (hi.boxes l b _ hb (List.getElem?_eq_getElem hl')).1 hfb (q2 b hb).1
    · exact hkept b' _ hb' (hfc b off) ((q2 b hb).2 off b' hb')
  · have hl' : l < s.bx.length := Nat.lt_of_lt_of_le hl hi.nbl
    rw [e2, List.getElem?_take_of_lt (Nat.lt_of_lt_of_le hl' hk1)] at h3
    exact hst.kpl (e7 hkp) n l bx bx' (by rw [hn0]; exact hl') (by rw [hb0]; exact h1) h2 h3

/-- a call's answer in the caller -/
def finSt (out : Out) (s : St) : Option (PV × St) :=
  match out with
  | .ret r none => some (r, s)
  | .ret r (some e) => some (r, { s with ts := noAlias s.ts, bx := e.bx, lo := (if e.lo < s.nb then some (match s.lo with | none => e.lo | some m => min m e.lo) else s.lo), kp := s.kp || e.kp })
  | .loop _ _ => none

theorem fin_eq {out : Out} {dst : Option Tmp} {s s' : St} (h : fin out dst s = some s') : ∃ r s1, finSt out s = some (r, s1) ∧ s' = put s1 dst r := by
  cases out with
  | loop => cases h
  | ret r e =>
    cases e with
    | none => exact ⟨r, s, rfl, (Option.some.inj h).symm⟩
    | some e => exact ⟨r, _, rfl, (Option.some.inj h).symm⟩

/-- labels at a call's end -/
def endLab (d N : Nat) (one : Bool) : Owner → Option Owner
  | .tmp d' i j => if d' = d ∧ i = N then some (.res (if one then j - 1 else j)) else if d' ≤ d then some (.tmp d' i j) else none
  | o => some o

theorem allLt_of_noPtr {k : Nat} {pvs : List PV} (h : (tupOf pvs).noPtr = true) : ∀ c ∈ pvs, allLt k c := by
  have one : ∀ c : PV, (match c with | .agg cs => cs.all PV.isDat | v => v.isDat) = true → allLt k c := by
    intro c hc
    cases c with
    | agg cs => exact fun x hx => isDat_ptrLt (List.all_eq_true.1 hc x hx)
    | ptr => cases hc
    | clo => cases hc
    | _ => exact trivial
  match pvs, h with
  | [], _ => intro c hc; cases hc
  | [x], h =>
    intro c hc
    simp only [List.mem_singleton] at hc
    subst hc
    cases c with
    | agg cs => exact one _ h
    | tup vs => exact trivial
    | ptr => cases h
    | clo => cases h
    | _ => exact trivial
  | x :: y :: z, h => exact fun c hc => one c (List.all_eq_true.1 h c hc)

theorem below_min {l m : Nat} {lo : Option Nat} (h : below l (some (match lo with | none => m | some q => min q m))) : l < m ∧ below l lo := by
  cases lo with
  | none => exact ⟨h, trivial⟩
  | some q =>
    have h : l < min q m := h
    exact ⟨by omega, by show l < q; omega⟩

theorem ret_sound (hi : Inv base w0 w g d s vals) {st0 s' s1 : St} {w' : World} {g' : Gh} {vals' : Array Value} {pvs : List PV} {us : List Value} {r : PV} (hi' : Inv base w0 w' g' (d + 1) s' vals') (hst : Stp (d + 1) st0 s' w w' g g')
    (hb0 : st0.bx = s.bx) (hn0 : st0.nb = s.bx.length) (hlen : us.length = pvs.length) (hr : ∀ (i : Nat) c u, pvs[i]? = some c → us[i]? = some u → RelR w' g' (.tmp d s.ts.length (i + 1)) c u)
    (hfin : finSt (outOf (tupOf pvs) s') s = some (r, s1)) :
    ∃ g'', Inv base w0 w' g'' d s1 vals ∧ Stp d s s1 w w' g g'' ∧ RelP w' g'' vals s1 r (if h : us.toArray.size = 1 then us.toArray[0] else .tuple us.toArray) := by
  have hbl : g.blk.length = s.bx.length := hi.blen
  have hbl' : g'.blk.length = s'.bx.length := hi'.blen
  have hnb : s'.nb = s.bx.length := by rw [hst.nb, hn0]
  have hsb : s.bx.length ≤ s'.bx.length := by rw [← hb0]; exact hst.bl
  have hstart : ∀ (l : Nat) bx, st0.bx[l]? = some bx → ∀ c ∈ bx, ptrLt s.bx.length c := by
    intro l bx h
    rw [hb0] at h
    have hl : l < g.blk.length := by rw [hbl]; exact (List.getElem?_eq_some_iff.1 h).1
    have := (hi.boxes l _ bx (List.getElem?_eq_getElem hl) h).lt
    rw [hbl] at this; exact this
  have hend : s'.kp = false → ∀ (l : Nat) bx, l < s.bx.length → s'.bx[l]? = some bx → ∀ c ∈ bx, ptrLt s.bx.length c := by
    intro hk l bx hl h
    have hl0 : l < st0.bx.length := by rw [hb0]; exact hl
    exact hst.kpl hk s.bx.length l _ bx (by rw [hn0]; exact hl) (List.getElem?_eq_getElem hl0) (hstart l _ (List.getElem?_eq_getElem hl0)) h
  have hfull : ∀ (l : Nat) bx, l < s'.bx.length → s'.bx[l]? = some bx → ∀ c ∈ bx, ptrLt s'.bx.length c := by
    intro l bx hl h
    have hl' : l < g'.blk.length := by rw [hbl']; exact hl
    have := (hi'.boxes l _ bx (List.getElem?_eq_getElem hl') h).lt
    rw [hbl'] at this; exact this
  have hfb : ∀ one, endLab d s.ts.length one .box = some .box := fun _ => rfl
  have hft : ∀ one d' i j, d' < d ∨ (d' = d ∧ i < s.ts.length) → endLab d s.ts.length one (.tmp d' i j) = some (.tmp d' i j) := by
    intro one d' i j h
    simp only [endLab]
    rw [if_neg (by rintro ⟨a, b⟩; omega), if_pos (by omega)]
  have hfd : ∀ one o' d' i j, endLab d s.ts.length one o' = some (.tmp d' i j) → d' ≤ d := by
    intro one o' d' i j h
    cases o' with
    | tmp d1 i1 j1 =>
      simp only [endLab] at h
      split at h
      · cases h
      · split at h
        · cases h; assumption
        · cases h
    | box => cases h
    | cell => cases h
    | res => cases h
  -- the result's relation
  have hres : ∀ k, (∀ c ∈ pvs, allLt k c) → ∀ s1, RelP w' ((g'.relab (endLab d s.ts.length (pvs.length == 1))).cutBlk k) vals s1 (tupOf pvs) (if h : us.toArray.size = 1 then us.toArray[0] else .tuple us.toArray) := by
    intro k hk s1
    have each : ∀ (i : Nat) c u, pvs[i]? = some c → us[i]? = some u → RelR w' ((g'.relab (endLab d s.ts.length (pvs.length == 1))).cutBlk k) (.res (if (pvs.length == 1) then i else i + 1)) c u := by
      intro i c u h1 h2
      refine RelR.cut (hk c (List.mem_of_getElem? h1)) ((hr i c u h1 h2).relab ?_)
      simp only [endLab, and_self, if_true]
      cases (pvs.length == 1) <;> rfl
    by_cases h1 : pvs.length = 1
    · obtain ⟨c, rfl⟩ := List.length_eq_one_iff.1 h1
      rw [h1] at hlen
      obtain ⟨u, rfl⟩ := List.length_eq_one_iff.1 hlen
      have e := each 0 c u rfl rfl
      simp only [List.length_singleton, beq_self_eq_true, if_true] at e
      simp only [tupOf, List.length_singleton, beq_self_eq_true]
      change RelP _ _ _ _ c u
      cases c with
      | mp V es => first | exact hr.elim | exact h.elim | exact hr.1.elim | exact h.1.elim | exact trivial | rfl | assumption
      | «alias» => exact e.elim
      | eptr => exact e.elim
      | tnil => exact e
      | home => exact e
      | siter => exact e
      | tup => exact e.elim
      | dead => exact trivial
      | dat _ => exact e
      | own _ _ _ => exact e
      | agg _ => exact e
      | ptr _ _ => exact e
      | iptr _ _ => exact e
      | clo _ _ => exact e
    · have hn : (pvs.length == 1) = false := by simpa using h1
      rw [hn] at each ⊢
      simp only [Bool.false_eq_true, if_false] at each
      have ht : tupOf pvs = .tup pvs := by
        match pvs, h1 with
        | [], _ => rfl
        | [x], h => exact absurd rfl h
        | x :: y :: z, _ => rfl
      rw [ht, dif_neg (by simpa [hlen] using h1)]
      exact ⟨us, rfl, hlen, fun j c v hc hv => each j c v hc hv⟩
  have hbelow : ∀ {e : Eff} (l : Nat), below l (if e.lo < s.nb then some (match s.lo with | none => e.lo | some m => min m e.lo) else s.lo) → below l s.lo ∧ (l < s.nb → l < e.lo) := by
    intro e l h
    split at h
    · exact ⟨(below_min h).2, fun _ => (below_min h).1⟩
    · exact ⟨h, fun hl => by omega⟩
  unfold outOf at hfin
  split at hfin
  · rename_i hcond
    simp only [Bool.and_eq_true, Bool.not_eq_true'] at hcond
    obtain ⟨hnp, hkp⟩ := hcond
    have hlt : ∀ c ∈ pvs, allLt s.bx.length c := allLt_of_noPtr hnp
    split at hfin
    · rename_i hlo
      simp only [finSt, Option.some.injEq, Prod.mk.injEq] at hfin
      obtain ⟨rfl, rfl⟩ := hfin
      have hall : ∀ l, below l s'.lo := fun l => by rw [hlo]; exact trivial
      have hbx : s.bx = s'.bx.take s.bx.length := by
        apply List.ext_getElem?
        intro l
        by_cases hl : l < s.bx.length
        · rw [List.getElem?_take_of_lt hl, (hst.old l (by rw [hn0]; exact hl) (hall l)).1, hb0]
        · rw [List.getElem?_eq_none (by omega), List.getElem?_eq_none (by rw [List.length_take]; omega)]
      obtain ⟨q1, q2⟩ := ret_core (s2 := s) hi hi' hst hb0 hn0 (Nat.le_refl _) hsb (hend hkp) rfl hbx (.inr ⟨rfl, fun l _ => hall l⟩) (fun l _ _ => hall l) (fun _ h => h) (fun h => h) (fun _ => hkp)
        (hfb (pvs.length == 1)) (fun _ _ => rfl) (hft _) (hfd _)
      exact ⟨_, q1, q2, hres _ hlt _⟩
    · rename_i l0 hlo
      simp only [finSt, Option.some.injEq, Prod.mk.injEq] at hfin
      obtain ⟨rfl, rfl⟩ := hfin
      obtain ⟨q1, q2⟩ := ret_core (s2 := { s with ts := noAlias s.ts, bx := s'.bx.take s'.nb, lo := (if l0 < s.nb then some (match s.lo with | none => l0 | some m => min m l0) else s.lo), kp := s.kp || false }) hi hi' hst hb0 hn0 (Nat.le_refl _) hsb (hend hkp) rfl (by rw [hnb]) (.inl rfl)
        (fun l hl h => by rw [hlo]; exact (hbelow (e := ⟨[], l0, false⟩) l h).2 hl) (fun l h => (hbelow (e := ⟨[], l0, false⟩) l h).1) (fun h => by simp [h]) (fun _ => hkp)
        (hfb (pvs.length == 1)) (fun _ _ => rfl) (hft _) (hfd _)
      exact ⟨_, q1, q2, hres _ hlt _⟩
  · simp only [finSt, Option.some.injEq, Prod.mk.injEq] at hfin
    obtain ⟨rfl, rfl⟩ := hfin
    have hlt : ∀ c ∈ pvs, allLt s'.bx.length c := by
      intro c hc
      obtain ⟨i, hic⟩ := List.getElem?_of_mem hc
      have hiu : i < us.length := by rw [hlen]; exact (List.getElem?_eq_some_iff.1 hic).1
      have := (hr i c _ hic (List.getElem?_eq_getElem hiu)).allLt
      rw [hbl'] at this; exact this
    obtain ⟨q1, q2⟩ := ret_core (s2 := { s with ts := noAlias s.ts, bx := s'.bx, lo := (if s'.lo.getD s'.nb < s.nb then some (match s.lo with | none => s'.lo.getD s'.nb | some m => min m (s'.lo.getD s'.nb)) else s.lo), kp := s.kp || s'.kp }) hi hi' hst hb0 hn0 hsb (Nat.le_refl _) hfull rfl (by simp) (.inl rfl)
      (fun l hl h => by
        have := (hbelow (e := ⟨[], s'.lo.getD s'.nb, false⟩) l h).2 hl
        cases hlo : s'.lo with
        | none => exact trivial
        | some m => simp only [hlo, Option.getD_some] at this; exact this) (fun l h => (hbelow (e := ⟨[], s'.lo.getD s'.nb, false⟩) l h).1) (fun h => by simp [h]) (fun h => by
          simp only [Bool.or_eq_false_iff] at h; exact h.2)
      (hfb (pvs.length == 1)) (fun _ _ => rfl) (hft _) (hfd _)
    exact ⟨_, q1, q2, hres _ hlt _⟩
end

end Go.Vx
namespace Go.Vx
open Go Go.RowKit

section
variable {P : Program} {cfg : Cfg} {base : Nat} {w0 w : World} {g : Gh} {d : Nat} {s : St} {vals : Array Value} {o : Oper} {a : Act}

theorem mark_at {p : Place} {v : PV} {ex : Bool} {k : Nat} {xs : List (List D)} (h : s.at p = .own ex k xs) : (s.mark p v).at p = v := by
  cases p with
  | tmp t =>
    have h1 := getD_some h (by intro e; cases e)
    have hlt : t < s.ts.length := (List.getElem?_eq_some_iff.1 h1).1
    simp [St.mark, St.at, List.getD, hlt]
  | cell l off =>
    obtain ⟨bx, h1, h2⟩ := at_cell h (by intro e; cases e)
    have hl : l < s.bx.length := (List.getElem?_eq_some_iff.1 h1).1
    have ho : off < bx.length := (List.getElem?_eq_some_iff.1 h2).1
    have hbx : s.bx[l] = bx := by rw [List.getElem?_eq_getElem hl] at h1; exact Option.some.inj h1
    simp only [St.mark, St.at, touch_bx]
    simp only [hl, List.getElem?_set_self, Option.getD_some, h1, List.getD]
    simp [ho]

theorem touch_touch (s : St) (l : Nat) (b : List Box) : touch { touch s l with bx := b } l = touch { s with bx := b } l := by
  unfold touch
  by_cases h : l < s.nb
  · simp only [h, if_true]
    cases s.lo <;> simp
  · simp only [h, if_false]

theorem mark_mark (s : St) (p : Place) (u v : PV) (h : ∀ l off, p = .cell l off → ∃ bx, s.bx[l]? = some bx) : (s.mark p u).mark p v = s.mark p v := by
  cases p with
  | tmp t => simp [St.mark]
  | cell l off =>
    obtain ⟨bx, hb⟩ := h l off rfl
    have hl : l < s.bx.length := (List.getElem?_eq_some_iff.1 hb).1
    simp only [St.mark, touch_bx]
    have e : (touch { s with bx := s.bx.set l (((s.bx[l]?).getD []).set off u) } l) = { touch s l with bx := s.bx.set l (((s.bx[l]?).getD []).set off u) } := by
      unfold touch; simp only; split <;> rfl
    rw [e]
    simp only
    rw [touch_touch]
    congr 1
    simp [hl]

theorem ownPlace_sound (hi : Inv base w0 w g d s vals) (ha : a.tmps = vals) {x : Operand} {p : Place} {xs : List (List D)} (h : ownPlace cfg x s = some (p, xs)) :
    s.at p = .own true 1 xs ∧ placeVal w g vals p = some (a.eval x) := by
  unfold ownPlace at h
  split at h
  · rename_i p' hv
    split at h
    · rename_i ys hat
      simp only [Option.some.injEq, Prod.mk.injEq] at h
      obtain ⟨rfl, rfl⟩ := h
      obtain ⟨t, rfl⟩ := val_is_tmp hv (.inl ⟨_, rfl⟩)
      simp only [St.val] at hv
      obtain ⟨_, _, h3⟩ := val_tmp hi ha hv (by intro e; cases e)
      exact ⟨hat, h3⟩
    · cases h
  · rename_i ys hv
    split at h
    · rename_i t
      simp only [Option.some.injEq, Prod.mk.injEq] at h
      obtain ⟨rfl, rfl⟩ := h
      simp only [St.val] at hv
      obtain ⟨_, h2, _⟩ := val_tmp hi ha hv (by intro e; cases e)
      exact ⟨hv, h2⟩
    · cases h
  · cases h

theorem intRows_rel : ∀ {xs : List (List D)} {zs : List Int}, intRows xs = some zs → xs = rowsOf zs
  | [], zs, h => by obtain rfl := Option.some.inj h; rfl
  | r :: rs, zs, h => by
    simp only [intRows] at h
    obtain ⟨z, h1, h2⟩ := seqO_eq.1 h
    obtain ⟨zs', h3, h4⟩ := seqO_eq.1 h2
    obtain rfl := Option.some.inj h4
    rw [intRows_rel h3]
    unfold intRow at h1
    split at h1
    · obtain rfl := Option.some.inj h1; rfl
    · cases h1

theorem rowsOf_flat (zs : List Int) : (rowsOf zs).flatten = zs.map fun z => .lit (.int .i64 z) := by
  induction zs with
  | nil => rfl
  | cons z zs ih =>
    have : rowsOf (z :: zs) = [.lit (.int .i64 z)] :: rowsOf zs := rfl
    rw [this, List.flatten_cons, ih]; rfl
theorem rowsOf_len (zs : List Int) : (rowsOf zs).length = zs.length := by simp [rowsOf]
theorem rowsOf_row {zs : List Int} : ∀ x ∈ rowsOf zs, x.length = 1 := by
  intro x hx
  simp only [rowsOf, List.mem_map] at hx
  obtain ⟨z, _, rfl⟩ := hx
  rfl

/-- what is asked of the cells is there -/
theorem own_ints {ow : Owner} {zs : List Int} {b off n c : Nat} (ho : OwnRel w g ow true 1 (rowsOf zs) (.slice (some ⟨b, off, none⟩) n c)) :
    ∃ cur T, w.heap[b]? = some (.cells cur T (0, 0)) ∧ n = zs.length ∧ zs.length ≤ c ∧ c ≤ maxLen ∧ off + zs.length ≤ cur.size ∧ (∀ (j : Nat) z, zs[j]? = some z → cur[off + j]? = some (.int .i64 z)) := by
  obtain ⟨b1, off1, c1, cur, T, f1, f2, f3, f4, f5, f6, f7, f8, f9, f10, f11⟩ := ho
  simp only [Value.slice.injEq, Option.some.injEq, Addr.mk.injEq] at f1
  obtain ⟨⟨rfl, rfl, _⟩, rfl, rfl⟩ := f1
  rw [rowsOf_len] at f4
  have hk : ksz 1 = 1 := rfl
  rw [hk, Nat.mul_one] at f7
  refine ⟨cur, T, f3, rowsOf_len zs, f4, f5, by omega, fun j z hz => ?_⟩
  obtain ⟨u, h1, h2⟩ := f9 j (.lit (.int .i64 z)) (by rw [rowsOf_flat, List.getElem?_map, hz]; rfl)
  cases h2
  exact h1

theorem wrote_inv (hi : Inv base w0 w g d s vals) {w' : World} {p : Place} {zs new : List Int} {ow : Owner} {b off n c : Nat} {cur : Array Value} {T : TypeId} (hp : s.at p = .own true 1 (rowsOf zs)) (hw : OwnerAt g d p ow)
    (hu : placeVal w g vals p = some (.slice (some ⟨b, off, none⟩) n c)) (ho : OwnRel w g ow true 1 (rowsOf zs) (.slice (some ⟨b, off, none⟩) n c)) (hheap : w.heap[b]? = some (.cells cur T (0, 0)))
    (hl : new.length = zs.length) (hW : Wrote b off (new.map (.int .i64)) cur T w w') :
    Inv base w0 w' g d (s.mark p (.own true 1 (rowsOf new))) vals ∧ Stp d s (s.mark p (.own true 1 (rowsOf new))) w w' g g := by
  obtain ⟨b1, off1, c1, cur1, T1, f1, f2, f3, f4, f5, f6, f7, f8, f9, f10, f11⟩ := ho
  simp only [Value.slice.injEq, Option.some.injEq, Addr.mk.injEq] at f1
  obtain ⟨⟨rfl, rfl, _⟩, rfl, rfl⟩ := f1
  rw [hheap] at f3
  obtain ⟨rfl, rfl⟩ : cur = cur1 ∧ T = T1 := by cases f3; exact ⟨rfl, rfl⟩
  rw [rowsOf_len] at f4
  have hk : ksz 1 = 1 := rfl
  rw [hk, Nat.mul_one] at f7
  have hbase : base ≤ b := hi.own_ge b _ f2
  have hbs := hi.low.size
  have hb0 := hi.hb
  have hlt := hi.own_lt b _ f2
  have hlow : Below base w0 w' := hi.low.trans ⟨hW.os, hW.tape, hW.output, hW.size, fun k hk => hW.other k (by omega) (by omega)⟩
  have hfit : off + (new.map (Value.int .i64)).length ≤ cur.toList.length := by simp; omega
  have hown : OwnRel w' g ow true 1 (rowsOf new) (.slice (some ⟨b, off, none⟩) (rowsOf zs).length c) := by
    refine ⟨b, off, c, _, T, by rw [rowsOf_len, rowsOf_len, hl], f2, hW.row, by rw [rowsOf_len, hl]; exact f4, f5, (fun h => absurd h (by decide)), by rw [hk, Nat.mul_one]; simp [setCells_len hfit]; exact f7, rowsOf_row, fun i x hx => ?_, fun _ => f10 rfl, by intro h; cases h⟩
    rw [rowsOf_flat] at hx
    have hi' : i < new.length := by simpa using (List.getElem?_eq_some_iff.1 hx).1
    rw [List.getElem?_map, List.getElem?_eq_getElem hi'] at hx
    obtain rfl := Option.some.inj hx
    refine ⟨.int .i64 new[i], ?_, .lit _ rfl⟩
    rw [List.getElem?_toArray, setCells_get hfit, if_pos ⟨by omega, by simp; omega⟩, show off + i - off = i by omega, List.getElem?_map, List.getElem?_eq_getElem hi']
    rfl
  refine markW_sound hi hw hu hlow hW.size rfl rfl (fun _ _ h => h) (fun ad v h => ?_) (fun b' o' h1 h2 => ?_) (fun b' o' h => ⟨o', h, .inl rfl⟩) rfl ?_
  · have hm := hi.mem ad v h
    have hne' : ad.block ≠ b := by
      intro e
      cases ad with
      | mk ab ao asp =>
        simp only at e
        subst e
        have hsp : asp = none := by
          cases asp with
          | none => rfl
          | some q => simp [World.cell?, hheap] at hm
        subst hsp
        rw [f10 rfl] at h; cases h
    have hadlt : ad.block < w.heap.size := by
      cases hh : w.heap[ad.block]? with
      | none =>
        cases ad with
        | mk ab ao asp => simp [World.cell?, hh] at hm
      | some q => exact (Array.getElem?_eq_some_iff.1 hh).1
    rw [← hm]
    exact World.cell?_of_block (w := w) (hW.other ad.block hadlt hne')
  · refine ⟨hW.other b' (hi.own_lt b' o' h1) ?_, rfl, fun _ => rfl⟩
    rintro rfl
    rw [f2] at h1
    cases h1
    exact h2 rfl
  · cases p with
    | tmp t => obtain rfl := hw; exact hown
    | cell l off' => obtain ⟨b', hb', rfl⟩ := hw; exact ⟨b', hb', hown⟩

/-- the head of an own array -/
theorem own_take {ow : Owner} {ys zs : List Int} {b off n c : Nat} (ho : OwnRel w g ow true 1 (rowsOf (ys ++ zs)) (.slice (some ⟨b, off, none⟩) n c)) : OwnRel w g ow true 1 (rowsOf ys) (.slice (some ⟨b, off, none⟩) ys.length c) := by
  obtain ⟨b1, off1, c1, cur1, T1, f1, f2, f3, f4, f5, f6, f7, f8, f9, f10, f11⟩ := ho
  simp only [Value.slice.injEq, Option.some.injEq, Addr.mk.injEq] at f1
  obtain ⟨⟨rfl, rfl, _⟩, rfl, rfl⟩ := f1
  rw [rowsOf_len, List.length_append] at f4
  refine ⟨b, off, c, cur1, T1, by rw [rowsOf_len], f2, f3, by rw [rowsOf_len]; omega, f5, f6, f7, rowsOf_row, fun i x hx => f9 i x ?_, f10, by intro h; cases h⟩
  rw [rowsOf_flat] at hx ⊢
  rw [List.map_append, List.getElem?_append_left (by have := (List.getElem?_eq_some_iff.1 hx).1; exact this)]
  exact hx

theorem sortI_len (zs : List Int) : (sortI zs).length = zs.length := List.length_mergeSort ..
theorem compact_len (zs : List Int) : (Lib.compact zs).length ≤ zs.length := by
  simp only [Lib.compact, Lib.compactUpTo, List.length_map]
  have := List.length_filter_le (Lib.keeps zs.toArray) (List.range zs.length)
  simpa using this
theorem compNew_len (zs : List Int) : (compNew zs).length = zs.length := by
  have := compact_len zs
  simp [compNew]; omega

theorem enter_run {c : Call} {f : FuncId} (ho : o.op = .call c) (hx : c.callee = .value (.func f)) (he : Enters P f) : (execOp a.eval o).run P w = .ok (.enter f (c.args.map a.eval)) w := by
  obtain ⟨fn, h1, h2, h3⟩ := he
  have h3' : fn.body.isNone = false := by cases hb : fn.body <;> simp_all
  simp only [execOp, ho, resolve, hx, Act.eval, Deferred.ofValue, invoke, callFunc, Sem.run_bind, Sem.run_pure, Result.andThen_ok, run_program, h1, h2, h3', Bool.false_eq_true, if_false, Array.empty_append, Array.append_empty]
end

end Go.Vx
namespace Go.Vx
open Go Go.RowKit

section
variable {P : Program} {cfg : Cfg} {base : Nat} {w0 w : World} {g : Gh} {d : Nat} {s : St} {vals : Array Value} {o : Oper} {a : Act}

/-- a place that holds a map -/
theorem at_map (hi : Inv base w0 w g d s vals) {p : Place} {V : Nat} {es : List (Int × List D)} (hp : s.at p = .mp V es) :
    ∃ l off b u, p = .cell l off ∧ g.blk[l]? = some b ∧ placeVal w g vals p = some u ∧ MapRel w g (.cell b off) V es u := by
  cases p with
  | tmp t =>
    have h := getD_some hp (by intro e; cases e)
    have hlt : t < vals.size := by rw [hi.tl]; exact (List.getElem?_eq_some_iff.1 h).1
    exact (hi.tmps t _ _ h (Array.getElem?_eq_getElem hlt) : False).elim
  | cell l off =>
    obtain ⟨bx, h1, h2⟩ := at_cell hp (by intro e; cases e)
    have hlt : l < g.blk.length := by rw [hi.blen]; exact (List.getElem?_eq_some_iff.1 h1).1
    have hb : g.blk[l]? = some g.blk[l] := List.getElem?_eq_getElem hlt
    obtain ⟨q1, q2, cs, T, q3, q4, q5⟩ := hi.boxes l _ bx hb h1
    have hj : off < cs.size := by rw [q4]; exact (List.getElem?_eq_some_iff.1 h2).1
    have hc : cs[off]? = some cs[off] := Array.getElem?_eq_getElem hj
    refine ⟨l, off, g.blk[l], cs[off], rfl, hb, ?_, q5 off _ _ h2 hc⟩
    simp only [placeVal, hb, Option.bind_some, cell_of_heap q3, hc]

theorem mapPlace_sound (hi : Inv base w0 w g d s vals) (ha : a.tmps = vals) {x : Operand} {p : Place} {V : Nat} {es : List (Int × List D)} (h : mapPlace cfg x s = some (p, V, es)) :
    ∃ l off b, s.at p = .mp V es ∧ p = .cell l off ∧ g.blk[l]? = some b ∧ placeVal w g vals p = some (a.eval x) ∧ MapRel w g (.cell b off) V es (a.eval x) := by
  unfold mapPlace at h
  split at h
  · rename_i p' hv
    split at h
    · rename_i V' es' hat
      simp only [Option.some.injEq, Prod.mk.injEq] at h
      obtain ⟨rfl, rfl, rfl⟩ := h
      obtain ⟨t, rfl⟩ := val_is_tmp hv (.inl ⟨_, rfl⟩)
      simp only [St.val] at hv
      obtain ⟨_, _, h3⟩ := val_tmp hi ha hv (by intro e; cases e)
      have h3' : placeVal w g vals p' = some (a.eval (.tmp t)) := h3
      obtain ⟨l, off, b, u, e1, e2, e3, e4⟩ := at_map hi hat
      rw [h3'] at e3
      obtain rfl := Option.some.inj e3
      exact ⟨l, off, b, hat, e1, e2, h3', e4⟩
    · cases h
  · cases h

theorem findNow_rel (n : Int) : ∀ (es : List (Int × List D)) (ents : List MapEntry) (i : Nat), ents.length = es.length → (∀ (j : Nat) x e, es[j]? = some x → ents[j]? = some e → e.key = .int .i64 x.1) →
    (mapGet n es = none ∧ (∀ x ∈ es, x.1 ≠ n) ∧ Instr.findNow (.int .i64) (.int .i64 n) ents i = some none) ∨
      ∃ j x e, es[j]? = some x ∧ ents[j]? = some e ∧ x.1 = n ∧ (∀ k y, k < j → es[k]? = some y → y.1 ≠ n) ∧ mapGet n es = some x.2 ∧ Instr.findNow (.int .i64) (.int .i64 n) ents i = some (some (i + j, e.val))
  | [], [], i, _, _ => .inl ⟨rfl, by simp, rfl⟩
  | [], _ :: _, _, h, _ => by simp at h
  | _ :: _, [], _, h, _ => by simp at h
  | x :: es, e :: ents, i, hl, hk => by
    have hk0 := hk 0 x e rfl rfl
    by_cases hx : x.1 = n
    · refine .inr ⟨0, x, e, rfl, rfl, hx, fun k y hk' _ => by omega, by simp [mapGet, hx], ?_⟩
      simp [Instr.findNow, Instr.sameNow, hk0, hx]
    · have ih := findNow_rel n es ents (i + 1) (by simpa using hl) fun j y e' hy he => hk (j + 1) y e' (by simpa using hy) (by simpa using he)
      have hf : Instr.findNow (.int .i64) (.int .i64 n) (e :: ents) i = Instr.findNow (.int .i64) (.int .i64 n) ents (i + 1) := by
        have hne : (n == x.1) = false := by simpa using fun e => hx e.symm
        simp [Instr.findNow, Instr.sameNow, hk0, hne]
      have hg : mapGet n (x :: es) = mapGet n es := by simp [mapGet, hx]
      rw [hf, hg]
      rcases ih with ⟨h1, h2, h3⟩ | ⟨j, y, e', h1, h2, h3, h4, h5, h6⟩
      · exact .inl ⟨h1, fun z hz => by rcases List.mem_cons.1 hz with rfl | hz; exact hx; exact h2 z hz, h3⟩
      · refine .inr ⟨j + 1, y, e', by simpa using h1, by simpa using h2, h3, fun k z hk' hz => ?_, h5, by rw [h6]; congr 3; omega⟩
        cases k with
        | zero => simp only [List.getElem?_cons_zero, Option.some.injEq] at hz; subst hz; exact hx
        | succ k => exact h4 k z (by omega) (by simpa using hz)

theorem mapPut_none {n : Int} {row : List D} : ∀ {es : List (Int × List D)}, (∀ x ∈ es, x.1 ≠ n) → mapPut n row es = es ++ [(n, row)]
  | [], _ => rfl
  | x :: es, h => by
    have hx := h x (List.mem_cons_self ..)
    simp [mapPut, hx, mapPut_none fun y hy => h y (List.mem_cons_of_mem _ hy)]

theorem mapPut_some {n : Int} {row : List D} : ∀ {es : List (Int × List D)} {j : Nat} {x : Int × List D}, es[j]? = some x → x.1 = n → (∀ k y, k < j → es[k]? = some y → y.1 ≠ n) → mapPut n row es = es.set j (n, row)
  | [], j, x, h, _, _ => by simp at h
  | y :: es, 0, x, h, hx, _ => by
    simp only [List.getElem?_cons_zero, Option.some.injEq] at h
    subst h
    simp [mapPut, hx]
  | y :: es, j + 1, x, h, hx, hlt => by
    have hy := hlt 0 y (by omega) rfl
    have ih := mapPut_some (row := row) (es := es) (j := j) (by simpa using h) hx fun k z hk hz => hlt (k + 1) z (by omega) (by simpa using hz)
    simp [mapPut, hy, ih]

theorem mapDel_none {n : Int} : ∀ {es : List (Int × List D)}, (∀ x ∈ es, x.1 ≠ n) → mapDel n es = es
  | [], _ => rfl
  | x :: es, h => by
    have hx := h x (List.mem_cons_self ..)
    simp [mapDel, hx, mapDel_none fun y hy => h y (List.mem_cons_of_mem _ hy)]

theorem mapDel_some {n : Int} : ∀ {es : List (Int × List D)} {j : Nat} {x : Int × List D}, es[j]? = some x → x.1 = n → (∀ k y, k < j → es[k]? = some y → y.1 ≠ n) → mapDel n es = es.eraseIdx j
  | [], j, x, h, _, _ => by simp at h
  | y :: es, 0, x, h, hx, _ => by
    simp only [List.getElem?_cons_zero, Option.some.injEq] at h
    subst h
    simp [mapDel, hx]
  | y :: es, j + 1, x, h, hx, hlt => by
    have hy := hlt 0 y (by omega) rfl
    have ih := mapDel_some (es := es) (j := j) (by simpa using h) hx fun k z hk hz => hlt (k + 1) z (by omega) (by simpa using hz)
    simp [mapDel, hy, ih]

theorem checkKey_int {k : TypeId} (hk : P.underlying k = some (.int .i64)) (b : Bool) (n : Int) (w : World) : (Instr.checkKey b 10000 k (.int .i64 n)).run P w = .ok () w := by
  rw [show (10000 : Nat) = 9999 + 1 from rfl, Instr.checkKey]
  simp [run_underlying hk]

theorem run_getObj {b : Nat} {es : Array MapEntry} {clock : Nat} (h : w.heap[b]? = some (.map es clock)) : (getObj b).run P w = .ok (.map es clock) w := by
  simp [getObj, Sem.run, h]

theorem findKey_run {k : TypeId} (hk : P.underlying k = some (.int .i64)) {n : Int} {ents : List MapEntry} {r : Option (Nat × Value)} (h : Instr.findNow (.int .i64) (.int .i64 n) ents 0 = some r) :
    (Instr.findKey k (.int .i64 n) ents).run P w = .ok r w := by
  simp [Instr.findKey, run_underlying hk, h]

theorem int64_val (hi : Inv base w0 w g d s vals) (hgl : GlobOk cfg g) (ha : a.tmps = vals) {x : Operand} {n : Int} (h : int64 (s.val cfg x) = some n) : a.eval x = .int .i64 n := by
  unfold int64 at h
  split at h
  · rename_i n' hv
    obtain rfl := Option.some.inj h
    exact val_lit hi hgl ha hv
  · cases h

theorem zero_run (hc : CfgOk P cfg) {e : TypeId} {j : TI} (hj : cfg.ti e = some j) {info : TypeInfo} {us : Array Value} (h1 : P.info? e = some info) (h4 : info.zero = some (.agg us)) :
    (zeroValue e).run P w = .ok (.agg us) w ∧ RelAgg g (j.zero.map .dat) (.agg us) := by
  have ht := hc.ti e j hj
  obtain ⟨info', z, q1, _, _, q4, h5⟩ := ht.info
  rw [h1] at q1
  obtain rfl := Option.some.inj q1
  rw [h4] at q4
  obtain rfl := Option.some.inj q4
  refine ⟨run_zeroValue h1 h4, us.toList, by simp, ?_, fun i c v hc' hv => ?_⟩
  · have := zero_cells (g := g) ht.zero h5
    simpa [Value.cells] using this.1
  · exact (zero_cells (g := g) ht.zero h5).2 i c v hc' (by simpa [Value.cells] using hv)

theorem row_rel {V : Nat} {row : List D} {v : Value} (h : ∃ us : List Value, v = .agg us.toArray ∧ us.length = V ∧ row.length = V ∧ ∀ (i : Nat) d u, row[i]? = some d → us[i]? = some u → RelD g.m d u) : RelAgg g (row.map .dat) v := by
  obtain ⟨us, h1, h2, h3, h4⟩ := h
  refine ⟨us, h1, by simp [h2, h3], fun j c u hc hu => ?_⟩
  rw [List.getElem?_map] at hc
  cases hr : row[j]? with
  | none => rw [hr] at hc; cases hc
  | some d =>
    rw [hr] at hc
    obtain rfl := Option.some.inj hc
    exact relC_dat (h4 j d u hr hu)

theorem look_goes (hc : CfgOk P cfg) (hi : Inv base w0 w g d s vals) (hgl : GlobOk cfg g) (ha : a.tmps = vals) {t : TypeId} {m k : Operand} (ho : o.op = .lookup t m k true) {pv : PV} {s1 : St}
    (h : runMap cfg (.look t m k) s = some (pv, s1)) : Goes P o a base w0 w g d s vals (put s1 o.dst pv) := by
  unfold runMap at h
  obtain ⟨e, h1, h⟩ := seqO_eq.1 h
  obtain ⟨j, h2, h⟩ := seqO_eq.1 h
  obtain ⟨⟨p, V, es⟩, h3, h⟩ := seqO_eq.1 h
  obtain ⟨n, h4, h⟩ := seqO_eq.1 h
  split at h
  case isFalse => cases h
  simp only [Option.some.injEq, Prod.mk.injEq] at h
  obtain ⟨rfl, rfl⟩ := h
  obtain ⟨kt, info, zs, u1, u2, u3, u4⟩ := hc.mapT t e h1
  obtain ⟨l, off, b, _, _, _, _, mb, ents, clock, m1, m2, m3, m4, m5, m6, m8, m7⟩ := mapPlace_sound hi ha h3
  have hk := int64_val hi hgl ha h4
  obtain ⟨z1, z2⟩ := zero_run (w := w) (g := g) hc h2 u3 u4
  rcases findNow_rel n es ents.toList 0 (by simpa using m5) (fun j x e hx he => (m7 j x e hx (by simpa using he)).1) with ⟨q1, q2, q3⟩ | ⟨j', x, e', q1, q2, q3, q4, q5, q6⟩
  · rw [q1]
    refine goes_same (v := .tuple #[.agg zs, .bool false]) ?_ hi ⟨[.agg zs, .bool false], rfl, rfl, fun i c v hcc hv => ?_⟩
    · simp only [execOp, ho, Instr.lookup, m1, hk, Sem.run_bind, run_underlying u1, Result.andThen_ok, run_getObj m3, Sem.run_pure, checkKey_int u2, findKey_run u2 q3, z1, if_true]
    · match i with
      | 0 => simp only [List.getElem?_cons_zero, Option.some.injEq] at hcc hv; subst hcc; subst hv; exact z2
      | 1 => simp only [List.getElem?_cons_succ, List.getElem?_cons_zero, Option.some.injEq] at hcc hv; subst hcc; subst hv; exact rfl
      | i + 2 => simp at hcc
  · rw [q5]
    have hr := (m7 j' x e' q1 (by simpa using q2)).2
    refine goes_same (v := .tuple #[e'.val, .bool true]) ?_ hi ⟨[e'.val, .bool true], rfl, rfl, fun i c v hcc hv => ?_⟩
    · simp only [execOp, ho, Instr.lookup, m1, hk, Sem.run_bind, run_underlying u1, Result.andThen_ok, run_getObj m3, Sem.run_pure, checkKey_int u2, findKey_run u2 q6, if_true]
    · match i with
      | 0 => simp only [List.getElem?_cons_zero, Option.some.injEq] at hcc hv; subst hcc; subst hv; exact row_rel hr
      | 1 => simp only [List.getElem?_cons_succ, List.getElem?_cons_zero, Option.some.injEq] at hcc hv; subst hcc; subst hv; exact rfl
      | i + 2 => simp at hcc

theorem heap_setObj (w : World) (b : Nat) (ob : Obj) (h : b < w.heap.size) : ({ w with heap := w.heap.setIfInBounds b ob } : World).heap[b]? = some ob := by simp [h]

/-- the map's block turns -/
theorem map_inv (hi : Inv base w0 w g d s vals) {l off b mb V : Nat} {es es' : List (Int × List D)} {ents ents' : Array MapEntry} {clock clock' : Nat} (hat : s.at (.cell l off) = .mp V es) (hb : g.blk[l]? = some b) (hu : placeVal w g vals (.cell l off) = some (.map (some mb)))
    (m2 : g.own mb = some (.cell b off)) (m3 : w.heap[mb]? = some (.map ents clock)) (m4 : ∀ j, g.m ⟨mb, j, none⟩ = none) (m5 : ents'.size = es'.length) (m6 : (es'.map (·.1)).Nodup) (m8 : MapKept.Stamped ents' clock')
    (m7 : ∀ (j : Nat) x e, es'[j]? = some x → ents'[j]? = some e → e.key = .int .i64 x.1 ∧ ∃ us : List Value, e.val = .agg us.toArray ∧ us.length = V ∧ x.2.length = V ∧ ∀ (i : Nat) d v, x.2[i]? = some d → us[i]? = some v → RelD g.m d v) :
    Inv base w0 { w with heap := w.heap.setIfInBounds mb (.map ents' clock') } g d (s.mark (.cell l off) (.mp V es')) vals ∧ Stp d s (s.mark (.cell l off) (.mp V es')) w { w with heap := w.heap.setIfInBounds mb (.map ents' clock') } g g := by
  have hbase := hi.own_ge mb _ m2
  have hlt : mb < w.heap.size := (Array.getElem?_eq_some_iff.1 m3).1
  have hoth : ∀ k, k ≠ mb → ({ w with heap := w.heap.setIfInBounds mb (.map ents' clock') } : World).heap[k]? = w.heap[k]? := fun k hk => by
    simp only [Array.getElem?_setIfInBounds, if_neg (Ne.symm hk)]
  refine markW_sound (o := .cell b off) hi ⟨b, hb, rfl⟩ hu (hi.low.trans ⟨rfl, rfl, rfl, by simp, fun k hk => hoth k (by omega)⟩) (by simp) rfl rfl (fun _ _ h => h) (fun ad v h => ?_) (fun b' o' h1 h2 => ?_) (fun b' o' h => ⟨o', h, .inl rfl⟩) rfl ?_
  · have hm := hi.mem ad v h
    have hne : ad.block ≠ mb := by
      intro e
      cases ad with
      | mk ab ao asp =>
        simp only at e
        subst e
        cases asp with
        | none => rw [m4] at h; cases h
        | some q => simp [World.cell?, m3] at hm
    rw [← hm]
    exact World.cell?_of_block (w := w) (hoth ad.block hne)
  · refine ⟨hoth b' ?_, rfl, fun _ => rfl⟩
    rintro rfl
    rw [m2] at h1
    cases h1
    exact h2 rfl
  · exact ⟨b, hb, mb, ents', clock', rfl, m2, heap_setObj w mb _ hlt, m4, m5, m6, m8, m7⟩

theorem run_setObj {b : Nat} {es : Array MapEntry} {clock : Nat} (ob : Obj) (h : w.heap[b]? = some (.map es clock)) : (setObj b ob).run P w = .ok () { w with heap := w.heap.setIfInBounds b ob } := by
  simp [setObj, Sem.run, h]

theorem stays_int (n : Int) : Instr.keyThatStays (.int .i64 n) (.int .i64 n) = pure (.int .i64 n) := by
  have : Instr.sameBits 10000 (.int .i64 n) (.int .i64 n) = true := by simp [Instr.sameBits]
  simp [Instr.keyThatStays, this]

theorem toDs_agg {v : PV} {ds : List D} (h : aggDs v = some ds) {u : Value} (hr : RelA g v u) : ∃ us : List Value, u = .agg us.toArray ∧ us.length = ds.length ∧ ∀ (i : Nat) d x, ds[i]? = some d → us[i]? = some x → RelD g.m d x := by
  unfold aggDs at h
  split at h
  · rename_i cs
    obtain ⟨us, h1, h2, h3⟩ := hr
    obtain ⟨k1, k2⟩ := toDs_rel h
    refine ⟨us, h1, h2.trans k1.symm, fun i d x hd hx => ?_⟩
    obtain ⟨c, q1, q2⟩ := k2 i d hd
    exact toD_rel q2 (h3 i c x q1 hx)
  · cases h

theorem upd_goes (hc : CfgOk P cfg) (hi : Inv base w0 w g d s vals) (hgl : GlobOk cfg g) (ha : a.tmps = vals) {t : TypeId} {m k v : Operand} (ho : o.op = .mapUpdate t m k v) {pv : PV} {s1 : St}
    (h : runMap cfg (.upd t m k v) s = some (pv, s1)) : Goes P o a base w0 w g d s vals (put s1 o.dst pv) := by
  unfold runMap at h
  obtain ⟨e, h1, h⟩ := seqO_eq.1 h
  obtain ⟨⟨p, V, es⟩, h3, h⟩ := seqO_eq.1 h
  obtain ⟨n, h4, h⟩ := seqO_eq.1 h
  obtain ⟨ds, h5, h⟩ := seqO_eq.1 h
  split at h
  case isFalse => cases h
  rename_i hV
  simp only [Option.some.injEq, Prod.mk.injEq] at h
  obtain ⟨rfl, rfl⟩ := h
  obtain ⟨kt, info, zs, u1, u2, u3, u4⟩ := hc.mapT t e h1
  obtain ⟨l, off, b, hat, rfl, hb, hpv, mb, ents, clock, m1, m2, m3, m4, m5, m6, m8, m7⟩ := mapPlace_sound hi ha h3
  have hk := int64_val hi hgl ha h4
  have hA : RelA g (s.val cfg v) (a.eval v) := by
    refine val_plain hi hgl ha rfl ?_ ?_ ?_ ?_ <;> unfold aggDs at h5 <;> split at h5 <;> first | cases h5 | (rename_i hv; rw [hv]; first | (intro e; cases e; done) | (intro _ _ _ e; cases e; done) | rfl)
  obtain ⟨us, w1, w2, w3⟩ := toDs_agg h5 hA
  rw [m1] at hpv
  have hV' : ds.length = V := hV
  have hent : ∃ us' : List Value, a.eval v = .agg us'.toArray ∧ us'.length = V ∧ ds.length = V ∧ ∀ (i : Nat) d u, ds[i]? = some d → us'[i]? = some u → RelD g.m d u := ⟨us, w1, by rw [w2]; exact hV', hV', w3⟩
  rcases findNow_rel n es ents.toList 0 (by simpa using m5) (fun j x e hx he => (m7 j x e hx (by simpa using he)).1) with ⟨q1, q2, q3⟩ | ⟨j', x, e', q1, q2, q3, q4, q5, q6⟩
  · rw [mapPut_none q2]
    obtain ⟨i1, st1⟩ := map_inv (es' := es ++ [(n, ds)]) (ents' := ents.push { key := .int .i64 n, val := a.eval v, born := clock }) (clock := clock) (clock' := clock + 1) hi hat hb hpv m2 m3 m4 (by simp [m5]) (by
        rw [List.map_append, List.nodup_append]
        refine ⟨m6, by simp, fun y hy z hz e => ?_⟩
        simp only [List.map_cons, List.map_nil, List.mem_singleton] at hz
        obtain ⟨q, hq, rfl⟩ := List.mem_map.1 hy
        exact q2 q hq (e.trans hz)) (MapKept.stamped_push m8 fun e0 he0 hk0 => by
        obtain ⟨j0, hj0⟩ := List.getElem?_of_mem he0
        have hlt0 : j0 < es.length := by have := (List.getElem?_eq_some_iff.1 hj0).1; simp at this; omega
        have := (m7 j0 es[j0] e0 (List.getElem?_eq_getElem hlt0) (by simpa using hj0)).1
        rw [hk0] at this
        exact q2 es[j0] (List.getElem_mem hlt0) (by cases this; rfl)) (fun j y e2 hy he => by
        by_cases hj : j < es.length
        · rw [List.getElem?_append_left hj] at hy
          rw [Array.getElem?_push, if_neg (by omega)] at he
          exact m7 j y e2 hy he
        · rw [List.getElem?_append_right (by omega)] at hy
          have hj2 : j = es.length := by
            have := (List.getElem?_eq_some_iff.1 hy).1
            simp at this; omega
          subst hj2
          rw [Array.getElem?_push, if_pos m5.symm] at he
          simp only [Nat.sub_self, List.getElem?_cons_zero, Option.some.injEq] at hy he
          subst hy; subst he
          exact ⟨rfl, hent⟩)
    refine goes_of_pend (v := undef) (.inr ⟨?_, rfl⟩) i1 st1 rfl
    simp only [execOp, ho, Instr.mapUpdate, m1, hk, Sem.run_bind, run_underlying u1, Result.andThen_ok, run_getObj m3, Sem.run_pure, checkKey_int u2, findKey_run u2 q3, run_setObj _ m3]
  · rw [mapPut_some q1 q3 q4]
    have hjlt : j' < es.length := (List.getElem?_eq_some_iff.1 q1).1
    have hkey : e'.key = .int .i64 n := by rw [← q3]; exact (m7 j' x e' q1 (by simpa using q2)).1
    obtain ⟨i1, st1⟩ := map_inv (es' := es.set j' (n, ds)) (ents' := ents.modify j' fun e => { e with key := .int .i64 n, val := a.eval v }) (clock := clock) (clock' := clock) hi hat hb hpv m2 m3 m4 (by simp [m5]) (by
        have : (es.set j' (n, ds)).map (·.1) = es.map (·.1) := by
          rw [List.map_set]
          apply List.ext_getElem?
          intro q
          rw [List.getElem?_set]
          split
          · rename_i e; subst e
            rw [if_pos (by simpa using hjlt), List.getElem?_map, q1]; simp [q3]
          · rfl
        rw [this]; exact m6) (MapKept.stamped_modify m8 j' _ (fun _ _ => rfl) fun e0 _ h0 => by
        have hq2 : ents[j']? = some e' := by simpa using q2
        rw [hq2] at h0
        obtain rfl := Option.some.inj h0
        exact hkey.symm) (fun j y e2 hy he => by
        rw [List.getElem?_set] at hy
        rw [Array.getElem?_modify] at he
        by_cases hj : j' = j
        · subst hj
          rw [if_pos rfl, if_pos hjlt] at hy
          rw [if_pos rfl] at he
          obtain rfl := Option.some.inj hy
          cases hq : ents[j']? with
          | none => rw [hq] at he; cases he
          | some e3 =>
            rw [hq] at he
            obtain rfl := Option.some.inj he
            exact ⟨rfl, hent⟩
        · rw [if_neg hj] at hy he
          exact m7 j y e2 hy he)
    refine goes_of_pend (v := undef) (.inr ⟨?_, rfl⟩) i1 st1 rfl
    have hq2 : ents[j']? = some e' := by simpa using q2
    simp only [execOp, ho, Instr.mapUpdate, m1, hk, Sem.run_bind, run_underlying u1, Result.andThen_ok, run_getObj m3, Sem.run_pure, checkKey_int u2, findKey_run u2 q6, Nat.zero_add, hq2, Option.map_some, Option.getD_some, hkey, stays_int, run_setObj _ m3]

theorem map_eraseIdx' {α β : Type} (f : α → β) : ∀ (l : List α) (j : Nat), (l.eraseIdx j).map f = (l.map f).eraseIdx j
  | [], _ => by simp
  | x :: l, 0 => by simp
  | x :: l, j + 1 => by simp [map_eraseIdx' f l j]

theorem del_goes (hc : CfgOk P cfg) (hi : Inv base w0 w g d s vals) (hgl : GlobOk cfg g) (ha : a.tmps = vals) {t : TypeId} {m k : Operand} {c : Call} (ho : o.op = .call c) (hb0 : c.callee = .builtin .delete) (ht : c.argTypes[0]? = some t) (hargs : c.args.toList = [m, k]) {pv : PV} {s1 : St}
    (h : runMap cfg (.del t m k) s = some (pv, s1)) : Goes P o a base w0 w g d s vals (put s1 o.dst pv) := by
  unfold runMap at h
  obtain ⟨e, h1, h⟩ := seqO_eq.1 h
  obtain ⟨⟨p, V, es⟩, h3, h⟩ := seqO_eq.1 h
  obtain ⟨n, h4, h⟩ := seqO_eq.1 h
  simp only [Option.some.injEq, Prod.mk.injEq] at h
  obtain ⟨rfl, rfl⟩ := h
  obtain ⟨kt, info, zs, u1, u2, u3, u4⟩ := hc.mapT t e h1
  obtain ⟨l, off, b, hat, rfl, hb, hpv, mb, ents, clock, m1, m2, m3, m4, m5, m6, m8, m7⟩ := mapPlace_sound hi ha h3
  have hk := int64_val hi hgl ha h4
  have hca : c.args = #[m, k] := by rw [← hargs]
  rw [m1] at hpv
  rcases findNow_rel n es ents.toList 0 (by simpa using m5) (fun j x e hx he => (m7 j x e hx (by simpa using he)).1) with ⟨q1, q2, q3⟩ | ⟨j', x, e', q1, q2, q3, q4, q5, q6⟩
  · rw [mapDel_none q2]
    obtain ⟨i1, st1⟩ := map_inv (es' := es) (ents' := ents) (clock := clock) (clock' := clock) hi hat hb hpv m2 m3 m4 m5 m6 m8 m7
    refine goes_of_pend (pv := .tup []) (v := .tuple #[]) (.inl (builtin_exec ho hb0 ?_)) i1 st1 ⟨[], rfl, rfl, fun j c v h _ => by simp at h⟩
    simp only [hca, builtin, Builtin.delete_, ht, List.map_toArray, List.map_cons, List.map_nil, m1, hk]
    simp [run_underlying u1, run_getObj m3, checkKey_int u2, findKey_run u2 q3, run_setObj _ m3]
  · rw [mapDel_some q1 q3 q4]
    have hjlt : j' < es.length := (List.getElem?_eq_some_iff.1 q1).1
    obtain ⟨i1, st1⟩ := map_inv (es' := es.eraseIdx j') (ents' := ents.eraseIdxIfInBounds j') (clock := clock) (clock' := clock) hi hat hb hpv m2 m3 m4 (by
        rw [Array.eraseIdxIfInBounds_eq]
        split
        · rename_i hlt; simp [List.length_eraseIdx, hjlt, m5]
        · rename_i hlt; omega) (by
        have : (es.eraseIdx j').map (·.1) = (es.map (·.1)).eraseIdx j' := map_eraseIdx' ..
        rw [this]; exact m6.sublist (List.eraseIdx_sublist ..)) (MapKept.stamped_erase m8 j') (fun j y e2 hy he => by
        have hlt : j' < ents.size := by omega
        rw [Array.eraseIdxIfInBounds_eq, dif_pos hlt, Array.getElem?_eraseIdx] at he
        rw [List.getElem?_eraseIdx] at hy
        split at hy
        · rename_i hj; rw [if_pos hj] at he; exact m7 j y e2 hy he
        · rename_i hj; rw [if_neg hj] at he; exact m7 (j + 1) y e2 hy he)
    refine goes_of_pend (pv := .tup []) (v := .tuple #[]) (.inl (builtin_exec ho hb0 ?_)) i1 st1 ⟨[], rfl, rfl, fun j c v h _ => by simp at h⟩
    simp only [hca, builtin, Builtin.delete_, ht, List.map_toArray, List.map_cons, List.map_nil, m1, hk]
    simp [run_underlying u1, run_getObj m3, checkKey_int u2, findKey_run u2 q6, run_setObj _ m3]

theorem lenM_goes (hc : CfgOk P cfg) (hi : Inv base w0 w g d s vals) (ha : a.tmps = vals) {t : TypeId} {m : Operand} {c : Call} (ho : o.op = .call c) (hb0 : c.callee = .builtin .len) (ht : c.argTypes[0]? = some t) (hargs : c.args.toList = [m]) {e : TypeId} (hm : cfg.mapT t = some e) {pv : PV} {s1 : St}
    (h : runMap cfg (.len t m) s = some (pv, s1)) : Goes P o a base w0 w g d s vals (put s1 o.dst pv) := by
  unfold runMap at h
  obtain ⟨⟨p, V, es⟩, h3, h⟩ := seqO_eq.1 h
  simp only [Option.some.injEq, Prod.mk.injEq] at h
  obtain ⟨rfl, rfl⟩ := h
  obtain ⟨kt, info, zs, u1, u2, u3, u4⟩ := hc.mapT t e hm
  obtain ⟨l, off, b, hat, rfl, hb, hpv, mb, ents, clock, m1, m2, m3, m4, m5, m6, m8, m7⟩ := mapPlace_sound hi ha h3
  have hca : c.args = #[m] := by rw [← hargs]
  refine goes_same (builtin_exec ho hb0 ?_) hi lit_rel
  simp only [hca, builtin, Builtin.len_, ht, List.map_toArray, List.map_cons, List.map_nil, m1]
  simp [run_underlying u1, run_getObj m3, goInt, m5]

theorem map_goes (hc : CfgOk P cfg) (hi : Inv base w0 w g d s vals) (hgl : GlobOk cfg g) (ha : a.tmps = vals) {mo : MapOp} (hm : mapOf cfg o.op = some mo) {pv : PV} {s1 : St}
    (h : runMap cfg mo s = some (pv, s1)) : Goes P o a base w0 w g d s vals (put s1 o.dst pv) := by
  unfold mapOf at hm
  split at hm
  · rename_i t m k ho
    obtain rfl := Option.some.inj hm
    exact look_goes hc hi hgl ha ho h
  · rename_i t m k v ho
    obtain rfl := Option.some.inj hm
    exact upd_goes hc hi hgl ha ho h
  · rename_i c ho
    split at hm
    · rename_i hb
      split at hm
      · rename_i t m k ht hargs
        obtain rfl := Option.some.inj hm
        exact del_goes hc hi hgl ha ho hb ht hargs h
      · cases hm
    · rename_i hb
      split at hm
      · rename_i t m ht hargs
        cases hmt : cfg.mapT t with
        | none => rw [hmt] at hm; cases hm
        | some e =>
          rw [hmt] at hm
          obtain rfl := Option.some.inj hm
          exact lenM_goes hc hi ha ho hb ht hargs hmt h
      · cases hm
    · cases hm
  · cases hm
end
end Go.Vx
namespace Go.Vx
open Go Go.RowKit

section
variable {P : Program} {cfg : Cfg} {base : Nat} {w0 w : World} {g : Gh} {d : Nat} {s : St} {vals : Array Value} {o : Oper} {a : Act}

theorem m_none (hi : Inv base w0 w g d s vals) {b : Nat} (h : w.heap.size ≤ b) (j : Nat) : g.m ⟨b, j, none⟩ = none := by
  cases hm : g.m ⟨b, j, none⟩ with
  | none => rfl
  | some v => have := m_lt hi hm; simp at this; omega

/-- blocks that are new, beside those that are as they were -/
theorem newgh_sound (hi : Inv base w0 w g d s vals) {w1 : World} {g1 : Gh} {nbs : List Box} {nbl : List Nat} (hB : Below w.heap.size w w1) (hm : g1.m = g.m) (hbt : g1.bt = g.bt)
    (hold : ∀ b, b < w.heap.size → g1.own b = g.own b) (hnew : ∀ b o', w.heap.size ≤ b → g1.own b = some o' → b < w1.heap.size ∧ ∀ d' i j, o' ≠ .tmp d' i j)
    (hblk : g1.blk = g.blk ++ nbl) (hlen : nbl.length = nbs.length) (hnd : nbl.Nodup) (hge : ∀ b ∈ nbl, w.heap.size ≤ b)
    (hbox : ∀ (l b : Nat) bx, nbl[l]? = some b → nbs[l]? = some bx → BoxRel w1 g1 b bx) :
    Inv base w0 w1 g1 d { s with bx := s.bx ++ nbs } vals ∧ Stp d s { s with bx := s.bx ++ nbs } w w1 g g1 ∧ Grows g g1 := by
  have hbase : base ≤ w.heap.size := Nat.le_trans hi.hb hi.low.size
  have hg : Grows g g1 := ⟨fun a v h => by rw [hm]; exact h, fun l b h => by
    rw [hblk, List.getElem?_append_left (List.getElem?_eq_some_iff.1 h).1]; exact h, hbt⟩
  have hlow : Below base w0 w1 := hi.low.trans ⟨hB.os, hB.tape, hB.output, hB.size, fun k hk => hB.block k (by omega)⟩
  obtain ⟨h1, h2⟩ := inv_grow (w1 := w1) (g1 := g1) (nbs := nbs) (nbl := nbl) hi hlow hg
    (fun ad v h => by
      rw [hm] at h
      have h' := hi.mem ad v h
      rw [World.cell?_of_block (w := w) (hB.block ad.block (World.block_lt_of_cell? w ad h'))]
      exact h')
    (fun b o' hb _ => ⟨hB.block b (hi.own_lt b o' hb), hold b (hi.own_lt b o' hb), fun _ => by rw [hm]⟩)
    (fun b o' hb => by
      by_cases hlt : b < w.heap.size
      · rw [hold b hlt] at hb; exact .inl hb
      · obtain ⟨q1, q2⟩ := hnew b o' (by omega) hb
        exact .inr ⟨by omega, q1, fun d' i j e => absurd e (q2 d' i j)⟩)
    hB.size hblk hlen hnd (fun b hb => by
      rw [own_none hi (hge b hb)]
      exact fun e => by cases e) hbox
  exact ⟨h1, h2, hg⟩

/-- a new variable with a map -/
theorem newmap_sound (hi : Inv base w0 w g d s vals) {w1 : World} {v : Value} {V : Nat} {es : List (Int × List D)} {ents : Array MapEntry} (hN : NewMapBox w w1 v ents) (m5 : ents.size = es.length) (m6 : (es.map (·.1)).Nodup)
    (m7 : ∀ (j : Nat) x e, es[j]? = some x → ents[j]? = some e → e.key = .int .i64 x.1 ∧ ∃ us : List Value, e.val = .agg us.toArray ∧ us.length = V ∧ x.2.length = V ∧ ∀ (i : Nat) d v, x.2[i]? = some d → us[i]? = some v → RelD g.m d v) :
    ∃ g1, Inv base w0 w1 g1 d { s with bx := s.bx ++ [[.mp V es]] } vals ∧ Stp d s { s with bx := s.bx ++ [[.mp V es]] } w w1 g g1 ∧ RelP w1 g1 vals { s with bx := s.bx ++ [[.mp V es]] } (.ptr s.bx.length 0) v := by
  obtain ⟨b, mb, rfl, hB, hb, hmb, hne, T, clock, h1, h2, h8⟩ := hN
  have hlt : b < w1.heap.size := (Array.getElem?_eq_some_iff.1 h1).1
  have hltm : mb < w1.heap.size := (Array.getElem?_eq_some_iff.1 h2).1
  obtain ⟨k1, k2, hg⟩ := newgh_sound (g1 := { g with own := fun x => if x = b then some .box else if x = mb then some (.cell b 0) else g.own x, blk := g.blk ++ [b] }) (nbs := [[.mp V es]]) (nbl := [b]) hi hB rfl rfl
    (fun x hx => by simp only; rw [if_neg (by omega), if_neg (by omega)])
    (fun x o' hx ho => by
      simp only at ho
      split at ho
      · rename_i e; subst e
        obtain rfl := Option.some.inj ho
        exact ⟨hlt, fun _ _ _ e => by cases e⟩
      · split at ho
        · rename_i e; subst e
          obtain rfl := Option.some.inj ho
          exact ⟨hltm, fun _ _ _ e => by cases e⟩
        · rw [own_none hi hx] at ho; cases ho)
    rfl rfl (by simp) (fun x hx => by simp only [List.mem_singleton] at hx; subst hx; exact hb)
    (fun l x bx hl hbx => by
      cases l with
      | succ l => simp at hl
      | zero =>
        simp only [List.getElem?_cons_zero, Option.some.injEq] at hl hbx
        subst hl; subst hbx
        refine ⟨by simp, fun j => m_none hi hb j, #[.map (some mb)], T, h1, rfl, fun j c u hc hu => ?_⟩
        cases j with
        | succ j => simp at hc
        | zero =>
          simp only [List.getElem?_cons_zero, Option.some.injEq] at hc
          subst hc
          have hu' : u = .map (some mb) := by simpa using hu.symm
          subst hu'
          exact ⟨mb, ents, clock, rfl, by simp [Ne.symm hne], h2, fun j => m_none hi hmb j, m5, m6, h8, m7⟩)
  refine ⟨_, k1, k2, b, ?_, rfl⟩
  simp only
  rw [List.getElem?_append_right (by rw [hi.blen]; exact Nat.le_refl _), hi.blen]
  simp

/-- a variable with a map -/
theorem mapBox_sound (hi : Inv base w0 w g d s vals) (hgl : GlobOk cfg g) (ha : a.tmps = vals) {x : Operand} {V : Nat} {es : List (Int × List D)} (h : mapBox cfg x s = some (V, es)) :
    ∃ b mb ents, a.eval x = .pointer (some ⟨b, 0, none⟩) ∧ MapBox w b mb ents ∧ ents.size = es.length ∧ (es.map (·.1)).Nodup ∧
      ∀ (j : Nat) x e, es[j]? = some x → ents[j]? = some e → e.key = .int .i64 x.1 ∧ ∃ us : List Value, e.val = .agg us.toArray ∧ us.length = V ∧ x.2.length = V ∧ ∀ (i : Nat) d v, x.2[i]? = some d → us[i]? = some v → RelD g.m d v := by
  unfold mapBox at h
  split at h
  · rename_i l hv
    split at h
    · rename_i V' es' hbx
      simp only [Option.some.injEq, Prod.mk.injEq] at h
      obtain ⟨rfl, rfl⟩ := h
      obtain ⟨b, e1, e2⟩ := val_ptr hi hgl ha hv
      obtain ⟨q1, q2, cs, T, q3, q4, q5⟩ := hi.boxes l b _ e1 hbx
      obtain ⟨c0, hcs⟩ : ∃ c0, cs = #[c0] := by
        obtain ⟨l⟩ := cs
        match l, q4 with
        | [c0], _ => exact ⟨c0, rfl⟩
      subst hcs
      obtain ⟨mb, ents, clock, m1, m2, m3, m4, m5, m6, m8, m7⟩ := q5 0 (.mp V' es') c0 rfl (by simp)
      subst m1
      exact ⟨b, mb, ents, e2, ⟨T, clock, q3, m3, m8⟩, m5, m6, m7⟩
    · cases h
  · cases h

theorem isNilP_val (hi : Inv base w0 w g d s vals) (hgl : GlobOk cfg g) (ha : a.tmps = vals) {x : Operand} (h : isNilP (s.val cfg x) = true) : a.eval x = .pointer none := by
  unfold isNilP at h
  split at h
  · rename_i hv; exact val_lit hi hgl ha hv
  · cases h

theorem keys_of {es : List (Int × List D)} {ents : Array MapEntry} (m5 : ents.size = es.length) (m7 : ∀ (j : Nat) x e, es[j]? = some x → ents[j]? = some e → e.key = .int .i64 x.1) :
    ents.toList.map (·.key) = (es.map (·.1)).map (.int .i64) := by
  apply List.ext_getElem?
  intro j
  simp only [List.getElem?_map]
  by_cases hj : j < es.length
  · have h1 : es[j]? = some es[j] := List.getElem?_eq_getElem hj
    have h2 : ents.toList[j]? = some ents[j] := by rw [Array.getElem?_toList]; exact Array.getElem?_eq_getElem (by omega)
    rw [h1, h2]
    simp only [Option.map_some]
    rw [m7 j es[j] ents[j] h1 (Array.getElem?_eq_getElem (by omega))]
  · rw [List.getElem?_eq_none (l := ents.toList) (by simp; omega), List.getElem?_eq_none (l := es) (by omega)]; rfl

theorem hookM_sound (hi : Inv base w0 w g d s a.tmps) (hgl : GlobOk cfg g) {c : Call} {f : FuncId} (ho : o.op = .call c) (hx : c.callee = .value (.func f)) {h : Hook} (hF : HookFn P f h) (hk : (∃ V, h = .mapNew V) ∨ h = .mapCopy ∨ h = .mapKeys)
    {pv : PV} {s1 : St} (hr : runHook cfg h c.args.toList s = some (pv, s1)) {Q : Exit → Act → World → Prop} (R : Act → World → Prop) (hR : ∀ v w1 g1, Inv base w0 w1 g1 d s1 a.tmps → Stp d s s1 w w1 g g1 → RelP w1 g1 a.tmps s1 pv v → R (a.put o.dst v) w1) :
    o.wp P a w R Q := by
  have hone : ∀ x, c.args.toList = [x] → c.args.map a.eval = #[a.eval x] := fun x hargs => by
    have : c.args = #[x] := by rw [← hargs]
    rw [this]; simp
  rcases hk with ⟨V, rfl⟩ | rfl | rfl
  · obtain ⟨hE, hC⟩ := hF
    have hrun := enter_run (a := a) (w := w) ho hx hE
    unfold runHook at hr
    split at hr <;> first | (rename_i e _; cases e; done) | (rename_i e; cases e; done) | skip
    · rename_i hh hargs
      cases hh
      simp only [Option.some.injEq, Prod.mk.injEq] at hr
      obtain ⟨rfl, rfl⟩ := hr
      have hargs' : c.args.map a.eval = #[] := by
        have : c.args = #[] := by rw [← Array.toList_inj, hargs]
        rw [this]; simp
      rw [hargs'] at hrun
      unfold Oper.wp
      rw [hrun, Oper.upon_enter]
      refine (hC w).mono fun en w' he => ?_
      obtain ⟨v, rfl, hN⟩ := he
      obtain ⟨g1, k1, k2, k3⟩ := newmap_sound (es := []) (V := V) hi hN rfl (by simp) (fun j x e h => by simp at h)
      exact hR v w' g1 k1 k2 k3
    · cases hr
  · obtain ⟨hE, hN0, hC⟩ := hF
    have hrun := enter_run (a := a) (w := w) ho hx hE
    unfold runHook at hr
    split at hr <;> first | (rename_i e _; cases e; done) | (rename_i e; cases e; done) | skip
    · rename_i x hh hargs
      rw [hone x hargs] at hrun
      unfold Oper.wp
      rw [hrun, Oper.upon_enter]
      split at hr
      · rename_i hn
        simp only [Option.some.injEq, Prod.mk.injEq] at hr
        obtain ⟨rfl, rfl⟩ := hr
        rw [isNilP_val hi hgl rfl hn]
        refine (hN0 w).mono fun en w' he => ?_
        obtain ⟨rfl, rfl⟩ := he
        exact hR _ _ g hi (Stp.refl d s _ g) lit_rel
      · obtain ⟨⟨V, es⟩, h1, h2⟩ := seqO_eq.1 hr
        simp only [Option.some.injEq, Prod.mk.injEq] at h2
        obtain ⟨rfl, rfl⟩ := h2
        obtain ⟨b, mb, ents, e1, e2, e3, e4, e5⟩ := mapBox_sound hi hgl rfl h1
        rw [e1]
        refine (hC b mb ents w e2).mono fun en w' he => ?_
        obtain ⟨v, rfl, hN⟩ := he
        obtain ⟨g1, k1, k2, k3⟩ := newmap_sound (es := es) (V := V) hi hN e3 e4 e5
        exact hR v w' g1 k1 k2 k3
    · cases hr
  · obtain ⟨hE, hN0, hC⟩ := hF
    have hrun := enter_run (a := a) (w := w) ho hx hE
    unfold runHook at hr
    split at hr <;> first | (rename_i e _; cases e; done) | (rename_i e; cases e; done) | skip
    · rename_i x hh hargs
      rw [hone x hargs] at hrun
      unfold Oper.wp
      rw [hrun, Oper.upon_enter]
      split at hr
      · rename_i hn
        simp only [Option.some.injEq, Prod.mk.injEq] at hr
        obtain ⟨rfl, rfl⟩ := hr
        rw [isNilP_val hi hgl rfl hn]
        refine (hN0 w).mono fun en w' he => ?_
        obtain ⟨rfl, rfl⟩ := he
        exact hR _ _ g hi (Stp.refl d s _ g) (show RelD g.m .nil (.slice none 0 0) from .nil none)
      · obtain ⟨⟨V, es⟩, h1, h2⟩ := seqO_eq.1 hr
        split at h2
        case isFalse => cases h2
        rename_i hle
        obtain ⟨hle, hin⟩ := hle
        simp only [Option.some.injEq, Prod.mk.injEq] at h2
        obtain ⟨rfl, rfl⟩ := h2
        obtain ⟨b, mb, ents, e1, e2, e3, e4, e5⟩ := mapBox_sound hi hgl rfl h1
        rw [e1]
        refine (hC b mb ents (es.map (·.1)) w e2 (keys_of e3 fun j x e hx he => (e5 j x e hx he).1) (fun k hk => by obtain ⟨x, hx, rfl⟩ := List.mem_map.1 hk; exact of_decide_eq_true (List.all_eq_true.1 hin x hx)) (by simpa using hle)).mono fun en w' he => ?_
        obtain ⟨v, T, rfl, hB, hrow, hnil⟩ := he
        cases es with
        | nil =>
          have hv : v = .slice none 0 0 := hnil.2 rfl
          subst hv
          obtain ⟨k1, k2, _⟩ := newgh_sound (g1 := g) (nbs := []) (nbl := []) hi hB rfl rfl (fun _ _ => rfl) (fun x o' hx ho => by rw [own_none hi hx] at ho; cases ho) (by simp) rfl (by simp) (fun _ h => by cases h) (fun l b bx h => by simp at h)
          have es : ({ s with bx := s.bx ++ [] } : St) = s := by simp
          rw [es] at k1 k2
          exact hR _ _ g k1 k2 (show RelD g.m .nil (.slice none 0 0) from .nil none)
        | cons y ys =>
          rcases hrow.2 with ⟨rfl, hz⟩ | ⟨gb, cap, cur, rfl, hgb, r1, r2, r3, r4, r5⟩
          · simp at hz
          · have hlt : gb < w'.heap.size := (Array.getElem?_eq_some_iff.1 r1).1
            obtain ⟨k1, k2, hg⟩ := newgh_sound (g1 := { g with own := fun x => if x = gb then some (.res 0) else g.own x }) (nbs := []) (nbl := []) hi hB rfl rfl
              (fun x hx => by simp only; rw [if_neg (by omega)])
              (fun x o' hx ho => by
                simp only at ho
                split at ho
                · rename_i e; subst e
                  obtain rfl := Option.some.inj ho
                  exact ⟨hlt, fun _ _ _ e => by cases e⟩
                · rw [own_none hi hx] at ho; cases ho) (by simp) rfl (by simp) (fun _ h => by cases h) (fun l b bx h => by simp at h)
            have es : ({ s with bx := s.bx ++ [] } : St) = s := by simp
            rw [es] at k1 k2
            refine hR _ _ _ k1 k2 ?_
            have hlen : (rowsOf (sortI (((y :: ys).map (·.1))))).length = (((y :: ys).map (·.1))).length := by rw [rowsOf_len, sortI_len]
            refine ⟨gb, 0, cap, cur, T, by rw [hlen], by simp, r1, by rw [hlen]; exact r2, r3, (fun h => absurd h (by decide)), by show 0 + cap * 1 ≤ _; omega, rowsOf_row, fun j x h => ?_, fun _ j => m_none hi hgb j, (by intro h; cases h)⟩
            rw [rowsOf_flat, List.getElem?_map] at h
            cases hq : (sortI (((y :: ys).map (·.1))))[j]? with
            | none => rw [hq] at h; cases h
            | some z =>
              rw [hq] at h
              obtain rfl := Option.some.inj h
              have h6 : (cur.toList.take (((y :: ys).map (·.1)).length * 1))[j]? = some (.int .i64 z) := by rw [r5, List.getElem?_map, hq]; rfl
              have hj : j < ((y :: ys).map (·.1)).length := by
                have := (List.getElem?_eq_some_iff.1 hq).1
                rw [sortI_len] at this; exact this
              rw [Nat.mul_one, List.getElem?_take_of_lt hj, Array.getElem?_toList] at h6
              exact ⟨.int .i64 z, by rw [Nat.zero_add]; exact h6, .lit _ rfl⟩
    · cases hr
end
end Go.Vx
namespace Go.Vx
open Go Go.RowKit

/-- what the answers of calls are worth -/
def CallOk (P : Program) (cfg : Cfg) (e : Job → Option Out) : Prop :=
  ∀ (f : FuncId) (args : List PV) (out : Out) (base : Nat) (w0 w : World) (g : Gh) (d : Nat) (s : St) (vals : Array Value) (us : List Value), e (.call f args s.bx) = some out → Inv base w0 w g d s vals → GlobOk cfg g →
    us.length = args.length → (∀ (j : Nat) c u, args[j]? = some c → us[j]? = some u → RelA g c u) →
    Calls P f us.toArray w (fun
      | .returned v, w' => ∃ r s' g', finSt out s = some (r, s') ∧ Inv base w0 w' g' d s' vals ∧ Stp d s s' w w' g g' ∧ RelP w' g' vals s' r v
      | _, _ => False)

/-- where an operation leads -/
def Reach (base : Nat) (w0 : World) (d : Nat) (s : St) (w : World) (g : Gh) (df : List Deferred) (s' : St) (a' : Act) (w' : World) : Prop :=
  a'.defers = df ∧ ∃ g', Inv base w0 w' g' d s' a'.tmps ∧ Stp d s s' w w' g g'

section
variable {P : Program} {cfg : Cfg} {base : Nat} {w0 w : World} {g : Gh} {d : Nat} {s : St} {vals : Array Value} {o : Oper} {a : Act} {e : Job → Option Out}

theorem put_act (a : Act) (dst : Option Tmp) (v : Value) : (a.put dst v).tmps = putVals a.tmps dst v := by cases dst <;> rfl
theorem put_df (a : Act) (dst : Option Tmp) (v : Value) : (a.put dst v).defers = a.defers := by cases dst <;> rfl

theorem upon_goes {Q : Exit → Act → World → Prop} {s' : St} (h : Goes P o a base w0 w g d s a.tmps s') : o.wp P a w (Reach base w0 d s w g a.defers s') Q := by
  obtain ⟨v, w', g', h1, h2, h3, _⟩ := h
  unfold Oper.wp
  rcases h1 with h1 | ⟨h1, rfl⟩
  · rw [h1, Oper.upon_value]
    exact ⟨put_df .., g', by rw [put_act]; exact h2, h3⟩
  · rw [h1, Oper.upon_skip]
    exact ⟨put_df .., g', by rw [put_act]; exact h2, h3⟩

theorem call_run (hc : CfgOk P cfg) {c : Call} {x : Operand} (ho : o.op = .call c) (hx : c.callee = .value x) {f : FuncId} {fn : Func} {cap : Array Value} (hv : a.eval x = .func (.func f) #[] cap) (hf : cfg.fn f = some fn) :
    (execOp a.eval o).run P w = .ok (.enter f (c.args.map a.eval ++ cap)) w := by
  obtain ⟨h1, h2, h3⟩ := hc.fn f fn hf
  have h3' : fn.body.isNone = false := by cases hb : fn.body <;> simp_all
  simp only [execOp, ho, resolve, hx, hv, Deferred.ofValue, invoke, callFunc, Sem.run_bind, Sem.run_pure, Result.andThen_ok, run_program, h1, h2, h3', Bool.false_eq_true, if_false, Array.empty_append]

theorem hook_run {c : Call} {f : FuncId} (ho : o.op = .call c) (hx : c.callee = .value (.func f)) {n : Next} {w' : World} (h : (callFunc f (c.args.map a.eval)).run P w = .ok n w') : (execOp a.eval o).run P w = .ok n w' := by
  simp only [execOp, ho, resolve, hx, Act.eval, Deferred.ofValue, invoke, Sem.run_bind, Sem.run_pure, Result.andThen_ok, Array.empty_append, Array.append_empty]
  exact h

theorem hook_sound (hc : CfgOk P cfg) (hi : Inv base w0 w g d s a.tmps) (hgl : GlobOk cfg g) {h : Hook} {args : List Operand} (hh : hookOf cfg o.op = some (h, args)) {pv : PV} {s1 : St} (hr : runHook cfg h args s = some (pv, s1)) {Q : Exit → Act → World → Prop} :
    o.wp P a w (Reach base w0 d s w g a.defers (put s1 o.dst pv)) Q := by
  unfold hookOf at hh
  split at hh
  · rename_i c ho
    split at hh
    · rename_i f hx
      cases hf : cfg.hook f with
      | none => rw [hf] at hh; cases hh
      | some k =>
        rw [hf] at hh
        obtain ⟨e1, e2⟩ := Prod.mk.inj (Option.some.inj hh)
        subst e1; subst e2
        have hF := hc.hook f k hf
        have hone : ∀ x, c.args.toList = [x] → c.args.map a.eval = #[a.eval x] := fun x hargs => by
          have : c.args = #[x] := by rw [← hargs]
          rw [this]; simp
        -- a nil slice
        have hnil : ∀ x, s.val cfg x = .dat .nil → ∃ ad, a.eval x = .slice ad 0 0 := fun x hv => by
          have hR : RelA g (.dat .nil) (a.eval x) := val_plain hi hgl rfl hv (by intro e; cases e) (by intro _ _ _ e; cases e) rfl rfl
          have hR' : RelD g.m .nil (a.eval x) := hR
          generalize a.eval x = u at hR'
          cases hR' with
          | nil ad => exact ⟨ad, rfl⟩
        by_cases hkm : (∃ V, k = .mapNew V) ∨ k = .mapCopy ∨ k = .mapKeys
        · exact hookM_sound hi hgl ho hx hF hkm hr _ fun v w1 g1 k1 k2 k3 => by
            obtain ⟨p1, p2, _⟩ := put_sound k1 k3 o.dst
            exact ⟨put_df .., _, by rw [put_act]; exact p1, k2.trans p2⟩
        unfold runHook at hr
        split at hr
        · rename_i x hargs
          split at hr
          · rename_i l off hv
            simp only [Option.some.injEq, Prod.mk.injEq] at hr
            obtain ⟨rfl, rfl⟩ := hr
            obtain ⟨b, e1, e2⟩ := val_ptr hi hgl rfl hv
            exact upon_goes (goes_same (v := a.eval x) (hook_run ho hx (by rw [hone x hargs]; exact hF (a.eval x) w)) hi ⟨b, e1, e2⟩)
          · cases hr
        · rename_i x hargs
          have hF' : IntsOk P f (fun _ _ _ => .tuple #[]) sortI := hF
          obtain ⟨hE, hN, hC⟩ := hF'
          have hrun := enter_run (a := a) (w := w) ho hx hE
          rw [hone x hargs] at hrun
          unfold Oper.wp
          rw [hrun, Oper.upon_enter]
          split at hr
          · rename_i hv
            simp only [Option.some.injEq, Prod.mk.injEq] at hr
            obtain ⟨rfl, rfl⟩ := hr
            obtain ⟨ad, e1⟩ := hnil x hv
            rw [e1]
            refine (hN ad w).mono fun en w' he => ?_
            obtain ⟨rfl, rfl⟩ := he
            obtain ⟨p1, p2, _⟩ := put_sound (pv := .tup []) (v := .tuple #[]) hi ⟨[], rfl, rfl, fun j c v h _ => by simp at h⟩ o.dst
            exact ⟨put_df .., _, by rw [put_act]; exact p1, p2⟩
          · rename_i hnv
            obtain ⟨⟨p, xs⟩, h1, h2⟩ := seqO_eq.1 hr
            obtain ⟨zs, h3, h4⟩ := seqO_eq.1 h2
            split at h4
            case isFalse => cases h4
            rename_i hlt62
            simp only [Option.some.injEq, Prod.mk.injEq] at h4
            obtain ⟨rfl, rfl⟩ := h4
            obtain ⟨q1, q2⟩ := ownPlace_sound hi rfl h1
            obtain rfl := intRows_rel h3
            obtain ⟨ow, u, r1, r2, r3⟩ := at_rel hi q1
            rw [q2] at r2
            obtain rfl := Option.some.inj r2
            have hu : ∃ b off n c, a.eval x = .slice (some ⟨b, off, none⟩) n c := by obtain ⟨b, off, c, _, _, f1, _⟩ := r3; exact ⟨b, off, _, c, f1⟩
            obtain ⟨b, off, n, cp, hu⟩ := hu
            rw [hu] at r3 q2 ⊢
            obtain ⟨cur, T, t1, rfl, t3, t4, t5, t6⟩ := own_ints r3
            refine (hC b off cp zs cur T w t1 t6 t3 t4 t5 hlt62).mono fun en w' he => ?_
            obtain ⟨rfl, hW⟩ := he
            obtain ⟨k1, k2⟩ := wrote_inv hi q1 r1 q2 r3 t1 (sortI_len zs) hW
            obtain ⟨p1, p2, _⟩ := put_sound (pv := .tup []) (v := .tuple #[]) k1 ⟨[], rfl, rfl, fun j c v h _ => by simp at h⟩ o.dst
            exact ⟨put_df .., _, by rw [put_act]; exact p1, k2.trans p2⟩
        · rename_i x hargs
          have hF' : IntsOk P f (fun a cap zs => .slice a (Lib.compact zs).length cap) compNew := hF
          obtain ⟨hE, hN, hC⟩ := hF'
          have hrun := enter_run (a := a) (w := w) ho hx hE
          rw [hone x hargs] at hrun
          unfold Oper.wp
          rw [hrun, Oper.upon_enter]
          split at hr
          · rename_i hv
            simp only [Option.some.injEq, Prod.mk.injEq] at hr
            obtain ⟨rfl, rfl⟩ := hr
            obtain ⟨ad, e1⟩ := hnil x hv
            rw [e1]
            refine (hN ad w).mono fun en w' he => ?_
            obtain ⟨rfl, rfl⟩ := he
            obtain ⟨p1, p2, _⟩ := put_sound (pv := .dat .nil) (v := .slice ad 0 0) hi (show RelD g.m .nil (.slice ad 0 0) from .nil ad) o.dst
            exact ⟨put_df .., _, by rw [put_act]; exact p1, p2⟩
          · rename_i hnv
            obtain ⟨⟨p, xs⟩, h1, h2⟩ := seqO_eq.1 hr
            obtain ⟨zs, h3, h4⟩ := seqO_eq.1 h2
            split at h4
            case isFalse => cases h4
            rename_i hlt62
            simp only [Option.some.injEq, Prod.mk.injEq] at h4
            obtain ⟨rfl, rfl⟩ := h4
            obtain ⟨q1, q2⟩ := ownPlace_sound hi rfl h1
            obtain rfl := intRows_rel h3
            obtain ⟨ow, u, r1, r2, r3⟩ := at_rel hi q1
            rw [q2] at r2
            obtain rfl := Option.some.inj r2
            have hu : ∃ b off n c, a.eval x = .slice (some ⟨b, off, none⟩) n c := by obtain ⟨b, off, c, _, _, f1, _⟩ := r3; exact ⟨b, off, _, c, f1⟩
            obtain ⟨b, off, n, cp, hu⟩ := hu
            rw [hu] at r3 q2 ⊢
            obtain ⟨cur, T, t1, rfl, t3, t4, t5, t6⟩ := own_ints r3
            refine (hC b off cp zs cur T w t1 t6 t3 t4 t5 hlt62).mono fun en w' he => ?_
            obtain ⟨rfl, hW⟩ := he
            obtain ⟨k1, k2⟩ := wrote_inv hi q1 r1 q2 r3 t1 (compNew_len zs) hW
            obtain ⟨g', u', m1, m2, m3, m4⟩ := dead_sound k1 (mark_at q1)
            have hpv : placeVal w' g a.tmps p = some (.slice (some ⟨b, off, none⟩) zs.length cp) := by
              obtain ⟨ow', u'', y1, y2, y3⟩ := at_rel k1 (mark_at q1)
              cases p with
              | tmp t => exact q2
              | cell l off' =>
                simp only [placeVal] at q2 ⊢
                cases hb' : g.blk[l]? with
                | none => rw [hb'] at q2; cases q2
                | some b' =>
                  rw [hb'] at q2
                  simp only [Option.bind_some] at q2 ⊢
                  have hlt : l < s.bx.length := by rw [← hi.blen]; exact (List.getElem?_eq_some_iff.1 hb').1
                  have hbo := (hi.boxes l b' _ hb' (List.getElem?_eq_getElem hlt)).1
                  obtain ⟨b1, off1, c1, cur1, T1, f1, f2, _⟩ := r3
                  simp only [Value.slice.injEq, Option.some.injEq, Addr.mk.injEq] at f1
                  obtain ⟨⟨rfl, rfl, _⟩, _, rfl⟩ := f1
                  have hne : b' ≠ b := by rintro rfl; rw [f2] at hbo; obtain ⟨q, _, rfl⟩ := r1; cases hbo
                  rw [← q2]
                  exact World.cell?_of_block (w := w) (hW.other b' (hi.own_lt b' _ hbo) hne)
            rw [hpv] at m1
            obtain rfl := Option.some.inj m1
            have hO := own_take (ys := Lib.compact zs) (show OwnRel w' g' (.res 0) true 1 (rowsOf (Lib.compact zs ++ List.replicate (zs.length - (Lib.compact zs).length) 0)) _ from m4)
            have hmm : (s.mark p (.own true 1 (rowsOf (compNew zs)))).mark p .dead = s.mark p .dead := mark_mark s p _ _ fun l off' e => by
              subst e
              obtain ⟨bx, e1, _⟩ := at_cell q1 (by intro e; cases e)
              exact ⟨bx, e1⟩
            rw [hmm] at m2 m3
            obtain ⟨p1, p2, _⟩ := put_sound (pv := .own true 1 (rowsOf (Lib.compact zs))) (v := .slice (some ⟨b, off, none⟩) (Lib.compact zs).length cp) m2 hO o.dst
            exact ⟨put_df .., _, by rw [put_act]; exact p1, (k2.trans m3).trans p2⟩
        · exact absurd (.inl ⟨_, rfl⟩) hkm
        · exact absurd (.inr (.inl rfl)) hkm
        · exact absurd (.inr (.inr rfl)) hkm
        · cases hr
    · cases hh
  · cases hh

theorem aopX_sound (hc : CfgOk P cfg) (hcall : CallOk P cfg e) (hfn : ∀ f args bx out, e (.call f args bx) = some out → ∃ fn, cfg.fn f = some fn) (hi : Inv base w0 w g d s a.tmps) (hgl : GlobOk cfg g) {pol : Option Pol} {s' : St} (h : aopX e cfg pol o s = some s') {Q : Exit → Act → World → Prop} :
    o.wp P a w (Reach base w0 d s w g a.defers s') Q := by
  unfold aopX at h
  split at h
  · rename_i hk hkk
    obtain ⟨⟨pv, s1⟩, h1, h2⟩ := seqO_eq.1 h
    obtain rfl := Option.some.inj h2
    exact hook_sound hc hi hgl hkk h1
  rename_i hnh
  split at h
  · rename_i mo hmo
    obtain ⟨⟨pv, s1⟩, h1, h2⟩ := seqO_eq.1 h
    obtain rfl := Option.some.inj h2
    exact upon_goes (map_goes hc hi hgl rfl hmo h1)
  rename_i hnm
  split at h
  · rename_i c hcc
    obtain ⟨⟨job, s1⟩, h1, h2⟩ := seqO_eq.1 h
    obtain ⟨out, h3, h4⟩ := seqO_eq.1 h2
    unfold isFnCall at hcc
    split at hcc
    · rename_i cl ho
      split at hcc
      · rename_i x hx
        obtain rfl := Option.some.inj hcc
        unfold prep at h1
        obtain ⟨⟨pvs, s2⟩, h5, h6⟩ := seqO_eq.1 h1
        split at h6
        · rename_i f cap hv
          simp only [Option.some.injEq, Prod.mk.injEq] at h6
          obtain ⟨rfl, rfl⟩ := h6
          obtain ⟨fn, hfn'⟩ := hfn _ _ _ _ h3
          obtain ⟨g1, i1, st1, l1, r1⟩ := fetchs_sound (a := a) rfl _ hi hgl h5
          have hgl1 := hgl.grows st1.gr
          have hR : RelA g1 (.clo f cap) (a.eval x) := val_plain i1 hgl1 rfl hv (by intro e; cases e) (by intro _ _ _ e; cases e) rfl rfl
          obtain ⟨cu, e1, e2, e3⟩ := hR
          have hrun := call_run (a := a) (w := w) hc ho hx e1 hfn'
          unfold Oper.wp
          rw [hrun, Oper.upon_enter]
          have hC := hcall f _ out base w0 w g1 d s2 a.tmps ((cl.args.map a.eval ++ cu).toList) h3 i1 hgl1 (by simp [l1, e2]) (fun j c u hj hu => by
            simp only [Array.toList_append, Array.toList_map] at hu
            by_cases hlt : j < pvs.length
            · rw [List.getElem?_append_left hlt] at hj
              rw [List.getElem?_append_left (by simpa [l1] using hlt), List.getElem?_map] at hu
              cases hx' : cl.args.toList[j]? with
              | none => rw [hx'] at hu; cases hu
              | some y =>
                rw [hx'] at hu
                obtain rfl := Option.some.inj hu
                exact r1 j y c hx' hj
            · rw [List.getElem?_append_right (by omega), List.getElem?_map] at hj
              rw [List.getElem?_append_right (by simp [← l1]; omega)] at hu
              simp only [List.length_map, ← l1] at hu
              cases hq : cap[j - pvs.length]? with
              | none => rw [hq] at hj; cases hj
              | some l =>
                rw [hq] at hj
                obtain rfl := Option.some.inj hj
                obtain ⟨b, q1, q2⟩ := e3 _ _ hq
                rw [← Array.getElem?_toList] at q2
                rw [hu] at q2
                obtain rfl := Option.some.inj q2
                exact ⟨b, q1, rfl⟩)
          refine Calls.mono (by simpa only [Array.toArray_toList] using hC) fun en w' he => ?_
          cases en with
          | returned v =>
            obtain ⟨r, s3, g3, q1, q2, q3, q4⟩ := he
            obtain ⟨r', s4, q5, rfl⟩ := fin_eq h4
            rw [q1] at q5
            simp only [Option.some.injEq, Prod.mk.injEq] at q5
            obtain ⟨rfl, rfl⟩ := q5
            obtain ⟨p1, p2, _⟩ := put_sound q2 q4 o.dst
            exact ⟨put_df .., _, by rw [put_act]; exact p1, (st1.trans q3).trans p2⟩
          | panicked => exact he.elim
          | outgrown => exact he.elim
        · cases h6
      · cases hcc
    · cases hcc
  · exact upon_goes (aop_sound hc hi hgl rfl h)

/-- is it wanted? -/
theorem wants_sound (hi : Inv base w0 w g d s a.tmps) {ops : Array Oper} {b : Bool} (h : wants ops.toList o s = some b) : Region.wanted o (yielded ops a.tmps) = b := by
  unfold wants at h
  unfold Region.wanted
  split at h
  · rename_i hg
    rw [hg]
    exact Option.some.inj h
  · rename_i j want hg
    rw [hg]
    obtain ⟨q, h1, h2⟩ := seqO_eq.1 h
    obtain ⟨t, h3, h4⟩ := seqO_eq.1 h2
    have h1' : ops[j]? = some q := by rw [← Array.getElem?_toList]; exact h1
    have hval : ∀ v, s.ts.getD t .dead = .dat (.lit v) → a.tmps[t]? = some v := by
      intro v hv
      have h5 := getD_some hv (by intro e; cases e)
      have hlt : t < a.tmps.size := by rw [hi.tl]; exact (List.getElem?_eq_some_iff.1 h5).1
      have h6 := hi.tmps t _ _ h5 (Array.getElem?_eq_getElem hlt)
      rw [Array.getElem?_eq_getElem hlt]
      exact congrArg some h6
    simp only [yielded, h1', Option.bind_some, h3]
    split at h4
    · rename_i b' hv
      obtain rfl := Option.some.inj h4
      rw [hval _ hv]
      rfl
    · rename_i v hnb hv
      obtain rfl := Option.some.inj h4
      rw [hval _ hv]
      cases v <;> first | rfl | exact absurd rfl (hnb _)
    · cases h4

theorem aopG_sound (hc : CfgOk P cfg) (hcall : CallOk P cfg e) (hfn : ∀ f args bx out, e (.call f args bx) = some out → ∃ fn, cfg.fn f = some fn) (hi : Inv base w0 w g d s a.tmps) (hgl : GlobOk cfg g) {pol : Option Pol} {ops : Array Oper} {s' : St}
    (h : aopG e cfg pol ops.toList o s = some s') {i : Nat} (ho : ops[i]? = some o) {Q : Exit → Act → World → Prop} : wpOp P ops Q i (Reach base w0 d s w g a.defers s') a w := by
  unfold aopG at h
  obtain ⟨b, h1, h2⟩ := seqO_eq.1 h
  have hw := wants_sound hi h1
  unfold wpOp
  rw [ho]
  simp only [hw]
  cases b with
  | true => exact .inl (aopX_sound hc hcall hfn hi hgl h2)
  | false =>
    obtain rfl := Option.some.inj h2
    obtain ⟨p1, p2, _⟩ := put_sound (pv := .dat (.lit undef)) (v := undef) hi rfl o.dst
    exact ⟨put_df .., _, by rw [put_act]; exact p1, p2⟩

theorem Reach.trans {s1 s2 : St} {a2 : Act} {w1 w2 : World} {df : List Deferred} {g1 : Gh} (h : Stp d s s1 w w1 g g1) (h2 : Reach base w0 d s1 w1 g1 df s2 a2 w2) : Reach base w0 d s w g df s2 a2 w2 := by
  obtain ⟨h3, g2, h4, h5⟩ := h2
  exact ⟨h3, g2, h4, h.trans h5⟩

theorem aops_sound (hc : CfgOk P cfg) (hcall : CallOk P cfg e) (hfn : ∀ f args bx out, e (.call f args bx) = some out → ∃ fn, cfg.fn f = some fn) {cx : Cx} {rid : Nat} {ops : Array Oper} {Q : Exit → Act → World → Prop} {df : List Deferred} {s' : St} :
    ∀ (os : List Oper) (i : Nat) {g : Gh} {s : St} {w : World} {a : Act}, os = ops.toList.drop i → aops e cfg cx rid ops.toList i os s = some s' → Inv base w0 w g d s a.tmps → GlobOk cfg g → a.defers = df →
      (∀ a' w', Reach base w0 d s w g df s' a' w' → Q .normal a' w') → wpOps P ops Q (List.range' i os.length) a w
  | [], i, g, s, w, a, hd, h, hi, hgl, hdf, hQ => by
    obtain rfl := Option.some.inj h
    exact hQ a w ⟨hdf, g, hi, Stp.refl d s w g⟩
  | o :: os, i, g, s, w, a, hd, h, hi, hgl, hdf, hQ => by
    simp only [aops] at h
    obtain ⟨s1, h1, h2⟩ := seqO_eq.1 h
    have ho : ops[i]? = some o := by
      have : (ops.toList.drop i)[0]? = some o := by rw [← hd]; rfl
      rw [List.getElem?_drop] at this
      rw [← Array.getElem?_toList]; exact this
    rw [List.length_cons, List.range'_succ, wpOps_cons]
    refine wpOp_mono (fun a1 w1 hr => ?_) (aopG_sound hc hcall hfn hi hgl (aopR_G h1) ho)
    obtain ⟨k1, g1, k2, k3⟩ := hr
    refine aops_sound hc hcall hfn os (i + 1) ?_ h2 k2 (hgl.grows k3.gr) (k1.trans hdf) fun a' w' hr' => hQ a' w' (Reach.trans k3 hr')
    have := congrArg List.tail hd
    rw [List.tail_cons, List.tail_drop] at this
    exact this
end

end Go.Vx
