/- The abstract interpreter of the model's code, and its soundness: a part. No condition. -/
import Derived.Test.YtgppmcpbphgnnaaDoorVd
import Derived.Orders
import Derived.ChangeArms
import Derived.OpenShut
import Derived.Test.YtgppmcpbphgnnaaDoorVb
set_option linter.unusedSimpArgs false
set_option linter.unusedVariables false
set_option linter.unusedSectionVars false
namespace Go.Vx
open Go Go.RowKit

section
variable {P : Program} {cfg : Cfg} {base : Nat} {w0 w : World} {g : Gh} {d : Nat} {s : St} {vals : Array Value} {o : Oper} {a : Act}

def Gh.cutBlk (g : Gh) (k : Nat) : Gh := { g with blk := g.blk.take k }

theorem cutBlk_get {k l : Nat} (h : l < k) : (g.cutBlk k).blk[l]? = g.blk[l]? := by
  simp only [Gh.cutBlk]; exact List.getElem?_take_of_lt h

theorem RelC.cut {k : Nat} {c : PV} {u : Value} (hp : ptrLt k c) (h : RelC g c u) : RelC (g.cutBlk k) c u := by
  cases c with
  | dat x => cases x <;> exact h
  | ptr l off => obtain ⟨b, h1, h2⟩ := h; exact ⟨b, by rw [cutBlk_get hp]; exact h1, h2⟩
  | clo f cap =>
    obtain ⟨us, h1, h2, h3⟩ := h
    refine ⟨us, h1, h2, fun j l hl => ?_⟩
    obtain ⟨b, h4, h5⟩ := h3 j l hl
    exact ⟨b, by rw [cutBlk_get (hp l (List.mem_of_getElem? hl))]; exact h4, h5⟩
  | iptr => exact h
  | dead => exact trivial
  | own => exact h.elim
  | agg => exact h.elim
  | tup => exact h.elim
  | «alias» => exact h.elim
  | eptr => exact h.elim
  | tnil => exact h.elim
  | home => exact h.elim
  | siter => exact h.elim

theorem RelC.lt {c : PV} {u : Value} (h : RelC g c u) : ptrLt g.blk.length c := by
  cases c with
  | ptr l off => obtain ⟨b, h1, _⟩ := h; exact (List.getElem?_eq_some_iff.1 h1).1
  | clo f cap =>
    obtain ⟨us, _, _, h3⟩ := h
    intro l hl
    obtain ⟨j, hj⟩ := List.getElem?_of_mem hl
    obtain ⟨b, h4, _⟩ := h3 j l hj
    exact (List.getElem?_eq_some_iff.1 h4).1
  | _ => exact trivial

theorem RelB.lt {b j : Nat} {c : PV} {u : Value} (h : RelB w g b j c u) : ptrLt g.blk.length c := by
  cases c with
  | ptr l off => exact RelC.lt h
  | clo f cap => exact RelC.lt h
  | _ => exact trivial

theorem BoxRel.lt {b : Nat} {bx : Box} (h : BoxRel w g b bx) : ∀ c ∈ bx, ptrLt g.blk.length c := by
  obtain ⟨_, _, cs, T, _, h4, h5⟩ := h
  intro c hc
  obtain ⟨j, hj⟩ := List.getElem?_of_mem hc
  have hlt : j < cs.size := by rw [h4]; exact (List.getElem?_eq_some_iff.1 hj).1
  exact (h5 j c _ hj (Array.getElem?_eq_getElem hlt)).lt

theorem BoxRel.cut {k b : Nat} {bx : Box} (hp : ∀ c ∈ bx, ptrLt k c) (h : BoxRel w g b bx) : BoxRel w (g.cutBlk k) b bx := by
  obtain ⟨h1, h2, cs, T, h3, h4, h5⟩ := h
  refine ⟨h1, h2, cs, T, h3, h4, fun j c u hc hu => ?_⟩
  have h := h5 j c u hc hu
  have hpc := hp c (List.mem_of_getElem? hc)
  cases c with
  | own ex k xs => exact h
  | agg => exact h.elim
  | tup => exact h.elim
  | «alias» => exact h.elim
  | eptr => exact h.elim
  | tnil => exact h
  | home => exact h
  | siter => exact h.elim
  | dat _ => exact RelC.cut hpc h
  | ptr _ _ => exact RelC.cut hpc h
  | iptr _ _ => exact RelC.cut hpc h
  | clo _ _ => exact RelC.cut hpc h
  | dead => exact trivial

/-- every pointer in it leads below k -/
def allLt (k : Nat) : PV → Prop
  | .agg cs => ∀ c ∈ cs, ptrLt k c
  | c => ptrLt k c

theorem RelR.cut {k : Nat} {ow : Owner} {c : PV} {u : Value} (hp : allLt k c) (h : RelR w g ow c u) : RelR w (g.cutBlk k) ow c u := by
  cases c with
  | own ex k xs => exact h
  | agg cs => obtain ⟨us, h1, h2, h3⟩ := h; exact ⟨us, h1, h2, fun j c v hc hv => (h3 j c v hc hv).cut (hp c (List.mem_of_getElem? hc))⟩
  | dat x => exact RelC.cut (c := .dat x) hp h
  | ptr x y => exact RelC.cut (c := .ptr x y) hp h
  | iptr x y => exact RelC.cut (c := .iptr x y) hp h
  | clo x y => exact RelC.cut (c := .clo x y) hp h
  | dead => exact trivial
  | tup => exact h.elim
  | «alias» => exact h.elim
  | eptr => exact h.elim
  | tnil => exact h.elim
  | home => exact h.elim
  | siter => exact h

theorem RelR.allLt {ow : Owner} {c : PV} {u : Value} (h : RelR w g ow c u) : allLt g.blk.length c := by
  cases c with
  | agg cs =>
    obtain ⟨us, h1, h2, h3⟩ := h
    intro c hc
    obtain ⟨j, hj⟩ := List.getElem?_of_mem hc
    have hlt : j < us.length := by rw [h2]; exact (List.getElem?_eq_some_iff.1 hj).1
    exact (h3 j c _ hj (List.getElem?_eq_getElem hlt)).lt
  | ptr x y => exact RelC.lt (c := .ptr x y) h
  | clo x y => exact RelC.lt (c := .clo x y) h
  | _ => exact trivial

theorem ret_core (hi : Inv base w0 w g d s vals) {st0 s' s2 : St} {w' : World} {g' : Gh} {vals' : Array Value} (hi' : Inv base w0 w' g' (d + 1) s' vals') (hst : Stp (d + 1) st0 s' w w' g g')
    (hb0 : st0.bx = s.bx) (hn0 : st0.nb = s.bx.length) {k : Nat} (hk1 : s.bx.length ≤ k) (hk2 : k ≤ s'.bx.length) (hp : ∀ (l : Nat) bx, l < k → s'.bx[l]? = some bx → ∀ c ∈ bx, ptrLt k c)
    (e1 : s2.nb = s.nb) (e2 : s2.bx = s'.bx.take k) (e3 : s2.ts = noAlias s.ts ∨ (s2.ts = s.ts ∧ ∀ l, l < s.bx.length → below l s'.lo))
    (e4 : ∀ l, l < s.nb → below l s2.lo → below l s'.lo) (e5 : ∀ l, below l s2.lo → below l s.lo) (e6 : s.kp = true → s2.kp = true) (e7 : s2.kp = false → s'.kp = false)
    {f : Owner → Option Owner} (hfb : f .box = some .box) (hfc : ∀ b off, f (.cell b off) = some (.cell b off)) (hft : ∀ d' i j, d' < d ∨ (d' = d ∧ i < s.ts.length) → f (.tmp d' i j) = some (.tmp d' i j))
    (hfd : ∀ o' d' i j, f o' = some (.tmp d' i j) → d' ≤ d) :
    Inv base w0 w' ((g'.relab f).cutBlk k) d s2 vals ∧ Stp d s s2 w w' g ((g'.relab f).cutBlk k) := by
  have hbl : g.blk.length = s.bx.length := hi.blen
  have hgr : Grows g ((g'.relab f).cutBlk k) := ⟨hst.gr.m, fun l b h => by
    have hl : l < s.bx.length := by rw [← hbl]; exact (List.getElem?_eq_some_iff.1 h).1
    rw [cutBlk_get (Nat.lt_of_lt_of_le hl hk1)]
    exact hst.gr.blk l b h, hst.gr.bt⟩
  have hkept : ∀ b o', g.own b = some o' → f o' = some o' → Kept w w' g g' b → Kept w w' g ((g'.relab f).cutBlk k) b := by
    intro b o' h1 h2 h3
    refine ⟨h3.1, ?_, h3.2.2⟩
    have : g'.own b = some o' := by rw [h3.2.1]; exact h1
    simp only [Gh.cutBlk, Gh.relab, this, Option.bind_some, h2, h1]
  have hkt : ∀ b d' i j, g.own b = some (.tmp d' i j) → (d' < d ∨ (d' = d ∧ i < s.ts.length)) → Kept w w' g ((g'.relab f).cutBlk k) b := by
    intro b d' i j h1 h2
    exact hkept b _ h1 (hft d' i j h2) (hst.tmps b d' i j h1 (by omega))
  have htl : s2.ts.length = s.ts.length := by
    rcases e3 with e3 | e3
    · rw [e3]; simp [noAlias]
    · rw [e3.1]
  have hcell : ∀ l, l < s.bx.length → below l s'.lo → ∀ b, g.blk[l]? = some b → ∀ off, w'.cell? ⟨b, off, none⟩ = w.cell? ⟨b, off, none⟩ := by
    intro l hl hlo b hb off
    obtain ⟨_, h2⟩ := hst.old l (by rw [hn0]; exact hl) hlo
    exact World.cell?_of_block (w := w) ((h2 b hb).1.1)
  have hslot : ∀ (i : Nat) c, s2.ts[i]? = some c → ∃ c0, s.ts[i]? = some c0 ∧ (c = .dead ∨ (c = c0 ∧ ∀ p, aliasOf c = some p → (∃ i, p = .tmp i) ∨ ∀ l, l < s.bx.length → below l s'.lo)) := by
    intro i c hc
    rcases e3 with e3 | e3
    · rw [e3] at hc
      simp only [noAlias, List.getElem?_map] at hc
      cases h0 : s.ts[i]? with
      | none => rw [h0] at hc; cases hc
      | some c0 =>
        rw [h0] at hc
        obtain rfl := Option.some.inj hc
        refine ⟨c0, rfl, ?_⟩
        cases ha : aliasOf c0 with
        | none => exact .inr ⟨PV.strip_of ha, fun p hp => by rw [PV.strip_of ha, ha] at hp; cases hp⟩
        | some p =>
          cases p with
          | tmp i' => exact .inr ⟨strip_false ha rfl, fun p hp => by rw [strip_false ha rfl, ha] at hp; cases hp; exact .inl ⟨i', rfl⟩⟩
          | cell l off => exact .inl (strip_true ha rfl)
    · rw [e3.1] at hc
      exact ⟨c, hc, .inr ⟨rfl, fun p _ => .inr e3.2⟩⟩
  refine ⟨⟨hi'.low, hi.hb, hi'.mem, fun b o' h => ?_, fun b o' h => ?_, fun b d' i j h => ?_, ?_, ?_, ?_, fun l b bx h1 h2 => ?_, by rw [htl]; exact hi.tl, fun i c v h1 h2 => ?_, fun i c p h1 h2 => ?_⟩, ⟨hgr, e1, ?_, fun b d' i j h hd => hkt b d' i j h (.inl hd), e5, fun l hl hlo => ?_, e6, fun hkp n l bx bx' hl h1 h2 h3 => ?_⟩⟩
  · obtain ⟨o'', h1, _⟩ := relab_own (g := g') (f := f) h; exact hi'.own_ge b o'' h1
  · obtain ⟨o'', h1, _⟩ := relab_own (g := g') (f := f) h; exact hi'.own_lt b o'' h1
  · obtain ⟨o'', h1, h2⟩ := relab_own (g := g') (f := f) h; exact hfd o'' d' i j h2
  · rw [e2, List.length_take]; simp only [Gh.cutBlk, Gh.relab, List.length_take, hi'.blen]
  · exact hi'.nodup.sublist (List.take_sublist ..)
  · rw [e1, e2, List.length_take]
    have := hi.nbl
    omega
  · rw [e2] at h2
    have hl : l < k := by
      have := (List.getElem?_eq_some_iff.1 h2).1
      rw [List.length_take] at this; omega
    rw [cutBlk_get hl] at h1
    rw [List.getElem?_take_of_lt hl] at h2
    exact BoxRel.cut (hp l bx hl h2) ((hi'.boxes l b bx h1 h2).relab hfb (hfc b))
  · obtain ⟨c0, h3, h4⟩ := hslot i c h1
    rcases h4 with h4 | ⟨h4, h5⟩
    · subst h4; exact trivial
    · subst h4
      have hil : i < s.ts.length := (List.getElem?_eq_some_iff.1 h3).1
      refine (hi.tmps i c v h3 h2).kept hgr (fun j b hb => hkt b d i j hb (.inr ⟨rfl, hil⟩)) fun p v' hp' hv' => ?_
      cases p with
      | tmp i' => exact hv'
      | cell l off =>
        rcases h5 _ hp' with ⟨i', h6⟩ | h6
        · cases h6
        · simp only [placeVal] at hv' ⊢
          cases hb : g.blk[l]? with
          | none => rw [hb] at hv'; cases hv'
          | some b =>
            rw [hb] at hv'
            rw [hgr.blk l b hb]
            have hl : l < s.bx.length := by rw [← hbl]; exact (List.getElem?_eq_some_iff.1 hb).1
            simp only [Option.bind_some] at hv' ⊢
            rw [hcell l hl (h6 l hl) b hb]
            exact hv'
  · obtain ⟨c0, h3, h4⟩ := hslot i c h1
    rcases h4 with h4 | ⟨h4, h5⟩
    · subst h4; cases h2
    · subst h4
      have hm := hi.al i c p h3 h2
      rcases h5 p h2 with ⟨i', h6⟩ | h6
      · subst h6
        simp only [St.at, List.getD_eq_getElem?_getD] at hm ⊢
        rcases e3 with e3 | e3
        · rw [e3]
          simp only [noAlias, List.getElem?_map]
          cases hq : s.ts[i']? with
          | none => rfl
          | some q =>
            rw [hq] at hm
            simp only [Option.map_some, Option.getD_some] at hm ⊢
            rw [maySrc_strip_of hm]; exact hm
        · rw [e3.1]; exact hm
      · cases p with
        | tmp i' =>
          simp only [St.at, List.getD_eq_getElem?_getD] at hm ⊢
          rcases e3 with e3 | e3
          · rw [e3]
            simp only [noAlias, List.getElem?_map]
            cases hq : s.ts[i']? with
            | none => rfl
            | some q =>
              rw [hq] at hm
              simp only [Option.map_some, Option.getD_some] at hm ⊢
              rw [maySrc_strip_of hm]; exact hm
          · rw [e3.1]; exact hm
        | cell l off =>
          simp only [St.at] at hm ⊢
          by_cases hl : l < s.bx.length
          · obtain ⟨q1, _⟩ := hst.old l (by rw [hn0]; exact hl) (h6 l hl)
            rw [e2, List.getElem?_take_of_lt (Nat.lt_of_lt_of_le hl hk1), q1, hb0]
            exact hm
          · -- a place beyond the boxes: its value cannot be
            have hlt : i < vals.size := by rw [hi.tl]; exact (List.getElem?_eq_some_iff.1 h3).1
            have hr := hi.tmps i c _ h3 (Array.getElem?_eq_getElem hlt)
            have : ∃ v, placeVal w g vals (.cell l off) = some v := by
              cases c <;> simp only [aliasOf] at h2 <;> first | cases h2 | skip
              · exact ⟨_, hr⟩
              · obtain ⟨b, o', n, c', h1, _⟩ := hr; exact ⟨_, h1⟩
            obtain ⟨v, hv⟩ := this
            simp only [placeVal] at hv
            have : g.blk[l]? = none := List.getElem?_eq_none (by omega)
            rw [this] at hv; cases hv
  · rw [e2, List.length_take]; omega
  · have hl' : l < s.bx.length := Nat.lt_of_lt_of_le hl hi.nbl
    obtain ⟨q1, q2⟩ := hst.old l (by rw [hn0]; exact hl') (e4 l hl hlo)
    refine ⟨by rw [e2, List.getElem?_take_of_lt (Nat.lt_of_lt_of_le hl' hk1), q1, hb0], fun b hb => ⟨?_, fun off b' hb' => ?_⟩⟩
    · exact hkept b _ (hi.boxes l b _ hb (List.getElem?_eq_getElem hl')).1 hfb (q2 b hb).1
    · exact hkept b' _ hb' (hfc b off) ((q2 b hb).2 off b' hb')
  · have hl' : l < s.bx.length := Nat.lt_of_lt_of_le hl hi.nbl
    rw [e2, List.getElem?_take_of_lt (Nat.lt_of_lt_of_le hl' hk1)] at h3
    exact hst.kpl (e7 hkp) n l bx bx' (by rw [hn0]; exact hl') (by rw [hb0]; exact h1) h2 h3

/-- a call's answer in the caller -/
def finSt (out : Out) (s : St) : Option (PV × St) :=
  match out with
  | .ret r none => some (r, s)
  | .ret r (some e) => some (r, { s with ts := noAlias s.ts, bx := e.bx, lo := (if e.lo < s.nb then some (match s.lo with | none => e.lo | some m => min m e.lo) else s.lo), kp := s.kp || e.kp })
  | .loop _ _ => none

theorem fin_eq {out : Out} {dst : Option Tmp} {s s' : St} (h : fin out dst s = some s') : ∃ r s1, finSt out s = some (r, s1) ∧ s' = put s1 dst r := by
  cases out with
  | loop => cases h
  | ret r e =>
    cases e with
    | none => exact ⟨r, s, rfl, (Option.some.inj h).symm⟩
    | some e => exact ⟨r, _, rfl, (Option.some.inj h).symm⟩

/-- labels at a call's end -/
def endLab (d N : Nat) (one : Bool) : Owner → Option Owner
  | .tmp d' i j => if d' = d ∧ i = N then some (.res (if one then j - 1 else j)) else if d' ≤ d then some (.tmp d' i j) else none
  | o => some o

theorem noPtr_lt {k : Nat} {c : PV} (h : c.isDat = true) : ptrLt k c := isDat_ptrLt h

theorem allLt_of_noPtr {k : Nat} {pvs : List PV} (h : (tupOf pvs).noPtr = true) : ∀ c ∈ pvs, allLt k c := by
  have one : ∀ c : PV, (match c with | .agg cs => cs.all PV.isDat | v => v.isDat) = true → allLt k c := by
    intro c hc
    cases c with
    | agg cs => exact fun x hx => isDat_ptrLt (List.all_eq_true.1 hc x hx)
    | ptr => cases hc
    | clo => cases hc
    | _ => exact trivial
  match pvs, h with
  | [], _ => intro c hc; cases hc
  | [x], h =>
    intro c hc
    simp only [List.mem_singleton] at hc
    subst hc
    cases c with
    | agg cs => exact one _ h
    | tup vs => exact trivial
    | ptr => cases h
    | clo => cases h
    | _ => exact trivial
  | x :: y :: z, h => exact fun c hc => one c (List.all_eq_true.1 h c hc)

theorem below_min {l m : Nat} {lo : Option Nat} (h : below l (some (match lo with | none => m | some q => min q m))) : l < m ∧ below l lo := by
  cases lo with
  | none => exact ⟨h, trivial⟩
  | some q =>
    have h : l < min q m := h
    exact ⟨by omega, by show l < q; omega⟩

theorem ret_sound (hi : Inv base w0 w g d s vals) {st0 s' s1 : St} {w' : World} {g' : Gh} {vals' : Array Value} {pvs : List PV} {us : List Value} {r : PV} (hi' : Inv base w0 w' g' (d + 1) s' vals') (hst : Stp (d + 1) st0 s' w w' g g')
    (hb0 : st0.bx = s.bx) (hn0 : st0.nb = s.bx.length) (hlen : us.length = pvs.length) (hr : ∀ (i : Nat) c u, pvs[i]? = some c → us[i]? = some u → RelR w' g' (.tmp d s.ts.length (i + 1)) c u)
    (hfin : finSt (outOf (tupOf pvs) s') s = some (r, s1)) :
    ∃ g'', Inv base w0 w' g'' d s1 vals ∧ Stp d s s1 w w' g g'' ∧ RelP w' g'' vals s1 r (if h : us.toArray.size = 1 then us.toArray[0] else .tuple us.toArray) := by
  have hbl : g.blk.length = s.bx.length := hi.blen
  have hbl' : g'.blk.length = s'.bx.length := hi'.blen
  have hnb : s'.nb = s.bx.length := by rw [hst.nb, hn0]
  have hsb : s.bx.length ≤ s'.bx.length := by rw [← hb0]; exact hst.bl
  have hstart : ∀ (l : Nat) bx, st0.bx[l]? = some bx → ∀ c ∈ bx, ptrLt s.bx.length c := by
    intro l bx h
    rw [hb0] at h
    have hl : l < g.blk.length := by rw [hbl]; exact (List.getElem?_eq_some_iff.1 h).1
    have := (hi.boxes l _ bx (List.getElem?_eq_getElem hl) h).lt
    rw [hbl] at this; exact this
  have hend : s'.kp = false → ∀ (l : Nat) bx, l < s.bx.length → s'.bx[l]? = some bx → ∀ c ∈ bx, ptrLt s.bx.length c := by
    intro hk l bx hl h
    have hl0 : l < st0.bx.length := by rw [hb0]; exact hl
    exact hst.kpl hk s.bx.length l _ bx (by rw [hn0]; exact hl) (List.getElem?_eq_getElem hl0) (hstart l _ (List.getElem?_eq_getElem hl0)) h
  have hfull : ∀ (l : Nat) bx, l < s'.bx.length → s'.bx[l]? = some bx → ∀ c ∈ bx, ptrLt s'.bx.length c := by
    intro l bx hl h
    have hl' : l < g'.blk.length := by rw [hbl']; exact hl
    have := (hi'.boxes l _ bx (List.getElem?_eq_getElem hl') h).lt
    rw [hbl'] at this; exact this
  have hfb : ∀ one, endLab d s.ts.length one .box = some .box := fun _ => rfl
  have hft : ∀ one d' i j, d' < d ∨ (d' = d ∧ i < s.ts.length) → endLab d s.ts.length one (.tmp d' i j) = some (.tmp d' i j) := by
    intro one d' i j h
    simp only [endLab]
    rw [if_neg (by rintro ⟨a, b⟩; omega), if_pos (by omega)]
  have hfd : ∀ one o' d' i j, endLab d s.ts.length one o' = some (.tmp d' i j) → d' ≤ d := by
    intro one o' d' i j h
    cases o' with
    | tmp d1 i1 j1 =>
      simp only [endLab] at h
      split at h
      · cases h
      · split at h
        · cases h; assumption
        · cases h
    | box => cases h
    | cell => cases h
    | res => cases h
  -- the result's relation
  have hres : ∀ k, (∀ c ∈ pvs, allLt k c) → ∀ s1, RelP w' ((g'.relab (endLab d s.ts.length (pvs.length == 1))).cutBlk k) vals s1 (tupOf pvs) (if h : us.toArray.size = 1 then us.toArray[0] else .tuple us.toArray) := by
    intro k hk s1
    have each : ∀ (i : Nat) c u, pvs[i]? = some c → us[i]? = some u → RelR w' ((g'.relab (endLab d s.ts.length (pvs.length == 1))).cutBlk k) (.res (if (pvs.length == 1) then i else i + 1)) c u := by
      intro i c u h1 h2
      refine RelR.cut (hk c (List.mem_of_getElem? h1)) ((hr i c u h1 h2).relab ?_)
      simp only [endLab, and_self, if_true]
      cases (pvs.length == 1) <;> rfl
    by_cases h1 : pvs.length = 1
    · obtain ⟨c, rfl⟩ := List.length_eq_one_iff.1 h1
      rw [h1] at hlen
      obtain ⟨u, rfl⟩ := List.length_eq_one_iff.1 hlen
      have e := each 0 c u rfl rfl
      simp only [List.length_singleton, beq_self_eq_true, if_true] at e
      simp only [tupOf, List.length_singleton, beq_self_eq_true]
      change RelP _ _ _ _ c u
      cases c with
      | «alias» => exact e.elim
      | eptr => exact e.elim
      | tnil => exact e
      | home => exact e
      | siter => exact e
      | tup => exact e.elim
      | dead => exact trivial
      | dat _ => exact e
      | own _ _ _ => exact e
      | agg _ => exact e
      | ptr _ _ => exact e
      | iptr _ _ => exact e
      | clo _ _ => exact e
    · have hn : (pvs.length == 1) = false := by simpa using h1
      rw [hn] at each ⊢
      simp only [Bool.false_eq_true, if_false] at each
      have ht : tupOf pvs = .tup pvs := by
        match pvs, h1 with
        | [], _ => rfl
        | [x], h => exact absurd rfl h
        | x :: y :: z, _ => rfl
      rw [ht, dif_neg (by simpa [hlen] using h1)]
      exact ⟨us, rfl, hlen, fun j c v hc hv => each j c v hc hv⟩
  have hbelow : ∀ {e : Eff} (l : Nat), below l (if e.lo < s.nb then some (match s.lo with | none => e.lo | some m => min m e.lo) else s.lo) → below l s.lo ∧ (l < s.nb → l < e.lo) := by
    intro e l h
    split at h
    · exact ⟨(below_min h).2, fun _ => (below_min h).1⟩
    · exact ⟨h, fun hl => by omega⟩
  unfold outOf at hfin
  split at hfin
  · rename_i hcond
    simp only [Bool.and_eq_true, Bool.not_eq_true'] at hcond
    obtain ⟨hnp, hkp⟩ := hcond
    have hlt : ∀ c ∈ pvs, allLt s.bx.length c := allLt_of_noPtr hnp
    split at hfin
    · rename_i hlo
      simp only [finSt, Option.some.injEq, Prod.mk.injEq] at hfin
      obtain ⟨rfl, rfl⟩ := hfin
      have hall : ∀ l, below l s'.lo := fun l => by rw [hlo]; exact trivial
      have hbx : s.bx = s'.bx.take s.bx.length := by
        apply List.ext_getElem?
        intro l
        by_cases hl : l < s.bx.length
        · rw [List.getElem?_take_of_lt hl, (hst.old l (by rw [hn0]; exact hl) (hall l)).1, hb0]
        · rw [List.getElem?_eq_none (by omega), List.getElem?_eq_none (by rw [List.length_take]; omega)]
      obtain ⟨q1, q2⟩ := ret_core (s2 := s) hi hi' hst hb0 hn0 (Nat.le_refl _) hsb (hend hkp) rfl hbx (.inr ⟨rfl, fun l _ => hall l⟩) (fun l _ _ => hall l) (fun _ h => h) (fun h => h) (fun _ => hkp)
        (hfb (pvs.length == 1)) (fun _ _ => rfl) (hft _) (hfd _)
      exact ⟨_, q1, q2, hres _ hlt _⟩
    · rename_i l0 hlo
      simp only [finSt, Option.some.injEq, Prod.mk.injEq] at hfin
      obtain ⟨rfl, rfl⟩ := hfin
      obtain ⟨q1, q2⟩ := ret_core (s2 := { s with ts := noAlias s.ts, bx := s'.bx.take s'.nb, lo := (if l0 < s.nb then some (match s.lo with | none => l0 | some m => min m l0) else s.lo), kp := s.kp || false }) hi hi' hst hb0 hn0 (Nat.le_refl _) hsb (hend hkp) rfl (by rw [hnb]) (.inl rfl)
        (fun l hl h => by rw [hlo]; exact (hbelow (e := ⟨[], l0, false⟩) l h).2 hl) (fun l h => (hbelow (e := ⟨[], l0, false⟩) l h).1) (fun h => by simp [h]) (fun _ => hkp)
        (hfb (pvs.length == 1)) (fun _ _ => rfl) (hft _) (hfd _)
      exact ⟨_, q1, q2, hres _ hlt _⟩
  · simp only [finSt, Option.some.injEq, Prod.mk.injEq] at hfin
    obtain ⟨rfl, rfl⟩ := hfin
    have hlt : ∀ c ∈ pvs, allLt s'.bx.length c := by
      intro c hc
      obtain ⟨i, hic⟩ := List.getElem?_of_mem hc
      have hiu : i < us.length := by rw [hlen]; exact (List.getElem?_eq_some_iff.1 hic).1
      have := (hr i c _ hic (List.getElem?_eq_getElem hiu)).allLt
      rw [hbl'] at this; exact this
    obtain ⟨q1, q2⟩ := ret_core (s2 := { s with ts := noAlias s.ts, bx := s'.bx, lo := (if s'.lo.getD s'.nb < s.nb then some (match s.lo with | none => s'.lo.getD s'.nb | some m => min m (s'.lo.getD s'.nb)) else s.lo), kp := s.kp || s'.kp }) hi hi' hst hb0 hn0 hsb (Nat.le_refl _) hfull rfl (by simp) (.inl rfl)
      (fun l hl h => by
        have := (hbelow (e := ⟨[], s'.lo.getD s'.nb, false⟩) l h).2 hl
        cases hlo : s'.lo with
        | none => exact trivial
        | some m => simp only [hlo, Option.getD_some] at this; exact this) (fun l h => (hbelow (e := ⟨[], s'.lo.getD s'.nb, false⟩) l h).1) (fun h => by simp [h]) (fun h => by
          simp only [Bool.or_eq_false_iff] at h; exact h.2)
      (hfb (pvs.length == 1)) (fun _ _ => rfl) (hft _) (hfd _)
    exact ⟨_, q1, q2, hres _ hlt _⟩
end

end Go.Vx
namespace Go.Vx
open Go Go.RowKit

section
variable {P : Program} {cfg : Cfg} {base : Nat} {w0 w : World} {g : Gh} {d : Nat} {s : St} {vals : Array Value} {o : Oper} {a : Act}

theorem mark_at {p : Place} {v : PV} {ex : Bool} {k : Nat} {xs : List (List D)} (h : s.at p = .own ex k xs) : (s.mark p v).at p = v := by
  cases p with
  | tmp t =>
    have h1 := getD_some h (by intro e; cases e)
    have hlt : t < s.ts.length := (List.getElem?_eq_some_iff.1 h1).1
    simp [St.mark, St.at, List.getD, hlt]
  | cell l off =>
    obtain ⟨bx, h1, h2⟩ := at_cell h (by intro e; cases e)
    have hl : l < s.bx.length := (List.getElem?_eq_some_iff.1 h1).1
    have ho : off < bx.length := (List.getElem?_eq_some_iff.1 h2).1
    have hbx : s.bx[l] = bx := by rw [List.getElem?_eq_getElem hl] at h1; exact Option.some.inj h1
    simp only [St.mark, St.at, touch_bx]
    simp only [hl, List.getElem?_set_self, Option.getD_some, h1, List.getD]
    simp [ho]

theorem touch_touch (s : St) (l : Nat) (b : List Box) : touch { touch s l with bx := b } l = touch { s with bx := b } l := by
  unfold touch
  by_cases h : l < s.nb
  · simp only [h, if_true]
    cases s.lo <;> simp
  · simp only [h, if_false]

theorem mark_mark (s : St) (p : Place) (u v : PV) (h : ∀ l off, p = .cell l off → ∃ bx, s.bx[l]? = some bx) : (s.mark p u).mark p v = s.mark p v := by
  cases p with
  | tmp t => simp [St.mark]
  | cell l off =>
    obtain ⟨bx, hb⟩ := h l off rfl
    have hl : l < s.bx.length := (List.getElem?_eq_some_iff.1 hb).1
    simp only [St.mark, touch_bx]
    have e : (touch { s with bx := s.bx.set l (((s.bx[l]?).getD []).set off u) } l) = { touch s l with bx := s.bx.set l (((s.bx[l]?).getD []).set off u) } := by
      unfold touch; simp only; split <;> rfl
    rw [e]
    simp only
    rw [touch_touch]
    congr 1
    simp [hl]

theorem ownPlace_sound (hi : Inv base w0 w g d s vals) (ha : a.tmps = vals) {x : Operand} {p : Place} {xs : List (List D)} (h : ownPlace cfg x s = some (p, xs)) :
    s.at p = .own true 1 xs ∧ placeVal w g vals p = some (a.eval x) := by
  unfold ownPlace at h
  split at h
  · rename_i p' hv
    split at h
    · rename_i ys hat
      simp only [Option.some.injEq, Prod.mk.injEq] at h
      obtain ⟨rfl, rfl⟩ := h
      obtain ⟨t, rfl⟩ := val_is_tmp hv (.inl ⟨_, rfl⟩)
      simp only [St.val] at hv
      obtain ⟨_, _, h3⟩ := val_tmp hi ha hv (by intro e; cases e)
      exact ⟨hat, h3⟩
    · cases h
  · rename_i ys hv
    split at h
    · rename_i t
      simp only [Option.some.injEq, Prod.mk.injEq] at h
      obtain ⟨rfl, rfl⟩ := h
      simp only [St.val] at hv
      obtain ⟨_, h2, _⟩ := val_tmp hi ha hv (by intro e; cases e)
      exact ⟨hv, h2⟩
    · cases h
  · cases h

theorem intRows_rel : ∀ {xs : List (List D)} {zs : List Int}, intRows xs = some zs → xs = rowsOf zs
  | [], zs, h => by obtain rfl := Option.some.inj h; rfl
  | r :: rs, zs, h => by
    simp only [intRows] at h
    obtain ⟨z, h1, h2⟩ := seqO_eq.1 h
    obtain ⟨zs', h3, h4⟩ := seqO_eq.1 h2
    obtain rfl := Option.some.inj h4
    rw [intRows_rel h3]
    unfold intRow at h1
    split at h1
    · obtain rfl := Option.some.inj h1; rfl
    · cases h1

theorem rowsOf_flat (zs : List Int) : (rowsOf zs).flatten = zs.map fun z => .lit (.int .i64 z) := by
  induction zs with
  | nil => rfl
  | cons z zs ih =>
    have : rowsOf (z :: zs) = [.lit (.int .i64 z)] :: rowsOf zs := rfl
    rw [this, List.flatten_cons, ih]; rfl
theorem rowsOf_len (zs : List Int) : (rowsOf zs).length = zs.length := by simp [rowsOf]
theorem rowsOf_row {zs : List Int} : ∀ x ∈ rowsOf zs, x.length = 1 := by
  intro x hx
  simp only [rowsOf, List.mem_map] at hx
  obtain ⟨z, _, rfl⟩ := hx
  rfl

/-- what is asked of the cells is there -/
theorem own_ints {ow : Owner} {zs : List Int} {b off n c : Nat} (ho : OwnRel w g ow true 1 (rowsOf zs) (.slice (some ⟨b, off, none⟩) n c)) :
    ∃ cur T, w.heap[b]? = some (.cells cur T (0, 0)) ∧ n = zs.length ∧ zs.length ≤ c ∧ c ≤ maxLen ∧ off + zs.length ≤ cur.size ∧ (∀ (j : Nat) z, zs[j]? = some z → cur[off + j]? = some (.int .i64 z)) := by
  obtain ⟨b1, off1, c1, cur, T, f1, f2, f3, f4, f5, f6, f7, f8, f9, f10, f11⟩ := ho
  simp only [Value.slice.injEq, Option.some.injEq, Addr.mk.injEq] at f1
  obtain ⟨⟨rfl, rfl, _⟩, rfl, rfl⟩ := f1
  rw [rowsOf_len] at f4
  have hk : ksz 1 = 1 := rfl
  rw [hk, Nat.mul_one] at f7
  refine ⟨cur, T, f3, rowsOf_len zs, f4, f5, by omega, fun j z hz => ?_⟩
  obtain ⟨u, h1, h2⟩ := f9 j (.lit (.int .i64 z)) (by rw [rowsOf_flat, List.getElem?_map, hz]; rfl)
  cases h2
  exact h1

theorem wrote_inv (hi : Inv base w0 w g d s vals) {w' : World} {p : Place} {zs new : List Int} {ow : Owner} {b off n c : Nat} {cur : Array Value} {T : TypeId} (hp : s.at p = .own true 1 (rowsOf zs)) (hw : OwnerAt g d p ow)
    (hu : placeVal w g vals p = some (.slice (some ⟨b, off, none⟩) n c)) (ho : OwnRel w g ow true 1 (rowsOf zs) (.slice (some ⟨b, off, none⟩) n c)) (hheap : w.heap[b]? = some (.cells cur T (0, 0)))
    (hl : new.length = zs.length) (hW : Wrote b off (new.map (.int .i64)) cur T w w') :
    Inv base w0 w' g d (s.mark p (.own true 1 (rowsOf new))) vals ∧ Stp d s (s.mark p (.own true 1 (rowsOf new))) w w' g g := by
  obtain ⟨b1, off1, c1, cur1, T1, f1, f2, f3, f4, f5, f6, f7, f8, f9, f10, f11⟩ := ho
  simp only [Value.slice.injEq, Option.some.injEq, Addr.mk.injEq] at f1
  obtain ⟨⟨rfl, rfl, _⟩, rfl, rfl⟩ := f1
  rw [hheap] at f3
  obtain ⟨rfl, rfl⟩ : cur = cur1 ∧ T = T1 := by cases f3; exact ⟨rfl, rfl⟩
  rw [rowsOf_len] at f4
  have hk : ksz 1 = 1 := rfl
  rw [hk, Nat.mul_one] at f7
  have hbase : base ≤ b := hi.own_ge b _ f2
  have hbs := hi.low.size
  have hb0 := hi.hb
  have hlt := hi.own_lt b _ f2
  have hlow : Below base w0 w' := hi.low.trans ⟨hW.os, hW.tape, hW.output, hW.size, fun k hk => hW.other k (by omega) (by omega)⟩
  have hfit : off + (new.map (Value.int .i64)).length ≤ cur.toList.length := by simp; omega
  have hown : OwnRel w' g ow true 1 (rowsOf new) (.slice (some ⟨b, off, none⟩) (rowsOf zs).length c) := by
    refine ⟨b, off, c, _, T, by rw [rowsOf_len, rowsOf_len, hl], f2, hW.row, by rw [rowsOf_len, hl]; exact f4, f5, (fun h => absurd h (by decide)), by rw [hk, Nat.mul_one]; simp [setCells_len hfit]; exact f7, rowsOf_row, fun i x hx => ?_, fun _ => f10 rfl, by intro h; cases h⟩
    rw [rowsOf_flat] at hx
    have hi' : i < new.length := by simpa using (List.getElem?_eq_some_iff.1 hx).1
    rw [List.getElem?_map, List.getElem?_eq_getElem hi'] at hx
    obtain rfl := Option.some.inj hx
    refine ⟨.int .i64 new[i], ?_, .lit _ rfl⟩
    rw [List.getElem?_toArray, setCells_get hfit, if_pos ⟨by omega, by simp; omega⟩, show off + i - off = i by omega, List.getElem?_map, List.getElem?_eq_getElem hi']
    rfl
  refine markW_sound hi hw hu hlow hW.size rfl rfl (fun _ _ h => h) (fun ad v h => ?_) (fun b' o' h1 h2 => ?_) (fun b' o' h => ⟨o', h, .inl rfl⟩) rfl ?_
  · have hm := hi.mem ad v h
    have hne' : ad.block ≠ b := by
      intro e
      cases ad with
      | mk ab ao asp =>
        simp only at e
        subst e
        have hsp : asp = none := by
          cases asp with
          | none => rfl
          | some q => simp [World.cell?, hheap] at hm
        subst hsp
        rw [f10 rfl] at h; cases h
    have hadlt : ad.block < w.heap.size := by
      cases hh : w.heap[ad.block]? with
      | none =>
        cases ad with
        | mk ab ao asp => simp [World.cell?, hh] at hm
      | some q => exact (Array.getElem?_eq_some_iff.1 hh).1
    rw [← hm]
    exact World.cell?_of_block (w := w) (hW.other ad.block hadlt hne')
  · refine ⟨hW.other b' (hi.own_lt b' o' h1) ?_, rfl, fun _ => rfl⟩
    rintro rfl
    rw [f2] at h1
    cases h1
    exact h2 rfl
  · cases p with
    | tmp t => obtain rfl := hw; exact hown
    | cell l off' => obtain ⟨b', hb', rfl⟩ := hw; exact ⟨b', hb', hown⟩

/-- the head of an own array -/
theorem own_take {ow : Owner} {ys zs : List Int} {b off n c : Nat} (ho : OwnRel w g ow true 1 (rowsOf (ys ++ zs)) (.slice (some ⟨b, off, none⟩) n c)) : OwnRel w g ow true 1 (rowsOf ys) (.slice (some ⟨b, off, none⟩) ys.length c) := by
  obtain ⟨b1, off1, c1, cur1, T1, f1, f2, f3, f4, f5, f6, f7, f8, f9, f10, f11⟩ := ho
  simp only [Value.slice.injEq, Option.some.injEq, Addr.mk.injEq] at f1
  obtain ⟨⟨rfl, rfl, _⟩, rfl, rfl⟩ := f1
  rw [rowsOf_len, List.length_append] at f4
  refine ⟨b, off, c, cur1, T1, by rw [rowsOf_len], f2, f3, by rw [rowsOf_len]; omega, f5, f6, f7, rowsOf_row, fun i x hx => f9 i x ?_, f10, by intro h; cases h⟩
  rw [rowsOf_flat] at hx ⊢
  rw [List.map_append, List.getElem?_append_left (by have := (List.getElem?_eq_some_iff.1 hx).1; exact this)]
  exact hx

theorem sortI_len (zs : List Int) : (sortI zs).length = zs.length := List.length_mergeSort ..
theorem compact_len (zs : List Int) : (Lib.compact zs).length ≤ zs.length := by
  simp only [Lib.compact, Lib.compactUpTo, List.length_map]
  have := List.length_filter_le (Lib.keeps zs.toArray) (List.range zs.length)
  simpa using this
theorem compNew_len (zs : List Int) : (compNew zs).length = zs.length := by
  have := compact_len zs
  simp [compNew]; omega

theorem enter_run {c : Call} {f : FuncId} (ho : o.op = .call c) (hx : c.callee = .value (.func f)) (he : Enters P f) : (execOp a.eval o).run P w = .ok (.enter f (c.args.map a.eval)) w := by
  obtain ⟨fn, h1, h2, h3⟩ := he
  have h3' : fn.body.isNone = false := by cases hb : fn.body <;> simp_all
  simp only [execOp, ho, resolve, hx, Act.eval, Deferred.ofValue, invoke, callFunc, Sem.run_bind, Sem.run_pure, Result.andThen_ok, run_program, h1, h2, h3', Bool.false_eq_true, if_false, Array.empty_append, Array.append_empty]
end

end Go.Vx
namespace Go.Vx
open Go Go.RowKit

/-- what the answers of calls are worth -/
def CallOk (P : Program) (cfg : Cfg) (e : Job → Option Out) : Prop :=
  ∀ (f : FuncId) (args : List PV) (out : Out) (base : Nat) (w0 w : World) (g : Gh) (d : Nat) (s : St) (vals : Array Value) (us : List Value), e (.call f args s.bx) = some out → Inv base w0 w g d s vals → GlobOk cfg g →
    us.length = args.length → (∀ (j : Nat) c u, args[j]? = some c → us[j]? = some u → RelA g c u) →
    Calls P f us.toArray w (fun
      | .returned v, w' => ∃ r s' g', finSt out s = some (r, s') ∧ Inv base w0 w' g' d s' vals ∧ Stp d s s' w w' g g' ∧ RelP w' g' vals s' r v
      | _, _ => False)

/-- where an operation leads -/
def Reach (base : Nat) (w0 : World) (d : Nat) (s : St) (w : World) (g : Gh) (df : List Deferred) (s' : St) (a' : Act) (w' : World) : Prop :=
  a'.defers = df ∧ ∃ g', Inv base w0 w' g' d s' a'.tmps ∧ Stp d s s' w w' g g'

section
variable {P : Program} {cfg : Cfg} {base : Nat} {w0 w : World} {g : Gh} {d : Nat} {s : St} {vals : Array Value} {o : Oper} {a : Act} {e : Job → Option Out}

theorem put_act (a : Act) (dst : Option Tmp) (v : Value) : (a.put dst v).tmps = putVals a.tmps dst v := by cases dst <;> rfl
theorem put_df (a : Act) (dst : Option Tmp) (v : Value) : (a.put dst v).defers = a.defers := by cases dst <;> rfl

theorem upon_goes {Q : Exit → Act → World → Prop} {s' : St} (h : Goes P o a base w0 w g d s a.tmps s') : o.wp P a w (Reach base w0 d s w g a.defers s') Q := by
  obtain ⟨v, w', g', h1, h2, h3, _⟩ := h
  unfold Oper.wp
  rcases h1 with h1 | ⟨h1, rfl⟩
  · rw [h1, Oper.upon_value]
    exact ⟨put_df .., g', by rw [put_act]; exact h2, h3⟩
  · rw [h1, Oper.upon_skip]
    exact ⟨put_df .., g', by rw [put_act]; exact h2, h3⟩

theorem call_run (hc : CfgOk P cfg) {c : Call} {x : Operand} (ho : o.op = .call c) (hx : c.callee = .value x) {f : FuncId} {fn : Func} {cap : Array Value} (hv : a.eval x = .func (.func f) #[] cap) (hf : cfg.fn f = some fn) :
    (execOp a.eval o).run P w = .ok (.enter f (c.args.map a.eval ++ cap)) w := by
  obtain ⟨h1, h2, h3⟩ := hc.fn f fn hf
  have h3' : fn.body.isNone = false := by cases hb : fn.body <;> simp_all
  simp only [execOp, ho, resolve, hx, hv, Deferred.ofValue, invoke, callFunc, Sem.run_bind, Sem.run_pure, Result.andThen_ok, run_program, h1, h2, h3', Bool.false_eq_true, if_false, Array.empty_append]

theorem hook_run {c : Call} {f : FuncId} (ho : o.op = .call c) (hx : c.callee = .value (.func f)) {n : Next} {w' : World} (h : (callFunc f (c.args.map a.eval)).run P w = .ok n w') : (execOp a.eval o).run P w = .ok n w' := by
  simp only [execOp, ho, resolve, hx, Act.eval, Deferred.ofValue, invoke, Sem.run_bind, Sem.run_pure, Result.andThen_ok, Array.empty_append, Array.append_empty]
  exact h

theorem hook_sound (hc : CfgOk P cfg) (hi : Inv base w0 w g d s a.tmps) (hgl : GlobOk cfg g) {h : Hook} {args : List Operand} (hh : hookOf cfg o.op = some (h, args)) {pv : PV} {s1 : St} (hr : runHook cfg h args s = some (pv, s1)) {Q : Exit → Act → World → Prop} :
    o.wp P a w (Reach base w0 d s w g a.defers (put s1 o.dst pv)) Q := by
  unfold hookOf at hh
  split at hh
  · rename_i c ho
    split at hh
    · rename_i f hx
      cases hf : cfg.hook f with
      | none => rw [hf] at hh; cases hh
      | some k =>
        rw [hf] at hh
        obtain ⟨e1, e2⟩ := Prod.mk.inj (Option.some.inj hh)
        subst e1; subst e2
        have hF := hc.hook f k hf
        have hone : ∀ x, c.args.toList = [x] → c.args.map a.eval = #[a.eval x] := fun x hargs => by
          have : c.args = #[x] := by rw [← hargs]
          rw [this]; simp
        -- a nil slice
        have hnil : ∀ x, s.val cfg x = .dat .nil → ∃ ad, a.eval x = .slice ad 0 0 := fun x hv => by
          have hR : RelA g (.dat .nil) (a.eval x) := val_plain hi hgl rfl hv (by intro e; cases e) (by intro _ _ _ e; cases e) rfl rfl
          have hR' : RelD g.m .nil (a.eval x) := hR
          generalize a.eval x = u at hR'
          cases hR' with
          | nil ad => exact ⟨ad, rfl⟩
        unfold runHook at hr
        split at hr
        · rename_i x hargs
          split at hr
          · rename_i l off hv
            simp only [Option.some.injEq, Prod.mk.injEq] at hr
            obtain ⟨rfl, rfl⟩ := hr
            obtain ⟨b, e1, e2⟩ := val_ptr hi hgl rfl hv
            exact upon_goes (goes_same (v := a.eval x) (hook_run ho hx (by rw [hone x hargs]; exact hF (a.eval x) w)) hi ⟨b, e1, e2⟩)
          · cases hr
        · rename_i x hargs
          have hF' : IntsOk P f (fun _ _ _ => .tuple #[]) sortI := hF
          obtain ⟨hE, hN, hC⟩ := hF'
          have hrun := enter_run (a := a) (w := w) ho hx hE
          rw [hone x hargs] at hrun
          unfold Oper.wp
          rw [hrun, Oper.upon_enter]
          split at hr
          · rename_i hv
            simp only [Option.some.injEq, Prod.mk.injEq] at hr
            obtain ⟨rfl, rfl⟩ := hr
            obtain ⟨ad, e1⟩ := hnil x hv
            rw [e1]
            refine (hN ad w).mono fun en w' he => ?_
            obtain ⟨rfl, rfl⟩ := he
            obtain ⟨p1, p2, _⟩ := put_sound (pv := .tup []) (v := .tuple #[]) hi ⟨[], rfl, rfl, fun j c v h _ => by simp at h⟩ o.dst
            exact ⟨put_df .., _, by rw [put_act]; exact p1, p2⟩
          · rename_i hnv
            obtain ⟨⟨p, xs⟩, h1, h2⟩ := seqO_eq.1 hr
            obtain ⟨zs, h3, h4⟩ := seqO_eq.1 h2
            split at h4
            case isFalse => cases h4
            rename_i hlt62
            simp only [Option.some.injEq, Prod.mk.injEq] at h4
            obtain ⟨rfl, rfl⟩ := h4
            obtain ⟨q1, q2⟩ := ownPlace_sound hi rfl h1
            obtain rfl := intRows_rel h3
            obtain ⟨ow, u, r1, r2, r3⟩ := at_rel hi q1
            rw [q2] at r2
            obtain rfl := Option.some.inj r2
            have hu : ∃ b off n c, a.eval x = .slice (some ⟨b, off, none⟩) n c := by obtain ⟨b, off, c, _, _, f1, _⟩ := r3; exact ⟨b, off, _, c, f1⟩
            obtain ⟨b, off, n, cp, hu⟩ := hu
            rw [hu] at r3 q2 ⊢
            obtain ⟨cur, T, t1, rfl, t3, t4, t5, t6⟩ := own_ints r3
            refine (hC b off cp zs cur T w t1 t6 t3 t4 t5 hlt62).mono fun en w' he => ?_
            obtain ⟨rfl, hW⟩ := he
            obtain ⟨k1, k2⟩ := wrote_inv hi q1 r1 q2 r3 t1 (sortI_len zs) hW
            obtain ⟨p1, p2, _⟩ := put_sound (pv := .tup []) (v := .tuple #[]) k1 ⟨[], rfl, rfl, fun j c v h _ => by simp at h⟩ o.dst
            exact ⟨put_df .., _, by rw [put_act]; exact p1, k2.trans p2⟩
        · rename_i x hargs
          have hF' : IntsOk P f (fun a cap zs => .slice a (Lib.compact zs).length cap) compNew := hF
          obtain ⟨hE, hN, hC⟩ := hF'
          have hrun := enter_run (a := a) (w := w) ho hx hE
          rw [hone x hargs] at hrun
          unfold Oper.wp
          rw [hrun, Oper.upon_enter]
          split at hr
          · rename_i hv
            simp only [Option.some.injEq, Prod.mk.injEq] at hr
            obtain ⟨rfl, rfl⟩ := hr
            obtain ⟨ad, e1⟩ := hnil x hv
            rw [e1]
            refine (hN ad w).mono fun en w' he => ?_
            obtain ⟨rfl, rfl⟩ := he
            obtain ⟨p1, p2, _⟩ := put_sound (pv := .dat .nil) (v := .slice ad 0 0) hi (show RelD g.m .nil (.slice ad 0 0) from .nil ad) o.dst
            exact ⟨put_df .., _, by rw [put_act]; exact p1, p2⟩
          · rename_i hnv
            obtain ⟨⟨p, xs⟩, h1, h2⟩ := seqO_eq.1 hr
            obtain ⟨zs, h3, h4⟩ := seqO_eq.1 h2
            split at h4
            case isFalse => cases h4
            rename_i hlt62
            simp only [Option.some.injEq, Prod.mk.injEq] at h4
            obtain ⟨rfl, rfl⟩ := h4
            obtain ⟨q1, q2⟩ := ownPlace_sound hi rfl h1
            obtain rfl := intRows_rel h3
            obtain ⟨ow, u, r1, r2, r3⟩ := at_rel hi q1
            rw [q2] at r2
            obtain rfl := Option.some.inj r2
            have hu : ∃ b off n c, a.eval x = .slice (some ⟨b, off, none⟩) n c := by obtain ⟨b, off, c, _, _, f1, _⟩ := r3; exact ⟨b, off, _, c, f1⟩
            obtain ⟨b, off, n, cp, hu⟩ := hu
            rw [hu] at r3 q2 ⊢
            obtain ⟨cur, T, t1, rfl, t3, t4, t5, t6⟩ := own_ints r3
            refine (hC b off cp zs cur T w t1 t6 t3 t4 t5 hlt62).mono fun en w' he => ?_
            obtain ⟨rfl, hW⟩ := he
            obtain ⟨k1, k2⟩ := wrote_inv hi q1 r1 q2 r3 t1 (compNew_len zs) hW
            obtain ⟨g', u', m1, m2, m3, m4⟩ := dead_sound k1 (mark_at q1)
            have hpv : placeVal w' g a.tmps p = some (.slice (some ⟨b, off, none⟩) zs.length cp) := by
              obtain ⟨ow', u'', y1, y2, y3⟩ := at_rel k1 (mark_at q1)
              cases p with
              | tmp t => exact q2
              | cell l off' =>
                simp only [placeVal] at q2 ⊢
                cases hb' : g.blk[l]? with
                | none => rw [hb'] at q2; cases q2
                | some b' =>
                  rw [hb'] at q2
                  simp only [Option.bind_some] at q2 ⊢
                  have hlt : l < s.bx.length := by rw [← hi.blen]; exact (List.getElem?_eq_some_iff.1 hb').1
                  have hbo := (hi.boxes l b' _ hb' (List.getElem?_eq_getElem hlt)).1
                  obtain ⟨b1, off1, c1, cur1, T1, f1, f2, _⟩ := r3
                  simp only [Value.slice.injEq, Option.some.injEq, Addr.mk.injEq] at f1
                  obtain ⟨⟨rfl, rfl, _⟩, _, rfl⟩ := f1
                  have hne : b' ≠ b := by rintro rfl; rw [f2] at hbo; obtain ⟨q, _, rfl⟩ := r1; cases hbo
                  rw [← q2]
                  exact World.cell?_of_block (w := w) (hW.other b' (hi.own_lt b' _ hbo) hne)
            rw [hpv] at m1
            obtain rfl := Option.some.inj m1
            have hO := own_take (ys := Lib.compact zs) (show OwnRel w' g' (.res 0) true 1 (rowsOf (Lib.compact zs ++ List.replicate (zs.length - (Lib.compact zs).length) 0)) _ from m4)
            have hmm : (s.mark p (.own true 1 (rowsOf (compNew zs)))).mark p .dead = s.mark p .dead := mark_mark s p _ _ fun l off' e => by
              subst e
              obtain ⟨bx, e1, _⟩ := at_cell q1 (by intro e; cases e)
              exact ⟨bx, e1⟩
            rw [hmm] at m2 m3
            obtain ⟨p1, p2, _⟩ := put_sound (pv := .own true 1 (rowsOf (Lib.compact zs))) (v := .slice (some ⟨b, off, none⟩) (Lib.compact zs).length cp) m2 hO o.dst
            exact ⟨put_df .., _, by rw [put_act]; exact p1, (k2.trans m3).trans p2⟩
        · cases hr
    · cases hh
  · cases hh

theorem aopX_sound (hc : CfgOk P cfg) (hcall : CallOk P cfg e) (hfn : ∀ f args bx out, e (.call f args bx) = some out → ∃ fn, cfg.fn f = some fn) (hi : Inv base w0 w g d s a.tmps) (hgl : GlobOk cfg g) {pol : Option Pol} {s' : St} (h : aopX e cfg pol o s = some s') {Q : Exit → Act → World → Prop} :
    o.wp P a w (Reach base w0 d s w g a.defers s') Q := by
  unfold aopX at h
  split at h
  · rename_i hk hkk
    obtain ⟨⟨pv, s1⟩, h1, h2⟩ := seqO_eq.1 h
    obtain rfl := Option.some.inj h2
    exact hook_sound hc hi hgl hkk h1
  rename_i hnh
  split at h
  · rename_i c hcc
    obtain ⟨⟨job, s1⟩, h1, h2⟩ := seqO_eq.1 h
    obtain ⟨out, h3, h4⟩ := seqO_eq.1 h2
    unfold isFnCall at hcc
    split at hcc
    · rename_i cl ho
      split at hcc
      · rename_i x hx
        obtain rfl := Option.some.inj hcc
        unfold prep at h1
        obtain ⟨⟨pvs, s2⟩, h5, h6⟩ := seqO_eq.1 h1
        split at h6
        · rename_i f cap hv
          simp only [Option.some.injEq, Prod.mk.injEq] at h6
          obtain ⟨rfl, rfl⟩ := h6
          obtain ⟨fn, hfn'⟩ := hfn _ _ _ _ h3
          obtain ⟨g1, i1, st1, l1, r1⟩ := fetchs_sound (a := a) rfl _ hi hgl h5
          have hgl1 := hgl.grows st1.gr
          have hR : RelA g1 (.clo f cap) (a.eval x) := val_plain i1 hgl1 rfl hv (by intro e; cases e) (by intro _ _ _ e; cases e) rfl rfl
          obtain ⟨cu, e1, e2, e3⟩ := hR
          have hrun := call_run (a := a) (w := w) hc ho hx e1 hfn'
          unfold Oper.wp
          rw [hrun, Oper.upon_enter]
          have hC := hcall f _ out base w0 w g1 d s2 a.tmps ((cl.args.map a.eval ++ cu).toList) h3 i1 hgl1 (by simp [l1, e2]) (fun j c u hj hu => by
            simp only [Array.toList_append, Array.toList_map] at hu
            by_cases hlt : j < pvs.length
            · rw [List.getElem?_append_left hlt] at hj
              rw [List.getElem?_append_left (by simpa [l1] using hlt), List.getElem?_map] at hu
              cases hx' : cl.args.toList[j]? with
              | none => rw [hx'] at hu; cases hu
              | some y =>
                rw [hx'] at hu
                obtain rfl := Option.some.inj hu
                exact r1 j y c hx' hj
            · rw [List.getElem?_append_right (by omega), List.getElem?_map] at hj
              rw [List.getElem?_append_right (by simp [← l1]; omega)] at hu
              simp only [List.length_map, ← l1] at hu
              cases hq : cap[j - pvs.length]? with
              | none => rw [hq] at hj; cases hj
              | some l =>
                rw [hq] at hj
                obtain rfl := Option.some.inj hj
                obtain ⟨b, q1, q2⟩ := e3 _ _ hq
                rw [← Array.getElem?_toList] at q2
                rw [hu] at q2
                obtain rfl := Option.some.inj q2
                exact ⟨b, q1, rfl⟩)
          refine Calls.mono (by simpa only [Array.toArray_toList] using hC) fun en w' he => ?_
          cases en with
          | returned v =>
            obtain ⟨r, s3, g3, q1, q2, q3, q4⟩ := he
            obtain ⟨r', s4, q5, rfl⟩ := fin_eq h4
            rw [q1] at q5
            simp only [Option.some.injEq, Prod.mk.injEq] at q5
            obtain ⟨rfl, rfl⟩ := q5
            obtain ⟨p1, p2, _⟩ := put_sound q2 q4 o.dst
            exact ⟨put_df .., _, by rw [put_act]; exact p1, (st1.trans q3).trans p2⟩
          | panicked => exact he.elim
          | outgrown => exact he.elim
        · cases h6
      · cases hcc
    · cases hcc
  · exact upon_goes (aop_sound hc hi hgl rfl h)

/-- is it wanted? -/
theorem wants_sound (hi : Inv base w0 w g d s a.tmps) {ops : Array Oper} {b : Bool} (h : wants ops.toList o s = some b) : Region.wanted o (yielded ops a.tmps) = b := by
  unfold wants at h
  unfold Region.wanted
  split at h
  · rename_i hg
    rw [hg]
    exact Option.some.inj h
  · rename_i j want hg
    rw [hg]
    obtain ⟨q, h1, h2⟩ := seqO_eq.1 h
    obtain ⟨t, h3, h4⟩ := seqO_eq.1 h2
    have h1' : ops[j]? = some q := by rw [← Array.getElem?_toList]; exact h1
    have hval : ∀ v, s.ts.getD t .dead = .dat (.lit v) → a.tmps[t]? = some v := by
      intro v hv
      have h5 := getD_some hv (by intro e; cases e)
      have hlt : t < a.tmps.size := by rw [hi.tl]; exact (List.getElem?_eq_some_iff.1 h5).1
      have h6 := hi.tmps t _ _ h5 (Array.getElem?_eq_getElem hlt)
      rw [Array.getElem?_eq_getElem hlt]
      exact congrArg some h6
    simp only [yielded, h1', Option.bind_some, h3]
    split at h4
    · rename_i b' hv
      obtain rfl := Option.some.inj h4
      rw [hval _ hv]
      rfl
    · rename_i v hnb hv
      obtain rfl := Option.some.inj h4
      rw [hval _ hv]
      cases v <;> first | rfl | exact absurd rfl (hnb _)
    · cases h4

theorem aopG_sound (hc : CfgOk P cfg) (hcall : CallOk P cfg e) (hfn : ∀ f args bx out, e (.call f args bx) = some out → ∃ fn, cfg.fn f = some fn) (hi : Inv base w0 w g d s a.tmps) (hgl : GlobOk cfg g) {pol : Option Pol} {ops : Array Oper} {s' : St}
    (h : aopG e cfg pol ops.toList o s = some s') {i : Nat} (ho : ops[i]? = some o) {Q : Exit → Act → World → Prop} : wpOp P ops Q i (Reach base w0 d s w g a.defers s') a w := by
  unfold aopG at h
  obtain ⟨b, h1, h2⟩ := seqO_eq.1 h
  have hw := wants_sound hi h1
  unfold wpOp
  rw [ho]
  simp only [hw]
  cases b with
  | true => exact .inl (aopX_sound hc hcall hfn hi hgl h2)
  | false =>
    obtain rfl := Option.some.inj h2
    obtain ⟨p1, p2, _⟩ := put_sound (pv := .dat (.lit undef)) (v := undef) hi rfl o.dst
    exact ⟨put_df .., _, by rw [put_act]; exact p1, p2⟩

theorem Reach.trans {s1 s2 : St} {a2 : Act} {w1 w2 : World} {df : List Deferred} {g1 : Gh} (h : Stp d s s1 w w1 g g1) (h2 : Reach base w0 d s1 w1 g1 df s2 a2 w2) : Reach base w0 d s w g df s2 a2 w2 := by
  obtain ⟨h3, g2, h4, h5⟩ := h2
  exact ⟨h3, g2, h4, h.trans h5⟩

theorem aops_sound (hc : CfgOk P cfg) (hcall : CallOk P cfg e) (hfn : ∀ f args bx out, e (.call f args bx) = some out → ∃ fn, cfg.fn f = some fn) {cx : Cx} {rid : Nat} {ops : Array Oper} {Q : Exit → Act → World → Prop} {df : List Deferred} {s' : St} :
    ∀ (os : List Oper) (i : Nat) {g : Gh} {s : St} {w : World} {a : Act}, os = ops.toList.drop i → aops e cfg cx rid ops.toList i os s = some s' → Inv base w0 w g d s a.tmps → GlobOk cfg g → a.defers = df →
      (∀ a' w', Reach base w0 d s w g df s' a' w' → Q .normal a' w') → wpOps P ops Q (List.range' i os.length) a w
  | [], i, g, s, w, a, hd, h, hi, hgl, hdf, hQ => by
    obtain rfl := Option.some.inj h
    exact hQ a w ⟨hdf, g, hi, Stp.refl d s w g⟩
  | o :: os, i, g, s, w, a, hd, h, hi, hgl, hdf, hQ => by
    simp only [aops] at h
    obtain ⟨s1, h1, h2⟩ := seqO_eq.1 h
    have ho : ops[i]? = some o := by
      have : (ops.toList.drop i)[0]? = some o := by rw [← hd]; rfl
      rw [List.getElem?_drop] at this
      rw [← Array.getElem?_toList]; exact this
    rw [List.length_cons, List.range'_succ, wpOps_cons]
    refine wpOp_mono (fun a1 w1 hr => ?_) (aopG_sound hc hcall hfn hi hgl (aopR_G h1) ho)
    obtain ⟨k1, g1, k2, k3⟩ := hr
    refine aops_sound hc hcall hfn os (i + 1) ?_ h2 k2 (hgl.grows k3.gr) (k1.trans hdf) fun a' w' hr' => hQ a' w' (Reach.trans k3 hr')
    have := congrArg List.tail hd
    rw [List.tail_cons, List.tail_drop] at this
    exact this
end

end Go.Vx
namespace Go.Vx
open Go Go.RowKit

section
variable {P : Program} {cfg : Cfg} {base : Nat} {w0 w : World} {g : Gh} {d : Nat} {s : St} {vals : Array Value} {o : Oper} {a : Act} {e : Job → Option Out}

theorem fetchN_fetch {x : Operand} {v : PV} (h : fetchN cfg x s = some v) : fetch cfg .copy x s = some (v, s) := by
  unfold fetchN at h
  unfold fetch
  split at h
  · rename_i k xs hv
    obtain rfl := Option.some.inj h
    rw [hv]
    have : ∃ t, x = .tmp t := val_is_tmp hv (.inr (.inl ⟨_, _, _, rfl⟩))
    obtain ⟨t, rfl⟩ := this
    rfl
  · cases h
  · rename_i p hv
    rw [hv]
    simp only
    split at h
    · rename_i k xs hp
      obtain rfl := Option.some.inj h
      rw [hp]; rfl
    · rename_i y hp
      obtain rfl := Option.some.inj h
      rw [hp]; rfl
    · cases h
  · cases h
  · cases h
  · cases h
  · cases h
  · rename_i v' h1 h2 h3 h4 h5 hs h6
    obtain rfl := Option.some.inj h
    cases hv : s.val cfg x with
    | own ex k xs => cases ex with
      | true => exact absurd hv (h2 k xs)
      | false => exact absurd hv (h1 k xs)
    | «alias» p => exact absurd hv (h3 p)
    | eptr p k i j => exact absurd hv (h4 p k i j)
    | tup vs => exact absurd hv (h5 vs)
    | siter bs pos => exact absurd hv (hs bs pos)
    | dead => exact absurd hv h6
    | _ => rfl

theorem fetchNs_fetchs : ∀ {xs : List Operand} {vs : List PV}, fetchNs cfg xs s = some vs → fetchs cfg .copy xs s = some (vs, s)
  | [], vs, h => by obtain rfl := Option.some.inj h; rfl
  | x :: xs, vs, h => by
    simp only [fetchNs] at h
    obtain ⟨v, h1, h2⟩ := seqO_eq.1 h
    obtain ⟨vs', h3, h4⟩ := seqO_eq.1 h2
    obtain rfl := Option.some.inj h4
    simp only [fetchs, fetchN_fetch h1, seqO, fetchNs_fetchs h3]

theorem len_same {ts : Array TypeId} {as : List Operand} {p : PV × St} (h : aBuiltin cfg .len ts as s = some p) : p.2 = s := by
  unfold aBuiltin at h
  split at h
  · split at h
    · obtain ⟨t, _, h⟩ := seqO_eq.1 h
      obtain ⟨i, _, h⟩ := seqO_eq.1 h
      split at h
      · rw [← Option.some.inj h]
      · cases h
    · obtain ⟨t, _, h⟩ := seqO_eq.1 h
      obtain ⟨i, _, h⟩ := seqO_eq.1 h
      split at h
      · obtain ⟨r, _, h⟩ := seqO_eq.1 h
        rw [← Option.some.inj h]
      · cases h
  all_goals first | cases h | (rename_i hh; cases hh)

theorem load_same {t : TypeId} {v : PV} {p : PV × St} (hv : ∀ l off, v ≠ .ptr l off) (h : aLoad cfg t .alias v s = some p) : p.2 = s := by
  unfold aLoad at h
  obtain ⟨i, _, h⟩ := seqO_eq.1 h
  split at h
  · split at h
    · obtain ⟨c, _, h⟩ := seqO_eq.1 h; rw [← Option.some.inj h]
    · obtain ⟨c, _, h⟩ := seqO_eq.1 h; rw [← Option.some.inj h]
  · obtain ⟨q, _, h⟩ := seqO_eq.1 h
    split at h
    · split at h
      · obtain ⟨cs, _, h⟩ := seqO_eq.1 h
        split at h
        · obtain ⟨c, _, h⟩ := seqO_eq.1 h; rw [← Option.some.inj h]
        · obtain ⟨c, _, h⟩ := seqO_eq.1 h; rw [← Option.some.inj h]
      · cases h
    · cases h
  · exact absurd rfl (hv _ _)
  · cases h

theorem stays_rd {x : Operand} {p : Place} {ex : Bool} {k : Nat} {xs : List (List D)} (hst : stays cfg x s = true) (h : rd cfg x s = some (.at p ex k xs)) : ex = false := by
  unfold rd at h
  unfold stays at hst
  cases hv : s.val cfg x with
  | own ex' k' xs' =>
    rw [hv] at h hst
    cases x <;> simp only [Option.some.injEq, Rd.at.injEq] at h <;> first | cases h; done | (obtain ⟨_, rfl, _⟩ := h; simpa using hst)
  | «alias» q =>
    rw [hv] at h hst
    simp only at h hst
    cases hq : s.at q with
    | own ex' k' xs' =>
      rw [hq] at h hst
      simp only [rdPV, Option.some.injEq, Rd.at.injEq] at h
      obtain ⟨_, rfl, _⟩ := h
      simpa using hst
    | dat y => rw [hq] at h; cases y <;> simp [rdPV] at h
    | _ => rw [hq] at h; simp [rdPV] at h
  | dat y => rw [hv] at h; cases y <;> simp at h
  | _ => rw [hv] at h; simp at h

theorem sd_same {ts : Array TypeId} {as : List Operand} {p : PV × St} (h : aBuiltin cfg .unsafeSliceData ts as s = some p) : p.2 = s := by
  unfold aBuiltin at h
  split at h
  all_goals first
    | (unfold aSliceData at h
       split at h
       · split at h
         · split at h
           · rw [← Option.some.inj h]
           · cases h
         · cases h
       · cases h)
    | (rename_i hb; cases hb; done)
    | (cases h; done)
    | skip

theorem slice_same {t : TypeId} {x : Operand} {lo hi mx : Option Operand} {p : PV × St} (hst : stays cfg x s = true) (h : aSlice cfg t .alias x lo hi mx s = some p) : p.2 = s := by
  unfold aSlice at h
  obtain ⟨l, _, h⟩ := seqO_eq.1 h
  split at h
  · cases h
  · obtain ⟨i, _, h⟩ := seqO_eq.1 h
    split at h
    · split at h
      · obtain ⟨hh, _, h⟩ := seqO_eq.1 h
        split at h
        · rw [← Option.some.inj h]
        · cases h
      · cases h
    · obtain ⟨j, _, h⟩ := seqO_eq.1 h
      obtain ⟨r, hr, h⟩ := seqO_eq.1 h
      obtain ⟨hh, _, h⟩ := seqO_eq.1 h
      split at h
      · obtain ⟨m, _, h⟩ := seqO_eq.1 h
        split at h
        · split at h
          · rw [← Option.some.inj h]
          · cases h
        · split at h
          · split at h
            · rw [← Option.some.inj h]
            · cases h
          · rename_i q ex k xs
            have he := stays_rd hst hr
            subst he
            split at h
            · simp only [Bool.false_eq_true, if_false, Option.some.injEq] at h
              rw [← h]
            · cases h
      · cases h
    · obtain ⟨v, _, h⟩ := seqO_eq.1 h
      rw [← Option.some.inj h]
    · cases h

theorem aopN_aop {v : PV} (h : aopN cfg o s = some v) : aop cfg none o s = some (put s o.dst v) := by
  unfold aopN at h
  split at h
  · rename_i x ho
    have hmt : moveTup cfg x s = none := by
      unfold moveTup
      split
      · rename_i t vs hv
        rw [hv] at h
        cases h
      · rfl
    unfold aop
    rw [ho]
    simp only [Option.getD_none, hmt]
    unfold fetch
    split at h
    · rename_i ex k xs hv
      obtain ⟨t, rfl⟩ := val_is_tmp hv (.inr (.inl ⟨_, _, _, rfl⟩))
      obtain rfl := Option.some.inj h
      rw [hv]; rfl
    · cases h
    · cases h
    · cases h
    · rename_i v' h1 h2 hs h3
      obtain rfl := Option.some.inj h
      cases hv : s.val cfg x with
      | own ex k xs => exact absurd hv (h1 ex k xs)
      | tup vs => exact absurd hv (h2 vs)
      | siter bs pos => exact absurd hv (hs bs pos)
      | dead => exact absurd hv h3
      | _ => rfl
  · rename_i x ho
    unfold aop
    rw [ho]
    simp only [Option.getD_none]
    unfold fetch
    cases hv : s.val cfg x with
    | «alias» p =>
      rw [hv] at h
      simp only at h ⊢
      cases hp : s.at p <;> rw [hp] at h <;> first | (obtain rfl := Option.some.inj h; rfl) | cases h
    | own => rw [hv] at h; cases h
    | eptr => rw [hv] at h; cases h
    | tup => rw [hv] at h; cases h
    | siter => rw [hv] at h; cases h
    | tnil => rw [hv] at h; obtain rfl := Option.some.inj h; rfl
    | home => rw [hv] at h; obtain rfl := Option.some.inj h; rfl
    | dead => rw [hv] at h; cases h
    | dat => rw [hv] at h; obtain rfl := Option.some.inj h; rfl
    | agg => rw [hv] at h; obtain rfl := Option.some.inj h; rfl
    | ptr => rw [hv] at h; obtain rfl := Option.some.inj h; rfl
    | iptr => rw [hv] at h; obtain rfl := Option.some.inj h; rfl
    | clo => rw [hv] at h; obtain rfl := Option.some.inj h; rfl
  · rename_i t x lo hi mx ho
    unfold aop
    rw [ho]
    simp only [Option.getD_none]
    split at h
    · rename_i hst
      obtain ⟨p, h1, h2⟩ := seqO_eq.1 h
      obtain rfl := Option.some.inj h2
      rw [h1]
      simp only [seqO, slice_same hst h1]
    · cases h
  · rename_i c x y ho
    unfold aop
    rw [ho]
    obtain ⟨t, h1, h2⟩ := seqO_eq.1 h
    simp only [Option.getD_none, h1, seqO]
    unfold fetch
    generalize (if t = true then x else y) = z at h2 ⊢
    cases hv : s.val cfg z <;> rw [hv] at h2 <;> first | (obtain rfl := Option.some.inj h2; rfl) | cases h2
  · rename_i t ps ho
    unfold aop
    rw [ho]
    obtain ⟨i, h1, h2⟩ := seqO_eq.1 h
    split at h2
    · rename_i hcan
      obtain ⟨q, h3, h4⟩ := seqO_eq.1 h2
      obtain ⟨cs, h5, h6⟩ := seqO_eq.1 h4
      obtain rfl := Option.some.inj h6
      simp only [h1, seqO, hcan, if_true, fetchNs_fetchs h3, h5]
    · cases h2
  · rename_i t n ps ho
    unfold aop
    rw [ho]
    obtain ⟨i, h1, h2⟩ := seqO_eq.1 h
    split at h2
    · rename_i el hk
      obtain ⟨j, h3, h4⟩ := seqO_eq.1 h2
      split at h4
      · rename_i hcond
        obtain ⟨q, h5, h6⟩ := seqO_eq.1 h4
        obtain ⟨rows, h7, h8⟩ := seqO_eq.1 h6
        obtain rfl := Option.some.inj h8
        simp only [h1, seqO, hk, h3, if_pos hcond, fetchNs_fetchs h5, h7]
      · cases h4
    · cases h2
  · rename_i t x ho
    unfold aop
    rw [ho]
    simp only [Option.getD_none]
    split at h
    · rename_i l off hv
      obtain ⟨i, h1, h2⟩ := seqO_eq.1 h
      obtain ⟨b, h3, h4⟩ := seqO_eq.1 h2
      simp only [hv, aLoad, h1, h3, seqO]
      split at h4
      · rename_i hk
        obtain ⟨c, h5, h6⟩ := seqO_eq.1 h4
        split at h6
        · cases h6
        · rename_i hown
          obtain rfl := Option.some.inj h6
          simp only [Bool.or_eq_true, not_or, Bool.not_eq_true] at hown
          simp only [hk, if_true, h5, hown.1, hown.2, Bool.false_eq_true, if_false]
      · rename_i hk
        obtain ⟨c, h5, h6⟩ := seqO_eq.1 h4
        simp only [hk, h5]
        cases c <;> first | (obtain rfl := Option.some.inj h6; rfl) | cases h6
    · rename_i v' hne
      obtain ⟨p, h1, h2⟩ := seqO_eq.1 h
      obtain rfl := Option.some.inj h2
      rw [h1]
      have := load_same (fun l off e => hne l off e) h1
      simp only [seqO, this]
  · rename_i x ho
    unfold aop
    rw [ho]
    simp only
    split at h
    · rename_i hv; obtain rfl := Option.some.inj h; first | rw [hv] | rfl
    · rename_i hv; obtain rfl := Option.some.inj h; first | rw [hv] | rfl
    · rename_i hv; obtain rfl := Option.some.inj h; first | rw [hv] | rfl
    · cases h
  · rename_i op t x y t' ho
    unfold aop; rw [ho]; simp only [h, seqO]
  · rename_i op t x ho
    unfold aop; rw [ho]; simp only [h, seqO]
  · rename_i t t' x ho
    unfold aop; rw [ho]; simp only [h, seqO]
  · rename_i t x f ho
    unfold aop; rw [ho]; simp only [h, seqO]
  · rename_i t x i ho
    unfold aop; rw [ho]; simp only [h, seqO]
  · rename_i c ho
    split at h
    · rename_i hb
      obtain ⟨p, h1, h2⟩ := seqO_eq.1 h
      obtain rfl := Option.some.inj h2
      unfold aop; rw [ho]; simp only [hb, h1, seqO, len_same h1]
    · rename_i hb
      obtain ⟨p, h1, h2⟩ := seqO_eq.1 h
      obtain rfl := Option.some.inj h2
      unfold aop; rw [ho]; simp only [hb, h1, seqO, sd_same h1]
    · cases h
  · cases h

theorem aopNX_aopX {v : PV} (h : aopNX e cfg o s = some v) : aopX e cfg none o s = some (put s o.dst v) := by
  unfold aopNX at h
  unfold aopX
  split at h
  · cases h
  rename_i hnh
  try rw [hnh]
  try simp only
  split at h
  · rename_i c hc
    try rw [hc]
    obtain ⟨job, h1, h2⟩ := seqO_eq.1 h
    obtain ⟨out, h3, h4⟩ := seqO_eq.1 h2
    unfold prepN at h1
    obtain ⟨q, h5, h6⟩ := seqO_eq.1 h1
    split at h6
    · rename_i f cap hv
      obtain rfl := Option.some.inj h6
      simp only [prep, fetchNs_fetchs h5, seqO, hv, h3]
      cases out with
      | loop => cases h4
      | ret r ef => cases ef with
        | none => obtain rfl := Option.some.inj h4; rfl
        | some => cases h4
    · cases h6
  · rename_i hc
    try rw [hc]
    exact aopN_aop h

/-- an operand says the same in two states -/
def Agr (cfg : Cfg) (s s' : St) (x : Operand) : Prop := s.val cfg x = s'.val cfg x ∧ ∀ p, aliasOf (s.val cfg x) = some p → s.at p = s'.at p

theorem fetchN_congr {s' : St} {x : Operand} (h : Agr cfg s s' x) : fetchN cfg x s = fetchN cfg x s' := by
  obtain ⟨h1, h2⟩ := h
  unfold fetchN
  rw [← h1]
  cases hv : s.val cfg x with
  | «alias» p => simp only [h2 p (by rw [hv]; rfl)]
  | own ex k xs => cases ex <;> rfl
  | _ => rfl

theorem fetchNs_congr {s' : St} : ∀ {xs : List Operand}, (∀ x ∈ xs, Agr cfg s s' x) → fetchNs cfg xs s = fetchNs cfg xs s'
  | [], _ => rfl
  | x :: xs, h => by
    simp only [fetchNs, fetchN_congr (h x (List.mem_cons_self ..)), fetchNs_congr fun y hy => h y (List.mem_cons_of_mem _ hy)]

theorem rd_congr {s' : St} {x : Operand} (h : Agr cfg s s' x) : rd cfg x s = rd cfg x s' := by
  obtain ⟨h1, h2⟩ := h
  unfold rd
  rw [← h1]
  cases hv : s.val cfg x with
  | «alias» p => simp only [h2 p (by rw [hv]; rfl)]
  | dat y => cases y <;> rfl
  | _ => rfl

theorem load_congr {s' : St} {t : TypeId} {v : PV} (hv : ∀ l off, v ≠ .ptr l off) (h : ∀ p, aliasOf v = some p → s.at p = s'.at p) :
    (seqO (aLoad cfg t .alias v s) fun p => some p.1) = seqO (aLoad cfg t .alias v s') fun p => some p.1 := by
  unfold aLoad
  cases cfg.ti t with
  | none => rfl
  | some i =>
    simp only [seqO_some]
    cases v with
    | iptr cs off =>
      simp only
      split
      · cases cut cs off i.size <;> rfl
      · cases cs[off]? <;> rfl
    | eptr p k r j =>
      simp only [← h p rfl]
      cases rdPV p (s.at p) with
      | none => rfl
      | some q =>
        cases q with
        | imm => rfl
        | «at» p' ex k' xs =>
          simp only [seqO_some]
          split
          · cases xs[r]? with
            | none => rfl
            | some cs =>
              simp only [seqO_some]
              split
              · cases cut cs j i.size <;> rfl
              · cases cs[j]? <;> rfl
          · rfl
    | ptr l off => exact absurd rfl (hv l off)
    | _ => rfl

theorem len_congr {s' : St} {ts : Array TypeId} {as : List Operand} (h : ∀ x ∈ as, Agr cfg s s' x) : (seqO (aBuiltin cfg .len ts as s) fun p => some p.1) = seqO (aBuiltin cfg .len ts as s') fun p => some p.1 := by
  unfold aBuiltin
  match as, h with
  | [], _ => rfl
  | [x], h =>
    have hx := h x (List.mem_cons_self ..)
    simp only [← hx.1, rd_congr hx]
    split
    · cases ts[0]? with
      | none => rfl
      | some t =>
        simp only [seqO_some]
        cases cfg.ti t with
        | none => rfl
        | some i => simp only [seqO_some]; cases i.kind <;> rfl
    · cases ts[0]? with
      | none => rfl
      | some t =>
        simp only [seqO_some]
        cases cfg.ti t with
        | none => rfl
        | some i =>
          simp only [seqO_some]
          cases i.kind with
          | slice el => simp only; cases rd cfg x s' <;> rfl
          | _ => rfl
  | [x, y], _ => rfl
  | _ :: _ :: _ :: _, _ => rfl

theorem sd_congr {s' : St} {ts : Array TypeId} {as : List Operand} (h : ∀ x ∈ as, Agr cfg s s' x) : (seqO (aBuiltin cfg .unsafeSliceData ts as s) fun p => some p.1) = seqO (aBuiltin cfg .unsafeSliceData ts as s') fun p => some p.1 := by
  match as, h with
  | [], _ => rfl
  | [x], h =>
    have hx := h x (List.mem_cons_self ..)
    show (seqO (aSliceData cfg x s) fun p => some p.1) = seqO (aSliceData cfg x s') fun p => some p.1
    unfold aSliceData
    rw [← hx.1]
    cases hv : s.val cfg x with
    | «alias» p =>
      simp only [← hx.2 p (by rw [hv]; rfl)]
      cases s.at p with
      | own ex k xs => simp only; cases hasRows xs <;> rfl
      | _ => rfl
    | _ => rfl
  | [x, y], _ => rfl
  | _ :: _ :: _ :: _, _ => rfl

theorem slice_congr {s' : St} {t : TypeId} {x : Operand} {lo hi mx : Option Operand} (h : ∀ y ∈ (#[x] ++ lo.toArray ++ hi.toArray ++ mx.toArray).toList, Agr cfg s s' y) (h1 : stays cfg x s = true) (h2 : stays cfg x s' = true) :
    (seqO (aSlice cfg t .alias x lo hi mx s) fun p => some p.1) = seqO (aSlice cfg t .alias x lo hi mx s') fun p => some p.1 := by
  have hx := h x (by simp)
  have hlo : ∀ y, lo = some y → s.val cfg y = s'.val cfg y := fun y e => (h y (by subst e; simp)).1
  have hhi : ∀ y, hi = some y → s.val cfg y = s'.val cfg y := fun y e => (h y (by subst e; simp)).1
  have hmx : ∀ y, mx = some y → s.val cfg y = s'.val cfg y := fun y e => (h y (by subst e; simp)).1
  have e0 : s.val cfg x = s'.val cfg x := hx.1
  have er : rd cfg x s = rd cfg x s' := rd_congr hx
  have hsh : ∀ {p : Place} {ex : Bool} {k : Nat} {xs : List (List D)}, rd cfg x s' = some (.at p ex k xs) → ex = false := fun hr => stays_rd h2 hr
  clear h hx h1
  rcases lo with _ | lo <;> rcases hi with _ | hi <;> rcases mx with _ | mx <;> simp only [aSlice, hlo, hhi, hmx, e0, er, Option.isSome_none, Option.isSome_some]
  all_goals
    clear hlo hhi hmx
    try simp only [seqO_seqO, seqO_some]
  all_goals
    first
    | (congr 1; funext l)
    | skip
  all_goals
    split
    · rfl
    · cases cfg.ti t with
      | none => rfl
      | some i =>
        simp only [seqO_some]
        split
        · split
          · try simp only [seqO_seqO, seqO_some]
            repeat' first
            | rfl
            | split
            | (congr 1; funext _)
          · rfl
        · try simp only [seqO_seqO]
          congr 1
          funext j
          cases hr : rd cfg x s' with
          | none => rfl
          | some r =>
            simp only [seqO_some]
            cases r with
            | imm k xs =>
              try simp only [seqO_seqO]
              repeat' first
              | rfl
              | split
              | (simp only [seqO_seqO]; congr 1; funext _)
              | (congr 1; funext _)
            | «at» q ex k xs =>
              have he := hsh hr
              subst he
              try simp only [seqO_seqO, Bool.false_eq_true, if_false]
              repeat' first
              | rfl
              | split
              | (simp only [seqO_seqO]; congr 1; funext _)
              | (congr 1; funext _)
        · cases aSliceP cfg _ _ (s'.val cfg x) _ _ _ <;> rfl
        · rfl

theorem aopN_congr {s' : St} (h : ∀ x ∈ o.op.operands.toList, Agr cfg s s' x) (hb : s.bx = s'.bx) : aopN cfg o s = aopN cfg o s' := by
  unfold aopN
  cases hop : o.op <;> rw [hop] at h <;> simp only [Op.operands] at h <;> simp only
  case move x => rw [← (h x (by simp)).1]
  case assign x =>
    have hx := h x (by simp)
    rw [← hx.1]
    cases hv : s.val cfg x with
    | «alias» p => simp only [hx.2 p (by rw [hv]; rfl)]
    | _ => rfl
  case slice t x lo hi mx =>
    have hx := h x (by simp)
    have e1 : stays cfg x s = stays cfg x s' := by
      unfold stays
      rw [← hx.1]
      cases hv : s.val cfg x with
      | «alias» p => simp only [hx.2 p (by rw [hv]; rfl)]
      | _ => rfl
    rw [e1]
    by_cases hst : stays cfg x s' = true
    · rw [if_pos hst, if_pos hst]
      exact slice_congr h (by rw [e1]; exact hst) hst
    · rw [if_neg hst, if_neg hst]
  case pick c x y =>
    rw [← (h c (by simp)).1]
    cases abool (s.val cfg c) with
    | none => rfl
    | some t =>
      simp only [seqO_some]
      cases t
      · simp only [Bool.false_eq_true, if_false]; rw [← (h y (by simp)).1]
      · simp only [if_true]; rw [← (h x (by simp)).1]
  case build t ps => rw [fetchNs_congr (xs := ps.toList.map (·.2)) fun x hx => h x (by simpa using hx)]
  case buildSlice t n ps => rw [fetchNs_congr (xs := ps.toList.map (·.2)) fun x hx => h x (by simpa using hx)]
  case load t x =>
    have hx := h x (by simp)
    rw [← hx.1, ← hb]
    cases hv : s.val cfg x with
    | ptr l off => rfl
    | _ => exact load_congr (by intro _ _ e; cases e) (by rw [← hv]; exact hx.2)
  case nilCheck x => rw [← (h x (by simp)).1]
  case binOp op t x y t' => rw [← (h x (by simp)).1, ← (h y (by simp)).1]
  case unOp op t x => rw [← (h x (by simp)).1]
  case convert t t' x => rw [← (h x (by simp)).1]; simp only [aConv, hb]
  case fieldAddr t x f => rw [← (h x (by simp)).1]
  case indexAddr t x i =>
    unfold aIndexAddr
    rw [← (h i (by simp)).1, ← (h x (by simp)).1, rd_congr (h x (by simp))]
  case call c =>
    cases hc : c.callee with
    | builtin b => cases b <;> first | rfl | exact len_congr fun x hx => h x (by simp [Call.operands, hc] at hx ⊢; exact hx) | exact sd_congr fun x hx => h x (by simp [Call.operands, hc] at hx ⊢; exact hx)
    | _ => rfl

theorem aopNX_congr {s' : St} (h : ∀ x ∈ o.op.operands.toList, Agr cfg s s' x) (hb : s.bx = s'.bx) : aopNX e cfg o s = aopNX e cfg o s' := by
  unfold aopNX
  cases hk : hookOf cfg o.op with
  | some k => rfl
  | none =>
  simp only
  cases hc : isFnCall o.op with
  | none => exact aopN_congr h hb
  | some c =>
    unfold isFnCall at hc
    split at hc
    · rename_i cl ho
      rw [ho] at h
      split at hc
      · rename_i f hf
        obtain rfl := Option.some.inj hc
        have h1 : prepN cfg f cl.args.toList s = prepN cfg f cl.args.toList s' := by
          unfold prepN
          rw [fetchNs_congr (xs := cl.args.toList) fun x hx => h x (by simp only [Op.operands, Call.operands, hf]; simp; exact .inr (by simpa using hx)), ← (h f (by simp [Op.operands, Call.operands, hf])).1, hb]
        simp only [h1]
      · cases hc
    · cases hc
end

end Go.Vx
namespace Go.Vx
open Go Go.RowKit

/-- listed before, whatever order is drawn -/
inductive Anc (ops : List Oper) : Nat → Nat → Prop
  | one {j : Nat} {o : Oper} {e : Edge} (h : ops[j]? = some o) (he : e ∈ o.after) (hb : Region.binds .any e = true) : Anc ops j e.on
  | step {j i : Nat} {o : Oper} {e : Edge} (h : ops[j]? = some o) (he : e ∈ o.after) (hb : Region.binds .any e = true) (h2 : Anc ops e.on i) : Anc ops j i

theorem ancs_anc {ops : List Oper} : ∀ (os : List Oper) (acc : List (List Nat)), os = ops.drop acc.length → (∀ (j : Nat) i, i ∈ acc.getD j [] → Anc ops j i) → ∀ (j : Nat) i, i ∈ (ancs os acc).getD j [] → Anc ops j i
  | [], acc, _, h => h
  | o :: os, acc, hd, h => by
    have ho : ops[acc.length]? = some o := by
      have : (ops.drop acc.length)[0]? = some o := by rw [← hd]; rfl
      rw [List.getElem?_drop] at this; exact this
    have hd' : os = ops.drop (acc.length + 1) := by
      have := congrArg List.tail hd
      rw [List.tail_cons, List.tail_drop] at this; exact this
    simp only [ancs]
    refine ancs_anc os _ (by simpa using hd') fun j i hi => ?_
    rw [List.getD_eq_getElem?_getD] at hi
    by_cases hj : j < acc.length
    · rw [List.getElem?_append_left hj, ← List.getD_eq_getElem?_getD] at hi
      exact h j i hi
    · by_cases hj2 : j = acc.length
      · subst hj2
        rw [List.getElem?_append_right (Nat.le_refl _)] at hi
        simp only [Nat.sub_self, List.getElem?_cons_zero, Option.getD_some, List.mem_flatMap, List.mem_filter] at hi
        obtain ⟨e, ⟨h1, h2⟩, h3⟩ := hi
        have h1' : e ∈ o.after := by simpa using h1
        rcases List.mem_cons.1 h3 with h3 | h3
        · subst h3; exact .one ho h1' h2
        · exact .step ho h1' h2 (h _ _ h3)
      · rw [List.getElem?_eq_none (by simp; omega)] at hi
        simp at hi

/-- listed with all that it waits for -/
def Closed (ops : Array Oper) (listed : Array Bool) : Prop := ∀ (j : Nat) o e, listed.getD j false = true → ops[j]? = some o → e ∈ o.after → Region.binds .any e = true → listed.getD e.on false = true

theorem anc_listed {ops : Array Oper} {listed : Array Bool} (hc : Closed ops listed) {j i : Nat} (h : Anc ops.toList j i) : (∀ o e, ops[j]? = some o → e ∈ o.after → Region.binds .any e = true → listed.getD e.on false = true) → listed.getD i false = true := by
  induction h with
  | one h he hb => exact fun hj => hj _ _ (by rw [← Array.getElem?_toList]; exact h) he hb
  | step h he hb _ ih => exact fun hj => ih fun o e ho he' hb' => hc _ o e (hj _ _ (by rw [← Array.getElem?_toList]; exact h) he hb) ho he' hb'

theorem getD_sized {listed : Array Bool} {j : Nat} (h : j < listed.size) : listed.getD j true = listed.getD j false := by
  simp [h]

/-- how far a region's operations are listed -/
structure Lst (ops : Array Oper) (listed : Array Bool) (i0 n : Nat) : Prop where
  size : listed.size = ops.size
  old : ∀ i, i < i0 → listed.getD i false = true
  new : ∀ i, i0 + n ≤ i → listed.getD i false = false
  closed : Closed ops listed

theorem Lst.set {ops : Array Oper} {listed : Array Bool} {i0 n j : Nat} (h : Lst ops listed i0 n) (hj : j ∈ Region.ready .any ops listed) (hn : j < i0 + n) : Lst ops (listed.setIfInBounds j true) i0 n := by
  obtain ⟨h1, o, ho, h2⟩ := mem_ready.1 hj
  refine ⟨by simp [h.size], fun i hi => getD_set_true (h.old i hi), fun i hi => by rw [getD_set_ne _ (by omega)]; exact h.new i hi, fun k o' e hk ho' he hb => ?_⟩
  by_cases hkj : j = k
  · subst hkj
    rw [ho] at ho'
    obtain rfl := Option.some.inj ho'
    exact getD_set_true (h2 e he hb)
  · rw [getD_set_ne _ hkj] at hk
    exact getD_set_true (h.closed k o' e hk ho' he hb)

/-- what is ready stands in the segment, while the segment is not done -/
theorem ready_in {ops : Array Oper} {listed : Array Bool} {i0 n j : Nat} (h : Lst ops listed i0 n) (hj : j ∈ Region.ready .any ops listed)
    (hbar : ∀ j, i0 + n ≤ j → j < ops.size → ∀ k, k < n → Anc ops.toList j (i0 + k)) (hno : ∃ k, k < n ∧ listed.getD (i0 + k) false = false) : i0 ≤ j ∧ j < i0 + n ∧ listed.getD j false = false := by
  obtain ⟨h1, o, ho, h2⟩ := mem_ready.1 hj
  have hlt : j < ops.size := (Array.getElem?_eq_some_iff.1 ho).1
  have h1' : listed.getD j false = false := by rw [← getD_sized (by rw [h.size]; exact hlt)]; exact h1
  refine ⟨?_, ?_, h1'⟩
  · by_cases hi : i0 ≤ j
    · exact hi
    · rw [h.old j (by omega)] at h1'; cases h1'
  · by_cases hi : j < i0 + n
    · exact hi
    · obtain ⟨k, hk, hf⟩ := hno
      have := anc_listed h.closed (hbar j (by omega) hlt k hk) fun o' e ho' he hb => by
        rw [ho] at ho'
        obtain rfl := Option.some.inj ho'
        exact h2 e he hb
      rw [this] at hf; cases hf

/-- the first of a segment that is not listed is ready -/
theorem first_ready {ops : Array Oper} {listed : Array Bool} {i0 n : Nat} (h : Lst ops listed i0 n) (hb : i0 + n ≤ ops.size) (hedge : edgesOk ops.toList = true) : ∀ m, m ≤ n → (∀ k, k < n - m → listed.getD (i0 + k) false = true) → (∃ k, k < n ∧ listed.getD (i0 + k) false = false) → Region.ready .any ops listed ≠ []
  | 0, _, hall, ⟨k, hk, hf⟩ => by rw [hall k (by omega)] at hf; cases hf
  | m + 1, hm, hall, hex => by
    cases hl : listed.getD (i0 + (n - (m + 1))) false with
    | true =>
      refine first_ready h hb hedge m (by omega) (fun k hk => ?_) hex
      by_cases e : k = n - (m + 1)
      · rw [e]; exact hl
      · exact hall k (by omega)
    | false =>
      have hlt : i0 + (n - (m + 1)) < ops.size := by omega
      have hmem : i0 + (n - (m + 1)) ∈ Region.ready .any ops listed := by
        refine mem_ready.2 ⟨by rw [getD_sized (by rw [h.size]; exact hlt)]; exact hl, _, Array.getElem?_eq_getElem hlt, fun e he hb' => ?_⟩
        have := List.all_eq_true.1 hedge (i0 + (n - (m + 1))) (List.mem_range.2 (by simpa using hlt))
        rw [Array.getElem?_toList, Array.getElem?_eq_getElem hlt] at this
        have he2 := Array.all_eq_true_iff_forall_mem.1 this e he
        rw [hb'] at he2
        simp only [Bool.not_true, Bool.false_or, decide_eq_true_eq] at he2
        by_cases hlo : e.on < i0
        · exact h.old _ hlo
        · have := hall (e.on - i0) (by omega)
          rw [show i0 + (e.on - i0) = e.on by omega] at this
          exact this
      exact fun e => by rw [e] at hmem; cases hmem

end Go.Vx
namespace Go.Vx
open Go Go.RowKit

section
variable {P : Program} {cfg : Cfg} {base : Nat} {w0 w : World} {g : Gh} {d : Nat} {s : St} {vals : Array Value} {o : Oper} {a : Act} {e : Job → Option Out}

/-- an operation of a segment, at its place in the text -/
structure At1 (e : Job → Option Out) (cfg : Cfg) (L : List Oper) (ds : List Nat) (o : Oper) (s1 s2 : St) (dk : Nat) (vk : PV) : Prop where
  dst : o.dst = some dk
  val : ∃ b, wants L o s1 = some b ∧ iteB b (fun _ => aopNX e cfg o s1) (fun _ => some (.dat (.lit undef))) = some vk
  al : okAl ds vk = true
  next : s2 = { s1 with ts := s1.ts.set dk vk }

theorem seg_facts {L : List Oper} {ds : List Nat} : ∀ {os : List Oper} {s s' : St}, anseg e cfg L ds os s = some s' →
    ∃ (st : Nat → St) (dk : Nat → Nat) (vk : Nat → PV), st 0 = s ∧ st os.length = s' ∧ ∀ (k : Nat) o, os[k]? = some o → At1 e cfg L ds o (st k) (st (k + 1)) (dk k) (vk k)
  | [], s, s', h => ⟨fun _ => s, fun _ => 0, fun _ => .dead, rfl, Option.some.inj h, fun k o h => by simp at h⟩
  | o :: os, s, s', h => by
    simp only [anseg] at h
    obtain ⟨s1, h1, h2⟩ := seqO_eq.1 h
    obtain ⟨st, dk, vk, e1, e2, e3⟩ := seg_facts h2
    replace h1 := aopNR_NG h1
    unfold aopNG at h1
    obtain ⟨t, h3, h4⟩ := seqO_eq.1 h1
    · obtain ⟨b, h5, h6⟩ := seqO_eq.1 h4
      obtain ⟨v, h7, h8⟩ := seqO_eq.1 h6
      split at h8
      · rename_i hal
        refine ⟨fun k => match k with | 0 => s | k + 1 => st k, fun k => match k with | 0 => t | k + 1 => dk k, fun k => match k with | 0 => v | k + 1 => vk k, rfl, e2, fun k x hx => ?_⟩
        cases k with
        | zero =>
          simp only [List.getElem?_cons_zero, Option.some.injEq] at hx
          subst hx
          exact ⟨h3, ⟨b, h5, h7⟩, hal, e1.trans (Option.some.inj h8).symm⟩
        | succ k => exact e3 k x (by simpa using hx)
      · cases h8

structure Good (s : St) (n : Nat) (dk : Nat → Nat) (vk : Nat → PV) (lst : Nat → Bool) (sL : St) : Prop where
  bx : sL.bx = s.bx
  nb : sL.nb = s.nb
  lo : sL.lo = s.lo
  kp : sL.kp = s.kp
  len : sL.ts.length = s.ts.length
  hit : ∀ k, k < n → lst k = true → sL.ts[dk k]? = some (vk k)
  miss : ∀ t, (∀ k, k < n → lst k = true → dk k ≠ t) → sL.ts[t]? = s.ts[t]?

theorem Good.set {n : Nat} {dk : Nat → Nat} {vk : Nat → PV} {lst lst' : Nat → Bool} {sL : St} (h : Good s n dk vk lst sL) {j : Nat} (hdd : ∀ k k', k < n → k' < n → dk k = dk k' → k = k') (hj : j < n) (hlt : dk j < s.ts.length)
    (hl : ∀ k, k < n → lst' k = (lst k || k == j)) : Good s n dk vk lst' { sL with ts := sL.ts.set (dk j) (vk j) } := by
  refine ⟨h.bx, h.nb, h.lo, h.kp, by simpa using h.len, fun k hk hlk => ?_, fun t ht => ?_⟩
  · simp only [List.getElem?_set]
    by_cases e : dk j = dk k
    · have := hdd j k hj hk e
      subst this
      rw [if_pos rfl, if_pos (by rw [h.len]; exact hlt)]
    · rw [if_neg e]
      refine h.hit k hk ?_
      rw [hl k hk] at hlk
      simp only [Bool.or_eq_true, beq_iff_eq] at hlk
      exact hlk.resolve_right fun e' => e (by rw [e'])
  · have hne : dk j ≠ t := ht j hj (by rw [hl j hj]; simp)
    simp only [List.getElem?_set, if_neg hne]
    exact h.miss t fun k hk hlk => ht k hk (by rw [hl k hk, hlk]; rfl)

theorem mem_dstsOf : ∀ {os : List Oper} {k : Nat} {o : Oper} {t : Nat}, os[k]? = some o → o.dst = some t → t ∈ dstsOf os
  | [], k, o, t, h, _ => by simp at h
  | x :: os, 0, o, t, h, hd => by
    simp only [List.getElem?_cons_zero, Option.some.injEq] at h
    subst h
    simp [dstsOf, hd]
  | x :: os, k + 1, o, t, h, hd => by
    have := mem_dstsOf (os := os) (by simpa using h) hd
    simp only [dstsOf]
    split
    · exact List.mem_cons_of_mem _ this
    · exact this

section seg
variable {L S : List Oper} {s0 : St} {st : Nat → St} {dk : Nat → Nat} {vk : Nat → PV} (hst0 : st 0 = s0) (hat : ∀ (k : Nat) o, S[k]? = some o → At1 e cfg L (dstsOf S) o (st k) (st (k + 1)) (dk k) (vk k))
  (hdd : ∀ k k', k < S.length → k' < S.length → dk k = dk k' → k = k') (hlen : ∀ k, k < S.length → dk k < s0.ts.length)
include hst0 hat hdd hlen

theorem seq_good : ∀ k, k ≤ S.length → Good s0 S.length dk vk (fun j => decide (j < k)) (st k)
  | 0, _ => by
    rw [hst0]
    exact ⟨rfl, rfl, rfl, rfl, rfl, fun k _ h => by simp at h, fun _ _ => rfl⟩
  | k + 1, hk => by
    have ih := seq_good k (by omega)
    obtain ⟨h1, h3, h4, h5⟩ := hat k S[k] (List.getElem?_eq_getElem hk)
    have hlt : dk k < s0.ts.length := hlen k hk
    rw [h5]
    refine ih.set hdd hk hlt fun j _ => ?_
    by_cases e : j = k
    · subst e; simp
    · have : decide (j < k + 1) = decide (j < k) := by
        by_cases h : j < k
        · simp [h]; omega
        · simp [h]; omega
      rw [this]; simp [e]

theorem seg_step (hal : ∀ (i : Nat) c p, s0.ts[i]? = some c → aliasOf c = some (.tmp p) → p ∉ dstsOf S) {lst : Nat → Bool} {sL : St} (hG : Good s0 S.length dk vk lst sL) {j : Nat} {o : Oper} (hj : S[j]? = some o) (hl : lst j = false)
    (hdep : ∀ t ∈ readsOf L o, ∀ k, k < S.length → dk k = t → lst k = true ∧ k < j) :
    aopG e cfg none L o sL = some { sL with ts := sL.ts.set (dk j) (vk j) } := by
  have hjl : j < S.length := (List.getElem?_eq_some_iff.1 hj).1
  obtain ⟨h1, ⟨b, h3, h4⟩, h5, h6⟩ := hat j o hj
  have hG2 := seq_good hst0 hat hdd hlen j (by omega)
  have hdsk : ∀ k, k < S.length → dk k ∈ dstsOf S := fun k hk => mem_dstsOf (List.getElem?_eq_getElem hk) (hat k _ (List.getElem?_eq_getElem hk)).dst
  have hslot : ∀ t ∈ readsOf L o, sL.ts[t]? = (st j).ts[t]? ∧ ((∃ k, k < S.length ∧ sL.ts[t]? = some (vk k)) ∨ sL.ts[t]? = s0.ts[t]?) := by
    intro t ht
    by_cases hex : ∃ k, k < S.length ∧ dk k = t
    · obtain ⟨k, hk, rfl⟩ := hex
      obtain ⟨q1, q2⟩ := hdep _ ht k hk rfl
      have := hG.hit k hk q1
      exact ⟨by rw [this, hG2.hit k hk (by simpa using q2)], .inl ⟨k, hk, this⟩⟩
    · have := hG.miss t fun k hk _ e => hex ⟨k, hk, e⟩
      exact ⟨by rw [this, hG2.miss t fun k hk _ e => hex ⟨k, hk, e⟩], .inr this⟩
  have hagr : ∀ x ∈ o.op.operands.toList, Agr cfg sL (st j) x := by
    intro x hx
    have hval : sL.val cfg x = (st j).val cfg x := by
      cases x with
      | tmp t =>
        have ht : t ∈ readsOf L o := List.mem_append_left _ (List.mem_filterMap.2 ⟨.tmp t, hx, rfl⟩)
        simp only [St.val, List.getD_eq_getElem?_getD, (hslot t ht).1]
      | _ => rfl
    refine ⟨hval, fun p hp => ?_⟩
    cases p with
    | cell l off => simp only [St.at, hG.bx, hG2.bx]
    | tmp q =>
      obtain ⟨t, rfl⟩ := val_is_tmp (c := sL.val cfg x) rfl (.inl ⟨_, hp⟩)
      have ht : t ∈ readsOf L o := List.mem_append_left _ (List.mem_filterMap.2 ⟨.tmp t, hx, rfl⟩)
      have hq : ∀ k, k < S.length → dk k ≠ q := by
        intro k hk e
        subst e
        have hne : sL.ts.getD t .dead ≠ .dead := by
          intro e
          simp only [St.val, e] at hp
          cases hp
        have hts := getD_some (l := sL.ts) (i := t) (x := .dead) rfl hne
        rcases (hslot t ht).2 with ⟨k', hk', h7⟩ | h7
        · have h8 := (hat k' _ (List.getElem?_eq_getElem hk')).al
          rw [hts] at h7
          have h9 : sL.ts.getD t .dead = vk k' := Option.some.inj h7
          simp only [St.val, h9] at hp
          have hin := hdsk k hk
          cases hv : vk k' with
          | «alias» p' =>
            rw [hv] at hp h8
            obtain rfl : p' = .tmp (dk k) := Option.some.inj hp
            simp [okAl, hin] at h8
          | eptr p' _ _ _ =>
            rw [hv] at hp h8
            obtain rfl : p' = .tmp (dk k) := Option.some.inj hp
            simp [okAl, hin] at h8
          | _ => rw [hv] at hp; cases hp
        · rw [hts] at h7
          exact hal t _ _ h7.symm hp (hdsk k hk)
      simp only [St.at, List.getD_eq_getElem?_getD, hG.miss q fun k hk _ => hq k hk, hG2.miss q fun k hk _ => hq k hk]
  have hw : wants L o sL = some b := by
    rw [← h3]
    unfold wants
    cases hg : o.guard with
    | none => rfl
    | some p =>
      obtain ⟨i, want⟩ := p
      simp only
      cases hi : L[i]? with
      | none => rfl
      | some q =>
        simp only [seqO_some]
        cases hd : q.dst with
        | none => rfl
        | some t =>
          have ht : t ∈ readsOf L o := List.mem_append_right _ (by simp [hg, hi, hd])
          simp only [seqO_some, List.getD_eq_getElem?_getD, (hslot t ht).1]
  have hput : ∀ v, okAl (dstsOf S) v = true → put sL o.dst v = { sL with ts := sL.ts.set (dk j) v } := by
    intro v hv
    have hin := hdsk j hjl
    have hmap : sL.ts.map (PV.strip (isTmp (dk j))) = sL.ts := by
      apply List.ext_getElem?
      intro t
      rw [List.getElem?_map]
      cases hc : sL.ts[t]? with
      | none => rfl
      | some c =>
        refine congrArg some ?_
        cases ha : aliasOf c with
        | none => exact PV.strip_of ha
        | some p =>
          refine strip_false ha ?_
          cases p with
          | cell => rfl
          | tmp q =>
            simp only [isTmp, beq_eq_false_iff_ne]
            intro e
            subst e
            by_cases hex : ∃ k, k < S.length ∧ lst k = true ∧ dk k = t
            · obtain ⟨k, hk, q1, rfl⟩ := hex
              have h7 := hG.hit k hk q1
              rw [hc] at h7
              obtain rfl := Option.some.inj h7
              have h8 := (hat k _ (List.getElem?_eq_getElem hk)).al
              cases hv : vk k with
              | «alias» p' => rw [hv] at ha h8; obtain rfl : p' = .tmp (dk j) := Option.some.inj ha; simp [okAl, hin] at h8
              | eptr p' _ _ _ => rw [hv] at ha h8; obtain rfl : p' = .tmp (dk j) := Option.some.inj ha; simp [okAl, hin] at h8
              | _ => rw [hv] at ha; cases ha
            · have h7 := hG.miss t fun k hk q1 e => hex ⟨k, hk, q1, e⟩
              rw [hc] at h7
              exact hal t c (dk j) h7.symm ha hin
    have hs : PV.strip (isTmp (dk j)) v = v := by
      cases ha : aliasOf v with
      | none => exact PV.strip_of ha
      | some p =>
        cases p with
        | cell l off => exact strip_false ha rfl
        | tmp q =>
          refine strip_false ha ?_
          simp only [isTmp, beq_eq_false_iff_ne]
          intro e
          subst e
          cases v with
          | «alias» p' => obtain rfl : p' = .tmp (dk j) := Option.some.inj ha; simp [okAl, hin] at hv
          | eptr p' _ _ _ => obtain rfl : p' = .tmp (dk j) := Option.some.inj ha; simp [okAl, hin] at hv
          | _ => cases ha
    simp only [h1, put, hs, hmap, ite_self]
  unfold aopG
  rw [hw]
  simp only [seqO_some]
  cases b with
  | true =>
    have hv : aopNX e cfg o sL = some (vk j) := by
      rw [aopNX_congr hagr (hG.bx.trans hG2.bx.symm)]; exact h4
    simp only [iteB_true, aopNX_aopX hv, hput _ h5]
  | false =>
    have hv : PV.dat (.lit undef) = vk j := Option.some.inj h4
    simp only [iteB_false]
    rw [← hv, hput _ rfl]
end seg
end

end Go.Vx
namespace Go.Vx
open Go Go.RowKit

section
variable {P : Program} {cfg : Cfg} {base : Nat} {w0 w : World} {g : Gh} {d : Nat} {s : St} {vals : Array Value} {o : Oper} {a : Act} {e : Job → Option Out}

theorem countP_lt {p q : Nat → Bool} : ∀ {l : List Nat}, (∀ x ∈ l, q x = true → p x = true) → (∃ x ∈ l, p x = true ∧ q x = false) → l.countP q < l.countP p
  | [], _, ⟨x, hx, _⟩ => by cases hx
  | y :: l, h, ⟨x, hx, h1, h2⟩ => by
    have hle : l.countP q ≤ l.countP p := List.countP_mono_left fun z hz => h z (List.mem_cons_of_mem _ hz)
    simp only [List.countP_cons]
    rcases List.mem_cons.1 hx with e | hx
    · subst e
      rw [h1, h2]; simp; omega
    · have := countP_lt (l := l) (fun z hz => h z (List.mem_cons_of_mem _ hz)) ⟨x, hx, h1, h2⟩
      have hy := h y (List.mem_cons_self ..)
      cases hq : q y <;> cases hp : p y <;> simp_all <;> omega

def unl (listed : Array Bool) (i0 n : Nat) : Nat := (List.range n).countP fun k => !listed.getD (i0 + k) false

theorem unl_set {listed : Array Bool} {i0 n k : Nat} (hk : k < n) (hl : listed.getD (i0 + k) false = false) (hs : i0 + k < listed.size) : unl (listed.setIfInBounds (i0 + k) true) i0 n < unl listed i0 n := by
  refine countP_lt (fun x _ hx => ?_) ⟨k, List.mem_range.2 hk, by rw [hl]; rfl, by simp [hs]⟩
  by_cases e : i0 + k = i0 + x
  · have : k = x := by omega
    subst this
    rw [hl]; rfl
  · rw [getD_set_ne _ e] at hx; exact hx

theorem Good.eq {n : Nat} {dk : Nat → Nat} {vk : Nat → PV} {l1 l2 : Nat → Bool} {x y : St} (h1 : Good s n dk vk l1 x) (h2 : Good s n dk vk l2 y) (h : ∀ k, k < n → l1 k = l2 k) : x = y := by
  obtain ⟨a1, a2, a3, a4, a5⟩ := x
  obtain ⟨b1, b2, b3, b4, b5⟩ := y
  have hts : a1 = b1 := by
    apply List.ext_getElem?
    intro t
    by_cases hex : ∃ k, k < n ∧ l1 k = true ∧ dk k = t
    · obtain ⟨k, hk, hl, rfl⟩ := hex
      exact (h1.hit k hk hl).trans (h2.hit k hk (by rw [← h k hk]; exact hl)).symm
    · exact (h1.miss t fun k hk hl e => hex ⟨k, hk, hl, e⟩).trans (h2.miss t fun k hk hl e => hex ⟨k, hk, by rw [h k hk]; exact hl, e⟩).symm
  have e2 : a2 = b2 := h1.bx.trans h2.bx.symm
  have e3 : a3 = b3 := h1.nb.trans h2.nb.symm
  have e4 : a4 = b4 := h1.lo.trans h2.lo.symm
  have e5 : a5 = b5 := h1.kp.trans h2.kp.symm
  subst hts; subst e2; subst e3; subst e4; subst e5; rfl

theorem seg_sound (hc : CfgOk P cfg) (hcall : CallOk P cfg e) (hfn : ∀ f args bx out, e (.call f args bx) = some out → ∃ fn, cfg.fn f = some fn) {ops : Array Oper} {i0 n : Nat} (hn : i0 + n ≤ ops.size) (hedge : edgesOk ops.toList = true)
    (hbar : ∀ j, i0 + n ≤ j → j < ops.size → ∀ k, k < n → Anc ops.toList j (i0 + k)) {S : List Oper} (hS : ∀ k, k < n → S[k]? = ops[i0 + k]?) (hSl : S.length = n)
    {s0 : St} {st : Nat → St} {dk : Nat → Nat} {vk : Nat → PV} (hst0 : st 0 = s0) (hat : ∀ (k : Nat) o, S[k]? = some o → At1 e cfg ops.toList (dstsOf S) o (st k) (st (k + 1)) (dk k) (vk k))
    (hdd : ∀ k k', k < S.length → k' < S.length → dk k = dk k' → k = k') (hdep : ∀ (j : Nat) o, S[j]? = some o → ∀ t ∈ readsOf ops.toList o, ∀ k, k < S.length → dk k = t → k < j ∧ Anc ops.toList (i0 + j) (i0 + k))
    (hlen : ∀ k, k < S.length → dk k < s0.ts.length) (hal : ∀ (i : Nat) c p, s0.ts[i]? = some c → aliasOf c = some (.tmp p) → p ∉ dstsOf S) {F : Nat} {Q : Exit → Act → World → Prop} {df : List Deferred} {wS : World} {gS : Gh}
    (hK : ∀ (fuel : Nat) (listed : Array Bool) (a : Act) (w : World) (g : Gh), F ≤ fuel → Lst ops listed (i0 + n) 0 → Inv base w0 w g d (st n) a.tmps → GlobOk cfg g → a.defers = df → Stp d s0 (st n) wS w gS g → wpAny P .any ops Q fuel listed a w) :
    ∀ (m fuel : Nat) (listed : Array Bool) (a : Act) (w : World) (g : Gh) (sL : St), unl listed i0 n ≤ m → m + F ≤ fuel → Lst ops listed i0 n → Good s0 S.length dk vk (fun k => listed.getD (i0 + k) false) sL →
      Inv base w0 w g d sL a.tmps → GlobOk cfg g → a.defers = df → Stp d s0 sL wS w gS g → wpAny P .any ops Q fuel listed a w := by
  intro m
  induction m with
  | zero =>
    intro fuel listed a w g sL hu hf hL hG hi hgl hdf hst
    have hall : ∀ k, k < n → listed.getD (i0 + k) false = true := by
      intro k hk
      have h0 : unl listed i0 n = 0 := Nat.le_zero.1 hu
      have := List.countP_eq_zero.1 h0 k (List.mem_range.2 hk)
      simpa using this
    have hG2 := seq_good hst0 hat hdd hlen n (by omega)
    have : sL = st n := hG.eq hG2 fun k hk => by rw [hall k (by omega)]; simp; omega
    subst this
    refine hK fuel listed a w g (by omega) ⟨hL.size, fun i hi => ?_, fun i hi => hL.new i hi, hL.closed⟩ hi hgl hdf hst
    by_cases h : i < i0
    · exact hL.old i h
    · have := hall (i - i0) (by omega)
      rw [show i0 + (i - i0) = i by omega] at this; exact this
  | succ m ih =>
    intro fuel listed a w g sL hu hf hL hG hi hgl hdf hst
    by_cases hex : ∃ k, k < n ∧ listed.getD (i0 + k) false = false
    · obtain ⟨f, rfl⟩ : ∃ f, fuel = f + 1 := ⟨fuel - 1, by omega⟩
      refine ⟨fun hr => absurd hr (first_ready hL hn hedge n (Nat.le_refl n) (fun k hk => by omega) hex), fun j hj => ?_⟩
      obtain ⟨h1, h2, h3⟩ := ready_in hL hj hbar hex
      obtain ⟨k, rfl⟩ : ∃ k, j = i0 + k := ⟨j - i0, by omega⟩
      have hk : k < n := by omega
      have hjs : i0 + k < ops.size := by omega
      have ho : ops[i0 + k]? = some ops[i0 + k] := Array.getElem?_eq_getElem hjs
      have hSk : S[k]? = some ops[i0 + k] := by rw [hS k hk, ho]
      have hstep := seg_step (lst := fun k => listed.getD (i0 + k) false) hst0 hat hdd hlen hal hG hSk h3 (fun t ht k' hk' e => by
        obtain ⟨q1, q2⟩ := hdep k _ hSk t ht k' hk' e
        refine ⟨?_, q1⟩
        refine anc_listed hL.closed q2 fun o' ed ho' he hb => ?_
        obtain ⟨_, o2, ho2, hrd⟩ := mem_ready.1 hj
        rw [ho'] at ho2
        obtain rfl := Option.some.inj ho2
        exact hrd ed he hb)
      refine wpOp_mono (fun a1 w1 hr => ?_) (aopG_sound hc hcall hfn hi hgl hstep ho)
      obtain ⟨k1, g1, k2, k3⟩ := hr
      have hlt := hlen k (by omega : k < S.length)
      refine ih f _ a1 w1 g1 _ ?_ (by omega) (hL.set hj h2) (hG.set hdd (by omega) hlt fun k' hk' => ?_) k2 (hgl.grows k3.gr) (k1.trans hdf) (hst.trans k3)
      · have := unl_set hk h3 (by rw [hL.size]; exact hjs)
        omega
      · by_cases e : k' = k
        · subst e; simp [hL.size, hjs]
        · rw [getD_set_ne _ (by omega)]; simp [e]
    · refine ih fuel listed a w g sL ?_ (by omega) hL hG hi hgl hdf hst
      have : unl listed i0 n = 0 := by
        refine List.countP_eq_zero.2 fun k hk => ?_
        have : ¬ listed.getD (i0 + k) false = false := fun h => hex ⟨k, List.mem_range.1 hk, h⟩
        simp at this
        simp [this]
      omega

theorem segs_sound (hc : CfgOk P cfg) (hcall : CallOk P cfg e) (hfn : ∀ f args bx out, e (.call f args bx) = some out → ∃ fn, cfg.fn f = some fn) {cx : Cx} {rid : Nat} {ops : Array Oper} (hedge : edgesOk ops.toList = true)
    {Q : Exit → Act → World → Prop} {df : List Deferred} {s' : St} : ∀ (ns : List Nat) (i0 : Nat) (s : St) (fuel : Nat) (listed : Array Bool) (a : Act) (w : World) (g : Gh), segsFrom ops.toList (ancs ops.toList []) ns i0 = true →
      asegs e cfg cx rid ops.toList ns i0 (ops.toList.drop i0) s = some s' → Lst ops listed i0 0 → ops.size - i0 ≤ fuel → Inv base w0 w g d s a.tmps → GlobOk cfg g → a.defers = df →
      (∀ a' w', Reach base w0 d s w g df s' a' w' → Q .normal a' w') → wpAny P .any ops Q fuel listed a w
  | [], i0, s, fuel, listed, a, w, g, hok, h, hL, hf, hi, hgl, hdf, hQ => by
    simp only [segsFrom, beq_iff_eq, Array.length_toList] at hok
    have hd : ops.toList.drop i0 = [] := List.drop_of_length_le (by simp [hok])
    rw [hd] at h
    obtain rfl := Option.some.inj h
    have hr : Region.ready .any ops listed = [] := by
      refine List.eq_nil_iff_forall_not_mem.2 fun j hj => ?_
      obtain ⟨h1, o, ho, _⟩ := mem_ready.1 hj
      have hlt := (Array.getElem?_eq_some_iff.1 ho).1
      rw [getD_sized (by rw [hL.size]; exact hlt), hL.old j (by omega)] at h1
      cases h1
    have hq := hQ a w ⟨hdf, g, hi, Stp.refl d s w g⟩
    cases fuel with
    | zero => exact ⟨hr, hq⟩
    | succ f => exact ⟨fun _ => hq, fun j hj => by rw [hr] at hj; cases hj⟩
  | n :: ns, i0, s, fuel, listed, a, w, g, hok, h, hL, hf, hi, hgl, hdf, hQ => by
    simp only [segsFrom, Bool.and_eq_true, decide_eq_true_eq, Array.length_toList] at hok
    obtain ⟨⟨⟨⟨hn0, hn⟩, hbar0⟩, hfree⟩, hrest⟩ := hok
    have hbar : ∀ j, i0 + n ≤ j → j < ops.size → ∀ k, k < n → Anc ops.toList j (i0 + k) := by
      intro j h1 h2 k hk
      have := List.all_eq_true.1 (List.all_eq_true.1 hbar0 (j - (i0 + n)) (List.mem_range.2 (by omega))) k (List.mem_range.2 hk)
      rw [show i0 + n + (j - (i0 + n)) = j by omega] at this
      exact ancs_anc ops.toList [] rfl (fun j i h => by simp at h) j (i0 + k) (by simpa using this)
    have hLn : Lst ops listed i0 n := ⟨hL.size, hL.old, fun i hi => hL.new i (by omega), hL.closed⟩
    have hdrop : ∀ m, (ops.toList.drop i0).drop m = ops.toList.drop (i0 + m) := fun m => by rw [List.drop_drop]
    unfold asegs at h
    split at h
    · rename_i hn1
      subst hn1
      split at h
      · rename_i o rest' hrw
        obtain ⟨s1, h1, h2⟩ := seqO_eq.1 h
        have ho : ops[i0]? = some o := by
          have : (ops.toList.drop i0)[0]? = some o := by rw [hrw]; rfl
          rw [List.getElem?_drop] at this
          rw [← Array.getElem?_toList]; exact this
        have hr' : rest' = ops.toList.drop (i0 + 1) := by
          rw [← hdrop 1, hrw]; rfl
        subst hr'
        have hl0 : listed.getD i0 false = false := hL.new i0 (by omega)
        obtain ⟨f, rfl⟩ : ∃ f, fuel = f + 1 := ⟨fuel - 1, by omega⟩
        refine ⟨fun hr => absurd hr (first_ready hLn hn hedge 1 (Nat.le_refl 1) (fun k hk => by omega) ⟨0, by omega, hl0⟩), fun j hj => ?_⟩
        obtain ⟨q1, q2, q3⟩ := ready_in hLn hj hbar ⟨0, by omega, hl0⟩
        have : j = i0 := by omega
        subst this
        refine wpOp_mono (fun a1 w1 hr => ?_) (aopG_sound hc hcall hfn hi hgl (aopR_G h1) ho)
        obtain ⟨k1, g1, k2, k3⟩ := hr
        have hL1 := hLn.set hj q2
        refine segs_sound hc hcall hfn hedge ns (j + 1) s1 f _ a1 w1 g1 hrest h2 ⟨hL1.size, fun i hi => ?_, fun i hi => hL1.new i (by omega), hL1.closed⟩ (by omega) k2 (hgl.grows k3.gr) (k1.trans hdf) fun a' w' hr' => hQ a' w' (Reach.trans k3 hr')
        by_cases e : i = j
        · subst e
          have : i < listed.size := by rw [hL.size]; omega
          simp [this]
        · exact hL1.old i (by omega)
      · cases h
    · rename_i hn1
      have hsf : segFree (dstsOf (List.take n (List.drop i0 ops.toList))) s = true := by
        by_cases hsf : segFree (dstsOf (List.take n (List.drop i0 ops.toList))) s = true
        · exact hsf
        · rw [if_neg hsf] at h; cases h
      rw [if_pos hsf] at h
      simp only [segFree, Bool.and_eq_true] at hsf
      obtain ⟨s1, h1, h2⟩ := seqO_eq.1 h
      obtain ⟨st, dk, vk, e1, e2, e3⟩ := seg_facts h1
      have hSl : ((ops.toList.drop i0).take n).length = n := by simp; omega
      have hS : ∀ k, k < n → ((ops.toList.drop i0).take n)[k]? = ops[i0 + k]? := fun k hk => by
        rw [List.getElem?_take_of_lt hk, List.getElem?_drop, Array.getElem?_toList]
      have hfr : ∀ k, k < n → freeOk ops.toList (ancs ops.toList []) i0 n (i0 + k) = true := by
        intro k hk
        simp only [Bool.or_eq_true, beq_iff_eq] at hfree
        exact List.all_eq_true.1 (hfree.resolve_left hn1) k (List.mem_range.2 hk)
      have hdst : ∀ k, k < n → ∃ o, ops.toList[i0 + k]? = some o ∧ ((ops.toList.drop i0).take n)[k]? = some o ∧ o.dst = some (dk k) := by
        intro k hk
        have hlt : i0 + k < ops.size := by omega
        have := hS k hk
        rw [Array.getElem?_eq_getElem hlt] at this
        exact ⟨_, by rw [Array.getElem?_toList]; exact Array.getElem?_eq_getElem hlt, this, (e3 k _ this).dst⟩
      have hdd : ∀ k k', k < ((ops.toList.drop i0).take n).length → k' < ((ops.toList.drop i0).take n).length → dk k = dk k' → k = k' := by
        intro k k' hk hk' hkk
        rw [hSl] at hk hk'
        obtain ⟨o, ho, _, hod⟩ := hdst k hk
        obtain ⟨o', ho', _, hod'⟩ := hdst k' hk'
        have := hfr k hk
        simp only [freeOk, ho, hod, Bool.and_eq_true] at this
        have := List.all_eq_true.1 this.2 k' (List.mem_range.2 hk')
        simp only [ho', Option.bind_some, hod', Bool.or_eq_true, beq_iff_eq, bne_iff_ne, ne_eq, Option.some.injEq] at this
        rcases this with h | h
        · omega
        · exact absurd hkk.symm h
      have hdep : ∀ (j : Nat) o, ((ops.toList.drop i0).take n)[j]? = some o → ∀ t ∈ readsOf ops.toList o, ∀ k, k < ((ops.toList.drop i0).take n).length → dk k = t → k < j ∧ Anc ops.toList (i0 + j) (i0 + k) := by
        intro j o hj t ht k hk hkt
        have hjn : j < n := by rw [← hSl]; exact (List.getElem?_eq_some_iff.1 hj).1
        rw [hSl] at hk
        obtain ⟨o1, ho1, hj1, hod1⟩ := hdst j hjn
        rw [hj] at hj1
        obtain rfl := Option.some.inj hj1
        obtain ⟨o2, ho2, _, hod2⟩ := hdst k hk
        have := hfr j hjn
        simp only [freeOk, ho1, hod1, Bool.and_eq_true] at this
        have := List.all_eq_true.1 (List.all_eq_true.1 this.1 t ht) k (List.mem_range.2 hk)
        simp only [ho2, Option.bind_some, hod2, Bool.or_eq_true, bne_iff_ne, ne_eq, Bool.and_eq_true, decide_eq_true_eq] at this
        rcases this with h | ⟨h3, h4⟩
        · exact absurd hkt h
        · exact ⟨by omega, ancs_anc ops.toList [] rfl (fun j i h => by simp at h) (i0 + j) (i0 + k) (by simpa using h4)⟩
      have hend : st n = s1 := by rw [← hSl]; exact e2
      rw [hdrop n] at h2
      refine seg_sound (wS := w) (gS := g) (df := df) (F := ops.size - (i0 + n)) hc hcall hfn hn hedge hbar hS hSl e1 e3 hdd hdep (fun k hk => of_decide_eq_true (List.all_eq_true.1 hsf.2 (dk k) (mem_dstsOf (List.getElem?_eq_getElem hk) (e3 k _ (List.getElem?_eq_getElem hk)).dst))) (fun i c p hc ha hp => (by
        have h9 := List.all_eq_true.1 hsf.1 c (List.mem_of_getElem? hc)
        cases c with
        | «alias» p' => obtain rfl : p' = .tmp p := Option.some.inj ha; simp [okAl, hp] at h9
        | eptr p' _ _ _ => obtain rfl : p' = .tmp p := Option.some.inj ha; simp [okAl, hp] at h9
        | _ => cases ha)) (fun fuel' listed' a1 w1 g1 hf' hL' i1 hgl1 hdf1 st1 => ?_) n fuel listed a w g s ?_ (by omega) hLn ?_ hi hgl hdf (Stp.refl d s w g)
      · rw [hend] at i1 st1
        exact segs_sound hc hcall hfn hedge ns (i0 + n) s1 fuel' listed' a1 w1 g1 hrest h2 hL' hf' i1 hgl1 hdf1 fun a' w' hr' => hQ a' w' (Reach.trans st1 hr')
      · have := List.countP_le_length (p := fun k => !listed.getD (i0 + k) false) (l := List.range n)
        rw [List.length_range] at this
        exact this
      · exact ⟨rfl, rfl, rfl, rfl, rfl, (fun k hk hl => by
          rw [hL.new (i0 + k) (by omega)] at hl
          cases hl), fun _ _ => rfl⟩

theorem inv_drew (hi : Inv base w0 w g d s vals) : Inv base w0 { w with drawn := w.drawn + 1 } g d s vals ∧ Stp d s s w { w with drawn := w.drawn + 1 } g g := by
  refine ⟨⟨hi.low.drew, hi.hb, hi.mem, hi.own_ge, hi.own_lt, hi.own_d, hi.blen, hi.nodup, hi.nbl, hi.boxes, hi.tl, fun i c v h1 h2 => ?_, hi.al⟩, ?_⟩
  · have := hi.tmps i c v h1 h2
    exact this
  · obtain ⟨q1, q2, q3, q4, q5, q6, q7, q8⟩ := Stp.refl d s w g
    exact ⟨q1, q2, q3, q4, q5, q6, q7, q8⟩

theorem draw_sound (hc : CfgOk P cfg) (hcall : CallOk P cfg e) (hfn : ∀ f args bx out, e (.call f args bx) = some out → ∃ fn, cfg.fn f = some fn) {cx : Cx} {rid : Nat} {ops : Array Oper} {ns : List Nat} (hok : segsOk ops.toList ns = true) {s' : St}
    (h : asegs e cfg cx rid ops.toList ns 0 ops.toList s = some s') (hi : Inv base w0 w g d s a.tmps) (hgl : GlobOk cfg g) {Q : Exit → Act → World → Prop}
    (hQ : ∀ a' w', Reach base w0 d s w g a.defers s' a' w' → Q .normal a' w') : (Code.region rid ops true).wp P Q a w := by
  simp only [segsOk, Bool.and_eq_true] at hok
  obtain ⟨i1, st1⟩ := inv_drew hi
  refine wp_region_any hc.mixed (segs_sound hc hcall hfn hok.1 ns 0 s ops.size _ a _ g hok.2 h ⟨by simp, fun i hi => by omega, fun i _ => ?_, fun j o e hj => ?_⟩ (by omega) i1 hgl rfl fun a' w' hr => hQ a' w' (Reach.trans st1 hr))
  · by_cases h : i < ops.size <;> simp [h]
  · by_cases h : j < ops.size <;> simp [h] at hj
end

end Go.Vx
namespace Go.Vx
open Go Go.RowKit

def exOk : AExit → Exit → Prop
  | .normal, .normal => True
  | .exit i, .exit j => i = j
  | .ret, .ret => True
  | _, _ => False

/-- every loop in a code, with its name -/
def LoopsIn (Q : Nat → Code → Prop) : Code → Prop
  | .seq a b => LoopsIn Q a ∧ LoopsIn Q b
  | .cond _ a b => LoopsIn Q a ∧ LoopsIn Q b
  | .block _ c => LoopsIn Q c
  | .loop c => (∀ k, ridOf c = some k → Q k c) ∧ LoopsIn Q c
  | _ => True

theorem noDup_app : ∀ {a b : List Nat}, noDup (a ++ b) = true → noDup a = true ∧ noDup b = true ∧ ∀ k, k ∈ a → k ∉ b
  | [], b, h => ⟨rfl, h, fun k hk => (by cases hk)⟩
  | x :: a, b, h => by
    simp only [List.cons_append, noDup, Bool.and_eq_true, Bool.not_eq_true', List.contains_eq_mem, decide_eq_false_iff_not, List.mem_append, not_or] at h
    obtain ⟨⟨h1, h2⟩, h3⟩ := h
    obtain ⟨h4, h5, h6⟩ := noDup_app h3
    refine ⟨by simp [noDup, h1, h4], h5, fun k hk => ?_⟩
    rcases List.mem_cons.1 hk with rfl | hk
    · exact h2
    · exact h6 k hk

theorem loopAt_mem {k : Nat} {c' : Code} : ∀ (c : Code), loopAt k c = some c' → k ∈ loopIds c
  | .seq a b, h => by
    simp only [loopAt] at h
    simp only [loopIds, List.mem_append]
    split at h
    · rename_i hh; exact .inl (loopAt_mem a hh)
    · exact .inr (loopAt_mem b h)
  | .cond _ a b, h => by
    simp only [loopAt] at h
    simp only [loopIds, List.mem_append]
    split at h
    · rename_i hh; exact .inl (loopAt_mem a hh)
    · exact .inr (loopAt_mem b h)
  | .block _ c, h => loopAt_mem c h
  | .loop c, h => by
    simp only [loopAt] at h
    simp only [loopIds]
    split at h
    · rename_i i hi
      rw [hi]
      split at h
      · rename_i e; subst e; simp
      · exact List.mem_cons_of_mem _ (loopAt_mem c h)
    · rename_i hi
      rw [hi]
      exact loopAt_mem c h
  | .skip, h => by cases h
  | .label _, h => by cases h
  | .exit _, h => by cases h
  | .ret, h => by cases h
  | .refuse _, h => by cases h
  | .goto _, h => by cases h
  | .scope _, h => by cases h
  | .rangeFunc .., h => by cases h
  | .region .., h => by cases h

theorem loopsIn_mono {Q Q' : Nat → Code → Prop} : ∀ (c : Code), (∀ k c', k ∈ loopIds c → Q k c' → Q' k c') → LoopsIn Q c → LoopsIn Q' c
  | .seq a b, h, hq => ⟨loopsIn_mono a (fun k c' hk => h k c' (by simp [loopIds, hk])) hq.1, loopsIn_mono b (fun k c' hk => h k c' (by simp [loopIds, hk])) hq.2⟩
  | .cond _ a b, h, hq => ⟨loopsIn_mono a (fun k c' hk => h k c' (by simp [loopIds, hk])) hq.1, loopsIn_mono b (fun k c' hk => h k c' (by simp [loopIds, hk])) hq.2⟩
  | .block _ c, h, hq => loopsIn_mono c h hq
  | .loop c, h, hq => by
    refine ⟨fun k hk => h k c ?_ (hq.1 k hk), loopsIn_mono c (fun k c' hk => h k c' ?_) hq.2⟩
    · simp [loopIds, hk]
    · simp only [loopIds]; split
      · exact List.mem_cons_of_mem _ hk
      · exact hk
  | .skip, _, _ => trivial
  | .label _, _, _ => trivial
  | .exit _, _, _ => trivial
  | .ret, _, _ => trivial
  | .refuse _, _, _ => trivial
  | .goto _, _, _ => trivial
  | .scope _, _, _ => trivial
  | .rangeFunc .., _, _ => trivial
  | .region .., _, _ => trivial

theorem loopsIn_all : ∀ (c : Code), noDup (loopIds c) = true → LoopsIn (fun k c' => loopAt k c = some c') c
  | .seq a b, h => by
    obtain ⟨h1, h2, h3⟩ := noDup_app h
    refine ⟨loopsIn_mono a (fun k c' _ hq => by simp only [loopAt, hq]) (loopsIn_all a h1), loopsIn_mono b (fun k c' hk hq => ?_) (loopsIn_all b h2)⟩
    simp only [loopAt]
    cases ha : loopAt k a with
    | none => exact hq
    | some c1 => exact absurd hk (h3 k (loopAt_mem a ha))
  | .cond _ a b, h => by
    obtain ⟨h1, h2, h3⟩ := noDup_app h
    refine ⟨loopsIn_mono a (fun k c' _ hq => by simp only [loopAt, hq]) (loopsIn_all a h1), loopsIn_mono b (fun k c' hk hq => ?_) (loopsIn_all b h2)⟩
    simp only [loopAt]
    cases ha : loopAt k a with
    | none => exact hq
    | some c1 => exact absurd hk (h3 k (loopAt_mem a ha))
  | .block _ c, h => loopsIn_all c h
  | .loop c, h => by
    simp only [loopIds] at h
    refine ⟨fun k hk => by simp only [loopAt, hk, if_true], ?_⟩
    split at h
    · rename_i i hi
      simp only [noDup, Bool.and_eq_true, Bool.not_eq_true', List.contains_eq_mem, decide_eq_false_iff_not] at h
      refine loopsIn_mono c (fun k c' hk hq => ?_) (loopsIn_all c h.2)
      simp only [loopAt, hi]
      rw [if_neg (by rintro rfl; exact h.1 hk)]
      exact hq
    · rename_i hi
      refine loopsIn_mono c (fun k c' hk hq => ?_) (loopsIn_all c h)
      simp only [loopAt, hi]
      exact hq
  | .skip, _ => trivial
  | .label _, _ => trivial
  | .exit _, _ => trivial
  | .ret, _ => trivial
  | .refuse _, _ => trivial
  | .goto _, _ => trivial
  | .scope _, _ => trivial
  | .rangeFunc .., _ => trivial
  | .region .., _ => trivial

theorem loopsIn_at {Q : Nat → Code → Prop} {k : Nat} {c' : Code} : ∀ (c : Code), loopAt k c = some c' → LoopsIn Q c → LoopsIn Q c'
  | .seq a b, h, hq => by
    simp only [loopAt] at h
    split at h
    · rename_i c1 hh; obtain rfl := Option.some.inj h; exact loopsIn_at a hh hq.1
    · exact loopsIn_at b h hq.2
  | .cond _ a b, h, hq => by
    simp only [loopAt] at h
    split at h
    · rename_i c1 hh; obtain rfl := Option.some.inj h; exact loopsIn_at a hh hq.1
    · exact loopsIn_at b h hq.2
  | .block _ c, h, hq => loopsIn_at c h hq
  | .loop c, h, hq => by
    simp only [loopAt] at h
    split at h
    · split at h
      · obtain rfl := Option.some.inj h; exact hq.2
      · exact loopsIn_at c h hq.2
    · exact loopsIn_at c h hq.2
  | .skip, h, _ => by cases h
  | .label _, h, _ => by cases h
  | .exit _, h, _ => by cases h
  | .ret, h, _ => by cases h
  | .refuse _, h, _ => by cases h
  | .goto _, h, _ => by cases h
  | .scope _, h, _ => by cases h
  | .rangeFunc .., h, _ => by cases h
  | .region .., h, _ => by cases h

theorem codeOk_at {cx : Cx} {k : Nat} {c' : Code} : ∀ (c : Code), loopAt k c = some c' → codeOk cx c = true → codeOk cx c' = true
  | .seq a b, h, hq => by
    simp only [codeOk, Bool.and_eq_true] at hq
    simp only [loopAt] at h
    split at h
    · rename_i c1 hh; obtain rfl := Option.some.inj h; exact codeOk_at a hh hq.1
    · exact codeOk_at b h hq.2
  | .cond _ a b, h, hq => by
    simp only [codeOk, Bool.and_eq_true] at hq
    simp only [loopAt] at h
    split at h
    · rename_i c1 hh; obtain rfl := Option.some.inj h; exact codeOk_at a hh hq.1
    · exact codeOk_at b h hq.2
  | .block _ c, h, hq => codeOk_at c h hq
  | .loop c, h, hq => by
    simp only [loopAt] at h
    split at h
    · split at h
      · obtain rfl := Option.some.inj h; exact hq
      · exact codeOk_at c h hq
    · exact codeOk_at c h hq
  | .skip, h, _ => by cases h
  | .label _, h, _ => by cases h
  | .exit _, h, _ => by cases h
  | .ret, h, _ => by cases h
  | .refuse _, h, _ => by cases h
  | .goto _, h, _ => by cases h
  | .scope _, h, _ => by cases h
  | .rangeFunc .., h, _ => by cases h
  | .region .., h, _ => by cases h

def LoopsOk (cfg : Cfg) (f : FuncId) : Code → Prop := LoopsIn fun k c => loopCode cfg f k = some c

theorem code_loops {P : Program} {cfg : Cfg} (hc : CfgOk P cfg) {f : FuncId} {fn : Func} {c : Code} (h1 : cfg.fn f = some fn) (h2 : fn.body = some c) : LoopsOk cfg f c :=
  loopsIn_mono c (fun k c' _ hq => by simp only [loopCode, h1, seqO_some, h2, hq]) (loopsIn_all c (hc.code f fn c h1 h2).2)

theorem loop_ok {P : Program} {cfg : Cfg} (hc : CfgOk P cfg) {f : FuncId} {k : Nat} {c : Code} (h : loopCode cfg f k = some c) : codeOk (cfg.cx f) c = true ∧ LoopsOk cfg f c := by
  obtain ⟨fn, h1, h⟩ := seqO_eq.1 h
  obtain ⟨b, h2, h⟩ := seqO_eq.1 h
  exact ⟨codeOk_at b h (hc.code f fn b h1 h2).1, loopsIn_at b h (code_loops hc h1 h2)⟩

/-- what the answers of loops are worth -/
def LoopOk (P : Program) (cfg : Cfg) (e : Job → Option Out) (n : Nat) : Prop :=
  ∀ (f : FuncId) (k : Nat) (c : Code) (s s' : St) (x : AExit) (base : Nat) (w0 w : World) (g : Gh) (d : Nat) (a : Act), e (.loop f k s) = some (.loop x s') → loopCode cfg f k = some c → Inv base w0 w g d s a.tmps → GlobOk cfg g →
    Code.rounds P c (fun ex a' w' => exOk x ex ∧ Reach base w0 d s w g a.defers s' a' w') n a w

section
variable {P : Program} {cfg : Cfg} {base : Nat} {w0 w : World} {g : Gh} {d : Nat} {s : St} {vals : Array Value} {o : Oper} {a : Act} {e : Job → Option Out}

theorem keepAt_get (l : List Nat) : ∀ (vs : List PV) (i j : Nat) (c : PV), (keepAt l i vs)[j]? = some c → ∃ c0, vs[j]? = some c0 ∧ (c = c0 ∨ c = .dead)
  | [], i, j, c, h => by simp [keepAt] at h
  | v :: vs, i, 0, c, h => by
    simp only [keepAt, List.getElem?_cons_zero, Option.some.injEq] at h
    refine ⟨v, rfl, ?_⟩
    split at h
    · exact .inl h.symm
    · exact .inr h.symm
  | v :: vs, i, j + 1, c, h => by
    simp only [keepAt, List.getElem?_cons_succ] at h ⊢
    exact keepAt_get l vs (i + 1) j c h
theorem keepAt_len (l : List Nat) : ∀ (vs : List PV) (i : Nat), (keepAt l i vs).length = vs.length
  | [], _ => rfl
  | v :: vs, i => by simp [keepAt, keepAt_len l vs (i + 1)]

/-- slots that are forgotten -/
theorem forget_inv (hi : Inv base w0 w g d s vals) {ts : List PV} (hl : ts.length = s.ts.length) (ht : ∀ (j : Nat) c, ts[j]? = some c → ∃ c0, s.ts[j]? = some c0 ∧ (c = c0 ∨ c = .dead)) :
    Inv base w0 w g d { s with ts := ts } vals ∧ Stp d s { s with ts := ts } w w g g := by
  refine ⟨⟨hi.low, hi.hb, hi.mem, hi.own_ge, hi.own_lt, hi.own_d, hi.blen, hi.nodup, hi.nbl, hi.boxes, by simp only [hl]; exact hi.tl, fun i c v h1 h2 => ?_, fun i c p h1 h2 => ?_⟩, ?_⟩
  · obtain ⟨c0, h3, h4⟩ := ht i c h1
    rcases h4 with h4 | h4
    · subst h4; exact hi.tmps i _ v h3 h2
    · subst h4; exact trivial
  · obtain ⟨c0, h3, h4⟩ := ht i c h1
    rcases h4 with h4 | h4
    · subst h4
      have hm := hi.al i _ p h3 h2
      cases p with
      | cell l off => exact hm
      | tmp k =>
        simp only [St.at, List.getD_eq_getElem?_getD] at hm ⊢
        cases hk : ts[k]? with
        | none => rfl
        | some q =>
          obtain ⟨q0, h5, h6⟩ := ht k q hk
          rw [h5] at hm
          simp only [Option.getD_some] at hm ⊢
          rcases h6 with h6 | h6
          · subst h6; exact hm
          · subst h6; rfl
    · subst h4; cases h2
  · obtain ⟨q1, q2, q3, q4, q5, q6, q7, q8⟩ := Stp.refl d s w g
    exact ⟨q1, q2, q3, q4, q5, q6, q7, q8⟩

theorem head_inv (hi : Inv base w0 w g d s vals) (cx : Cx) (k : Nat) : Inv base w0 w g d (atHead cx k s) vals ∧ Stp d s (atHead cx k s) w w g g := by
  unfold atHead
  split
  · rename_i p _
    exact forget_inv hi (keepAt_len ..) fun j c h => keepAt_get p.2.1 s.ts 0 j c h
  · exact ⟨hi, Stp.refl d s w g⟩

theorem exit_inv (hi : Inv base w0 w g d s vals) (cx : Cx) (k : Nat) : Inv base w0 w g d (atExit cx k s) vals ∧ Stp d s (atExit cx k s) w w g g := by
  unfold atExit
  split
  · rename_i p _
    exact forget_inv hi (keepAt_len ..) fun j c h => keepAt_get p.2.2 s.ts 0 j c h
  · exact ⟨hi, Stp.refl d s w g⟩

/-- all that a slot leads to lies below -/
def slotLt (k : Nat) : PV → Prop
  | .alias (.cell l _) => l < k
  | .eptr (.cell l _) _ _ _ => l < k
  | .tup _ => False
  | c => allLt k c

theorem cellLt_lt {k : Nat} {c : PV} (h : cellLt k c = true) : ptrLt k c := by
  cases c with
  | ptr l off => exact of_decide_eq_true (p := l < k) h
  | clo f cap => intro l hl; exact of_decide_eq_true (List.all_eq_true.1 h l hl)
  | _ => exact trivial

theorem refLt_lt {k : Nat} {c : PV} (h : refLt k c = true) : slotLt k c := by
  cases c with
  | agg cs => exact fun c hc => cellLt_lt (List.all_eq_true.1 h c hc)
  | tup => cases h
  | «alias» p => cases p with
    | tmp => exact trivial
    | cell l off => exact of_decide_eq_true (p := l < k) h
  | eptr p => cases p with
    | tmp => exact trivial
    | cell l off => exact of_decide_eq_true (p := l < k) h
  | ptr l off => exact cellLt_lt (c := .ptr l off) h
  | clo f cap => exact cellLt_lt (c := .clo f cap) h
  | _ => exact trivial

theorem placeVal_cut {k : Nat} {p : Place} (h : ∀ l off, p = .cell l off → l < k) : placeVal w (g.cutBlk k) vals p = placeVal w g vals p := by
  cases p with
  | tmp => rfl
  | cell l off => simp only [placeVal]; rw [cutBlk_get (h l off rfl)]

theorem RelT.cut {k i : Nat} {c : PV} {u : Value} (hp : slotLt k c) (h : RelT w g vals d i c u) : RelT w (g.cutBlk k) vals d i c u := by
  cases c with
  | «alias» p =>
    simp only [RelT] at h ⊢
    rw [placeVal_cut]
    · exact h
    · rintro l off rfl; exact hp
  | eptr p q r j =>
    simp only [RelT] at h ⊢
    rw [placeVal_cut]
    · exact h
    · rintro l off rfl; exact hp
  | tup => exact hp.elim
  | own ex q xs => exact RelR.cut (c := .own ex q xs) trivial h
  | agg cs => exact RelR.cut (w := w) (ow := .tmp d i 0) (c := .agg cs) hp h
  | dat x => exact RelR.cut (w := w) (ow := .tmp d i 0) (c := .dat x) trivial h
  | ptr x y => exact RelR.cut (w := w) (ow := .tmp d i 0) (c := .ptr x y) hp h
  | iptr x y => exact RelR.cut (w := w) (ow := .tmp d i 0) (c := .iptr x y) trivial h
  | clo x y => exact RelR.cut (w := w) (ow := .tmp d i 0) (c := .clo x y) hp h
  | dead => exact trivial
  | tnil => exact h.elim
  | home => exact h.elim
  | siter bs pos => exact h

theorem cut_inv {k : Nat} (hi : Inv base w0 w g d s vals) (hk : s.nb ≤ k) (hb : ∀ (l : Nat) bx, l < k → s.bx[l]? = some bx → ∀ c ∈ bx, ptrLt k c) (ht : ∀ c ∈ s.ts, slotLt k c) :
    Inv base w0 w (g.cutBlk k) d { s with bx := s.bx.take k } vals := by
  refine ⟨hi.low, hi.hb, hi.mem, hi.own_ge, hi.own_lt, hi.own_d, ?_, ?_, ?_, fun l b bx h1 h2 => ?_, hi.tl, fun i c v h1 h2 => ?_, fun i c p h1 h2 => ?_⟩
  · simp only [Gh.cutBlk, List.length_take, hi.blen]
  · exact hi.nodup.sublist (List.take_sublist ..)
  · have := hi.nbl
    simp only [List.length_take]; omega
  · simp only at h2
    have hl : l < k := by
      have := (List.getElem?_eq_some_iff.1 h2).1
      rw [List.length_take] at this; omega
    rw [cutBlk_get hl] at h1
    rw [List.getElem?_take_of_lt hl] at h2
    exact BoxRel.cut (hb l bx hl h2) (hi.boxes l b bx h1 h2)
  · exact (hi.tmps i c v h1 h2).cut (ht c (List.mem_of_getElem? h1))
  · have hm := hi.al i c p h1 h2
    have hs := ht c (List.mem_of_getElem? h1)
    cases p with
    | tmp => exact hm
    | cell l off =>
      have hl : l < k := by
        cases c with
        | «alias» q => cases h2; exact hs
        | eptr q => cases h2; exact hs
        | _ => cases h2
      simp only [St.at] at hm ⊢
      rw [List.getElem?_take_of_lt hl]; exact hm

/-- boxes that nothing leads to are let go -/
theorem gc_inv {s1 : St} {w' : World} {g1 : Gh} {vals' : Array Value} (hi : Inv base w0 w g d s vals) (hst : Stp d s s1 w w' g g1) (hi1 : Inv base w0 w' g1 d s1 vals') :
    ∃ g2, Inv base w0 w' g2 d (gc s.bx.length s1) vals' ∧ Stp d s (gc s.bx.length s1) w w' g g2 := by
  unfold gc
  split
  · rename_i hc
    simp only [Bool.and_eq_true, Bool.not_eq_true', decide_eq_true_eq] at hc
    obtain ⟨⟨⟨hkp, hnb⟩, hts⟩, hbx⟩ := hc
    have hbl : g.blk.length = s.bx.length := hi.blen
    have hold : ∀ (l : Nat) bx, s.bx[l]? = some bx → ∀ c ∈ bx, ptrLt s.bx.length c := by
      intro l bx h
      have hl : l < g.blk.length := by rw [hbl]; exact (List.getElem?_eq_some_iff.1 h).1
      have := (hi.boxes l _ bx (List.getElem?_eq_getElem hl) h).lt
      rw [hbl] at this; exact this
    have hb : ∀ (l : Nat) bx, l < s.bx.length → s1.bx[l]? = some bx → ∀ c ∈ bx, ptrLt s.bx.length c := by
      intro l bx hl h
      by_cases hln : l < s1.nb
      · exact hst.kpl hkp s.bx.length l _ bx (by rw [← hst.nb]; exact hln) (List.getElem?_eq_getElem hl) (hold l _ (List.getElem?_eq_getElem hl)) h
      · intro c hc
        have hm : ((s1.bx.drop s1.nb).take (s.bx.length - s1.nb))[l - s1.nb]? = some bx := by
          rw [List.getElem?_take_of_lt (by omega), List.getElem?_drop, show s1.nb + (l - s1.nb) = l by omega]; exact h
        exact cellLt_lt (List.all_eq_true.1 (List.all_eq_true.1 hbx bx (List.mem_of_getElem? hm)) c hc)
    refine ⟨g1.cutBlk s.bx.length, cut_inv hi1 hnb hb fun c hc => refLt_lt (List.all_eq_true.1 hts c hc), ⟨⟨hst.gr.m, fun l b h => ?_, hst.gr.bt⟩, hst.nb, ?_, hst.tmps, hst.lo, fun l hl hlo => ?_, hst.kp, fun hk n l bx bx' hl h1 h2 h3 => ?_⟩⟩
    · have hl : l < s.bx.length := by rw [← hbl]; exact (List.getElem?_eq_some_iff.1 h).1
      rw [cutBlk_get hl]; exact hst.gr.blk l b h
    · have := hst.bl
      simp only [List.length_take]; omega
    · obtain ⟨q1, q2⟩ := hst.old l hl hlo
      have hl' : l < s.bx.length := Nat.lt_of_lt_of_le hl hi.nbl
      exact ⟨by simp only; rw [List.getElem?_take_of_lt hl']; exact q1, q2⟩
    · have hl' : l < s.bx.length := Nat.lt_of_lt_of_le hl hi.nbl
      simp only at h3
      rw [List.getElem?_take_of_lt hl'] at h3
      exact hst.kpl hk n l bx bx' hl h1 h2 h3
  · exact ⟨g1, hi1, hst⟩

theorem val_bool' (hi : Inv base w0 w g d s a.tmps) (hgl : GlobOk cfg g) {x : Operand} {b : Bool} (h : abool (s.val cfg x) = some b) : a.eval x = .bool b := val_bool hi hgl rfl h

theorem acode_sound (hc : CfgOk P cfg) (hcall : CallOk P cfg e) {n : Nat} (hloop : LoopOk P cfg e n) (hfn : ∀ f args bx out, e (.call f args bx) = some out → ∃ fn, cfg.fn f = some fn) {f : FuncId} :
    ∀ (c : Code) {g : Gh} {s s' : St} {x : AExit} {w : World} {a : Act}, codeOk (cfg.cx f) c = true ∧ LoopsOk cfg f c → acode e cfg f c s = some (x, s') → Inv base w0 w g d s a.tmps → GlobOk cfg g →
      c.wp P (fun ex a' w' => exOk x ex ∧ Reach base w0 d s w g a.defers s' a' w') a w
  | .skip, g, s, s', x, w, a, _, h, hi, _ => by
    simp only [acode, Option.some.injEq, Prod.mk.injEq] at h
    obtain ⟨rfl, rfl⟩ := h
    exact wp_skip ⟨trivial, rfl, g, hi, Stp.refl d s w g⟩
  | .label _, g, s, s', x, w, a, _, h, hi, _ => by
    simp only [acode, Option.some.injEq, Prod.mk.injEq] at h
    obtain ⟨rfl, rfl⟩ := h
    exact wp_label ⟨trivial, rfl, g, hi, Stp.refl d s w g⟩
  | .exit id, g, s, s', x, w, a, _, h, hi, _ => by
    simp only [acode, Option.some.injEq, Prod.mk.injEq] at h
    obtain ⟨rfl, rfl⟩ := h
    exact wp_exit ⟨rfl, rfl, g, hi, Stp.refl d s w g⟩
  | .ret, g, s, s', x, w, a, _, h, hi, _ => by
    simp only [acode, Option.some.injEq, Prod.mk.injEq] at h
    obtain ⟨rfl, rfl⟩ := h
    exact wp_ret ⟨trivial, rfl, g, hi, Stp.refl d s w g⟩
  | .region rid ops draw, g, s, s', x, w, a, hok, h, hi, hgl => by
    simp only [acode] at h
    cases draw with
    | true =>
      simp only [if_true] at h
      obtain ⟨ns, h1, h2⟩ := seqO_eq.1 h
      obtain ⟨s1, h3, h4⟩ := seqO_eq.1 h2
      simp only [Option.some.injEq, Prod.mk.injEq] at h4
      obtain ⟨rfl, rfl⟩ := h4
      have hs : segsOk ops.toList ns = true := by
        unfold segsOf at h1
        simpa [codeOk, h1] using hok.1
      exact draw_sound hc hcall hfn hs h3 hi hgl fun a' w' hr => ⟨trivial, hr⟩
    | false =>
      simp only [Bool.false_eq_true, if_false] at h
      obtain ⟨s1, h3, h4⟩ := seqO_eq.1 h
      simp only [Option.some.injEq, Prod.mk.injEq] at h4
      obtain ⟨rfl, rfl⟩ := h4
      refine wp_region ?_
      rw [List.range_eq_range', ← Array.length_toList]
      exact aops_sound hc hcall hfn ops.toList 0 rfl h3 hi hgl rfl fun a' w' hr => ⟨trivial, hr⟩
  | .seq c1 c2, g, s, s', x, w, a, hok, h, hi, hgl => by
    obtain ⟨hok1, hok2⟩ := hok
    simp only [codeOk, Bool.and_eq_true] at hok1
    have hok : (codeOk (cfg.cx f) c1 = true ∧ LoopsOk cfg f c1) ∧ (codeOk (cfg.cx f) c2 = true ∧ LoopsOk cfg f c2) := ⟨⟨hok1.1, hok2.1⟩, ⟨hok1.2, hok2.2⟩⟩
    simp only [acode] at h
    obtain ⟨⟨x1, s1⟩, h1, h2⟩ := seqO_eq.1 h
    refine wp_seq (wp_mono (acode_sound hc hcall hloop hfn c1 hok.1 h1 hi hgl) fun ex a1 w1 hr => ?_)
    obtain ⟨hx, hdf, g1, i1, st1⟩ := hr
    cases x1 with
    | normal =>
      cases ex with
      | normal =>
        refine wp_mono (acode_sound hc hcall hloop hfn c2 hok.2 h2 i1 (hgl.grows st1.gr)) fun ex2 a2 w2 hr2 => ?_
        obtain ⟨hx2, hr2⟩ := hr2
        rw [hdf] at hr2
        exact ⟨hx2, Reach.trans st1 hr2⟩
      | _ => exact hx.elim
    | exit i =>
      simp only [thenC, Option.some.injEq, Prod.mk.injEq] at h2
      obtain ⟨rfl, rfl⟩ := h2
      cases ex with
      | exit j => exact ⟨hx, hdf, g1, i1, st1⟩
      | _ => exact hx.elim
    | ret =>
      simp only [thenC, Option.some.injEq, Prod.mk.injEq] at h2
      obtain ⟨rfl, rfl⟩ := h2
      cases ex with
      | ret => exact ⟨hx, hdf, g1, i1, st1⟩
      | _ => exact hx.elim
  | .cond c c1 c2, g, s, s', x, w, a, hok, h, hi, hgl => by
    obtain ⟨hok1, hok2⟩ := hok
    simp only [codeOk, Bool.and_eq_true] at hok1
    have hok : (codeOk (cfg.cx f) c1 = true ∧ LoopsOk cfg f c1) ∧ (codeOk (cfg.cx f) c2 = true ∧ LoopsOk cfg f c2) := ⟨⟨hok1.1, hok2.1⟩, ⟨hok1.2, hok2.2⟩⟩
    simp only [acode] at h
    obtain ⟨b, h1, h2⟩ := seqO_eq.1 h
    refine wp_cond (t := b) (val_bool' hi hgl h1) ?_
    cases b with
    | true => exact acode_sound hc hcall hloop hfn c1 hok.1 h2 hi hgl
    | false => exact acode_sound hc hcall hloop hfn c2 hok.2 h2 hi hgl
  | .block id c, g, s, s', x, w, a, hok, h, hi, hgl => by
    simp only [acode] at h
    obtain ⟨⟨x1, s1⟩, h1, h2⟩ := seqO_eq.1 h
    refine wp_block (wp_mono (acode_sound hc hcall hloop hfn c hok h1 hi hgl) fun ex a1 w1 hr => ?_)
    obtain ⟨hx, hr⟩ := hr
    cases x1 with
    | normal =>
      simp only [inBlockC, Option.some.injEq, Prod.mk.injEq] at h2
      obtain ⟨rfl, rfl⟩ := h2
      cases ex with
      | normal => exact ⟨trivial, hr⟩
      | _ => exact hx.elim
    | exit i =>
      cases ex with
      | exit j =>
        have hij : i = j := hx
        subst hij
        simp only [inBlockC, Option.some.injEq] at h2
        unfold Exit.inBlock
        by_cases e : i = id
        · subst e
          simp only [if_true, Prod.mk.injEq] at h2
          obtain ⟨rfl, rfl⟩ := h2
          simp only [if_true]
          exact ⟨trivial, hr⟩
        · rw [if_neg e] at h2
          simp only [Prod.mk.injEq] at h2
          obtain ⟨rfl, rfl⟩ := h2
          simp only [e, if_false]
          exact ⟨rfl, hr⟩
      | _ => exact hx.elim
    | ret =>
      simp only [inBlockC, Option.some.injEq, Prod.mk.injEq] at h2
      obtain ⟨rfl, rfl⟩ := h2
      cases ex with
      | ret => exact ⟨trivial, hr⟩
      | _ => exact hx.elim
  | .loop c, g, s, s', x, w, a, hok, h, hi, hgl => by
    simp only [acode] at h
    obtain ⟨k, h0, h⟩ := seqO_eq.1 h
    obtain ⟨out, h1, h2⟩ := seqO_eq.1 h
    cases out with
    | ret => cases h2
    | loop x1 s1 =>
      simp only [Option.some.injEq, Prod.mk.injEq] at h2
      obtain ⟨rfl, rfl⟩ := h2
      obtain ⟨i1, st1⟩ := head_inv hi (cfg.cx f) k
      have hn := hloop f k c _ s1 x1 base w0 w g d a h1 (hok.2.1 k h0) i1 (hgl.grows st1.gr)
      exact wp_mono (wp_loop_rounds n hn) fun ex a' w' hr => ⟨hr.1, Reach.trans st1 hr.2⟩
  | .refuse _, _, _, _, _, _, _, _, h, _, _ => by simp [acode] at h
  | .goto _, _, _, _, _, _, _, _, h, _, _ => by simp [acode] at h
  | .scope _, _, _, _, _, _, _, _, h, _, _ => by simp [acode] at h
  | .rangeFunc .., _, _, _, _, _, _, _, h, _, _ => by simp [acode] at h

theorem rounds_mono {c : Code} {Q Q' : Exit → Act → World → Prop} (h : ∀ ex a w, Q ex a w → Q' ex a w) : ∀ (n : Nat) {a : Act} {w : World}, Code.rounds P c Q n a w → Code.rounds P c Q' n a w
  | 0, _, _, hh => hh.elim
  | n + 1, a, w, hh => by
    rw [rounds_succ] at hh ⊢
    refine wp_mono hh fun ex a1 w1 hr => ?_
    cases ex with
    | normal => exact rounds_mono h n hr
    | _ => exact h _ _ _ hr

theorem loop_step (hc : CfgOk P cfg) (hcall : CallOk P cfg e) {n : Nat} (hloop : LoopOk P cfg e n) (hfn : ∀ f args bx out, e (.call f args bx) = some out → ∃ fn, cfg.fn f = some fn) : LoopOk P cfg (stepJ e cfg) (n + 1) := by
  intro f k c s s' x base w0 w g d a h hlc hi hgl
  simp only [stepJ] at h
  obtain ⟨c', hlc', h⟩ := seqO_eq.1 h
  obtain rfl := Option.some.inj (hlc.symm.trans hlc')
  obtain ⟨⟨x1, s1⟩, h1, h2⟩ := seqO_eq.1 h
  rw [rounds_succ]
  refine wp_mono (acode_sound hc hcall hloop hfn c (loop_ok hc hlc) h1 hi hgl) fun ex a1 w1 hr => ?_
  obtain ⟨hx, hdf, g1, i1, st1⟩ := hr
  cases x1 with
  | normal =>
    cases ex with
    | normal =>
      obtain ⟨i2, st2⟩ := head_inv i1 (cfg.cx f) k
      obtain ⟨g3, i3, st3⟩ := gc_inv hi (st1.trans st2) i2
      have := hloop f k c _ s' x base w0 w1 g3 d a1 h2 hlc i3 (hgl.grows st3.gr)
      show Code.rounds P c _ n a1 w1
      rw [hdf] at this
      revert this
      generalize gc s.bx.length (atHead (cfg.cx f) k s1) = s2 at *
      intro this
      clear h2
      exact rounds_mono (fun ex2 a2 w2 hr => ⟨hr.1, Reach.trans st3 hr.2⟩) n this
    | _ => exact hx.elim
  | exit i =>
    simp only [Option.some.injEq, Out.loop.injEq] at h2
    obtain ⟨rfl, rfl⟩ := h2
    obtain ⟨i2, st2⟩ := exit_inv i1 (cfg.cx f) k
    obtain ⟨g3, i3, st3⟩ := gc_inv hi (st1.trans st2) i2
    cases ex with
    | exit j => exact ⟨hx, hdf, g3, i3, st3⟩
    | _ => exact hx.elim
  | ret =>
    simp only [Option.some.injEq, Out.loop.injEq] at h2
    obtain ⟨rfl, rfl⟩ := h2
    obtain ⟨i2, st2⟩ := exit_inv i1 (cfg.cx f) k
    obtain ⟨g3, i3, st3⟩ := gc_inv hi (st1.trans st2) i2
    cases ex with
    | ret => exact ⟨trivial, hdf, g3, i3, st3⟩
    | _ => exact hx.elim

/-- the callee's frame -/
theorem enter_inv (hi : Inv base w0 w g d s vals) (fn : Func) {args : List PV} {us : List Value} (hl : us.length = args.length) (hr : ∀ (j : Nat) c u, args[j]? = some c → us[j]? = some u → RelA g c u) :
    Inv base w0 w g (d + 1) (startSt fn args s.bx) (us.toArray ++ Array.replicate (fn.ntmps - us.toArray.size) undef) := by
  have hts : ∀ (i : Nat) c v, (startSt fn args s.bx).ts[i]? = some c → (us.toArray ++ Array.replicate (fn.ntmps - us.toArray.size) undef)[i]? = some v → RelA g c v := by
    intro i c v h1 h2
    simp only [startSt] at h1
    rw [← Array.getElem?_toList] at h2
    simp only [Array.toList_append, Array.toList_replicate, List.size_toArray] at h2
    by_cases hlt : i < args.length
    · rw [List.getElem?_append_left hlt] at h1
      rw [List.getElem?_append_left (by omega)] at h2
      exact hr i c v h1 h2
    · rw [List.getElem?_append_right (by omega)] at h1
      rw [List.getElem?_append_right (by omega)] at h2
      rw [List.getElem?_replicate] at h1 h2
      split at h1
      · split at h2
        · obtain rfl := Option.some.inj h1
          obtain rfl := Option.some.inj h2
          exact rfl
        · cases h2
      · cases h1
  refine ⟨hi.low, hi.hb, hi.mem, hi.own_ge, hi.own_lt, fun b d' i j h => Nat.le_succ_of_le (hi.own_d b d' i j h), hi.blen, hi.nodup, Nat.le_refl _, hi.boxes, by simp [startSt, hl], fun i c v h1 h2 => ?_, fun i c p h1 h2 => ?_⟩
  · have := hts i c v h1 h2
    cases c with
    | own => exact this.elim
    | tup => exact this.elim
    | «alias» => exact this.elim
    | eptr => exact this.elim
    | dead => exact trivial
    | dat _ => exact this
    | agg _ => exact this
    | ptr _ _ => exact this
    | iptr _ _ => exact this
    | clo _ _ => exact this
    | tnil => exact this.elim
    | home => exact this.elim
    | siter => exact this.elim
  · have hlt : i < (us.toArray ++ Array.replicate (fn.ntmps - us.toArray.size) undef).size := by
      have := (List.getElem?_eq_some_iff.1 h1).1
      simp only [startSt, List.length_append, List.length_replicate] at this
      simp only [Array.size_append, Array.size_replicate, List.size_toArray]
      omega
    have := hts i c _ h1 (Array.getElem?_eq_getElem hlt)
    cases c with
    | «alias» => exact this.elim
    | eptr => exact this.elim
    | _ => cases h2

theorem call_step (hc : CfgOk P cfg) (hcall : CallOk P cfg e) {n : Nat} (hloop : LoopOk P cfg e n) (hfn : ∀ f args bx out, e (.call f args bx) = some out → ∃ fn, cfg.fn f = some fn) : CallOk P cfg (stepJ e cfg) := by
  intro f args out base w0 w g d s vals us h hi hgl hl hr
  simp only [stepJ] at h
  obtain ⟨fn, h1, h2⟩ := seqO_eq.1 h
  obtain ⟨c, h3, h4⟩ := seqO_eq.1 h2
  obtain ⟨⟨x, s1⟩, h5, h6⟩ := seqO_eq.1 h4
  clear h h2 h4
  have i1 := enter_inv hi fn hl hr
  refine calls_of_wp (hc.fn f fn h1).1 h3 ?_
  refine wp_mono (acode_sound (a := { tmps := us.toArray ++ Array.replicate (fn.ntmps - us.toArray.size) undef, defers := [] }) hc hcall hloop hfn c ⟨(hc.code f fn c h1 h3).1, code_loops hc h1 h3⟩ h5 i1 hgl) fun ex a1 w1 hr1 => ?_
  obtain ⟨hx, hdf, g1, i2, st2⟩ := hr1
  have hdf' : a1.defers = [] := hdf
  -- the results
  have fin : ∀ (_ : x = .normal ∨ x = .ret), ∃ v, (results fn a1.tmps).run P w1 = .ok v w1 ∧ ∃ r s' g', finSt out s = some (r, s') ∧ Inv base w0 w1 g' d s' vals ∧ Stp d s s' w w1 g g' ∧ RelP w1 g' vals s' r v := by
    intro hx'
    have h7 : (seqO (aress cfg fn.results.toList s1) fun q => some (outOf (tupOf q.1) q.2)) = some out := by
      rcases hx' with e | e <;> subst e <;> exact h6
    obtain ⟨⟨pvs, s2⟩, h8, h9⟩ := seqO_eq.1 h7
    have h9' : outOf (tupOf pvs) s2 = out := Option.some.inj h9
    obtain ⟨g2, r2, i3, st3, l3, rel3⟩ := aress_sound hc (N := s.ts.length) fn.results.toList (j := 0) i2 (hgl.grows st2.gr) h8
    have hrun := run_mapMA (P := P) (w := w1) (h := fun v => valOf ((resEval a1.tmps v).run P w1)) fn.results r2
    have hf : ∃ r s', finSt out s = some (r, s') := by
      rw [← h9']
      unfold outOf
      split
      · split <;> exact ⟨_, _, rfl⟩
      · exact ⟨_, _, rfl⟩
    obtain ⟨r, s', hf⟩ := hf
    obtain ⟨g', q1, q2, q3⟩ := ret_sound (pvs := pvs) (us := fn.results.toList.map fun v => valOf ((resEval a1.tmps v).run P w1)) hi i3 (st2.trans st3) rfl rfl (by simp [l3]) (fun i c u hc' hu => by
      rw [List.getElem?_map] at hu
      cases hv : fn.results.toList[i]? with
      | none => rw [hv] at hu; cases hu
      | some v =>
        rw [hv] at hu
        obtain rfl := Option.some.inj hu
        have := rel3 i v c hv hc'
        rw [Nat.zero_add] at this
        exact this) (by rw [h9']; exact hf)
    refine ⟨_, ?_, r, s', g', hf, q1, q2, q3⟩
    rw [results_eq]
    simp only [Sem.run_bind, hrun, Result.andThen_ok, Sem.run_pure]
    have e : (fn.results.toList.map fun v => valOf ((resEval a1.tmps v).run P w1)).toArray = fn.results.map fun v => valOf ((resEval a1.tmps v).run P w1) := by
      rw [← Array.toList_map]
    simp only [e]
  cases x with
  | normal =>
    cases ex with
    | normal => obtain ⟨v, q1, q2⟩ := fin (.inl rfl); exact ⟨hdf', v, q1, q2⟩
    | _ => exact hx.elim
  | ret =>
    cases ex with
    | ret => obtain ⟨v, q1, q2⟩ := fin (.inr rfl); exact ⟨hdf', v, q1, q2⟩
    | _ => exact hx.elim
  | exit i => simp [retOf] at h6

theorem evN_fn (cfg : Cfg) : ∀ n f args bx out, evN cfg n (.call f args bx) = some out → ∃ fn, cfg.fn f = some fn
  | 0, _, _, _, _, h => by cases h
  | n + 1, f, args, bx, out, h => by
    obtain ⟨fn, h1, _⟩ := seqO_eq.1 (show (seqO (cfg.fn f) _) = some out from h)
    exact ⟨fn, h1⟩

theorem evN_sound (hc : CfgOk P cfg) : ∀ n, CallOk P cfg (evN cfg n) ∧ LoopOk P cfg (evN cfg n) n
  | 0 => ⟨fun _ _ _ _ _ _ _ _ _ _ _ h => (by cases h), fun _ _ _ _ _ _ _ _ _ _ _ _ h => (by cases h)⟩
  | n + 1 => let ⟨h1, h2⟩ := evN_sound hc n; ⟨call_step hc h1 h2 (evN_fn cfg n), loop_step hc h1 h2 (evN_fn cfg n)⟩

/-- THE SOUNDNESS: what the abstract interpreter answers, the model's call does. -/
theorem ev_sound (hc : CfgOk P cfg) : CallOk P cfg (ev cfg) := by
  intro f args out base w0 w g d s vals us h
  obtain ⟨n, hn⟩ := of_ev cfg h
  exact (evN_sound hc n).1 f args out base w0 w g d s vals us hn
end

end Go.Vx
namespace Go.Vx
open Go Go.RowKit

/-- of a type: a value's cells as data -/
inductive Fit (ti : TypeId → Option TI) : TypeId → List D → Prop
  | int {t : TypeId} {i : TI} {k : IntKind} {n : Int} (h : ti t = some i) (hk : i.kind = .int k) (hw : (Lit.int k n).wf = true) : Fit ti t [.lit (.int k n)]
  | bool {t : TypeId} {i : TI} {b : Bool} (h : ti t = some i) (hk : i.kind = .bool) : Fit ti t [.lit (.bool b)]
  | str {t : TypeId} {i : TI} {s : ByteArray} (h : ti t = some i) (hk : i.kind = .str) (hw : s.size ≤ maxLen) : Fit ti t [.lit (.string s)]
  | nil {t e : TypeId} {i : TI} (h : ti t = some i) (hk : i.kind = .slice e) : Fit ti t [.nil]
  | sl {t e : TypeId} {i j : TI} {rows : List (List D)} (h : ti t = some i) (hk : i.kind = .slice e) (hj : ti e = some j) (hl : rows.length ≤ maxLen) (hr : ∀ r ∈ rows, Fit ti e r) : Fit ti t [.sl j.size rows]
  | struct {t : TypeId} {i : TI} {fs : List (Nat × TypeId)} {ds : List D} (h : ti t = some i) (hk : i.kind = .struct fs) (hl : ds.length = i.size)
      (hf : ∀ p ∈ fs, ∀ j, ti p.2 = some j → Fit ti p.2 ((ds.drop p.1).take j.size)) : Fit ti t ds

/-- fields one behind the other -/
def consec (ti : TypeId → Option TI) : Nat → List (Nat × TypeId) → Nat → Bool
  | o, [], n => o == n
  | o, p :: ps, n => p.1 == o && (match ti p.2 with
    | some j => consec ti (o + j.size) ps n
    | none => false)

/-- the types that are known, and their parts -/
def closedTi (ti : TypeId → Option TI) (T : List TypeId) : Bool := T.all fun t => match ti t with
  | some i => match i.kind with
    | .int _ | .bool | .str => true
    | .slice e => T.contains e && (match ti e with | some j => decide (0 < j.size) | none => false)
    | .struct fs => fs.all (fun p => T.contains p.2) && consec ti 0 fs i.size
    | _ => false
  | none => false

def memOf (w : World) : Addr → Option Value := fun a => w.cell? a

def RelDs (m : Addr → Option Value) (ds : List D) (cs : List Value) : Prop := ds.length = cs.length ∧ ∀ (j : Nat) x v, ds[j]? = some x → cs[j]? = some v → RelD m x v

theorem relDs_one {m : Addr → Option Value} {x : D} {v : Value} (h : RelD m x v) : RelDs m [x] [v] := by
  refine ⟨rfl, fun j y u hy hu => ?_⟩
  cases j with
  | succ j => simp at hy
  | zero =>
    simp only [List.getElem?_cons_zero, Option.some.injEq] at hy hu
    subst hy; subst hu; exact h

theorem list_choice {α : Type} {p : Nat → α → Prop} : ∀ n, (∀ i, i < n → ∃ x, p i x) → ∃ l : List α, l.length = n ∧ ∀ i x, l[i]? = some x → p i x
  | 0, _ => ⟨[], rfl, fun i x h => by simp at h⟩
  | n + 1, h => by
    obtain ⟨l, h1, h2⟩ := list_choice n fun i hi => h i (by omega)
    obtain ⟨x, hx⟩ := h n (by omega)
    refine ⟨l ++ [x], by simp [h1], fun i y hy => ?_⟩
    by_cases hi : i < l.length
    · rw [List.getElem?_append_left hi] at hy; exact h2 i y hy
    · rw [List.getElem?_append_right (by omega)] at hy
      by_cases hi2 : i = l.length
      · subst hi2
        simp only [Nat.sub_self, List.getElem?_cons_zero, Option.some.injEq] at hy
        subst hy; rw [h1]; exact hx
      · rw [List.getElem?_eq_none (by simp; omega)] at hy; cases hy

theorem flatten_inv {k : Nat} : ∀ {xs : List (List D)} {j : Nat} {x : D}, (∀ r ∈ xs, r.length = k) → xs.flatten[j]? = some x → ∃ i q r, j = i * k + q ∧ q < k ∧ xs[i]? = some r ∧ r[q]? = some x
  | [], j, x, _, h => by simp at h
  | r :: xs, j, x, hk, h => by
    have hr : r.length = k := hk r (List.mem_cons_self ..)
    rw [List.flatten_cons] at h
    by_cases hj : j < k
    · rw [List.getElem?_append_left (by omega)] at h
      exact ⟨0, j, r, by omega, hj, rfl, h⟩
    · rw [List.getElem?_append_right (by omega), hr] at h
      obtain ⟨i, q, r', h1, h2, h3, h4⟩ := flatten_inv (fun r hr => hk r (List.mem_cons_of_mem _ hr)) h
      exact ⟨i + 1, q, r', by rw [Nat.add_mul]; omega, h2, h3, h4⟩

theorem cells?_get {w : World} {base : Nat} {a : Addr} {n : Nat} {cs : List Value} (h : w.cells? base a n = some cs) : cs.length = n ∧ ∀ (j : Nat) v, cs[j]? = some v → w.cell? (a.add j) = some v := by
  unfold World.cells? at h
  split at h
  · refine ⟨by simpa using mapM_some_length h, fun j v hv => ?_⟩
    have hlt : j < n := by
      have := mapM_some_length h
      have h2 := (List.getElem?_eq_some_iff.1 hv).1
      simp at this; omega
    have := mapM_some_get h j j (by simp [hlt])
    rw [this, hv]
  · cases h

theorem fields_fit {ti : TypeId → Option TI} {m : Addr → Option Value} {n : Nat} {cs : List Value} (hcs : cs.length = n) : ∀ (ps : List (Nat × TypeId)) (o : Nat), consec ti o ps n = true →
    (∀ p ∈ ps, ∀ j, ti p.2 = some j → ∃ ds, Fit ti p.2 ds ∧ RelDs m ds ((cs.drop p.1).take j.size)) → ∃ ds, RelDs m ds (cs.drop o) ∧ (o ≤ n) ∧ ∀ p ∈ ps, o ≤ p.1 ∧ ∀ j, ti p.2 = some j → Fit ti p.2 ((ds.drop (p.1 - o)).take j.size)
  | [], o, h, _ => by
    simp only [consec, beq_iff_eq] at h
    refine ⟨[], ?_, by omega, fun p hp => by cases hp⟩
    rw [List.drop_of_length_le (by omega)]
    exact ⟨rfl, fun j x v hx => by simp at hx⟩
  | p :: ps, o, h, hf => by
    simp only [consec, Bool.and_eq_true, beq_iff_eq] at h
    obtain ⟨h1, h2⟩ := h
    cases hj : ti p.2 with
    | none => rw [hj] at h2; cases h2
    | some j =>
      rw [hj] at h2
      obtain ⟨d1, f1, ⟨l1, r1⟩⟩ := hf p (List.mem_cons_self ..) j hj
      obtain ⟨d2, ⟨l2, r2⟩, ho, f2⟩ := fields_fit hcs ps (o + j.size) h2 fun q hq => hf q (List.mem_cons_of_mem _ hq)
      have hlen : d1.length = j.size := by rw [l1, List.length_take, List.length_drop]; omega
      refine ⟨d1 ++ d2, ⟨?_, fun k x v hx hv => ?_⟩, by omega, fun q hq => ?_⟩
      · rw [List.length_append, hlen, l2, List.length_drop, List.length_drop]; omega
      · rw [List.getElem?_drop] at hv
        by_cases hk : k < d1.length
        · rw [List.getElem?_append_left hk] at hx
          refine r1 k x v hx ?_
          rw [List.getElem?_take_of_lt (by omega), List.getElem?_drop, h1]; exact hv
        · rw [List.getElem?_append_right (by omega)] at hx
          refine r2 (k - d1.length) x v hx ?_
          rw [List.getElem?_drop, hlen, show o + j.size + (k - j.size) = o + k by omega]; exact hv
      · rcases List.mem_cons.1 hq with hq | hq
        · subst hq
          refine ⟨by omega, fun j' hj' => ?_⟩
          rw [hj] at hj'
          obtain rfl := Option.some.inj hj'
          rw [show q.1 - o = 0 by omega, List.drop_zero, List.take_append_of_le_length (by omega), List.take_of_length_le (by omega)]
          exact f1
        · obtain ⟨h3, h4⟩ := f2 q hq
          refine ⟨by omega, fun j' hj' => ?_⟩
          have := h4 j' hj'
          rw [List.drop_append, List.drop_of_length_le (by omega), List.nil_append, hlen, show q.1 - o - j.size = q.1 - (o + j.size) by omega]
          exact this

theorem trod_fit {H : Type} {enc : TypeId × Value → H} {P : Program} {w : World} {sp : Nat → Bool} {held : Bool} {ti : TypeId → Option TI} (hti : ∀ t i, ti t = some i → TiOk P t i) {T : List TypeId} (hT : closedTi ti T = true) :
    ∀ (fuel : Nat) (t : TypeId) (cs : List Value) (x : DataW H × List MemPlace), t ∈ T → DataW.trod enc P w 0 sp held fuel t cs = some x → ∃ ds, Fit ti t ds ∧ RelDs (memOf w) ds cs := by
  intro fuel
  induction fuel with
  | zero => intro t cs x _ h; simp [DataW.trod] at h
  | succ n ih =>
    intro t cs x ht h
    have hcl := List.all_eq_true.1 hT t ht
    cases hi : ti t with
    | none => rw [hi] at hcl; cases hcl
    | some i =>
      rw [hi] at hcl
      simp only at hcl
      have hk := (hti t i hi).kind
      have hsize : ∀ e j, ti e = some j → P.cellsOf e = j.size := fun e j hj => by
        obtain ⟨info, z, q1, q2, _⟩ := (hti e j hj).info
        simp [Program.cellsOf, q1, q2]
      cases hkd : i.kind with
      | int k =>
        rw [hkd] at hk
        obtain ⟨m, rfl, rfl, hw⟩ := DataW.trod_int hk h
        exact ⟨_, .int hi hkd hw, relDs_one (.lit _ rfl)⟩
      | bool =>
        rw [hkd] at hk
        obtain ⟨b, rfl, rfl⟩ := DataW.trod_bool hk h
        exact ⟨_, .bool hi hkd, relDs_one (.lit _ rfl)⟩
      | str =>
        rw [hkd] at hk
        obtain ⟨b, rfl, rfl, hs⟩ := DataW.trod_string hk h
        exact ⟨_, .str hi hkd hs, relDs_one (.lit _ rfl)⟩
      | slice e =>
        rw [hkd] at hk hcl
        simp only [Bool.and_eq_true] at hcl
        have heT : e ∈ T := by simpa using hcl.1
        cases hj : ti e with
        | none => rw [hj] at hcl; cases hcl.2
        | some j =>
          rw [hj] at hcl
          have hpos : 0 < j.size := by simpa using hcl.2
          have hce := hsize e j hj
          rcases DataW.trod_slice hk h with ⟨rfl, _⟩ | ⟨a, len, cap, elems, rest, n', hn', rfl, _, _, hlc, hcm, hel, hrow, _, _⟩
          · exact ⟨_, .nil hi hkd, relDs_one (.nil none)⟩
          · obtain rfl : n' = n := by omega
            obtain ⟨rows, hrl, hrows⟩ := list_choice (p := fun q r => Fit ti e r ∧ ∃ cs', w.cells? 0 (a.add (q * j.size)) j.size = some cs' ∧ RelDs (memOf w) r cs') len fun q hq => by
              have h1 := hrow q hq
              rw [hce, List.getElem?_eq_getElem (by omega)] at h1
              obtain ⟨cs', h2, h3⟩ := Option.bind_eq_some_iff.1 h1
              obtain ⟨ds, h4, h5⟩ := ih e cs' _ heT h3
              exact ⟨ds, h4, cs', h2, h5⟩
            have hlen : ∀ r ∈ rows, r.length = j.size := by
              intro r hr
              obtain ⟨q, hq⟩ := List.getElem?_of_mem hr
              obtain ⟨_, cs', h1, h2⟩ := hrows q r hq
              rw [h2.1, (cells?_get h1).1]
            refine ⟨_, .sl (rows := rows) hi hkd hj (by omega) fun r hr => ?_, relDs_one ?_⟩
            · obtain ⟨q, hq⟩ := List.getElem?_of_mem hr
              exact (hrows q r hq).1
            · by_cases h0 : rows = []
              · subst h0
                simp only [List.length_nil] at hrl
                subst hrl
                exact .emp _ _ _
              · obtain ⟨r0, hr0⟩ : ∃ r, rows[0]? = some r := ⟨_, List.getElem?_eq_getElem (List.length_pos_iff.2 h0)⟩
                obtain ⟨b, o, spt⟩ := a
                have hspot : spt = none := by
                  obtain ⟨_, cs', h1, h2⟩ := hrows 0 r0 hr0
                  obtain ⟨h3, h4⟩ := cells?_get h1
                  have h5 := h4 0 cs'[0] (List.getElem?_eq_getElem (by omega))
                  unfold World.cell? at h5
                  split at h5
                  · split at h5
                    · cases h5
                    · rename_i hs
                      simpa [Addr.add] using hs
                  · cases h5
                subst hspot
                have hcell : ∀ (q : Nat) x, rows.flatten[q]? = some x → ∃ v, w.cell? ⟨b, o + q, none⟩ = some v ∧ RelD (memOf w) x v := by
                  intro q x hx
                  obtain ⟨i1, q1, r, e1, e2, e3, e4⟩ := flatten_inv hlen hx
                  obtain ⟨_, cs', h1, h2⟩ := hrows i1 r e3
                  obtain ⟨h3, h4⟩ := cells?_get h1
                  have hv : cs'[q1]? = some cs'[q1] := List.getElem?_eq_getElem (by omega)
                  refine ⟨_, ?_, h2.2 q1 x _ e4 hv⟩
                  have := h4 q1 _ hv
                  rw [add_mk, add_mk] at this
                  rw [e1, ← Nat.add_assoc]; exact this
                rw [← hrl]
                refine .sl j.size rows b o cap (fun q => (w.cell? ⟨b, o + q, none⟩).getD undef) (by omega) hlen (fun q x hx => ?_) fun q x hx => ?_
                · obtain ⟨v, h1, _⟩ := hcell q x hx
                  simp [memOf, h1]
                · obtain ⟨v, h1, h2⟩ := hcell q x hx
                  simp only [h1, Option.getD_some]; exact h2
      | struct fs =>
        rw [hkd] at hk hcl
        simp only [Bool.and_eq_true] at hcl
        obtain ⟨fields, k1, k2, _⟩ := hk
        obtain ⟨xs, n', hn', _, hcl', hxl, hx⟩ := DataW.trod_struct k1 h
        obtain rfl : n' = n := by omega
        rw [hsize t i hi] at hcl'
        obtain ⟨ds, h1, _, h2⟩ := fields_fit (ti := ti) (m := memOf w) hcl' fs 0 hcl.2 fun p hp j hj => by
          have hpT : p.2 ∈ T := by simpa using List.all_eq_true.1 hcl.1 p hp
          rw [← k2] at hp
          obtain ⟨f, hf, rfl⟩ := List.mem_map.1 hp
          obtain ⟨q, hq⟩ := List.getElem?_of_mem hf
          have hq' : fields[q]? = some f := by rw [← Array.getElem?_toList]; exact hq
          have hlt : q < xs.length := by rw [hxl]; exact (Array.getElem?_eq_some_iff.1 hq').1
          have := hx q f hq'
          rw [List.getElem?_eq_getElem hlt, hsize _ j hj] at this
          exact ih _ _ _ hpT this
        rw [List.drop_zero] at h1
        refine ⟨ds, .struct hi hkd (by rw [h1.1, hcl']) fun p hp j hj => ?_, h1⟩
        have := (h2 p hp).2 j hj
        simpa using this
      | array _ _ => rw [hkd] at hcl; cases hcl
      | other => rw [hkd] at hcl; cases hcl

end Go.Vx
namespace Go.Vx
open Go Go.RowKit

def gh0 (cfg : Cfg) (W : World) : Gh := { m := memOf W, own := fun _ => none, blk := [], bt := cfg.byteT }
def st0 : St := { ts := [], bx := [], nb := 0, lo := none, kp := false }

theorem inv0 (cfg : Cfg) (W : World) : Inv W.heap.size W W (gh0 cfg W) 0 st0 #[] where
  low := Below.refl _ W
  hb := Nat.le_refl _
  mem _ _ h := h
  own_ge _ _ h := by cases h
  own_lt _ _ h := by cases h
  own_d _ _ _ _ h := by cases h
  blen := rfl
  nodup := List.nodup_nil
  nbl := Nat.le_refl _
  boxes l b bx h _ := by simp [gh0] at h
  tl := rfl
  tmps i c v h _ := by simp [st0] at h
  al i c p h _ := by simp [st0] at h

/-- A CALL FROM OUTSIDE whose answer is a literal, and turns nothing. -/
theorem top_sound {P : Program} {cfg : Cfg} (hc : CfgOk P cfg) {f : FuncId} {args : List PV} {us : List Value} {v : Value} {W : World} (h : ev cfg (.call f args []) = some (.ret (.dat (.lit v)) none)) (hgl : GlobOk cfg (gh0 cfg W))
    (hl : us.length = args.length) (hr : ∀ (j : Nat) c u, args[j]? = some c → us[j]? = some u → RelA (gh0 cfg W) c u) :
    Calls P f us.toArray W fun
      | .returned u, W' => u = v ∧ Below W.heap.size W W'
      | _, _ => False := by
  refine Calls.mono (ev_sound hc f args _ W.heap.size W W (gh0 cfg W) 0 st0 #[] us h (inv0 cfg W) hgl hl hr) fun en W' he => ?_
  cases en with
  | returned u =>
    obtain ⟨r, s', g', h1, h2, _, h4⟩ := he
    simp only [finSt, Option.some.injEq, Prod.mk.injEq] at h1
    obtain ⟨rfl, rfl⟩ := h1
    exact ⟨h4, h2.low⟩
  | panicked => exact he.elim
  | outgrown => exact he.elim

/-- an argument of a struct's type -/
theorem relA_agg {cfg : Cfg} {W : World} {ds : List D} {cs : Array Value} (h : RelDs (memOf W) ds cs.toList) : RelA (gh0 cfg W) (.agg (ds.map .dat)) (.agg cs) := by
  refine ⟨cs.toList, rfl, by simp [h.1], fun j c v hc hv => ?_⟩
  rw [List.getElem?_map] at hc
  cases hd : ds[j]? with
  | none => rw [hd] at hc; cases hc
  | some x =>
    rw [hd] at hc
    obtain rfl := Option.some.inj hc
    exact relC_dat (h.2 j x v hd hv)

theorem relA_dat {cfg : Cfg} {W : World} {x : D} {u : Value} (h : RelD (memOf W) x u) : RelA (gh0 cfg W) (.dat x) u := by
  cases h with
  | lit _ _ => exact rfl
  | nil a => exact RelD.nil a
  | emp k a c => exact RelD.emp k a c
  | sl k xs b o c us h1 h2 h3 h4 => exact RelD.sl k xs b o c us h1 h2 h3 h4

end Go.Vx
namespace Go.Vx
open Go Go.RowKit

def structOf : Option TypeDesc → Option (List (Nat × TypeId))
  | some (.struct fs) => some (fs.toList.map fun f => (f.offset, f.type))
  | _ => none

def descOk : Option TypeDesc → Bool
  | some (.struct _) | some (.array _ _) => false
  | some _ => true
  | none => false

theorem kind_struct {P : Program} {t : TypeId} {fs : List (Nat × TypeId)} (h : structOf (P.underlying t) = some fs) (h2 : (fs.all fun p => (P.info? p.2).isSome) = true) : KindOk P t (.struct fs) := by
  cases hu : P.underlying t with
  | none => rw [hu] at h; cases h
  | some dsc =>
    rw [hu] at h
    cases dsc with
    | struct fields =>
      obtain rfl := Option.some.inj h
      refine ⟨fields, hu, rfl, fun f hf => ?_⟩
      exact List.all_eq_true.1 h2 (f.offset, f.type) (List.mem_map.2 ⟨f, hf, rfl⟩)
    | _ => cases h

theorem kind_other {P : Program} {t : TypeId} (h : descOk (P.underlying t) = true) : KindOk P t .other := by
  cases hu : P.underlying t with
  | none => rw [hu] at h; cases h
  | some dsc =>
    rw [hu] at h
    refine ⟨dsc, hu, ?_⟩
    cases dsc <;> first | rfl | cases h

theorem tiOk_mk {P : Program} {t : TypeId} {i : TI} (hs : (P.info? t).map (·.size) = some i.size) (hb : (P.info? t).map (·.bytes) = some i.bytes)
    (hz : ((P.info? t).bind (·.zero)).map (fun z => z.cells.toList) = some (i.zero.map D.toValue)) (hz2 : i.zero.all D.zeroOk = true) (hl : i.zero.length = i.size) (hk : KindOk P t i.kind) : TiOk P t i := by
  cases hi : P.info? t with
  | none => rw [hi] at hs; cases hs
  | some info =>
    rw [hi] at hs hb hz
    cases hzz : info.zero with
    | none => simp [hzz] at hz
    | some z =>
      simp [hzz] at hz
      exact ⟨⟨info, z, hi, Option.some.inj hs, Option.some.inj hb, hzz, hz⟩, hz2, hl, hk⟩

theorem hook_same {P : Program} {f : FuncId} {fn : Func} (h1 : P.funcs[f]? = some fn) (h2 : (fn.name == "runtime.NumGoroutine") = false) (h3 : fn.body.isNone = true) (h4 : Extern.findNext fn = none) (h5 : Extern.find fn = some Extern.AbiNoEscape.same) : HookFn P f .same := by
  intro x w
  simp only [callFunc, Sem.run_bind, run_program, Result.andThen_ok, h1, h2, h3, Bool.false_eq_true, if_false, if_true, h4, h5]
  rfl
end Go.Vx
