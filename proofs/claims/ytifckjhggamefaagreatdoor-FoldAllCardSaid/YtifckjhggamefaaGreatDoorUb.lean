/- The abstract interpreter of the model's code, and its soundness: a part. No condition. -/
import Derived.Test.YtifckjhggamefaaGreatDoorUa
import Derived.Below
import Derived.Laws.CopyRow
import Derived.Laws.AppendOwn
import Derived.MapKept
import Derived.Lib.Builder
import GoSem.Step
import Derived.Laws.StructEq
import Derived.Laws.NewBlocks
set_option linter.unusedSimpArgs false
set_option linter.unusedVariables false
set_option linter.unusedSectionVars false
namespace Go.Vx
open Go Go.RowKit
inductive Owner where
 | box
 | cell (b off : Nat)
 | tmp (d i j : Nat)
 | res (j : Nat)
 deriving DecidableEq
structure Gh where
 m : Addr -> Option Value
 own : Nat -> Option Owner
 blk : List Nat
 bt : TypeId
inductive RelD (m : Addr -> Option Value) : D -> Value -> Prop
 | lit (v : Value) (h : v.oneCell' = true) : RelD m (.lit v) v
 | nil (a : Option Addr) : RelD m .nil (.slice a 0 0)
 | emp (k : Nat) (a : Option Addr) (c : Nat) : RelD m (.sl k []) (.slice a 0 c)
 | sl (k : Nat) (xs : List (List D)) (b o c : Nat) (us : Nat -> Value) (h1 : xs.length <= c) (h2 : ∀ x ∈ xs,x.length = k)
   (h3 : ∀ j d,xs.flatten[j]? = some d -> m ⟨b,o + j,none⟩ = some (us j)) (h4 : ∀ j d,xs.flatten[j]? = some d -> RelD m d (us j)) :
   RelD m (.sl k xs) (.slice (some ⟨b,o,none⟩) xs.length c)
 | any (b : Bool) : RelD m .any (.bool b)
theorem RelD.mono {m m' : Addr -> Option Value} (hm : ∀ a v,m a = some v -> m' a = some v) {d : D} {v : Value} (h : RelD m d v) : RelD m' d v := by
 induction h with
 | lit v h => exact .lit v h
 | nil a => exact .nil a
 | emp k a c => exact .emp k a c
 | sl k xs b o c us h1 h2 h3 h4 ih => exact .sl k xs b o c us h1 h2 (fun j d hd => hm _ _ (h3 j d hd)) (fun j d hd => ih j d hd)
 | any b => exact .any b
theorem RelD.oneCell {m : Addr -> Option Value} {d : D} {v : Value} (h : RelD m d v) : v.oneCell' = true := by
 cases h <;> first | assumption | rfl
def RelC (g : Gh) : PV -> Value -> Prop
 | .dat (.lit v),u => u = v
 | .dat d,u => RelD g.m d u
 | .ptr l off,u => ∃ b,g.blk[l]? = some b /\ u = .pointer (some ⟨b,off,none⟩)
 | .iptr cs off,u => ∃ (b o : Nat) (us : Nat -> Value),u = .pointer (some ⟨b,o + off,none⟩) /\ ∀ j d,cs[j]? = some d -> g.m ⟨b,o + j,none⟩ = some (us j) /\ RelD g.m d (us j)
 | .clo f cap,u => ∃ us : Array Value,u = .func (.func f) #[] us /\ us.size = cap.length /\ ∀ (j l : Nat),cap[j]? = some l -> ∃ b,g.blk[l]? = some b /\ us[j]? = some (.pointer (some ⟨b,0,none⟩))
 | .dead,_ => True
 | _,_ => False
def OwnRel (w : World) (g : Gh) (o : Owner) (ex : Bool) (k : Nat) (xs : List (List D)) (v : Value) : Prop :=
 ∃ (b off c : Nat) (cs : Array Value) (T : TypeId),v = .slice (some ⟨b,off,none⟩) xs.length c /\ g.own b = some o /\ w.heap[b]? = some (.cells cs T (0,0)) ∧
  xs.length <= c /\ c <= maxLen /\ (k = 0 -> T = g.bt) /\ off + c * ksz k <= cs.size /\ (∀ x ∈ xs,x.length = ksz k) ∧
  (∀ j d,xs.flatten[j]? = some d -> ∃ u,cs[off + j]? = some u /\ RelD g.m d u) ∧
  (ex = true -> ∀ j,g.m ⟨b,j,none⟩ = none) ∧
  (ex = false -> (∀ j,j < xs.flatten.length -> g.m ⟨b,off + j,none⟩ = cs[off + j]?) /\ ∀ j,off + xs.flatten.length <= j -> g.m ⟨b,j,none⟩ = none)
def RelAgg (g : Gh) (cs : List PV) (u : Value) : Prop :=
 ∃ us : List Value,u = .agg us.toArray /\ us.length = cs.length /\ ∀ (j : Nat) c v,cs[j]? = some c -> us[j]? = some v -> RelC g c v
def RelR (w : World) (g : Gh) (o : Owner) : PV -> Value -> Prop
 | .own ex k xs,u => OwnRel w g o ex k xs u
 | .agg cs,u => RelAgg g cs u
 | c,u => RelC g c u
def RelV (w : World) (g : Gh) (ow : Nat -> Owner) : PV -> Value -> Prop
 | .tup vs,u => ∃ us : List Value,u = .tuple us.toArray /\ us.length = vs.length /\ ∀ (j : Nat) c v,vs[j]? = some c -> us[j]? = some v -> RelR w g (ow (j + 1)) c v
 | .bag cs,u => ∃ us : List Value,u = .agg us.toArray /\ us.length = cs.length /\ ∀ (j : Nat) c v,cs[j]? = some c -> us[j]? = some v -> RelR w g (ow (j + 1)) c v
 | c,u => RelR w g (ow 0) c u
def TypAt (w : World) (b : Nat) (T : TypeId) : Prop := ∃ cs fr,w.heap[b]? = some (.cells cs T fr)
def RelB (w : World) (g : Gh) (b off : Nat) : PV -> Value -> Prop
 | .own ex k xs,u => OwnRel w g (.cell b off) ex k xs u
 | c,u => RelC g c u
def placeVal (w : World) (g : Gh) (vals : Array Value) : Place -> Option Value
 | .tmp i => vals[i]?
 | .cell l off => (g.blk[l]?).bind fun b => w.cell? ⟨b,off,none⟩
def RelT (w : World) (g : Gh) (vals : Array Value) (d i : Nat) : PV -> Value -> Prop
 | .alias p,u => placeVal w g vals p = some u
 | .eptr p k r j,u => ∃ b o n c,placeVal w g vals p = some (.slice (some ⟨b,o,none⟩) n c) /\ u = .pointer (some ⟨b,o + (r * k + j),none⟩)
 | c,u => RelV w g (fun j => .tmp d i j) c u
def BoxRel (w : World) (g : Gh) (b : Nat) (bx : Box) : Prop :=
 g.own b = some .box /\ (∀ j,g.m ⟨b,j,none⟩ = none) ∧
  ∃ (cs : Array Value) (T : TypeId),w.heap[b]? = some (.cells cs T (0,0)) /\ cs.size = bx.length /\ ∀ (j : Nat) c u,bx[j]? = some c -> cs[j]? = some u -> RelB w g b j c u
def ptrLt (n : Nat) : PV -> Prop
 | .ptr l _ => l < n
 | .clo _ cap => ∀ l ∈ cap,l < n
 | _ => True
def aliasOf : PV -> Option Place
 | .alias p => some p
 | .eptr p _ _ _ => some p
 | _ => none
structure Inv (base : Nat) (w0 w : World) (g : Gh) (d : Nat) (s : St) (vals : Array Value) : Prop where
 low : Below base w0 w
 hb : base <= w0.heap.size
 mem : ∀ a v,g.m a = some v -> w.cell? a = some v
 own_ge : ∀ b o,g.own b = some o -> base <= b
 own_lt : ∀ b o,g.own b = some o -> b < w.heap.size
 own_d : ∀ b d' i j,g.own b = some (.tmp d' i j) -> d' <= d
 blen : g.blk.length = s.bx.length
 nodup : g.blk.Nodup
 nbl : s.nb <= s.bx.length
 boxes : ∀ (l b : Nat) bx,g.blk[l]? = some b -> s.bx[l]? = some bx -> BoxRel w g b bx
 tl : vals.size = s.ts.length
 tmps : ∀ (i : Nat) c v,s.ts[i]? = some c -> vals[i]? = some v -> RelT w g vals d i c v
 al : ∀ (i : Nat) c p,s.ts[i]? = some c -> aliasOf c = some p -> (s.at p).maySrc = true
def Kept (w w' : World) (g g' : Gh) (b : Nat) : Prop :=
 w'.heap[b]? = w.heap[b]? /\ g'.own b = g.own b /\ ∀ j,g'.m ⟨b,j,none⟩ = g.m ⟨b,j,none⟩
structure Grows (g g' : Gh) : Prop where
 m : ∀ a v,g.m a = some v -> g'.m a = some v
 blk : ∀ (l b : Nat),g.blk[l]? = some b -> g'.blk[l]? = some b
 bt : g'.bt = g.bt
theorem Grows.refl (g : Gh) : Grows g g := ⟨fun _ _ h => h,fun _ _ h => h,rfl⟩
theorem Grows.trans {a b c : Gh} (h : Grows a b) (h' : Grows b c) : Grows a c := ⟨fun x v hx => h'.m x v (h.m x v hx),fun l b hb => h'.blk l b (h.blk l b hb),h'.bt.trans h.bt⟩
theorem RelC.grows {g g' : Gh} (h : Grows g g') : ∀ {c : PV} {u : Value},RelC g c u -> RelC g' c u := by
 intro c u hr
 cases c with
 | dat d =>
  cases d with
  | lit v => exact hr
  | nil => exact RelD.mono h.m hr
  | sl k xs => exact RelD.mono h.m hr
  | any => exact RelD.mono h.m hr
 | ptr l off => obtain ⟨b,h1,h2⟩ := hr; exact ⟨b,h.blk l b h1,h2⟩
 | iptr cs off => obtain ⟨b,o,us,h1,h2⟩ := hr; exact ⟨b,o,us,h1,fun j d hd => ⟨h.m _ _ (h2 j d hd).1,(h2 j d hd).2.mono h.m⟩⟩
 | clo f cap => obtain ⟨us,h1,h2,h3⟩ := hr; exact ⟨us,h1,h2,fun j l hl => let ⟨b,h4,h5⟩ := h3 j l hl; ⟨b,h.blk l b h4,h5⟩⟩
 | dead => exact trivial
 | own => exact hr.elim
 | agg => exact hr.elim
 | bag => exact hr.elim
 | tup => exact hr.elim
 | «alias» => exact hr.elim
 | eptr => exact hr.elim
theorem OwnRel.kept {w w' : World} {g g' : Gh} {o : Owner} {ex : Bool} {k : Nat} {xs : List (List D)} {v : Value} (h : OwnRel w g o ex k xs v) (hg : Grows g g')
  (hk : ∀ b,g.own b = some o -> Kept w w' g g' b) : OwnRel w' g' o ex k xs v := by
 obtain ⟨b,off,c,cs,T,h1,h2,h3,h4,h5,h6,h7,h8,h9,h10,h11⟩ := h
 obtain ⟨k1,k2,k3⟩ := hk b h2
 refine ⟨b,off,c,cs,T,h1,by rw [k2]; exact h2,by rw [k1]; exact h3,h4,h5,fun hk0 => by rw [hg.bt]; exact h6 hk0,h7,h8,fun j d hd => ?_,fun he j => ?_,fun he => ⟨fun j hj => ?_,fun j hj => ?_⟩⟩
 ·obtain ⟨u,hu,hr⟩ := h9 j d hd; exact ⟨u,hu,hr.mono hg.m⟩
 ·rw [k3]; exact h10 he j
 ·rw [k3]; exact (h11 he).1 j hj
 ·rw [k3]; exact (h11 he).2 j hj
theorem RelAgg.grows {g g' : Gh} (h : Grows g g') {cs : List PV} {u : Value} (hr : RelAgg g cs u) : RelAgg g' cs u := by
 obtain ⟨us,h1,h2,h3⟩ := hr
 exact ⟨us,h1,h2,fun j c v hc hv => (h3 j c v hc hv).grows h⟩
theorem RelR.kept {w w' : World} {g g' : Gh} {o : Owner} (hg : Grows g g') (hk : ∀ b,g.own b = some o -> Kept w w' g g' b) : ∀ {c : PV} {u : Value},RelR w g o c u -> RelR w' g' o c u := by
 intro c u hr
 cases c with
 | own ex k xs => exact OwnRel.kept hr hg hk
 | agg cs => exact RelAgg.grows hg hr
 | dat d => exact RelC.grows hg (c := .dat d) hr
 | ptr l off => exact RelC.grows hg (c := .ptr l off) hr
 | iptr cs off => exact RelC.grows hg (c := .iptr cs off) hr
 | clo f cap => exact RelC.grows hg (c := .clo f cap) hr
 | dead => exact trivial
 | bag => exact hr.elim
 | tup => exact hr.elim
 | «alias» => exact hr.elim
 | eptr => exact hr.elim
theorem RelV.kept {w w' : World} {g g' : Gh} {ow : Nat -> Owner} (hg : Grows g g') (hk : ∀ j b,g.own b = some (ow j) -> Kept w w' g g' b) : ∀ {c : PV} {u : Value},RelV w g ow c u -> RelV w' g' ow c u := by
 intro c u hr
 cases c with
 | bag vs =>
  obtain ⟨us,h1,h2,h3⟩ := hr
  exact ⟨us,h1,h2,fun j c v hc hv => (h3 j c v hc hv).kept hg (hk (j + 1))⟩
 | tup vs =>
  obtain ⟨us,h1,h2,h3⟩ := hr
  exact ⟨us,h1,h2,fun j c v hc hv => (h3 j c v hc hv).kept hg (hk (j + 1))⟩
 | own ex k xs => exact RelR.kept (c := .own ex k xs) hg (hk 0) hr
 | agg cs => exact RelR.kept (c := .agg cs) hg (hk 0) hr
 | dat d => exact RelR.kept (c := .dat d) hg (hk 0) hr
 | ptr l off => exact RelR.kept (c := .ptr l off) hg (hk 0) hr
 | iptr cs off => exact RelR.kept (c := .iptr cs off) hg (hk 0) hr
 | clo f cap => exact RelR.kept (c := .clo f cap) hg (hk 0) hr
 | dead => exact trivial
 | «alias» => exact hr.elim
 | eptr => exact hr.elim
theorem TypAt.kept {w w' : World} {g g' : Gh} {b : Nat} {T : TypeId} (hb : Kept w w' g g' b) (h : TypAt w b T) : TypAt w' b T := by
 obtain ⟨cs,fr,h⟩ := h
 exact ⟨cs,fr,by rw [hb.1]; exact h⟩
theorem RelB.kept {w w' : World} {g g' : Gh} {b off : Nat} (hg : Grows g g') (hk : ∀ b',g.own b' = some (.cell b off) -> Kept w w' g g' b') (ht : ∀ T,TypAt w b T -> TypAt w' b T) : ∀ {c : PV} {u : Value},RelB w g b off c u -> RelB w' g' b off c u := by
 intro c u hr
 cases c with
 | own ex k xs => exact OwnRel.kept hr hg hk
 | dat d => exact RelC.grows hg (c := .dat d) hr
 | ptr l off => exact RelC.grows hg (c := .ptr l off) hr
 | iptr cs off => exact RelC.grows hg (c := .iptr cs off) hr
 | clo f cap => exact RelC.grows hg (c := .clo f cap) hr
 | dead => exact trivial
 | agg => exact hr.elim
 | bag => exact hr.elim
 | tup => exact hr.elim
 | «alias» => exact hr.elim
 | eptr => exact hr.elim
theorem BoxRel.kept {w w' : World} {g g' : Gh} {b : Nat} {bx : Box} (hg : Grows g g') (h : BoxRel w g b bx) (hb : Kept w w' g g' b) (hk : ∀ off b',g.own b' = some (.cell b off) -> Kept w w' g g' b') : BoxRel w' g' b bx := by
 obtain ⟨h1,h2,cs,T,h3,h4,h5⟩ := h
 obtain ⟨k1,k2,k3⟩ := hb
 exact ⟨by rw [k2]; exact h1,fun j => by rw [k3]; exact h2 j,cs,T,by rw [k1]; exact h3,h4,fun j c u hc hu => (h5 j c u hc hu).kept hg (hk j) (fun T ht => by obtain ⟨cs,fr,h⟩ := ht; exact ⟨cs,fr,by rw [k1]; exact h⟩)⟩
end Go.Vx
namespace Go.Vx
open Go Go.RowKit
def below (l : Nat) : Option Nat -> Prop
 | none => True
 | some m => l < m
structure Stp (d : Nat) (s s' : St) (w w' : World) (g g' : Gh) : Prop where
 gr : Grows g g'
 nb : s'.nb = s.nb
 bl : s.bx.length <= s'.bx.length
 tmps : ∀ b d' i j,g.own b = some (.tmp d' i j) -> d' < d -> Kept w w' g g' b
 lo : ∀ l,below l s'.lo -> below l s.lo
 old : ∀ l,l < s.nb -> below l s'.lo -> s'.bx[l]? = s.bx[l]? /\ ∀ b,g.blk[l]? = some b -> Kept w w' g g' b /\ ∀ off b',g.own b' = some (.cell b off) -> Kept w w' g g' b'
 kp : s.kp = true -> s'.kp = true
 kpl : s'.kp = false -> ∀ (n l : Nat) bx bx',l < s.nb -> s.bx[l]? = some bx -> (∀ c ∈ bx,ptrLt n c) -> s'.bx[l]? = some bx' -> ∀ c ∈ bx',ptrLt n c
theorem kpl_same {s s' : St} (h : s'.bx = s.bx) : ∀ (n l : Nat) bx bx',l < s.nb -> s.bx[l]? = some bx -> (∀ c ∈ bx,ptrLt n c) -> s'.bx[l]? = some bx' -> ∀ c ∈ bx',ptrLt n c := by
 intro n l bx bx' _ h1 h2 h3
 rw [h,h1] at h3
 obtain rfl := sij h3
 exact h2
theorem Kept.refl (w : World) (g : Gh) (b : Nat) : Kept w w g g b := ⟨rfl,rfl,fun _ => rfl⟩
theorem Kept.trans {w1 w2 w3 : World} {g1 g2 g3 : Gh} {b : Nat} (h : Kept w1 w2 g1 g2 b) (h' : Kept w2 w3 g2 g3 b) : Kept w1 w3 g1 g3 b :=
 ⟨h'.1.trans h.1,h'.2.1.trans h.2.1,fun j => (h'.2.2 j).trans (h.2.2 j)⟩
theorem Stp.refl (d : Nat) (s : St) (w : World) (g : Gh) : Stp d s s w w g g :=
 ⟨Grows.refl g,rfl,Nat.le_refl _,fun b _ _ _ _ _ => Kept.refl w g b,fun _ h => h,fun _ _ _ => ⟨rfl,fun b _ => ⟨Kept.refl w g b,fun _ b' _ => Kept.refl w g b'⟩⟩,fun h => h,fun _ => kpl_same rfl⟩
theorem Stp.trans {d : Nat} {s1 s2 s3 : St} {w1 w2 w3 : World} {g1 g2 g3 : Gh} (h : Stp d s1 s2 w1 w2 g1 g2) (h' : Stp d s2 s3 w2 w3 g2 g3) : Stp d s1 s3 w1 w3 g1 g3 where
 gr := h.gr.trans h'.gr
 nb := h'.nb.trans h.nb
 bl := Nat.le_trans h.bl h'.bl
 tmps b d' i j hb hd := by
  have k := h.tmps b d' i j hb hd
  exact k.trans (h'.tmps b d' i j (by rw [k.2.1]; exact hb) hd)
 lo l hl := h.lo l (h'.lo l hl)
 old l hl hb := by
  obtain ⟨a1,a2⟩ := h.old l hl (h'.lo l hb)
  obtain ⟨b1,b2⟩ := h'.old l (by rw [h.nb]; exact hl) hb
  refine ⟨b1.trans a1,fun b hg => ?_⟩
  obtain ⟨k1,k2⟩ := a2 b hg
  obtain ⟨l1,l2⟩ := b2 b (h.gr.blk l b hg)
  exact ⟨k1.trans l1,fun off b' hb' => (k2 off b' hb').trans (l2 off b' (by rw [(k2 off b' hb').2.1]; exact hb'))⟩
 kp hk := h'.kp (h.kp hk)
 kpl hk n l bx bx' hl h1 h2 h3 := by
  have hk2 : s2.kp = false := by
   cases e : s2.kp with
   | false => rfl
   | true => rw [h'.kp e] at hk; cases hk
  have hlt : l < s2.bx.length := Nat.lt_of_lt_of_le (gsi.1 h1).1 h.bl
  exact h'.kpl hk n l _ bx' (by rw [h.nb]; exact hl) (gge hlt) (h.kpl hk2 n l bx _ hl h1 h2 (gge hlt)) h3
def Gh.relab (g : Gh) (f : Owner -> Option Owner) : Gh := { g with own := fun b => (g.own b).bind f }
def Clean (g : Gh) : Prop := ∀ b j,g.own b ≠ some (.res j)
theorem grows_relab (g : Gh) (f : Owner -> Option Owner) : Grows g (g.relab f) := ⟨fun _ _ h => h,fun _ _ h => h,rfl⟩
theorem kept_relab {w : World} {g : Gh} {f : Owner -> Option Owner} {b : Nat} {o : Owner} (h : g.own b = some o) (hf : f o = some o) : Kept w w g (g.relab f) b :=
 ⟨rfl,by simp [Gh.relab,h,hf],fun _ => rfl⟩
theorem OwnRel.relab {w : World} {g : Gh} {o o' : Owner} {f : Owner -> Option Owner} (hf : f o = some o') {ex : Bool} {k : Nat} {xs : List (List D)} {v : Value} (h : OwnRel w g o ex k xs v) :
  OwnRel w (g.relab f) o' ex k xs v := by
 obtain ⟨b,off,c,cs,T,h1,h2,h3,h4⟩ := h
 exact ⟨b,off,c,cs,T,h1,by simp [Gh.relab,h2,hf],h3,h4⟩
theorem RelR.relab {w : World} {g : Gh} {o o' : Owner} {f : Owner -> Option Owner} (hf : f o = some o') : ∀ {c : PV} {u : Value},RelR w g o c u -> RelR w (g.relab f) o' c u := by
 intro c u hr
 cases c with
 | own ex k xs => exact OwnRel.relab hf hr
 | agg cs => exact RelAgg.grows (grows_relab g f) hr
 | dat d => exact RelC.grows (grows_relab g f) (c := .dat d) hr
 | ptr l off => exact RelC.grows (grows_relab g f) (c := .ptr l off) hr
 | iptr cs off => exact RelC.grows (grows_relab g f) (c := .iptr cs off) hr
 | clo f' cap => exact RelC.grows (grows_relab g f) (c := .clo f' cap) hr
 | dead => exact trivial
 | bag => exact hr.elim
 | tup => exact hr.elim
 | «alias» => exact hr.elim
 | eptr => exact hr.elim
theorem RelV.relab {w : World} {g : Gh} {ow ow' : Nat -> Owner} {f : Owner -> Option Owner} (hf : ∀ j,f (ow j) = some (ow' j)) : ∀ {c : PV} {u : Value},RelV w g ow c u -> RelV w (g.relab f) ow' c u := by
 intro c u hr
 cases c with
 | bag vs =>
  obtain ⟨us,h1,h2,h3⟩ := hr
  exact ⟨us,h1,h2,fun j c v hc hv => (h3 j c v hc hv).relab (hf (j + 1))⟩
 | tup vs =>
  obtain ⟨us,h1,h2,h3⟩ := hr
  exact ⟨us,h1,h2,fun j c v hc hv => (h3 j c v hc hv).relab (hf (j + 1))⟩
 | own ex k xs => exact RelR.relab (w := w) (c := .own ex k xs) (hf 0) hr
 | agg cs => exact RelR.relab (w := w) (c := .agg cs) (hf 0) hr
 | dat d => exact RelR.relab (w := w) (c := .dat d) (hf 0) hr
 | ptr l off => exact RelR.relab (w := w) (c := .ptr l off) (hf 0) hr
 | iptr cs off => exact RelR.relab (w := w) (c := .iptr cs off) (hf 0) hr
 | clo f' cap => exact RelR.relab (w := w) (c := .clo f' cap) (hf 0) hr
 | dead => exact trivial
 | «alias» => exact hr.elim
 | eptr => exact hr.elim
theorem BoxRel.relab {w : World} {g : Gh} {b : Nat} {bx : Box} {f : Owner -> Option Owner} (h : BoxRel w g b bx) (h1 : f .box = some .box) (h2 : ∀ off,f (.cell b off) = some (.cell b off)) : BoxRel w (g.relab f) b bx :=
 h.kept (grows_relab g f) (kept_relab h.1 h1) fun off _ hb' => kept_relab hb' (h2 off)
def RelP (w : World) (g : Gh) (vals : Array Value) (s : St) : PV -> Value -> Prop
 | .alias p,u => placeVal w g vals p = some u /\ (s.at p).maySrc = true
 | .eptr p k r j,u => (∃ b o n c,placeVal w g vals p = some (.slice (some ⟨b,o,none⟩) n c) /\ u = .pointer (some ⟨b,o + (r * k + j),none⟩)) /\ (s.at p).maySrc = true
 | c,u => RelV w g .res c u
theorem PV.strip_of {q : Place -> Bool} : ∀ {c : PV},aliasOf c = none -> PV.strip q c = c := by
 intro c h; cases c <;> first | rfl | cases h
theorem maySrc_strip_of {q : Place -> Bool} {c : PV} (h : c.maySrc = true) : PV.strip q c = c := by
 cases c <;> first | rfl | cases h
theorem alias_strip {q : Place -> Bool} {c : PV} {p : Place} (h : aliasOf (PV.strip q c) = some p) : aliasOf c = some p /\ q p = false := by
 cases c with
 | «alias» p' =>
  simp only [PV.strip] at h
  cases hq : q p' with
  | true => simp [hq,aliasOf] at h
  | false => simp [hq,aliasOf] at h; subst h; exact ⟨rfl,hq⟩
 | eptr p' k r j =>
  simp only [PV.strip] at h
  cases hq : q p' with
  | true => simp [hq,aliasOf] at h
  | false => simp [hq,aliasOf] at h; subst h; exact ⟨rfl,hq⟩
 | _ => cases h
theorem strip_self {t : Nat} {c : PV} (h : aliasOf c = some (.tmp t)) : PV.strip (isTmp t) c = .dead := by
 cases c with
 | «alias» p => simp only [aliasOf,sjE] at h; subst h; simp [PV.strip,isTmp]
 | eptr p k r j => simp only [aliasOf,sjE] at h; subst h; simp [PV.strip,isTmp]
 | _ => cases h
theorem strip_other {t : Nat} {c : PV} {p : Place} (h : aliasOf c = some p) (hp : p ≠ .tmp t) : PV.strip (isTmp t) c = c := by
 have hq : isTmp t p = false := by
  cases p with
  | cell => rfl
  | tmp i' => simp only [isTmp,beq_eq_false_iff_ne]; exact fun e => hp (by rw [e])
 cases c with
 | «alias» p' => simp only [aliasOf,sjE] at h; subst h; simp [PV.strip,hq]
 | eptr p' k r j => simp only [aliasOf,sjE] at h; subst h; simp [PV.strip,hq]
 | _ => cases h
theorem RelT.relab {w : World} {g : Gh} {vals vals' : Array Value} {d i : Nat} {f : Owner -> Option Owner} (hf : ∀ j,f (.tmp d i j) = some (.tmp d i j)) {c : PV} {u : Value}
  (hp : ∀ p,aliasOf c = some p -> placeVal w (g.relab f) vals' p = placeVal w g vals p) (h : RelT w g vals d i c u) : RelT w (g.relab f) vals' d i c u := by
 cases c with
 | «alias» p => exact (hp p rfl).trans h
 | eptr p k r j => obtain ⟨b,o,n,c,h1,h2⟩ := h; exact ⟨b,o,n,c,(hp p rfl).trans h1,h2⟩
 | own ex k xs => exact RelV.relab (w := w) (c := .own ex k xs) hf h
 | agg cs => exact RelV.relab (w := w) (c := .agg cs) hf h
 | dat d => exact RelV.relab (w := w) (c := .dat d) hf h
 | ptr l off => exact RelV.relab (w := w) (c := .ptr l off) hf h
 | iptr cs off => exact RelV.relab (w := w) (c := .iptr cs off) hf h
 | clo f' cap => exact RelV.relab (w := w) (c := .clo f' cap) hf h
 | dead => exact trivial
 | bag vs => exact RelV.relab (w := w) (c := .bag vs) hf h
 | tup vs => exact RelV.relab (w := w) (c := .tup vs) hf h
def putVals (vals : Array Value) (dst : Option Tmp) (v : Value) : Array Value :=
 match dst with
 | some d => vals.setIfInBounds d v
 | none => vals
def labOf (d : Nat) (dst : Option Tmp) : Owner -> Option Owner
 | .res j => dst.map fun t => .tmp d t j
 | o => some o
theorem put_sound {base : Nat} {w0 w : World} {g : Gh} {d : Nat} {s : St} {vals : Array Value} (hi : Inv base w0 w g d s vals) {pv : PV} {v : Value} (hr : RelP w g vals s pv v) (dst : Option Tmp) :
  Inv base w0 w (g.relab (labOf d dst)) d (put s dst pv) (putVals vals dst v) /\ Stp d s (put s dst pv) w w g (g.relab (labOf d dst)) /\ Clean (g.relab (labOf d dst)) := by
 have hown : ∀ b o,(g.relab (labOf d dst)).own b = some o -> (∃ o',g.own b = some o' /\ labOf d dst o' = some o) := by
  intro b o h
  simp only [Gh.relab] at h
  cases hb : g.own b with
  | none => rw [hb] at h; cases h
  | some o' => rw [hb] at h; exact ⟨o',rfl,h⟩
 have hclean : Clean (g.relab (labOf d dst)) := by
  intro b j h
  obtain ⟨o',_,h2⟩ := hown b _ h
  cases o' with
  | res j' => simp only [labOf] at h2; cases dst <;> cases h2
  | box => cases h2
  | cell => cases h2
  | tmp => cases h2
 have hstp : Stp d s (put s dst pv) w w g (g.relab (labOf d dst)) := by
  refine ⟨grows_relab _ _,?_,?_,fun b d' i j hb _ => kept_relab hb rfl,?_,?_,?_,fun _ => kpl_same (by cases dst <;> rfl)⟩
  ·cases dst <;> rfl
  ·cases dst <;> exact Nat.le_refl _
  ·cases dst <;> exact fun _ h => h
  ·intro l _ _
   refine ⟨by cases dst <;> rfl,fun b hb => ⟨?_,fun off b' hb' => kept_relab hb' rfl⟩⟩
   have hlt : l < s.bx.length := by
    rw [<- hi.blen]; exact (gsi.1 hb).1
   exact kept_relab (hi.boxes l b _ hb (gge hlt)).1 rfl
  ·cases dst <;> exact fun h => h
 refine ⟨?_,hstp,hclean⟩
 have hboxes : ∀ (l b : Nat) bx,g.blk[l]? = some b -> s.bx[l]? = some bx -> BoxRel w (g.relab (labOf d dst)) b bx := fun l b bx h1 h2 =>
  (hi.boxes l b bx h1 h2).relab rfl fun _ => rfl
 have own_ge : ∀ b o,(g.relab (labOf d dst)).own b = some o -> base <= b := fun b o h => by
  obtain ⟨o',h1,_⟩ := hown b o h; exact hi.own_ge b o' h1
 have own_lt : ∀ b o,(g.relab (labOf d dst)).own b = some o -> b < w.heap.size := fun b o h => by
  obtain ⟨o',h1,_⟩ := hown b o h; exact hi.own_lt b o' h1
 have own_d : ∀ b d' i j,(g.relab (labOf d dst)).own b = some (.tmp d' i j) -> d' <= d := by
  intro b d' i j h
  obtain ⟨o',h1,h2⟩ := hown b _ h
  cases o' with
  | res j' =>
   simp only [labOf] at h2
   cases dst with
   | none => cases h2
   | some t => cases h2; exact Nat.le_refl _
  | tmp d'' i' j' => cases h2; exact hi.own_d b _ _ _ h1
  | box => cases h2
  | cell => cases h2
 cases dst with
 | none =>
  refine ⟨hi.low,hi.hb,hi.mem,own_ge,own_lt,own_d,hi.blen,hi.nodup,hi.nbl,hboxes,hi.tl,fun i c u hc hu => ?_,hi.al⟩
  exact (hi.tmps i c u hc hu).relab (f := labOf d none) (fun _ => rfl) fun p _ => by cases p <;> rfl
 | some t =>
  simp only [put,putVals]
  generalize hB : (s.ts.getD t PV.dead).maySrc = B
  have hlen : (if B = true then s.ts.map (PV.strip (isTmp t)) else s.ts).length = s.ts.length := by cases B <;> simp
  have hat : ∀ p,p ≠ .tmp t -> (s.at p).maySrc = true -> (St.at { s with ts := (if B = true then s.ts.map (PV.strip (isTmp t)) else s.ts).set t (PV.strip (isTmp t) pv) } p).maySrc = true := by
   intro p hp hm
   cases p with
   | cell l off => exact hm
   | tmp i =>
    have hne : t ≠ i := fun e => hp (by rw [e])
    simp only [St.at,List.getD,List.getElem?_set,if_neg hne] at hm ⊢
    cases B with
    | false => exact hm
    | true =>
     simp only [if_true,List.getElem?_map]
     cases hc : s.ts[i]? with
     | none => rfl
     | some c =>
      rw [hc] at hm
      simp only [Option.map_some,Option.getD_some] at hm ⊢
      rw [maySrc_strip_of hm]; exact hm
  have hpv : ∀ p,p ≠ .tmp t -> placeVal w (g.relab (labOf d (some t))) (vals.setIfInBounds t v) p = placeVal w g vals p := by
   intro p hp
   cases p with
   | cell l off => rfl
   | tmp i =>
    have hne : t ≠ i := fun e => hp (by rw [e])
    simp only [placeVal,Array.getElem?_setIfInBounds,if_neg hne]
  refine ⟨hi.low,hi.hb,hi.mem,own_ge,own_lt,own_d,hi.blen,hi.nodup,hi.nbl,hboxes,by simp only [Array.size_setIfInBounds,lls,hlen]; exact hi.tl,?_,?_⟩
  ·intro i c u hc hu
   simp only [List.getElem?_set,hlen] at hc
   rw [Array.getElem?_setIfInBounds] at hu
   by_cases hti : t = i
   ·subst hti
    simp only [if_true] at hc
    split at hc
    ·rename_i hlt
     obtain rfl := sij hc
     rw [if_pos rfl,if_pos (by rw [hi.tl]; exact hlt)] at hu
     obtain rfl := sij hu
     cases pv with
     | «alias» p =>
      simp only [PV.strip]
      split
      ·exact trivial
      ·rename_i hq
       have hne : p ≠ .tmp t := fun e => hq (by rw [e]; simp [isTmp])
       exact (hpv p hne).trans hr.1
     | eptr p k r j =>
      simp only [PV.strip]
      split
      ·exact trivial
      ·rename_i hq
       have hne : p ≠ .tmp t := fun e => hq (by rw [e]; simp [isTmp])
       obtain ⟨b,o,n,c,h1,h2⟩ := hr.1
       exact ⟨b,o,n,c,(hpv p hne).trans h1,h2⟩
     | own ex k xs => exact RelV.relab (w := w) (c := .own ex k xs) (ow := .res) (ow' := fun j => .tmp d t j) (f := labOf d (some t)) (fun _ => rfl) hr
     | agg cs => exact RelV.relab (w := w) (c := .agg cs) (ow := .res) (ow' := fun j => .tmp d t j) (f := labOf d (some t)) (fun _ => rfl) hr
     | dat d' => exact RelV.relab (w := w) (c := .dat d') (ow := .res) (ow' := fun j => .tmp d t j) (f := labOf d (some t)) (fun _ => rfl) hr
     | ptr l off => exact RelV.relab (w := w) (c := .ptr l off) (ow := .res) (ow' := fun j => .tmp d t j) (f := labOf d (some t)) (fun _ => rfl) hr
     | iptr cs off => exact RelV.relab (w := w) (c := .iptr cs off) (ow := .res) (ow' := fun j => .tmp d t j) (f := labOf d (some t)) (fun _ => rfl) hr
     | clo f' cap => exact RelV.relab (w := w) (c := .clo f' cap) (ow := .res) (ow' := fun j => .tmp d t j) (f := labOf d (some t)) (fun _ => rfl) hr
     | dead => exact trivial
     | bag vs => exact RelV.relab (w := w) (c := .bag vs) (ow := .res) (ow' := fun j => .tmp d t j) (f := labOf d (some t)) (fun _ => rfl) hr
     | tup vs => exact RelV.relab (w := w) (c := .tup vs) (ow := .res) (ow' := fun j => .tmp d t j) (f := labOf d (some t)) (fun _ => rfl) hr
    ·cases hc
   ·rw [if_neg hti] at hc hu
    cases B with
    | false =>
     simp only [Bool.false_eq_true,if_false] at hc
     refine (hi.tmps i c u hc hu).relab (f := labOf d (some t)) (fun _ => rfl) fun p hp => hpv p ?_
     intro e
     have := hi.al i c p hc hp
     rw [e] at this
     simp only [St.at] at this
     rw [this] at hB; cases hB
    | true =>
     simp only [if_true,List.getElem?_map] at hc
     cases hc0 : s.ts[i]? with
     | none => rw [hc0] at hc; cases hc
     | some c0 =>
      rw [hc0] at hc
      obtain rfl := sij hc
      have h0 := hi.tmps i c0 u hc0 hu
      cases hal : aliasOf c0 with
      | none =>
       rw [PV.strip_of hal]
       exact h0.relab (f := labOf d (some t)) (fun _ => rfl) fun p hp => by rw [hal] at hp; cases hp
      | some p =>
       by_cases hpe : p = .tmp t
       ·subst hpe
        rw [strip_self hal]; exact trivial
       ·have hst : PV.strip (isTmp t) c0 = c0 := strip_other hal hpe
        rw [hst]
        exact h0.relab (f := labOf d (some t)) (fun _ => rfl) fun p' hp' => by rw [hal] at hp'; obtain rfl := sij hp'; exact hpv p hpe
  ·intro i c p hc hp
   simp only [List.getElem?_set,hlen] at hc
   by_cases hti : t = i
   ·subst hti
    simp only [if_true] at hc
    split at hc
    ·obtain rfl := sij hc
     obtain ⟨h1,h2⟩ := alias_strip hp
     have hne : p ≠ .tmp t := fun e => by rw [e] at h2; simp [isTmp] at h2
     refine hat p hne ?_
     cases pv <;> simp only [aliasOf] at h1 <;> first | (cases h1; exact hr.2) | cases h1
    ·cases hc
   ·rw [if_neg hti] at hc
    have key : ∀ c0,s.ts[i]? = some c0 -> aliasOf c0 = some p -> p ≠ .tmp t -> (St.at { s with ts := (if B = true then s.ts.map (PV.strip (isTmp t)) else s.ts).set t (PV.strip (isTmp t) pv) } p).maySrc = true :=
     fun c0 h0 h1 h2 => hat p h2 (hi.al i c0 p h0 h1)
    cases B with
    | false =>
     simp only [Bool.false_eq_true,if_false] at hc
     refine key c hc hp fun e => ?_
     have := hi.al i c p hc hp
     rw [e] at this
     simp only [St.at] at this
     rw [this] at hB; cases hB
    | true =>
     simp only [if_true,List.getElem?_map] at hc
     cases hc0 : s.ts[i]? with
     | none => rw [hc0] at hc; cases hc
     | some c0 =>
      rw [hc0] at hc
      obtain rfl := sij hc
      obtain ⟨h1,h2⟩ := alias_strip hp
      exact key _ hc0 h1 fun e => by rw [e] at h2; simp [isTmp] at h2
end Go.Vx
namespace Go.Vx
open Go Go.RowKit
def OwnerAt (g : Gh) (d : Nat) (p : Place) (o : Owner) : Prop :=
 match p with
 | .tmp t => o = .tmp d t 0
 | .cell l off => ∃ b,g.blk[l]? = some b /\ o = .cell b off
def AtRel (w : World) (g : Gh) (d : Nat) (p : Place) (c : PV) (u : Value) : Prop :=
 match p with
 | .tmp t => RelV w g (fun j => .tmp d t j) c u
 | .cell l off => ∃ b,g.blk[l]? = some b /\ RelB w g b off c u
theorem getD_some {α : Type} {l : List α} {i : Nat} {x y : α} (h : l.getD i x = y) (hne : y ≠ x) : l[i]? = some y := by
 simp only [List.getD] at h
 cases hl : l[i]? with
 | none => rw [hl] at h; exact absurd h.symm hne
 | some z => rw [hl] at h; simp only [Option.getD_some] at h; rw [h]
theorem at_cell {s : St} {l off : Nat} {c : PV} (h : s.at (.cell l off) = c) (hne : c ≠ .dead) : ∃ bx,s.bx[l]? = some bx /\ bx[off]? = some c := by
 simp only [St.at] at h
 cases hb : s.bx[l]? with
 | none => rw [hb] at h; simp [List.getD] at h; exact absurd h.symm hne
 | some bx => rw [hb] at h; exact ⟨bx,rfl,getD_some h hne⟩
theorem cell_of_heap {w : World} {b j : Nat} {cs : Array Value} {T : TypeId} {fr : Nat × Nat} (h : w.heap[b]? = some (.cells cs T fr)) : w.cell? ⟨b,j,none⟩ = cs[j]? := by
 simp [World.cell?,h]
section
variable {base : Nat} {w0 w : World} {g : Gh} {d : Nat} {s : St} {vals : Array Value}
theorem at_rel (hi : Inv base w0 w g d s vals) {p : Place} {ex : Bool} {k : Nat} {xs : List (List D)} (hp : s.at p = .own ex k xs) :
  ∃ o u,OwnerAt g d p o /\ placeVal w g vals p = some u /\ OwnRel w g o ex k xs u := by
 cases p with
 | tmp t =>
  have h := getD_some hp (by intro e; cases e)
  have hlt : t < vals.size := by rw [hi.tl]; exact (gsi.1 h).1
  exact ⟨_,vals[t],rfl,agg hlt,hi.tmps t _ _ h (agg hlt)⟩
 | cell l off =>
  obtain ⟨bx,h1,h2⟩ := at_cell hp (by intro e; cases e)
  have hlt : l < g.blk.length := by rw [hi.blen]; exact (gsi.1 h1).1
  have hb : g.blk[l]? = some g.blk[l] := gge hlt
  obtain ⟨q1,q2,cs,T,q3,q4,q5⟩ := hi.boxes l _ bx hb h1
  have hj : off < cs.size := by rw [q4]; exact (gsi.1 h2).1
  have hc : cs[off]? = some cs[off] := agg hj
  refine ⟨.cell g.blk[l] off,cs[off],⟨_,hb,rfl⟩,?_,q5 off _ _ h2 hc⟩
  simp only [placeVal,hb,Option.bind_some,cell_of_heap q3,hc]
theorem at_mark {p p' : Place} {c : PV} (h : (s.at p').maySrc = true) (hc : c.maySrc = true) : ((s.mark p c).at p').maySrc = true := by
 cases p with
 | tmp t =>
  cases p' with
  | cell => exact h
  | tmp t' =>
   simp only [St.mark,St.at,List.getD,List.getElem?_set] at h ⊢
   by_cases e : t = t'
   ·subst e
    rw [if_pos rfl]
    by_cases hlt : t < s.ts.length
    ·rw [if_pos hlt]; exact hc
    ·rw [if_neg hlt]; rfl
   ·rw [if_neg e]; exact h
 | cell l off =>
  have key : (St.at { s with bx := s.bx.set l (((s.bx[l]?).getD []).set off c) } p').maySrc = true := by
   cases p' with
   | tmp t' => exact h
   | cell l' off' =>
    simp only [St.at,List.getElem?_set] at h ⊢
    by_cases e : l = l'
    ·subst e
     rw [if_pos rfl]
     by_cases hlt : l < s.bx.length
     ·rw [if_pos hlt]
      simp only [Option.getD_some,List.getD,List.getElem?_set] at h ⊢
      by_cases e2 : off = off'
      ·subst e2
       rw [if_pos rfl]
       split
       ·exact hc
       ·rfl
      ·rw [if_neg e2]; exact h
     ·rw [if_neg hlt]; simp [List.getD]; rfl
    ·rw [if_neg e]; exact h
  simp only [St.mark,touch]
  split
  ·exact key
  ·exact key
theorem touch_bx (s : St) (l : Nat) : (touch s l).bx = s.bx := by unfold touch; split <;> rfl
theorem touch_ts (s : St) (l : Nat) : (touch s l).ts = s.ts := by unfold touch; split <;> rfl
theorem touch_nb (s : St) (l : Nat) : (touch s l).nb = s.nb := by unfold touch; split <;> rfl
theorem touch_kp (s : St) (l : Nat) : (touch s l).kp = s.kp := by unfold touch; split <;> rfl
theorem touch_lo (s : St) (l : Nat) : ∀ l',below l' (touch s l).lo -> below l' s.lo := by
 intro l' h
 unfold touch at h
 split at h
 ·cases hs : s.lo with
  | none => trivial
  | some m => rw [hs] at h; simp only [below] at h ⊢; omega
 ·exact h
theorem touch_ne (s : St) (l : Nat) (hl : l < s.nb) : ∀ l',below l' (touch s l).lo -> l' < l := by
 intro l' h
 unfold touch at h
 rw [if_pos hl] at h
 cases hs : s.lo with
 | none => rw [hs] at h; exact h
 | some m => rw [hs] at h; simp only [below] at h; omega
theorem markW_sound (hi : Inv base w0 w g d s vals) {w' : World} {g' : Gh} {p : Place} {o : Owner} {c : PV} {u : Value} (ho : OwnerAt g d p o) (hu : placeVal w g vals p = some u)
  (hlow : Below base w0 w') (hsz : w.heap.size <= w'.heap.size)
  (hb : g'.blk = g.blk) (hbt : g'.bt = g.bt) (hm : ∀ a v,g.m a = some v -> g'.m a = some v) (hmem : ∀ a v,g'.m a = some v -> w'.cell? a = some v)
  (hk : ∀ b o',g.own b = some o' -> o' ≠ o -> Kept w w' g g' b)
  (hown : ∀ b o',g'.own b = some o' -> ∃ o'',g.own b = some o'' /\ (o'' = o' ∨ ∀ d' i j,o' ≠ .tmp d' i j))
  (hc : c.maySrc = true) (hr : AtRel w' g' d p c u) :
  Inv base w0 w' g' d (s.mark p c) vals /\ Stp d s (s.mark p c) w w' g g' := by
 have hg : Grows g g' := ⟨hm,fun l b h => by rw [hb]; exact h,hbt⟩
 have hob : o ≠ .box := by
  cases p with
  | tmp t => obtain rfl := ho; intro e; cases e
  | cell l off => obtain ⟨b,_,rfl⟩ := ho; intro e; cases e
 have hpv : ∀ q v,placeVal w g vals q = some v -> placeVal w' g' vals q = some v := by
  intro q v h
  cases q with
  | tmp => exact h
  | cell l off =>
   simp only [placeVal,hb] at h ⊢
   cases hb' : g.blk[l]? with
   | none => rw [hb'] at h; cases h
   | some b =>
    rw [hb'] at h
    have hlt : l < s.bx.length := by rw [<- hi.blen]; exact (gsi.1 hb').1
    have hk' := hk b _ (hi.boxes l b _ hb' (gge hlt)).1 (Ne.symm hob)
    simp only [Option.bind_some] at h ⊢
    rw [World.cell?_of_block (w := w) hk'.1]
    exact h
 have own_ge : ∀ b o',g'.own b = some o' -> base <= b := fun b o' h => let ⟨o'',h1,_⟩ := hown b o' h; hi.own_ge b o'' h1
 have own_lt : ∀ b o',g'.own b = some o' -> b < w'.heap.size := fun b o' h => let ⟨o'',h1,_⟩ := hown b o' h; Nat.lt_of_lt_of_le (hi.own_lt b o'' h1) hsz
 have own_d : ∀ b d' i j,g'.own b = some (.tmp d' i j) -> d' <= d := by
  intro b d' i j h
  obtain ⟨o'',h1,h2⟩ := hown b _ h
  rcases h2 with h2 | h2
  ·exact hi.own_d b d' i j (by rw [h1,h2])
  ·exact absurd rfl (h2 d' i j)
 have tkeep : ∀ (i : Nat) x v,(∀ j,Owner.tmp d i j ≠ o) -> RelT w g vals d i x v -> RelT w' g' vals d i x v := by
  intro i x v hne h
  have kk : ∀ j b,g.own b = some (.tmp d i j) -> Kept w w' g g' b := fun j b hb' => hk b _ hb' (hne j)
  cases x with
  | «alias» q => exact hpv q v h
  | eptr q k r j => obtain ⟨b,o',n,c',h1,h2⟩ := h; exact ⟨b,o',n,c',hpv q _ h1,h2⟩
  | own ex k xs => exact RelV.kept (c := .own ex k xs) hg kk h
  | agg cs => exact RelV.kept (c := .agg cs) hg kk h
  | dat d' => exact RelV.kept (c := .dat d') hg kk h
  | ptr l off => exact RelV.kept (c := .ptr l off) hg kk h
  | iptr cs off => exact RelV.kept (c := .iptr cs off) hg kk h
  | clo f' cap => exact RelV.kept (c := .clo f' cap) hg kk h
  | dead => exact trivial
  | bag vs => exact RelV.kept (c := .bag vs) hg kk h
  | tup vs => exact RelV.kept (c := .tup vs) hg kk h
 cases p with
 | tmp t =>
  obtain rfl := ho
  have hboxes : ∀ (l b : Nat) bx,g.blk[l]? = some b -> s.bx[l]? = some bx -> BoxRel w' g' b bx := fun l b bx h1 h2 =>
   have h := hi.boxes l b bx h1 h2
   h.kept hg (hk b _ h.1 (by intro e; cases e)) fun off b' hb' => hk b' _ hb' (by intro e; cases e)
  refine ⟨⟨hlow,hi.hb,hmem,own_ge,own_lt,own_d,by rw [hb]; exact hi.blen,by rw [hb]; exact hi.nodup,hi.nbl,fun l b bx h1 h2 => hboxes l b bx (by rw [<- hb]; exact h1) h2,?_,?_,?_⟩,
   ⟨hg,rfl,Nat.le_refl _,fun b d' i j hb' hd => hk b _ hb' (by intro e; cases e; omega),fun _ h => h,?_,fun h => h,fun _ => kpl_same rfl⟩⟩
  ·simp only [St.mark,lls]; exact hi.tl
  ·intro i x v hx hv
   simp only [St.mark,List.getElem?_set] at hx
   by_cases e : t = i
   ·subst e
    rw [if_pos rfl] at hx
    split at hx
    ·obtain rfl := sij hx
     simp only [placeVal] at hu
     rw [hu] at hv
     obtain rfl := sij hv
     cases c with
     | own ex k xs => exact hr
     | dead => exact trivial
     | _ => cases hc
    ·cases hx
   ·rw [if_neg e] at hx
    exact tkeep i x v (fun j e' => e (by cases e'; rfl)) (hi.tmps i x v hx hv)
  ·intro i x q hx hq
   refine at_mark ?_ hc
   simp only [St.mark,List.getElem?_set] at hx
   by_cases e : t = i
   ·subst e
    rw [if_pos rfl] at hx
    split at hx
    ·obtain rfl := sij hx
     cases c <;> first | (simp [PV.maySrc] at hc; done) | (simp [aliasOf] at hq; done)
    ·cases hx
   ·rw [if_neg e] at hx
    exact hi.al i x q hx hq
  ·intro l hl _
   refine ⟨rfl,fun b hgb => ⟨?_,fun off b' hb' => hk b' _ hb' (by intro e; cases e)⟩⟩
   have hlt : l < s.bx.length := by rw [<- hi.blen]; exact (gsi.1 hgb).1
   exact hk b _ (hi.boxes l b _ hgb (gge hlt)).1 (by intro e; cases e)
 | cell l0 off0 =>
  obtain ⟨b0,hb0,rfl⟩ := ho
  have hl0 : l0 < s.bx.length := by rw [<- hi.blen]; exact (gsi.1 hb0).1
  have hbx0 : s.bx[l0]? = some s.bx[l0] := gge hl0
  have huniq : ∀ l,g.blk[l]? = some b0 -> l = l0 := by
   intro l h
   obtain ⟨p1,p2⟩ := gsi.1 h
   obtain ⟨q1,q2⟩ := gsi.1 hb0
   exact (List.getElem_inj hi.nodup).1 (p2.trans q2.symm)
  have hmb : (s.mark (.cell l0 off0) c).bx = s.bx.set l0 (s.bx[l0].set off0 c) := by
   simp only [St.mark,touch_bx,hbx0,Option.getD_some]
  have hmt : (s.mark (.cell l0 off0) c).ts = s.ts := by simp only [St.mark,touch_ts]
  have hmn : (s.mark (.cell l0 off0) c).nb = s.nb := by simp only [St.mark,touch_nb]
  have hmk : (s.mark (.cell l0 off0) c).kp = s.kp := by simp only [St.mark,touch_kp]
  have hbl : ∀ (l b : Nat) bx,g.blk[l]? = some b -> s.bx[l]? = some bx -> l ≠ l0 -> BoxRel w' g' b bx := by
   intro l b bx h1 h2 hne
   have h := hi.boxes l b bx h1 h2
   have hbne : b ≠ b0 := fun e => hne (huniq l (by rw [<- e]; exact h1))
   exact h.kept hg (hk b _ h.1 (by intro e; cases e)) fun off b' hb' => hk b' _ hb' (by intro e; cases e; exact hbne rfl)
  refine ⟨⟨hlow,hi.hb,hmem,own_ge,own_lt,own_d,?_,by rw [hb]; exact hi.nodup,?_,?_,by rw [hmt]; exact hi.tl,?_,?_⟩,⟨hg,hmn,?_,fun b d' i j hb' hd => hk b _ hb' (by intro e; cases e),?_,?_,fun h => by rw [hmk]; exact h,?_⟩⟩
  ·rw [hb,hmb,lls]; exact hi.blen
  ·rw [hmn,hmb,lls]; exact hi.nbl
  ·intro l b bx h1 h2
   rw [hb] at h1
   rw [hmb,List.getElem?_set] at h2
   by_cases e : l0 = l
   ·subst e
    rw [if_pos rfl,if_pos hl0] at h2
    obtain rfl := sij h2
    rw [hb0] at h1
    obtain rfl := sij h1
    obtain ⟨q1,q2,cs,T,q3,q4,q5⟩ := hi.boxes l0 b0 _ hb0 hbx0
    have kb := hk b0 _ q1 (by intro e; cases e)
    refine ⟨by rw [kb.2.1]; exact q1,fun j => by rw [kb.2.2]; exact q2 j,cs,T,by rw [kb.1]; exact q3,by rw [lls]; exact q4,fun j x v hx hv => ?_⟩
    rw [List.getElem?_set] at hx
    by_cases ej : off0 = j
    ·subst ej
     rw [if_pos rfl] at hx
     split at hx
     ·obtain rfl := sij hx
      simp only [placeVal,hb0,Option.bind_some,cell_of_heap q3] at hu
      rw [hu] at hv
      obtain rfl := sij hv
      obtain ⟨b1,hb1,hr1⟩ := hr
      rw [hb,hb0] at hb1
      obtain rfl := sij hb1
      exact hr1
     ·cases hx
    ·rw [if_neg ej] at hx
     exact (q5 j x v hx hv).kept hg (fun b' hb' => hk b' _ hb' (by intro e; cases e; exact ej rfl)) fun T ht => ht.kept kb
   ·rw [if_neg e] at h2
    exact hbl l b bx h1 h2 fun e' => e e'.symm
  ·intro i x v hx hv
   rw [hmt] at hx
   exact tkeep i x v (fun j e => by cases e) (hi.tmps i x v hx hv)
  ·intro i x q hx hq
   rw [hmt] at hx
   exact at_mark (hi.al i x q hx hq) hc
  ·rw [hmb,lls]; exact Nat.le_refl _
  ·exact touch_lo _ l0
  ·intro l hl hbel
   have hne : l ≠ l0 := by
    intro e
    subst e
    have := touch_ne { s with bx := s.bx.set l (((s.bx[l]?).getD []).set off0 c) } l hl l hbel
    omega
   refine ⟨by rw [hmb,List.getElem?_set,if_neg (Ne.symm hne)],fun b hgb => ⟨?_,fun off b' hb' => hk b' _ hb' ?_⟩⟩
   ·have hlt : l < s.bx.length := by rw [<- hi.blen]; exact (gsi.1 hgb).1
    exact hk b _ (hi.boxes l b _ hgb (gge hlt)).1 (by intro e; cases e)
   ·intro e
    cases e
    exact hne (huniq l hgb)
  ·intro _ n l bx bx' hl h1 h2 hbx x hx
   rw [hmb,List.getElem?_set] at hbx
   by_cases e : l0 = l
   ·subst e
    rw [if_pos rfl,if_pos hl0] at hbx
    obtain rfl := sij hbx
    rw [hbx0] at h1
    obtain rfl := sij h1
    rcases List.mem_or_eq_of_mem_set hx with h | h
    ·exact h2 x h
    ·subst h
     cases x <;> first | exact trivial | cases hc
   ·rw [if_neg e,h1] at hbx
    obtain rfl := sij hbx
    exact h2 x hx
theorem mark_sound (hi : Inv base w0 w g d s vals) {g' : Gh} {p : Place} {o : Owner} {c : PV} {u : Value} (ho : OwnerAt g d p o) (hu : placeVal w g vals p = some u)
  (hb : g'.blk = g.blk) (hbt : g'.bt = g.bt) (hm : ∀ a v,g.m a = some v -> g'.m a = some v) (hmem : ∀ a v,g'.m a = some v -> w.cell? a = some v)
  (hk : ∀ b o',g.own b = some o' -> o' ≠ o -> Kept w w g g' b)
  (hown : ∀ b o',g'.own b = some o' -> ∃ o'',g.own b = some o'' /\ (o'' = o' ∨ ∀ d' i j,o' ≠ .tmp d' i j))
  (hc : c.maySrc = true) (hr : AtRel w g' d p c u) :
  Inv base w0 w g' d (s.mark p c) vals /\ Stp d s (s.mark p c) w w g g' :=
 markW_sound hi ho hu hi.low (Nat.le_refl _) hb hbt hm hmem hk hown hc hr
end
end Go.Vx
namespace Go.Vx
open Go Go.RowKit
def GlobOk (cfg : Cfg) (g : Gh) : Prop :=
 (∀ gl cs,cfg.glob gl = some cs -> ∃ us : Nat -> Value,∀ j d,cs[j]? = some d -> g.m ⟨gl,j,none⟩ = some (us j) /\ RelD g.m d (us j)) /\ g.bt = cfg.byteT
theorem GlobOk.grows {cfg : Cfg} {g g' : Gh} (h : GlobOk cfg g) (hg : Grows g g') : GlobOk cfg g' := ⟨fun gl cs hc =>
 let ⟨us,hu⟩ := h.1 gl cs hc
 ⟨us,fun j d hd => ⟨hg.m _ _ (hu j d hd).1,(hu j d hd).2.mono hg.m⟩⟩,hg.bt.trans h.2⟩
def moveLab (o o' : Owner) : Owner -> Option Owner := fun x => if x = o then some o' else some x
theorem relab_own {g : Gh} {f : Owner -> Option Owner} {b : Nat} {o : Owner} (h : (g.relab f).own b = some o) : ∃ o',g.own b = some o' /\ f o' = some o := by
 simp only [Gh.relab] at h
 cases hb : g.own b with
 | none => rw [hb] at h; cases h
 | some o' => rw [hb] at h; exact ⟨o',rfl,h⟩
def Gh.share (g : Gh) (w : World) (b off n : Nat) : Gh :=
 { g with m := fun a => if a.block = b /\ a.spot = none /\ off <= a.off /\ a.off < off + n then w.cell? a else g.m a }
theorem share_in (g : Gh) (w : World) (b off n j : Nat) (h1 : off <= j) (h2 : j < off + n) : (g.share w b off n).m ⟨b,j,none⟩ = w.cell? ⟨b,j,none⟩ :=
 if_pos ⟨rfl,rfl,h1,h2⟩
theorem share_out (g : Gh) (w : World) (b off n : Nat) (a : Addr) (h : ¬ (a.block = b /\ a.spot = none /\ off <= a.off /\ a.off < off + n)) : (g.share w b off n).m a = g.m a :=
 if_neg h
section
variable {base : Nat} {w0 w : World} {g : Gh} {d : Nat} {s : St} {vals : Array Value}
theorem dead_sound (hi : Inv base w0 w g d s vals) {p : Place} {ex : Bool} {k : Nat} {xs : List (List D)} (hp : s.at p = .own ex k xs) :
  ∃ g' u,placeVal w g vals p = some u /\ Inv base w0 w g' d (s.mark p .dead) vals /\ Stp d s (s.mark p .dead) w w g g' /\ OwnRel w g' (.res 0) ex k xs u := by
 obtain ⟨o,u,h1,h2,h3⟩ := at_rel hi hp
 refine ⟨g.relab (moveLab o (.res 0)),u,h2,?_⟩
 have hf : moveLab o (.res 0) o = some (.res 0) := by simp [moveLab]
 have hm := mark_sound (g' := g.relab (moveLab o (.res 0))) (c := .dead) hi h1 h2 rfl rfl (fun _ _ h => h) hi.mem
  (fun b o' hb hne => kept_relab hb (by simp [moveLab,hne])) (fun b o' hb => by
   obtain ⟨o'',e1,e2⟩ := relab_own hb
   refine ⟨o'',e1,?_⟩
   unfold moveLab at e2
   split at e2
   ·cases e2; exact .inr (fun _ _ _ e => by cases e)
   ·cases e2; exact .inl rfl) rfl (by
   cases p with
   | tmp => exact trivial
   | cell l off => obtain ⟨b,hb,_⟩ := h1; exact ⟨b,hb,trivial⟩)
 exact ⟨hm.1,hm.2,h3.relab hf⟩
theorem flatten_len {k : Nat} : ∀ {xs : List (List D)},(∀ x ∈ xs,x.length = k) -> xs.flatten.length = xs.length * k
 | [],_ => by simp
 | x :: xs,h => by
  rw [List.flatten_cons,List.length_append,flatten_len (fun y hy => h y (mcm _ hy)),h x (mcs ..),List.length_cons,Nat.add_mul,Nat.one_mul,Nat.add_comm]
theorem relD_of_cells {m : Addr -> Option Value} {k : Nat} {xs : List (List D)} {b off c : Nat} (h1 : xs.length <= c) (h2 : ∀ x ∈ xs,x.length = k) (us : Nat -> Value)
  (h3 : ∀ j d,xs.flatten[j]? = some d -> m ⟨b,off + j,none⟩ = some (us j) /\ RelD m d (us j)) : RelD m (.sl k xs) (.slice (some ⟨b,off,none⟩) xs.length c) :=
 .sl k xs b off c us h1 h2 (fun j d hd => (h3 j d hd).1) fun j d hd => (h3 j d hd).2
theorem own_shared {o : Owner} {k : Nat} {xs : List (List D)} {u : Value} (h : OwnRel w g o false k xs u) : RelD g.m (.sl (ksz k) xs) u := by
 obtain ⟨b,off,c,cs,T,h1,h2,h3,h4,h5,h6,h7,h8,h9,h10,h11⟩ := h
 subst h1
 refine relD_of_cells h4 h8 (fun j => (cs[off + j]?).getD undef) fun j d hd => ?_
 obtain ⟨v,hv,hr⟩ := h9 j d hd
 have hj := (gsi.1 hd).1
 rw [(h11 rfl).1 j hj,hv]
 exact ⟨rfl,hr⟩
theorem share_sound (hi : Inv base w0 w g d s vals) {p : Place} {k : Nat} {xs : List (List D)} (hp : s.at p = .own true k xs) :
  ∃ g' u,placeVal w g vals p = some u /\ Inv base w0 w g' d (s.mark p (.own false k xs)) vals /\ Stp d s (s.mark p (.own false k xs)) w w g g' /\ RelD g'.m (.sl (ksz k) xs) u /\ g'.own = g.own := by
 obtain ⟨o,u,h1,h2,h3⟩ := at_rel hi hp
 obtain ⟨b,off,c,cs,T,e1,e2,e3,e4,e5,e6,e7,e8,e9,e10,e11⟩ := h3
 have hlen := flatten_len e8
 have hcell : ∀ j,w.cell? ⟨b,j,none⟩ = cs[j]? := fun j => cell_of_heap e3
 have hm : ∀ a v,g.m a = some v -> (g.share w b off xs.flatten.length).m a = some v := by
  intro a v h
  by_cases hc : a.block = b /\ a.spot = none /\ off <= a.off /\ a.off < off + xs.flatten.length
  ·obtain ⟨c1,c2,_⟩ := hc
   have : g.m a = none := by
    have := e10 rfl a.off
    cases a with
    | mk ab ao asp => simp only at c1 c2; subst c1; subst c2; exact this
   rw [this] at h; cases h
  ·rw [share_out _ _ _ _ _ _ hc]; exact h
 have hg : Grows g (g.share w b off xs.flatten.length) := ⟨hm,fun _ _ h => h,rfl⟩
 have hin : ∀ j,j < xs.flatten.length -> (g.share w b off xs.flatten.length).m ⟨b,off + j,none⟩ = cs[off + j]? := by
  intro j hj
  rw [share_in _ _ _ _ _ _ (by omega) (by omega),hcell]
 have hout : ∀ j,off + xs.flatten.length <= j -> (g.share w b off xs.flatten.length).m ⟨b,j,none⟩ = none := by
  intro j hj
  rw [share_out _ _ _ _ _ _ (by rintro ⟨_,_,q1,q2⟩; simp only at q2; omega)]
  exact e10 rfl j
 have hown : OwnRel w (g.share w b off xs.flatten.length) o false k xs u :=
  ⟨b,off,c,cs,T,e1,e2,e3,e4,e5,e6,e7,e8,fun j d hd => (e9 j d hd).imp fun v hv => ⟨hv.1,hv.2.mono hm⟩,(by intro h; cases h),fun _ => ⟨hin,hout⟩⟩
 refine ⟨g.share w b off xs.flatten.length,u,h2,?_⟩
 have hmk := mark_sound (g' := g.share w b off xs.flatten.length) (c := .own false k xs) hi h1 h2 rfl rfl hm ?_ ?_ (fun b' o' hb' => ⟨o',hb',.inl rfl⟩) rfl ?_
 ·exact ⟨hmk.1,hmk.2,own_shared hown,rfl⟩
 ·intro a v h
  by_cases hc : a.block = b /\ a.spot = none /\ off <= a.off /\ a.off < off + xs.flatten.length
  ·rw [Gh.share] at h
   simp only [if_pos hc] at h
   exact h
  ·rw [share_out _ _ _ _ _ _ hc] at h; exact hi.mem a v h
 ·intro b' o' hb' hne
  refine ⟨rfl,rfl,fun j => ?_⟩
  rw [share_out]
  rintro ⟨q,_⟩
  simp only at q
  subst q
  rw [e2] at hb'
  cases hb'
  exact hne rfl
 ·cases p with
  | tmp t => obtain rfl := h1; exact hown
  | cell l off' => obtain ⟨b',hb',rfl⟩ := h1; exact ⟨b',hb',hown⟩
theorem at_dat (hi : Inv base w0 w g d s vals) {p : Place} {x : D} (hp : s.at p = .dat x) : ∃ u,placeVal w g vals p = some u /\ RelC g (.dat x) u := by
 cases p with
 | tmp t =>
  have h := getD_some hp (by intro e; cases e)
  have hlt : t < vals.size := by rw [hi.tl]; exact (gsi.1 h).1
  exact ⟨vals[t],agg hlt,hi.tmps t _ _ h (agg hlt)⟩
 | cell l off =>
  obtain ⟨bx,h1,h2⟩ := at_cell hp (by intro e; cases e)
  have hlt : l < g.blk.length := by rw [hi.blen]; exact (gsi.1 h1).1
  have hb : g.blk[l]? = some g.blk[l] := gge hlt
  obtain ⟨q1,q2,cs,T,q3,q4,q5⟩ := hi.boxes l _ bx hb h1
  have hj : off < cs.size := by rw [q4]; exact (gsi.1 h2).1
  have hc : cs[off]? = some cs[off] := agg hj
  refine ⟨cs[off],?_,q5 off _ _ h2 hc⟩
  simp only [placeVal,hb,Option.bind_some,cell_of_heap q3,hc]
def RelA (g : Gh) : PV -> Value -> Prop
 | .agg cs,u => RelAgg g cs u
 | .dead,_ => False
 | c,u => RelC g c u
theorem RelA.grows {g g' : Gh} (h : Grows g g') : ∀ {c : PV} {u : Value},RelA g c u -> RelA g' c u := by
 intro c u hr
 cases c with
 | agg cs => exact RelAgg.grows h hr
 | dat d => exact RelC.grows h (c := .dat d) hr
 | ptr l off => exact RelC.grows h (c := .ptr l off) hr
 | iptr cs off => exact RelC.grows h (c := .iptr cs off) hr
 | clo f cap => exact RelC.grows h (c := .clo f cap) hr
 | _ => exact hr.elim
end
end Go.Vx
namespace Go.Vx
open Go Go.RowKit
section
variable {cfg : Cfg} {base : Nat} {w0 w : World} {g : Gh} {d : Nat} {s : St} {vals : Array Value}
theorem ofCell_rel (g : Gh) (v : Value) : RelC g (.dat (D.ofCell v)) v := by
 unfold D.ofCell
 split
 ·exact .nil none
 ·exact rfl
theorem ofValue_rel (g : Gh) (v : Value) : RelA g (PV.ofValue v) v := by
 unfold PV.ofValue
 split
 ·rename_i cs
  refine ⟨cs.toList,by simp,by simp,fun j c u hc hu => ?_⟩
  rw [List.getElem?_map] at hc
  rw [hu] at hc
  obtain rfl := sij hc
  exact ofCell_rel g u
 ·exact .nil none
 ·exact rfl
theorem val_tmp (hi : Inv base w0 w g d s vals) {a : Act} (ha : a.tmps = vals) {t : Nat} {c : PV} (h : s.ts.getD t .dead = c) (hne : c ≠ .dead) :
  s.ts[t]? = some c /\ vals[t]? = some (a.eval (.tmp t)) /\ RelT w g vals d t c (a.eval (.tmp t)) := by
 have h1 := getD_some h hne
 have hlt : t < vals.size := by rw [hi.tl]; exact (gsi.1 h1).1
 have h2 : vals[t]? = some (a.eval (.tmp t)) := by simp [Act.eval,ha,Array.getD,hlt]
 exact ⟨h1,h2,hi.tmps t c _ h1 h2⟩
theorem val_plain (hi : Inv base w0 w g d s vals) (hgl : GlobOk cfg g) {a : Act} (ha : a.tmps = vals) {x : Operand} {c : PV} (h : s.val cfg x = c)
  (h1 : c ≠ .dead) (h2 : ∀ ex k xs,c ≠ .own ex k xs) (h3 : aliasOf c = none) (h4 : c.held = false) : RelA g c (a.eval x) := by
 cases x with
 | tmp t =>
  obtain ⟨_,_,hr⟩ := val_tmp hi ha h h1
  cases c with
  | dat d' => exact hr
  | own ex k xs => exact absurd rfl (h2 ex k xs)
  | agg cs => exact hr
  | bag vs => cases h4
  | tup vs => cases h4
  | ptr l off => exact hr
  | iptr cs off => exact hr
  | clo f cap => exact hr
  | «alias» p => cases h3
  | eptr p k r j => cases h3
  | dead => exact absurd rfl h1
 | const v => simp only [St.val] at h; subst h; exact ofValue_rel g v
 | global gl =>
  simp only [St.val] at h
  split at h
  ·rename_i cs hcs
   subst h
   obtain ⟨us,hu⟩ := hgl.1 gl cs hcs
   exact ⟨gl,0,us,by simp [Act.eval],fun j d hd => by simpa using hu j d hd⟩
  ·exact absurd h.symm h1
 | func f =>
  simp only [St.val] at h
  subst h
  exact ⟨#[],rfl,rfl,fun j l hl => by simp at hl⟩
theorem takeAt_sound (hi : Inv base w0 w g d s vals) {p : Place} {pl : Pol} {pv : PV} {s1 : St} (h : takeAt s p pl (s.at p) = some (pv,s1)) :
  ∃ g1 u,placeVal w g vals p = some u /\ Inv base w0 w g1 d s1 vals /\ Stp d s s1 w w g g1 /\ RelP w g1 vals s1 pv u /\ (pl = .copy -> RelA g1 pv u) := by
 cases hc : s.at p with
 | own ex k xs =>
  rw [hc] at h
  cases pl with
  | «alias» =>
   simp only [takeAt,sjE,Prod.mk.injEq] at h
   obtain ⟨rfl,rfl⟩ := h
   obtain ⟨o,u,h1,h2,h3⟩ := at_rel hi hc
   exact ⟨g,u,h2,hi,Stp.refl d s w g,⟨h2,by rw [hc]; rfl⟩,by intro h; cases h⟩
  | take =>
   simp only [takeAt,sjE,Prod.mk.injEq] at h
   obtain ⟨rfl,rfl⟩ := h
   obtain ⟨g',u,h1,h2,h3,h4⟩ := dead_sound hi hc
   exact ⟨g',u,h1,h2,h3,h4,by intro h; cases h⟩
  | copy =>
   simp only [takeAt,sjE,Prod.mk.injEq] at h
   obtain ⟨rfl,rfl⟩ := h
   cases ex with
   | true =>
    obtain ⟨g',u,h1,h2,h3,h4,h5⟩ := share_sound hi hc
    exact ⟨g',u,h1,h2,h3,h4,fun _ => h4⟩
   | false =>
    obtain ⟨o,u,h1,h2,h3⟩ := at_rel hi hc
    have h4 := own_shared h3
    exact ⟨g,u,h2,hi,Stp.refl d s w g,h4,fun _ => h4⟩
 | dat x =>
  rw [hc] at h
  simp only [takeAt,sjE,Prod.mk.injEq] at h
  obtain ⟨rfl,rfl⟩ := h
  obtain ⟨u,h1,h2⟩ := at_dat hi hc
  exact ⟨g,u,h1,hi,Stp.refl d s w g,h2,fun _ => h2⟩
 | _ => rw [hc] at h; cases h
theorem relP_of_relA {c : PV} {u : Value} (h : RelA g c u) : RelP w g vals s c u := by
 cases c <;> first | exact h | exact h.elim
theorem fetch_sound (hi : Inv base w0 w g d s vals) (hgl : GlobOk cfg g) {pl : Pol} {x : Operand} {pv : PV} {s1 : St} (h : fetch cfg pl x s = some (pv,s1)) {a : Act} (ha : a.tmps = vals) :
  ∃ g1,Inv base w0 w g1 d s1 vals /\ Stp d s s1 w w g g1 /\ RelP w g1 vals s1 pv (a.eval x) /\ (pl = .copy -> RelA g1 pv (a.eval x)) := by
 unfold fetch at h
 split at h
 ·rename_i ex k xs hv
  split at h
  ·rename_i t
   simp only [St.val] at hv
   obtain ⟨_,h2,_⟩ := val_tmp hi ha hv (by intro e; cases e)
   have hat : s.at (.tmp t) = .own ex k xs := hv
   rw [<- hat] at h
   obtain ⟨g1,u,k1,k2,k3,k4,k5⟩ := takeAt_sound hi h
   simp only [placeVal,h2,sjE] at k1
   subst k1
   exact ⟨g1,k2,k3,k4,k5⟩
  ·cases h
 ·rename_i p hv
  have hx : ∃ t,x = .tmp t := by
   cases x with
   | tmp t => exact ⟨t,rfl⟩
   | const v => simp only [St.val,PV.ofValue] at hv; split at hv <;> cases hv
   | global gl => simp only [St.val] at hv; split at hv <;> cases hv
   | func f => simp only [St.val] at hv; cases hv
  obtain ⟨t,rfl⟩ := hx
  simp only [St.val] at hv
  obtain ⟨h1,h2,h3⟩ := val_tmp hi ha hv (by intro e; cases e)
  cases pl with
  | «alias» =>
   simp only [sjE,Prod.mk.injEq] at h
   obtain ⟨rfl,rfl⟩ := h
   exact ⟨g,hi,Stp.refl d s w g,⟨h3,hi.al t _ p h1 rfl⟩,by intro h; cases h⟩
  | take =>
   obtain ⟨g1,u,k1,k2,k3,k4,k5⟩ := takeAt_sound hi h
   have : some u = some (a.eval (.tmp t)) := k1.symm.trans h3
   obtain rfl := sij this
   exact ⟨g1,k2,k3,k4,k5⟩
  | copy =>
   obtain ⟨g1,u,k1,k2,k3,k4,k5⟩ := takeAt_sound hi h
   have : some u = some (a.eval (.tmp t)) := k1.symm.trans h3
   obtain rfl := sij this
   exact ⟨g1,k2,k3,k4,k5⟩
 ·rename_i p k i j hv
  have hx : ∃ t,x = .tmp t := by
   cases x with
   | tmp t => exact ⟨t,rfl⟩
   | const v => simp only [St.val,PV.ofValue] at hv; split at hv <;> cases hv
   | global gl => simp only [St.val] at hv; split at hv <;> cases hv
   | func f => simp only [St.val] at hv; cases hv
  obtain ⟨t,rfl⟩ := hx
  simp only [St.val] at hv
  obtain ⟨h1,h2,h3⟩ := val_tmp hi ha hv (by intro e; cases e)
  split at h
  ·cases h
  ·rename_i hpl
   simp only [sjE,Prod.mk.injEq] at h
   obtain ⟨rfl,rfl⟩ := h
   exact ⟨g,hi,Stp.refl d s w g,⟨h3,hi.al t _ p h1 rfl⟩,fun e => absurd e hpl⟩
 ·cases h
 ·cases h
 ·split at h
  ·simp only [sjE,Prod.mk.injEq] at h
   obtain ⟨rfl,rfl⟩ := h
   exact ⟨g,hi,Stp.refl d s w g,trivial,by intro h; cases h⟩
  ·cases h
 ·rename_i hv1 hv2 hv3 hv4 hvb hv5
  simp only [sjE,Prod.mk.injEq] at h
  obtain ⟨rfl,rfl⟩ := h
  have hA := val_plain hi hgl ha (x := x) rfl (fun e => hv5 e) (fun ex k xs e => hv1 ex k xs e) (by
   cases hq : s.val cfg x <;> first | rfl | exact absurd hq (hv2 _) | exact absurd hq (hv3 _ _ _ _)) (by cases hq : s.val cfg x <;> first | rfl | exact absurd hq (hv4 _) | exact absurd hq (hvb _))
  exact ⟨g,hi,Stp.refl d s w g,relP_of_relA hA,fun _ => hA⟩
theorem fetchs_sound {a : Act} (ha : a.tmps = vals) : ∀ (xs : List Operand) {g : Gh} {s s1 : St} {pvs : List PV},Inv base w0 w g d s vals -> GlobOk cfg g -> fetchs cfg .copy xs s = some (pvs,s1) →
  ∃ g1,Inv base w0 w g1 d s1 vals /\ Stp d s s1 w w g g1 /\ pvs.length = xs.length /\ ∀ (j : Nat) x c,xs[j]? = some x -> pvs[j]? = some c -> RelA g1 c (a.eval x)
 | [],g,s,s1,pvs,hi,_,h => by
  simp only [fetchs,sjE,Prod.mk.injEq] at h
  obtain ⟨rfl,rfl⟩ := h
  exact ⟨g,hi,Stp.refl d s w g,rfl,fun j x c hx => by simp at hx⟩
 | x :: xs,g,s,s1,pvs,hi,hgl,h => by
  simp only [fetchs] at h
  obtain ⟨⟨c,s'⟩,h1,h2⟩ := seqO_eq.1 h
  obtain ⟨⟨cs,s''⟩,h3,h4⟩ := seqO_eq.1 h2
  simp only [sjE,Prod.mk.injEq] at h4
  obtain ⟨rfl,rfl⟩ := h4
  obtain ⟨g1,i1,st1,_,r1⟩ := fetch_sound hi hgl h1 ha
  obtain ⟨g2,i2,st2,l2,r2⟩ := fetchs_sound ha xs i1 (hgl.grows st1.gr) h3
  refine ⟨g2,i2,st1.trans st2,by simp [l2],fun j y c' hy hc => ?_⟩
  cases j with
  | zero =>
   simp only [List.getElem?_cons_zero,sjE] at hy hc
   subst hy; subst hc
   exact (r1 rfl).grows st2.gr
  | succ j =>
   simp only [List.getElem?_cons_succ] at hy hc
   exact r2 j y c' hy hc
end
end Go.Vx
namespace Go.Vx
open Go Go.RowKit
def D.toValue : D -> Value
 | .lit v => v
 | .nil => .slice none 0 0
 | .sl _ _ => undef
 | .any => undef
def D.zeroOk : D -> Bool
 | .lit v => v.oneCell'
 | .nil => true
 | .sl _ _ => false
 | .any => false
def KindOk (P : Program) (t : TypeId) : TK -> Prop
 | .int k => P.underlying t = some (.int k)
 | .bool => P.underlying t = some .bool
 | .str => P.underlying t = some .string
 | .slice e => P.underlying t = some (.slice e)
 | .struct fs => ∃ fields : Array Field,P.underlying t = some (.struct fields) /\ fields.toList.map (fun f => (f.offset,f.type)) = fs /\ ∀ f ∈ fields.toList,(P.info? f.type).isSome = true
 | .array n e => P.underlying t = some (.array n e)
 | .other => ∃ d,P.underlying t = some d /\ (match d with | .struct _ | .array _ _ => false | _ => true) = true
structure TiOk (P : Program) (t : TypeId) (i : TI) : Prop where
 info : ∃ info z,P.info? t = some info /\ info.size = i.size /\ info.bytes = i.bytes /\ info.zero = some z /\ z.cells.toList = i.zero.map D.toValue
 zero : i.zero.all D.zeroOk = true
 zlen : i.zero.length = i.size
 kind : KindOk P t i.kind
def ancs : List Oper -> List (List Nat) -> List (List Nat)
 | [],acc => acc
 | o :: os,acc => ancs os (acc ++ [(o.after.toList.filter fun e => Region.binds .any e).flatMap fun e => e.on :: acc.getD e.on []])
def tmpsOf (l : List Operand) : List Tmp := l.filterMap fun | .tmp t => some t | _ => none
def readsOf (ops : List Oper) (o : Oper) : List Tmp :=
 tmpsOf o.op.operands.toList ++ (match o.guard with
  | some (j,_) => ((ops[j]?).bind (·.dst)).toList
  | none => [])
def edgesOk (ops : List Oper) : Bool := (List.range ops.length).all fun j => match ops[j]? with
 | some o => o.after.all fun e => !Region.binds .any e || decide (e.on < j)
 | none => false
def freeOk (ops : List Oper) (an : List (List Nat)) (i0 n j : Nat) : Bool :=
 match ops[j]? with
 | some o => match o.dst with
  | some dd => (readsOf ops o).all (fun t => (List.range n).all fun k => match (ops[i0 + k]?).bind (·.dst) with
    | some t' => t' != t || (decide (i0 + k < j) && (an.getD j []).contains (i0 + k))
    | none => true) && (List.range n).all (fun k => i0 + k == j || (ops[i0 + k]?).bind (·.dst) != some dd)
  | none => (readsOf ops o).all (fun t => (List.range n).all fun k => match (ops[i0 + k]?).bind (·.dst) with
    | some t' => t' != t || (decide (i0 + k < j) && (an.getD j []).contains (i0 + k))
    | none => true)
 | none => false
def segsFrom (ops : List Oper) (an : List (List Nat)) : List Nat -> Nat -> Bool
 | [],i => i == ops.length
 | n :: ns,i => decide (0 < n) && decide (i + n <= ops.length) && (List.range (ops.length - (i + n))).all (fun j => (List.range n).all fun k => (an.getD (i + n + j) []).contains (i + k)) &&
   (n == 1 || (List.range n).all fun k => freeOk ops an i n (i + k)) && segsFrom ops an ns (i + n)
def segsOk (ops : List Oper) (ns : List Nat) : Bool := edgesOk ops && segsFrom ops (ancs ops []) ns 0
def eOk (an : List (List Nat)) (E : List Nat) : Bool := E.all fun i => E.all fun j => decide (j <= i) || (an.getD j []).contains i
def tkOk (ops : List Oper) (T : List (Nat × Nat)) : Bool := T.all fun p => (List.range ops.length).all fun i => i == p.1 || match ops[i]? with
 | some o => !(readsOf ops o).contains p.2
 | none => true
def codeOk (cx : Cx) : Code -> Bool
 | .region rid ops draw => !draw || (match (cx.segs.find? fun p => p.1 == rid).map (·.2) with
  | some ns => segsOk ops.toList ns && eOk (ancs ops.toList []) (mixOf cx rid) && tkOk ops.toList (takesOf cx rid)
  | none => true)
 | .seq a b => codeOk cx a && codeOk cx b
 | .cond _ a b => codeOk cx a && codeOk cx b
 | .block _ c => codeOk cx c
 | .loop c => codeOk cx c
 | _ => true
def loopIds : Code -> List Nat
 | .seq a b => loopIds a ++ loopIds b
 | .cond _ a b => loopIds a ++ loopIds b
 | .block _ c => loopIds c
 | .loop c => match ridOf c with
  | some i => i :: loopIds c
  | none => loopIds c
 | _ => []
def noDup : List Nat -> Bool
 | [] => true
 | x :: xs => !xs.contains x && noDup xs
structure Wrote (b off : Nat) (vs : List Value) (cur : Array Value) (T : TypeId) (w w' : World) : Prop where
 os : w'.os = w.os
 tape : w'.tape = w.tape
 output : w'.output = w.output
 size : w.heap.size <= w'.heap.size
 other : ∀ k,k < w.heap.size -> k ≠ b -> w'.heap[k]? = w.heap[k]?
 row : w'.heap[b]? = some (.cells (setCells cur.toList off vs).toArray T (0,0))
def Enters (P : Program) (f : FuncId) : Prop := ∃ fn, P.funcs[f]? = some fn /\ (fn.name == "runtime.NumGoroutine") = false /\ fn.body.isSome = true
def IntsOk (P : Program) (f : FuncId) (res : Option Addr -> Nat -> List Int -> Value) (new : List Int -> List Int) : Prop :=
 Enters P f /\ (∀ (a : Option Addr) (w : World),Calls P f #[.slice a 0 0] w fun e w' => e = .returned (res a 0 []) /\ w' = w) ∧
 ∀ (b off cap : Nat) (zs : List Int) (cur : Array Value) (T : TypeId) (w : World),w.heap[b]? = some (.cells cur T (0,0)) -> (∀ (j : Nat) z,zs[j]? = some z -> cur[off + j]? = some (.int .i64 z)) -> zs.length <= cap -> cap <= maxLen -> off + zs.length <= cur.size -> zs.length < 4611686018427387904 →
  Calls P f #[.slice (some ⟨b,off,none⟩) zs.length cap] w fun e w' => e = .returned (res (some ⟨b,off,none⟩) cap zs) /\ Wrote b off ((new zs).map (.int .i64)) cur T w w'
def compNew (zs : List Int) : List Int := Lib.compact zs ++ List.replicate (zs.length - (Lib.compact zs).length) 0
def DelOk (P : Program) (f : FuncId) : Prop :=
 Enters P f /\ (∀ (ad : Option Addr) (g : FuncId) (cu : Array Value) (w : World),Calls P f #[.slice ad 0 0,.func (.func g) #[] cu] w fun e w' => e = .returned (.slice ad 0 0) /\ ∃ q,w' = { w with drawn := w.drawn + q }) ∧
 ∀ (g : FuncId) (cu : Array Value) (pred : Int -> Bool) (R : List Int -> World -> Prop) (b off cap : Nat) (zs : List Int) (w : World),Enters P g -> zs ≠ [] →
  (∀ cur w,R cur w -> cur.length = zs.length /\ ∃ cells T,w.heap[b]? = some (.cells cells T (0,0)) /\ (∀ (j : Nat) z,cur[j]? = some z -> cells[off + j]? = some (.int .i64 z)) /\ off + cur.length <= cells.size) →
  (∀ cur w,R cur w -> R cur { w with drawn := w.drawn + 1 }) →
  (∀ cur cur' w w' cells T,R cur w -> cur'.length = cur.length -> w.heap[b]? = some (.cells cells T (0,0)) -> Wrote b off (cur'.map (.int .i64)) cells T w w' -> R cur' w') →
  (∀ cur w z,z ∈ zs -> R cur w -> Calls P g (#[.int .i64 z] ++ cu) w fun e w' => e = .returned (.bool (pred z)) /\ R cur w') →
  R zs w -> zs.length <= cap -> cap <= maxLen -> zs.length < 4611686018427387904 →
  Calls P f #[.slice (some ⟨b,off,none⟩) zs.length cap,.func (.func g) #[] cu] w fun e w' => e = .returned (.slice (some ⟨b,off,none⟩) (zs.filter fun z => !pred z).length cap) ∧
   R ((zs.filter fun z => !pred z) ++ List.replicate (zs.length - (zs.filter fun z => !pred z).length) 0) w'
def HookFn (P : Program) (f : FuncId) : Hook -> Prop
 | .sort => IntsOk P f (fun _ _ _ => .tuple #[]) sortI
 | .compact => IntsOk P f (fun a cap zs => .slice a (Lib.compact zs).length cap) compNew
 | .delFn => DelOk P f
structure CfgOk (P : Program) (cfg : Cfg) : Prop where
 fn : ∀ f fn, cfg.fn f = some fn -> P.funcs[f]? = some fn /\ (fn.name == "runtime.NumGoroutine") = false /\ fn.body.isSome = true
 ti : ∀ t i,cfg.ti t = some i -> TiOk P t i
 mixed : P.follows .mixedOrders = true
 code : ∀ f fn c,cfg.fn f = some fn -> fn.body = some c -> codeOk (cfg.cx f) c = true /\ noDup (loopIds c) = true
 cmp : ∀ t, cfg.cmp t = true -> P.underlying t = some (.struct (P.fieldsOf t)) /\ P.stoodInHeld t = false /\ P.eqGuardType P.depth t = false /\ (P.fieldsOf t).toList.all (fun f => f.name != "_") = true
 hook : ∀ f h,cfg.hook f = some h -> HookFn P f h
 byte : ∀ j,cfg.ti cfg.byteT = some j -> j.size = 1 /\ P.cellsOf cfg.byteT = 1
theorem CfgOk.segC {P : Program} {cfg : Cfg} (h : CfgOk P cfg) (cx : Cx) (rid : Nat) : CfgOk P (segC cx rid cfg) := by
 unfold Vx.segC
 split
 ·exact ⟨h.fn,h.ti,h.mixed,h.code,h.cmp,h.hook,h.byte⟩
 ·exact h
theorem globOk_segC {cfg : Cfg} {g : Gh} (cx : Cx) (rid : Nat) : GlobOk (segC cx rid cfg) g ↔ GlobOk cfg g := by
 unfold Vx.segC
 split <;> exact Iff.rfl
theorem segC_fn (cfg : Cfg) (cx : Cx) (rid : Nat) : (segC cx rid cfg).fn = cfg.fn := by
 unfold segC
 split <;> rfl
theorem keyOf_ksz {P : Program} {cfg : Cfg} (hc : CfgOk P cfg) {e : TypeId} {j : TI} (h : cfg.ti e = some j) (h0 : 0 < j.size) : ksz (keyOf cfg e j) = j.size := by
 unfold keyOf
 split
 ·rename_i he
  subst he
  rw [(hc.byte j h).1]; rfl
 ·unfold ksz; rw [if_neg (by omega)]
theorem keyOf_byte {cfg : Cfg} {e : TypeId} {j : TI} (h0 : 0 < j.size) (h : keyOf cfg e j = 0) : e = cfg.byteT := by
 unfold keyOf at h
 split at h
 ·assumption
 ·omega
def Goes (P : Program) (o : Oper) (a : Act) (base : Nat) (w0 w : World) (g : Gh) (d : Nat) (s : St) (vals : Array Value) (s' : St) : Prop :=
 ∃ v w' g',((execOp a.eval o).run P w = .ok (.value v) w' ∨ ((execOp a.eval o).run P w = .ok .skip w' /\ v = undef)) ∧
  Inv base w0 w' g' d s' (putVals vals o.dst v) /\ Stp d s s' w w' g g' /\ Clean g'
section
variable {P : Program} {cfg : Cfg} {base : Nat} {w0 w : World} {g : Gh} {d : Nat} {s : St} {vals : Array Value} {o : Oper} {a : Act}
theorem goes_of_pend {w1 : World} {g1 : Gh} {s1 : St} {pv : PV} {v : Value}
  (hrun : (execOp a.eval o).run P w = .ok (.value v) w1 ∨ ((execOp a.eval o).run P w = .ok .skip w1 /\ v = undef))
  (hi : Inv base w0 w1 g1 d s1 vals) (hs : Stp d s s1 w w1 g g1) (hr : RelP w1 g1 vals s1 pv v) : Goes P o a base w0 w g d s vals (put s1 o.dst pv) := by
 obtain ⟨h1,h2,h3⟩ := put_sound hi hr o.dst
 exact ⟨v,w1,_,hrun,h1,hs.trans h2,h3⟩
theorem goes_same {pv : PV} {v : Value} (hrun : (execOp a.eval o).run P w = .ok (.value v) w) (hi : Inv base w0 w g d s vals) (hr : RelP w g vals s pv v) :
  Goes P o a base w0 w g d s vals (put s o.dst pv) := goes_of_pend (.inl hrun) hi (Stp.refl d s w g) hr
theorem val_lit (hi : Inv base w0 w g d s vals) (hgl : GlobOk cfg g) (ha : a.tmps = vals) {x : Operand} {v : Value} (h : s.val cfg x = .dat (.lit v)) : a.eval x = v :=
 val_plain hi hgl ha h (by intro e; cases e) (by intro _ _ _ e; cases e) rfl rfl
theorem val_bool (hi : Inv base w0 w g d s vals) (hgl : GlobOk cfg g) (ha : a.tmps = vals) {x : Operand} {b : Bool} (h : abool (s.val cfg x) = some b) : a.eval x = .bool b := by
 unfold abool at h
 split at h
 ·rename_i b' hb
  obtain rfl := sij h
  exact val_lit hi hgl ha hb
 ·cases h
theorem val_int (hi : Inv base w0 w g d s vals) (hgl : GlobOk cfg g) (ha : a.tmps = vals) {x : Operand} {n : Int} (h : aint (s.val cfg x) = some n) : ∃ k,a.eval x = .int k n := by
 unfold aint at h
 split at h
 ·rename_i k n' hb
  obtain rfl := sij h
  exact ⟨k,val_lit hi hgl ha hb⟩
 ·cases h
theorem lit_rel {v : Value} : RelP w g vals s (.dat (.lit v)) v := rfl
theorem move_sound (hi : Inv base w0 w g d s vals) (hgl : GlobOk cfg g) (ha : a.tmps = vals) {x : Operand} {pl : Pol} (ho : o.op = .move x ∨ o.op = .assign x) {s' : St}
  (h : (seqO (fetch cfg pl x s) fun p => some (put p.2 o.dst p.1)) = some s') : Goes P o a base w0 w g d s vals s' := by
 obtain ⟨⟨pv,s1⟩,h1,h2⟩ := seqO_eq.1 h
 obtain rfl := sij h2
 obtain ⟨g1,i1,st1,r1,_⟩ := fetch_sound hi hgl h1 ha
 refine goes_of_pend (.inl ?_) i1 st1 r1
 rcases ho with ho | ho <;> simp [execOp,ho]
theorem pick_sound (hi : Inv base w0 w g d s vals) (hgl : GlobOk cfg g) (ha : a.tmps = vals) {c x y : Operand} {pl : Pol} (ho : o.op = .pick c x y) {s' : St}
  (h : (seqO (abool (s.val cfg c)) fun t => seqO (fetch cfg pl (if t then x else y) s) fun p => some (put p.2 o.dst p.1)) = some s') : Goes P o a base w0 w g d s vals s' := by
 obtain ⟨t,h0,h⟩ := seqO_eq.1 h
 obtain ⟨⟨pv,s1⟩,h1,h2⟩ := seqO_eq.1 h
 obtain rfl := sij h2
 obtain ⟨g1,i1,st1,r1,_⟩ := fetch_sound hi hgl h1 ha
 have hb := val_bool hi hgl ha h0
 refine goes_of_pend (.inl ?_) i1 st1 r1
 simp only [execOp,ho,hb,asBool,Sem.run_bind,Sem.run_pure,Result.andThen_ok]
 cases t <;> rfl
theorem binLit_run (hc : CfgOk P cfg) {op : BinOp} {t t' : TypeId} {x y : Operand} {u v r : Value} (hk : eqKind cfg t u = true) (h : binLit op u v = some r) (hx : a.eval x = u) (hy : a.eval y = v) (ho : o.op = .binOp op t x y t') :
  (execOp a.eval o).run P w = .ok (.value r) w := by
 have hrun : (execOp a.eval o).run P w = ((do eqGuard op t x y u v; binOp op t u v : Sem Value).run P w).andThen fun r w' => .ok (Next.value r) w' := by
  simp only [execOp,ho,hx,hy,Sem.run_bind,Sem.run_pure]
 rw [hrun]
 unfold binLit at h
 split at h
 ·rename_i k a1 k' b1
  split at h
  ·rename_i hkk
   subst hkk
   cases op <;> dsimp only at h <;> (try (cases h; done))
   all_goals first
    | (obtain rfl := sij h; simp [eqGuard,binOp,Op.intArith,Op.intCmp]; done)
    | (
     split at h
     ·cases h
     ·rename_i hb
      obtain rfl := sij h
      simp [eqGuard,binOp,Op.intDiv,hb])
  ·cases h
 ·rename_i a1 b1
  cases op <;> dsimp only at h <;> (try (cases h; done))
  ·split at h
   ·rename_i hb
    obtain rfl := sij h
    have : ¬ ((((a1.size + b1.size : Nat)) : Int) > IntKind.i64.max) := by
     have : IntKind.i64.max = 9223372036854775807 := by decide
     omega
    simp only [eqGuard,binOp,Op.stringOp,if_neg this]
    rfl
   ·cases h
  ·obtain rfl := sij h
   rfl
  ·obtain rfl := sij h
   rfl
 ·rename_i a1 b1
  have hu : P.underlying t = some .bool := by
   unfold eqKind at hk
   simp only at hk
   cases hti : cfg.ti t with
   | none => rw [hti] at hk; cases hk
   | some i =>
    rw [hti] at hk
    simp only at hk
    have := (hc.ti t i hti).kind
    cases hkd : i.kind <;> rw [hkd] at hk this <;> first | exact this | cases hk
  have he : (Op.equal t (.bool a1) (.bool b1)).run P w = .ok (a1 == b1) w := by
   have hd : Op.maxDepth = 9999 + 1 := rfl
   rw [Op.equal,hd,Op.equalIn]
   simp only [Sem.run_bind,run_underlying hu,Result.andThen_ok]
   rfl
  cases op <;> dsimp only at h <;> (try (cases h; done))
  all_goals
   obtain rfl := sij h
   simp [eqGuard,binOp,he]
 ·cases h
theorem part_one {t : TypeId} {i : TI} (ht : TiOk P t i) (hk : i.kind.isAgg = false) {us : Array Value} {off : Nat} {v : Value} (hv : us[off]? = some v) : (part t us off).run P w = .ok v w := by
 have hg : (isAgg t).run P w = .ok false w := by
  have h := ht.kind
  cases hkd : i.kind <;> rw [hkd] at h hk <;> simp only [KindOk,TK.isAgg] at h hk
  case int => simp [isAgg,underlying,h]
  case bool => simp [isAgg,underlying,h]
  case str => simp [isAgg,underlying,h]
  case slice => simp [isAgg,underlying,h]
  case other =>
   obtain ⟨dd,h1,h2⟩ := h
   cases dd <;> first | (simp [isAgg,underlying,h1]; done) | (simp at h2; done)
  all_goals cases hk
 simp [part,hg,hv]
theorem eqCell_run {t : TypeId} {i : TI} (ht : TiOk P t i) {x y : PV} {u v : Value} {b : Bool} (h : eqCell i.kind (some x) (some y) = some b) (hx : RelC g x u) (hy : RelC g y v) (d : Nat) :
  i.kind.isAgg = false /\ (Op.equalIn (d + 1) t u v).run P w = .ok b w := by
 have hk := ht.kind
 unfold eqCell at h
 split at h
 ·rename_i k k' a k'' c hkd e1 e2
  obtain rfl := sij e1
  obtain rfl := sij e2
  obtain rfl : u = _ := hx
  obtain rfl : v = _ := hy
  rw [hkd] at hk ⊢
  split at h
  ·rename_i hkk
   obtain ⟨rfl,rfl⟩ := hkk
   obtain rfl := sij h
   exact ⟨rfl,run_equalIn_int w d t _ _ a c hk⟩
  ·cases h
 ·rename_i a c hkd e1 e2
  obtain rfl := sij e1
  obtain rfl := sij e2
  obtain rfl : u = _ := hx
  obtain rfl : v = _ := hy
  rw [hkd] at hk ⊢
  obtain rfl := sij h
  exact ⟨rfl,run_equalIn_bool' w d t a c hk⟩
 ·rename_i a c hkd e1 e2
  obtain rfl := sij e1
  obtain rfl := sij e2
  obtain rfl : u = _ := hx
  obtain rfl : v = _ := hy
  rw [hkd] at hk ⊢
  obtain rfl := sij h
  exact ⟨rfl,run_equalIn_string w d t a c hk⟩
 ·cases h
theorem eqFields_run (hc : CfgOk P cfg) {xs ys : List PV} {us vs : List Value} (lx : us.length = xs.length) (ly : vs.length = ys.length) (hx : ∀ (j : Nat) c v,xs[j]? = some c -> us[j]? = some v -> RelC g c v) (hy : ∀ (j : Nat) c v,ys[j]? = some c -> vs[j]? = some v -> RelC g c v) (d : Nat) :
  ∀ (fs : List Field) {b : Bool}, (fs.all fun f => f.name != "_") = true -> eqFieldsA cfg xs ys (fs.map fun f => (f.offset, f.type)) = some b -> (Op.eqFields (d + 1) us.toArray vs.toArray fs).run P w = .ok b w
 | [],b,_,h => by
  obtain rfl := sij h
  simp [Op.eqFields]
 | f :: fs,b,hn,h => by
  simp only [List.all_cons,Bool.and_eq_true,bne_iff_ne,ne_eq] at hn
  simp only [List.map_cons,eqFieldsA] at h
  obtain ⟨j,h1,h⟩ := seqO_eq.1 h
  obtain ⟨b1,h2,h⟩ := seqO_eq.1 h
  obtain ⟨b2,h3,h⟩ := seqO_eq.1 h
  obtain rfl := sij h
  have ih := eqFields_run hc lx ly hx hy d fs hn.2 h3
  cases ex : xs[f.offset]? with
  | none => rw [ex] at h2; unfold eqCell at h2; split at h2 <;> simp_all
  | some x =>
   cases ey : ys[f.offset]? with
   | none => rw [ex,ey] at h2; unfold eqCell at h2; split at h2 <;> simp_all
   | some y =>
    rw [ex,ey] at h2
    obtain ⟨u0,q1⟩ : ∃ u0,us[f.offset]? = some u0 := ⟨_,gge (by rw [lx]; exact (gsi.1 ex).1)⟩
    obtain ⟨v0,q2⟩ : ∃ v0,vs[f.offset]? = some v0 := ⟨_,gge (by rw [ly]; exact (gsi.1 ey).1)⟩
    have ht := hc.ti _ j h1
    obtain ⟨k1,k2⟩ := eqCell_run (w := w) ht h2 (hx _ _ _ ex q1) (hy _ _ _ ey q2) d
    have p1 := part_one (w := w) ht k1 (us := us.toArray) (off := f.offset) (by simpa using q1)
    have p2 := part_one (w := w) ht k1 (us := vs.toArray) (off := f.offset) (by simpa using q2)
    simp only [Op.eqFields,ne_eq,hn.1,not_false_eq_true,if_true,Sem.run_bind,p1,p2,k2,Result.andThen_ok]
    cases b1
    ·simp
    ·simpa using ih
theorem val_agg' (hi : Inv base w0 w g d s vals) (hgl : GlobOk cfg g) (ha : a.tmps = vals) {x : Operand} {cs : List PV} (h : s.val cfg x = .agg cs) : RelAgg g cs (a.eval x) :=
 val_plain hi hgl ha h (by intro e; cases e) (by intro _ _ _ e; cases e) rfl rfl
theorem bin0_sound (hc : CfgOk P cfg) (hi : Inv base w0 w g d s vals) (hgl : GlobOk cfg g) (ha : a.tmps = vals) {op : BinOp} {t t' : TypeId} {x y : Operand} (ho : o.op = .binOp op t x y t') {s' : St}
  (h : (seqO (aBin cfg op t (s.val cfg x) (s.val cfg y)) fun v => some (put s o.dst v)) = some s') : Goes P o a base w0 w g d s vals s' := by
 obtain ⟨pv,h1,h2⟩ := seqO_eq.1 h
 obtain rfl := sij h2
 unfold aBin at h1
 split at h1
 ·rename_i xs ys hu hv
  split at h1
  ·rename_i hcmp
   obtain ⟨i,hti,h3⟩ := seqO_eq.1 h1
   obtain ⟨c1,c2,c3,c4⟩ := hc.cmp t hcmp
   have hkd := (hc.ti t i hti).kind
   split at h3
   ·rename_i fs hk
    rw [hk] at hkd
    obtain ⟨fields,f1,f2,_⟩ := hkd
    have hfe : P.fieldsOf t = fields := by
     rw [c1] at f1
     exact (TypeDesc.struct.inj (sij f1))
    obtain ⟨b,h4,h5⟩ := seqO_eq.1 h3
    obtain ⟨us,e1,e2,e3⟩ := val_agg' hi hgl ha hu
    obtain ⟨vs,e4,e5,e6⟩ := val_agg' hi hgl ha hv
    rw [<- f2,<- hfe] at h4
    have hr : (Op.equalIn 10000 t (.agg us.toArray) (.agg vs.toArray)).run P w = .ok b w := by
     rw [show (10000 : Nat) = 9999 + 1 from rfl,run_equalIn_struct w 9999 t _ _ c1 c2]
     exact eqFields_run hc e2 e5 e3 e6 9998 _ c4 h4
    have hrun : (execOp a.eval o).run P w = ((do eqGuard op t x y (.agg us.toArray) (.agg vs.toArray); binOp op t (.agg us.toArray) (.agg vs.toArray) : Sem Value).run P w).andThen fun r w' => .ok (Next.value r) w' := by
     simp only [execOp,ho,e1,e4,Sem.run_bind,Sem.run_pure]
    have hgd := run_eqGuard_agg (P := P) w op t x y us.toArray vs.toArray c3
    split at h5
    ·obtain rfl := sij h5
     refine goes_same (v := .bool b) ?_ hi lit_rel
     rw [hrun,Sem.run_bind,hgd]
     simp only [Result.andThen_ok,run_eql_struct,hr]
    ·obtain rfl := sij h5
     refine goes_same (v := .bool (!b)) ?_ hi lit_rel
     rw [hrun,Sem.run_bind,hgd]
     simp only [Result.andThen_ok,run_neq_struct,hr]
    ·cases h5
   ·cases h3
  ·cases h1
 ·rename_i u v hu hv
  split at h1
  ·rename_i hk
   obtain ⟨r,h3,h4⟩ := seqO_eq.1 h1
   obtain rfl := sij h4
   exact goes_same (binLit_run hc hk h3 (val_lit hi hgl ha hu) (val_lit hi hgl ha hv) ho) hi lit_rel
  ·cases h1
 ·cases h1
theorem run_slice_nil (w : World) (t e : TypeId) (p : Option Addr) (n c : Nat) (h : P.underlying t = some (.slice e)) : (Op.equal t (.slice p n c) (.slice none 0 0)).run P w = .ok p.isNone w := by
 have h1 : ∀ k : Nat,(Op.equalIn (k + 1) t (.slice p n c) (.slice none 0 0)).run P w = .ok p.isNone w := fun k => by cases p <;> simp [Op.equalIn,run_underlying h]
 exact h1 9999
theorem nil_goes (hi : Inv base w0 w g d s vals) {op : BinOp} {t t' e : TypeId} {x y : Operand} (ho : o.op = .binOp op t x y t') {p : Option Addr} {n c : Nat} {q : Option Bool} {pv : PV}
  (hx : a.eval x = .slice p n c) (hy : a.eval y = .slice none 0 0) (ht : P.underlying t = some (.slice e)) (hq : ∀ b,q = some b -> p.isNone = b) (h : nilRes op q = some pv) : Goes P o a base w0 w g d s vals (put s o.dst pv) := by
 have he := run_slice_nil w t e p n c ht
 have hrun : (execOp a.eval o).run P w = ((do eqGuard op t x y (.slice p n c) (.slice none 0 0); binOp op t (.slice p n c) (.slice none 0 0) : Sem Value).run P w).andThen fun r w' => .ok (Next.value r) w' := by
  simp only [execOp,ho,hx,hy,Sem.run_bind,Sem.run_pure]
 have h1 : (binOp .eql t (.slice p n c) (.slice none 0 0)).run P w = .ok (.bool p.isNone) w := by simp [binOp,he]
 have h2 : (binOp .neq t (.slice p n c) (.slice none 0 0)).run P w = .ok (.bool (!p.isNone)) w := by simp [binOp,he]
 cases q with
 | none =>
  unfold nilRes at h
  simp only at h
  split at h
  ·obtain rfl := sij h
   refine goes_same (v := .bool p.isNone) ?_ hi (RelD.any _)
   rw [hrun]
   simp [eqGuard,h1]
  ·obtain rfl := sij h
   refine goes_same (v := .bool (!p.isNone)) ?_ hi (RelD.any _)
   rw [hrun]
   simp [eqGuard,h2]
  ·cases h
 | some b =>
  have hb := hq b rfl
  unfold nilRes eqRes at h
  simp only at h
  split at h
  ·obtain rfl := sij h
   refine goes_same (v := .bool b) ?_ hi lit_rel
   rw [hrun]
   simp [eqGuard,h1,hb]
  ·obtain rfl := sij h
   refine goes_same (v := .bool (!b)) ?_ hi lit_rel
   rw [hrun]
   simp [eqGuard,h2,hb]
  ·cases h
theorem nilQ_rel {m : Addr -> Option Value} {x : D} {u : Value} {q : Option Bool} (h : RelD m x u) (hq : x.nilQ = some q) : ∃ p n c,u = .slice p n c /\ ∀ b,q = some b -> p.isNone = b := by
 cases h with
 | lit v h => cases hq
 | nil p => obtain rfl := sij hq; exact ⟨p,0,0,rfl,fun b e => by cases e⟩
 | emp k p c => obtain rfl := sij hq; exact ⟨p,0,c,rfl,fun b e => by cases e⟩
 | sl k xs b o c us h1 h2 h3 h4 =>
  refine ⟨_,_,_,rfl,fun b e => ?_⟩
  cases xs with
  | nil => obtain rfl := sij hq; cases e
  | cons r rs => obtain rfl := sij hq; cases e; rfl
 | any b => cases hq
theorem binOp_sound (hc : CfgOk P cfg) (hi : Inv base w0 w g d s vals) (hgl : GlobOk cfg g) (ha : a.tmps = vals) {op : BinOp} {t t' : TypeId} {x y : Operand} (ho : o.op = .binOp op t x y t') {s' : St}
  (h : (seqO (aBinN cfg op t (isNilC y) (s.val cfg x) (s.val cfg y)) fun v => some (put s o.dst v)) = some s') : Goes P o a base w0 w g d s vals s' := by
 cases hn : isNilC y with
 | false => rw [hn] at h; exact bin0_sound hc hi hgl ha ho h
 | true =>
  rw [hn] at h
  have hy : a.eval y = .slice none 0 0 := by
   unfold isNilC at hn
   split at hn
   ·rfl
   ·cases hn
  obtain ⟨pv,h1,h2⟩ := seqO_eq.1 h
  obtain rfl := sij h2
  simp only [aBinN] at h1
  unfold aNil at h1
  split at h1
  ·rename_i x0 hv
   obtain ⟨i,hti,h3⟩ := seqO_eq.1 h1
   have hkd := (hc.ti t i hti).kind
   split at h3
   ·rename_i e hk
    rw [hk] at hkd
    obtain ⟨q,h4,h5⟩ := seqO_eq.1 h3
    have hr : RelD g.m x0 (a.eval x) := by
     have := val_plain hi hgl ha hv (by intro e; cases e) (by intro _ _ _ e; cases e) rfl rfl
     cases x0 with
     | lit v => cases h4
     | nil => exact this
     | sl k xs => exact this
     | any => exact this
    obtain ⟨p,n,c,e1,e2⟩ := nilQ_rel hr h4
    exact nil_goes hi ho e1 hy hkd e2 h5
   ·cases h3
  ·cases h1
theorem unOp_sound (hi : Inv base w0 w g d s vals) (hgl : GlobOk cfg g) (ha : a.tmps = vals) {op : UnOp} {t : TypeId} {x : Operand} (ho : o.op = .unOp op t x) {s' : St}
  (h : (seqO (aUn op (s.val cfg x)) fun v => some (put s o.dst v)) = some s') : Goes P o a base w0 w g d s vals s' := by
 obtain ⟨pv,h1,h2⟩ := seqO_eq.1 h
 obtain rfl := sij h2
 unfold aUn at h1
 split at h1
 ·rename_i b hb
  obtain rfl := sij h1
  have := val_lit hi hgl ha hb
  exact goes_same (by simp [execOp,ho,this,Op.unary]) hi lit_rel
 ·rename_i k n hb
  obtain rfl := sij h1
  have := val_lit hi hgl ha hb
  exact goes_same (by simp [execOp,ho,this,Op.unary,Op.intArith]) hi lit_rel
 ·cases h1
theorem conv_sound (hc : CfgOk P cfg) (hi : Inv base w0 w g d s vals) (hgl : GlobOk cfg g) (ha : a.tmps = vals) {t t' : TypeId} {x : Operand} (ho : o.op = .convert t t' x) {s' : St}
  (h : (seqO (aConv cfg t t' s (s.val cfg x)) fun v => some (put s o.dst v)) = some s') : Goes P o a base w0 w g d s vals s' := by
 obtain ⟨pv,h1,h2⟩ := seqO_eq.1 h
 obtain rfl := sij h2
 unfold aConv aConv0 at h1
 split at h1
 ·rename_i i j hti htj
  have hu : ∃ du,P.underlying t = some du := by
   have := (hc.ti t i hti).kind
   cases hk : i.kind <;> rw [hk] at this <;> simp only [KindOk] at this <;> first | exact ⟨_,this⟩ | (obtain ⟨f,h,_⟩ := this; exact ⟨_,h⟩)
  obtain ⟨du,hu⟩ := hu
  have hv := (hc.ti t' j htj).kind
  split at h1
  ·rename_i k k' n hk hb
   obtain rfl := sij h1
   rw [hk] at hv
   have hx := val_lit hi hgl ha hb
   refine goes_same ?_ hi lit_rel
   simp only [KindOk] at hv
   simp [execOp,ho,hx,convert,underlying,hu,hv,Conv.intToInt]
  ·rename_i k' n hk hb
   obtain rfl := sij h1
   rw [hk] at hv
   have hx := val_lit hi hgl ha hb
   refine goes_same ?_ hi lit_rel
   simp only [KindOk] at hv
   simp [execOp,ho,hx,convert,underlying,hu,hv,Conv.intToString]
  ·rename_i b hk hb
   obtain rfl := sij h1
   rw [hk] at hv
   have hx := val_lit hi hgl ha hb
   refine goes_same ?_ hi lit_rel
   simp only [KindOk] at hv
   simp [execOp,ho,hx,convert,underlying,hu,hv]
  ·cases h1
 ·cases h1
end
end Go.Vx
namespace Go.Vx
open Go Go.RowKit
section
variable {P : Program} {cfg : Cfg} {base : Nat} {w0 w : World} {g : Gh} {d : Nat} {s : St} {vals : Array Value} {o : Oper} {a : Act}
theorem RelT.kept {w1 : World} {g1 : Gh} {i : Nat} (hg : Grows g g1) (hk : ∀ j b,g.own b = some (.tmp d i j) -> Kept w w1 g g1 b)
  {c : PV} {u : Value} (hp : ∀ p v,aliasOf c = some p -> placeVal w g vals p = some v -> placeVal w1 g1 vals p = some v) (h : RelT w g vals d i c u) : RelT w1 g1 vals d i c u := by
 cases c with
 | «alias» p => exact hp p u rfl h
 | eptr p k r j => obtain ⟨b,o',n,c',h1,h2⟩ := h; exact ⟨b,o',n,c',hp p _ rfl h1,h2⟩
 | own ex k xs => exact RelV.kept (c := .own ex k xs) hg hk h
 | agg cs => exact RelV.kept (c := .agg cs) hg hk h
 | dat d' => exact RelV.kept (c := .dat d') hg hk h
 | ptr l off => exact RelV.kept (c := .ptr l off) hg hk h
 | iptr cs off => exact RelV.kept (c := .iptr cs off) hg hk h
 | clo f' cap => exact RelV.kept (c := .clo f' cap) hg hk h
 | dead => exact trivial
 | bag vs => exact RelV.kept (c := .bag vs) hg hk h
 | tup vs => exact RelV.kept (c := .tup vs) hg hk h
theorem inv_grow (hi : Inv base w0 w g d s vals) {w1 : World} {g1 : Gh} {nbs : List Box} {nbl : List Nat}
  (low : Below base w0 w1) (hg : Grows g g1) (mem : ∀ a v,g1.m a = some v -> w1.cell? a = some v)
  (hk0 : ∀ b o',g.own b = some o' -> (∀ j,o' ≠ .res j) -> Kept w w1 g g1 b)
  (own' : ∀ b o',g1.own b = some o' -> g.own b = some o' ∨ (base <= b /\ b < w1.heap.size /\ ∀ d' i j,o' = .tmp d' i j -> d' <= d))
  (hsz : w.heap.size <= w1.heap.size)
  (hblk : g1.blk = g.blk ++ nbl) (hlen : nbl.length = nbs.length) (hnd : nbl.Nodup) (hnew : ∀ b ∈ nbl,g.own b ≠ some .box)
  (hbox : ∀ (l b : Nat) bx,nbl[l]? = some b -> nbs[l]? = some bx -> BoxRel w1 g1 b bx) :
  Inv base w0 w1 g1 d { s with bx := s.bx ++ nbs } vals /\ Stp d s { s with bx := s.bx ++ nbs } w w1 g g1 := by
 have hgl : g.blk.length = s.bx.length := hi.blen
 have hkb : ∀ b,g.own b = some .box -> Kept w w1 g g1 b := fun b h => hk0 b _ h fun j e => by cases e
 have hkc : ∀ b b' off,g.own b = some (.cell b' off) -> Kept w w1 g g1 b := fun b b' off h => hk0 b _ h fun j e => by cases e
 have hkt : ∀ b d' i j,g.own b = some (.tmp d' i j) -> Kept w w1 g g1 b := fun b d' i j h => hk0 b _ h fun j e => by cases e
 have hbx : ∀ (l b : Nat),g.blk[l]? = some b -> ∃ bx,s.bx[l]? = some bx /\ BoxRel w g b bx := fun l b hb => by
  have hlt : l < s.bx.length := by rw [<- hgl]; exact (gsi.1 hb).1
  exact ⟨_,gge hlt,hi.boxes l b _ hb (gge hlt)⟩
 have hpv : ∀ p v,placeVal w g vals p = some v -> placeVal w1 g1 vals p = some v := by
  intro p v h
  cases p with
  | tmp => exact h
  | cell l off =>
   simp only [placeVal] at h ⊢
   cases hb : g.blk[l]? with
   | none => rw [hb] at h; cases h
   | some b =>
    rw [hb] at h
    rw [hg.blk l b hb]
    obtain ⟨bx,_,hr⟩ := hbx l b hb
    simp only [Option.bind_some] at h ⊢
    rw [World.cell?_of_block (w := w) ((hkb b hr.1).1)]
    exact h
 have hat : ∀ p v,placeVal w g vals p = some v -> St.at { s with bx := s.bx ++ nbs } p = s.at p := by
  intro p v h
  cases p with
  | tmp => rfl
  | cell l off =>
   simp only [placeVal] at h
   cases hb : g.blk[l]? with
   | none => rw [hb] at h; cases h
   | some b =>
    have hlt : l < s.bx.length := by rw [<- hgl]; exact (gsi.1 hb).1
    simp only [St.at,gal hlt]
 refine ⟨⟨low,hi.hb,mem,?_,?_,?_,?_,?_,?_,?_,hi.tl,?_,?_⟩,⟨hg,rfl,by simp,fun b d' i j hb _ => hkt b _ _ _ hb,fun _ h => h,?_,fun h => h,?_⟩⟩
 ·intro b o' h
  rcases own' b o' h with h | h
  ·exact hi.own_ge b o' h
  ·exact h.1
 ·intro b o' h
  rcases own' b o' h with h | h
  ·exact Nat.lt_of_lt_of_le (hi.own_lt b o' h) hsz
  ·exact h.2.1
 ·intro b d' i j h
  rcases own' b _ h with h | h
  ·exact hi.own_d b d' i j h
  ·exact h.2.2 d' i j rfl
 ·simp [hblk,hgl,hlen]
 ·rw [hblk]
  refine List.nodup_append.2 ⟨hi.nodup,hnd,fun x hx y hy e => ?_⟩
  subst e
  obtain ⟨l,hl⟩ := List.getElem?_of_mem hx
  obtain ⟨bx,_,hr⟩ := hbx l x hl
  exact hnew x hy hr.1
 ·simp only [List.length_append]; exact Nat.le_trans hi.nbl (Nat.le_add_right _ _)
 ·intro l b bx h1 h2
  simp only at h2
  rw [hblk] at h1
  by_cases hlt : l < s.bx.length
  ·rw [gal (by rw [hgl]; exact hlt)] at h1
   rw [gal hlt] at h2
   have h := hi.boxes l b bx h1 h2
   exact h.kept hg (hkb b h.1) fun off b' hb' => hkc b' _ _ hb'
  ·rw [gar (by omega)] at h1
   rw [gar (by omega)] at h2
   rw [hgl] at h1
   exact hbox _ b bx h1 h2
 ·intro i c v hc hv
  exact (hi.tmps i c v hc hv).kept hg (fun j b hb => hkt b _ _ _ hb) fun p v' _ h => hpv p v' h
 ·intro i c p hc hp
  have hlt : i < vals.size := by rw [hi.tl]; exact (gsi.1 hc).1
  have hr := hi.tmps i c _ hc (agg hlt)
  have : ∃ v,placeVal w g vals p = some v := by
   cases c <;> simp only [aliasOf] at hp <;> first | cases hp | skip
   ·exact ⟨_,hr⟩
   ·obtain ⟨b,o',n,c',h1,_⟩ := hr; exact ⟨_,h1⟩
  obtain ⟨v,hv⟩ := this
  rw [hat p v hv]
  exact hi.al i c p hc hp
 ·intro l hl _
  refine ⟨by simp only; rw [gal (Nat.lt_of_lt_of_le hl hi.nbl)],fun b hb => ?_⟩
  obtain ⟨bx,_,hr⟩ := hbx l b hb
  exact ⟨hkb b hr.1,fun off b' hb' => hkc b' _ _ hb'⟩
 ·intro _ n l bx bx' hl h1 h2 h3
  simp only at h3
  rw [gal (Nat.lt_of_lt_of_le hl hi.nbl),h1] at h3
  obtain rfl := sij h3
  exact h2
def Gh.newBox (g : Gh) (b : Nat) : Gh := { g with own := fun b' => if b' = b then some .box else g.own b',blk := g.blk ++ [b] }
theorem m_lt (hi : Inv base w0 w g d s vals) {a : Addr} {v : Value} (h : g.m a = some v) : a.block < w.heap.size :=
 World.block_lt_of_cell? w a (hi.mem a v h)
theorem own_none (hi : Inv base w0 w g d s vals) {b : Nat} (h : w.heap.size <= b) : g.own b = none := by
 cases ho : g.own b with
 | none => rfl
 | some o' => have := hi.own_lt b o' ho; omega
theorem newbox_sound (hi : Inv base w0 w g d s vals) {us : Array Value} {cs : Box} {T : TypeId} (hl : us.size = cs.length)
  (hr : ∀ (j : Nat) c u,cs[j]? = some c -> us[j]? = some u -> RelC g c u) :
  Inv base w0 (w.alloc (.cells us T)) (g.newBox w.heap.size) d { s with bx := s.bx ++ [cs] } vals /\ Stp d s { s with bx := s.bx ++ [cs] } w (w.alloc (.cells us T)) g (g.newBox w.heap.size) ∧
   RelP (w.alloc (.cells us T)) (g.newBox w.heap.size) vals { s with bx := s.bx ++ [cs] } (.ptr s.bx.length 0) (.pointer (some ⟨w.heap.size,0,none⟩)) := by
 have hbase : base <= w.heap.size := Nat.le_trans hi.hb hi.low.size
 have hg : Grows g (g.newBox w.heap.size) := ⟨fun _ _ h => h,fun l b h => by
  simp only [Gh.newBox]; rw [gal (gsi.1 h).1]; exact h,rfl⟩
 have hmn : ∀ j,g.m ⟨w.heap.size,j,none⟩ = none := by
  intro j
  cases hm : g.m ⟨w.heap.size,j,none⟩ with
  | none => rfl
  | some v => have := m_lt hi hm; simp at this
 obtain ⟨h1,h2⟩ := inv_grow (w1 := w.alloc (.cells us T)) (g1 := g.newBox w.heap.size) (nbs := [cs]) (nbl := [w.heap.size]) hi (hi.low.alloc hbase _) hg
  (fun a v h => by
   have h' := hi.mem a v h
   rw [World.cell?_of_block (w := w) (heap_alloc_old w _ a.block (World.block_lt_of_cell? w a h'))]
   exact h')
  (fun b o' hb _ => ⟨heap_alloc_old w _ b (hi.own_lt b o' hb),by
   simp only [Gh.newBox]
   rw [if_neg]
   have := hi.own_lt b o' hb
   omega,fun _ => rfl⟩)
  (fun b o' hb => by
   simp only [Gh.newBox] at hb
   split at hb
   ·rename_i e
    subst e
    obtain rfl := sij hb
    exact .inr ⟨hbase,by simp,fun _ _ _ e => by cases e⟩
   ·exact .inl hb)
  (by simp) rfl rfl (by simp) (fun b hb => by
   simp only [List.mem_singleton] at hb
   subst hb
   rw [own_none hi (Nat.le_refl _)]
   exact fun e => by cases e)
  (fun l b bx h1 h2 => by
   cases l with
   | succ l => simp at h1
   | zero =>
    simp only [List.getElem?_cons_zero,sjE] at h1 h2
    subst h1; subst h2
    refine ⟨by simp [Gh.newBox],hmn,us,T,heap_alloc_new w _,hl,fun j c u hc hu => ?_⟩
    have := (hr j c u hc hu).grows hg
    cases c <;> first | exact this | exact this.elim)
 refine ⟨h1,h2,⟨w.heap.size,?_,rfl⟩⟩
 simp only [Gh.newBox]
 rw [gar (by rw [hi.blen]; exact Nat.le_refl _),hi.blen]
 simp
theorem zero_rel {m : Addr -> Option Value} {x : D} (h : x.zeroOk = true) : RelD m x x.toValue := by
 cases x with
 | lit v => exact .lit v h
 | nil => exact .nil none
 | sl => cases h
 | any => cases h
theorem relC_dat {x : D} {u : Value} (h : RelD g.m x u) : RelC g (.dat x) u := by
 cases x with
 | lit v => cases h; rfl
 | nil => exact h
 | sl => exact h
 | any => exact h
theorem zero_cells {i : TI} {z : Value} (hz : i.zero.all D.zeroOk = true) (h : z.cells.toList = i.zero.map D.toValue) :
  z.cells.size = (i.zero.map PV.dat).length /\ ∀ (j : Nat) c u,(i.zero.map PV.dat)[j]? = some c -> z.cells[j]? = some u -> RelC g c u := by
 refine ⟨by rw [<- Array.length_toList,h]; simp,fun j c u hc hu => ?_⟩
 rw [<- Array.getElem?_toList,h,List.getElem?_map] at hu
 rw [List.getElem?_map] at hc
 cases hx : i.zero[j]? with
 | none => rw [hx] at hc; cases hc
 | some x =>
  rw [hx] at hc hu
  obtain rfl := sij hc
  obtain rfl := sij hu
  exact relC_dat (zero_rel (List.all_eq_true.1 hz x (mog hx)))
theorem run_zeroValue {t : TypeId} {info : TypeInfo} {z : Value} (h1 : P.info? t = some info) (h2 : info.zero = some z) : (zeroValue t).run P w = .ok z w := by
 simp [zeroValue,typeInfo,h1,h2]
theorem zeros_cells {t : TypeId} {i : TI} {us : Array Value} (h : us.size = (i.zero.map PV.dat).length /\ ∀ (j : Nat) c u,(i.zero.map PV.dat)[j]? = some c -> us[j]? = some u -> RelC g c u) :
  us.size = (zeros cfg t i).length /\ ∀ (j : Nat) c u,(zeros cfg t i)[j]? = some c -> us[j]? = some u -> RelC g c u := h
theorem alloc_sound (hc : CfgOk P cfg) (hi : Inv base w0 w g d s vals) {t : TypeId} (ho : o.op = .alloc t) {s' : St}
  (h : (seqO (cfg.ti t) fun i => some (put { s with bx := s.bx ++ [zeros cfg t i] } o.dst (.ptr s.bx.length 0))) = some s') : Goes P o a base w0 w g d s vals s' := by
 obtain ⟨i,h1,h2⟩ := seqO_eq.1 h
 obtain rfl := sij h2
 have ht := hc.ti t i h1
 obtain ⟨info,z,q1,q2,q3,q4,q5⟩ := ht.info
 obtain ⟨r1,r2⟩ := zeros_cells (cfg := cfg) (t := t) (zero_cells (g := g) ht.zero q5)
 obtain ⟨k1,k2,k3⟩ := newbox_sound (T := t) hi r1 r2
 refine goes_of_pend (.inl ?_) k1 k2 k3
 simp only [execOp,ho,Instr.alloc,newVar,newRow,Sem.run_bind,run_zeroValue q1 q4,Result.andThen_ok,run_newObj,Sem.run_pure]
 rfl
theorem cells_rel {c : PV} {u : Value} {cs : List PV} (hr : RelA g c u) (hc : c.cells = some cs) (hall : cs.all isCell = true) :
  u.cells.size = cs.length /\ ∀ (j : Nat) x v,cs[j]? = some x -> u.cells[j]? = some v -> RelC g x v := by
 have one : ∀ (x : PV),cs = [x] -> RelC g x u -> u.oneCell' = true -> u.cells.size = cs.length /\ ∀ (j : Nat) x v,cs[j]? = some x -> u.cells[j]? = some v -> RelC g x v := by
  intro x e hx h1
  subst e
  have hu : u.cells = #[u] := by cases u <;> first | rfl | cases h1
  rw [hu]
  refine ⟨rfl,fun j y v hy hv => ?_⟩
  cases j with
  | succ j => simp at hy
  | zero =>
   simp only [List.getElem?_cons_zero,sjE] at hy
   simp at hv
   subst hy; subst hv
   exact hx
 cases c with
 | dat x =>
  cases x with
  | lit v =>
   simp only [PV.cells] at hc
   split at hc
   ·rename_i h1
    obtain rfl := sij hc
    have : u = v := hr
    exact one _ rfl hr (by rw [this]; exact h1)
   ·cases hc
  | nil => obtain rfl := sij hc; exact one _ rfl hr (RelD.oneCell hr)
  | sl k xs => obtain rfl := sij hc; exact one _ rfl hr (RelD.oneCell hr)
  | any => obtain rfl := sij hc; exact one _ rfl hr (RelD.oneCell hr)
 | ptr l off => obtain rfl := sij hc; exact one _ rfl hr (by obtain ⟨b,_,rfl⟩ := hr; rfl)
 | iptr x off => obtain rfl := sij hc; exact one _ rfl hr (by obtain ⟨b,_,_,rfl,_⟩ := hr; rfl)
 | clo f cap => obtain rfl := sij hc; exact one _ rfl hr (by obtain ⟨us,rfl,_⟩ := hr; rfl)
 | agg x =>
  obtain rfl := sij hc
  obtain ⟨us,rfl,h2,h3⟩ := hr
  refine ⟨by simpa [Value.cells] using h2,fun j y v hy hv => h3 j y v hy (by simpa [Value.cells] using hv)⟩
 | _ => exact hr.elim
theorem box_sound (hi : Inv base w0 w g d s vals) (hgl : GlobOk cfg g) (ha : a.tmps = vals) {t : TypeId} {x : Operand} (ho : o.op = .box t x) {s' : St}
  (h : (seqO (fetch cfg .copy x s) fun p => seqO p.1.cells fun cs => if cs.all isCell then some (put { p.2 with bx := p.2.bx ++ [cs] } o.dst (.ptr p.2.bx.length 0)) else none) = some s') :
  Goes P o a base w0 w g d s vals s' := by
 obtain ⟨⟨pv,s1⟩,h1,h2⟩ := seqO_eq.1 h
 obtain ⟨cs,h3,h4⟩ := seqO_eq.1 h2
 split at h4
 ·rename_i hall
  obtain rfl := sij h4
  obtain ⟨g1,i1,st1,_,r1⟩ := fetch_sound hi hgl h1 ha
  obtain ⟨c1,c2⟩ := cells_rel (r1 rfl) h3 hall
  obtain ⟨k1,k2,k3⟩ := newbox_sound (T := t) i1 c1 fun j c u h1 h2 => c2 j c u h1 h2
  refine goes_of_pend (.inl ?_) k1 (st1.trans k2) k3
  simp only [execOp,ho,Instr.box,newVar,newRow,Sem.run_bind,Result.andThen_ok,run_newObj,Sem.run_pure]
  rfl
 ·cases h4
end
end Go.Vx
