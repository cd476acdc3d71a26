/- Processes as lists of nodes and flows; what is asked of one; what is reached. No condition. -/
import Derived.Test.YtifckjhggamefaaGreatDoorHb
import Derived.Test.YtifckjhggamefaaGreatDoorHf
set_option linter.unusedSimpArgs false
set_option linter.unusedVariables false
set_option linter.unusedSectionVars false
namespace Go.Proofs.YtifckjhggamefaaGreatDoor
open Go Go.Vx
structure Nd where
 k : Int
 a : Int
 t : Trm
structure Fl where
 fr : Int
 to : Int
 els : Bool
 c : Trm
structure Nt where
 nodes : List Nd
 flows : List Fl
def IsNd (x : Nd) (r : List D) : Prop := i64 x.k /\ i64 x.a /\ ∃ op n K,r = [dI x.k,dI x.a,dI op,dI n,K] /\ IsT x.t op n K
def IsFl (x : Fl) (r : List D) : Prop := i64 x.fr /\ i64 x.to /\ ∃ op n K,r = [dI x.fr,dI x.to,.lit (.bool x.els),dI op,dI n,K] /\ IsT x.c op n K
def AreR {α : Type} (p : α -> List D -> Prop) (xs : List α) (rows : List (List D)) : Prop := rows.length = xs.length /\ ∀ (i : Nat) x,xs[i]? = some x -> ∃ r,rows[i]? = some r /\ p x r
def IsN (n : Nt) (N F : D) : Prop := ∃ nr fr,IsS 5 nr N /\ AreR IsNd n.nodes nr /\ n.nodes.length < 9223372036854775808 /\ IsS 6 fr F /\ AreR IsFl n.flows fr /\ n.flows.length < 9223372036854775808
theorem AreR.get {α : Type} {p : α -> List D -> Prop} {xs : List α} {rows : List (List D)} (h : AreR p xs rows) {i : Nat} (hi : i < xs.length) : ∃ r,rows[i]? = some r /\ p xs[i] r := h.2 i xs[i] (by simp [hi])
def idxs {α : Type} (p : α -> Bool) : Nat -> List α -> List Nat
 | _,[] => []
 | k,x :: xs => if p x = true then k :: idxs p (k + 1) xs else idxs p (k + 1) xs
theorem mem_idxs {α : Type} (p : α -> Bool) : ∀ (xs : List α) (k j : Nat),j ∈ idxs p k xs ↔ k <= j /\ ∃ x,xs[j - k]? = some x /\ p x = true
 | [],k,j => by simp [idxs]
 | x :: xs,k,j => by
  rw [idxs]
  have ih := mem_idxs p xs (k + 1) j
  constructor
  ·intro h
   split at h
   ·rename_i hx
    rcases List.mem_cons.1 h with rfl | h
    ·exact ⟨Nat.le_refl _,x,by simp,hx⟩
    ·obtain ⟨h1,y,h2,h3⟩ := ih.1 h
     refine ⟨by omega,y,?_,h3⟩
     rw [show j - k = (j - (k + 1)) + 1 by omega]; simpa using h2
   ·obtain ⟨h1,y,h2,h3⟩ := ih.1 h
    refine ⟨by omega,y,?_,h3⟩
    rw [show j - k = (j - (k + 1)) + 1 by omega]; simpa using h2
  ·rintro ⟨h1,y,h2,h3⟩
   by_cases e : j = k
   ·subst e
    simp at h2; subst h2
    rw [if_pos h3]; exact mcs
   ·have : j ∈ idxs p (k + 1) xs := ih.2 ⟨by omega,y,by rw [show j - k = (j - (k + 1)) + 1 by omega] at h2; simpa using h2,h3⟩
    split
    ·exact mcm _ this
    ·exact this
theorem idxs_len {α : Type} (p : α -> Bool) : ∀ (xs : List α) (k : Nat),(idxs p k xs).length <= xs.length
 | [],k => by simp [idxs]
 | x :: xs,k => by
  rw [idxs]
  have := idxs_len p xs (k + 1)
  split <;> simp <;> omega
def noneT : Trm -> Bool
 | .mk op n ks => op == 0 && n == 0 && ks.isEmpty
def insN (n : Nt) (i : Int) : List Nat := idxs (fun f => f.to == i) 0 n.flows
def outsN (n : Nt) (i : Int) : List Nat := idxs (fun f => f.fr == i) 0 n.flows
def inN (n : Nt) (i : Int) : Bool := decide (0 <= i) && decide (i < n.nodes.length)
def kindN (n : Nt) (i : Int) : Int := if i < 0 then 0 else match n.nodes[i.toNat]? with
 | some x => x.k
 | none => 0
def toN (n : Nt) (k : Nat) : Int := match n.flows[k]? with
 | some f => f.to
 | none => 0
def elsN (n : Nt) (k : Nat) : Bool := match n.flows[k]? with
 | some f => f.els
 | none => false
def most (k : Int) : Int := if k = 3 then 3 else if k = 8 then 4 else 0
section
variable (ofT : Trm -> Int -> Bool)
def rightN (x : Nd) : Bool :=
 if x.k = 4 then ofT x.t 1 && (decide (0 <= x.a) && decide (x.a <= 3))
 else (decide (1 <= x.k) && decide (x.k <= 8)) && ((decide (0 <= x.a) && decide (x.a <= most x.k)) && noneT x.t)
def leadsN (n : Nt) (f : Fl) : Bool :=
 inN n f.fr && inN n f.to && (f.fr != f.to) &&
  (if kindN n f.fr ≠ 5 ∨ (outsN n f.fr).length < 2 then !f.els && noneT f.c else if f.els = true then noneT f.c else ofT f.c 2)
end
def linkedN (n : Nt) (i : Int) : Bool :=
 let ins := (insN n i).length
 let outs := outsN n i
 let elses := (outs.filter (elsN n)).length
 let k := kindN n i
 if k = 1 then ins == 0 && outs.length == 1
 else if k = 2 then ins == 1 && outs.length == 0
 else if k = 7 then ins == 1 && (decide (1 < outs.length) && outs.all fun f => kindN n (toN n f) == 8)
 else if k = 5 then ins == 1 && decide (1 < outs.length) && elses == 1 || decide (1 < ins) && outs.length == 1
 else if k = 6 then ins == 1 && decide (1 < outs.length) || decide (1 < ins) && outs.length == 1
 else ins == 1 && outs.length == 1
def firstK (k : Int) : Int -> List Nd -> Int
 | _,[] => -1
 | i,x :: xs => if x.k = k then i else firstK k (i + 1) xs
def startN (n : Nt) : Int := firstK 1 0 n.nodes
def endN (n : Nt) : Int := firstK 2 0 n.nodes
theorem firstK_ge (k : Int) : ∀ (xs : List Nd) (i : Int),firstK k i xs = -1 ∨ (i <= firstK k i xs /\ firstK k i xs < i + xs.length)
 | [],i => .inl rfl
 | x :: xs,i => by
  rw [firstK]
  split
  ·right; simp; omega
  ·rcases firstK_ge k xs (i + 1) with h | h
   ·exact .inl h
   ·right; simp; omega
theorem firstK_le (k : Int) : ∀ (xs : List Nd) (i : Int) (j : Nat) (x : Nd),xs[j]? = some x -> x.k = k -> 0 <= i -> 0 <= firstK k i xs /\ firstK k i xs <= i + j
 | [],i,j,x,h,_,_ => by simp at h
 | y :: ys,i,j,x,h,hk,hi => by
  rw [firstK]
  split
  ·omega
  ·rename_i hy
   cases j with
   | zero => simp at h; subst h; exact absurd hk hy
   | succ j =>
    have := firstK_le k ys (i + 1) j x (by simpa using h) hk (by omega)
    omega
inductive Rch (e : Int -> Int -> Prop) (a : Int) : Int -> Prop
 | refl : Rch e a a
 | step {b c : Int} : Rch e a b -> e b c -> Rch e a c
theorem Rch.head {e : Int -> Int -> Prop} {a b c : Int} (h : e a b) (h2 : Rch e b c) : Rch e a c := by
 induction h2 with
 | refl => exact .step .refl h
 | step _ h4 ih => exact .step ih h4
theorem Rch.flip {e : Int -> Int -> Prop} {a b : Int} (h : Rch e a b) : Rch (fun x y => e y x) b a := by
 induction h with
 | refl => exact .refl
 | step _ h4 ih => exact .head h4 ih
def Edge (n : Nt) (x y : Int) : Prop := ∃ f ∈ n.flows,f.fr = x /\ f.to = y
def EdgeB (n : Nt) (back : Bool) (x y : Int) : Prop := if back = true then Edge n y x else Edge n x y
def nextF (back : Bool) (i : Int) (f : Fl) : Option Int := if back = true then (if f.to = i then some f.fr else none) else if f.fr = i then some f.to else none
theorem mem_next {n : Nt} {back : Bool} {i t : Int} : t ∈ n.flows.filterMap (nextF back i) ↔ EdgeB n back i t := by
 simp only [List.mem_filterMap,EdgeB,Edge,nextF]
 cases back
 ·simp only [Bool.false_eq_true,if_false]
  constructor
  ·rintro ⟨f,hf,h⟩
   split at h
   ·rename_i e; exact ⟨f,hf,e,by simpa using h⟩
   ·cases h
  ·rintro ⟨f,hf,e,h⟩; exact ⟨f,hf,by rw [if_pos e,h]⟩
 ·simp only [if_true]
  constructor
  ·rintro ⟨f,hf,h⟩
   split at h
   ·rename_i e; exact ⟨f,hf,by simpa using h,e⟩
   ·cases h
  ·rintro ⟨f,hf,h,e⟩; exact ⟨f,hf,by rw [if_pos e,h]⟩
structure MetInv (n : Nt) (back : Bool) (a : Int) (todo : List Int) (seen : List Bool) : Prop where
 len : seen.length = n.nodes.length
 rng : ∀ t ∈ todo,0 <= t /\ t < n.nodes.length
 snd : ∀ (i : Nat),seen[i]? = some true -> Rch (EdgeB n back) a i
 snd2 : ∀ t ∈ todo,Rch (EdgeB n back) a t
 cls : ∀ (i : Nat),seen[i]? = some true -> ∀ t,EdgeB n back i t -> t ∈ todo ∨ seen[t.toNat]? = some true
 here : a ∈ todo ∨ seen[a.toNat]? = some true
theorem MetInv.skip {n : Nt} {back : Bool} {a t : Int} {todo : List Int} {seen : List Bool} (h : MetInv n back a (t :: todo) seen) (hs : seen[t.toNat]? = some true) : MetInv n back a todo seen where
 len := h.len
 rng := fun x hx => h.rng x (mcm _ hx)
 snd := h.snd
 snd2 := fun x hx => h.snd2 x (mcm _ hx)
 cls := fun i hi x hx => by
  rcases h.cls i hi x hx with h1 | h1
  ·rcases List.mem_cons.1 h1 with rfl | h1
   ·exact .inr hs
   ·exact .inl h1
  ·exact .inr h1
 here := by
  rcases h.here with h1 | h1
  ·rcases List.mem_cons.1 h1 with rfl | h1
   ·exact .inr hs
   ·exact .inl h1
  ·exact .inr h1
theorem MetInv.visit {n : Nt} {back : Bool} {a t : Int} {todo : List Int} {seen : List Bool} (hr : ∀ f ∈ n.flows,(0 <= f.fr /\ f.fr < n.nodes.length) /\ 0 <= f.to /\ f.to < n.nodes.length) (h : MetInv n back a (t :: todo) seen) :
  MetInv n back a (todo ++ n.flows.filterMap (nextF back t)) (seen.set t.toNat true) where
 len := by simp [h.len]
 rng := fun x hx => by
  rcases List.mem_append.1 hx with hx | hx
  ·exact h.rng x (mcm _ hx)
  ·obtain ⟨f,hf,e⟩ := List.mem_filterMap.1 hx
   have := hr f hf
   simp only [nextF] at e
   split at e <;> split at e <;> simp at e <;> subst e <;> omega
 snd := fun i hi => by
  by_cases e : t.toNat = i
  ·have h0 := h.rng t mcs
   have := h.snd2 t mcs
   rw [<- e,show ((t.toNat : Nat) : Int) = t by omega]; exact this
  ·rw [List.getElem?_set_ne e] at hi; exact h.snd i hi
 snd2 := fun x hx => by
  rcases List.mem_append.1 hx with hx | hx
  ·exact h.snd2 x (mcm _ hx)
  ·exact .step (h.snd2 t mcs) (mem_next.1 hx)
 cls := fun i hi x hx => by
  have h0 := h.rng t mcs
  have hlt : t.toNat < seen.length := by rw [h.len]; omega
  by_cases e : t.toNat = i
  ·left
   rw [<- e,show ((t.toNat : Nat) : Int) = t by omega] at hx
   exact List.mem_append_right _ (mem_next.2 hx)
  ·rw [List.getElem?_set_ne e] at hi
   rcases h.cls i hi x hx with h1 | h1
   ·rcases List.mem_cons.1 h1 with rfl | h1
    ·right; rw [gss hlt]
    ·exact .inl (List.mem_append_left _ h1)
   ·right
    by_cases e2 : t.toNat = x.toNat
    ·rw [<- e2,gss hlt]
    ·rw [List.getElem?_set_ne e2]; exact h1
 here := by
  have h0 := h.rng t mcs
  have hlt : t.toNat < seen.length := by rw [h.len]; omega
  rcases h.here with h1 | h1
  ·rcases List.mem_cons.1 h1 with rfl | h1
   ·right; rw [gss hlt]
   ·exact .inl (List.mem_append_left _ h1)
  ·right
   by_cases e2 : t.toNat = a.toNat
   ·rw [<- e2,gss hlt]
   ·rw [List.getElem?_set_ne e2]; exact h1
theorem MetInv.done {n : Nt} {back : Bool} {a : Int} {seen : List Bool} (hr : ∀ f ∈ n.flows,(0 <= f.fr /\ f.fr < n.nodes.length) /\ 0 <= f.to /\ f.to < n.nodes.length) (ha : 0 <= a) (h : MetInv n back a [] seen) (i : Nat) :
  seen[i]? = some true ↔ Rch (EdgeB n back) a i := by
 refine ⟨h.snd i,fun hi => ?_⟩
 have key : ∀ x : Int,Rch (EdgeB n back) a x -> 0 <= x /\ seen[x.toNat]? = some true := by
  intro x hx
  induction hx with
  | refl =>
   rcases h.here with h1 | h1
   ·cases h1
   ·exact ⟨ha,h1⟩
  | @step b c h1 h2 ih =>
   have e : ((b.toNat : Nat) : Int) = b := by have := ih.1; omega
   have hc : 0 <= c := by
    simp only [EdgeB,Edge] at h2
    split at h2 <;> obtain ⟨f,hf,h3,h4⟩ := h2 <;> have := hr f hf <;> omega
   rcases h.cls b.toNat ih.2 c (by rw [e]; exact h2) with h3 | h3
   ·cases h3
   ·exact ⟨hc,h3⟩
 have := (key i hi).2
 simpa using this
def unseen : List Bool -> Nat
 | [] => 0
 | b :: bs => (if b = true then 0 else 1) + unseen bs
theorem unseen_set : ∀ (bs : List Bool) (i : Nat),bs[i]? = some false -> unseen (bs.set i true) + 1 = unseen bs
 | [],i,h => by simp at h
 | b :: bs,0,h => by simp at h; subst h; simp [unseen]; omega
 | b :: bs,i + 1,h => by
  have := unseen_set bs i (by simpa using h)
  simp [unseen]; omega
theorem unseen_le : ∀ (bs : List Bool),unseen bs <= bs.length
 | [] => by simp [unseen]
 | b :: bs => by have := unseen_le bs; cases b <;> simp [unseen] <;> omega
theorem set_seen : ∀ (bs : List Bool) (i : Nat),bs[i]? = some true -> bs.set i true = bs
 | [],_,h => by simp at h
 | b :: bs,0,h => by simp at h; subst h; rfl
 | b :: bs,i + 1,h => by simp [set_seen bs i (by simpa using h)]
def passF (o : List Bool) (f : Fl) : List Bool := if o[f.fr.toNat]? = some true then o.set f.to.toNat true else o
def pass (fs : List Fl) (o : List Bool) : List Bool := fs.foldl passF o
def passes (fs : List Fl) : Nat -> List Bool -> List Bool
 | 0,o => o
 | k + 1,o => passes fs k (pass fs o)
theorem passF_len (o : List Bool) (f : Fl) : (passF o f).length = o.length := by rw [passF]; split <;> simp
theorem pass_len : ∀ (fs : List Fl) (o : List Bool),(pass fs o).length = o.length
 | [],o => rfl
 | f :: fs,o => by show (pass fs (passF o f)).length = _; rw [pass_len fs,passF_len]
theorem passF_mono (o : List Bool) (f : Fl) (i : Nat) (h : o[i]? = some true) : (passF o f)[i]? = some true := by
 rw [passF]
 split
 ·have hlt := (gsi.1 h).1
  by_cases e : f.to.toNat = i
  ·rw [e,gss hlt]
  ·rw [List.getElem?_set_ne e]; exact h
 ·exact h
theorem pass_mono : ∀ (fs : List Fl) (o : List Bool) (i : Nat),o[i]? = some true -> (pass fs o)[i]? = some true
 | [],o,i,h => h
 | f :: fs,o,i,h => pass_mono fs (passF o f) i (passF_mono o f i h)
def Closed (fs : List Fl) (o : List Bool) : Prop := ∀ f ∈ fs,o[f.fr.toNat]? = some true -> o[f.to.toNat]? = some true
theorem pass_or : ∀ (fs : List Fl) (o : List Bool),(∀ f ∈ fs,f.to.toNat < o.length) -> unseen (pass fs o) < unseen o ∨ (pass fs o = o /\ Closed fs o)
 | [],o,_ => .inr ⟨rfl,fun f hf => by cases hf⟩
 | f :: fs,o,hr => by
  have hr' : ∀ g ∈ fs,g.to.toNat < (passF o f).length := fun g hg => by rw [passF_len]; exact hr g (mcm _ hg)
  have ih := pass_or fs (passF o f) hr'
  have e : pass (f :: fs) o = pass fs (passF o f) := rfl
  rw [e]
  by_cases h1 : o[f.fr.toNat]? = some true
  ·cases h2 : o[f.to.toNat]'(hr f mcs) with
   | true =>
    have h3 : o[f.to.toNat]? = some true := by rw [gge (hr f mcs),h2]
    have e2 : passF o f = o := by rw [passF,if_pos h1,set_seen _ _ h3]
    rw [e2] at ih ⊢
    rcases ih with h | ⟨h,h4⟩
    ·exact .inl h
    ·refine .inr ⟨h,fun g hg => ?_⟩
     rcases List.mem_cons.1 hg with rfl | hg
     ·exact fun _ => h3
     ·exact h4 g hg
   | false =>
    have h3 : o[f.to.toNat]? = some false := by rw [gge (hr f mcs),h2]
    have e2 : passF o f = o.set f.to.toNat true := by rw [passF,if_pos h1]
    have := unseen_set _ _ h3
    left
    rw [e2] at ih ⊢
    rcases ih with h | ⟨h,_⟩
    ·omega
    ·rw [h]; omega
  ·have e2 : passF o f = o := by rw [passF,if_neg h1]
   rw [e2] at ih ⊢
   rcases ih with h | ⟨h,h4⟩
   ·exact .inl h
   ·refine .inr ⟨h,fun g hg => ?_⟩
    rcases List.mem_cons.1 hg with rfl | hg
    ·exact fun h => absurd h h1
    ·exact h4 g hg
theorem passes_fix (fs : List Fl) : ∀ (k : Nat) (o : List Bool),pass fs o = o -> passes fs k o = o
 | 0,_,_ => rfl
 | k + 1,o,h => by rw [passes,h]; exact passes_fix fs k o h
theorem passes_closed (fs : List Fl) : ∀ (k : Nat) (o : List Bool),(∀ f ∈ fs,f.to.toNat < o.length) -> unseen o < k -> Closed fs (passes fs k o)
 | 0,_,_,h => by omega
 | k + 1,o,hr,h => by
  rcases pass_or fs o hr with h1 | ⟨h1,h2⟩
  ·rw [passes]
   exact passes_closed fs k _ (fun f hf => by rw [pass_len]; exact hr f hf) (by omega)
  ·rw [passes_fix fs (k + 1) o h1]; exact h2
theorem passes_mono (fs : List Fl) : ∀ (k : Nat) (o : List Bool) (i : Nat),o[i]? = some true -> (passes fs k o)[i]? = some true
 | 0,_,_,h => h
 | k + 1,o,i,h => passes_mono fs k _ i (pass_mono fs o i h)
theorem pass_snd {n : Nt} {a : Int} (hr : ∀ f ∈ n.flows,(0 <= f.fr /\ f.fr < n.nodes.length) /\ 0 <= f.to /\ f.to < n.nodes.length) : ∀ (fs : List Fl) (o : List Bool),(∀ f ∈ fs,f ∈ n.flows) -> (∀ i : Nat,o[i]? = some true -> Rch (Edge n) a i) -> ∀ i : Nat,(pass fs o)[i]? = some true -> Rch (Edge n) a i
 | [],_,_,h => h
 | f :: fs,o,hs,h => by
  refine pass_snd hr fs (passF o f) (fun g hg => hs g (mcm _ hg)) fun i hi => ?_
  rw [passF] at hi
  split at hi
  ·rename_i h1
   by_cases e : f.to.toNat = i
   ·have h2 := hr f (hs f mcs)
    have h3 := h _ h1
    refine .step h3 ⟨f,hs f mcs,by omega,by omega⟩
   ·rw [List.getElem?_set_ne e] at hi; exact h i hi
  ·exact h i hi
theorem passes_snd {n : Nt} {a : Int} (hr : ∀ f ∈ n.flows,(0 <= f.fr /\ f.fr < n.nodes.length) /\ 0 <= f.to /\ f.to < n.nodes.length) : ∀ (k : Nat) (o : List Bool),(∀ i : Nat,o[i]? = some true -> Rch (Edge n) a i) -> ∀ i : Nat,(passes n.flows k o)[i]? = some true -> Rch (Edge n) a i
 | 0,_,h => h
 | k + 1,o,h => passes_snd hr k _ (pass_snd hr n.flows o (fun _ h => h) h)
theorem reach_iff {n : Nt} (a : Nat) (ha : a < n.nodes.length) (hr : ∀ f ∈ n.flows,(0 <= f.fr /\ f.fr < n.nodes.length) /\ 0 <= f.to /\ f.to < n.nodes.length) (i : Nat) :
  (passes n.flows n.nodes.length ((List.replicate n.nodes.length false).set a true))[i]? = some true ↔ Rch (Edge n) a i := by
 have hl : ((List.replicate n.nodes.length false).set a true).length = n.nodes.length := by simp
 have h0 : ((List.replicate n.nodes.length false).set a true)[a]? = some true := gss (by simpa using ha)
 constructor
 ·refine passes_snd hr _ _ (fun j hj => ?_) i
  by_cases e : a = j
  ·subst e; exact .refl
  ·rw [List.getElem?_set_ne e,List.getElem?_replicate] at hj
   split at hj <;> simp at hj
 ·have hu : unseen ((List.replicate n.nodes.length false).set a true) < n.nodes.length := by
   have h1 := unseen_set (List.replicate n.nodes.length false) a (by simp [ha])
   have h2 := unseen_le (List.replicate n.nodes.length false)
   simp at h2; omega
  have hc := passes_closed n.flows n.nodes.length _ (fun f hf => by rw [hl]; have := hr f hf; omega) hu
  have key : ∀ x : Int,Rch (Edge n) a x -> 0 <= x /\ (passes n.flows n.nodes.length ((List.replicate n.nodes.length false).set a true))[x.toNat]? = some true := by
   intro x hx
   induction hx with
   | refl => exact ⟨by omega,by simpa using passes_mono n.flows n.nodes.length _ a h0⟩
   | @step b c h1 h2 ih =>
    obtain ⟨f,hf,e1,e2⟩ := h2
    have := hr f hf
    refine ⟨by omega,?_⟩
    rw [<- e2]
    exact hc f hf (by rw [e1]; exact ih.2)
  intro h
  simpa using (key i h).2
def lgT (m d : Int) : Trm -> Bool × Int
 | .mk _ _ ks => if (decide (m - 1 < 0) || decide (d > 40) || decide ((ks.length : Int) > 50)) = true then (true,m - 1) else lgs (m - 1) (d + 1) ks
where
 lgs (m d : Int) : List Trm -> Bool × Int
 | [] => (false,m)
 | b :: bs => if (lgT m d b).1 = true then (true,(lgT m d b).2) else lgs (lgT m d b).2 d bs
theorem lgT_ge : ∀ (b : Trm) (m d : Int),m - (lgT m d b).2 >= 1
 | .mk op n ks,m,d => by
  rw [lgT]
  split
  ·show m - (m - 1) >= 1; omega
  ·have := go ks (m - 1) (d + 1); omega
where
 go : ∀ (bs : List Trm) (m d : Int),m - (lgT.lgs m d bs).2 >= 0
 | [],m,d => by rw [lgT.lgs]; show m - m >= 0; omega
 | b :: bs,m,d => by
  rw [lgT.lgs]
  have h1 := lgT_ge b m d
  split
  ·show m - (lgT m d b).2 >= 0; omega
  ·have := go bs (lgT m d b).2 d; omega
theorem lgT_lo : ∀ (b : Trm) (m d : Int),¬ (lgT m d b).1 = true -> -1 <= (lgT m d b).2
 | .mk op n ks,m,d,h => by
  rw [lgT] at h ⊢
  split at h
  ·exact absurd rfl h
  ·rename_i hc
   rw [if_neg hc]
   simp only [Bool.or_eq_true,dqE,not_or] at hc
   exact go ks (m - 1) (d + 1) (by omega) h
where
 go : ∀ (bs : List Trm) (m d : Int),-1 <= m -> ¬ (lgT.lgs m d bs).1 = true -> -1 <= (lgT.lgs m d bs).2
 | [],m,d,hm,_ => by rw [lgT.lgs]; exact hm
 | b :: bs,m,d,hm,h => by
  rw [lgT.lgs] at h ⊢
  split at h
  ·exact absurd rfl h
  ·rename_i hc
   rw [if_neg hc]
   exact go bs _ d (lgT_lo b m d hc) h
theorem lgT_size : ∀ (b : Trm) (m d : Int),¬ (lgT m d b).1 = true -> sizeT b <= m - (lgT m d b).2
 | .mk op n ks,m,d,h => by
  rw [lgT] at h ⊢
  split at h
  ·exact absurd rfl h
  ·rename_i hc
   rw [if_neg hc,sizeT]
   have := go ks (m - 1) (d + 1) h
   omega
where
 go : ∀ (bs : List Trm) (m d : Int),¬ (lgT.lgs m d bs).1 = true -> sizeT.go bs <= m - (lgT.lgs m d bs).2
 | [],m,d,_ => by rw [sizeT.go,lgT.lgs]; show 0 <= m - m; omega
 | b :: bs,m,d,h => by
  rw [lgT.lgs] at h ⊢
  split at h
  ·exact absurd rfl h
  ·rename_i hc
   rw [if_neg hc,sizeT.go]
   have h1 := lgT_size b m d hc
   have h2 := go bs _ d h
   omega
def lgL (m : Int) (ts : List Trm) : Bool × Int := lgT.lgs m 1 ts
def termsN (n : Nt) : List Trm := n.nodes.map (·.t) ++ n.flows.map (·.c)
def largeN (n : Nt) : Bool := decide ((n.nodes.length : Int) > 30) || (decide ((n.flows.length : Int) > 50) || (lgL 2000 (termsN n)).1)
theorem size_mem : ∀ (bs : List Trm) {t : Trm},t ∈ bs -> sizeT t <= sizeT.go bs
 | [],_,h => by cases h
 | b :: bs,t,h => by
  rw [sizeT.go]
  have := sizeT_pos b
  have h0 := sizeT_pos.go bs
  rcases List.mem_cons.1 h with rfl | h
  ·omega
  ·have := size_mem bs h; omega
theorem large_size {n : Nt} (h : largeN n = false) : n.nodes.length <= 30 /\ n.flows.length <= 50 /\ ∀ t ∈ termsN n,sizeT t <= 3000 := by
 simp only [largeN,Bool.or_eq_false_iff,decide_eq_false_iff_not] at h
 refine ⟨by omega,by omega,fun t ht => ?_⟩
 have h1 : ¬ (lgL 2000 (termsN n)).1 = true := by rw [h.2.2]; decide
 have h2 := lgT_size.go (termsN n) 2000 1 h1
 have h3 := lgT_lo.go (termsN n) 2000 1 (by omega) h1
 have h4 := size_mem _ ht
 simp only [lgL] at h1
 omega
set_option maxRecDepth 10000
def sizeB : Blk -> Int
 | .mk _ _ _ ks _ => 1 + go ks
where
 go : List Blk -> Int
 | [] => 0
 | b :: bs => sizeB b + go bs
def deepB : Blk -> Int
 | .mk _ _ _ ks _ => go 0 ks + 1
where
 go (m : Int) : List Blk -> Int
 | [] => m
 | b :: bs => go (if m < deepB b then deepB b else m) bs
theorem sizeB_pos : ∀ b,1 <= sizeB b
 | .mk _ _ _ ks _ => by rw [sizeB]; have := go ks; omega
where
 go : ∀ bs,0 <= sizeB.go bs
 | [] => by rw [sizeB.go]; omega
 | b :: bs => by rw [sizeB.go]; have := sizeB_pos b; have := go bs; omega
theorem deepB_le : ∀ b,1 <= deepB b /\ deepB b <= sizeB b
 | .mk _ _ _ ks _ => by rw [sizeB,deepB]; have := go ks 0 (by omega); omega
where
 go : ∀ (bs : List Blk) (m : Int),0 <= m -> m <= deepB.go m bs /\ deepB.go m bs <= m + sizeB.go bs
 | [],m,h => by rw [sizeB.go,deepB.go]; omega
 | b :: bs,m,h => by
  rw [sizeB.go,deepB.go]
  have h1 := deepB_le b
  have h2 := sizeB_pos.go bs
  split
  ·have := go bs (deepB b) (by omega); omega
  ·have := go bs m h; omega
theorem isB_K {b : Blk} {k n a : Int} {K L : D} (h : IsB b k n a K L) : (∃ r,IsS 5 r K) /\ ∃ r,IsS 3 r L := by
 cases b
 rw [IsB] at h
 obtain ⟨_,_,_,_,_,_,rows,h1,_,_,h2,_⟩ := h
 exact ⟨⟨_,h1⟩,⟨_,h2⟩⟩
theorem deep_ev : ∀ (b : Blk) {k n a : Int} {K L : D},IsB b k n a K L -> sizeB b <= 1000000 -> Cq 71 [Wq k n a K L] (I (deepB b))
 | .mk k n a ks ls,_,_,_,K,L,h,hz,bx => by
  rw [IsB] at h
  obtain ⟨rfl,rfl,rfl,_,_,_,rows,hK,hks,hmax,hL,_,_⟩ := h
  have hd := deepB_le.go ks 0 (by omega)
  rw [sizeB] at hz
  rw [deepB]
  exact es (f57 hK hL (wrap_lo (by omega) (by omega)) fun c hc => loop ks (i := 0) (m := 0) hK rfl hks (by rw [isBs_len hks]; exact hmax) (by omega) hc)
where
 loop : ∀ (bs : List Blk) {rows rs : List (List D)} {K : D} {m : Int} {i : Nat} {bx : List Box} {c : Box},IsS 5 rows K -> rows.drop i = rs -> IsB.IsBs bs rs -> rows.length < 9223372036854775808 -> sizeB.go bs <= 1000000 -> c.all (cellLt (bx.length + 1)) = true →
  ev cfg (.loop 71 3 (qs bx (sh71_3 (I m) (.dat K) (I rows.length) (I i)) [c])) = some (.loop (.exit 0) (qs bx (se71_3 (I (deepB.go m bs))) [c]))
 | [],rows,rs,K,m,i,bx,c,hK,hr,hbs,hmax,hz,hc => by
  rw [IsB.IsBs] at hbs
  subst hbs
  rw [deepB.go]
  exact es (e57 hc (drop_nil hr))
 | b :: bs,rows,rs,K,m,i,bx,c,hK,hr,hbs,hmax,hz,hc => by
  rw [IsB.IsBs] at hbs
  obtain ⟨k,n,a,K',L',rest,rfl,hB,hrest⟩ := hbs
  obtain ⟨hget,hr',hlt⟩ := drop_cons hr
  rw [sizeB.go] at hz
  have p1 := sizeB_pos b
  have p2 := sizeB_pos.go bs
  rw [deepB.go]
  exact es ((r57 hK hc hget hlt hmax (isB_one hB).1 (isB_one hB).2 (deep_ev b hB (by omega))).trans (loop bs (i := i + 1) hK hr' hrest hmax (by omega) hc))
def eachB {σ : Type} (st : Blk -> σ -> σ) : Blk -> σ -> σ
 | .mk k n a ks ls,x => go ks (st (.mk k n a ks ls) x)
where
 go : List Blk -> σ -> σ
 | [],x => x
 | b :: bs,x => go bs (eachB st b x)
theorem each_ev {σ : Type} (em : σ -> Box) (st : Blk -> σ -> σ) (g : FuncId) (l : Nat)
  (hg : ∀ (b : Blk) (k n a : Int) (K L : D) (x : σ) (bx : List Box),IsB b k n a K L -> bx[l]? = some (em x) -> ev cfg (.call g [Wq k n a K L,.ptr l 0] bx) = some (.ret (.tup []) (some ⟨bx.set l (em (st b x)),l,false⟩))) :
  ∀ (b : Blk) {k n a : Int} {K L : D} {x : σ} {bx : List Box},IsB b k n a K L -> bx[l]? = some (em x) -> ev cfg (.call 76 [Wq k n a K L,.clo g [l]] bx) = some (.ret (.tup []) (some ⟨bx.set l (em (eachB st b x)),l,false⟩))
 | .mk _ _ _ ks ls,k,n,a,K,L,x,bx,h,hb => by
  have h0 := h
  rw [IsB] at h
  obtain ⟨rfl,rfl,rfl,_,_,_,rows,hK,hks,hmax,hL,_,_⟩ := h
  have hl : l < bx.length := (gsi.1 hb).1
  rw [eachB]
  refine es (f39 hK hL hl hb (fun bx' hb' => hg _ _ _ _ _ _ x bx' h0 hb') fun c hc => ?_)
  have := loop ks (bx := bx.set l (em (st (.mk k n a ks ls) x))) (x := st (.mk k n a ks ls) x) (i := 0) (c := c) hK rfl hks (by rw [isBs_len hks]; exact hmax) (by simp [hl]) (by simpa using hc) (some l) (.inr rfl) (.inl rfl)
  simp only [lls,List.set_set] at this
  exact this
where
 loop : ∀ (bs : List Blk) {rows rs : List (List D)} {K : D} {x : σ} {i : Nat} {bx : List Box} {c : Box},IsS 5 rows K -> rows.drop i = rs -> IsB.IsBs bs rs -> rows.length < 9223372036854775808 -> bx[l]? = some (em x) -> c.all (cellLt (bx.length + 1)) = true -> ∀ lo : Option Nat,lo = none ∨ lo = some l -> (lo = some l ∨ bs ≠ []) →
  ev cfg (.loop 76 3 ⟨(sh76_3 (.clo g [l]) (.dat K) (I rows.length) (I i)),bx ++ [c],bx.length,lo,false⟩) = some (.loop (.exit 0) ⟨(se76_3),bx.set l (em (eachB.go st bs x)) ++ [c],bx.length,some l,false⟩)
 | [],rows,rs,K,x,i,bx,c,hK,hr,hbs,hmax,hb,hc,lo,hlo,hne => by
  have hl : l < bx.length := (gsi.1 hb).1
  rw [IsB.IsBs] at hbs
  subst hbs
  rw [eachB.go,set_same hb]
  rcases hne with rfl | h
  ·exact es (e39 hl hc (drop_nil hr) _)
  ·exact absurd rfl h
 | b :: bs,rows,rs,K,x,i,bx,c,hK,hr,hbs,hmax,hb,hc,lo,hlo,_ => by
  have hl : l < bx.length := (gsi.1 hb).1
  rw [IsB.IsBs] at hbs
  obtain ⟨k,n,a,K',L',rest,rfl,hB,hrest⟩ := hbs
  obtain ⟨hget,hr',hlt⟩ := drop_cons hr
  rw [eachB.go]
  have h1 := r39 (g := g) hK hl hb hc hget hlt hmax (isB_one hB).1 (isB_one hB).2 lo hlo fun bx' hb' => each_ev em st g l hg b hB hb'
  have h2 := loop bs (bx := bx.set l (em (eachB st b x))) (x := eachB st b x) (i := i + 1) (c := c) hK hr' hrest hmax (by simp [hl]) (by simpa using hc) (some l) (.inr rfl) (.inl rfl)
  simp only [lls,List.set_set] at h2
  exact es (h1.trans h2)
end Go.Proofs.YtifckjhggamefaaGreatDoor
