/- The abstract interpreter of the model's code, and its soundness: a part. No condition. -/
import Derived.Test.YtifckjhggamefaaGreatDoorUe
import Derived.ChangeArms
import Derived.OpenShut
set_option linter.unusedSimpArgs false
set_option linter.unusedVariables false
set_option linter.unusedSectionVars false
namespace Go.Vx
open Go Go.RowKit
section
variable {cfg : Cfg} {g : Gh} {s : St} {o : Oper} {e : Job -> Option Out}
theorem fetchN_fetch {x : Operand} {v : PV} (h : fetchN cfg x s = some v) : fetch cfg .copy x s = some (v,s) := by
 unfold fetchN at h
 unfold fetch
 split at h
 ·rename_i k xs hv
  obtain rfl := sij h
  rw [hv]
  have : ∃ t,x = .tmp t := val_is_tmp hv (.inr (.inl ⟨_,_,_,rfl⟩))
  obtain ⟨t,rfl⟩ := this
  rfl
 ·cases h
 ·rename_i p hv
  rw [hv]
  simp only
  split at h
  ·rename_i k xs hp
   obtain rfl := sij h
   rw [hp]; rfl
  ·rename_i y hp
   obtain rfl := sij h
   rw [hp]; rfl
  ·cases h
 ·cases h
 ·cases h
 ·cases h
 ·cases h
 ·rename_i v' h1 h2 h3 h4 h5 hbg h6
  obtain rfl := sij h
  cases hv : s.val cfg x with
  | own ex k xs => cases ex with
   | true => exact absurd hv (h2 k xs)
   | false => exact absurd hv (h1 k xs)
  | «alias» p => exact absurd hv (h3 p)
  | eptr p k i j => exact absurd hv (h4 p k i j)
  | tup vs => exact absurd hv (h5 vs)
  | bag vs => exact absurd hv (hbg vs)
  | dead => exact absurd hv h6
  | _ => rfl
theorem fetchNs_fetchs : ∀ {xs : List Operand} {vs : List PV},fetchNs cfg xs s = some vs -> fetchs cfg .copy xs s = some (vs,s)
 | [],vs,h => by obtain rfl := sij h; rfl
 | x :: xs,vs,h => by
  simp only [fetchNs] at h
  obtain ⟨v,h1,h2⟩ := seqO_eq.1 h
  obtain ⟨vs',h3,h4⟩ := seqO_eq.1 h2
  obtain rfl := sij h4
  simp only [fetchs,fetchN_fetch h1,seqO,fetchNs_fetchs h3]
theorem len_same {ts : Array TypeId} {as : List Operand} {p : PV × St} (h : aBuiltin cfg .len ts as s = some p) : p.2 = s := by
 unfold aBuiltin at h
 split at h
 ·split at h
  ·obtain ⟨t,_,h⟩ := seqO_eq.1 h
   obtain ⟨i,_,h⟩ := seqO_eq.1 h
   split at h
   ·rw [<- sij h]
   ·cases h
  ·obtain ⟨t,_,h⟩ := seqO_eq.1 h
   obtain ⟨i,_,h⟩ := seqO_eq.1 h
   split at h
   ·obtain ⟨r,_,h⟩ := seqO_eq.1 h
    rw [<- sij h]
   ·cases h
 all_goals first | cases h | (rename_i hh; cases hh)
theorem load_same {t : TypeId} {v : PV} {p : PV × St} (hv : ∀ l off,v ≠ .ptr l off) (h : aLoad cfg t .alias v s = some p) : p.2 = s := by
 unfold aLoad at h
 obtain ⟨i,_,h⟩ := seqO_eq.1 h
 split at h
 ·split at h
  ·obtain ⟨c,_,h⟩ := seqO_eq.1 h; rw [<- sij h]
  ·obtain ⟨c,_,h⟩ := seqO_eq.1 h; rw [<- sij h]
 ·obtain ⟨q,_,h⟩ := seqO_eq.1 h
  split at h
  ·split at h
   ·obtain ⟨cs,_,h⟩ := seqO_eq.1 h
    split at h
    ·obtain ⟨c,_,h⟩ := seqO_eq.1 h; rw [<- sij h]
    ·obtain ⟨c,_,h⟩ := seqO_eq.1 h; rw [<- sij h]
   ·cases h
  ·cases h
 ·exact absurd rfl (hv _ _)
 ·cases h
theorem stays_rd {x : Operand} {p : Place} {ex : Bool} {k : Nat} {xs : List (List D)} (hst : stays cfg x s = true) (h : rd cfg x s = some (.at p ex k xs)) : ex = false := by
 unfold rd at h
 unfold stays at hst
 cases hv : s.val cfg x with
 | own ex' k' xs' =>
  rw [hv] at h hst
  cases x <;> simp only [sjE,Rd.at.injEq] at h <;> first | cases h; done | (obtain ⟨_,rfl,_⟩ := h; simpa using hst)
 | «alias» q =>
  rw [hv] at h hst
  simp only at h hst
  cases hq : s.at q with
  | own ex' k' xs' =>
   rw [hq] at h hst
   simp only [rdPV,sjE,Rd.at.injEq] at h
   obtain ⟨_,rfl,_⟩ := h
   simpa using hst
  | dat y => rw [hq] at h; cases y <;> simp [rdPV] at h
  | _ => rw [hq] at h; simp [rdPV] at h
 | dat y => rw [hv] at h; cases y <;> simp at h
 | _ => rw [hv] at h; simp at h
theorem slice_same {t : TypeId} {x : Operand} {lo hi mx : Option Operand} {p : PV × St} (hst : stays cfg x s = true) (h : aSlice cfg t .alias x lo hi mx s = some p) : p.2 = s := by
 unfold aSlice at h
 obtain ⟨l,_,h⟩ := seqO_eq.1 h
 split at h
 ·cases h
 ·obtain ⟨i,_,h⟩ := seqO_eq.1 h
  split at h
  ·split at h
   ·obtain ⟨hh,_,h⟩ := seqO_eq.1 h
    split at h
    ·rw [<- sij h]
    ·cases h
   ·cases h
  ·obtain ⟨j,_,h⟩ := seqO_eq.1 h
   obtain ⟨r,hr,h⟩ := seqO_eq.1 h
   obtain ⟨hh,_,h⟩ := seqO_eq.1 h
   split at h
   ·obtain ⟨m,_,h⟩ := seqO_eq.1 h
    split at h
    ·split at h
     ·rw [<- sij h]
     ·cases h
    ·split at h
     ·split at h
      ·rw [<- sij h]
      ·cases h
     ·rename_i q ex k xs
      have he := stays_rd hst hr
      subst he
      split at h
      ·simp only [Bool.false_eq_true,if_false,sjE] at h
       rw [<- h]
      ·cases h
   ·cases h
  ·cases h
theorem freeze_id (l : Nat) : ∀ (n off : Nat),(∀ j,j < n -> ∀ k xs,s.at (.cell l (off + j)) ≠ .own true k xs) -> freeze l off n s = s
 | 0,_,_ => rfl
 | n + 1,off,h => by
  have h0 := h 0 (by omega)
  rw [Nat.add_zero] at h0
  have ih := freeze_id l n (off + 1) fun j hj k xs => by rw [show off + 1 + j = off + (j + 1) by omega]; exact h (j + 1) (by omega) k xs
  unfold freeze
  split
  ·rename_i k xs hq; exact absurd hq (h0 k xs)
  ·exact ih
theorem aopN_aop {v : PV} (h : aopN cfg o s = some v) : aop cfg none o s = some (put s o.dst v) := by
 unfold aopN at h
 split at h
 ·rename_i x ho
  have hmt : moveTup cfg x s = none := by
   unfold moveTup
   split
   ·rename_i t vs hv
    rw [hv] at h
    cases h
   ·rfl
  unfold aop
  rw [ho]
  simp only [Option.getD_none,hmt]
  unfold fetch
  split at h
  ·rename_i ex k xs hv
   obtain ⟨t,rfl⟩ := val_is_tmp hv (.inr (.inl ⟨_,_,_,rfl⟩))
   obtain rfl := sij h
   rw [hv]; rfl
  ·cases h
  ·cases h
  ·cases h
  ·rename_i v' h1 h2 hbg h3
   obtain rfl := sij h
   cases hv : s.val cfg x with
   | own ex k xs => exact absurd hv (h1 ex k xs)
   | tup vs => exact absurd hv (h2 vs)
   | bag vs => exact absurd hv (hbg vs)
   | dead => exact absurd hv h3
   | _ => rfl
 ·rename_i x ho
  unfold aop
  rw [ho]
  simp only [Option.getD_none]
  unfold fetch
  cases hv : s.val cfg x with
  | «alias» p =>
   rw [hv] at h
   simp only at h ⊢
   cases hp : s.at p <;> rw [hp] at h <;> first | (obtain rfl := sij h; rfl) | cases h
  | own => rw [hv] at h; cases h
  | eptr => rw [hv] at h; cases h
  | tup => rw [hv] at h; cases h
  | bag => rw [hv] at h; cases h
  | dead => rw [hv] at h; cases h
  | dat => rw [hv] at h; obtain rfl := sij h; rfl
  | agg => rw [hv] at h; obtain rfl := sij h; rfl
  | ptr => rw [hv] at h; obtain rfl := sij h; rfl
  | iptr => rw [hv] at h; obtain rfl := sij h; rfl
  | clo => rw [hv] at h; obtain rfl := sij h; rfl
 ·rename_i t x lo hi mx ho
  unfold aop
  rw [ho]
  simp only [Option.getD_none]
  split at h
  ·rename_i hst
   obtain ⟨p,h1,h2⟩ := seqO_eq.1 h
   obtain rfl := sij h2
   rw [h1]
   simp only [seqO,slice_same hst h1]
  ·cases h
 ·rename_i c x y ho
  unfold aop
  rw [ho]
  obtain ⟨t,h1,h2⟩ := seqO_eq.1 h
  simp only [Option.getD_none,h1,seqO]
  unfold fetch
  generalize (if t = true then x else y) = z at h2 ⊢
  cases hv : s.val cfg z <;> rw [hv] at h2 <;> first | (obtain rfl := sij h2; rfl) | cases h2
 ·rename_i t ps ho
  unfold aop
  rw [ho]
  obtain ⟨i,h1,h2⟩ := seqO_eq.1 h
  split at h2
  ·rename_i hcan
   obtain ⟨q,h3,h4⟩ := seqO_eq.1 h2
   obtain ⟨cs,h5,h6⟩ := seqO_eq.1 h4
   obtain rfl := sij h6
   simp only [isTake,Bool.false_eq_true,if_false,h1,seqO,hcan,if_true,fetchNs_fetchs h3,h5]
  ·cases h2
 ·rename_i t n ps ho
  unfold aop
  rw [ho]
  obtain ⟨i,h1,h2⟩ := seqO_eq.1 h
  split at h2
  ·rename_i el hk
   obtain ⟨j,h3,h4⟩ := seqO_eq.1 h2
   split at h4
   ·rename_i hcond
    obtain rfl := sij h4
    simp only [h1,seqO,hk,h3,if_pos hcond]
   rename_i hn0
   split at h4
   ·rename_i hcond
    obtain ⟨q,h5,h6⟩ := seqO_eq.1 h4
    obtain ⟨rows,h7,h8⟩ := seqO_eq.1 h6
    obtain rfl := sij h8
    simp only [h1,seqO,hk,h3,if_neg hn0,if_pos hcond,fetchNs_fetchs h5,h7]
   ·cases h4
  ·cases h2
 ·rename_i t x ho
  unfold aop
  rw [ho]
  simp only [Option.getD_none,isTake,Bool.false_and,Bool.false_eq_true,if_false]
  split at h
  ·rename_i l off hv
   obtain ⟨i,h1,h2⟩ := seqO_eq.1 h
   obtain ⟨b,h3,h4⟩ := seqO_eq.1 h2
   simp only [hv,aLoad,h1,h3,seqO]
   split at h4
   ·rename_i hk
    obtain ⟨c,h5,h6⟩ := seqO_eq.1 h4
    split at h6
    ·split at h6
     case isFalse => cases h6
     rename_i hfz
     obtain rfl := sij h6
     by_cases hown : c.any PV.isOwn = true
     ·have hid : freeze l off i.size s = s := freeze_id l i.size off fun j hj k xs he => by
       obtain ⟨l1,l2⟩ := cut_eq h5
       have hcj : c[j]? = some c[j] := gge (by omega)
       have hbj : b[off + j]? = some c[j] := by rw [<- l2 j hj]; exact hcj
       have hat : s.at (.cell l (off + j)) = c[j] := by simp [St.at,h3,List.getD,hbj]
       rw [hat] at he
       have := List.all_eq_true.1 hfz _ (mog hcj)
       rw [he] at this
       cases this
      simp only [hk,if_true,h5,hown,Bool.false_eq_true,if_false,hid,h3,hfz]
     ·simp only [Bool.not_eq_true] at hown
      have hmap : c.map PV.frz = c := by
       rw [List.map_congr_left (g := id) fun y hy => ?_,List.map_id]
       have := List.any_eq_false.1 hown y hy
       cases y <;> first | rfl | exact absurd rfl this
      simp only [hk,if_true,h5,hown,Bool.false_eq_true,if_false,hmap]
    ·rename_i hown
     obtain rfl := sij h6
     simp only [Bool.not_eq_true] at hown
     simp only [hk,if_true,h5,hown,Bool.false_eq_true,if_false]
   ·rename_i hk
    obtain ⟨c,h5,h6⟩ := seqO_eq.1 h4
    simp only [hk,h5]
    cases c <;> first | (obtain rfl := sij h6; rfl) | cases h6
  ·rename_i v' hne
   obtain ⟨p,h1,h2⟩ := seqO_eq.1 h
   obtain rfl := sij h2
   rw [h1]
   have := load_same (fun l off e => hne l off e) h1
   simp only [seqO,this]
 ·rename_i x ho
  unfold aop
  rw [ho]
  simp only
  split at h
  ·rename_i hv; obtain rfl := sij h; first | rw [hv] | rfl
  ·rename_i hv; obtain rfl := sij h; first | rw [hv] | rfl
  ·rename_i hv; obtain rfl := sij h; first | rw [hv] | rfl
  ·cases h
 ·rename_i op t x y t' ho
  unfold aop; rw [ho]; simp only [h,seqO]
 ·rename_i op t x ho
  unfold aop; rw [ho]; simp only [h,seqO]
 ·rename_i t t' x ho
  unfold aop; rw [ho]; simp only [h,seqO]
 ·rename_i t x f ho
  unfold aop; rw [ho]; simp only [h,seqO]
 ·rename_i t x i ho
  unfold aop; rw [ho]; simp only [h,seqO]
 ·rename_i c ho
  split at h
  ·rename_i hb
   obtain ⟨p,h1,h2⟩ := seqO_eq.1 h
   obtain rfl := sij h2
   unfold aop; rw [ho]; simp only [hb,h1,seqO,len_same h1]
  ·cases h
 ·cases h
theorem aopNX_aopX {v : PV} (h : aopNX e cfg o s = some v) : aopX e cfg none o s = some (put s o.dst v) := by
 unfold aopNX at h
 unfold aopX
 split at h
 ·cases h
 rename_i hnh
 try rw [hnh]
 try simp only
 split at h
 ·rename_i c hc
  try rw [hc]
  obtain ⟨job,h1,h2⟩ := seqO_eq.1 h
  obtain ⟨out,h3,h4⟩ := seqO_eq.1 h2
  unfold prepN at h1
  obtain ⟨q,h5,h6⟩ := seqO_eq.1 h1
  split at h6
  ·rename_i f cap hv
   obtain rfl := sij h6
   simp only [prep,fetchNs_fetchs h5,seqO,hv,h3]
   cases out with
   | loop => cases h4
   | ret r ef => cases ef with
    | none => obtain rfl := sij h4; rfl
    | some => cases h4
  ·cases h6
 ·rename_i hc
  try rw [hc]
  exact aopN_aop h
def Agr (cfg : Cfg) (s s' : St) (x : Operand) : Prop := s.val cfg x = s'.val cfg x /\ ∀ p,aliasOf (s.val cfg x) = some p -> s.at p = s'.at p
theorem fetchN_congr {s' : St} {x : Operand} (h : Agr cfg s s' x) : fetchN cfg x s = fetchN cfg x s' := by
 obtain ⟨h1,h2⟩ := h
 unfold fetchN
 rw [<- h1]
 cases hv : s.val cfg x with
 | «alias» p => simp only [h2 p (by rw [hv]; rfl)]
 | own ex k xs => cases ex <;> rfl
 | _ => rfl
theorem fetchNs_congr {s' : St} : ∀ {xs : List Operand},(∀ x ∈ xs,Agr cfg s s' x) -> fetchNs cfg xs s = fetchNs cfg xs s'
 | [],_ => rfl
 | x :: xs,h => by
  simp only [fetchNs,fetchN_congr (h x (mcs ..)),fetchNs_congr fun y hy => h y (mcm _ hy)]
theorem rd_congr {s' : St} {x : Operand} (h : Agr cfg s s' x) : rd cfg x s = rd cfg x s' := by
 obtain ⟨h1,h2⟩ := h
 unfold rd
 rw [<- h1]
 cases hv : s.val cfg x with
 | «alias» p => simp only [h2 p (by rw [hv]; rfl)]
 | dat y => cases y <;> rfl
 | _ => rfl
theorem load_congr {s' : St} {t : TypeId} {v : PV} (hv : ∀ l off,v ≠ .ptr l off) (h : ∀ p,aliasOf v = some p -> s.at p = s'.at p) :
  (seqO (aLoad cfg t .alias v s) fun p => some p.1) = seqO (aLoad cfg t .alias v s') fun p => some p.1 := by
 unfold aLoad
 cases cfg.ti t with
 | none => rfl
 | some i =>
  simp only [seqO_some]
  cases v with
  | iptr cs off =>
   simp only
   split
   ·cases cut cs off i.size <;> rfl
   ·cases cs[off]? <;> rfl
  | eptr p k r j =>
   simp only [<- h p rfl]
   cases rdPV p (s.at p) with
   | none => rfl
   | some q =>
    cases q with
    | imm => rfl
    | «at» p' ex k' xs =>
     simp only [seqO_some]
     split
     ·cases xs[r]? with
      | none => rfl
      | some cs =>
       simp only [seqO_some]
       split
       ·cases cut cs j i.size <;> rfl
       ·cases cs[j]? <;> rfl
     ·rfl
  | ptr l off => exact absurd rfl (hv l off)
  | _ => rfl
theorem len_congr {s' : St} {ts : Array TypeId} {as : List Operand} (h : ∀ x ∈ as,Agr cfg s s' x) : (seqO (aBuiltin cfg .len ts as s) fun p => some p.1) = seqO (aBuiltin cfg .len ts as s') fun p => some p.1 := by
 unfold aBuiltin
 match as,h with
 | [],_ => rfl
 | [x],h =>
  have hx := h x (mcs ..)
  simp only [<- hx.1,rd_congr hx]
  split
  ·cases ts[0]? with
   | none => rfl
   | some t =>
    simp only [seqO_some]
    cases cfg.ti t with
    | none => rfl
    | some i => simp only [seqO_some]; cases i.kind <;> rfl
  ·cases ts[0]? with
   | none => rfl
   | some t =>
    simp only [seqO_some]
    cases cfg.ti t with
    | none => rfl
    | some i =>
     simp only [seqO_some]
     cases i.kind with
     | slice el => simp only; cases rd cfg x s' <;> rfl
     | _ => rfl
 | [x,y],_ => rfl
 | _ :: _ :: _ :: _,_ => rfl
theorem slice_congr {s' : St} {t : TypeId} {x : Operand} {lo hi mx : Option Operand} (h : ∀ y ∈ (#[x] ++ lo.toArray ++ hi.toArray ++ mx.toArray).toList,Agr cfg s s' y) (h1 : stays cfg x s = true) (h2 : stays cfg x s' = true) :
  (seqO (aSlice cfg t .alias x lo hi mx s) fun p => some p.1) = seqO (aSlice cfg t .alias x lo hi mx s') fun p => some p.1 := by
 have hx := h x (by simp)
 have hlo : ∀ y,lo = some y -> s.val cfg y = s'.val cfg y := fun y e => (h y (by subst e; simp)).1
 have hhi : ∀ y,hi = some y -> s.val cfg y = s'.val cfg y := fun y e => (h y (by subst e; simp)).1
 have hmx : ∀ y,mx = some y -> s.val cfg y = s'.val cfg y := fun y e => (h y (by subst e; simp)).1
 have e0 : s.val cfg x = s'.val cfg x := hx.1
 have er : rd cfg x s = rd cfg x s' := rd_congr hx
 have hsh : ∀ {p : Place} {ex : Bool} {k : Nat} {xs : List (List D)},rd cfg x s' = some (.at p ex k xs) -> ex = false := fun hr => stays_rd h2 hr
 clear h hx h1
 rcases lo with _ | lo <;> rcases hi with _ | hi <;> rcases mx with _ | mx <;> simp only [aSlice,hlo,hhi,hmx,e0,er,Option.isSome_none,Option.isSome_some]
 all_goals
  clear hlo hhi hmx
  try simp only [seqO_seqO,seqO_some]
 all_goals
  first
  | (congr 1; funext l)
  | skip
 all_goals
  split
  ·rfl
  ·cases cfg.ti t with
   | none => rfl
   | some i =>
    simp only [seqO_some]
    split
    ·split
     ·try simp only [seqO_seqO,seqO_some]
      repeat' first
      | rfl
      | split
      | (congr 1; funext _)
     ·rfl
    ·try simp only [seqO_seqO]
     congr 1
     funext j
     cases hr : rd cfg x s' with
     | none => rfl
     | some r =>
      simp only [seqO_some]
      cases r with
      | imm k xs =>
       try simp only [seqO_seqO]
       repeat' first
       | rfl
       | split
       | (simp only [seqO_seqO]; congr 1; funext _)
       | (congr 1; funext _)
      | «at» q ex k xs =>
       have he := hsh hr
       subst he
       try simp only [seqO_seqO,Bool.false_eq_true,if_false]
       repeat' first
       | rfl
       | split
       | (simp only [seqO_seqO]; congr 1; funext _)
       | (congr 1; funext _)
    ·rfl
theorem aopN_congr {s' : St} (h : ∀ x ∈ o.op.operands.toList,Agr cfg s s' x) (hb : s.bx = s'.bx) : aopN cfg o s = aopN cfg o s' := by
 unfold aopN
 cases hop : o.op <;> rw [hop] at h <;> simp only [Op.operands] at h <;> simp only
 case move x => rw [<- (h x (by simp)).1]
 case assign x =>
  have hx := h x (by simp)
  rw [<- hx.1]
  cases hv : s.val cfg x with
  | «alias» p => simp only [hx.2 p (by rw [hv]; rfl)]
  | _ => rfl
 case slice t x lo hi mx =>
  have hx := h x (by simp)
  have e1 : stays cfg x s = stays cfg x s' := by
   unfold stays
   rw [<- hx.1]
   cases hv : s.val cfg x with
   | «alias» p => simp only [hx.2 p (by rw [hv]; rfl)]
   | _ => rfl
  rw [e1]
  by_cases hst : stays cfg x s' = true
  ·rw [if_pos hst,if_pos hst]
   exact slice_congr h (by rw [e1]; exact hst) hst
  ·rw [if_neg hst,if_neg hst]
 case pick c x y =>
  rw [<- (h c (by simp)).1]
  cases abool (s.val cfg c) with
  | none => rfl
  | some t =>
   simp only [seqO_some]
   cases t
   ·simp only [Bool.false_eq_true,if_false]; rw [<- (h y (by simp)).1]
   ·simp only [if_true]; rw [<- (h x (by simp)).1]
 case build t ps => rw [fetchNs_congr (xs := ps.toList.map (·.2)) fun x hx => h x (by simpa using hx)]
 case buildSlice t n ps => rw [fetchNs_congr (xs := ps.toList.map (·.2)) fun x hx => h x (by simpa using hx)]
 case load t x =>
  have hx := h x (by simp)
  rw [<- hx.1,<- hb]
  cases hv : s.val cfg x with
  | ptr l off => rfl
  | _ => exact load_congr (by intro _ _ e; cases e) (by rw [<- hv]; exact hx.2)
 case nilCheck x => rw [<- (h x (by simp)).1]
 case binOp op t x y t' => rw [<- (h x (by simp)).1,<- (h y (by simp)).1]
 case unOp op t x => rw [<- (h x (by simp)).1]
 case convert t t' x => rw [<- (h x (by simp)).1]; simp only [aConv,hb]
 case fieldAddr t x f => rw [<- (h x (by simp)).1]
 case indexAddr t x i =>
  unfold aIndexAddr
  rw [<- (h i (by simp)).1,<- (h x (by simp)).1,rd_congr (h x (by simp))]
 case call c =>
  cases hc : c.callee with
  | builtin b => cases b <;> first | rfl | exact len_congr fun x hx => h x (by simp [Call.operands,hc] at hx ⊢; exact hx)
  | _ => rfl
theorem aopNX_congr {s' : St} (h : ∀ x ∈ o.op.operands.toList,Agr cfg s s' x) (hb : s.bx = s'.bx) : aopNX e cfg o s = aopNX e cfg o s' := by
 unfold aopNX
 cases hk : hookOf cfg o.op with
 | some k => rfl
 | none =>
 simp only
 cases hc : isFnCall o.op with
 | none => exact aopN_congr h hb
 | some c =>
  unfold isFnCall at hc
  split at hc
  ·rename_i cl ho
   rw [ho] at h
   split at hc
   ·rename_i f hf
    obtain rfl := sij hc
    have h1 : prepN cfg f cl.args.toList s = prepN cfg f cl.args.toList s' := by
     unfold prepN
     rw [fetchNs_congr (xs := cl.args.toList) fun x hx => h x (by simp only [Op.operands,Call.operands,hf]; simp; exact .inr (by simpa using hx)),<- (h f (by simp [Op.operands,Call.operands,hf])).1,hb]
    simp only [h1]
   ·cases hc
  ·cases hc
end
end Go.Vx
namespace Go.Vx
open Go Go.RowKit
inductive Anc (ops : List Oper) : Nat -> Nat -> Prop
 | one {j : Nat} {o : Oper} {e : Edge} (h : ops[j]? = some o) (he : e ∈ o.after) (hb : Region.binds .any e = true) : Anc ops j e.on
 | step {j i : Nat} {o : Oper} {e : Edge} (h : ops[j]? = some o) (he : e ∈ o.after) (hb : Region.binds .any e = true) (h2 : Anc ops e.on i) : Anc ops j i
theorem ancs_anc {ops : List Oper} : ∀ (os : List Oper) (acc : List (List Nat)),os = ops.drop acc.length -> (∀ (j : Nat) i,i ∈ acc.getD j [] -> Anc ops j i) -> ∀ (j : Nat) i,i ∈ (ancs os acc).getD j [] -> Anc ops j i
 | [],acc,_,h => h
 | o :: os,acc,hd,h => by
  have ho : ops[acc.length]? = some o := by
   have : (ops.drop acc.length)[0]? = some o := by rw [<- hd]; rfl
   rw [List.getElem?_drop] at this; exact this
  have hd' : os = ops.drop (acc.length + 1) := by
   have := congrArg List.tail hd
   rw [List.tail_cons,List.tail_drop] at this; exact this
  simp only [ancs]
  refine ancs_anc os _ (by simpa using hd') fun j i hi => ?_
  rw [List.getD_eq_getElem?_getD] at hi
  by_cases hj : j < acc.length
  ·rw [gal hj,<- List.getD_eq_getElem?_getD] at hi
   exact h j i hi
  ·by_cases hj2 : j = acc.length
   ·subst hj2
    rw [gar (Nat.le_refl _)] at hi
    simp only [Nat.sub_self,List.getElem?_cons_zero,Option.getD_some,List.mem_flatMap,List.mem_filter] at hi
    obtain ⟨e,⟨h1,h2⟩,h3⟩ := hi
    have h1' : e ∈ o.after := by simpa using h1
    rcases List.mem_cons.1 h3 with h3 | h3
    ·subst h3; exact .one ho h1' h2
    ·exact .step ho h1' h2 (h _ _ h3)
   ·rw [List.getElem?_eq_none (by simp; omega)] at hi
    simp at hi
def Closed (ops : Array Oper) (listed : Array Bool) : Prop := ∀ (j : Nat) o e,listed.getD j false = true -> ops[j]? = some o -> e ∈ o.after -> Region.binds .any e = true -> listed.getD e.on false = true
theorem anc_listed {ops : Array Oper} {listed : Array Bool} (hc : Closed ops listed) {j i : Nat} (h : Anc ops.toList j i) : (∀ o e,ops[j]? = some o -> e ∈ o.after -> Region.binds .any e = true -> listed.getD e.on false = true) -> listed.getD i false = true := by
 induction h with
 | one h he hb => exact fun hj => hj _ _ (by rw [<- Array.getElem?_toList]; exact h) he hb
 | step h he hb _ ih => exact fun hj => ih fun o e ho he' hb' => hc _ o e (hj _ _ (by rw [<- Array.getElem?_toList]; exact h) he hb) ho he' hb'
theorem getD_sized {listed : Array Bool} {j : Nat} (h : j < listed.size) : listed.getD j true = listed.getD j false := by
 simp [h]
structure Lst (ops : Array Oper) (listed : Array Bool) (i0 n : Nat) : Prop where
 size : listed.size = ops.size
 old : ∀ i,i < i0 -> listed.getD i false = true
 new : ∀ i,i0 + n <= i -> listed.getD i false = false
 closed : Closed ops listed
theorem Lst.set {ops : Array Oper} {listed : Array Bool} {i0 n j : Nat} (h : Lst ops listed i0 n) (hj : j ∈ Region.ready .any ops listed) (hn : j < i0 + n) : Lst ops (listed.setIfInBounds j true) i0 n := by
 obtain ⟨h1,o,ho,h2⟩ := mem_ready.1 hj
 refine ⟨by simp [h.size],fun i hi => getD_set_true (h.old i hi),fun i hi => by rw [getD_set_ne _ (by omega)]; exact h.new i hi,fun k o' e hk ho' he hb => ?_⟩
 by_cases hkj : j = k
 ·subst hkj
  rw [ho] at ho'
  obtain rfl := sij ho'
  exact getD_set_true (h2 e he hb)
 ·rw [getD_set_ne _ hkj] at hk
  exact getD_set_true (h.closed k o' e hk ho' he hb)
theorem ready_in {ops : Array Oper} {listed : Array Bool} {i0 n j : Nat} (h : Lst ops listed i0 n) (hj : j ∈ Region.ready .any ops listed)
  (hbar : ∀ j,i0 + n <= j -> j < ops.size -> ∀ k,k < n -> Anc ops.toList j (i0 + k)) (hno : ∃ k,k < n /\ listed.getD (i0 + k) false = false) : i0 <= j /\ j < i0 + n /\ listed.getD j false = false := by
 obtain ⟨h1,o,ho,h2⟩ := mem_ready.1 hj
 have hlt : j < ops.size := (Array.getElem?_eq_some_iff.1 ho).1
 have h1' : listed.getD j false = false := by rw [<- getD_sized (by rw [h.size]; exact hlt)]; exact h1
 refine ⟨?_,?_,h1'⟩
 ·by_cases hi : i0 <= j
  ·exact hi
  ·rw [h.old j (by omega)] at h1'; cases h1'
 ·by_cases hi : j < i0 + n
  ·exact hi
  ·obtain ⟨k,hk,hf⟩ := hno
   have := anc_listed h.closed (hbar j (by omega) hlt k hk) fun o' e ho' he hb => by
    rw [ho] at ho'
    obtain rfl := sij ho'
    exact h2 e he hb
   rw [this] at hf; cases hf
theorem first_ready {ops : Array Oper} {listed : Array Bool} {i0 n : Nat} (h : Lst ops listed i0 n) (hb : i0 + n <= ops.size) (hedge : edgesOk ops.toList = true) : ∀ m,m <= n -> (∀ k,k < n - m -> listed.getD (i0 + k) false = true) -> (∃ k,k < n /\ listed.getD (i0 + k) false = false) -> Region.ready .any ops listed ≠ []
 | 0,_,hall,⟨k,hk,hf⟩ => by rw [hall k (by omega)] at hf; cases hf
 | m + 1,hm,hall,hex => by
  cases hl : listed.getD (i0 + (n - (m + 1))) false with
  | true =>
   refine first_ready h hb hedge m (by omega) (fun k hk => ?_) hex
   by_cases e : k = n - (m + 1)
   ·rw [e]; exact hl
   ·exact hall k (by omega)
  | false =>
   have hlt : i0 + (n - (m + 1)) < ops.size := by omega
   have hmem : i0 + (n - (m + 1)) ∈ Region.ready .any ops listed := by
    refine mem_ready.2 ⟨by rw [getD_sized (by rw [h.size]; exact hlt)]; exact hl,_,agg hlt,fun e he hb' => ?_⟩
    have := List.all_eq_true.1 hedge (i0 + (n - (m + 1))) (List.mem_range.2 (by simpa using hlt))
    rw [Array.getElem?_toList,agg hlt] at this
    have he2 := Array.all_eq_true_iff_forall_mem.1 this e he
    rw [hb'] at he2
    simp only [Bool.not_true,Bool.false_or,dqE] at he2
    by_cases hlo : e.on < i0
    ·exact h.old _ hlo
    ·have := hall (e.on - i0) (by omega)
     rw [show i0 + (e.on - i0) = e.on by omega] at this
     exact this
   exact fun e => by rw [e] at hmem; cases hmem
end Go.Vx
namespace Go.Vx
open Go Go.RowKit
section
variable {cfg : Cfg} {s : St} {o : Oper} {a : Act} {e : Job -> Option Out}
structure At1 (e : Job -> Option Out) (cfg : Cfg) (L : List Oper) (ds : List Nat) (o : Oper) (s1 s2 : St) (dk : Nat) (vk : PV) : Prop where
 dst : o.dst = some dk
 val : (∃ t,allocOf o = some t /\ vk = .dead) ∨ allocOf o = none /\ ∃ b,wants L o s1 = some b /\ iteB b (fun _ => aopNX e cfg o s1) (fun _ => some (.dat (.lit undef))) = some vk
 al : okAl ds vk = true
 next : s2 = { s1 with ts := s1.ts.set dk vk }
theorem seg_facts {L : List Oper} {ds : List Nat} : ∀ {os : List Oper} {s s' : St},anseg e cfg L ds os s = some s' →
  ∃ (st : Nat -> St) (dk : Nat -> Nat) (vk : Nat -> PV),st 0 = s /\ st os.length = s' /\ ∀ (k : Nat) o,os[k]? = some o -> At1 e cfg L ds o (st k) (st (k + 1)) (dk k) (vk k)
 | [],s,s',h => ⟨fun _ => s,fun _ => 0,fun _ => .dead,rfl,sij h,fun k o h => by simp at h⟩
 | o :: os,s,s',h => by
  simp only [anseg] at h
  cases hao : allocOf o with
  | some ty =>
   rw [hao] at h
   obtain ⟨t,h3,h2⟩ := seqO_eq.1 h
   obtain ⟨st,dk,vk,e1,e2,e3⟩ := seg_facts h2
   refine ⟨fun k => match k with | 0 => s | k + 1 => st k,fun k => match k with | 0 => t | k + 1 => dk k,fun k => match k with | 0 => .dead | k + 1 => vk k,rfl,e2,fun k x hx => ?_⟩
   cases k with
   | zero =>
    simp only [List.getElem?_cons_zero,sjE] at hx
    subst hx
    exact ⟨h3,.inl ⟨ty,hao,rfl⟩,rfl,e1⟩
   | succ k => exact e3 k x (by simpa using hx)
  | none =>
  rw [hao] at h
  obtain ⟨s1,h1,h2⟩ := seqO_eq.1 h
  obtain ⟨st,dk,vk,e1,e2,e3⟩ := seg_facts h2
  replace h1 := aopNR_NG h1
  unfold aopNG at h1
  obtain ⟨t,h3,h4⟩ := seqO_eq.1 h1
  ·obtain ⟨b,h5,h6⟩ := seqO_eq.1 h4
   obtain ⟨v,h7,h8⟩ := seqO_eq.1 h6
   split at h8
   ·rename_i hal
    refine ⟨fun k => match k with | 0 => s | k + 1 => st k,fun k => match k with | 0 => t | k + 1 => dk k,fun k => match k with | 0 => v | k + 1 => vk k,rfl,e2,fun k x hx => ?_⟩
    cases k with
    | zero =>
     simp only [List.getElem?_cons_zero,sjE] at hx
     subst hx
     exact ⟨h3,.inr ⟨hao,b,h5,h7⟩,hal,e1.trans (sij h8).symm⟩
    | succ k => exact e3 k x (by simpa using hx)
   ·cases h8
structure Good (s : St) (n : Nat) (dk : Nat -> Nat) (vk : Nat -> PV) (lst : Nat -> Bool) (sL : St) : Prop where
 bx : sL.bx = s.bx
 nb : sL.nb = s.nb
 lo : sL.lo = s.lo
 kp : sL.kp = s.kp
 len : sL.ts.length = s.ts.length
 hit : ∀ k,k < n -> lst k = true -> sL.ts[dk k]? = some (vk k)
 miss : ∀ t,(∀ k,k < n -> lst k = true -> dk k ≠ t) -> sL.ts[t]? = s.ts[t]?
theorem Good.set {n : Nat} {dk : Nat -> Nat} {vk : Nat -> PV} {lst lst' : Nat -> Bool} {sL : St} (h : Good s n dk vk lst sL) {j : Nat} (hdd : ∀ k k',k < n -> k' < n -> dk k = dk k' -> k = k') (hj : j < n) (hlt : dk j < s.ts.length)
  (hl : ∀ k,k < n -> lst' k = (lst k || k == j)) : Good s n dk vk lst' { sL with ts := sL.ts.set (dk j) (vk j) } := by
 refine ⟨h.bx,h.nb,h.lo,h.kp,by simpa using h.len,fun k hk hlk => ?_,fun t ht => ?_⟩
 ·simp only [List.getElem?_set]
  by_cases e : dk j = dk k
  ·have := hdd j k hj hk e
   subst this
   rw [if_pos rfl,if_pos (by rw [h.len]; exact hlt)]
  ·rw [if_neg e]
   refine h.hit k hk ?_
   rw [hl k hk] at hlk
   simp only [Bool.or_eq_true,beq_iff_eq] at hlk
   exact hlk.resolve_right fun e' => e (by rw [e'])
 ·have hne : dk j ≠ t := ht j hj (by rw [hl j hj]; simp)
  simp only [List.getElem?_set,if_neg hne]
  exact h.miss t fun k hk hlk => ht k hk (by rw [hl k hk,hlk]; rfl)
theorem mem_dstsOf : ∀ {os : List Oper} {k : Nat} {o : Oper} {t : Nat},os[k]? = some o -> o.dst = some t -> t ∈ dstsOf os
 | [],k,o,t,h,_ => by simp at h
 | x :: os,0,o,t,h,hd => by
  simp only [List.getElem?_cons_zero,sjE] at h
  subst h
  simp [dstsOf,hd]
 | x :: os,k + 1,o,t,h,hd => by
  have := mem_dstsOf (os := os) (by simpa using h) hd
  simp only [dstsOf]
  split
  ·exact mcm _ this
  ·exact this
section seg
variable {L S : List Oper} {s0 : St} {st : Nat -> St} {dk : Nat -> Nat} {vk : Nat -> PV} (hst0 : st 0 = s0) (hat : ∀ (k : Nat) o,S[k]? = some o -> At1 e cfg L (dstsOf S) o (st k) (st (k + 1)) (dk k) (vk k))
 (hdd : ∀ k k',k < S.length -> k' < S.length -> dk k = dk k' -> k = k') (hlen : ∀ k,k < S.length -> dk k < s0.ts.length)
include hst0 hat hdd hlen
theorem seq_good : ∀ k,k <= S.length -> Good s0 S.length dk vk (fun j => decide (j < k)) (st k)
 | 0,_ => by
  rw [hst0]
  exact ⟨rfl,rfl,rfl,rfl,rfl,fun k _ h => by simp at h,fun _ _ => rfl⟩
 | k + 1,hk => by
  have ih := seq_good k (by omega)
  obtain ⟨h1,h3,h4,h5⟩ := hat k S[k] (gge hk)
  have hlt : dk k < s0.ts.length := hlen k hk
  rw [h5]
  refine ih.set hdd hk hlt fun j _ => ?_
  by_cases e : j = k
  ·subst e; simp
  ·have : decide (j < k + 1) = decide (j < k) := by
    by_cases h : j < k
    ·simp [h]; omega
    ·simp [h]; omega
   rw [this]; simp [e]
theorem seg_put (hal : ∀ (i : Nat) c p,s0.ts[i]? = some c -> aliasOf c = some (.tmp p) -> p ∉ dstsOf S) {lst : Nat -> Bool} {sL : St} (hG : Good s0 S.length dk vk lst sL) {j : Nat} {o : Oper} (hj : S[j]? = some o) : ∀ v,okAl (dstsOf S) v = true -> put sL o.dst v = { sL with ts := sL.ts.set (dk j) v } := by
 have hjl : j < S.length := (gsi.1 hj).1
 obtain ⟨h1,_,h5,h6⟩ := hat j o hj
 have hdsk : ∀ k,k < S.length -> dk k ∈ dstsOf S := fun k hk => mem_dstsOf (gge hk) (hat k _ (gge hk)).dst
 ·intro v hv
  have hin := hdsk j hjl
  have hmap : sL.ts.map (PV.strip (isTmp (dk j))) = sL.ts := by
   apply List.ext_getElem?
   intro t
   rw [List.getElem?_map]
   cases hc : sL.ts[t]? with
   | none => rfl
   | some c =>
    refine congrArg some ?_
    cases ha : aliasOf c with
    | none => exact PV.strip_of ha
    | some p =>
     refine strip_false ha ?_
     cases p with
     | cell => rfl
     | tmp q =>
      simp only [isTmp,beq_eq_false_iff_ne]
      intro e
      subst e
      by_cases hex : ∃ k,k < S.length /\ lst k = true /\ dk k = t
      ·obtain ⟨k,hk,q1,rfl⟩ := hex
       have h7 := hG.hit k hk q1
       rw [hc] at h7
       obtain rfl := sij h7
       have h8 := (hat k _ (gge hk)).al
       cases hv : vk k with
       | «alias» p' => rw [hv] at ha h8; obtain rfl : p' = .tmp (dk j) := sij ha; simp [okAl,hin] at h8
       | eptr p' _ _ _ => rw [hv] at ha h8; obtain rfl : p' = .tmp (dk j) := sij ha; simp [okAl,hin] at h8
       | _ => rw [hv] at ha; cases ha
      ·have h7 := hG.miss t fun k hk q1 e => hex ⟨k,hk,q1,e⟩
       rw [hc] at h7
       exact hal t c (dk j) h7.symm ha hin
  have hs : PV.strip (isTmp (dk j)) v = v := by
   cases ha : aliasOf v with
   | none => exact PV.strip_of ha
   | some p =>
    cases p with
    | cell l off => exact strip_false ha rfl
    | tmp q =>
     refine strip_false ha ?_
     simp only [isTmp,beq_eq_false_iff_ne]
     intro e
     subst e
     cases v with
     | «alias» p' => obtain rfl : p' = .tmp (dk j) := sij ha; simp [okAl,hin] at hv
     | eptr p' _ _ _ => obtain rfl : p' = .tmp (dk j) := sij ha; simp [okAl,hin] at hv
     | _ => cases ha
  simp only [h1,put,hs,hmap,ite_self]
theorem seg_step (hal : ∀ (i : Nat) c p,s0.ts[i]? = some c -> aliasOf c = some (.tmp p) -> p ∉ dstsOf S) {lst : Nat -> Bool} {sL : St} (hG : Good s0 S.length dk vk lst sL) {j : Nat} {o : Oper} (hj : S[j]? = some o) (hl : lst j = false) (hna : allocOf o = none)
  (hdep : ∀ t ∈ readsOf L o,∀ k,k < S.length -> dk k = t -> lst k = true /\ k < j) :
  aopG e cfg none L o sL = some { sL with ts := sL.ts.set (dk j) (vk j) } := by
 have hjl : j < S.length := (gsi.1 hj).1
 obtain ⟨h1,hv0,h5,h6⟩ := hat j o hj
 obtain ⟨b,h3,h4⟩ : ∃ b,wants L o (st j) = some b /\ iteB b (fun _ => aopNX e cfg o (st j)) (fun _ => some (.dat (.lit undef))) = some (vk j) := by
  rcases hv0 with ⟨t,q1,_⟩ | q
  ·rw [hna] at q1; cases q1
  ·exact q.2
 have hG2 := seq_good hst0 hat hdd hlen j (by omega)
 have hdsk : ∀ k,k < S.length -> dk k ∈ dstsOf S := fun k hk => mem_dstsOf (gge hk) (hat k _ (gge hk)).dst
 have hslot : ∀ t ∈ readsOf L o,sL.ts[t]? = (st j).ts[t]? /\ ((∃ k,k < S.length /\ sL.ts[t]? = some (vk k)) ∨ sL.ts[t]? = s0.ts[t]?) := by
  intro t ht
  by_cases hex : ∃ k,k < S.length /\ dk k = t
  ·obtain ⟨k,hk,rfl⟩ := hex
   obtain ⟨q1,q2⟩ := hdep _ ht k hk rfl
   have := hG.hit k hk q1
   exact ⟨by rw [this,hG2.hit k hk (by simpa using q2)],.inl ⟨k,hk,this⟩⟩
  ·have := hG.miss t fun k hk _ e => hex ⟨k,hk,e⟩
   exact ⟨by rw [this,hG2.miss t fun k hk _ e => hex ⟨k,hk,e⟩],.inr this⟩
 have hagr : ∀ x ∈ o.op.operands.toList,Agr cfg sL (st j) x := by
  intro x hx
  have hval : sL.val cfg x = (st j).val cfg x := by
   cases x with
   | tmp t =>
    have ht : t ∈ readsOf L o := List.mem_append_left _ (List.mem_filterMap.2 ⟨.tmp t,hx,rfl⟩)
    simp only [St.val,List.getD_eq_getElem?_getD,(hslot t ht).1]
   | _ => rfl
  refine ⟨hval,fun p hp => ?_⟩
  cases p with
  | cell l off => simp only [St.at,hG.bx,hG2.bx]
  | tmp q =>
   obtain ⟨t,rfl⟩ := val_is_tmp (c := sL.val cfg x) rfl (.inl ⟨_,hp⟩)
   have ht : t ∈ readsOf L o := List.mem_append_left _ (List.mem_filterMap.2 ⟨.tmp t,hx,rfl⟩)
   have hq : ∀ k,k < S.length -> dk k ≠ q := by
    intro k hk e
    subst e
    have hne : sL.ts.getD t .dead ≠ .dead := by
     intro e
     simp only [St.val,e] at hp
     cases hp
    have hts := getD_some (l := sL.ts) (i := t) (x := .dead) rfl hne
    rcases (hslot t ht).2 with ⟨k',hk',h7⟩ | h7
    ·have h8 := (hat k' _ (gge hk')).al
     rw [hts] at h7
     have h9 : sL.ts.getD t .dead = vk k' := sij h7
     simp only [St.val,h9] at hp
     have hin := hdsk k hk
     cases hv : vk k' with
     | «alias» p' =>
      rw [hv] at hp h8
      obtain rfl : p' = .tmp (dk k) := sij hp
      simp [okAl,hin] at h8
     | eptr p' _ _ _ =>
      rw [hv] at hp h8
      obtain rfl : p' = .tmp (dk k) := sij hp
      simp [okAl,hin] at h8
     | _ => rw [hv] at hp; cases hp
    ·rw [hts] at h7
     exact hal t _ _ h7.symm hp (hdsk k hk)
   simp only [St.at,List.getD_eq_getElem?_getD,hG.miss q fun k hk _ => hq k hk,hG2.miss q fun k hk _ => hq k hk]
 have hw : wants L o sL = some b := by
  rw [<- h3]
  unfold wants
  cases hg : o.guard with
  | none => rfl
  | some p =>
   obtain ⟨i,want⟩ := p
   simp only
   cases hi : L[i]? with
   | none => rfl
   | some q =>
    simp only [seqO_some]
    cases hd : q.dst with
    | none => rfl
    | some t =>
     have ht : t ∈ readsOf L o := List.mem_append_right _ (by simp [hg,hi,hd])
     simp only [seqO_some,List.getD_eq_getElem?_getD,(hslot t ht).1]
 have hput := seg_put hst0 hat hdd hlen hal hG hj
 unfold aopG
 rw [hw]
 simp only [seqO_some]
 cases b with
 | true =>
  have hv : aopNX e cfg o sL = some (vk j) := by
   rw [aopNX_congr hagr (hG.bx.trans hG2.bx.symm)]; exact h4
  simp only [iteB_true,aopNX_aopX hv,hput _ h5]
 | false =>
  have hv : PV.dat (.lit undef) = vk j := sij h4
  simp only [iteB_false]
  rw [<- hv,hput _ rfl]
end seg
end
end Go.Vx
namespace Go.Vx
open Go Go.RowKit
section
variable {cfg : Cfg} {g : Gh} {d : Nat} {s : St} {o : Oper} {a : Act} {e : Job -> Option Out}
theorem put_set {s : St} {ds : List Nat} {t : Nat} {v : PV} (hna : ∀ (i : Nat) c p,s.ts[i]? = some c -> aliasOf c = some (.tmp p) -> p ∉ ds) (ht : t ∈ ds) (hv : okAl ds v = true) : put s (some t) v = { s with ts := s.ts.set t v } := by
 have hmap : s.ts.map (PV.strip (isTmp t)) = s.ts := by
  apply List.ext_getElem?
  intro i
  rw [List.getElem?_map]
  cases hc : s.ts[i]? with
  | none => rfl
  | some c =>
   refine congrArg some ?_
   cases ha : aliasOf c with
   | none => exact PV.strip_of ha
   | some p =>
    refine strip_false ha ?_
    cases p with
    | cell => rfl
    | tmp q =>
     simp only [isTmp,beq_eq_false_iff_ne]
     intro e
     subst e
     exact hna i c q hc ha ht
 have hs : PV.strip (isTmp t) v = v := by
  cases ha : aliasOf v with
  | none => exact PV.strip_of ha
  | some p =>
   cases p with
   | cell l off => exact strip_false ha rfl
   | tmp q =>
    refine strip_false ha ?_
    simp only [isTmp,beq_eq_false_iff_ne]
    intro e
    subst e
    cases v with
    | «alias» p' => obtain rfl : p' = .tmp q := sij ha; simp [okAl,ht] at hv
    | eptr p' _ _ _ => obtain rfl : p' = .tmp q := sij ha; simp [okAl,ht] at hv
    | _ => cases ha
 simp only [put,hs,hmap,ite_self]
theorem okAl_na {ds : List Nat} {v : PV} (h : okAl ds v = true) {p : Nat} (ha : aliasOf v = some (.tmp p)) : p ∉ ds := by
 intro hp
 cases v with
 | «alias» p' => obtain rfl : p' = .tmp p := sij ha; simp [okAl,hp] at h
 | eptr p' _ _ _ => obtain rfl : p' = .tmp p := sij ha; simp [okAl,hp] at h
 | _ => cases ha
theorem append_taken {ty : TypeId} {t : Nat} {y : Operand} {s : St} {ex : Bool} {k : Nat} {xs : List (List D)} {p : PV × St} (ht : s.ts.getD t .dead = .own ex k xs) (h : aAppend cfg ty (.tmp t) y s = some p) : p.2 = { s with ts := s.ts.set t .dead } := by
 unfold aAppend at h
 obtain ⟨rb,h1,h2⟩ := seqO_eq.1 h
 have hr : rd cfg (.tmp t) s = some (.at (.tmp t) ex k xs) := by
  unfold rd
  have hv : s.val cfg (.tmp t) = .own ex k xs := ht
  simp only [hv]
 unfold aAppendR at h2
 obtain ⟨i,h3,h4⟩ := seqO_eq.1 h2
 split at h4
 ·obtain ⟨j,h5,h6⟩ := seqO_eq.1 h4
  split at h6
  ·cases h6
  ·rw [hr] at h6
   simp only [seqO_some] at h6
   split at h6
   ·split at h6
    ·obtain rfl := sij h6; rfl
    ·cases h6
   ·cases h6
 ·cases h4
theorem append_move {ty : TypeId} {t : Nat} {y : Operand} {s s' : St} {ex : Bool} {k : Nat} {xs : List (List D)} {p : PV × St} (ht : s.ts.getD t .dead = .own ex k xs) (ht' : s'.ts.getD t .dead = .own ex k xs) (hy : rd cfg y s = rd cfg y s')
  (h : aAppend cfg ty (.tmp t) y s' = some p) : ∃ q,aAppend cfg ty (.tmp t) y s = some (p.1,q) := by
 unfold aAppend at h ⊢
 rw [hy]
 obtain ⟨rb,h1,h2⟩ := seqO_eq.1 h
 have hr : ∀ s : St,s.ts.getD t .dead = .own ex k xs -> rd cfg (.tmp t) s = some (.at (.tmp t) ex k xs) := fun s ht => by
  unfold rd
  have hv : s.val cfg (.tmp t) = .own ex k xs := ht
  simp only [hv]
 rw [h1,seqO_some]
 unfold aAppendR at h2 ⊢
 obtain ⟨i,h3,h4⟩ := seqO_eq.1 h2
 rw [h3,seqO_some]
 split at h4
 ·rename_i el hk
  obtain ⟨j,h5,h6⟩ := seqO_eq.1 h4
  split at h6
  ·cases h6
  ·rename_i hj
   rw [hr s' ht'] at h6
   simp only [seqO_some] at h6
   simp only [h5,seqO_some,if_neg hj,hr s ht]
   split at h6
   ·rename_i hc
    rw [if_pos hc]
    split at h6
    ·rename_i hkk
     rw [if_pos hkk]
     obtain rfl := sij h6
     exact ⟨_,rfl⟩
    ·cases h6
   ·cases h6
 ·cases h4
theorem aopT_inv {t : Nat} {s : St} {v : PV} (h : aopT cfg t o s = some v) : o.guard = none /\ ∃ c y ex k xs ty p,o.op = .call c /\ c.callee = .builtin .append /\ c.args.toList = [.tmp t,y] /\ s.ts.getD t .dead = .own ex k xs ∧
  c.argTypes[0]? = some ty /\ c.argTypes[1]? = some ty /\ aAppend cfg ty (.tmp t) y s = some p /\ p.1 = v := by
 unfold aopT at h
 split at h
 ·rename_i c hg ho
  split at h
  ·rename_i t' y hcal hargs
   split at h
   ·rename_i hte
    subst hte
    unfold aopT1 at h
    split at h
    ·rename_i ex k xs hown
     obtain ⟨ty,h1,h2⟩ := seqO_eq.1 h
     obtain ⟨ty',h3,h4⟩ := seqO_eq.1 h2
     split at h4
     ·rename_i hty
      subst hty
      obtain ⟨p,h5,h6⟩ := seqO_eq.1 h4
      exact ⟨hg,c,y,ex,k,xs,ty,p,ho,hcal,hargs,hown,h1,h3,h5,sij h6⟩
     ·cases h4
    ·cases h
   ·cases h
  ·cases h
 ·cases h
theorem aopTC_inv {t : Nat} {s : St} {v : PV} (h : aopTC e cfg t o s = some v) : o.guard = none /\ hookOf cfg o.op = none /\ ∃ f k xs g cap,isFnCall o.op = some (f,[.tmp t]) /\ s.ts.getD t .dead = .own true k xs /\ s.val cfg f = .clo g cap ∧
  e (.call g (.dat (.sl (ksz k) xs) :: cap.map fun l => .ptr l 0) s.bx) = some (.ret v none) := by
 unfold aopTC at h
 split at h
 ·cases h
 rename_i hg
 split at h
 ·cases h
 rename_i hh
 split at h
 ·rename_i f t' hf
  split at h
  ·rename_i hte
   subst hte
   split at h
   ·rename_i k xs hs
    split at h
    ·rename_i g cap hv
     obtain ⟨out,h1,h2⟩ := seqO_eq.1 h
     split at h2
     ·obtain rfl := sij h2
      exact ⟨hg,hh,f,k,xs,g,cap,hf,hs,hv,h1⟩
     ·cases h2
    ·cases h
   ·cases h
  ·cases h
 ·cases h
theorem fnCall_mem {fc : Operand × List Operand} (h : isFnCall o.op = some fc) : ∀ x ∈ fc.1 :: fc.2,x ∈ o.op.operands.toList := by
 unfold isFnCall at h
 split at h
 ·rename_i cl ho
  split at h
  ·rename_i f hf
   obtain rfl := sij h
   intro x hx
   rw [ho]
   rcases List.mem_cons.1 hx with rfl | hx
   ·simp [Op.operands,Call.operands,hf]
   ·simp only [Op.operands,Call.operands,hf]; simp; exact .inr (by simpa using hx)
  ·cases h
 ·cases h
theorem aopTX_reads {t : Nat} {s : St} {v : PV} (h : aopTX e cfg t o s = some v) : Operand.tmp t ∈ o.op.operands.toList := by
 unfold aopTX at h
 split at h
 ·obtain ⟨_,_,f,k,xs,g,cap,q1,_⟩ := aopTC_inv h
  exact fnCall_mem q1 _ (mcm _ (mcs ..))
 ·obtain ⟨_,c,y,ex,k,xs,ty,p,r1,r2,r3,_⟩ := aopT_inv h
  rw [r1]
  simp [Op.operands,Call.operands,r2,r3]
structure At2 (e : Job -> Option Out) (cfg : Cfg) (L : List Oper) (ds : List Nat) (tk : Option Nat) (o : Oper) (s1 s2 : St) (dk : Nat) (vk tv : PV) : Prop where
 dst : o.dst = some dk
 al : okAl ds vk = true
 tal : aliasOf tv = none
 val : (∃ t,tk = some t /\ t ∈ ds /\ aopTX e cfg t o s1 = some vk /\ tv = tvOf o (s1.ts.getD t .dead) /\ s2 = { s1 with ts := (s1.ts.set t tv).set dk vk }) ∨
  (tk = none /\ allocOf o = none /\ (∃ b,wants L o s1 = some b /\ iteB b (fun _ => aopNX e cfg o s1) (fun _ => some (.dat (.lit undef))) = some vk) /\ s2 = { s1 with ts := s1.ts.set dk vk })
theorem tvOf_al (p : PV) : aliasOf (tvOf o p) = none := by
 unfold tvOf
 split
 ·cases p <;> rfl
 ·rfl
theorem teg_facts {L : List Oper} {ds : List Nat} {T : List (Nat × Nat)} : ∀ {os : List Oper} {i : Nat} {s s' : St},ateg e cfg L ds T i os s = some s' →
  ∃ (st : Nat -> St) (dk : Nat -> Nat) (vk tv : Nat -> PV),st 0 = s /\ st os.length = s' /\ ∀ (k : Nat) o,os[k]? = some o -> At2 e cfg L ds (takeOf T (i + k)) o (st k) (st (k + 1)) (dk k) (vk k) (tv k)
 | [],i,s,s',h => ⟨fun _ => s,fun _ => 0,fun _ => .dead,fun _ => .dead,rfl,sij h,fun k o h => by simp at h⟩
 | o :: os,i,s,s',h => by
  unfold ateg at h
  cases htk : takeOf T i with
  | some t =>
   rw [htk] at h
   simp only at h
   obtain ⟨q,h1,h2⟩ := seqO_eq.1 h
   split at h2
   ·rename_i hin
    obtain ⟨v,h3,h4⟩ := seqO_eq.1 h2
    split at h4
    ·rename_i hal
     obtain ⟨st,dk,vk,tv,e1,e2,e3⟩ := teg_facts h4
     refine ⟨fun k => match k with | 0 => s | k + 1 => st k,fun k => match k with | 0 => q | k + 1 => dk k,fun k => match k with | 0 => v | k + 1 => vk k,fun k => match k with | 0 => tvOf o (s.ts.getD t .dead) | k + 1 => tv k,rfl,e2,fun k x hx => ?_⟩
     cases k with
     | zero =>
      simp only [List.getElem?_cons_zero,sjE] at hx
      subst hx
      exact ⟨h1,hal,tvOf_al _,.inl ⟨t,htk,by simpa using hin,h3,rfl,e1⟩⟩
     | succ k =>
      have := e3 k x (by simpa using hx)
      rw [show i + 1 + k = i + (k + 1) by omega] at this
      exact this
    ·cases h4
   ·cases h2
  | none =>
   rw [htk] at h
   simp only at h
   split at h
   ·cases h
   ·rename_i hao
    obtain ⟨s1,h1,h2⟩ := seqO_eq.1 h
    obtain ⟨st,dk,vk,tv,e1,e2,e3⟩ := teg_facts h2
    replace h1 := aopNR_NG h1
    unfold aopNG at h1
    obtain ⟨t,h3,h4⟩ := seqO_eq.1 h1
    obtain ⟨b,h5,h6⟩ := seqO_eq.1 h4
    obtain ⟨v,h7,h8⟩ := seqO_eq.1 h6
    split at h8
    ·rename_i hal
     refine ⟨fun k => match k with | 0 => s | k + 1 => st k,fun k => match k with | 0 => t | k + 1 => dk k,fun k => match k with | 0 => v | k + 1 => vk k,fun k => match k with | 0 => .dead | k + 1 => tv k,rfl,e2,fun k x hx => ?_⟩
     cases k with
     | zero =>
      simp only [List.getElem?_cons_zero,sjE] at hx
      subst hx
      exact ⟨h3,hal,rfl,.inr ⟨htk,hao,⟨b,h5,h7⟩,e1.trans (sij h8).symm⟩⟩
     | succ k =>
      have := e3 k x (by simpa using hx)
      rw [show i + 1 + k = i + (k + 1) by omega] at this
      exact this
    ·cases h8
structure Good2 (s : St) (n : Nat) (dk : Nat -> Nat) (vk tv : Nat -> PV) (tk : Nat -> Option Nat) (lst : Nat -> Bool) (sL : St) : Prop where
 bx : sL.bx = s.bx
 nb : sL.nb = s.nb
 lo : sL.lo = s.lo
 kp : sL.kp = s.kp
 len : sL.ts.length = s.ts.length
 hit : ∀ k,k < n -> lst k = true -> (∀ j,j < n -> lst j = true -> tk j ≠ some (dk k)) -> sL.ts[dk k]? = some (vk k)
 dead : ∀ j t,j < n -> lst j = true -> tk j = some t -> sL.ts[t]? = some (tv j)
 miss : ∀ t,(∀ k,k < n -> lst k = true -> dk k ≠ t) -> (∀ j,j < n -> lst j = true -> tk j ≠ some t) -> sL.ts[t]? = s.ts[t]?
 cl : ∀ j,j < n -> lst j = true -> ∀ k,k < n -> tk j = some (dk k) -> lst k = true
theorem teg_dst {L S : List Oper} {st : Nat -> St} {dk : Nat -> Nat} {vk tv : Nat -> PV} {tk : Nat -> Option Nat} (hat : ∀ (k : Nat) o,S[k]? = some o -> At2 e cfg L (dstsOf S) (tk k) o (st k) (st (k + 1)) (dk k) (vk k) (tv k)) {k : Nat} (hk : k < S.length) : dk k ∈ dstsOf S := mem_dstsOf (gge hk) (hat k _ (gge hk)).dst
theorem dst_ex : ∀ {os : List Oper} {t : Nat},t ∈ dstsOf os -> ∃ (k : Nat) (o : Oper),os[k]? = some o /\ o.dst = some t
 | [],t,h => by simp [dstsOf] at h
 | x :: os,t,h => by
  simp only [dstsOf] at h
  split at h
  ·rename_i d hd
   rcases List.mem_cons.1 h with rfl | h
   ·exact ⟨0,x,rfl,hd⟩
   ·obtain ⟨k,o,h1,h2⟩ := dst_ex h
    exact ⟨k + 1,o,by simpa using h1,h2⟩
  ·obtain ⟨k,o,h1,h2⟩ := dst_ex h
   exact ⟨k + 1,o,by simpa using h1,h2⟩
theorem tk_dst {L S : List Oper} {st : Nat -> St} {dk : Nat -> Nat} {vk tv : Nat -> PV} {tk : Nat -> Option Nat} (hat : ∀ (k : Nat) o,S[k]? = some o -> At2 e cfg L (dstsOf S) (tk k) o (st k) (st (k + 1)) (dk k) (vk k) (tv k)) {j t : Nat} (hj : j < S.length) (ht : tk j = some t) : ∃ k,k < S.length /\ dk k = t := by
 have h := (hat j _ (gge hj)).val
 rcases h with ⟨t',h1,h2,_⟩ | ⟨h1,_⟩
 ·rw [ht] at h1
  obtain rfl := sij h1
  obtain ⟨k,o,h3,h4⟩ := dst_ex h2
  have hk := (gsi.1 h3).1
  have := (hat k o h3).dst
  rw [h4] at this
  exact ⟨k,hk,(sij this).symm⟩
 ·rw [ht] at h1; cases h1
theorem good2_na {L S : List Oper} {s0 : St} {st : Nat -> St} {dk : Nat -> Nat} {vk tv : Nat -> PV} {tk : Nat -> Option Nat} (hat : ∀ (k : Nat) o,S[k]? = some o -> At2 e cfg L (dstsOf S) (tk k) o (st k) (st (k + 1)) (dk k) (vk k) (tv k)) (hal : ∀ (i : Nat) c p,s0.ts[i]? = some c -> aliasOf c = some (.tmp p) -> p ∉ dstsOf S) {lst : Nat -> Bool} {sL : St} (hG : Good2 s0 S.length dk vk tv tk lst sL) (i : Nat) (c : PV) (p : Nat) (hc : sL.ts[i]? = some c) (ha : aliasOf c = some (.tmp p)) : p ∉ dstsOf S := by
 by_cases hd : ∃ j,j < S.length /\ lst j = true /\ tk j = some i
 ·obtain ⟨j,hj,hl,ht⟩ := hd
  rw [hG.dead j i hj hl ht] at hc
  obtain rfl := sij hc
  rw [(hat j _ (gge hj)).tal] at ha
  cases ha
 ·have hd' : ∀ j,j < S.length -> lst j = true -> tk j ≠ some i := fun j hj hl ht => hd ⟨j,hj,hl,ht⟩
  by_cases hk : ∃ k,k < S.length /\ lst k = true /\ dk k = i
  ·obtain ⟨k,hk,hl,rfl⟩ := hk
   rw [hG.hit k hk hl hd'] at hc
   obtain rfl := sij hc
   exact okAl_na (hat k _ (gge hk)).al ha
  ·rw [hG.miss i (fun k hk' hl e => hk ⟨k,hk',hl,e⟩) hd'] at hc
   exact hal i c p hc ha
section seg
variable {L S : List Oper} {s0 : St} {st : Nat -> St} {dk : Nat -> Nat} {vk tv : Nat -> PV} {tk : Nat -> Option Nat} (hst0 : st 0 = s0) (hat : ∀ (k : Nat) o,S[k]? = some o -> At2 e cfg L (dstsOf S) (tk k) o (st k) (st (k + 1)) (dk k) (vk k) (tv k))
 (hdd : ∀ k k',k < S.length -> k' < S.length -> dk k = dk k' -> k = k') (hlen : ∀ k,k < S.length -> dk k < s0.ts.length)
 (hone : ∀ (i : Nat) o j t,S[i]? = some o -> j < S.length -> tk j = some t -> t ∈ readsOf L o -> i = j)
 (hown : ∀ (j : Nat) o t,S[j]? = some o -> tk j = some t -> t ∈ readsOf L o)
include hst0 hat hdd hlen hone hown
def after2 (tk : Option Nat) (d : Nat) (v tv : PV) (s : St) : St :=
 match tk with
 | some t => { s with ts := (s.ts.set t tv).set d v }
 | none => { s with ts := s.ts.set d v }
theorem Good2.set {lst lst' : Nat -> Bool} {sL : St} (h : Good2 s0 S.length dk vk tv tk lst sL) {j : Nat} (hj : j < S.length) (hlj : lst j = false) (hdep : ∀ k,k < S.length -> tk j = some (dk k) -> lst k = true)
  (hl : ∀ k,k < S.length -> lst' k = (lst k || k == j)) : Good2 s0 S.length dk vk tv tk lst' (after2 (tk j) (dk j) (vk j) (tv j) sL) := by
 have hlt : dk j < sL.ts.length := by rw [h.len]; exact hlen j hj
 have hself : ∀ t,tk j = some t -> t ≠ dk j := fun t ht e => by
  subst e
  have := hdep j hj ht
  rw [hlj] at this; cases this
 have hnc : ∀ j',j' < S.length -> lst j' = true -> tk j' ≠ some (dk j) := fun j' hj' hl' e => by
  have := h.cl j' hj' hl' j hj e
  rw [hlj] at this; cases this
 have hts : ∀ t : Nat,(after2 (tk j) (dk j) (vk j) (tv j) sL).ts[t]? = if dk j = t then some (vk j) else if tk j = some t then (if t < sL.ts.length then some (tv j) else none) else sL.ts[t]? := by
  intro t
  unfold after2
  cases htk : tk j with
  | none =>
   simp only [List.getElem?_set]
   by_cases e : dk j = t
   ·subst e; simp [hlt]
   ·simp [e]
  | some t' =>
   simp only [List.getElem?_set,lls]
   by_cases e : dk j = t
   ·subst e; simp [hlt]
   ·rw [if_neg e,if_neg e]
    by_cases e2 : t' = t
    ·subst e2; simp
    ·rw [if_neg e2,if_neg (by simpa using e2)]
 have hlen' : (after2 (tk j) (dk j) (vk j) (tv j) sL).ts.length = sL.ts.length := by unfold after2; split <;> simp
 refine ⟨by unfold after2; split <;> exact h.bx,by unfold after2; split <;> exact h.nb,by unfold after2; split <;> exact h.lo,by unfold after2; split <;> exact h.kp,hlen'.trans h.len,fun k hk hlk hc => ?_,fun j' t hj' hl' ht => ?_,fun t h1 h2 => ?_,fun j' hj' hl' k hk ht => ?_⟩
 ·rw [hts]
  by_cases e : dk j = dk k
  ·have := hdd j k hj hk e
   subst this
   rw [if_pos rfl]
  ·rw [if_neg e,if_neg (fun ht => hc j hj (by rw [hl j hj]; simp) ht)]
   refine h.hit k hk ?_ fun j' hj' hl' => hc j' hj' (by rw [hl j' hj',hl']; rfl)
   rw [hl k hk] at hlk
   simp only [Bool.or_eq_true,beq_iff_eq] at hlk
   exact hlk.resolve_right fun e' => e (by rw [e'])
 ·rw [hts]
  rw [hl j' hj'] at hl'
  simp only [Bool.or_eq_true,beq_iff_eq] at hl'
  obtain ⟨k,hk,rfl⟩ := tk_dst hat hj' ht
  have hkl : dk k < sL.ts.length := by rw [h.len]; exact hlen k hk
  by_cases e : j' = j
  ·subst e
   rw [if_neg (fun e => hself _ ht e.symm),if_pos ht,if_pos hkl]
  ·have hl'' := hl'.resolve_right e
   rw [if_neg (fun e => hnc j' hj' hl'' (by rw [e]; exact ht))]
   by_cases ht2 : tk j = some (dk k)
   ·exact absurd (hone j _ j' (dk k) (gge hj) hj' ht (hown j _ (dk k) (gge hj) ht2)) (Ne.symm e)
   ·rw [if_neg ht2]; exact h.dead j' _ hj' hl'' ht
 ·rw [hts,if_neg (h1 j hj (by rw [hl j hj]; simp)),if_neg (h2 j hj (by rw [hl j hj]; simp))]
  exact h.miss t (fun k hk hlk => h1 k hk (by rw [hl k hk,hlk]; rfl)) fun j' hj' hl' => h2 j' hj' (by rw [hl j' hj',hl']; rfl)
 ·rw [hl j' hj'] at hl'
  simp only [Bool.or_eq_true,beq_iff_eq] at hl'
  rcases hl' with hl' | rfl
  ·rw [hl k hk,h.cl j' hj' hl' k hk ht]; rfl
  ·rw [hl k hk,hdep k hk ht]; rfl
theorem seq_good2 (hord : ∀ j k,j < S.length -> k < S.length -> tk j = some (dk k) -> k < j) : ∀ k,k <= S.length -> Good2 s0 S.length dk vk tv tk (fun j => decide (j < k)) (st k)
 | 0,_ => by
  rw [hst0]
  exact ⟨rfl,rfl,rfl,rfl,rfl,fun k _ h => by simp at h,fun j t _ h => by simp at h,fun _ _ _ => rfl,fun j _ h => by simp at h⟩
 | k + 1,hk => by
  have ih := seq_good2 hord k (by omega)
  have h5 : st (k + 1) = after2 (tk k) (dk k) (vk k) (tv k) (st k) := by
   rcases (hat k S[k] (gge hk)).val with ⟨t,h1,_,_,_,h4⟩ | ⟨h1,_,_,h4⟩
   ·rw [h4,h1]; rfl
   ·rw [h4,h1]; rfl
  rw [h5]
  refine Good2.set hst0 hat hdd hlen hone hown ih hk (by simp) (fun k' hk' ht => by simpa using hord k k' hk hk' ht) fun j _ => ?_
  by_cases e : j = k
  ·subst e; simp
  ·have : decide (j < k + 1) = decide (j < k) := by
    by_cases h : j < k
    ·simp [h]; omega
    ·simp [h]; omega
   rw [this]; simp [e]
theorem good2_eq {l1 l2 : Nat -> Bool} {x y : St} (h1 : Good2 s0 S.length dk vk tv tk l1 x) (h2 : Good2 s0 S.length dk vk tv tk l2 y) (h : ∀ k,k < S.length -> l1 k = l2 k) : x = y := by
 have hts : x.ts = y.ts := by
  apply List.ext_getElem?
  intro t
  by_cases hd : ∃ j,j < S.length /\ l1 j = true /\ tk j = some t
  ·obtain ⟨j,hj,hl,ht⟩ := hd
   rw [h1.dead j t hj hl ht,h2.dead j t hj (by rw [<- h j hj]; exact hl) ht]
  ·have hd' : ∀ j,j < S.length -> l1 j = true -> tk j ≠ some t := fun j hj hl ht => hd ⟨j,hj,hl,ht⟩
   have hd'' : ∀ j,j < S.length -> l2 j = true -> tk j ≠ some t := fun j hj hl ht => hd ⟨j,hj,by rw [h j hj]; exact hl,ht⟩
   by_cases hk : ∃ k,k < S.length /\ l1 k = true /\ dk k = t
   ·obtain ⟨k,hk,hl,rfl⟩ := hk
    rw [h1.hit k hk hl hd',h2.hit k hk (by rw [<- h k hk]; exact hl) hd'']
   ·rw [h1.miss t (fun k hk' hl e => hk ⟨k,hk',hl,e⟩) hd',h2.miss t (fun k hk' hl e => hk ⟨k,hk',by rw [h k hk']; exact hl,e⟩) hd'']
 cases x with
 | mk a1 a2 a3 a4 a5 =>
  cases y with
  | mk b1 b2 b3 b4 b5 =>
   have q1 := h1.bx.trans h2.bx.symm
   have q2 := h1.nb.trans h2.nb.symm
   have q3 := h1.lo.trans h2.lo.symm
   have q4 := h1.kp.trans h2.kp.symm
   simp only at hts q1 q2 q3 q4
   subst hts; subst q1; subst q2; subst q3; subst q4
   rfl
theorem teg_step (hord : ∀ j k,j < S.length -> k < S.length -> tk j = some (dk k) -> k < j) (hal : ∀ (i : Nat) c p,s0.ts[i]? = some c -> aliasOf c = some (.tmp p) -> p ∉ dstsOf S) {lst : Nat -> Bool} {sL : St} (hG : Good2 s0 S.length dk vk tv tk lst sL) {j : Nat} {o : Oper} (hj : S[j]? = some o) (hl : lst j = false)
  (hdep : ∀ t ∈ readsOf L o,∀ k,k < S.length -> dk k = t -> lst k = true /\ k < j) :
  aopG e cfg none L o sL = some (after2 (tk j) (dk j) (vk j) (tv j) sL) := by
 have hjl : j < S.length := (gsi.1 hj).1
 have hG2 := seq_good2 hst0 hat hdd hlen hone hown hord j (by omega)
 have hna := good2_na hat hal hG
 have hna2 := good2_na hat hal hG2
 have hfree : ∀ t ∈ readsOf L o,∀ (l : Nat -> Bool),l j = false -> ∀ j',j' < S.length -> l j' = true -> tk j' ≠ some t := fun t ht l hlj j' hj' hl' htk => by
  have := hone j o j' t hj hj' htk ht
  subst this
  rw [hlj] at hl'; cases hl'
 have hslot : ∀ t ∈ readsOf L o,sL.ts[t]? = (st j).ts[t]? := by
  intro t ht
  have f1 := hfree t ht lst hl
  have f2 := hfree t ht (fun i => decide (i < j)) (by simp)
  by_cases hex : ∃ k,k < S.length /\ dk k = t
  ·obtain ⟨k,hk,rfl⟩ := hex
   obtain ⟨q1,q2⟩ := hdep _ ht k hk rfl
   rw [hG.hit k hk q1 f1,hG2.hit k hk (by simpa using q2) f2]
  ·rw [hG.miss t (fun k hk _ e => hex ⟨k,hk,e⟩) f1,hG2.miss t (fun k hk _ e => hex ⟨k,hk,e⟩) f2]
 have hagr : ∀ x ∈ o.op.operands.toList,Agr cfg sL (st j) x := by
  intro x hx
  have hval : sL.val cfg x = (st j).val cfg x := by
   cases x with
   | tmp t =>
    have ht : t ∈ readsOf L o := List.mem_append_left _ (List.mem_filterMap.2 ⟨.tmp t,hx,rfl⟩)
    simp only [St.val,List.getD_eq_getElem?_getD,hslot t ht]
   | _ => rfl
  refine ⟨hval,fun p hp => ?_⟩
  cases p with
  | cell l off => simp only [St.at,hG.bx,hG2.bx]
  | tmp q =>
   obtain ⟨t,rfl⟩ := val_is_tmp (c := sL.val cfg x) rfl (.inl ⟨_,hp⟩)
   have hne : sL.ts.getD t .dead ≠ .dead := by
    intro e
    simp only [St.val,e] at hp
    cases hp
   have hts := getD_some (l := sL.ts) (i := t) (x := .dead) rfl hne
   have hq := hna t _ q hts hp
   have hqk : ∀ k,k < S.length -> dk k ≠ q := fun k hk e => hq (by rw [<- e]; exact teg_dst hat hk)
   have hqt : ∀ j',j' < S.length -> tk j' ≠ some q := fun j' hj' e => by
    obtain ⟨k,hk,e2⟩ := tk_dst hat hj' e
    exact hqk k hk e2
   simp only [St.at,List.getD_eq_getElem?_getD,hG.miss q (fun k hk _ => hqk k hk) (fun j' hj' _ => hqt j' hj'),hG2.miss q (fun k hk _ => hqk k hk) (fun j' hj' _ => hqt j' hj')]
 have hdj : dk j ∈ dstsOf S := teg_dst hat hjl
 obtain ⟨h1,h5,h5t,h6⟩ := hat j o hj
 rcases h6 with ⟨t,e1,e2,e3,e3t,e4⟩ | ⟨e1,e2,⟨b,h3,h4⟩,e4⟩
 ·have hread : t ∈ readsOf L o := hown j o t hj e1
  cases hfc : isFnCall o.op with
  | some fc =>
   have e3' : aopTC e cfg t o (st j) = some (vk j) := by unfold aopTX at e3; rw [hfc] at e3; exact e3
   obtain ⟨hg,hh,f,k,xs,g,cap,q1,q2,q3,q4⟩ := aopTC_inv e3'
   have ht : sL.ts.getD t .dead = .own true k xs := by
    rw [List.getD_eq_getElem?_getD,hslot t hread,<- List.getD_eq_getElem?_getD]; exact q2
   have hvf : sL.val cfg f = .clo g cap := by
    rw [(hagr f (fnCall_mem q1 f (mcs ..))).1]; exact q3
   have htv : tv j = .own false k xs := by
    rw [e3t,q2]; unfold tvOf; rw [hfc]
   have hw : wants L o sL = some true := by unfold wants; rw [hg]
   have hX : aopX e cfg none o sL = some (put { sL with ts := sL.ts.set t (.own false k xs) } o.dst (vk j)) := by
    unfold aopX
    rw [hh,q1]
    simp only
    have hp : prep cfg f [.tmp t] sL = some (.call g (.dat (.sl (ksz k) xs) :: cap.map fun l => .ptr l 0) sL.bx,{ sL with ts := sL.ts.set t (.own false k xs) }) := by
     have hv : sL.val cfg (.tmp t) = .own true k xs := ht
     have hvf' : ({ sL with ts := sL.ts.set t (.own false k xs) } : St).val cfg f = .clo g cap := by
      rw [<- hvf]
      cases f with
      | tmp q =>
       simp only [St.val,List.getD_eq_getElem?_getD,List.getElem?_set]
       by_cases eq : t = q
       ·subst eq
        rw [hv] at hvf; cases hvf
       ·rw [if_neg eq]
      | _ => rfl
     simp only [prep,fetchs,fetch,hv,takeAt,St.mark,seqO_some,if_true,hvf',List.singleton_append,List.cons_append,List.nil_append]
    rw [hp]
    simp only [seqO_some]
    have hbx : sL.bx = (st j).bx := hG.bx.trans hG2.bx.symm
    rw [hbx,q4]
    rfl
   unfold aopG
   rw [hw]
   simp only [seqO_some,iteB_true]
   rw [hX,h1]
   have hna3 : ∀ (i : Nat) c p,({ sL with ts := sL.ts.set t (.own false k xs) } : St).ts[i]? = some c -> aliasOf c = some (.tmp p) -> p ∉ dstsOf S := fun i c p hc ha => by
    simp only [List.getElem?_set] at hc
    split at hc
    ·split at hc
     ·obtain rfl := sij hc; cases ha
     ·cases hc
    ·exact hna i c p hc ha
   rw [put_set hna3 hdj h5,e1,htv]
   rfl
  | none =>
  have e3' : aopT cfg t o (st j) = some (vk j) := by unfold aopTX at e3; rw [hfc] at e3; exact e3
  have htv : tv j = .dead := by rw [e3t]; unfold tvOf; rw [hfc]
  replace e3 := e3'
  obtain ⟨hg,c,y,ex,k,xs,ty,p,q1,q2,q3,q4,q5,q6,q7,q8⟩ := aopT_inv e3
  have ht : sL.ts.getD t .dead = .own ex k xs := by
   rw [List.getD_eq_getElem?_getD,hslot t hread,<- List.getD_eq_getElem?_getD]; exact q4
  have hy : rd cfg y sL = rd cfg y (st j) := by
   refine rd_congr (hagr y ?_)
   rw [q1]
   simp [Op.operands,Call.operands,q2,q3]
  obtain ⟨q,hq⟩ := append_move ht q4 hy q7
  have hq2 := append_taken ht hq
  simp only at hq2
  subst hq2
  rw [q8] at hq
  unfold aopG
  have hw : wants L o sL = some true := by unfold wants; rw [hg]
  rw [hw]
  simp only [seqO_some,iteB_true]
  have hX : aopX e cfg none o sL = some (put { sL with ts := sL.ts.set t .dead } o.dst (vk j)) := by
   unfold aopX
   have k1 : hookOf cfg o.op = none := by simp [hookOf,q1,q2]
   have k3 : isFnCall o.op = none := by simp [isFnCall,q1,q2]
   rw [k1,k3]
   simp only
   unfold aop
   rw [q1]
   simp only [q2]
   rw [q3]
   unfold aBuiltin
   simp only [q5,q6,seqO_some,if_true,hq]
  rw [hX,h1]
  have hna3 : ∀ (i : Nat) c p,({ sL with ts := sL.ts.set t .dead } : St).ts[i]? = some c -> aliasOf c = some (.tmp p) -> p ∉ dstsOf S := fun i c p hc ha => by
   simp only [List.getElem?_set] at hc
   split at hc
   ·split at hc
    ·obtain rfl := sij hc; cases ha
    ·cases hc
   ·exact hna i c p hc ha
  rw [put_set hna3 hdj h5,e1,htv]
  rfl
 ·have hw : wants L o sL = some b := by
   rw [<- h3]
   unfold wants
   cases hg : o.guard with
   | none => rfl
   | some p =>
    obtain ⟨i,want⟩ := p
    simp only
    cases hi : L[i]? with
    | none => rfl
    | some q =>
     simp only [seqO_some]
     cases hd : q.dst with
     | none => rfl
     | some t =>
      have ht : t ∈ readsOf L o := List.mem_append_right _ (by simp [hg,hi,hd])
      simp only [seqO_some,List.getD_eq_getElem?_getD,hslot t ht]
  have hput : ∀ v,okAl (dstsOf S) v = true -> put sL o.dst v = { sL with ts := sL.ts.set (dk j) v } := fun v hv => by rw [h1]; exact put_set hna hdj hv
  rw [e1]
  unfold aopG
  rw [hw]
  simp only [seqO_some]
  cases b with
  | true =>
   have hv : aopNX e cfg o sL = some (vk j) := by
    rw [aopNX_congr hagr (hG.bx.trans hG2.bx.symm)]; exact h4
   simp only [iteB_true,aopNX_aopX hv,hput _ h5]
   rfl
  | false =>
   have hv : PV.dat (.lit undef) = vk j := sij h4
   simp only [iteB_false]
   rw [<- hv,hput _ rfl]
   rfl
end seg
theorem Good2.ext {s : St} {n : Nat} {dk : Nat -> Nat} {vk tv : Nat -> PV} {tk : Nat -> Option Nat} {l l' : Nat -> Bool} {x : St} (he : ∀ k,k < n -> l k = l' k) (h : Good2 s n dk vk tv tk l x) : Good2 s n dk vk tv tk l' x :=
 ⟨h.bx,h.nb,h.lo,h.kp,h.len,fun k hk hl hc => h.hit k hk (by rw [he k hk]; exact hl) fun j hj hlj => hc j hj (by rw [<- he j hj]; exact hlj),fun j t hj hl ht => h.dead j t hj (by rw [he j hj]; exact hl) ht,
  fun t h1 h2 => h.miss t (fun k hk hl => h1 k hk (by rw [<- he k hk]; exact hl)) fun j hj hl => h2 j hj (by rw [<- he j hj]; exact hl),fun j hj hl k hk ht => by rw [<- he k hk]; exact h.cl j hj (by rw [he j hj]; exact hl) k hk ht⟩
end
end Go.Vx
namespace Go.Vx
open Go Go.RowKit
section
variable {cfg : Cfg} {d : Nat} {s : St} {o : Oper} {a : Act} {e : Job -> Option Out}
structure AtE (e : Job -> Option Out) (cfg : Cfg) (ds : List Nat) (o : Oper) (s1 s2 : St) (dk : Option Nat) (vk : PV) : Prop where
 guard : o.guard = none
 dst : o.dst = dk
 act : (hookOf cfg o.op = none /\ ∃ t,dk = some t /\ ∃ c j ef,isFnCall o.op = some c /\ prepN cfg c.1 c.2 s1 = some j /\ e j = some (.ret vk ef) /\ s2 = applyE s1 t vk ef) ∨
  (plainOp o.op = true /\ ∃ ef,plainE cfg o s1 = some (vk,ef) /\ s2 = applyP s1 dk vk ef)
 al : okAl ds vk = true
 cell : noCellAl vk = true
def AtM (e : Job -> Option Out) (cfg : Cfg) (L : List Oper) (ds E : List Nat) (i : Nat) (o : Oper) (s1 s2 : St) (dk : Option Nat) (vk : PV) : Prop :=
 (E.contains i = true /\ AtE e cfg ds o s1 s2 dk vk) ∨ (E.contains i = false /\ nOk cfg o s1 = true /\ ∃ t,dk = some t /\ At1 e cfg L ds o s1 s2 t vk)
theorem aopE_at {ds : List Nat} {s s' : St} (h : aopE e cfg ds o s = some s') : ∃ dk vk,AtE e cfg ds o s s' dk vk := by
 unfold aopE at h
 split at h
 ·cases h
 rename_i hg
 split at h
 ·rename_i hp
  obtain ⟨⟨v,ef⟩,h1,h⟩ := seqO_eq.1 h
  split at h
  ·rename_i hal
   simp only [Bool.and_eq_true] at hal
   obtain rfl := sij h
   exact ⟨o.dst,v,hg,rfl,.inr ⟨hp,ef,h1,rfl⟩,hal.1,hal.2⟩
  ·cases h
 split at h
 ·cases h
 rename_i hh
 obtain ⟨dk,h1,h⟩ := seqO_eq.1 h
 obtain ⟨c,h2,h⟩ := seqO_eq.1 h
 obtain ⟨j,h3,h⟩ := seqO_eq.1 h
 obtain ⟨out,h4,h⟩ := seqO_eq.1 h
 cases out with
 | loop => cases h
 | ret r ef =>
  simp only [outE] at h
  split at h
  ·rename_i hal
   simp only [Bool.and_eq_true] at hal
   obtain rfl := sij h
   exact ⟨some dk,r,hg,h1,.inl ⟨hh,dk,rfl,c,j,ef,h2,h3,h4,rfl⟩,hal.1,hal.2⟩
  ·cases h
theorem aopNR_at {L : List Oper} {ds : List Nat} {s s' : St} (hna : allocOf o = none) (h : aopNR e cfg L ds o s = some s') : ∃ dk vk,At1 e cfg L ds o s s' dk vk := by
 replace h := aopNR_NG h
 unfold aopNG at h
 obtain ⟨t,h3,h4⟩ := seqO_eq.1 h
 obtain ⟨b,h5,h6⟩ := seqO_eq.1 h4
 obtain ⟨v,h7,h8⟩ := seqO_eq.1 h6
 split at h8
 ·rename_i hal
  exact ⟨t,v,h3,.inr ⟨hna,b,h5,h7⟩,hal,(sij h8).symm⟩
 ·cases h8
theorem nOk_alloc {s : St} (h : nOk cfg o s = true) : allocOf o = none := by
 unfold allocOf
 unfold nOk at h
 split
 ·rfl
 ·split
  ·rename_i ho; rw [ho] at h; cases h
  ·rfl
theorem mix_facts {L : List Oper} {ds E : List Nat} : ∀ {os : List Oper} {i : Nat} {s s' : St} {vs : List (List Box)} {ls : List Nat},amix e cfg L ds E i os s vs ls = some s' →
  ∃ (st : Nat -> St) (dk : Nat -> Option Nat) (vk : Nat -> PV) (vs' : List (List Box)) (ls' : List Nat),st 0 = s /\ st os.length = s' /\ (∀ (k : Nat) o,os[k]? = some o -> AtM e cfg L ds E (i + k) o (st k) (st (k + 1)) (dk k) (vk k)) ∧
   s'.ts.all noCellAl = true /\ stab s'.bx vs' ls' /\ (∀ l ∈ ls,l ∈ ls') /\ (∀ b ∈ vs,b ∈ vs') /\ (∀ k,k <= os.length -> (st k).bx ∈ vs' ∨ (st k).bx = s'.bx) ∧
   ∀ (k : Nat) o,os[k]? = some o -> E.contains (i + k) = false -> ∀ l ∈ loadBox cfg o (st k),l ∈ ls'
 | [],i,s,s',vs,ls,h => by
  simp only [amix] at h
  split at h
  ·rename_i hc
   obtain rfl := sij h
   exact ⟨fun _ => s,fun _ => none,fun _ => .dead,vs,ls,rfl,rfl,fun k o h => by simp at h,hc.2,hc.1,fun _ h => h,fun _ h => h,fun _ _ => .inr rfl,fun k o h => by simp at h⟩
  ·cases h
 | o :: os,i,s,s',vs,ls,h => by
  unfold amix at h
  split at h
  ·rename_i hE
   obtain ⟨s1,h1,h2⟩ := seqO_eq.1 h
   obtain ⟨st,dk,vk,vs',ls',e1,e2,e3,e4,e5,e6,e7,e8,e9⟩ := mix_facts h2
   obtain ⟨d0,v0,hat⟩ := aopE_at h1
   refine ⟨fun k => match k with | 0 => s | k + 1 => st k,fun k => match k with | 0 => d0 | k + 1 => dk k,fun k => match k with | 0 => v0 | k + 1 => vk k,vs',ls',rfl,e2,fun k x hx => ?_,e4,e5,e6,fun b hb => e7 b (mcm _ hb),fun k hk => ?_,fun k x hx hn l hl => ?_⟩
   ·cases k with
    | zero =>
     simp only [List.getElem?_cons_zero,sjE] at hx
     subst hx
     exact .inl ⟨hE,by simp only; rw [e1]; exact hat⟩
    | succ k =>
     have := e3 k x (by simpa using hx)
     rw [show i + 1 + k = i + (k + 1) by omega] at this
     exact this
   ·cases k with
    | zero => exact .inl (e7 _ (mcs ..))
    | succ k => exact e8 k (by simpa using hk)
   ·cases k with
    | zero => rw [Nat.add_zero,hE] at hn; cases hn
    | succ k => exact e9 k x (by simpa using hx) (by rw [show i + 1 + k = i + (k + 1) by omega]; exact hn) l hl
  ·rename_i hE
   split at h
   case isFalse => cases h
   rename_i hno
   obtain ⟨s1,h1,h2⟩ := seqO_eq.1 h
   obtain ⟨st,dk,vk,vs',ls',e1,e2,e3,e4,e5,e6,e7,e8,e9⟩ := mix_facts h2
   obtain ⟨d0,v0,hat⟩ := aopNR_at (nOk_alloc ‹_›) h1
   refine ⟨fun k => match k with | 0 => s | k + 1 => st k,fun k => match k with | 0 => some d0 | k + 1 => dk k,fun k => match k with | 0 => v0 | k + 1 => vk k,vs',ls',rfl,e2,fun k x hx => ?_,e4,e5,fun l hl => e6 l (List.mem_append_right _ hl),e7,fun k hk => ?_,fun k x hx hn l hl => ?_⟩
   ·cases k with
    | zero =>
     simp only [List.getElem?_cons_zero,sjE] at hx
     subst hx
     exact .inr ⟨by simpa using hE,hno,d0,rfl,by simp only; rw [e1]; exact hat⟩
    | succ k =>
     have := e3 k x (by simpa using hx)
     rw [show i + 1 + k = i + (k + 1) by omega] at this
     exact this
   ·cases k with
    | zero =>
     have h0 := e8 0 (Nat.zero_le _)
     rw [e1,hat.next] at h0
     exact h0
    | succ k => exact e8 k (by simpa using hk)
   ·cases k with
    | zero =>
     simp only [List.getElem?_cons_zero,sjE] at hx
     subst hx
     exact e6 l (List.mem_append_left _ hl)
    | succ k => exact e9 k x (by simpa using hx) (by rw [show i + 1 + k = i + (k + 1) by omega]; exact hn) l hl
theorem stabL_get {bx : List Box} {l : Nat} : ∀ {vs : List (List Box)},stabL bx l vs -> ∀ b ∈ vs,b[l]? = bx[l]?
 | [],_,b,hb => by cases hb
 | v :: vs,h,b,hb => by
  rcases List.mem_cons.1 hb with rfl | hb
  ·exact h.1
  ·exact stabL_get h.2 b hb
theorem stab_get {bx : List Box} {vs : List (List Box)} : ∀ {ls : List Nat},stab bx vs ls -> ∀ l ∈ ls,∀ b ∈ vs,b[l]? = bx[l]?
 | [],_,l,hl => by cases hl
 | x :: ls,h,l,hl => by
  rcases List.mem_cons.1 hl with rfl | hl
  ·exact stabL_get h.1
  ·exact stab_get h.2 l hl
theorem aopNX_congrM {s' : St} (h : ∀ x ∈ o.op.operands.toList,Agr cfg s s' x) (hn : nOk cfg o s' = true) (hb : ∀ l ∈ loadBox cfg o s',s.bx[l]? = s'.bx[l]?) : aopNX e cfg o s = aopNX e cfg o s' := by
 unfold nOk at hn
 unfold aopNX
 cases hk : hookOf cfg o.op with
 | some k => rfl
 | none =>
 simp only
 split at hn
 ·rename_i x ho
  rw [ho] at h
  simp only [ho,isFnCall,aopN]
  have hx := h x (by simp [Op.operands])
  rw [hx.1]
 ·rename_i t x f ho
  rw [ho] at h
  simp only [ho,isFnCall,aopN]
  have hx := h x (by simp [Op.operands])
  rw [hx.1]
 ·rename_i op t x y t' ho
  rw [ho] at h
  simp only [ho,isFnCall,aopN]
  rw [(h x (by simp [Op.operands])).1,(h y (by simp [Op.operands])).1]
 ·rename_i op t x ho
  rw [ho] at h
  simp only [ho,isFnCall,aopN]
  rw [(h x (by simp [Op.operands])).1]
 ·rename_i x ho
  rw [ho] at h
  have hx := h x (by simp [Op.operands])
  simp only [ho,isFnCall,aopN]
  rw [<- hx.1]
  cases hv : s.val cfg x with
  | «alias» p => simp only [hx.2 p (by rw [hv]; rfl)]
  | _ => rfl
 ·rename_i t x ix ho
  rw [ho] at h
  have hx := h x (by simp [Op.operands])
  have hi := h ix (by simp [Op.operands])
  simp only [ho,isFnCall,aopN,aIndexAddr]
  have hrd : rd cfg x s = rd cfg x s' := by
   unfold rd
   rw [<- hx.1]
   cases hv : s.val cfg x with
   | «alias» p => simp only [hx.2 p (by rw [hv]; rfl)]
   | dat y => cases y <;> rfl
   | _ => rfl
  rw [hx.1,hi.1,hrd]
 ·rename_i t x ho
  rw [ho] at h
  have hx := h x (by simp [Op.operands])
  split at hn
  ·rename_i l off hv
   have hl : s.bx[l]? = s'.bx[l]? := hb l (by unfold loadBox; rw [ho]; simp [hv])
   simp only [ho,isFnCall,aopN]
   rw [hx.1,hv]
   simp only [hl]
  ·rename_i cs off hv
   simp only [ho,isFnCall,aopN]
   rw [hx.1,hv]
   simp only [aLoad]
   cases cfg.ti t with
   | none => rfl
   | some i =>
    simp only [seqO_some]
    split
    ·cases cut cs off i.size <;> rfl
    ·cases cs[off]? <;> rfl
  ·rename_i p k r j hv
   have hp := hx.2 p (by rw [hx.1,hv]; rfl)
   simp only [ho,isFnCall,aopN]
   rw [hx.1,hv]
   simp only [aLoad,hp]
   cases cfg.ti t with
   | none => rfl
   | some i =>
    simp only [seqO_some]
    cases rdPV p (s'.at p) with
    | none => rfl
    | some q =>
     simp only [seqO_some]
     cases q with
     | imm => rfl
     | «at» p2 ex k' xs =>
      simp only
      split
      ·cases xs[r]? with
       | none => rfl
       | some cs =>
        simp only [seqO_some]
        split
        ·cases cut cs j i.size <;> rfl
        ·cases cs[j]? <;> rfl
      ·rfl
  ·cases hn
 ·cases hn
theorem setO_get {ts : List PV} {d : Option Nat} {v : PV} {t : Nat} : (setO ts d v)[t]? = if d = some t then (if t < ts.length then some v else none) else ts[t]? := by
 cases d with
 | none => simp [setO]
 | some d =>
  simp only [setO,List.getElem?_set,sjE]
  by_cases e : d = t
  ·subst e; rfl
  ·rw [if_neg e,if_neg e]
theorem plainE_congr {s s' : St} (h : ∀ x ∈ o.op.operands.toList,s.val cfg x = s'.val cfg x) (hb : s.bx = s'.bx) (hn : s.nb = s'.nb) : plainE cfg o s = plainE cfg o s' := by
 unfold plainE
 cases hop : o.op with
 | alloc t => cases o.dst <;> simp only [hb,hn]
 | store t x y =>
  rw [hop] at h
  have h1 := h x (by simp [Op.operands])
  have h2 := h y (by simp [Op.operands])
  cases o.dst <;> simp only [h1,h2,hb,hn]
 | _ => rfl
theorem plainE_aop {s : St} {v : PV} {ef : Eff} (h : plainE cfg o s = some (v,ef)) (hno : ∀ (t : Nat) c,s.ts[t]? = some c -> noCellAl c = true)
  (hput : ∀ (x : St) q,x.ts = s.ts -> o.dst = some q -> put x (some q) v = { x with ts := x.ts.set q v }) : aopX e cfg none o s = some (applyP s o.dst v ef) := by
 unfold plainE at h
 split at h
 ·rename_i t q ho hd
  obtain ⟨i,h1,h2⟩ := seqO_eq.1 h
  simp only [sjE,Prod.mk.injEq] at h2
  obtain ⟨rfl,rfl⟩ := h2
  have hp := hput { s with bx := s.bx ++ [zeros cfg t i] } q rfl hd
  simp only [aopX,ho,hookOf,isFnCall,aop,h1,seqO_some,hd,hp,applyP,setO,Nat.lt_irrefl,if_false,Bool.or_false]
 ·rename_i t x y ho hd
  split at h
  ·rename_i l off hx
   split at h
   ·rename_i hpv
    obtain ⟨i,h1,h2⟩ := seqO_eq.1 h
    obtain ⟨cs,h3,h4⟩ := seqO_eq.1 h2
    obtain ⟨b,h5,h6⟩ := seqO_eq.1 h4
    split at h6
    ·rename_i hc
     simp only [sjE,Prod.mk.injEq] at h6
     obtain ⟨rfl,rfl⟩ := h6
     have hf : fetch cfg .take y s = some (s.val cfg y,s) := by
      unfold fetch
      cases hy : s.val cfg y with
      | dat => rfl
      | agg => rfl
      | _ => exact absurd hpv (by rw [hy]; exact fnt)
     have hstr : ∀ n,s.ts.map (PV.strip (isCellIn off n)) = s.ts := by
      intro n
      apply List.ext_getElem?
      intro t
      rw [List.getElem?_map]
      cases hct : s.ts[t]? with
      | none => rfl
      | some c =>
       refine congrArg some ?_
       have hn := hno t c hct
       cases ha : aliasOf c with
       | none => exact PV.strip_of ha
       | some p =>
        refine strip_false ha ?_
        cases p with
        | tmp => rfl
        | cell l' off' =>
         cases c with
         | «alias» p' => obtain rfl : p' = .cell l' off' := sij ha; cases hn
         | eptr p' _ _ _ => obtain rfl : p' = .cell l' off' := sij ha; cases hn
         | _ => cases ha
     simp only [aopX,ho,hookOf,isFnCall,aop,isTake,Bool.false_eq_true,if_false,Option.getD_none,hf,seqO_some,hx,aStore,h1,h3,if_pos hc.1,h5,if_pos hc.2,touch_ts,hstr,ite_self,hd,put,applyP,setO]
     by_cases hl : l < s.nb
     ·cases hn : (s.val cfg y).noPtr <;> cases hs : s.lo <;> simp [touch,hl,hs]
     ·cases hn : (s.val cfg y).noPtr <;> cases hs : s.lo <;> simp [touch,hl,hs]
    ·cases h6
   ·cases h
  ·cases h
 ·cases h
structure GoodM (s0 : St) (st : Nat -> St) (n i0 : Nat) (E : List Nat) (dk : Nat -> Option Nat) (vk : Nat -> PV) (lst : Nat -> Bool) (sL : St) : Prop where
 nb : sL.nb = s0.nb
 len : sL.ts.length = s0.ts.length
 hit : ∀ k t,k < n -> lst k = true -> dk k = some t -> sL.ts[t]? = some (vk k)
 miss : ∀ t,(∀ k,k < n -> lst k = true -> dk k ≠ some t) -> sL.ts[t]? = s0.ts[t]?
 ver : ∃ c,c <= n /\ sL.bx = (st c).bx /\ sL.lo = (st c).lo /\ sL.kp = (st c).kp /\ ∀ k,k < n -> E.contains (i0 + k) = true -> (lst k = true ↔ k < c)
section seg0
variable {L S : List Oper} {E : List Nat} {i0 : Nat} {st : Nat -> St} {dk : Nat -> Option Nat} {vk : Nat -> PV}
theorem atM_dst (hat : ∀ (k : Nat) o,S[k]? = some o -> AtM e cfg L (dstsOf S) E (i0 + k) o (st k) (st (k + 1)) (dk k) (vk k)) {k : Nat} {o : Oper} (h : S[k]? = some o) : o.dst = dk k := by
 rcases hat k o h with ⟨_,h⟩ | ⟨_,_,t,ht,h⟩
 ·exact h.dst
 ·rw [ht]; exact h.dst
theorem atM_al (hat : ∀ (k : Nat) o,S[k]? = some o -> AtM e cfg L (dstsOf S) E (i0 + k) o (st k) (st (k + 1)) (dk k) (vk k)) {k : Nat} (h : k < S.length) : okAl (dstsOf S) (vk k) = true := by
 rcases hat k _ (gge h) with ⟨_,h⟩ | ⟨_,_,_,_,h⟩
 ·exact h.al
 ·exact h.al
theorem noE_same (hat : ∀ (k : Nat) o,S[k]? = some o -> AtM e cfg L (dstsOf S) E (i0 + k) o (st k) (st (k + 1)) (dk k) (vk k)) {c j : Nat} (hcj : c <= j) (hj : j <= S.length) (h : ∀ k,c <= k -> k < j -> E.contains (i0 + k) = false) : (st j).bx = (st c).bx /\ (st j).lo = (st c).lo /\ (st j).kp = (st c).kp := by
 induction j with
 | zero =>
  obtain rfl : c = 0 := by omega
  exact ⟨rfl,rfl,rfl⟩
 | succ j ih =>
  by_cases hc : c = j + 1
  ·subst hc; exact ⟨rfl,rfl,rfl⟩
  ·obtain ⟨i1,i2,i3⟩ := ih (by omega) (by omega) fun k h1 h2 => h k h1 (by omega)
   rcases hat j _ (gge (by omega)) with ⟨h1,_⟩ | ⟨_,_,_,_,h1⟩
   ·rw [h j (by omega) (by omega)] at h1; cases h1
   ·rw [h1.next]; exact ⟨i1,i2,i3⟩
end seg0
section seg
variable {L S : List Oper} {E : List Nat} {i0 : Nat} {s0 : St} {st : Nat -> St} {dk : Nat -> Option Nat} {vk : Nat -> PV} {vs : List (List Box)} {ls : List Nat} (hst0 : st 0 = s0)
 (hat : ∀ (k : Nat) o,S[k]? = some o -> AtM e cfg L (dstsOf S) E (i0 + k) o (st k) (st (k + 1)) (dk k) (vk k))
 (hdd : ∀ k k' t,k < S.length -> k' < S.length -> dk k = some t -> dk k' = some t -> k = k') (hlen : ∀ k t,k < S.length -> dk k = some t -> t < s0.ts.length)
include hst0 hat hdd hlen
theorem seq_goodM : ∀ k,k <= S.length -> GoodM s0 st S.length i0 E dk vk (fun j => decide (j < k)) (st k)
 | 0,_ => by
  refine ⟨by rw [hst0],by rw [hst0],fun k _ _ h => by simp at h,fun _ _ => by rw [hst0],0,Nat.zero_le _,rfl,rfl,rfl,fun k _ _ => by simp⟩
 | k + 1,hk => by
  have ih := seq_goodM k (by omega)
  have hts : (st (k + 1)).ts = setO (st k).ts (dk k) (vk k) /\ (st (k + 1)).nb = (st k).nb := by
   rcases hat k _ (gge hk) with ⟨_,h⟩ | ⟨_,_,t,ht,h⟩
   ·rcases h.act with ⟨_,t,ht,c,j,ef,_,_,_,h6⟩ | ⟨_,ef,_,h6⟩
    ·rw [h6,ht]
     cases ef <;> exact ⟨rfl,rfl⟩
    ·rw [h6]; exact ⟨rfl,rfl⟩
   ·rw [h.next,ht]; exact ⟨rfl,rfl⟩
  refine ⟨hts.2.trans ih.nb,by rw [hts.1]; cases dk k <;> simpa [setO] using ih.len,fun j t hj hl hjt => ?_,fun t ht => ?_,k + 1,hk,rfl,rfl,rfl,fun j _ _ => by simp⟩
  ·rw [hts.1,setO_get]
   by_cases e : dk k = some t
   ·have := hdd k j t hk hj e hjt
    subst this
    rw [if_pos e,if_pos (by rw [ih.len]; exact hlen k t hk e)]
   ·rw [if_neg e]
    have hjk : j ≠ k := fun e' => e (by rw [<- e']; exact hjt)
    exact ih.hit j t hj (by simp only [dqE] at hl ⊢; omega) hjt
  ·have hne : dk k ≠ some t := ht k hk (by simp)
   rw [hts.1,setO_get,if_neg hne]
   exact ih.miss t fun j hj hl => ht j hj (by simp only [dqE] at hl ⊢; omega)
theorem goodM_end {lst : Nat -> Bool} {sL : St} (h : GoodM s0 st S.length i0 E dk vk lst sL) (hall : ∀ k,k < S.length -> lst k = true) : sL = st S.length := by
 have h2 := seq_goodM hst0 hat hdd hlen S.length (Nat.le_refl _)
 obtain ⟨c,c1,c2,c3,c4,c5⟩ := h.ver
 obtain ⟨q1,q2,q3⟩ := noE_same hat c1 (Nat.le_refl _) fun k h1 h2 => by
  cases hE : E.contains (i0 + k) with
  | false => rfl
  | true => have := (c5 k h2 hE).1 (hall k h2); omega
 have hts : sL.ts = (st S.length).ts := by
  apply List.ext_getElem?
  intro t
  by_cases hex : ∃ k,k < S.length /\ dk k = some t
  ·obtain ⟨k,hk,e⟩ := hex
   exact (h.hit k t hk (hall k hk) e).trans (h2.hit k t hk (by simpa using hk) e).symm
  ·exact (h.miss t fun k hk _ e => hex ⟨k,hk,e⟩).trans (h2.miss t fun k hk _ e => hex ⟨k,hk,e⟩).symm
 have hnb : sL.nb = (st S.length).nb := h.nb.trans h2.nb.symm
 have hbx := c2.trans q1.symm
 have hlo := c3.trans q2.symm
 have hkp := c4.trans q3.symm
 generalize st S.length = y at *
 obtain ⟨a1,a2,a3,a4,a5⟩ := sL
 obtain ⟨b1,b2,b3,b4,b5⟩ := y
 simp only at hts hnb hbx hlo hkp
 subst hts; subst hnb; subst hbx; subst hlo; subst hkp; rfl
theorem mix_step (hal : ∀ (i : Nat) c p,s0.ts[i]? = some c -> aliasOf c = some (.tmp p) -> p ∉ dstsOf S) (hno : s0.ts.all noCellAl = true) (hend : (st S.length).ts.all noCellAl = true)
  (hstab : stab (st S.length).bx vs ls) (hvs : ∀ k,k <= S.length -> (st k).bx ∈ vs ∨ (st k).bx = (st S.length).bx) (hls : ∀ (k : Nat) o,S[k]? = some o -> E.contains (i0 + k) = false -> ∀ l ∈ loadBox cfg o (st k),l ∈ ls)
  {lst : Nat -> Bool} {sL : St} (hG : GoodM s0 st S.length i0 E dk vk lst sL) {j : Nat} {o : Oper} (hj : S[j]? = some o) (hl : lst j = false)
  (hdep : ∀ t ∈ readsOf L o,∀ k,k < S.length -> dk k = some t -> lst k = true /\ k < j) (hE : E.contains (i0 + j) = true -> ∀ k,k < j -> E.contains (i0 + k) = true -> lst k = true) :
  ∃ s',aopG e cfg none L o sL = some s' /\ GoodM s0 st S.length i0 E dk vk (fun x => lst x || x == j) s' := by
 have hjl : j < S.length := (gsi.1 hj).1
 have hG2 := seq_goodM hst0 hat hdd hlen j (by omega)
 have hGn := seq_goodM hst0 hat hdd hlen S.length (Nat.le_refl _)
 have hdsk : ∀ k t,k < S.length -> dk k = some t -> t ∈ dstsOf S := fun k t hk ht => mem_dstsOf (gge hk) ((atM_dst hat (gge hk)).trans ht)
 have hvno : ∀ k t,k < S.length -> dk k = some t -> noCellAl (vk k) = true := fun k t hk ht => List.all_eq_true.1 hend _ (mog (hGn.hit k t hk (by simpa using hk) ht))
 have hsLno : ∀ (t : Nat) c,sL.ts[t]? = some c -> noCellAl c = true := by
  intro t c hc
  by_cases hex : ∃ k,k < S.length /\ lst k = true /\ dk k = some t
  ·obtain ⟨k,hk,q1,q0⟩ := hex
   have := hG.hit k t hk q1 q0
   rw [hc] at this
   obtain rfl := sij this
   exact hvno k t hk q0
  ·have := hG.miss t fun k hk q1 e => hex ⟨k,hk,q1,e⟩
   rw [hc] at this
   exact List.all_eq_true.1 hno c (mog this.symm)
 have hslot : ∀ t ∈ readsOf L o,sL.ts[t]? = (st j).ts[t]? /\ ((∃ k,k < S.length /\ sL.ts[t]? = some (vk k)) ∨ sL.ts[t]? = s0.ts[t]?) := by
  intro t ht
  by_cases hex : ∃ k,k < S.length /\ dk k = some t
  ·obtain ⟨k,hk,q0⟩ := hex
   obtain ⟨q1,q2⟩ := hdep _ ht k hk q0
   have := hG.hit k t hk q1 q0
   exact ⟨by rw [this,hG2.hit k t hk (by simpa using q2) q0],.inl ⟨k,hk,this⟩⟩
  ·have := hG.miss t fun k hk _ e => hex ⟨k,hk,e⟩
   exact ⟨by rw [this,hG2.miss t fun k hk _ e => hex ⟨k,hk,e⟩],.inr this⟩
 have hagr : ∀ x ∈ o.op.operands.toList,Agr cfg sL (st j) x := by
  intro x hx
  have hval : sL.val cfg x = (st j).val cfg x := by
   cases x with
   | tmp t =>
    have ht : t ∈ readsOf L o := List.mem_append_left _ (List.mem_filterMap.2 ⟨.tmp t,hx,rfl⟩)
    simp only [St.val,List.getD_eq_getElem?_getD,(hslot t ht).1]
   | _ => rfl
  refine ⟨hval,fun p hp => ?_⟩
  obtain ⟨t,rfl⟩ := val_is_tmp (c := sL.val cfg x) rfl (.inl ⟨_,hp⟩)
  have ht : t ∈ readsOf L o := List.mem_append_left _ (List.mem_filterMap.2 ⟨.tmp t,hx,rfl⟩)
  have hne : sL.ts.getD t .dead ≠ .dead := by
   intro e
   simp only [St.val,e] at hp
   cases hp
  have hts := getD_some (l := sL.ts) (i := t) (x := .dead) rfl hne
  cases p with
  | cell l off =>
   have := hsLno t _ hts
   simp only [St.val] at hp
   cases hv : sL.ts.getD t .dead with
   | «alias» p' => rw [hv] at hp this; obtain rfl : p' = .cell l off := sij hp; cases this
   | eptr p' _ _ _ => rw [hv] at hp this; obtain rfl : p' = .cell l off := sij hp; cases this
   | _ => rw [hv] at hp; cases hp
  | tmp q =>
   have hq : ∀ k,k < S.length -> dk k ≠ some q := by
    intro k hk e
    rcases (hslot t ht).2 with ⟨k',hk',h7⟩ | h7
    ·have h8 := atM_al hat hk'
     rw [hts] at h7
     have h9 : sL.ts.getD t .dead = vk k' := sij h7
     simp only [St.val,h9] at hp
     have hin := hdsk k q hk e
     cases hv : vk k' with
     | «alias» p' =>
      rw [hv] at hp h8
      obtain rfl : p' = .tmp q := sij hp
      simp [okAl,hin] at h8
     | eptr p' _ _ _ =>
      rw [hv] at hp h8
      obtain rfl : p' = .tmp q := sij hp
      simp [okAl,hin] at h8
     | _ => rw [hv] at hp; cases hp
    ·rw [hts] at h7
     exact hal t _ _ h7.symm hp (hdsk k q hk e)
   simp only [St.at,List.getD_eq_getElem?_getD,hG.miss q fun k hk _ => hq k hk,hG2.miss q fun k hk _ => hq k hk]
 have hw : ∀ b,wants L o (st j) = some b -> wants L o sL = some b := by
  intro b h3
  rw [<- h3]
  unfold wants
  cases hg : o.guard with
  | none => rfl
  | some p =>
   obtain ⟨i,want⟩ := p
   simp only
   cases hi : L[i]? with
   | none => rfl
   | some q =>
    simp only [seqO_some]
    cases hd : q.dst with
    | none => rfl
    | some t =>
     have ht : t ∈ readsOf L o := List.mem_append_right _ (by simp [hg,hi,hd])
     simp only [seqO_some,List.getD_eq_getElem?_getD,(hslot t ht).1]
 have hmap : ∀ q,dk j = some q -> sL.ts.map (PV.strip (isTmp q)) = sL.ts := by
  intro q0 hq0
  have hin := hdsk j q0 hjl hq0
  apply List.ext_getElem?
  intro t
  rw [List.getElem?_map]
  cases hc : sL.ts[t]? with
  | none => rfl
  | some c =>
   refine congrArg some ?_
   cases ha : aliasOf c with
   | none => exact PV.strip_of ha
   | some p =>
    refine strip_false ha ?_
    cases p with
    | cell => rfl
    | tmp q =>
     simp only [isTmp,beq_eq_false_iff_ne]
     intro e
     have hin' : q ∈ dstsOf S := by rw [e]; exact hin
     by_cases hex : ∃ k,k < S.length /\ lst k = true /\ dk k = some t
     ·obtain ⟨k,hk,q1,q2⟩ := hex
      have h7 := hG.hit k t hk q1 q2
      rw [hc] at h7
      obtain rfl := sij h7
      have h8 := atM_al hat hk
      cases hv : vk k with
      | «alias» p' => rw [hv] at ha h8; obtain rfl : p' = .tmp q := sij ha; simp [okAl,hin'] at h8
      | eptr p' _ _ _ => rw [hv] at ha h8; obtain rfl : p' = .tmp q := sij ha; simp [okAl,hin'] at h8
      | _ => rw [hv] at ha; cases ha
     ·have h7 := hG.miss t fun k hk q1 e => hex ⟨k,hk,q1,e⟩
      rw [hc] at h7
      exact hal t c q h7.symm ha hin'
 have hstrip : ∀ q v,dk j = some q -> okAl (dstsOf S) v = true -> PV.strip (isTmp q) v = v := by
  intro q0 v hq0 hv
  have hin := hdsk j q0 hjl hq0
  cases ha : aliasOf v with
  | none => exact PV.strip_of ha
  | some p =>
   cases p with
   | cell l off => exact strip_false ha rfl
   | tmp q =>
    refine strip_false ha ?_
    simp only [isTmp,beq_eq_false_iff_ne]
    intro e
    have hin' : q ∈ dstsOf S := by rw [e]; exact hin
    cases v with
    | «alias» p' => obtain rfl : p' = .tmp q := sij ha; simp [okAl,hin'] at hv
    | eptr p' _ _ _ => obtain rfl : p' = .tmp q := sij ha; simp [okAl,hin'] at hv
    | _ => cases ha
 have hput : ∀ (x : St) v q,dk j = some q -> x.ts = sL.ts -> okAl (dstsOf S) v = true -> put x (some q) v = { x with ts := x.ts.set q v } := by
  intro x v q hq hx hv
  simp only [put,hx,hstrip q v hq hv,hmap q hq,ite_self]
 have hset_hit : ∀ k t,k < S.length -> (lst k || k == j) = true -> dk k = some t -> (setO sL.ts (dk j) (vk j))[t]? = some (vk k) := by
  intro k t hk hlk hkt
  rw [setO_get]
  by_cases e : dk j = some t
  ·have := hdd j k t hjl hk e hkt
   subst this
   rw [if_pos e,if_pos (by rw [hG.len]; exact hlen j t hjl e)]
  ·rw [if_neg e]
   refine hG.hit k t hk ?_ hkt
   simp only [Bool.or_eq_true,beq_iff_eq] at hlk
   exact hlk.resolve_right fun e' => e (by rw [<- e']; exact hkt)
 have hset_miss : ∀ t,(∀ k,k < S.length -> (lst k || k == j) = true -> dk k ≠ some t) -> (setO sL.ts (dk j) (vk j))[t]? = s0.ts[t]? := by
  intro t ht
  have hne : dk j ≠ some t := ht j hjl (by simp)
  rw [setO_get,if_neg hne]
  exact hG.miss t fun k hk hlk => ht k hk (by simp [hlk])
 have hset_len : (setO sL.ts (dk j) (vk j)).length = s0.ts.length := by
  rw [<- hG.len]; cases dk j <;> simp [setO]
 obtain ⟨c,c1,c2,c3,c4,c5⟩ := hG.ver
 rcases hat j o hj with ⟨hEj,h⟩ | ⟨hEj,hnok,dj,hdj,h⟩
 ·-- a call,an allocation,a store
  have hcj : c <= j := by
   have := c5 j hjl hEj
   rw [hl] at this
   simp at this; exact this
  obtain ⟨q1,q2,q3⟩ := noE_same hat hcj (by omega) fun k h1 h2 => by
   cases hk : E.contains (i0 + k) with
   | false => rfl
   | true => have := (c5 k (by omega) hk).1 (hE hEj k h2 hk); omega
  have hbx : sL.bx = (st j).bx := c2.trans q1.symm
  have hlo : sL.lo = (st j).lo := c3.trans q2.symm
  have hkp : sL.kp = (st j).kp := c4.trans q3.symm
  have hnb : sL.nb = (st j).nb := hG.nb.trans hG2.nb.symm
  have hlast : ∀ k,k < S.length -> E.contains (i0 + k) = true -> ((lst k || k == j) = true ↔ k < j + 1) := by
   intro k hk hEk
   simp only [Bool.or_eq_true,beq_iff_eq]
   constructor
   ·rintro (h1 | h1)
    ·have := (c5 k hk hEk).1 h1; omega
    ·omega
   ·intro h1
    by_cases hkj : k = j
    ·exact .inr hkj
    ·exact .inl (hE hEj k (by omega) hEk)
  have hwn : wants L o sL = some true := by unfold wants; rw [h.guard]
  rcases h.act with ⟨hh,dj,hdj,cc,jb,ef,f1,f2,f3,f4⟩ | ⟨hpo,ef,f2,f4⟩
  ·have hprep : prepN cfg cc.1 cc.2 sL = some jb := by
    rw [<- f2]
    unfold isFnCall at f1
    split at f1
    ·rename_i cl ho
     split at f1
     ·rename_i f hf
      obtain rfl := sij f1
      rw [ho] at hagr
      unfold prepN
      rw [fetchNs_congr (xs := cl.args.toList) fun x hx => hagr x (by simp only [Op.operands,Call.operands,hf]; simp; exact .inr (by simpa using hx)),<- (hagr f (by simp [Op.operands,Call.operands,hf])).1,hbx]
     ·cases f1
    ·cases f1
   have hnoal : noAlias sL.ts = sL.ts := by
    unfold noAlias
    apply List.ext_getElem?
    intro t
    rw [List.getElem?_map]
    cases hc : sL.ts[t]? with
    | none => rfl
    | some x =>
     refine congrArg some ?_
     have hx := hsLno t x hc
     cases ha : aliasOf x with
     | none => exact PV.strip_of ha
     | some p =>
      refine strip_false ha ?_
      cases p with
      | tmp => rfl
      | cell l off =>
       cases x with
       | «alias» p' => obtain rfl : p' = .cell l off := sij ha; cases hx
       | eptr p' _ _ _ => obtain rfl : p' = .cell l off := sij ha; cases hx
       | _ => cases ha
   have hpp : prep cfg cc.1 cc.2 sL = some (jb,sL) := by
    unfold prepN at hprep
    obtain ⟨q,h5,h6⟩ := seqO_eq.1 hprep
    split at h6
    ·rename_i f cap hv
     obtain rfl := sij h6
     simp only [prep,fetchNs_fetchs h5,seqO,hv]
    ·cases h6
   have hdst : o.dst = some dj := h.dst.trans hdj
   have hset : sL.ts.set dj (vk j) = setO sL.ts (dk j) (vk j) := by rw [hdj]; rfl
   refine ⟨applyE sL dj (vk j) ef,?_,?_⟩
   ·unfold aopG
    rw [hwn]
    simp only [seqO_some,iteB_true]
    unfold aopX
    rw [hh]
    simp only
    rw [f1]
    simp only [hpp,seqO_some,f3]
    cases ef with
    | none => simp only [frzOut,fin,hdst,applyE,hput sL (vk j) dj hdj rfl h.al]
    | some ef =>
     simp only [frzOut,fin,hdst,applyE,hnoal,hput { sL with bx := ef.bx,lo := _,kp := _ } (vk j) dj hdj rfl h.al]
     all_goals (cases sL.lo <;> rfl)
   ·refine ⟨by cases ef <;> exact hG.nb,by cases ef <;> simp only [applyE,hset,hset_len],fun k t hk hlk hkt => by cases ef <;> (simp only [applyE,hset]; exact hset_hit k t hk hlk hkt),fun t ht => by cases ef <;> (simp only [applyE,hset]; exact hset_miss t ht),j + 1,hjl,?_,?_,?_,hlast⟩
    ·rw [f4]; cases ef
     ·exact hbx
     ·rfl
    ·rw [f4]; cases ef
     ·exact hlo
     ·simp only [applyE,hlo,hnb]
    ·rw [f4]; cases ef
     ·exact hkp
     ·simp only [applyE,hkp]
  ·have hpl : plainE cfg o sL = some (vk j,ef) := by
    rw [<- f2]
    exact plainE_congr (fun x hx => (hagr x hx).1) hbx hnb
   have hap := plainE_aop (e := e) hpl hsLno (fun x q hx hq => hput x (vk j) q (h.dst.symm.trans hq) hx h.al)
   rw [h.dst] at hap
   refine ⟨applyP sL (dk j) (vk j) ef,?_,?_⟩
   ·unfold aopG
    rw [hwn]
    simp only [seqO_some,iteB_true]
    exact hap
   ·refine ⟨hG.nb,hset_len,hset_hit,hset_miss,j + 1,hjl,?_,?_,?_,hlast⟩
    ·rw [f4]; rfl
    ·rw [f4]; simp only [applyP,hlo,hnb]
    ·rw [f4]; simp only [applyP,hkp]
 ·-- an operation that turns its slot
  obtain ⟨b,h3,h4⟩ : ∃ b,wants L o (st j) = some b /\ iteB b (fun _ => aopNX e cfg o (st j)) (fun _ => some (.dat (.lit undef))) = some (vk j) := by
   rcases h.val with ⟨t,q1,_⟩ | q
   ·rw [nOk_alloc ‹nOk cfg o (st j) = true›] at q1; cases q1
   ·exact q.2
  have hbl : ∀ l ∈ loadBox cfg o (st j),sL.bx[l]? = (st j).bx[l]? := by
   intro l hl'
   have hin := hls j o hj hEj l hl'
   have hv : ∀ k,k <= S.length -> (st k).bx[l]? = (st S.length).bx[l]? := fun k hk => by
    rcases hvs k hk with h | h
    ·exact stab_get hstab l hin _ h
    ·rw [h]
   rw [c2,hv c c1,hv j (by omega)]
  have hset : sL.ts.set dj (vk j) = setO sL.ts (dk j) (vk j) := by rw [hdj]; rfl
  refine ⟨{ sL with ts := setO sL.ts (dk j) (vk j) },?_,⟨hG.nb,hset_len,hset_hit,hset_miss,c,c1,c2,c3,c4,fun k hk hEk => ?_⟩⟩
  ·rw [<- hset]
   unfold aopG
   rw [hw b h3]
   simp only [seqO_some]
   cases b with
   | true =>
    have hv : aopNX e cfg o sL = some (vk j) := by
     rw [aopNX_congrM hagr hnok hbl]; exact h4
    simp only [iteB_true,aopNX_aopX hv,h.dst,hput sL _ dj hdj rfl h.al]
   | false =>
    have hv : PV.dat (.lit undef) = vk j := sij h4
    simp only [iteB_false,h.dst]
    rw [<- hv,hput sL _ dj hdj rfl rfl]
  ·have hkj : k ≠ j := by rintro rfl; rw [hEj] at hEk; cases hEk
   simp only [Bool.or_eq_true,beq_iff_eq,hkj,or_false]
   exact c5 k hk hEk
end seg
end
end Go.Vx
namespace Go.Vx
open Go Go.RowKit
section
variable {P : Program} {cfg : Cfg} {base : Nat} {w0 w : World} {g : Gh} {d : Nat} {s : St} {vals : Array Value} {o : Oper} {a : Act} {e : Job -> Option Out}
theorem wp_put {Q : Exit -> Act -> World -> Prop} {K : Act -> World -> Prop} (h : o.wp P a w K Q) : o.wp P a w (fun a' w' => K a' w' /\ ∃ v,a'.tmps = putVals a.tmps o.dst v) Q := by
 unfold Oper.wp at *
 generalize (execOp a.eval o).run P w = r at *
 cases r with
 | ok n w' =>
  cases n <;> simp only [Oper.upon] at h ⊢
  case value v => exact ⟨h,v,put_act ..⟩
  case skip => exact ⟨h,undef,put_act ..⟩
  case «defer» df => exact ⟨h,undef,by cases o.dst <;> rfl⟩
  case enter f args =>
   refine Calls.mono h ?_
   intro ex w'' he
   cases ex with
   | returned v => exact ⟨he,v,put_act ..⟩
   | panicked c => exact he
   | outgrown => exact he
  case row r args => exact Rows.mono h fun v w'' he => ⟨he,v,put_act ..⟩
 | halt x w' => cases x <;> exact h
theorem wpOp_put {Q : Exit -> Act -> World -> Prop} {K : Act -> World -> Prop} {ops : Array Oper} {i : Nat} (ho : ops[i]? = some o) (h : wpOp P ops Q i K a w) : wpOp P ops Q i (fun a' w' => K a' w' /\ ∃ v,a'.tmps = putVals a.tmps o.dst v) a w := by
 unfold wpOp at *
 rw [ho] at h ⊢
 simp only at h ⊢
 split at h
 ·rename_i hw
  rw [if_pos hw]
  exact h.imp wp_put id
 ·rename_i hw
  rw [if_neg hw]
  exact ⟨h,undef,put_act ..⟩
def Pb (cfg : Cfg) (base q : Nat) (w : World) (g : Gh) (t : TypeId) (v : Option Value) : Prop :=
 ∃ (i : TI) (b : Nat) (cs : Array Value),cfg.ti t = some i /\ v = some (.pointer (some ⟨b,0,none⟩)) /\ base <= b /\ g.own b = some (.tmp 0 q 0) /\ (∀ j,g.m ⟨b,j,none⟩ = none) /\ w.heap[b]? = some (.cells cs t (0,0)) ∧
  cs.size = (zeros cfg t i).length /\ ∀ (j : Nat) c u,(zeros cfg t i)[j]? = some c -> cs[j]? = some u -> RelC g c u
theorem Pb.stp {q : Nat} {t : TypeId} {v : Option Value} {s' : St} {w' : World} {g' : Gh} (hd : 0 < d) (h : Pb cfg base q w g t v) (st : Stp d s s' w w' g g') : Pb cfg base q w' g' t v := by
 obtain ⟨i,b,cs,h1,h2,h3,h5,h6,h7,h8,h9⟩ := h
 obtain ⟨k1,k2,k3⟩ := st.tmps b 0 q 0 h5 hd
 exact ⟨i,b,cs,h1,h2,h3,k2.trans h5,fun j => (k3 j).trans (h6 j),k1.trans h7,h8,fun j c u hc hu => (h9 j c u hc hu).grows st.gr⟩
def Pend (cfg : Cfg) (base q : Nat) (S : List Oper) (dk : Nat -> Nat) (l : Nat -> Bool) (vals : Array Value) (w : World) (g : Gh) : Prop :=
 (∀ (k : Nat) o t,S[k]? = some o -> allocOf o = some t -> l k = true -> Pb cfg base q w g t vals[dk k]?) ∧
 ∀ (k k' : Nat) o o' t t',S[k]? = some o -> S[k']? = some o' -> allocOf o = some t -> allocOf o' = some t' -> l k = true -> l k' = true -> vals[dk k]? = vals[dk k']? -> k = k'
theorem allocOf_op {t : TypeId} (h : allocOf o = some t) : o.guard = none /\ o.op = .alloc t := by
 unfold allocOf at h
 split at h
 ·cases h
 ·rename_i hg
  split at h
  ·rename_i t' ho
   obtain rfl := sij h
   exact ⟨hg,ho⟩
  ·cases h
theorem adopts_ti : ∀ (os : List Oper) {s s' : St},adopts cfg os s = some s' -> ∀ (k : Nat) o t,os[k]? = some o -> allocOf o = some t -> ∃ i,cfg.ti t = some i
 | [],_,_,_,k,o,t,h,_ => by simp at h
 | x :: os,s,s',h,k,o,t,hk,ht => by
  unfold adopts at h
  cases hx : allocOf x with
  | some t' =>
   rw [hx] at h
   obtain ⟨i,h1,h2⟩ := seqO_eq.1 h
   cases k with
   | zero =>
    simp only [List.getElem?_cons_zero,sjE] at hk
    subst hk
    rw [hx] at ht
    obtain rfl := sij ht
    exact ⟨i,h1⟩
   | succ k => exact adopts_ti os h2 k o t (by simpa using hk) ht
  | none =>
   rw [hx] at h
   cases k with
   | zero =>
    simp only [List.getElem?_cons_zero,sjE] at hk
    subst hk
    rw [hx] at ht; cases ht
   | succ k => exact adopts_ti os h k o t (by simpa using hk) ht
def Gh.pend (g : Gh) (b q : Nat) : Gh := { g with own := fun b' => if b' = b then some (.tmp 0 q 0) else g.own b' }
theorem alloc_pend (hc : CfgOk P cfg) (hi : Inv base w0 w g d s a.tmps) {t : TypeId} (ho : o.op = .alloc t) {i : TI} (h1 : cfg.ti t = some i) (q : Nat) :
  ∃ us : Array Value,(execOp a.eval o).run P w = .ok (.value (.pointer (some ⟨w.heap.size,0,none⟩))) (w.alloc (.cells us t)) /\ Inv base w0 (w.alloc (.cells us t)) (g.pend w.heap.size q) d s a.tmps ∧
   Stp d s s w (w.alloc (.cells us t)) g (g.pend w.heap.size q) /\ Pb cfg base q (w.alloc (.cells us t)) (g.pend w.heap.size q) t (some (.pointer (some ⟨w.heap.size,0,none⟩))) := by
 have ht := hc.ti t i h1
 obtain ⟨info,z,q1,q2,q3,q4,q5⟩ := ht.info
 obtain ⟨r1,r2⟩ := zeros_cells (cfg := cfg) (t := t) (zero_cells (g := g) ht.zero q5)
 refine ⟨z.cells,?_,?_⟩
 ·simp only [execOp,ho,Instr.alloc,newVar,newRow,Sem.run_bind,run_zeroValue q1 q4,Result.andThen_ok,run_newObj,Sem.run_pure]
  rfl
 have hbase : base <= w.heap.size := Nat.le_trans hi.hb hi.low.size
 have hg : Grows g (g.pend w.heap.size q) := ⟨fun _ _ h => h,fun l b h => h,rfl⟩
 have hmn : ∀ j,g.m ⟨w.heap.size,j,none⟩ = none := by
  intro j
  cases hm : g.m ⟨w.heap.size,j,none⟩ with
  | none => rfl
  | some v => have := m_lt hi hm; simp at this
 obtain ⟨k1,k2⟩ := inv_grow (w1 := w.alloc (.cells z.cells t)) (g1 := g.pend w.heap.size q) (nbs := []) (nbl := []) hi (hi.low.alloc hbase _) hg
  (fun a v h => by
   have h' := hi.mem a v h
   rw [World.cell?_of_block (w := w) (heap_alloc_old w _ a.block (World.block_lt_of_cell? w a h'))]
   exact h')
  (fun b o' hb _ => ⟨heap_alloc_old w _ b (hi.own_lt b o' hb),by
   simp only [Gh.pend]
   rw [if_neg]
   have := hi.own_lt b o' hb
   omega,fun _ => rfl⟩)
  (fun b o' hb => by
   simp only [Gh.pend] at hb
   split at hb
   ·rename_i e
    subst e
    obtain rfl := sij hb
    exact .inr ⟨hbase,by simp,fun _ _ _ e => by cases e; exact Nat.zero_le _⟩
   ·exact .inl hb)
  (by simp) (by simp [Gh.pend]) rfl (by simp) (fun b hb => by simp at hb) (fun l b bx h1 h2 => by simp at h1)
 rw [List.append_nil] at k1 k2
 refine ⟨k1,k2,i,w.heap.size,z.cells,h1,rfl,hbase,by simp [Gh.pend],hmn,heap_alloc_new w _,r1,fun j c u hc hu => (r2 j c u hc hu).grows hg⟩
def Gh.free (g : Gh) (b : Nat) : Gh := { g with own := fun b' => if b' = b then none else g.own b' }
theorem free_inv (hd : 0 < d) (hi : Inv base w0 w g d s vals) {b q : Nat} (hb : g.own b = some (.tmp 0 q 0)) : Inv base w0 w (g.free b) d s vals := by
 have hg : Grows g (g.free b) := ⟨fun _ _ h => h,fun _ _ h => h,rfl⟩
 have hk : ∀ b' o',g.own b' = some o' -> o' ≠ .tmp 0 q 0 -> Kept w w g (g.free b) b' := fun b' o' h hne => by
  refine ⟨rfl,?_,fun _ => rfl⟩
  simp only [Gh.free]
  rw [if_neg]
  intro e
  subst e
  rw [h] at hb
  exact hne (sij hb)
 have hown : ∀ b' o',(g.free b).own b' = some o' -> g.own b' = some o' := fun b' o' h => by
  simp only [Gh.free] at h
  split at h
  ·cases h
  ·exact h
 refine ⟨hi.low,hi.hb,hi.mem,fun b' o' h => hi.own_ge b' o' (hown b' o' h),fun b' o' h => hi.own_lt b' o' (hown b' o' h),fun b' d' i j h => hi.own_d b' d' i j (hown b' _ h),hi.blen,hi.nodup,hi.nbl,fun l b' bx h1 h2 => ?_,hi.tl,fun i c v h1 h2 => ?_,hi.al⟩
 ·have hbr := hi.boxes l b' bx h1 h2
  exact hbr.kept hg (hk b' _ hbr.1 (by intro e; cases e)) fun off b'' h => hk b'' _ h (by intro e; cases e)
 ·have hr := hi.tmps i c v h1 h2
  have hkj : ∀ j b',g.own b' = some (.tmp d i j) -> Kept w w g (g.free b) b' := fun j b' h => hk b' _ h (by intro e; cases e; omega)
  cases c with
  | «alias» p => exact hr
  | eptr p k r j => exact hr
  | own ex k xs => exact RelV.kept (c := .own ex k xs) hg hkj hr
  | dat x => exact RelV.kept (c := .dat x) hg hkj hr
  | agg x => exact RelV.kept (c := .agg x) hg hkj hr
  | bag x => exact RelV.kept (c := .bag x) hg hkj hr
  | tup x => exact RelV.kept (c := .tup x) hg hkj hr
  | ptr l off => exact RelV.kept (c := .ptr l off) hg hkj hr
  | iptr cs off => exact RelV.kept (c := .iptr cs off) hg hkj hr
  | clo f cap => exact RelV.kept (c := .clo f cap) hg hkj hr
  | dead => trivial
theorem adopt_one (hd : 0 < d) {wS : World} {gS : Gh} {s0 : St} {vals0 : Array Value} (hi0 : Inv base w0 wS gS d s0 vals0) (hi : Inv base w0 w g d s vals) (hst : Stp d s0 s wS w gS g)
  {b q : Nat} {cs : Array Value} {T : TypeId} {zs : Box} (h3 : base <= b) (h4 : ∀ b',gS.own b' ≠ some (.tmp 0 q 0)) (h5 : g.own b = some (.tmp 0 q 0)) (h6 : ∀ j,g.m ⟨b,j,none⟩ = none) (h7 : w.heap[b]? = some (.cells cs T (0,0)))
  (h8 : cs.size = zs.length) (h9 : ∀ (j : Nat) c u,zs[j]? = some c -> cs[j]? = some u -> RelC g c u) {dst : Option Tmp} :
  ∃ g',Inv base w0 w g' d (put { s with bx := s.bx ++ [zs] } dst (.ptr s.bx.length 0)) (putVals vals dst (.pointer (some ⟨b,0,none⟩))) ∧
   Stp d s0 (put { s with bx := s.bx ++ [zs] } dst (.ptr s.bx.length 0)) wS w gS g' /\ Grows g g' /\ (∀ b',b' ≠ b -> g.own b' = some (.tmp 0 q 0) -> g'.own b' = some (.tmp 0 q 0)) /\ g'.m = g.m := by
 have hf := free_inv hd hi h5
 have hlt : b < w.heap.size := hi.own_lt b _ h5
 have hfb : (g.free b).own b = none := by simp [Gh.free]
 have hg : Grows (g.free b) ((g.free b).newBox b) := ⟨fun _ _ h => h,fun l b' h => by
  simp only [Gh.newBox]; rw [gal (gsi.1 h).1]; exact h,rfl⟩
 obtain ⟨k1,k2⟩ := inv_grow (w1 := w) (g1 := (g.free b).newBox b) (nbs := [zs]) (nbl := [b]) hf hf.low hg hf.mem
  (fun b' o' hb _ => ⟨rfl,by
   have hne : ¬ b' = b := by
    intro e
    subst e
    rw [hfb] at hb; cases hb
   show (if b' = b then some Owner.box else (g.free b).own b') = (g.free b).own b'
   rw [if_neg hne],fun _ => rfl⟩)
  (fun b' o' hb => by
   simp only [Gh.newBox] at hb
   split at hb
   ·rename_i e
    subst e
    obtain rfl := sij hb
    exact .inr ⟨h3,hlt,fun _ _ _ e => by cases e⟩
   ·exact .inl hb)
  (Nat.le_refl _) rfl rfl (by simp) (fun b' hb => by
   simp only [List.mem_singleton] at hb
   subst hb
   rw [hfb]
   exact fun e => by cases e)
  (fun l b' bx h1 h2 => by
   cases l with
   | succ l => simp at h1
   | zero =>
    simp only [List.getElem?_cons_zero,sjE] at h1 h2
    subst h1; subst h2
    refine ⟨by simp [Gh.newBox],h6,cs,T,h7,h8,fun j c u hc hu => ?_⟩
    have h' : RelC ((g.free b).newBox b) c u := RelC.grows (g := g) (g' := (g.free b).newBox b) ⟨fun _ _ h => h,fun l b' h => by simp only [Gh.newBox,Gh.free]; rw [gal (gsi.1 h).1]; exact h,rfl⟩ (h9 j c u hc hu)
    cases c <;> first | exact h' | exact h'.elim)
 have hblen : g.blk.length = s.bx.length := hi.blen
 obtain ⟨p1,p2,_⟩ := put_sound (pv := .ptr s.bx.length 0) (v := .pointer (some ⟨b,0,none⟩)) k1 ⟨b,by simp only [Gh.newBox,Gh.free]; rw [<- hblen]; simp,rfl⟩ dst
 have hgg : Grows g ((g.free b).newBox b) := ⟨fun _ _ h => h,fun l b' h => by
  simp only [Gh.newBox,Gh.free]; rw [gal (gsi.1 h).1]; exact h,rfl⟩
 have hkb : ∀ b' o',gS.own b' = some o' -> Kept wS w gS g b' -> Kept wS w gS ((g.free b).newBox b) b' := fun b' o' hb' hk => by
  refine hk.trans ⟨rfl,?_,fun _ => rfl⟩
  have : ¬ b' = b := by
   intro e
   subst e
   exact h4 b' (hk.2.1.symm.trans h5)
  simp only [Gh.newBox,Gh.free,if_neg this]
 have hst2 : Stp d s0 { s with bx := s.bx ++ [zs] } wS w gS ((g.free b).newBox b) := by
  refine ⟨hst.gr.trans hgg,hst.nb,Nat.le_trans hst.bl (by simp),fun b' d' i j hb' hdd => hkb b' _ hb' (hst.tmps b' d' i j hb' hdd),hst.lo,fun l hl hbl => ?_,hst.kp,fun hk n l bx bx' hl h1 h2 h3 => ?_⟩
  ·obtain ⟨q1,q2⟩ := hst.old l hl hbl
   have hls : l < s.bx.length := Nat.lt_of_lt_of_le hl (Nat.le_trans hi0.nbl hst.bl)
   refine ⟨by rw [<- q1]; exact gal hls,fun b' hb' => ?_⟩
   obtain ⟨q3,q4⟩ := q2 b' hb'
   have hl0 : l < s0.bx.length := Nat.lt_of_lt_of_le hl hi0.nbl
   have hbx := hi0.boxes l b' _ hb' (gge hl0)
   exact ⟨hkb b' _ hbx.1 q3,fun off b'' hb'' => hkb b'' _ hb'' (q4 off b'' hb'')⟩
  ·have hls : l < s.bx.length := Nat.lt_of_lt_of_le hl (Nat.le_trans hi0.nbl hst.bl)
   have h3' : (s.bx ++ [zs])[l]? = some bx' := h3
   rw [gal hls] at h3'
   exact hst.kpl hk n l bx bx' hl h1 h2 h3'
 refine ⟨_,p1,hst2.trans p2,hgg.trans p2.gr,fun b' hne hb' => ?_,rfl⟩
 have : ((g.free b).newBox b).own b' = some (.tmp 0 q 0) := by simp only [Gh.newBox,Gh.free,if_neg hne]; exact hb'
 simp [Gh.relab,this,labOf]
theorem fresh_owner (f : Nat -> Option Owner) : ∀ n : Nat,∃ q,∀ b,b < n -> ∀ q',q <= q' -> f b ≠ some (.tmp 0 q' 0)
 | 0 => ⟨0,fun b h => by omega⟩
 | n + 1 => by
  obtain ⟨q,hq⟩ := fresh_owner f n
  cases h : f n with
  | none =>
   refine ⟨q,fun b hb q' hq' => ?_⟩
   by_cases e : b = n
   ·subst e; rw [h]; intro e; cases e
   ·exact hq b (by omega) q' hq'
  | some o =>
   cases o with
   | tmp d i j =>
    refine ⟨max q (i + 1),fun b hb q' hq' => ?_⟩
    by_cases e : b = n
    ·subst e; rw [h]; intro e; cases e; omega
    ·exact hq b (by omega) q' (by omega)
   | _ =>
    refine ⟨q,fun b hb q' hq' => ?_⟩
    by_cases e : b = n
    ·subst e; rw [h]; intro e; cases e
    ·exact hq b (by omega) q' hq'
theorem putVals_same {vals : Array Value} {t : Nat} {v : Value} (h : vals[t]? = some v) : putVals vals (some t) v = vals := by
 apply Array.ext_getElem?
 intro i
 simp only [putVals,Array.getElem?_setIfInBounds]
 split
 ·rename_i e
  subst e
  have := (Array.getElem?_eq_some_iff.1 h).1
  rw [if_pos this,h]
 ·rfl
theorem adopts_sound (hd : 0 < d) {wS : World} {gS : Gh} {s0 : St} {vals0 : Array Value} (hi0 : Inv base w0 wS gS d s0 vals0) {q : Nat} (hq : ∀ b',gS.own b' ≠ some (.tmp 0 q 0)) {S : List Oper} {dk : Nat -> Nat} (hdst : ∀ (k : Nat) o,S[k]? = some o -> o.dst = some (dk k)) :
  ∀ (os : List Oper) (m : Nat) {g : Gh} {s s' : St},os = S.drop m -> adopts cfg os s = some s' -> Inv base w0 w g d s vals -> Stp d s0 s wS w gS g →
   Pend cfg base q S dk (fun k => decide (m <= k)) vals w g -> ∃ g',Inv base w0 w g' d s' vals /\ Stp d s0 s' wS w gS g' /\ Grows g g'
 | [],m,g,s,s',_,h,hi,hst,_ => by
  obtain rfl := sij h
  exact ⟨g,hi,hst,Grows.refl g⟩
 | o :: os,m,g,s,s',hos,h,hi,hst,hp => by
  have hm : S[m]? = some o := by
   have : (S.drop m)[0]? = some o := by rw [<- hos]; rfl
   rw [List.getElem?_drop] at this; exact this
  have hos' : os = S.drop (m + 1) := by
   have := congrArg List.tail hos
   rw [List.tail_cons,List.tail_drop] at this; exact this
  unfold adopts at h
  cases ha : allocOf o with
  | none =>
   rw [ha] at h
   have hle : ∀ k,decide (m + 1 <= k) = true -> decide (m <= k) = true := fun k hl => by
    simp only [dqE] at hl ⊢; omega
   exact adopts_sound hd hi0 hq hdst os (m + 1) hos' h hi hst ⟨fun k o' t hk ht hl => hp.1 k o' t hk ht (hle k hl),fun k k' o1 o2 t t' hk hk' ht ht' hl hl' => hp.2 k k' o1 o2 t t' hk hk' ht ht' (hle k hl) (hle k' hl')⟩
  | some t =>
   rw [ha] at h
   obtain ⟨i,h1,h2⟩ := seqO_eq.1 h
   obtain ⟨i',b,cs,q1,q2,q3,q5,q6,q7,q8,q9⟩ := hp.1 m o t hm ha (by simp)
   rw [h1] at q1
   obtain rfl := sij q1
   obtain ⟨g1,r1,r2,r3,r4,r5⟩ := adopt_one (dst := o.dst) hd hi0 hi hst q3 hq q5 q6 q7 q8 q9
   rw [hdst m o hm] at r1 r2 h2
   rw [putVals_same q2] at r1
   have hle : ∀ k,decide (m + 1 <= k) = true -> decide (m <= k) = true := fun k hl => by
    simp only [dqE] at hl ⊢; omega
   have hp' : Pend cfg base q S dk (fun k => decide (m + 1 <= k)) vals w g1 := by
    refine ⟨fun k o' t' hk ht hl => ?_,fun k k' o1 o2 t1 t' hk hk' ht ht' hl hl' => hp.2 k k' o1 o2 t1 t' hk hk' ht ht' (hle k hl) (hle k' hl')⟩
    obtain ⟨j,b',cs',p1,p2,p3,p5,p6,p7,p8,p9⟩ := hp.1 k o' t' hk ht (hle k hl)
    have hne : b' ≠ b := fun e => by
     subst e
     have h9 := hp.2 m k o o' t t' hm hk ha ht (by simp) (hle k hl) (by rw [q2,p2])
     subst h9
     simp only [dqE] at hl
     omega
    exact ⟨j,b',cs',p1,p2,p3,r4 b' hne p5,fun j => by rw [r5]; exact p6 j,p7,p8,fun j c u hc hu => (p9 j c u hc hu).grows r3⟩
   obtain ⟨g2,s1,s2,s3⟩ := adopts_sound hd hi0 hq hdst os (m + 1) hos' h2 r1 r2 hp'
   exact ⟨g2,s1,s2,r3.trans s3⟩
theorem countP_lt {p q : Nat -> Bool} : ∀ {l : List Nat},(∀ x ∈ l,q x = true -> p x = true) -> (∃ x ∈ l,p x = true /\ q x = false) -> l.countP q < l.countP p
 | [],_,⟨x,hx,_⟩ => by cases hx
 | y :: l,h,⟨x,hx,h1,h2⟩ => by
  have hle : l.countP q <= l.countP p := List.countP_mono_left fun z hz => h z (mcm _ hz)
  simp only [List.countP_cons]
  rcases List.mem_cons.1 hx with e | hx
  ·subst e
   rw [h1,h2]; simp; omega
  ·have := countP_lt (l := l) (fun z hz => h z (mcm _ hz)) ⟨x,hx,h1,h2⟩
   have hy := h y (mcs ..)
   cases hq : q y <;> cases hp : p y <;> simp_all <;> omega
def unl (listed : Array Bool) (i0 n : Nat) : Nat := (List.range n).countP fun k => !listed.getD (i0 + k) false
theorem unl_set {listed : Array Bool} {i0 n k : Nat} (hk : k < n) (hl : listed.getD (i0 + k) false = false) (hs : i0 + k < listed.size) : unl (listed.setIfInBounds (i0 + k) true) i0 n < unl listed i0 n := by
 refine countP_lt (fun x _ hx => ?_) ⟨k,List.mem_range.2 hk,by rw [hl]; rfl,by simp [hs]⟩
 by_cases e : i0 + k = i0 + x
 ·have : k = x := by omega
  subst this
  rw [hl]; rfl
 ·rw [getD_set_ne _ e] at hx; exact hx
theorem Good.eq {n : Nat} {dk : Nat -> Nat} {vk : Nat -> PV} {l1 l2 : Nat -> Bool} {x y : St} (h1 : Good s n dk vk l1 x) (h2 : Good s n dk vk l2 y) (h : ∀ k,k < n -> l1 k = l2 k) : x = y := by
 obtain ⟨a1,a2,a3,a4,a5⟩ := x
 obtain ⟨b1,b2,b3,b4,b5⟩ := y
 have hts : a1 = b1 := by
  apply List.ext_getElem?
  intro t
  by_cases hex : ∃ k,k < n /\ l1 k = true /\ dk k = t
  ·obtain ⟨k,hk,hl,rfl⟩ := hex
   exact (h1.hit k hk hl).trans (h2.hit k hk (by rw [<- h k hk]; exact hl)).symm
  ·exact (h1.miss t fun k hk hl e => hex ⟨k,hk,hl,e⟩).trans (h2.miss t fun k hk hl e => hex ⟨k,hk,by rw [h k hk]; exact hl,e⟩).symm
 have e2 : a2 = b2 := h1.bx.trans h2.bx.symm
 have e3 : a3 = b3 := h1.nb.trans h2.nb.symm
 have e4 : a4 = b4 := h1.lo.trans h2.lo.symm
 have e5 : a5 = b5 := h1.kp.trans h2.kp.symm
 subst hts; subst e2; subst e3; subst e4; subst e5; rfl
theorem Good.ext {n : Nat} {dk : Nat -> Nat} {vk : Nat -> PV} {l l' : Nat -> Bool} {x : St} (he : ∀ k,k < n -> l k = l' k) (h : Good s n dk vk l x) : Good s n dk vk l' x :=
 ⟨h.bx,h.nb,h.lo,h.kp,h.len,fun k hk hl => h.hit k hk (by rw [he k hk]; exact hl),fun t ht => h.miss t fun k hk hl => ht k hk (by rw [<- he k hk]; exact hl)⟩
theorem seg_runR {ops : Array Oper} {i0 n : Nat} (hn : i0 + n <= ops.size) (hedge : edgesOk ops.toList = true)
  (hbar : ∀ j,i0 + n <= j -> j < ops.size -> ∀ k,k < n -> Anc ops.toList j (i0 + k)) {F : Nat} {Q : Exit -> Act -> World -> Prop} (R : (Nat -> Bool) -> Act -> World -> Prop) (hext : ∀ l l' a w,(∀ k,k < n -> l k = l' k) -> R l a w -> R l' a w)
  (hstep : ∀ (l : Nat -> Bool) a w k o,k < n -> R l a w -> ops[i0 + k]? = some o -> l k = false -> (∀ i,i < n -> Anc ops.toList (i0 + k) (i0 + i) -> l i = true) -> wpOp P ops Q (i0 + k) (R fun x => l x || x == k) a w)
  (hK : ∀ (fuel : Nat) (listed : Array Bool) (a : Act) (w : World),F <= fuel -> Lst ops listed (i0 + n) 0 -> R (fun _ => true) a w -> wpAny P .any ops Q fuel listed a w) :
  ∀ (m fuel : Nat) (listed : Array Bool) (a : Act) (w : World),unl listed i0 n <= m -> m + F <= fuel -> Lst ops listed i0 n -> R (fun k => listed.getD (i0 + k) false) a w -> wpAny P .any ops Q fuel listed a w := by
 intro m
 induction m with
 | zero =>
  intro fuel listed a w hu hf hL hR
  have hall : ∀ k,k < n -> listed.getD (i0 + k) false = true := by
   intro k hk
   have h0 : unl listed i0 n = 0 := Nat.le_zero.1 hu
   have := List.countP_eq_zero.1 h0 k (List.mem_range.2 hk)
   simpa using this
  refine hK fuel listed a w (by omega) ⟨hL.size,fun i hi => ?_,fun i hi => hL.new i hi,hL.closed⟩ (hext _ _ _ _ hall hR)
  by_cases h : i < i0
  ·exact hL.old i h
  ·have := hall (i - i0) (by omega)
   rw [show i0 + (i - i0) = i by omega] at this; exact this
 | succ m ih =>
  intro fuel listed a w hu hf hL hR
  by_cases hex : ∃ k,k < n /\ listed.getD (i0 + k) false = false
  ·obtain ⟨f,rfl⟩ : ∃ f,fuel = f + 1 := ⟨fuel - 1,by omega⟩
   refine ⟨fun hr => absurd hr (first_ready hL hn hedge n (Nat.le_refl n) (fun k hk => by omega) hex),fun j hj => ?_⟩
   obtain ⟨h1,h2,h3⟩ := ready_in hL hj hbar hex
   obtain ⟨k,rfl⟩ : ∃ k,j = i0 + k := ⟨j - i0,by omega⟩
   have hk : k < n := by omega
   have hjs : i0 + k < ops.size := by omega
   have ho : ops[i0 + k]? = some ops[i0 + k] := agg hjs
   refine wpOp_mono (fun a1 w1 hr => ?_) (hstep _ a w k _ hk hR ho h3 (fun i _ q2 => anc_listed hL.closed q2 fun o' ed ho' he hb => by
    obtain ⟨_,o2,ho2,hrd⟩ := mem_ready.1 hj
    rw [ho'] at ho2
    obtain rfl := sij ho2
    exact hrd ed he hb))
   refine ih f _ a1 w1 ?_ (by omega) (hL.set hj h2) (hext _ _ _ _ (fun k' hk' => ?_) hr)
   ·have := unl_set hk h3 (by rw [hL.size]; exact hjs)
    omega
   ·by_cases e : k' = k
    ·subst e; simp [hL.size,hjs]
    ·rw [getD_set_ne _ (by omega)]; simp [e]
  ·refine ih fuel listed a w ?_ (by omega) hL hR
   have : unl listed i0 n = 0 := by
    refine List.countP_eq_zero.2 fun k hk => ?_
    have : ¬ listed.getD (i0 + k) false = false := fun h => hex ⟨k,List.mem_range.1 hk,h⟩
    simp at this
    simp [this]
   omega
end
end Go.Vx
namespace Go.Vx
open Go Go.RowKit
section
variable {P : Program} {cfg : Cfg} {base : Nat} {w0 w : World} {g : Gh} {d : Nat} {s : St} {vals : Array Value} {o : Oper} {a : Act} {e : Job -> Option Out}
theorem seg_run (hc : CfgOk P cfg) (hcall : CallOk P cfg e) (hfn : ∀ f args bx out,e (.call f args bx) = some out -> ∃ fn,cfg.fn f = some fn) {ops : Array Oper} {i0 n : Nat} (hn : i0 + n <= ops.size) (hedge : edgesOk ops.toList = true)
  (hbar : ∀ j,i0 + n <= j -> j < ops.size -> ∀ k,k < n -> Anc ops.toList j (i0 + k)) {s0 sn : St} (G : (Nat -> Bool) -> St -> Prop) (hext : ∀ l l' sL,(∀ k,k < n -> l k = l' k) -> G l sL -> G l' sL)
  (hend : ∀ l sL,(∀ k,k < n -> l k = true) -> G l sL -> sL = sn)
  (hstep : ∀ (l : Nat -> Bool) sL k o,k < n -> G l sL -> ops[i0 + k]? = some o -> l k = false -> (∀ i,i < n -> Anc ops.toList (i0 + k) (i0 + i) -> l i = true) -> ∃ s',aopG e cfg none ops.toList o sL = some s' /\ G (fun x => l x || x == k) s')
  {F : Nat} {Q : Exit -> Act -> World -> Prop} {df : List Deferred} {wS : World} {gS : Gh}
  (hK : ∀ (fuel : Nat) (listed : Array Bool) (a : Act) (w : World) (g : Gh),F <= fuel -> Lst ops listed (i0 + n) 0 -> Inv base w0 w g d sn a.tmps -> GlobOk cfg g -> a.defers = df -> Stp d s0 sn wS w gS g -> wpAny P .any ops Q fuel listed a w) :
  ∀ (m fuel : Nat) (listed : Array Bool) (a : Act) (w : World) (g : Gh) (sL : St),unl listed i0 n <= m -> m + F <= fuel -> Lst ops listed i0 n -> G (fun k => listed.getD (i0 + k) false) sL →
   Inv base w0 w g d sL a.tmps -> GlobOk cfg g -> a.defers = df -> Stp d s0 sL wS w gS g -> wpAny P .any ops Q fuel listed a w := by
 intro m
 induction m with
 | zero =>
  intro fuel listed a w g sL hu hf hL hG hi hgl hdf hst
  have hall : ∀ k,k < n -> listed.getD (i0 + k) false = true := by
   intro k hk
   have h0 : unl listed i0 n = 0 := Nat.le_zero.1 hu
   have := List.countP_eq_zero.1 h0 k (List.mem_range.2 hk)
   simpa using this
  have : sL = sn := hend _ sL hall hG
  subst this
  refine hK fuel listed a w g (by omega) ⟨hL.size,fun i hi => ?_,fun i hi => hL.new i hi,hL.closed⟩ hi hgl hdf hst
  by_cases h : i < i0
  ·exact hL.old i h
  ·have := hall (i - i0) (by omega)
   rw [show i0 + (i - i0) = i by omega] at this; exact this
 | succ m ih =>
  intro fuel listed a w g sL hu hf hL hG hi hgl hdf hst
  by_cases hex : ∃ k,k < n /\ listed.getD (i0 + k) false = false
  ·obtain ⟨f,rfl⟩ : ∃ f,fuel = f + 1 := ⟨fuel - 1,by omega⟩
   refine ⟨fun hr => absurd hr (first_ready hL hn hedge n (Nat.le_refl n) (fun k hk => by omega) hex),fun j hj => ?_⟩
   obtain ⟨h1,h2,h3⟩ := ready_in hL hj hbar hex
   obtain ⟨k,rfl⟩ : ∃ k,j = i0 + k := ⟨j - i0,by omega⟩
   have hk : k < n := by omega
   have hjs : i0 + k < ops.size := by omega
   have ho : ops[i0 + k]? = some ops[i0 + k] := agg hjs
   obtain ⟨s',hst1,hG1⟩ := hstep _ sL k _ hk hG ho h3 (fun i _ q2 => anc_listed hL.closed q2 fun o' ed ho' he hb => by
    obtain ⟨_,o2,ho2,hrd⟩ := mem_ready.1 hj
    rw [ho'] at ho2
    obtain rfl := sij ho2
    exact hrd ed he hb)
   refine wpOp_mono (fun a1 w1 hr => ?_) (aopG_sound hc hcall hfn hi hgl hst1 ho)
   obtain ⟨k1,g1,k2,k3⟩ := hr
   refine ih f _ a1 w1 g1 _ ?_ (by omega) (hL.set hj h2) (hext _ _ _ (fun k' hk' => ?_) hG1) k2 (hgl.grows k3.gr) (k1.trans hdf) (hst.trans k3)
   ·have := unl_set hk h3 (by rw [hL.size]; exact hjs)
    omega
   ·by_cases e : k' = k
    ·subst e; simp [hL.size,hjs]
    ·rw [getD_set_ne _ (by omega)]; simp [e]
  ·refine ih fuel listed a w g sL ?_ (by omega) hL hG hi hgl hdf hst
   have : unl listed i0 n = 0 := by
    refine List.countP_eq_zero.2 fun k hk => ?_
    have : ¬ listed.getD (i0 + k) false = false := fun h => hex ⟨k,List.mem_range.1 hk,h⟩
    simp at this
    simp [this]
   omega
theorem GoodM.ext {s0 : St} {st : Nat -> St} {n i0 : Nat} {E : List Nat} {dk : Nat -> Option Nat} {vk : Nat -> PV} {l l' : Nat -> Bool} {x : St} (he : ∀ k,k < n -> l k = l' k) (h : GoodM s0 st n i0 E dk vk l x) : GoodM s0 st n i0 E dk vk l' x := by
 obtain ⟨c,c1,c2,c3,c4,c5⟩ := h.ver
 exact ⟨h.nb,h.len,fun k t hk hl hkt => h.hit k t hk (by rw [he k hk]; exact hl) hkt,fun t ht => h.miss t fun k hk hl => ht k hk (by rw [<- he k hk]; exact hl),c,c1,c2,c3,c4,fun k hk hE => by rw [<- he k hk]; exact c5 k hk hE⟩
theorem segs_sound (hd : 0 < d) (hc : CfgOk P cfg) (hcall : CallOk P cfg e) (hfn : ∀ f args bx out,e (.call f args bx) = some out -> ∃ fn,cfg.fn f = some fn) {cx : Cx} {rid : Nat} {ops : Array Oper} (hedge : edgesOk ops.toList = true) (heok : eOk (ancs ops.toList []) (mixOf cx rid) = true) (htk : tkOk ops.toList (takesOf cx rid) = true)
  {Q : Exit -> Act -> World -> Prop} {df : List Deferred} {s' : St} : ∀ (ns : List Nat) (i0 : Nat) (s : St) (fuel : Nat) (listed : Array Bool) (a : Act) (w : World) (g : Gh),segsFrom ops.toList (ancs ops.toList []) ns i0 = true →
   asegs e cfg cx rid ops.toList ns i0 (ops.toList.drop i0) s = some s' -> Lst ops listed i0 0 -> ops.size - i0 <= fuel -> Inv base w0 w g d s a.tmps -> GlobOk cfg g -> a.defers = df →
   (∀ a' w',Reach base w0 d s w g df s' a' w' -> Q .normal a' w') -> wpAny P .any ops Q fuel listed a w
 | [],i0,s,fuel,listed,a,w,g,hok,h,hL,hf,hi,hgl,hdf,hQ => by
  simp only [segsFrom,beq_iff_eq,Array.length_toList] at hok
  have hd : ops.toList.drop i0 = [] := List.drop_of_length_le (by simp [hok])
  rw [hd] at h
  obtain rfl := sij h
  have hr : Region.ready .any ops listed = [] := by
   refine List.eq_nil_iff_forall_not_mem.2 fun j hj => ?_
   obtain ⟨h1,o,ho,_⟩ := mem_ready.1 hj
   have hlt := (Array.getElem?_eq_some_iff.1 ho).1
   rw [getD_sized (by rw [hL.size]; exact hlt),hL.old j (by omega)] at h1
   cases h1
  have hq := hQ a w ⟨hdf,g,hi,Stp.refl d s w g⟩
  cases fuel with
  | zero => exact ⟨hr,hq⟩
  | succ f => exact ⟨fun _ => hq,fun j hj => by rw [hr] at hj; cases hj⟩
 | n :: ns,i0,s,fuel,listed,a,w,g,hok,h,hL,hf,hi,hgl,hdf,hQ => by
  simp only [segsFrom,Bool.and_eq_true,dqE,Array.length_toList] at hok
  obtain ⟨⟨⟨⟨hn0,hn⟩,hbar0⟩,hfree⟩,hrest⟩ := hok
  have hbar : ∀ j,i0 + n <= j -> j < ops.size -> ∀ k,k < n -> Anc ops.toList j (i0 + k) := by
   intro j h1 h2 k hk
   have := List.all_eq_true.1 (List.all_eq_true.1 hbar0 (j - (i0 + n)) (List.mem_range.2 (by omega))) k (List.mem_range.2 hk)
   rw [show i0 + n + (j - (i0 + n)) = j by omega] at this
   exact ancs_anc ops.toList [] rfl (fun j i h => by simp at h) j (i0 + k) (by simpa using this)
  have hLn : Lst ops listed i0 n := ⟨hL.size,hL.old,fun i hi => hL.new i (by omega),hL.closed⟩
  have hdrop : ∀ m,(ops.toList.drop i0).drop m = ops.toList.drop (i0 + m) := fun m => by rw [List.drop_drop]
  unfold asegs at h
  split at h
  ·rename_i hn1
   subst hn1
   split at h
   ·rename_i o rest' hrw
    obtain ⟨s1,h1,h2⟩ := seqO_eq.1 h
    have ho : ops[i0]? = some o := by
     have : (ops.toList.drop i0)[0]? = some o := by rw [hrw]; rfl
     rw [List.getElem?_drop] at this
     rw [<- Array.getElem?_toList]; exact this
    have hr' : rest' = ops.toList.drop (i0 + 1) := by
     rw [<- hdrop 1,hrw]; rfl
    subst hr'
    have hl0 : listed.getD i0 false = false := hL.new i0 (by omega)
    obtain ⟨f,rfl⟩ : ∃ f,fuel = f + 1 := ⟨fuel - 1,by omega⟩
    refine ⟨fun hr => absurd hr (first_ready hLn hn hedge 1 (Nat.le_refl 1) (fun k hk => by omega) ⟨0,by omega,hl0⟩),fun j hj => ?_⟩
    obtain ⟨q1,q2,q3⟩ := ready_in hLn hj hbar ⟨0,by omega,hl0⟩
    have : j = i0 := by omega
    subst this
    refine wpOp_mono (fun a1 w1 hr => ?_) (aopG_sound hc hcall hfn hi hgl (aopR_G h1) ho)
    obtain ⟨k1,g1,k2,k3⟩ := hr
    have hL1 := hLn.set hj q2
    refine segs_sound hd hc hcall hfn hedge heok htk ns (j + 1) s1 f _ a1 w1 g1 hrest h2 ⟨hL1.size,fun i hi => ?_,fun i hi => hL1.new i (by omega),hL1.closed⟩ (by omega) k2 (hgl.grows k3.gr) (k1.trans hdf) fun a' w' hr' => hQ a' w' (Reach.trans k3 hr')
    by_cases e : i = j
    ·subst e
     have : i < listed.size := by rw [hL.size]; omega
     simp [this]
    ·exact hL1.old i (by omega)
   ·cases h
  ·rename_i hn1
   have hsf : segFree (dstsOf (List.take n (List.drop i0 ops.toList))) s = true := by
    by_cases hsf : segFree (dstsOf (List.take n (List.drop i0 ops.toList))) s = true
    ·exact hsf
    ·rw [if_neg hsf] at h; cases h
   rw [if_pos hsf] at h
   simp only [segFree,Bool.and_eq_true] at hsf
   have hSl : ((ops.toList.drop i0).take n).length = n := by simp; omega
   have hS : ∀ k,k < n -> ((ops.toList.drop i0).take n)[k]? = ops[i0 + k]? := fun k hk => by
    rw [List.getElem?_take_of_lt hk,List.getElem?_drop,Array.getElem?_toList]
   have hfr : ∀ k,k < n -> freeOk ops.toList (ancs ops.toList []) i0 n (i0 + k) = true := by
    intro k hk
    simp only [Bool.or_eq_true,beq_iff_eq] at hfree
    exact List.all_eq_true.1 (hfree.resolve_left hn1) k (List.mem_range.2 hk)
   have hddO : ∀ dk : Nat -> Option Nat,(∀ (k : Nat) o,((ops.toList.drop i0).take n)[k]? = some o -> o.dst = dk k) -> ∀ k k' t,k < ((ops.toList.drop i0).take n).length -> k' < ((ops.toList.drop i0).take n).length -> dk k = some t -> dk k' = some t -> k = k' := by
    intro dk e3 k k' t hk hk' hkt hkt'
    rw [hSl] at hk hk'
    have hlt : i0 + k < ops.size := by omega
    have hlt' : i0 + k' < ops.size := by omega
    have hod := (e3 k ops[i0 + k] (by rw [hS k hk]; exact agg hlt)).trans hkt
    have hod' := (e3 k' ops[i0 + k'] (by rw [hS k' hk']; exact agg hlt')).trans hkt'
    have ho : ops.toList[i0 + k]? = some ops[i0 + k] := by rw [Array.getElem?_toList]; exact agg hlt
    have ho' : ops.toList[i0 + k']? = some ops[i0 + k'] := by rw [Array.getElem?_toList]; exact agg hlt'
    have := hfr k hk
    simp only [freeOk,ho,hod,Bool.and_eq_true] at this
    have := List.all_eq_true.1 this.2 k' (List.mem_range.2 hk')
    simp only [ho',Option.bind_some,hod',Bool.or_eq_true,beq_iff_eq,bne_iff_ne,ne_eq,not_true_eq_false,or_false] at this
    omega
   have hdepO : ∀ dk : Nat -> Option Nat,(∀ (k : Nat) o,((ops.toList.drop i0).take n)[k]? = some o -> o.dst = dk k) -> ∀ (j : Nat) o,((ops.toList.drop i0).take n)[j]? = some o -> ∀ t ∈ readsOf ops.toList o,∀ k,k < ((ops.toList.drop i0).take n).length -> dk k = some t -> k < j /\ Anc ops.toList (i0 + j) (i0 + k) := by
    intro dk e3 j o hj t ht k hk hkt
    have hjn : j < n := by rw [<- hSl]; exact (gsi.1 hj).1
    rw [hSl] at hk
    have hlt : i0 + j < ops.size := by omega
    have hlt' : i0 + k < ops.size := by omega
    have ho : ops.toList[i0 + j]? = some o := by rw [Array.getElem?_toList,<- hS j hjn]; exact hj
    have hod' := (e3 k ops[i0 + k] (by rw [hS k hk]; exact agg hlt')).trans hkt
    have ho' : ops.toList[i0 + k]? = some ops[i0 + k] := by rw [Array.getElem?_toList]; exact agg hlt'
    have hall : ((readsOf ops.toList o).all fun t => (List.range n).all fun k => match (ops.toList[i0 + k]?).bind (·.dst) with
      | some t' => t' != t || (decide (i0 + k < i0 + j) && ((ancs ops.toList []).getD (i0 + j) []).contains (i0 + k))
      | none => true) = true := by
     have := hfr j hjn
     cases hod : o.dst with
     | some dd => simp only [freeOk,ho,hod,Bool.and_eq_true] at this; exact this.1
     | none => simp only [freeOk,ho,hod] at this; exact this
    have := List.all_eq_true.1 (List.all_eq_true.1 hall t ht) k (List.mem_range.2 hk)
    simp only [ho',Option.bind_some,hod',Bool.or_eq_true,bne_iff_ne,ne_eq,Bool.and_eq_true,dqE] at this
    rcases this with h | ⟨h3,h4⟩
    ·exact absurd trivial h
    ·exact ⟨by omega,ancs_anc ops.toList [] rfl (fun j i h => by simp at h) (i0 + j) (i0 + k) (by simpa using h4)⟩
   have hdd0 : ∀ dk : Nat -> Nat,(∀ (k : Nat) o,((ops.toList.drop i0).take n)[k]? = some o -> o.dst = some (dk k)) -> ∀ k k',k < ((ops.toList.drop i0).take n).length -> k' < ((ops.toList.drop i0).take n).length -> dk k = dk k' -> k = k' := fun dk e3 k k' hk hk' hkk =>
    hddO (fun k => some (dk k)) e3 k k' (dk k) hk hk' rfl (by rw [hkk])
   have hdep0 : ∀ dk : Nat -> Nat,(∀ (k : Nat) o,((ops.toList.drop i0).take n)[k]? = some o -> o.dst = some (dk k)) -> ∀ (j : Nat) o,((ops.toList.drop i0).take n)[j]? = some o -> ∀ t ∈ readsOf ops.toList o,∀ k,k < ((ops.toList.drop i0).take n).length -> dk k = t -> k < j /\ Anc ops.toList (i0 + j) (i0 + k) := fun dk e3 j o hj t ht k hk hkt =>
    hdepO (fun k => some (dk k)) e3 j o hj t ht k hk (by rw [hkt])
   have hal : ∀ (i : Nat) c p,s.ts[i]? = some c -> aliasOf c = some (.tmp p) -> p ∉ dstsOf ((ops.toList.drop i0).take n) := fun i c p hc ha hp => by
    have h9 := List.all_eq_true.1 hsf.1 c (mog hc)
    cases c with
    | «alias» p' => obtain rfl : p' = .tmp p := sij ha; simp [okAl,hp] at h9
    | eptr p' _ _ _ => obtain rfl : p' = .tmp p := sij ha; simp [okAl,hp] at h9
    | _ => cases ha
   have hul : unl listed i0 n <= n := by
    have := List.countP_le_length (p := fun k => !listed.getD (i0 + k) false) (l := List.range n)
    rw [List.length_range] at this
    exact this
   split at h
   ·rename_i hmix
    split at h
    case isFalse => cases h
    rename_i hno
    obtain ⟨s1,h1,h2⟩ := seqO_eq.1 h
    obtain ⟨st,dk,vk,vs,ls,e1,e2,e3,e4,e5,_,_,e8,e9⟩ := mix_facts h1
    have hend : st n = s1 := by rw [<- hSl]; exact e2
    have hdst : ∀ (k : Nat) o,((ops.toList.drop i0).take n)[k]? = some o -> o.dst = dk k := fun k o ho => atM_dst e3 ho
    have hlen : ∀ k t,k < ((ops.toList.drop i0).take n).length -> dk k = some t -> t < s.ts.length := fun k t hk hkt => of_decide_eq_true (List.all_eq_true.1 hsf.2 t (mem_dstsOf (gge hk) ((hdst k _ (gge hk)).trans hkt)))
    rw [hdrop n] at h2
    refine seg_run (s0 := s) (sn := s1) (wS := w) (gS := g) (df := df) (F := ops.size - (i0 + n)) (cfg := segC cx rid cfg) (hc.segC cx rid) (callOk_segC (callOk_segE hcall cx rid) cx rid) (hfn_segC (hfn_segE hfn cx rid) cx rid) hn hedge hbar
     (GoodM s st ((ops.toList.drop i0).take n).length i0 (mixOf cx rid) dk vk) (fun l l' sL he hG => hG.ext fun k hk => he k (by rw [<- hSl]; exact hk))
     (fun l sL hall hG => by rw [<- e2]; exact goodM_end e1 e3 (hddO dk hdst) hlen hG fun k hk => hall k (by rw [<- hSl]; exact hk))
     (fun l sL k o hk hG ho hl hanc => by
      have hSk : ((ops.toList.drop i0).take n)[k]? = some o := by rw [hS k hk]; exact ho
      refine mix_step e1 e3 (hddO dk hdst) hlen hal hno (by rw [e2]; exact e4) (by rw [e2]; exact e5) (by rw [e2]; exact e8) e9 hG hSk hl (fun t ht k' hk' e => by
       obtain ⟨q1,q2⟩ := hdepO dk hdst k o hSk t ht k' hk' e
       exact ⟨hanc k' (by rw [<- hSl]; exact hk') q2,q1⟩) (fun hEk k' hk' hE' => ?_)
      have h7 := List.all_eq_true.1 (List.all_eq_true.1 heok (i0 + k') (by simpa using hE')) (i0 + k) (by simpa using hEk)
      simp only [Bool.or_eq_true,dqE] at h7
      rcases h7 with h7 | h7
      ·omega
      ·exact hanc k' (by omega) (ancs_anc ops.toList [] rfl (fun j i h => by simp at h) (i0 + k) (i0 + k') (by simpa using h7)))
     (fun fuel' listed' a1 w1 g1 hf' hL' i1 hgl1 hdf1 st1 => segs_sound hd hc hcall hfn hedge heok htk ns (i0 + n) s1 fuel' listed' a1 w1 g1 hrest h2 hL' hf' i1 ((globOk_segC cx rid).1 hgl1) hdf1 fun a' w' hr' => hQ a' w' (Reach.trans st1 hr'))
     n fuel listed a w g s hul (by omega) hLn ?_ hi ((globOk_segC cx rid).2 hgl) hdf (Stp.refl d s w g)
    exact ⟨rfl,rfl,(fun k t hk hl _ => by rw [hL.new (i0 + k) (by omega)] at hl; cases hl),fun _ _ => rfl,0,Nat.zero_le _,by rw [e1],by rw [e1],by rw [e1],fun k hk _ => by simp [hL.new (i0 + k) (by omega)]⟩
   split at h
   ·obtain ⟨s1,h1,h2⟩ := seqO_eq.1 h
    obtain ⟨st,dk,vk,tv,e1,e2,e3⟩ := teg_facts h1
    have hdst : ∀ (k : Nat) o,((ops.toList.drop i0).take n)[k]? = some o -> o.dst = some (dk k) := fun k o ho => (e3 k o ho).dst
    have hlen : ∀ k,k < ((ops.toList.drop i0).take n).length -> dk k < s.ts.length := fun k hk => of_decide_eq_true (List.all_eq_true.1 hsf.2 (dk k) (mem_dstsOf (gge hk) (hdst k _ (gge hk))))
    rw [hdrop n] at h2
    have hop : ∀ (k : Nat) o,((ops.toList.drop i0).take n)[k]? = some o -> ops.toList[i0 + k]? = some o := fun k o ho => by
     have hk : k < n := by rw [<- hSl]; exact (gsi.1 ho).1
     rw [Array.getElem?_toList,<- hS k hk]; exact ho
    have hone : ∀ (i : Nat) o j t,((ops.toList.drop i0).take n)[i]? = some o -> j < ((ops.toList.drop i0).take n).length -> takeOf (takesOf cx rid) (i0 + j) = some t -> t ∈ readsOf ops.toList o -> i = j := fun i o j t ho hj ht hr => by
     unfold takeOf at ht
     cases hf : (takesOf cx rid).find? fun p => p.1 == i0 + j with
     | none => rw [hf] at ht; cases ht
     | some p =>
      rw [hf] at ht
      have hp1 : p.1 = i0 + j := by simpa using List.find?_some hf
      have hp2 : p.2 = t := sij ht
      have h7 := List.all_eq_true.1 htk p (List.mem_of_find?_eq_some hf)
      have hi := hop i o ho
      have hil : i0 + i < ops.toList.length := (gsi.1 hi).1
      have h8 := List.all_eq_true.1 h7 (i0 + i) (List.mem_range.2 hil)
      rw [hi] at h8
      simp only [Bool.or_eq_true,beq_iff_eq,Bool.not_eq_true',hp1,hp2] at h8
      rcases h8 with h8 | h8
      ·omega
      ·have : (readsOf ops.toList o).contains t = true := by simpa using hr
       rw [this] at h8; cases h8
    have hown : ∀ (j : Nat) o t,((ops.toList.drop i0).take n)[j]? = some o -> takeOf (takesOf cx rid) (i0 + j) = some t -> t ∈ readsOf ops.toList o := fun j o t ho ht => by
     rcases (e3 j o ho).val with ⟨t',q1,_,q3,_⟩ | ⟨q1,_⟩
     ·rw [ht] at q1
      obtain rfl := sij q1
      exact List.mem_append_left _ (List.mem_filterMap.2 ⟨.tmp t,aopTX_reads q3,rfl⟩)
     ·rw [ht] at q1; cases q1
    have hord : ∀ j k,j < ((ops.toList.drop i0).take n).length -> k < ((ops.toList.drop i0).take n).length -> takeOf (takesOf cx rid) (i0 + j) = some (dk k) -> k < j := fun j k hj hk ht =>
     (hdep0 dk hdst j _ (gge hj) _ (hown j _ _ (gge hj) ht) k hk rfl).1
    refine seg_run (s0 := s) (sn := s1) (wS := w) (gS := g) (df := df) (F := ops.size - (i0 + n)) hc hcall hfn hn hedge hbar
     (Good2 s ((ops.toList.drop i0).take n).length dk vk tv fun j => takeOf (takesOf cx rid) (i0 + j)) (fun l l' sL he hG => hG.ext fun k hk => he k (by rw [<- hSl]; exact hk))
     (fun l sL hall hG => by
      rw [<- e2]
      exact good2_eq e1 e3 (hdd0 dk hdst) hlen hone hown hG (seq_good2 e1 e3 (hdd0 dk hdst) hlen hone hown hord _ (Nat.le_refl _)) fun k hk => by rw [hall k (by rw [<- hSl]; exact hk)]; exact (dqt hk).symm)
     (fun l sL k o hk hG ho hl hanc => by
      have hSk : ((ops.toList.drop i0).take n)[k]? = some o := by rw [hS k hk]; exact ho
      have hkl : k < ((ops.toList.drop i0).take n).length := by rw [hSl]; exact hk
      have hdep : ∀ t ∈ readsOf ops.toList o,∀ k',k' < ((ops.toList.drop i0).take n).length -> dk k' = t -> l k' = true /\ k' < k := fun t ht k' hk' e => by
       obtain ⟨q1,q2⟩ := hdep0 dk hdst k o hSk t ht k' hk' e
       exact ⟨hanc k' (by rw [<- hSl]; exact hk') q2,q1⟩
      refine ⟨_,teg_step e1 e3 (hdd0 dk hdst) hlen hone hown hord hal hG hSk hl hdep,?_⟩
      exact Good2.set e1 e3 (hdd0 dk hdst) hlen hone hown hG hkl hl (fun k' hk' ht => (hdep _ (hown k o _ hSk ht) k' hk' rfl).1) fun _ _ => rfl)
     (fun fuel' listed' a1 w1 g1 hf' hL' i1 hgl1 hdf1 st1 => segs_sound hd hc hcall hfn hedge heok htk ns (i0 + n) s1 fuel' listed' a1 w1 g1 hrest h2 hL' hf' i1 hgl1 hdf1 fun a' w' hr' => hQ a' w' (Reach.trans st1 hr'))
     n fuel listed a w g s hul (by omega) hLn ?_ hi hgl hdf (Stp.refl d s w g)
    have hnl : ∀ k,k < ((ops.toList.drop i0).take n).length -> listed.getD (i0 + k) false = false := fun k hk => hL.new (i0 + k) (by omega)
    exact ⟨rfl,rfl,rfl,rfl,rfl,(fun k hk hl => by rw [hnl k hk] at hl; cases hl),(fun j t hj hl => by rw [hnl j hj] at hl; cases hl),fun _ _ _ => rfl,fun j hj hl => by rw [hnl j hj] at hl; cases hl⟩
   obtain ⟨sn,h1,h⟩ := seqO_eq.1 h
   obtain ⟨s1,hadopt,h2⟩ := seqO_eq.1 h
   obtain ⟨st,dk,vk,e1,e2,e3⟩ := seg_facts h1
   have hdst : ∀ (k : Nat) o,((ops.toList.drop i0).take n)[k]? = some o -> o.dst = some (dk k) := fun k o ho => (e3 k o ho).dst
   have hlen : ∀ k,k < ((ops.toList.drop i0).take n).length -> dk k < s.ts.length := fun k hk => of_decide_eq_true (List.all_eq_true.1 hsf.2 (dk k) (mem_dstsOf (gge hk) (hdst k _ (gge hk))))
   rw [hdrop n] at h2
   obtain ⟨q,hq0⟩ := fresh_owner g.own w.heap.size
   have hq : ∀ b',g.own b' ≠ some (.tmp 0 q 0) := fun b' hb' => hq0 b' (hi.own_lt b' _ hb') q (Nat.le_refl q) hb'
   have hne : ∀ k k',k < n -> k' < n -> k ≠ k' -> dk k ≠ dk k' := fun k k' hk hk' hkk e => hkk (hdd0 dk hdst k k' (by rw [hSl]; exact hk) (by rw [hSl]; exact hk') e)
   refine seg_runR (F := ops.size - (i0 + n)) hn hedge hbar
    (fun l a1 w1 => ∃ g1 sL,Good s ((ops.toList.drop i0).take n).length dk vk l sL /\ Inv base w0 w1 g1 d sL a1.tmps /\ GlobOk cfg g1 /\ a1.defers = df /\ Stp d s sL w w1 g g1 /\ Pend cfg base q ((ops.toList.drop i0).take n) dk l a1.tmps w1 g1)
    (fun l l' a1 w1 he hR => ?_) (fun l a1 w1 k o hk hR ho hl hanc => ?_) (fun fuel' listed' a1 w1 hf' hL' hR => ?_) n fuel listed a w hul (by omega) hLn ?_
   ·obtain ⟨g1,sL,r1,r2,r3,r4,r5,r6⟩ := hR
    have he' : ∀ (k : Nat) o,((ops.toList.drop i0).take n)[k]? = some o -> l k = l' k := fun k o ho => he k (by rw [<- hSl]; exact (gsi.1 ho).1)
    exact ⟨g1,sL,r1.ext fun k hk => he k (by rw [<- hSl]; exact hk),r2,r3,r4,r5,fun k o t hk ht hl => r6.1 k o t hk ht (by rw [he' k o hk]; exact hl),fun k k' o o' t t' hk hk' ht ht' hl hl' => r6.2 k k' o o' t t' hk hk' ht ht' (by rw [he' k o hk]; exact hl) (by rw [he' k' o' hk']; exact hl')⟩
   ·obtain ⟨g1,sL,hG,i1,hgl1,hdf1,st1,hp⟩ := hR
    have hSk : ((ops.toList.drop i0).take n)[k]? = some o := by rw [hS k hk]; exact ho
    have hkl : k < ((ops.toList.drop i0).take n).length := by rw [hSl]; exact hk
    have hG' := hG.set (lst' := fun x => l x || x == k) (hdd0 dk hdst) hkl (hlen k hkl) fun k' _ => rfl
    have hlk : ∀ k',k' ≠ k -> (l k' || k' == k) = true -> l k' = true := fun k' hne h => by simpa [hne] using h
    cases hao : allocOf o with
    | none =>
     have hstep := seg_step e1 e3 (hdd0 dk hdst) hlen hal hG hSk hl hao (fun t ht k' hk' e => by
      obtain ⟨q1,q2⟩ := hdep0 dk hdst k o hSk t ht k' hk' e
      exact ⟨hanc k' (by rw [<- hSl]; exact hk') q2,q1⟩)
     refine wpOp_mono (fun a2 w2 hr => ?_) (wpOp_put ho (aopG_sound (cfg := segC cx rid cfg) (hc.segC cx rid) (callOk_segC (callOk_segE hcall cx rid) cx rid) (hfn_segC (hfn_segE hfn cx rid) cx rid) i1 ((globOk_segC cx rid).2 hgl1) hstep ho))
     obtain ⟨⟨k1,g2,k2,k3⟩,v,hv⟩ := hr
     have hnk : ∀ (k' : Nat) o' t',((ops.toList.drop i0).take n)[k']? = some o' -> allocOf o' = some t' -> k' ≠ k := fun k' o' t' hk' ht' e => by
      subst e
      rw [hSk] at hk'
      obtain rfl := sij hk'
      rw [hao] at ht'; cases ht'
     have hvals : ∀ (k' : Nat) o' t',((ops.toList.drop i0).take n)[k']? = some o' -> allocOf o' = some t' -> a2.tmps[dk k']? = a1.tmps[dk k']? := fun k' o' t' hk' ht' => by
      rw [hv,hdst k o hSk]
      have := hne k k' hk (by rw [<- hSl]; exact (gsi.1 hk').1) (hnk k' o' t' hk' ht').symm
      simp only [putVals,Array.getElem?_setIfInBounds,if_neg this]
     refine ⟨g2,_,hG',k2,hgl1.grows k3.gr,k1.trans hdf1,st1.trans k3,fun k' o' t' hk' ht' hl' => ?_,fun k1 k2 o1 o2 t1 t2 h1 h2 ht1 ht2 hl1 hl2 he => ?_⟩
     ·rw [hvals k' o' t' hk' ht']
      exact (hp.1 k' o' t' hk' ht' (hlk k' (hnk k' o' t' hk' ht') hl')).stp hd k3
     ·rw [hvals k1 o1 t1 h1 ht1,hvals k2 o2 t2 h2 ht2] at he
      exact hp.2 k1 k2 o1 o2 t1 t2 h1 h2 ht1 ht2 (hlk k1 (hnk k1 o1 t1 h1 ht1) hl1) (hlk k2 (hnk k2 o2 t2 h2 ht2) hl2) he
    | some t =>
     obtain ⟨hgd,hop⟩ := allocOf_op hao
     obtain ⟨i,hti⟩ := adopts_ti _ hadopt k o t hSk hao
     obtain ⟨us,hrun,p1,p2,p3⟩ := alloc_pend hc i1 hop hti q
     have hvk : vk k = .dead := by
      rcases (e3 k o hSk).val with ⟨_,_,h⟩ | ⟨h,_⟩
      ·exact h
      ·rw [hao] at h; cases h
     have hput := seg_put e1 e3 (hdd0 dk hdst) hlen hal hG hSk .dead rfl
     obtain ⟨r1,r2,_⟩ := put_sound (pv := .dead) (v := .pointer (some ⟨w1.heap.size,0,none⟩)) p1 trivial o.dst
     rw [hput] at r1 r2
     rw [hvk] at hG'
     unfold wpOp
     rw [ho]
     have hw : Region.wanted o (yielded ops a1.tmps) = true := by simp [Region.wanted,hgd]
     simp only [hw,if_true]
     refine .inl ?_
     unfold Oper.wp
     rw [hrun,Oper.upon_value]
     have hlt : dk k < a1.tmps.size := by rw [i1.tl,hG.len]; exact hlen k hkl
     have hself : (putVals a1.tmps o.dst (.pointer (some ⟨w1.heap.size,0,none⟩)))[dk k]? = some (.pointer (some ⟨w1.heap.size,0,none⟩)) := by
      rw [hdst k o hSk]
      simp [putVals,hlt]
     have hoth : ∀ k',k' < n -> k' ≠ k -> (putVals a1.tmps o.dst (.pointer (some ⟨w1.heap.size,0,none⟩)))[dk k']? = a1.tmps[dk k']? := fun k' hk' hkk => by
      rw [hdst k o hSk]
      simp only [putVals,Array.getElem?_setIfInBounds,if_neg (hne k k' hk hk' hkk.symm)]
     have hnew : ∀ (k' : Nat) o' t',((ops.toList.drop i0).take n)[k']? = some o' -> allocOf o' = some t' -> l k' = true -> a1.tmps[dk k']? ≠ some (.pointer (some ⟨w1.heap.size,0,none⟩)) := fun k' o' t' hk' ht' hl' he => by
      obtain ⟨_,b,_,_,q2,_,q5,_⟩ := hp.1 k' o' t' hk' ht' hl'
      rw [he] at q2
      simp only [sjE,Value.pointer.injEq,Addr.mk.injEq] at q2
      have := i1.own_lt b _ q5
      omega
     have hkn : ∀ (k' : Nat) o',((ops.toList.drop i0).take n)[k']? = some o' -> k' < n := fun k' o' hk' => by rw [<- hSl]; exact (gsi.1 hk').1
     refine ⟨_,_,hG',by rw [put_act]; exact r1,hgl1.grows (p2.gr.trans r2.gr),(put_df ..).trans hdf1,st1.trans (p2.trans r2),fun k' o' t' hk' ht' hl' => ?_,fun k1 k2 o1 o2 t1 t2 h1 h2 ht1 ht2 hl1 hl2 he => ?_⟩
     ·rw [put_act]
      by_cases hkk : k' = k
      ·subst hkk
       rw [hSk] at hk'
       obtain rfl := sij hk'
       rw [hao] at ht'
       obtain rfl := sij ht'
       rw [hself]
       exact p3.stp hd r2
      ·rw [hoth k' (hkn k' o' hk') hkk]
       exact (hp.1 k' o' t' hk' ht' (hlk k' hkk hl')).stp hd (p2.trans r2)
     ·rw [put_act] at he
      by_cases hk1 : k1 = k <;> by_cases hk2 : k2 = k
      ·rw [hk1,hk2]
      ·rw [hk1,hself,hoth k2 (hkn k2 o2 h2) hk2] at he
       exact absurd he.symm (hnew k2 o2 t2 h2 ht2 (hlk k2 hk2 hl2))
      ·rw [hk2,hself,hoth k1 (hkn k1 o1 h1) hk1] at he
       exact absurd he (hnew k1 o1 t1 h1 ht1 (hlk k1 hk1 hl1))
      ·rw [hoth k1 (hkn k1 o1 h1) hk1,hoth k2 (hkn k2 o2 h2) hk2] at he
       exact hp.2 k1 k2 o1 o2 t1 t2 h1 h2 ht1 ht2 (hlk k1 hk1 hl1) (hlk k2 hk2 hl2) he
   ·obtain ⟨g1,sL,hG,i1,hgl1,hdf1,st1,hp⟩ := hR
    have hsn : sL = sn := by
     rw [<- e2]
     exact hG.eq (seq_good e1 e3 (hdd0 dk hdst) hlen _ (Nat.le_refl _)) fun k hk => by simpa using hk
    subst hsn
    obtain ⟨g2,j1,j2,j3⟩ := adopts_sound hd hi hq hdst _ 0 (by simp) hadopt i1 st1 ⟨fun k o t hk ht _ => hp.1 k o t hk ht rfl,fun k k' o o' t t' hk hk' ht ht' _ _ => hp.2 k k' o o' t t' hk hk' ht ht' rfl rfl⟩
    exact segs_sound hd hc hcall hfn hedge heok htk ns (i0 + n) s1 fuel' listed' a1 w1 g2 hrest h2 hL' hf' j1 (hgl1.grows j3) hdf1 fun a' w' hr' => hQ a' w' (Reach.trans j2 hr')
   ·refine ⟨g,s,⟨rfl,rfl,rfl,rfl,rfl,(fun k hk hl => by rw [hL.new (i0 + k) (by omega)] at hl; cases hl),fun _ _ => rfl⟩,hi,hgl,hdf,Stp.refl d s w g,fun k o t hk ht hl => ?_,fun k k' o o' t t' hk hk' ht ht' hl _ => ?_⟩
    ·have hl' : listed.getD (i0 + k) false = true := hl
     rw [hL.new (i0 + k) (by omega)] at hl'; cases hl'
    ·have hl' : listed.getD (i0 + k) false = true := hl
     rw [hL.new (i0 + k) (by omega)] at hl'; cases hl'
theorem inv_drew (hi : Inv base w0 w g d s vals) : Inv base w0 { w with drawn := w.drawn + 1 } g d s vals /\ Stp d s s w { w with drawn := w.drawn + 1 } g g := by
 refine ⟨⟨hi.low.drew,hi.hb,hi.mem,hi.own_ge,hi.own_lt,hi.own_d,hi.blen,hi.nodup,hi.nbl,hi.boxes,hi.tl,fun i c v h1 h2 => ?_,hi.al⟩,?_⟩
 ·have := hi.tmps i c v h1 h2
  exact this
 ·obtain ⟨q1,q2,q3,q4,q5,q6,q7,q8⟩ := Stp.refl d s w g
  exact ⟨q1,q2,q3,q4,q5,q6,q7,q8⟩
theorem draw_sound (hd : 0 < d) (hc : CfgOk P cfg) (hcall : CallOk P cfg e) (hfn : ∀ f args bx out,e (.call f args bx) = some out -> ∃ fn,cfg.fn f = some fn) {cx : Cx} {rid : Nat} {ops : Array Oper} {ns : List Nat} (hok : segsOk ops.toList ns = true) (heok : eOk (ancs ops.toList []) (mixOf cx rid) = true) (htk : tkOk ops.toList (takesOf cx rid) = true) {s' : St}
  (h : asegs e cfg cx rid ops.toList ns 0 ops.toList s = some s') (hi : Inv base w0 w g d s a.tmps) (hgl : GlobOk cfg g) {Q : Exit -> Act -> World -> Prop}
  (hQ : ∀ a' w',Reach base w0 d s w g a.defers s' a' w' -> Q .normal a' w') : (Code.region rid ops true).wp P Q a w := by
 simp only [segsOk,Bool.and_eq_true] at hok
 obtain ⟨i1,st1⟩ := inv_drew hi
 refine wp_region_any hc.mixed (segs_sound hd hc hcall hfn hok.1 heok htk ns 0 s ops.size _ a _ g hok.2 h ⟨by simp,fun i hi => by omega,fun i _ => ?_,fun j o e hj => ?_⟩ (by omega) i1 hgl rfl fun a' w' hr => hQ a' w' (Reach.trans st1 hr))
 ·by_cases h : i < ops.size <;> simp [h]
 ·by_cases h : j < ops.size <;> simp [h] at hj
end
end Go.Vx
namespace Go.Vx
open Go Go.RowKit
def exOk : AExit -> Exit -> Prop
 | .normal,.normal => True
 | .exit i,.exit j => i = j
 | .ret,.ret => True
 | _,_ => False
def LoopsIn (Q : Nat -> Code -> Prop) : Code -> Prop
 | .seq a b => LoopsIn Q a /\ LoopsIn Q b
 | .cond _ a b => LoopsIn Q a /\ LoopsIn Q b
 | .block _ c => LoopsIn Q c
 | .loop c => (∀ k,ridOf c = some k -> Q k c) /\ LoopsIn Q c
 | _ => True
theorem noDup_app : ∀ {a b : List Nat},noDup (a ++ b) = true -> noDup a = true /\ noDup b = true /\ ∀ k,k ∈ a -> k ∉ b
 | [],b,h => ⟨rfl,h,fun k hk => (by cases hk)⟩
 | x :: a,b,h => by
  simp only [List.cons_append,noDup,Bool.and_eq_true,Bool.not_eq_true',List.contains_eq_mem,decide_eq_false_iff_not,List.mem_append,not_or] at h
  obtain ⟨⟨h1,h2⟩,h3⟩ := h
  obtain ⟨h4,h5,h6⟩ := noDup_app h3
  refine ⟨by simp [noDup,h1,h4],h5,fun k hk => ?_⟩
  rcases List.mem_cons.1 hk with rfl | hk
  ·exact h2
  ·exact h6 k hk
theorem loopAt_mem {k : Nat} {c' : Code} : ∀ (c : Code),loopAt k c = some c' -> k ∈ loopIds c
 | .seq a b,h => by
  simp only [loopAt] at h
  simp only [loopIds,List.mem_append]
  split at h
  ·rename_i hh; exact .inl (loopAt_mem a hh)
  ·exact .inr (loopAt_mem b h)
 | .cond _ a b,h => by
  simp only [loopAt] at h
  simp only [loopIds,List.mem_append]
  split at h
  ·rename_i hh; exact .inl (loopAt_mem a hh)
  ·exact .inr (loopAt_mem b h)
 | .block _ c,h => loopAt_mem c h
 | .loop c,h => by
  simp only [loopAt] at h
  simp only [loopIds]
  split at h
  ·rename_i i hi
   rw [hi]
   split at h
   ·rename_i e; subst e; simp
   ·exact mcm _ (loopAt_mem c h)
  ·rename_i hi
   rw [hi]
   exact loopAt_mem c h
 | .skip,h => by cases h
 | .label _,h => by cases h
 | .exit _,h => by cases h
 | .ret,h => by cases h
 | .refuse _,h => by cases h
 | .goto _,h => by cases h
 | .scope _,h => by cases h
 | .rangeFunc ..,h => by cases h
 | .region ..,h => by cases h
theorem loopsIn_mono {Q Q' : Nat -> Code -> Prop} : ∀ (c : Code),(∀ k c',k ∈ loopIds c -> Q k c' -> Q' k c') -> LoopsIn Q c -> LoopsIn Q' c
 | .seq a b,h,hq => ⟨loopsIn_mono a (fun k c' hk => h k c' (by simp [loopIds,hk])) hq.1,loopsIn_mono b (fun k c' hk => h k c' (by simp [loopIds,hk])) hq.2⟩
 | .cond _ a b,h,hq => ⟨loopsIn_mono a (fun k c' hk => h k c' (by simp [loopIds,hk])) hq.1,loopsIn_mono b (fun k c' hk => h k c' (by simp [loopIds,hk])) hq.2⟩
 | .block _ c,h,hq => loopsIn_mono c h hq
 | .loop c,h,hq => by
  refine ⟨fun k hk => h k c ?_ (hq.1 k hk),loopsIn_mono c (fun k c' hk => h k c' ?_) hq.2⟩
  ·simp [loopIds,hk]
  ·simp only [loopIds]; split
   ·exact mcm _ hk
   ·exact hk
 | .skip,_,_ => trivial
 | .label _,_,_ => trivial
 | .exit _,_,_ => trivial
 | .ret,_,_ => trivial
 | .refuse _,_,_ => trivial
 | .goto _,_,_ => trivial
 | .scope _,_,_ => trivial
 | .rangeFunc ..,_,_ => trivial
 | .region ..,_,_ => trivial
theorem loopsIn_all : ∀ (c : Code),noDup (loopIds c) = true -> LoopsIn (fun k c' => loopAt k c = some c') c
 | .seq a b,h => by
  obtain ⟨h1,h2,h3⟩ := noDup_app h
  refine ⟨loopsIn_mono a (fun k c' _ hq => by simp only [loopAt,hq]) (loopsIn_all a h1),loopsIn_mono b (fun k c' hk hq => ?_) (loopsIn_all b h2)⟩
  simp only [loopAt]
  cases ha : loopAt k a with
  | none => exact hq
  | some c1 => exact absurd hk (h3 k (loopAt_mem a ha))
 | .cond _ a b,h => by
  obtain ⟨h1,h2,h3⟩ := noDup_app h
  refine ⟨loopsIn_mono a (fun k c' _ hq => by simp only [loopAt,hq]) (loopsIn_all a h1),loopsIn_mono b (fun k c' hk hq => ?_) (loopsIn_all b h2)⟩
  simp only [loopAt]
  cases ha : loopAt k a with
  | none => exact hq
  | some c1 => exact absurd hk (h3 k (loopAt_mem a ha))
 | .block _ c,h => loopsIn_all c h
 | .loop c,h => by
  simp only [loopIds] at h
  refine ⟨fun k hk => by simp only [loopAt,hk,if_true],?_⟩
  split at h
  ·rename_i i hi
   simp only [noDup,Bool.and_eq_true,Bool.not_eq_true',List.contains_eq_mem,decide_eq_false_iff_not] at h
   refine loopsIn_mono c (fun k c' hk hq => ?_) (loopsIn_all c h.2)
   simp only [loopAt,hi]
   rw [if_neg (by rintro rfl; exact h.1 hk)]
   exact hq
  ·rename_i hi
   refine loopsIn_mono c (fun k c' hk hq => ?_) (loopsIn_all c h)
   simp only [loopAt,hi]
   exact hq
 | .skip,_ => trivial
 | .label _,_ => trivial
 | .exit _,_ => trivial
 | .ret,_ => trivial
 | .refuse _,_ => trivial
 | .goto _,_ => trivial
 | .scope _,_ => trivial
 | .rangeFunc ..,_ => trivial
 | .region ..,_ => trivial
theorem loopsIn_at {Q : Nat -> Code -> Prop} {k : Nat} {c' : Code} : ∀ (c : Code),loopAt k c = some c' -> LoopsIn Q c -> LoopsIn Q c'
 | .seq a b,h,hq => by
  simp only [loopAt] at h
  split at h
  ·rename_i c1 hh; obtain rfl := sij h; exact loopsIn_at a hh hq.1
  ·exact loopsIn_at b h hq.2
 | .cond _ a b,h,hq => by
  simp only [loopAt] at h
  split at h
  ·rename_i c1 hh; obtain rfl := sij h; exact loopsIn_at a hh hq.1
  ·exact loopsIn_at b h hq.2
 | .block _ c,h,hq => loopsIn_at c h hq
 | .loop c,h,hq => by
  simp only [loopAt] at h
  split at h
  ·split at h
   ·obtain rfl := sij h; exact hq.2
   ·exact loopsIn_at c h hq.2
  ·exact loopsIn_at c h hq.2
 | .skip,h,_ => by cases h
 | .label _,h,_ => by cases h
 | .exit _,h,_ => by cases h
 | .ret,h,_ => by cases h
 | .refuse _,h,_ => by cases h
 | .goto _,h,_ => by cases h
 | .scope _,h,_ => by cases h
 | .rangeFunc ..,h,_ => by cases h
 | .region ..,h,_ => by cases h
theorem codeOk_at {cx : Cx} {k : Nat} {c' : Code} : ∀ (c : Code),loopAt k c = some c' -> codeOk cx c = true -> codeOk cx c' = true
 | .seq a b,h,hq => by
  simp only [codeOk,Bool.and_eq_true] at hq
  simp only [loopAt] at h
  split at h
  ·rename_i c1 hh; obtain rfl := sij h; exact codeOk_at a hh hq.1
  ·exact codeOk_at b h hq.2
 | .cond _ a b,h,hq => by
  simp only [codeOk,Bool.and_eq_true] at hq
  simp only [loopAt] at h
  split at h
  ·rename_i c1 hh; obtain rfl := sij h; exact codeOk_at a hh hq.1
  ·exact codeOk_at b h hq.2
 | .block _ c,h,hq => codeOk_at c h hq
 | .loop c,h,hq => by
  simp only [loopAt] at h
  split at h
  ·split at h
   ·obtain rfl := sij h; exact hq
   ·exact codeOk_at c h hq
  ·exact codeOk_at c h hq
 | .skip,h,_ => by cases h
 | .label _,h,_ => by cases h
 | .exit _,h,_ => by cases h
 | .ret,h,_ => by cases h
 | .refuse _,h,_ => by cases h
 | .goto _,h,_ => by cases h
 | .scope _,h,_ => by cases h
 | .rangeFunc ..,h,_ => by cases h
 | .region ..,h,_ => by cases h
def LoopsOk (cfg : Cfg) (f : FuncId) : Code -> Prop := LoopsIn fun k c => loopCode cfg f k = some c
theorem code_loops {P : Program} {cfg : Cfg} (hc : CfgOk P cfg) {f : FuncId} {fn : Func} {c : Code} (h1 : cfg.fn f = some fn) (h2 : fn.body = some c) : LoopsOk cfg f c :=
 loopsIn_mono c (fun k c' _ hq => by simp only [loopCode,h1,seqO_some,h2,hq]) (loopsIn_all c (hc.code f fn c h1 h2).2)
theorem loop_ok {P : Program} {cfg : Cfg} (hc : CfgOk P cfg) {f : FuncId} {k : Nat} {c : Code} (h : loopCode cfg f k = some c) : codeOk (cfg.cx f) c = true /\ LoopsOk cfg f c := by
 obtain ⟨fn,h1,h⟩ := seqO_eq.1 h
 obtain ⟨b,h2,h⟩ := seqO_eq.1 h
 exact ⟨codeOk_at b h (hc.code f fn b h1 h2).1,loopsIn_at b h (code_loops hc h1 h2)⟩
def LoopOk (P : Program) (cfg : Cfg) (e : Job -> Option Out) (n : Nat) : Prop :=
 ∀ (f : FuncId) (k : Nat) (c : Code) (s s' : St) (x : AExit) (base : Nat) (w0 w : World) (g : Gh) (d : Nat) (a : Act),0 < d -> e (.loop f k s) = some (.loop x s') -> loopCode cfg f k = some c -> Inv base w0 w g d s a.tmps -> GlobOk cfg g →
  Code.rounds P c (fun ex a' w' => exOk x ex /\ Reach base w0 d s w g a.defers s' a' w') n a w
section
variable {P : Program} {cfg : Cfg} {base : Nat} {w0 w : World} {g : Gh} {d : Nat} {s : St} {vals : Array Value} {a : Act} {e : Job -> Option Out}
theorem keepAt_get (l : List Nat) : ∀ (vs : List PV) (i j : Nat) (c : PV),(keepAt l i vs)[j]? = some c -> ∃ c0,vs[j]? = some c0 /\ (c = c0 ∨ c = .dead)
 | [],i,j,c,h => by simp [keepAt] at h
 | v :: vs,i,0,c,h => by
  simp only [keepAt,List.getElem?_cons_zero,sjE] at h
  refine ⟨v,rfl,?_⟩
  split at h
  ·exact .inl h.symm
  ·exact .inr h.symm
 | v :: vs,i,j + 1,c,h => by
  simp only [keepAt,List.getElem?_cons_succ] at h ⊢
  exact keepAt_get l vs (i + 1) j c h
theorem keepAt_len (l : List Nat) : ∀ (vs : List PV) (i : Nat),(keepAt l i vs).length = vs.length
 | [],_ => rfl
 | v :: vs,i => by simp [keepAt,keepAt_len l vs (i + 1)]
theorem forget_inv (hi : Inv base w0 w g d s vals) {ts : List PV} (hl : ts.length = s.ts.length) (ht : ∀ (j : Nat) c,ts[j]? = some c -> ∃ c0,s.ts[j]? = some c0 /\ (c = c0 ∨ c = .dead)) :
  Inv base w0 w g d { s with ts := ts } vals /\ Stp d s { s with ts := ts } w w g g := by
 refine ⟨⟨hi.low,hi.hb,hi.mem,hi.own_ge,hi.own_lt,hi.own_d,hi.blen,hi.nodup,hi.nbl,hi.boxes,by simp only [hl]; exact hi.tl,fun i c v h1 h2 => ?_,fun i c p h1 h2 => ?_⟩,?_⟩
 ·obtain ⟨c0,h3,h4⟩ := ht i c h1
  rcases h4 with h4 | h4
  ·subst h4; exact hi.tmps i _ v h3 h2
  ·subst h4; exact trivial
 ·obtain ⟨c0,h3,h4⟩ := ht i c h1
  rcases h4 with h4 | h4
  ·subst h4
   have hm := hi.al i _ p h3 h2
   cases p with
   | cell l off => exact hm
   | tmp k =>
    simp only [St.at,List.getD_eq_getElem?_getD] at hm ⊢
    cases hk : ts[k]? with
    | none => rfl
    | some q =>
     obtain ⟨q0,h5,h6⟩ := ht k q hk
     rw [h5] at hm
     simp only [Option.getD_some] at hm ⊢
     rcases h6 with h6 | h6
     ·subst h6; exact hm
     ·subst h6; rfl
  ·subst h4; cases h2
 ·obtain ⟨q1,q2,q3,q4,q5,q6,q7,q8⟩ := Stp.refl d s w g
  exact ⟨q1,q2,q3,q4,q5,q6,q7,q8⟩
theorem head_inv (hi : Inv base w0 w g d s vals) (cx : Cx) (k : Nat) : Inv base w0 w g d (atHead cx k s) vals /\ Stp d s (atHead cx k s) w w g g := by
 unfold atHead
 split
 ·rename_i p _
  exact forget_inv hi (keepAt_len ..) fun j c h => keepAt_get p.2.1 s.ts 0 j c h
 ·exact ⟨hi,Stp.refl d s w g⟩
theorem exit_inv (hi : Inv base w0 w g d s vals) (cx : Cx) (k : Nat) : Inv base w0 w g d (atExit cx k s) vals /\ Stp d s (atExit cx k s) w w g g := by
 unfold atExit
 split
 ·rename_i p _
  exact forget_inv hi (keepAt_len ..) fun j c h => keepAt_get p.2.2 s.ts 0 j c h
 ·exact ⟨hi,Stp.refl d s w g⟩
def slotLt (k : Nat) : PV -> Prop
 | .alias (.cell l _) => l < k
 | .eptr (.cell l _) _ _ _ => l < k
 | .tup _ => False
 | .bag _ => False
 | c => allLt k c
theorem cellLt_lt {k : Nat} {c : PV} (h : cellLt k c = true) : ptrLt k c := by
 cases c with
 | ptr l off => exact of_decide_eq_true (p := l < k) h
 | clo f cap => intro l hl; exact of_decide_eq_true (List.all_eq_true.1 h l hl)
 | _ => exact trivial
theorem refLt_lt {k : Nat} {c : PV} (h : refLt k c = true) : slotLt k c := by
 cases c with
 | agg cs => exact fun c hc => cellLt_lt (List.all_eq_true.1 h c hc)
 | tup => cases h
 | bag => cases h
 | «alias» p => cases p with
  | tmp => exact trivial
  | cell l off => exact of_decide_eq_true (p := l < k) h
 | eptr p => cases p with
  | tmp => exact trivial
  | cell l off => exact of_decide_eq_true (p := l < k) h
 | ptr l off => exact cellLt_lt (c := .ptr l off) h
 | clo f cap => exact cellLt_lt (c := .clo f cap) h
 | _ => exact trivial
theorem placeVal_cut {k : Nat} {p : Place} (h : ∀ l off,p = .cell l off -> l < k) : placeVal w (g.cutBlk k) vals p = placeVal w g vals p := by
 cases p with
 | tmp => rfl
 | cell l off => simp only [placeVal]; rw [cutBlk_get (h l off rfl)]
theorem RelT.cut {k i : Nat} {c : PV} {u : Value} (hp : slotLt k c) (h : RelT w g vals d i c u) : RelT w (g.cutBlk k) vals d i c u := by
 cases c with
 | «alias» p =>
  simp only [RelT] at h ⊢
  rw [placeVal_cut]
  ·exact h
  ·rintro l off rfl; exact hp
 | eptr p q r j =>
  simp only [RelT] at h ⊢
  rw [placeVal_cut]
  ·exact h
  ·rintro l off rfl; exact hp
 | bag => exact hp.elim
 | tup => exact hp.elim
 | own ex q xs => exact RelR.cut (c := .own ex q xs) trivial h
 | agg cs => exact RelR.cut (w := w) (ow := .tmp d i 0) (c := .agg cs) hp h
 | dat x => exact RelR.cut (w := w) (ow := .tmp d i 0) (c := .dat x) trivial h
 | ptr x y => exact RelR.cut (w := w) (ow := .tmp d i 0) (c := .ptr x y) hp h
 | iptr x y => exact RelR.cut (w := w) (ow := .tmp d i 0) (c := .iptr x y) trivial h
 | clo x y => exact RelR.cut (w := w) (ow := .tmp d i 0) (c := .clo x y) hp h
 | dead => exact trivial
theorem cut_inv {k : Nat} (hi : Inv base w0 w g d s vals) (hk : s.nb <= k) (hb : ∀ (l : Nat) bx,l < k -> s.bx[l]? = some bx -> ∀ c ∈ bx,ptrLt k c) (ht : ∀ c ∈ s.ts,slotLt k c) :
  Inv base w0 w (g.cutBlk k) d { s with bx := s.bx.take k } vals := by
 refine ⟨hi.low,hi.hb,hi.mem,hi.own_ge,hi.own_lt,hi.own_d,?_,?_,?_,fun l b bx h1 h2 => ?_,hi.tl,fun i c v h1 h2 => ?_,fun i c p h1 h2 => ?_⟩
 ·simp only [Gh.cutBlk,List.length_take,hi.blen]
 ·exact hi.nodup.sublist (List.take_sublist ..)
 ·have := hi.nbl
  simp only [List.length_take]; omega
 ·simp only at h2
  have hl : l < k := by
   have := (gsi.1 h2).1
   rw [List.length_take] at this; omega
  rw [cutBlk_get hl] at h1
  rw [List.getElem?_take_of_lt hl] at h2
  exact BoxRel.cut (hb l bx hl h2) (hi.boxes l b bx h1 h2)
 ·exact (hi.tmps i c v h1 h2).cut (ht c (mog h1))
 ·have hm := hi.al i c p h1 h2
  have hs := ht c (mog h1)
  cases p with
  | tmp => exact hm
  | cell l off =>
   have hl : l < k := by
    cases c with
    | «alias» q => cases h2; exact hs
    | eptr q => cases h2; exact hs
    | _ => cases h2
   simp only [St.at] at hm ⊢
   rw [List.getElem?_take_of_lt hl]; exact hm
theorem gc_inv {s1 : St} {w' : World} {g1 : Gh} {vals' : Array Value} (hi : Inv base w0 w g d s vals) (hst : Stp d s s1 w w' g g1) (hi1 : Inv base w0 w' g1 d s1 vals') :
  ∃ g2,Inv base w0 w' g2 d (gc s.bx.length s1) vals' /\ Stp d s (gc s.bx.length s1) w w' g g2 := by
 unfold gc
 split
 ·rename_i hc
  simp only [Bool.and_eq_true,Bool.not_eq_true',dqE] at hc
  obtain ⟨⟨⟨hkp,hnb⟩,hts⟩,hbx⟩ := hc
  have hbl : g.blk.length = s.bx.length := hi.blen
  have hold : ∀ (l : Nat) bx,s.bx[l]? = some bx -> ∀ c ∈ bx,ptrLt s.bx.length c := by
   intro l bx h
   have hl : l < g.blk.length := by rw [hbl]; exact (gsi.1 h).1
   have := (hi.boxes l _ bx (gge hl) h).lt
   rw [hbl] at this; exact this
  have hb : ∀ (l : Nat) bx,l < s.bx.length -> s1.bx[l]? = some bx -> ∀ c ∈ bx,ptrLt s.bx.length c := by
   intro l bx hl h
   by_cases hln : l < s1.nb
   ·exact hst.kpl hkp s.bx.length l _ bx (by rw [<- hst.nb]; exact hln) (gge hl) (hold l _ (gge hl)) h
   ·intro c hc
    have hm : ((s1.bx.drop s1.nb).take (s.bx.length - s1.nb))[l - s1.nb]? = some bx := by
     rw [List.getElem?_take_of_lt (by omega),List.getElem?_drop,show s1.nb + (l - s1.nb) = l by omega]; exact h
    exact cellLt_lt (List.all_eq_true.1 (List.all_eq_true.1 hbx bx (mog hm)) c hc)
  refine ⟨g1.cutBlk s.bx.length,cut_inv hi1 hnb hb fun c hc => refLt_lt (List.all_eq_true.1 hts c hc),⟨⟨hst.gr.m,fun l b h => ?_,hst.gr.bt⟩,hst.nb,?_,hst.tmps,hst.lo,fun l hl hlo => ?_,hst.kp,fun hk n l bx bx' hl h1 h2 h3 => ?_⟩⟩
  ·have hl : l < s.bx.length := by rw [<- hbl]; exact (gsi.1 h).1
   rw [cutBlk_get hl]; exact hst.gr.blk l b h
  ·have := hst.bl
   simp only [List.length_take]; omega
  ·obtain ⟨q1,q2⟩ := hst.old l hl hlo
   have hl' : l < s.bx.length := Nat.lt_of_lt_of_le hl hi.nbl
   exact ⟨by simp only; rw [List.getElem?_take_of_lt hl']; exact q1,q2⟩
  ·have hl' : l < s.bx.length := Nat.lt_of_lt_of_le hl hi.nbl
   simp only at h3
   rw [List.getElem?_take_of_lt hl'] at h3
   exact hst.kpl hk n l bx bx' hl h1 h2 h3
 ·exact ⟨g1,hi1,hst⟩
theorem val_bool' (hi : Inv base w0 w g d s a.tmps) (hgl : GlobOk cfg g) {x : Operand} {b : Bool} (h : abool (s.val cfg x) = some b) : a.eval x = .bool b := val_bool hi hgl rfl h
theorem cond3_bool {v : PV} {b : Bool} (h : cond3 v = some (some b)) : abool v = some b := by
 unfold cond3 at h
 split at h
 ·exact sij h
 ·cases h
 ·cases h
theorem cond3_any (hi : Inv base w0 w g d s a.tmps) (hgl : GlobOk cfg g) {x : Operand} (h : cond3 (s.val cfg x) = some none) : ∃ b,a.eval x = .bool b := by
 have hv : s.val cfg x = .dat .any := by
  unfold cond3 at h
  split at h
  ·cases h
  ·assumption
  ·cases h
 have hr : RelD g.m .any (a.eval x) := val_plain hi hgl rfl hv (by intro e; cases e) (by intro _ _ _ e; cases e) rfl rfl
 generalize a.eval x = u at hr
 cases hr with
 | any b => exact ⟨b,rfl⟩
def ResX (base : Nat) (w0 : World) (d : Nat) (s : St) (w : World) (g : Gh) (df : List Deferred) : AExit -> St -> Exit -> Act -> World -> Prop
 | .fork x1 s1 x2,s2,ex,a',w' => ResX base w0 d s w g df x1 s1 ex a' w' ∨ ResX base w0 d s w g df x2 s2 ex a' w'
 | .normal,s',ex,a',w' => exOk .normal ex /\ Reach base w0 d s w g df s' a' w'
 | .exit i,s',ex,a',w' => exOk (.exit i) ex /\ Reach base w0 d s w g df s' a' w'
 | .ret,s',ex,a',w' => exOk .ret ex /\ Reach base w0 d s w g df s' a' w'
theorem ResX.of {x : AExit} {s' : St} {df : List Deferred} {ex : Exit} {a' : Act} {w' : World} (h : exOk x ex /\ Reach base w0 d s w g df s' a' w') : ResX base w0 d s w g df x s' ex a' w' := by
 cases x with
 | fork x1 s1 x2 => exact h.1.elim
 | _ => exact h
theorem ResX.trans {w1 : World} {g1 : Gh} {s1 : St} (st : Stp d s s1 w w1 g g1) {df : List Deferred} : ∀ {x : AExit} {s' : St} {ex : Exit} {a' : Act} {w' : World},ResX base w0 d s1 w1 g1 df x s' ex a' w' -> ResX base w0 d s w g df x s' ex a' w'
 | .fork x1 t1 x2,_,_,_,_,h => h.elim (fun h => .inl (ResX.trans st h)) (fun h => .inr (ResX.trans st h))
 | .normal,_,_,_,_,h => ⟨h.1,Reach.trans st h.2⟩
 | .exit _,_,_,_,_,h => ⟨h.1,Reach.trans st h.2⟩
 | .ret,_,_,_,_,h => ⟨h.1,Reach.trans st h.2⟩
theorem inBlock_mono {id : Nat} {Q Q' : Exit -> Act -> World -> Prop} (h : ∀ ex a w,Q ex a w -> Q' ex a w) {ex : Exit} {a : Act} {w : World} (hq : Exit.inBlock id Q ex a w) : Exit.inBlock id Q' ex a w := by
 cases ex with
 | exit j =>
  unfold Exit.inBlock at hq ⊢
  simp only at hq ⊢
  by_cases e : j = id
  ·rw [if_pos e] at hq ⊢; exact h _ _ _ hq
  ·rw [if_neg e] at hq ⊢; exact h _ _ _ hq
 | _ => exact h _ _ _ hq
theorem ResX.inX {id : Nat} {df : List Deferred} : ∀ {x : AExit} {s' : St} {ex : Exit} {a' : Act} {w' : World},ResX base w0 d s w g df x s' ex a' w' -> Exit.inBlock id (fun ex a' w' => ResX base w0 d s w g df (inX id x) s' ex a' w') ex a' w'
 | .fork x1 t1 x2,_,_,_,_,h => h.elim (fun h => inBlock_mono (fun _ _ _ h => .inl h) (ResX.inX h)) (fun h => inBlock_mono (fun _ _ _ h => .inr h) (ResX.inX h))
 | .normal,_,ex,_,_,h => by
  cases ex with
  | normal => exact h
  | _ => exact h.1.elim
 | .ret,_,ex,_,_,h => by
  cases ex with
  | ret => exact h
  | _ => exact h.1.elim
 | .exit i,_,ex,_,_,h => by
  cases ex with
  | exit j =>
   obtain ⟨hij,hr⟩ := h
   have hij' : i = j := hij
   subst hij'
   unfold Exit.inBlock Go.Vx.inX
   by_cases e : i = id
   ·simp only [e,if_true]
    exact ⟨trivial,hr⟩
   ·simp only [e,if_false]
    exact ⟨rfl,hr⟩
  | _ => exact h.1.elim
theorem acode_sound (hd : 0 < d) (hc : CfgOk P cfg) (hcall : CallOk P cfg e) {n : Nat} (hloop : LoopOk P cfg e n) (hfn : ∀ f args bx out,e (.call f args bx) = some out -> ∃ fn,cfg.fn f = some fn) {f : FuncId} :
  ∀ (c : Code) {g : Gh} {s s' : St} {x : AExit} {w : World} {a : Act},codeOk (cfg.cx f) c = true /\ LoopsOk cfg f c -> acode e cfg f c s = some (x,s') -> Inv base w0 w g d s a.tmps -> GlobOk cfg g →
   c.wp P (fun ex a' w' => ResX base w0 d s w g a.defers x s' ex a' w') a w
 | .skip,g,s,s',x,w,a,_,h,hi,_ => by
  simp only [acode,sjE,Prod.mk.injEq] at h
  obtain ⟨rfl,rfl⟩ := h
  exact wp_skip ⟨trivial,rfl,g,hi,Stp.refl d s w g⟩
 | .label _,g,s,s',x,w,a,_,h,hi,_ => by
  simp only [acode,sjE,Prod.mk.injEq] at h
  obtain ⟨rfl,rfl⟩ := h
  exact wp_label ⟨trivial,rfl,g,hi,Stp.refl d s w g⟩
 | .exit id,g,s,s',x,w,a,_,h,hi,_ => by
  simp only [acode,sjE,Prod.mk.injEq] at h
  obtain ⟨rfl,rfl⟩ := h
  exact wp_exit ⟨rfl,rfl,g,hi,Stp.refl d s w g⟩
 | .ret,g,s,s',x,w,a,_,h,hi,_ => by
  simp only [acode,sjE,Prod.mk.injEq] at h
  obtain ⟨rfl,rfl⟩ := h
  exact wp_ret ⟨trivial,rfl,g,hi,Stp.refl d s w g⟩
 | .region rid ops draw,g,s,s',x,w,a,hok,h,hi,hgl => by
  simp only [acode] at h
  cases draw with
  | true =>
   simp only [if_true] at h
   obtain ⟨ns,h1,h2⟩ := seqO_eq.1 h
   obtain ⟨s1,h3,h4⟩ := seqO_eq.1 h2
   simp only [sjE,Prod.mk.injEq] at h4
   obtain ⟨rfl,rfl⟩ := h4
   have hs : (segsOk ops.toList ns = true /\ eOk (ancs ops.toList []) (mixOf (cfg.cx f) rid) = true) /\ tkOk ops.toList (takesOf (cfg.cx f) rid) = true := by
    unfold segsOf at h1
    simpa [codeOk,h1] using hok.1
   obtain ⟨g1,i1,st1⟩ := preF_sound hi (cfg.cx f) rid
   exact draw_sound hd hc hcall hfn hs.1.1 hs.1.2 hs.2 h3 i1 (hgl.grows st1.gr) fun a' w' hr => ⟨trivial,Reach.trans st1 hr⟩
  | false =>
   simp only [Bool.false_eq_true,if_false] at h
   obtain ⟨s1,h3,h4⟩ := seqO_eq.1 h
   simp only [sjE,Prod.mk.injEq] at h4
   obtain ⟨rfl,rfl⟩ := h4
   refine wp_region ?_
   rw [List.range_eq_range',<- Array.length_toList]
   exact aops_sound hc hcall hfn ops.toList 0 rfl h3 hi hgl rfl fun a' w' hr => ⟨trivial,hr⟩
 | .seq c1 c2,g,s,s',x,w,a,hok,h,hi,hgl => by
  obtain ⟨hok1,hok2⟩ := hok
  simp only [codeOk,Bool.and_eq_true] at hok1
  have hok : (codeOk (cfg.cx f) c1 = true /\ LoopsOk cfg f c1) /\ (codeOk (cfg.cx f) c2 = true /\ LoopsOk cfg f c2) := ⟨⟨hok1.1,hok2.1⟩,⟨hok1.2,hok2.2⟩⟩
  simp only [acode] at h
  obtain ⟨⟨x1,s1⟩,h1,h2⟩ := seqO_eq.1 h
  refine wp_seq (wp_mono (acode_sound hd hc hcall hloop hfn c1 hok.1 h1 hi hgl) fun ex a1 w1 hr => ?_)
  have go : ∀ (x1 : AExit) (s1 : St) (x : AExit) (s' : St),thenX (fun s' => acode e cfg f c2 s') x1 s1 = some (x,s') -> ResX base w0 d s w g a.defers x1 s1 ex a1 w1 →
    (match (generalizing := false) ex with | .normal => c2.wp P (fun ex a' w' => ResX base w0 d s w g a.defers x s' ex a' w') a1 w1 | ex => ResX base w0 d s w g a.defers x s' ex a1 w1) := by
   intro x1
   induction x1 with
   | normal =>
    intro s1 x s' h2 hr
    obtain ⟨hx,hdf,g1,i1,st1⟩ := hr
    cases ex with
    | normal =>
     refine wp_mono (acode_sound hd hc hcall hloop hfn c2 hok.2 h2 i1 (hgl.grows st1.gr)) fun ex2 a2 w2 hr2 => ?_
     rw [hdf] at hr2
     exact ResX.trans st1 hr2
    | _ => exact hx.elim
   | exit i =>
    intro s1 x s' h2 hr
    obtain ⟨rfl,rfl⟩ : AExit.exit i = x /\ s1 = s' := by simpa [thenX] using h2
    cases ex with
    | exit j => exact hr
    | _ => exact hr.1.elim
   | ret =>
    intro s1 x s' h2 hr
    obtain ⟨rfl,rfl⟩ : AExit.ret = x /\ s1 = s' := by simpa [thenX] using h2
    cases ex with
    | ret => exact hr
    | _ => exact hr.1.elim
   | fork y1 t1 y2 ih1 ih2 =>
    intro s1 x s' h2 hr
    obtain ⟨⟨z1,u1⟩,h3,h4⟩ := seqO_eq.1 h2
    obtain ⟨⟨z2,u2⟩,h5,h6⟩ := seqO_eq.1 h4
    obtain ⟨rfl,rfl⟩ : AExit.fork z1 u1 z2 = x /\ u2 = s' := by simpa using h6
    rcases hr with hr | hr
    ·have := ih1 t1 z1 u1 h3 hr
     cases ex with
     | normal => exact wp_mono this fun ex a' w' h => .inl h
     | _ => exact .inl this
    ·have := ih2 s1 z2 u2 h5 hr
     cases ex with
     | normal => exact wp_mono this fun ex a' w' h => .inr h
     | _ => exact .inr this
  have := go x1 s1 x s' h2 hr
  cases ex <;> exact this
 | .cond c c1 c2,g,s,s',x,w,a,hok,h,hi,hgl => by
  obtain ⟨hok1,hok2⟩ := hok
  simp only [codeOk,Bool.and_eq_true] at hok1
  have hok : (codeOk (cfg.cx f) c1 = true /\ LoopsOk cfg f c1) /\ (codeOk (cfg.cx f) c2 = true /\ LoopsOk cfg f c2) := ⟨⟨hok1.1,hok2.1⟩,⟨hok1.2,hok2.2⟩⟩
  simp only [acode] at h
  obtain ⟨t,h1,h2⟩ := seqO_eq.1 h
  cases t with
  | some b =>
   refine wp_cond (t := b) (val_bool' hi hgl (cond3_bool h1)) ?_
   cases b with
   | true => exact acode_sound hd hc hcall hloop hfn c1 hok.1 h2 hi hgl
   | false => exact acode_sound hd hc hcall hloop hfn c2 hok.2 h2 hi hgl
  | none =>
   obtain ⟨b,hb⟩ := cond3_any hi hgl h1
   obtain ⟨⟨x1,s1⟩,h3,h5⟩ := seqO_eq.1 h2
   obtain ⟨⟨x2,s2⟩,h4,h6⟩ := seqO_eq.1 h5
   obtain ⟨rfl,rfl⟩ : AExit.fork x1 s1 x2 = x /\ s2 = s' := by simpa using h6
   refine wp_cond (t := b) hb ?_
   cases b with
   | true => exact wp_mono (acode_sound hd hc hcall hloop hfn c1 hok.1 h3 hi hgl) fun ex a1 w1 hr => .inl hr
   | false => exact wp_mono (acode_sound hd hc hcall hloop hfn c2 hok.2 h4 hi hgl) fun ex a1 w1 hr => .inr hr
 | .block id c,g,s,s',x,w,a,hok,h,hi,hgl => by
  simp only [acode] at h
  obtain ⟨⟨x1,s1⟩,h1,h2⟩ := seqO_eq.1 h
  refine wp_block (wp_mono (acode_sound hd hc hcall hloop hfn c hok h1 hi hgl) fun ex a1 w1 hr => ?_)
  simp only [inBlockC,sjE,Prod.mk.injEq] at h2
  obtain ⟨rfl,rfl⟩ := h2
  exact ResX.inX hr
 | .loop c,g,s,s',x,w,a,hok,h,hi,hgl => by
  simp only [acode] at h
  obtain ⟨k,h0,h⟩ := seqO_eq.1 h
  obtain ⟨out,h1,h2⟩ := seqO_eq.1 h
  cases out with
  | ret => cases h2
  | loop x1 s1 =>
   simp only [sjE,Prod.mk.injEq] at h2
   obtain ⟨rfl,rfl⟩ := h2
   obtain ⟨i1,st1⟩ := head_inv hi (cfg.cx f) k
   have hn := hloop f k c _ s1 x1 base w0 w g d a hd h1 (hok.2.1 k h0) i1 (hgl.grows st1.gr)
   exact wp_mono (wp_loop_rounds n hn) fun ex a' w' hr => ResX.of ⟨hr.1,Reach.trans st1 hr.2⟩
 | .refuse _,_,_,_,_,_,_,_,h,_,_ => by simp [acode] at h
 | .goto _,_,_,_,_,_,_,_,h,_,_ => by simp [acode] at h
 | .scope _,_,_,_,_,_,_,_,h,_,_ => by simp [acode] at h
 | .rangeFunc ..,_,_,_,_,_,_,_,h,_,_ => by simp [acode] at h
theorem rounds_mono {c : Code} {Q Q' : Exit -> Act -> World -> Prop} (h : ∀ ex a w,Q ex a w -> Q' ex a w) : ∀ (n : Nat) {a : Act} {w : World},Code.rounds P c Q n a w -> Code.rounds P c Q' n a w
 | 0,_,_,hh => hh.elim
 | n + 1,a,w,hh => by
  rw [rounds_succ] at hh ⊢
  refine wp_mono hh fun ex a1 w1 hr => ?_
  cases ex with
  | normal => exact rounds_mono h n hr
  | _ => exact h _ _ _ hr
theorem loop_step (hc : CfgOk P cfg) (hcall : CallOk P cfg e) {n : Nat} (hloop : LoopOk P cfg e n) (hfn : ∀ f args bx out,e (.call f args bx) = some out -> ∃ fn,cfg.fn f = some fn) : LoopOk P cfg (stepJ e cfg) (n + 1) := by
 intro f k c s s' x base w0 w g d a hd h hlc hi hgl
 simp only [stepJ] at h
 obtain ⟨c',hlc',h⟩ := seqO_eq.1 h
 obtain rfl := sij (hlc.symm.trans hlc')
 obtain ⟨⟨x1,s1⟩,h1,h2⟩ := seqO_eq.1 h
 rw [rounds_succ]
 refine wp_mono (acode_sound hd hc hcall hloop hfn c (loop_ok hc hlc) h1 hi hgl) fun ex a1 w1 hr => ?_
 cases x1 with
 | fork => simp at h2
 | normal =>
  obtain ⟨hx,hdf,g1,i1,st1⟩ := hr
  cases ex with
  | normal =>
   obtain ⟨i2,st2⟩ := head_inv i1 (cfg.cx f) k
   obtain ⟨g3,i3,st3⟩ := gc_inv hi (st1.trans st2) i2
   have := hloop f k c _ s' x base w0 w1 g3 d a1 hd h2 hlc i3 (hgl.grows st3.gr)
   show Code.rounds P c _ n a1 w1
   rw [hdf] at this
   revert this
   generalize gc s.bx.length (atHead (cfg.cx f) k s1) = s2 at *
   intro this
   clear h2
   exact rounds_mono (fun ex2 a2 w2 hr => ⟨hr.1,Reach.trans st3 hr.2⟩) n this
  | _ => exact hx.elim
 | exit i =>
  obtain ⟨hx,hdf,g1,i1,st1⟩ := hr
  simp only [sjE,Out.loop.injEq] at h2
  obtain ⟨rfl,rfl⟩ := h2
  obtain ⟨i2,st2⟩ := exit_inv i1 (cfg.cx f) k
  obtain ⟨g3,i3,st3⟩ := gc_inv hi (st1.trans st2) i2
  cases ex with
  | exit j => exact ⟨hx,hdf,g3,i3,st3⟩
  | _ => exact hx.elim
 | ret =>
  obtain ⟨hx,hdf,g1,i1,st1⟩ := hr
  simp only [sjE,Out.loop.injEq] at h2
  obtain ⟨rfl,rfl⟩ := h2
  obtain ⟨i2,st2⟩ := exit_inv i1 (cfg.cx f) k
  obtain ⟨g3,i3,st3⟩ := gc_inv hi (st1.trans st2) i2
  cases ex with
  | ret => exact ⟨trivial,hdf,g3,i3,st3⟩
  | _ => exact hx.elim
theorem enter_inv (hi : Inv base w0 w g d s vals) (fn : Func) {args : List PV} {us : List Value} (hl : us.length = args.length) (hr : ∀ (j : Nat) c u,args[j]? = some c -> us[j]? = some u -> RelA g c u) :
  Inv base w0 w g (d + 1) (startSt fn args s.bx) (us.toArray ++ Array.replicate (fn.ntmps - us.toArray.size) undef) := by
 have hts : ∀ (i : Nat) c v,(startSt fn args s.bx).ts[i]? = some c -> (us.toArray ++ Array.replicate (fn.ntmps - us.toArray.size) undef)[i]? = some v -> RelA g c v := by
  intro i c v h1 h2
  simp only [startSt] at h1
  rw [<- Array.getElem?_toList] at h2
  simp only [Array.toList_append,Array.toList_replicate,List.size_toArray] at h2
  by_cases hlt : i < args.length
  ·rw [gal hlt] at h1
   rw [gal (by omega)] at h2
   exact hr i c v h1 h2
  ·rw [gar (by omega)] at h1
   rw [gar (by omega)] at h2
   rw [List.getElem?_replicate] at h1 h2
   split at h1
   ·split at h2
    ·obtain rfl := sij h1
     obtain rfl := sij h2
     exact rfl
    ·cases h2
   ·cases h1
 refine ⟨hi.low,hi.hb,hi.mem,hi.own_ge,hi.own_lt,fun b d' i j h => Nat.le_succ_of_le (hi.own_d b d' i j h),hi.blen,hi.nodup,Nat.le_refl _,hi.boxes,by simp [startSt,hl],fun i c v h1 h2 => ?_,fun i c p h1 h2 => ?_⟩
 ·have := hts i c v h1 h2
  cases c with
  | own => exact this.elim
  | bag => exact this.elim
  | tup => exact this.elim
  | «alias» => exact this.elim
  | eptr => exact this.elim
  | dead => exact trivial
  | dat _ => exact this
  | agg _ => exact this
  | ptr _ _ => exact this
  | iptr _ _ => exact this
  | clo _ _ => exact this
 ·have hlt : i < (us.toArray ++ Array.replicate (fn.ntmps - us.toArray.size) undef).size := by
   have := (gsi.1 h1).1
   simp only [startSt,List.length_append,List.length_replicate] at this
   simp only [Array.size_append,Array.size_replicate,List.size_toArray]
   omega
  have := hts i c _ h1 (agg hlt)
  cases c with
  | «alias» => exact this.elim
  | eptr => exact this.elim
  | _ => cases h2
theorem call_step (hc : CfgOk P cfg) (hcall : CallOk P cfg e) {n : Nat} (hloop : LoopOk P cfg e n) (hfn : ∀ f args bx out,e (.call f args bx) = some out -> ∃ fn,cfg.fn f = some fn) : CallOk P cfg (stepJ e cfg) := by
 intro f args out base w0 w g d s vals us h hi hgl hl hr
 simp only [stepJ] at h
 obtain ⟨fn,h1,h2⟩ := seqO_eq.1 h
 obtain ⟨c,h3,h4⟩ := seqO_eq.1 h2
 obtain ⟨⟨x,s1⟩,h5,h6⟩ := seqO_eq.1 h4
 clear h h2 h4
 have i1 := enter_inv hi fn hl hr
 refine calls_of_wp (hc.fn f fn h1).1 h3 ?_
 refine wp_mono (acode_sound (a := { tmps := us.toArray ++ Array.replicate (fn.ntmps - us.toArray.size) undef,defers := [] }) (Nat.succ_pos d) hc hcall hloop hfn c ⟨(hc.code f fn c h1 h3).1,code_loops hc h1 h3⟩ h5 i1 hgl) fun ex a1 w1 hr1 => ?_
 have finA : ∀ (s1 : St),Reach base w0 (d + 1) (startSt fn args s.bx) w g [] s1 a1 w1 -> (seqO (aress cfg fn.results.toList s1) fun q => some (outOf (tupOf q.1) q.2)) = some out →
   a1.defers = [] /\ ∃ v,(results fn a1.tmps).run P w1 = .ok v w1 /\ ∃ r s' g',finSt out s = some (r,s') /\ Inv base w0 w1 g' d s' vals /\ Stp d s s' w w1 g g' /\ RelP w1 g' vals s' r v := by
  intro s1 hr h7
  obtain ⟨hdf,g1,i2,st2⟩ := hr
  obtain ⟨⟨pvs,s2⟩,h8,h9⟩ := seqO_eq.1 h7
  have h9' : outOf (tupOf pvs) s2 = out := sij h9
  obtain ⟨g2,r2,i3,st3,l3,rel3⟩ := aress_sound hc (N := s.ts.length) fn.results.toList (j := 0) i2 (hgl.grows st2.gr) h8
  have hrun := run_mapMA (P := P) (w := w1) (h := fun v => valOf ((resEval a1.tmps v).run P w1)) fn.results r2
  have hf : ∃ r s',finSt out s = some (r,s') := by
   rw [<- h9']
   unfold outOf
   split
   ·split <;> exact ⟨_,_,rfl⟩
   ·exact ⟨_,_,rfl⟩
  obtain ⟨r,s',hf⟩ := hf
  obtain ⟨g',q1,q2,q3⟩ := ret_sound (pvs := pvs) (us := fn.results.toList.map fun v => valOf ((resEval a1.tmps v).run P w1)) hi i3 (st2.trans st3) rfl rfl (by simp [l3]) (fun i c u hc' hu => by
   rw [List.getElem?_map] at hu
   cases hv : fn.results.toList[i]? with
   | none => rw [hv] at hu; cases hu
   | some v =>
    rw [hv] at hu
    obtain rfl := sij hu
    have := rel3 i v c hv hc'
    rw [Nat.zero_add] at this
    exact this) (by rw [h9']; exact hf)
  refine ⟨hdf,_,?_,r,s',g',hf,q1,q2,q3⟩
  rw [results_eq]
  simp only [Sem.run_bind,hrun,Result.andThen_ok,Sem.run_pure]
  have e : (fn.results.toList.map fun v => valOf ((resEval a1.tmps v).run P w1)).toArray = fn.results.map fun v => valOf ((resEval a1.tmps v).run P w1) := by
   rw [<- Array.toList_map]
  simp only [e]
 have finB : ∀ (s1 : St),Reach base w0 (d + 1) (startSt fn args s.bx) w g [] s1 a1 w1 -> (seqO (bagRes cfg fn.results.toList s1) fun q => some (bagOut (outOf (.tup q.1) q.2))) = some out →
   a1.defers = [] /\ ∃ v,(results fn a1.tmps).run P w1 = .ok v w1 /\ ∃ r s' g',finSt out s = some (r,s') /\ Inv base w0 w1 g' d s' vals /\ Stp d s s' w w1 g g' /\ RelP w1 g' vals s' r v := by
  intro s1 hr h7
  obtain ⟨hdf,g1,i2,st2⟩ := hr
  obtain ⟨⟨pvs,s2⟩,h8,h9⟩ := seqO_eq.1 h7
  have h9' : bagOut (outOf (.tup pvs) s2) = out := sij h9
  obtain ⟨rv,us2,g2,e1,e2,i3,st3,l3,hlt,rel3⟩ := bagRes_sound hc i2 (N := s.ts.length) (hgl.grows st2.gr) h8
  have htup : tupOf pvs = .tup pvs := by
   match pvs,hlt with
   | [],h => exact absurd h (by simp)
   | [_],h => exact absurd h (by simp)
   | _ :: _ :: _,_ => rfl
  have hf : ∃ s',finSt (outOf (.tup pvs) s2) s = some (.tup pvs,s') /\ finSt out s = some (.bag pvs,s') := by
   rw [<- h9']
   unfold outOf
   split
   ·split <;> exact ⟨_,rfl,rfl⟩
   ·exact ⟨_,rfl,rfl⟩
  obtain ⟨s',hf1,hf2⟩ := hf
  obtain ⟨g',q1,q2,q3⟩ := ret_sound (pvs := pvs) (us := us2) hi i3 (st2.trans st3) rfl rfl l3 rel3 (by rw [htup]; exact hf1)
  refine ⟨hdf,.agg us2.toArray,?_,.bag pvs,s',g',hf2,q1,q2,?_⟩
  ·have hrun := run_mapMA (P := P) (w := w1) (f := resEval a1.tmps) (h := fun _ => Value.agg us2.toArray) fn.results (fun v hv => by
    rw [e1] at hv
    simp only [List.mem_singleton] at hv
    rw [hv]; exact e2)
   rw [results_eq]
   simp only [Sem.run_bind,hrun,Result.andThen_ok,Sem.run_pure]
   have hsz : fn.results.size = 1 := by rw [<- Array.length_toList,e1]; rfl
   simp [hsz]
  ·rw [dif_neg (by simp only [List.size_toArray]; omega)] at q3
   obtain ⟨us3,f1,f2,f3⟩ := (q3 : RelP w1 g' vals s' (.tup pvs) _)
   simp only [Value.tuple.injEq] at f1
   exact ⟨us3,by rw [f1],f2,f3⟩
 have fin : ∀ (s1 : St),Reach base w0 (d + 1) (startSt fn args s.bx) w g [] s1 a1 w1 -> resO (cfg.cx f).bag cfg fn s1 = some out →
   a1.defers = [] /\ ∃ v,(results fn a1.tmps).run P w1 = .ok v w1 /\ ∃ r s' g',finSt out s = some (r,s') /\ Inv base w0 w1 g' d s' vals /\ Stp d s s' w w1 g g' /\ RelP w1 g' vals s' r v := by
  intro s1 hr h7
  unfold resO at h7
  split at h7
  ·exact finB s1 hr h7
  ·exact finA s1 hr h7
 have go : ∀ (x : AExit) (s1 : St),ResX base w0 (d + 1) (startSt fn args s.bx) w g [] x s1 ex a1 w1 -> retX (cfg.cx f).bag cfg fn x s1 = some out -> (ex = .normal ∨ ex = .ret) /\ (a1.defers = [] /\ ∃ v,(results fn a1.tmps).run P w1 = .ok v w1 /\ ∃ r s' g',finSt out s = some (r,s') /\ Inv base w0 w1 g' d s' vals /\ Stp d s s' w w1 g g' /\ RelP w1 g' vals s' r v) := by
  intro x
  induction x with
  | fork y1 t1 y2 ih1 ih2 =>
   intro s1 hr1 h6
   obtain ⟨o1,h7,h8⟩ := seqO_eq.1 h6
   obtain ⟨o2,h9,h10⟩ := seqO_eq.1 h8
   split at h10
   ·rename_i he
    obtain rfl := sij h10
    subst he
    rcases hr1 with hr1 | hr1
    ·exact ih1 t1 hr1 h7
    ·exact ih2 s1 hr1 h9
   ·cases h10
  | exit i => intro s1 hr1 h6; cases h6
  | normal =>
   intro s1 hr1 h6
   cases ex with
   | normal => exact ⟨.inl rfl,fin s1 hr1.2 h6⟩
   | _ => exact hr1.1.elim
  | ret =>
   intro s1 hr1 h6
   cases ex with
   | ret => exact ⟨.inr rfl,fin s1 hr1.2 h6⟩
   | _ => exact hr1.1.elim
 obtain ⟨hex,hdf,v,q1,q2⟩ := go x s1 hr1 h6
 rcases hex with rfl | rfl
 ·exact ⟨hdf,v,q1,q2⟩
 ·exact ⟨hdf,v,q1,q2⟩
theorem evN_fn (cfg : Cfg) : ∀ n f args bx out,evN cfg n (.call f args bx) = some out -> ∃ fn,cfg.fn f = some fn
 | 0,_,_,_,_,h => by cases h
 | n + 1,f,args,bx,out,h => by
  obtain ⟨fn,h1,_⟩ := seqO_eq.1 (show (seqO (cfg.fn f) _) = some out from h)
  exact ⟨fn,h1⟩
theorem evN_sound (hc : CfgOk P cfg) : ∀ n,CallOk P cfg (evN cfg n) /\ LoopOk P cfg (evN cfg n) n
 | 0 => ⟨fun _ _ _ _ _ _ _ _ _ _ _ h => (by cases h),fun _ _ _ _ _ _ _ _ _ _ _ _ _ h => (by cases h)⟩
 | n + 1 => let ⟨h1,h2⟩ := evN_sound hc n; ⟨call_step hc h1 h2 (evN_fn cfg n),loop_step hc h1 h2 (evN_fn cfg n)⟩
theorem ev_sound (hc : CfgOk P cfg) : CallOk P cfg (ev cfg) := by
 intro f args out base w0 w g d s vals us h
 obtain ⟨n,hn⟩ := of_ev cfg h
 exact (evN_sound hc n).1 f args out base w0 w g d s vals us hn
end
end Go.Vx
namespace Go.Vx
open Go Go.RowKit
inductive Fit (ti : TypeId -> Option TI) : TypeId -> List D -> Prop
 | int {t : TypeId} {i : TI} {k : IntKind} {n : Int} (h : ti t = some i) (hk : i.kind = .int k) (hw : (Lit.int k n).wf = true) : Fit ti t [.lit (.int k n)]
 | bool {t : TypeId} {i : TI} {b : Bool} (h : ti t = some i) (hk : i.kind = .bool) : Fit ti t [.lit (.bool b)]
 | str {t : TypeId} {i : TI} {s : ByteArray} (h : ti t = some i) (hk : i.kind = .str) (hw : s.size <= maxLen) : Fit ti t [.lit (.string s)]
 | nil {t e : TypeId} {i : TI} (h : ti t = some i) (hk : i.kind = .slice e) : Fit ti t [.nil]
 | sl {t e : TypeId} {i j : TI} {rows : List (List D)} (h : ti t = some i) (hk : i.kind = .slice e) (hj : ti e = some j) (hl : rows.length <= maxLen) (hr : ∀ r ∈ rows,Fit ti e r) : Fit ti t [.sl j.size rows]
 | struct {t : TypeId} {i : TI} {fs : List (Nat × TypeId)} {ds : List D} (h : ti t = some i) (hk : i.kind = .struct fs) (hl : ds.length = i.size)
   (hf : ∀ p ∈ fs,∀ j,ti p.2 = some j -> Fit ti p.2 ((ds.drop p.1).take j.size)) : Fit ti t ds
def consec (ti : TypeId -> Option TI) : Nat -> List (Nat × TypeId) -> Nat -> Bool
 | o,[],n => o == n
 | o,p :: ps,n => p.1 == o && (match ti p.2 with
  | some j => consec ti (o + j.size) ps n
  | none => false)
def closedTi (ti : TypeId -> Option TI) (T : List TypeId) : Bool := T.all fun t => match ti t with
 | some i => match i.kind with
  | .int _ | .bool | .str => true
  | .slice e => T.contains e && (match ti e with | some j => decide (0 < j.size) | none => false)
  | .struct fs => fs.all (fun p => T.contains p.2) && consec ti 0 fs i.size
  | _ => false
 | none => false
def memOf (w : World) : Addr -> Option Value := fun a => w.cell? a
def RelDs (m : Addr -> Option Value) (ds : List D) (cs : List Value) : Prop := ds.length = cs.length /\ ∀ (j : Nat) x v,ds[j]? = some x -> cs[j]? = some v -> RelD m x v
theorem relDs_one {m : Addr -> Option Value} {x : D} {v : Value} (h : RelD m x v) : RelDs m [x] [v] := by
 refine ⟨rfl,fun j y u hy hu => ?_⟩
 cases j with
 | succ j => simp at hy
 | zero =>
  simp only [List.getElem?_cons_zero,sjE] at hy hu
  subst hy; subst hu; exact h
theorem list_choice {α : Type} {p : Nat -> α -> Prop} : ∀ n,(∀ i,i < n -> ∃ x,p i x) -> ∃ l : List α,l.length = n /\ ∀ i x,l[i]? = some x -> p i x
 | 0,_ => ⟨[],rfl,fun i x h => by simp at h⟩
 | n + 1,h => by
  obtain ⟨l,h1,h2⟩ := list_choice n fun i hi => h i (by omega)
  obtain ⟨x,hx⟩ := h n (by omega)
  refine ⟨l ++ [x],by simp [h1],fun i y hy => ?_⟩
  by_cases hi : i < l.length
  ·rw [gal hi] at hy; exact h2 i y hy
  ·rw [gar (by omega)] at hy
   by_cases hi2 : i = l.length
   ·subst hi2
    simp only [Nat.sub_self,List.getElem?_cons_zero,sjE] at hy
    subst hy; rw [h1]; exact hx
   ·rw [List.getElem?_eq_none (by simp; omega)] at hy; cases hy
theorem flatten_inv {k : Nat} : ∀ {xs : List (List D)} {j : Nat} {x : D},(∀ r ∈ xs,r.length = k) -> xs.flatten[j]? = some x -> ∃ i q r,j = i * k + q /\ q < k /\ xs[i]? = some r /\ r[q]? = some x
 | [],j,x,_,h => by simp at h
 | r :: xs,j,x,hk,h => by
  have hr : r.length = k := hk r (mcs ..)
  rw [List.flatten_cons] at h
  by_cases hj : j < k
  ·rw [gal (by omega)] at h
   exact ⟨0,j,r,by omega,hj,rfl,h⟩
  ·rw [gar (by omega),hr] at h
   obtain ⟨i,q,r',h1,h2,h3,h4⟩ := flatten_inv (fun r hr => hk r (mcm _ hr)) h
   exact ⟨i + 1,q,r',by rw [Nat.add_mul]; omega,h2,h3,h4⟩
theorem cells?_get {w : World} {base : Nat} {a : Addr} {n : Nat} {cs : List Value} (h : w.cells? base a n = some cs) : cs.length = n /\ ∀ (j : Nat) v,cs[j]? = some v -> w.cell? (a.add j) = some v := by
 unfold World.cells? at h
 split at h
 ·refine ⟨by simpa using mapM_some_length h,fun j v hv => ?_⟩
  have hlt : j < n := by
   have := mapM_some_length h
   have h2 := (gsi.1 hv).1
   simp at this; omega
  have := mapM_some_get h j j (by simp [hlt])
  rw [this,hv]
 ·cases h
theorem fields_fit {ti : TypeId -> Option TI} {m : Addr -> Option Value} {n : Nat} {cs : List Value} (hcs : cs.length = n) : ∀ (ps : List (Nat × TypeId)) (o : Nat),consec ti o ps n = true →
  (∀ p ∈ ps,∀ j,ti p.2 = some j -> ∃ ds,Fit ti p.2 ds /\ RelDs m ds ((cs.drop p.1).take j.size)) -> ∃ ds,RelDs m ds (cs.drop o) /\ (o <= n) /\ ∀ p ∈ ps,o <= p.1 /\ ∀ j,ti p.2 = some j -> Fit ti p.2 ((ds.drop (p.1 - o)).take j.size)
 | [],o,h,_ => by
  simp only [consec,beq_iff_eq] at h
  refine ⟨[],?_,by omega,fun p hp => by cases hp⟩
  rw [List.drop_of_length_le (by omega)]
  exact ⟨rfl,fun j x v hx => by simp at hx⟩
 | p :: ps,o,h,hf => by
  simp only [consec,Bool.and_eq_true,beq_iff_eq] at h
  obtain ⟨h1,h2⟩ := h
  cases hj : ti p.2 with
  | none => rw [hj] at h2; cases h2
  | some j =>
   rw [hj] at h2
   obtain ⟨d1,f1,⟨l1,r1⟩⟩ := hf p (mcs ..) j hj
   obtain ⟨d2,⟨l2,r2⟩,ho,f2⟩ := fields_fit hcs ps (o + j.size) h2 fun q hq => hf q (mcm _ hq)
   have hlen : d1.length = j.size := by rw [l1,List.length_take,List.length_drop]; omega
   refine ⟨d1 ++ d2,⟨?_,fun k x v hx hv => ?_⟩,by omega,fun q hq => ?_⟩
   ·rw [List.length_append,hlen,l2,List.length_drop,List.length_drop]; omega
   ·rw [List.getElem?_drop] at hv
    by_cases hk : k < d1.length
    ·rw [gal hk] at hx
     refine r1 k x v hx ?_
     rw [List.getElem?_take_of_lt (by omega),List.getElem?_drop,h1]; exact hv
    ·rw [gar (by omega)] at hx
     refine r2 (k - d1.length) x v hx ?_
     rw [List.getElem?_drop,hlen,show o + j.size + (k - j.size) = o + k by omega]; exact hv
   ·rcases List.mem_cons.1 hq with hq | hq
    ·subst hq
     refine ⟨by omega,fun j' hj' => ?_⟩
     rw [hj] at hj'
     obtain rfl := sij hj'
     rw [show q.1 - o = 0 by omega,List.drop_zero,List.take_append_of_le_length (by omega),List.take_of_length_le (by omega)]
     exact f1
    ·obtain ⟨h3,h4⟩ := f2 q hq
     refine ⟨by omega,fun j' hj' => ?_⟩
     have := h4 j' hj'
     rw [List.drop_append,List.drop_of_length_le (by omega),List.nil_append,hlen,show q.1 - o - j.size = q.1 - (o + j.size) by omega]
     exact this
theorem trod_fit {H : Type} {enc : TypeId × Value -> H} {P : Program} {w : World} {sp : Nat -> Bool} {held : Bool} {ti : TypeId -> Option TI} (hti : ∀ t i,ti t = some i -> TiOk P t i) {T : List TypeId} (hT : closedTi ti T = true) :
  ∀ (fuel : Nat) (t : TypeId) (cs : List Value) (x : DataW H × List MemPlace),t ∈ T -> DataW.trod enc P w 0 sp held fuel t cs = some x -> ∃ ds,Fit ti t ds /\ RelDs (memOf w) ds cs := by
 intro fuel
 induction fuel with
 | zero => intro t cs x _ h; simp [DataW.trod] at h
 | succ n ih =>
  intro t cs x ht h
  have hcl := List.all_eq_true.1 hT t ht
  cases hi : ti t with
  | none => rw [hi] at hcl; cases hcl
  | some i =>
   rw [hi] at hcl
   simp only at hcl
   have hk := (hti t i hi).kind
   have hsize : ∀ e j,ti e = some j -> P.cellsOf e = j.size := fun e j hj => by
    obtain ⟨info,z,q1,q2,_⟩ := (hti e j hj).info
    simp [Program.cellsOf,q1,q2]
   cases hkd : i.kind with
   | int k =>
    rw [hkd] at hk
    obtain ⟨m,rfl,rfl,hw⟩ := DataW.trod_int hk h
    exact ⟨_,.int hi hkd hw,relDs_one (.lit _ rfl)⟩
   | bool =>
    rw [hkd] at hk
    obtain ⟨b,rfl,rfl⟩ := DataW.trod_bool hk h
    exact ⟨_,.bool hi hkd,relDs_one (.lit _ rfl)⟩
   | str =>
    rw [hkd] at hk
    obtain ⟨b,rfl,rfl,hs⟩ := DataW.trod_string hk h
    exact ⟨_,.str hi hkd hs,relDs_one (.lit _ rfl)⟩
   | slice e =>
    rw [hkd] at hk hcl
    simp only [Bool.and_eq_true] at hcl
    have heT : e ∈ T := by simpa using hcl.1
    cases hj : ti e with
    | none => rw [hj] at hcl; cases hcl.2
    | some j =>
     rw [hj] at hcl
     have hpos : 0 < j.size := by simpa using hcl.2
     have hce := hsize e j hj
     rcases DataW.trod_slice hk h with ⟨rfl,_⟩ | ⟨a,len,cap,elems,rest,n',hn',rfl,_,_,hlc,hcm,hel,hrow,_,_⟩
     ·exact ⟨_,.nil hi hkd,relDs_one (.nil none)⟩
     ·obtain rfl : n' = n := by omega
      obtain ⟨rows,hrl,hrows⟩ := list_choice (p := fun q r => Fit ti e r /\ ∃ cs',w.cells? 0 (a.add (q * j.size)) j.size = some cs' /\ RelDs (memOf w) r cs') len fun q hq => by
       have h1 := hrow q hq
       rw [hce,gge (by omega)] at h1
       obtain ⟨cs',h2,h3⟩ := Option.bind_eq_some_iff.1 h1
       obtain ⟨ds,h4,h5⟩ := ih e cs' _ heT h3
       exact ⟨ds,h4,cs',h2,h5⟩
      have hlen : ∀ r ∈ rows,r.length = j.size := by
       intro r hr
       obtain ⟨q,hq⟩ := List.getElem?_of_mem hr
       obtain ⟨_,cs',h1,h2⟩ := hrows q r hq
       rw [h2.1,(cells?_get h1).1]
      refine ⟨_,.sl (rows := rows) hi hkd hj (by omega) fun r hr => ?_,relDs_one ?_⟩
      ·obtain ⟨q,hq⟩ := List.getElem?_of_mem hr
       exact (hrows q r hq).1
      ·by_cases h0 : rows = []
       ·subst h0
        simp only [List.length_nil] at hrl
        subst hrl
        exact .emp _ _ _
       ·obtain ⟨r0,hr0⟩ : ∃ r,rows[0]? = some r := ⟨_,gge (List.length_pos_iff.2 h0)⟩
        obtain ⟨b,o,spt⟩ := a
        have hspot : spt = none := by
         obtain ⟨_,cs',h1,h2⟩ := hrows 0 r0 hr0
         obtain ⟨h3,h4⟩ := cells?_get h1
         have h5 := h4 0 cs'[0] (gge (by omega))
         unfold World.cell? at h5
         split at h5
         ·split at h5
          ·cases h5
          ·rename_i hs
           simpa [Addr.add] using hs
         ·cases h5
        subst hspot
        have hcell : ∀ (q : Nat) x,rows.flatten[q]? = some x -> ∃ v,w.cell? ⟨b,o + q,none⟩ = some v /\ RelD (memOf w) x v := by
         intro q x hx
         obtain ⟨i1,q1,r,e1,e2,e3,e4⟩ := flatten_inv hlen hx
         obtain ⟨_,cs',h1,h2⟩ := hrows i1 r e3
         obtain ⟨h3,h4⟩ := cells?_get h1
         have hv : cs'[q1]? = some cs'[q1] := gge (by omega)
         refine ⟨_,?_,h2.2 q1 x _ e4 hv⟩
         have := h4 q1 _ hv
         rw [add_mk,add_mk] at this
         rw [e1,<- Nat.add_assoc]; exact this
        rw [<- hrl]
        refine .sl j.size rows b o cap (fun q => (w.cell? ⟨b,o + q,none⟩).getD undef) (by omega) hlen (fun q x hx => ?_) fun q x hx => ?_
        ·obtain ⟨v,h1,_⟩ := hcell q x hx
         simp [memOf,h1]
        ·obtain ⟨v,h1,h2⟩ := hcell q x hx
         simp only [h1,Option.getD_some]; exact h2
   | struct fs =>
    rw [hkd] at hk hcl
    simp only [Bool.and_eq_true] at hcl
    obtain ⟨fields,k1,k2,_⟩ := hk
    obtain ⟨xs,n',hn',_,hcl',hxl,hx⟩ := DataW.trod_struct k1 h
    obtain rfl : n' = n := by omega
    rw [hsize t i hi] at hcl'
    obtain ⟨ds,h1,_,h2⟩ := fields_fit (ti := ti) (m := memOf w) hcl' fs 0 hcl.2 fun p hp j hj => by
     have hpT : p.2 ∈ T := by simpa using List.all_eq_true.1 hcl.1 p hp
     rw [<- k2] at hp
     obtain ⟨f,hf,rfl⟩ := List.mem_map.1 hp
     obtain ⟨q,hq⟩ := List.getElem?_of_mem hf
     have hq' : fields[q]? = some f := by rw [<- Array.getElem?_toList]; exact hq
     have hlt : q < xs.length := by rw [hxl]; exact (Array.getElem?_eq_some_iff.1 hq').1
     have := hx q f hq'
     rw [gge hlt,hsize _ j hj] at this
     exact ih _ _ _ hpT this
    rw [List.drop_zero] at h1
    refine ⟨ds,.struct hi hkd (by rw [h1.1,hcl']) fun p hp j hj => ?_,h1⟩
    have := (h2 p hp).2 j hj
    simpa using this
   | array _ _ => rw [hkd] at hcl; cases hcl
   | other => rw [hkd] at hcl; cases hcl
end Go.Vx
namespace Go.Vx
open Go Go.RowKit
def gh0 (cfg : Cfg) (W : World) : Gh := { m := memOf W,own := fun _ => none,blk := [],bt := cfg.byteT }
def st0 : St := { ts := [],bx := [],nb := 0,lo := none,kp := false }
theorem inv0 (cfg : Cfg) (W : World) : Inv W.heap.size W W (gh0 cfg W) 0 st0 #[] where
 low := Below.refl _ W
 hb := Nat.le_refl _
 mem _ _ h := h
 own_ge _ _ h := by cases h
 own_lt _ _ h := by cases h
 own_d _ _ _ _ h := by cases h
 blen := rfl
 nodup := List.nodup_nil
 nbl := Nat.le_refl _
 boxes l b bx h _ := by simp [gh0] at h
 tl := rfl
 tmps i c v h _ := by simp [st0] at h
 al i c p h _ := by simp [st0] at h
theorem top_sound {P : Program} {cfg : Cfg} (hc : CfgOk P cfg) {f : FuncId} {args : List PV} {us : List Value} {v : Value} {W : World} (h : ev cfg (.call f args []) = some (.ret (.dat (.lit v)) none)) (hgl : GlobOk cfg (gh0 cfg W))
  (hl : us.length = args.length) (hr : ∀ (j : Nat) c u,args[j]? = some c -> us[j]? = some u -> RelA (gh0 cfg W) c u) :
  Calls P f us.toArray W fun
   | .returned u,W' => u = v /\ Below W.heap.size W W'
   | _,_ => False := by
 refine Calls.mono (ev_sound hc f args _ W.heap.size W W (gh0 cfg W) 0 st0 #[] us h (inv0 cfg W) hgl hl hr) fun en W' he => ?_
 cases en with
 | returned u =>
  obtain ⟨r,s',g',h1,h2,_,h4⟩ := he
  simp only [finSt,sjE,Prod.mk.injEq] at h1
  obtain ⟨rfl,rfl⟩ := h1
  exact ⟨h4,h2.low⟩
 | panicked => exact he.elim
 | outgrown => exact he.elim
theorem relA_agg {cfg : Cfg} {W : World} {ds : List D} {cs : Array Value} (h : RelDs (memOf W) ds cs.toList) : RelA (gh0 cfg W) (.agg (ds.map .dat)) (.agg cs) := by
 refine ⟨cs.toList,rfl,by simp [h.1],fun j c v hc hv => ?_⟩
 rw [List.getElem?_map] at hc
 cases hd : ds[j]? with
 | none => rw [hd] at hc; cases hc
 | some x =>
  rw [hd] at hc
  obtain rfl := sij hc
  exact relC_dat (h.2 j x v hd hv)
end Go.Vx
namespace Go.Vx
open Go Go.RowKit
def structOf : Option TypeDesc -> Option (List (Nat × TypeId))
 | some (.struct fs) => some (fs.toList.map fun f => (f.offset,f.type))
 | _ => none
def descOk : Option TypeDesc -> Bool
 | some (.struct _) | some (.array _ _) => false
 | some _ => true
 | none => false
theorem kind_struct {P : Program} {t : TypeId} {fs : List (Nat × TypeId)} (h : structOf (P.underlying t) = some fs) (h2 : (fs.all fun p => (P.info? p.2).isSome) = true) : KindOk P t (.struct fs) := by
 cases hu : P.underlying t with
 | none => rw [hu] at h; cases h
 | some dsc =>
  rw [hu] at h
  cases dsc with
  | struct fields =>
   obtain rfl := sij h
   refine ⟨fields,hu,rfl,fun f hf => ?_⟩
   exact List.all_eq_true.1 h2 (f.offset,f.type) (List.mem_map.2 ⟨f,hf,rfl⟩)
  | _ => cases h
theorem kind_other {P : Program} {t : TypeId} (h : descOk (P.underlying t) = true) : KindOk P t .other := by
 cases hu : P.underlying t with
 | none => rw [hu] at h; cases h
 | some dsc =>
  rw [hu] at h
  refine ⟨dsc,hu,?_⟩
  cases dsc <;> first | rfl | cases h
theorem tiOk_mk {P : Program} {t : TypeId} {i : TI} (hs : (P.info? t).map (·.size) = some i.size) (hb : (P.info? t).map (·.bytes) = some i.bytes)
  (hz : ((P.info? t).bind (·.zero)).map (fun z => z.cells.toList) = some (i.zero.map D.toValue)) (hz2 : i.zero.all D.zeroOk = true) (hl : i.zero.length = i.size) (hk : KindOk P t i.kind) : TiOk P t i := by
 cases hi : P.info? t with
 | none => rw [hi] at hs; cases hs
 | some info =>
  rw [hi] at hs hb hz
  cases hzz : info.zero with
  | none => simp [hzz] at hz
  | some z =>
   simp [hzz] at hz
   exact ⟨⟨info,z,hi,sij hs,sij hb,hzz,hz⟩,hz2,hl,hk⟩
end Go.Vx
