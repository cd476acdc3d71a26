/- The abstract interpreter of the model's code, and its soundness: a part. No condition. -/
import Derived.Test.YtifckjhggamefaaGreatDoorUb
import Derived.Laws.MakeOwn
set_option linter.unusedSimpArgs false
set_option linter.unusedVariables false
set_option linter.unusedSectionVars false
namespace Go.Vx
open Go Go.RowKit
section
variable {P : Program} {cfg : Cfg} {base : Nat} {w0 w : World} {g : Gh} {d : Nat} {s : St} {vals : Array Value} {o : Oper} {a : Act}
theorem add_mk (b off n : Nat) : (⟨b,off,none⟩ : Addr).add n = ⟨b,off + n,none⟩ := by
 unfold Addr.add; split <;> simp_all
theorem val_is_tmp {x : Operand} {c : PV} (h : s.val cfg x = c) (hc : (∃ p,aliasOf c = some p) ∨ (∃ ex k xs,c = .own ex k xs) ∨ ∃ vs,c = .tup vs) : ∃ t,x = .tmp t := by
 cases x with
 | tmp t => exact ⟨t,rfl⟩
 | const v =>
  simp only [St.val,PV.ofValue] at h
  split at h <;> (subst h; rcases hc with ⟨p,e⟩ | ⟨ex,k,xs,e⟩ | ⟨vs,e⟩ <;> cases e)
 | global gl =>
  simp only [St.val] at h
  split at h <;> (subst h; rcases hc with ⟨p,e⟩ | ⟨ex,k,xs,e⟩ | ⟨vs,e⟩ <;> cases e)
 | func f =>
  simp only [St.val] at h
  subst h; rcases hc with ⟨p,e⟩ | ⟨ex,k,xs,e⟩ | ⟨vs,e⟩ <;> cases e
theorem val_addr (hi : Inv base w0 w g d s vals) (hgl : GlobOk cfg g) (ha : a.tmps = vals) {x : Operand} {n : Nat} {y : PV} (h : addOff (s.val cfg x) n = some y) :
  ∃ b off,a.eval x = .pointer (some ⟨b,off,none⟩) /\ RelP w g vals s y (.pointer (some ⟨b,off + n,none⟩)) := by
 cases hc : s.val cfg x with
 | ptr l off =>
  rw [hc] at h
  obtain rfl := sij h
  obtain ⟨b,h1,h2⟩ := val_plain hi hgl ha hc (by intro e; cases e) (by intro _ _ _ e; cases e) rfl rfl
  exact ⟨b,off,h2,b,h1,rfl⟩
 | iptr cs off =>
  rw [hc] at h
  obtain rfl := sij h
  obtain ⟨b,o',us,h2,h3⟩ := val_plain hi hgl ha hc (by intro e; cases e) (by intro _ _ _ e; cases e) rfl rfl
  exact ⟨b,o' + off,h2,b,o',us,by rw [Nat.add_assoc],h3⟩
 | eptr p k i j =>
  rw [hc] at h
  obtain rfl := sij h
  obtain ⟨t,rfl⟩ := val_is_tmp hc (.inl ⟨p,rfl⟩)
  simp only [St.val] at hc
  obtain ⟨h1,h2,b,o',n',c',h3,h4⟩ := val_tmp hi ha hc (by intro e; cases e)
  exact ⟨b,o' + (i * k + j),h4,⟨b,o',n',c',h3,by rw [Nat.add_assoc,Nat.add_assoc]⟩,hi.al t _ p h1 rfl⟩
 | _ => rw [hc] at h; cases h
theorem run_sizeOf' {t : TypeId} {i : TI} (h : TiOk P t i) (w : World) : (sizeOf t).run P w = .ok i.size w := by
 obtain ⟨info,z,q1,q2,_⟩ := h.info
 simp [sizeOf,typeInfo,q1,q2]
theorem fieldAddr_sound (hc : CfgOk P cfg) (hi : Inv base w0 w g d s vals) (hgl : GlobOk cfg g) (ha : a.tmps = vals) {t : TypeId} {x : Operand} {f : Nat} (ho : o.op = .fieldAddr t x f) {s' : St}
  (h : (seqO (aFieldAddr cfg t (s.val cfg x) f) fun v => some (put s o.dst v)) = some s') : Goes P o a base w0 w g d s vals s' := by
 obtain ⟨y,h1,h2⟩ := seqO_eq.1 h
 obtain rfl := sij h2
 unfold aFieldAddr at h1
 obtain ⟨i,hti,h1⟩ := seqO_eq.1 h1
 split at h1
 ·rename_i fs hk
  obtain ⟨p,hf,h1⟩ := seqO_eq.1 h1
  obtain ⟨j,htj,h1⟩ := seqO_eq.1 h1
  split at h1
  ·cases h1
  ·rename_i hj0
   obtain ⟨b,off,e1,e2⟩ := val_addr hi hgl ha h1
   have hkd := (hc.ti t i hti).kind
   rw [hk] at hkd
   obtain ⟨fields,u1,u2,_⟩ := hkd
   rw [<- u2,List.getElem?_map] at hf
   cases hfl : fields[f]? with
   | none => rw [Array.getElem?_toList,hfl] at hf; cases hf
   | some fd =>
    rw [Array.getElem?_toList,hfl] at hf
    obtain rfl := sij hf
    refine goes_same ?_ hi e2
    have hsz := run_sizeOf' (hc.ti _ j htj) w
    simp only at hsz
    simp only [execOp,ho,Instr.fieldAt,e1,Instr.sureAddr,fieldPlace,Sem.run_bind,run_underlying u1,Result.andThen_ok,hfl,Sem.run_pure,hsz,Sem.run_ite,if_neg hj0,add_mk]
 ·cases h1
inductive RdRel (w : World) (g : Gh) (vals : Array Value) (d : Nat) (s : St) : Rd -> Value -> Prop
 | imm (k : Nat) (xs : List (List D)) (u : Value) (h : RelD g.m (.sl k xs) u) : RdRel w g vals d s (.imm k xs) u
 | at (p : Place) (ex : Bool) (k : Nat) (xs : List (List D)) (u : Value) (o : Owner) (h1 : s.at p = .own ex k xs) (h2 : OwnerAt g d p o) (h3 : placeVal w g vals p = some u) (h4 : OwnRel w g o ex k xs u) :
   RdRel w g vals d s (.at p ex k xs) u
theorem rdPV_sound (hi : Inv base w0 w g d s vals) {p : Place} {r : Rd} {u : Value} (hu : placeVal w g vals p = some u) (h : rdPV p (s.at p) = some r) : RdRel w g vals d s r u := by
 cases hc : s.at p with
 | own ex k xs =>
  rw [hc] at h
  obtain rfl := sij h
  obtain ⟨o',u',h1,h2,h3⟩ := at_rel hi hc
  rw [hu] at h2
  obtain rfl := sij h2
  exact .at p ex k xs u o' hc h1 hu h3
 | dat x =>
  rw [hc] at h
  obtain ⟨u',h1,h2⟩ := at_dat hi hc
  rw [hu] at h1
  obtain rfl := sij h1
  cases x with
  | lit v => cases h
  | any => cases h
  | nil =>
   obtain rfl := sij h
   cases h2
   exact .imm 0 [] _ (.emp 0 _ 0)
  | sl k xs =>
   obtain rfl := sij h
   exact .imm k xs u h2
 | _ => rw [hc] at h; cases h
theorem rd_sound (hi : Inv base w0 w g d s vals) (hgl : GlobOk cfg g) (ha : a.tmps = vals) {x : Operand} {r : Rd} (h : rd cfg x s = some r) : RdRel w g vals d s r (a.eval x) := by
 unfold rd at h
 split at h
 ·rename_i ex k xs hv
  obtain ⟨t,rfl⟩ := val_is_tmp hv (.inr (.inl ⟨ex,k,xs,rfl⟩))
  obtain rfl := sij h
  simp only [St.val] at hv
  obtain ⟨h1,h2,h3⟩ := val_tmp hi ha hv (by intro e; cases e)
  exact .at (.tmp t) ex k xs _ _ hv rfl h2 h3
 ·rename_i hv
  obtain rfl := sij h
  have := val_plain hi hgl ha hv (by intro e; cases e) (by intro _ _ _ e; cases e) rfl rfl
  generalize a.eval x = u at this
  cases this
  exact .imm 0 [] _ (.emp 0 _ 0)
 ·rename_i k xs hv
  obtain rfl := sij h
  exact .imm k xs _ (val_plain hi hgl ha hv (by intro e; cases e) (by intro _ _ _ e; cases e) rfl rfl)
 ·rename_i p hv
  obtain ⟨t,rfl⟩ := val_is_tmp hv (.inl ⟨p,rfl⟩)
  simp only [St.val] at hv
  obtain ⟨h1,h2,h3⟩ := val_tmp hi ha hv (by intro e; cases e)
  exact rdPV_sound hi h3 h
 ·cases h
theorem RelD.slice {m : Addr -> Option Value} {k : Nat} {xs : List (List D)} {u : Value} (h : RelD m (.sl k xs) u) :
  ∃ ad c,u = .slice ad xs.length c /\ xs.length <= c /\ (xs ≠ [] -> (∀ x ∈ xs,x.length = k) /\ ∃ b o,∃ us : Nat -> Value,ad = some ⟨b,o,none⟩ /\ ∀ j x,xs.flatten[j]? = some x -> m ⟨b,o + j,none⟩ = some (us j) /\ RelD m x (us j)) := by
 cases h with
 | emp k ad c => exact ⟨ad,c,rfl,Nat.zero_le _,fun h => absurd rfl h⟩
 | sl k xs b o c us h1 h2 h3 h4 => exact ⟨_,c,rfl,h1,fun _ => ⟨h2,b,o,us,rfl,fun j x hx => ⟨h3 j x hx,h4 j x hx⟩⟩⟩
theorem flatten_row {k : Nat} : ∀ {xs : List (List D)} {i : Nat} {c : List D},(∀ x ∈ xs,x.length = k) -> xs[i]? = some c -> ∀ (j : Nat) x,c[j]? = some x -> xs.flatten[i * k + j]? = some x
 | [],i,c,_,h,_,_,_ => by simp at h
 | y :: ys,0,c,h2,h,j,x,hx => by
  simp only [List.getElem?_cons_zero,sjE] at h
  subst h
  rw [List.flatten_cons,Nat.zero_mul,Nat.zero_add,gal (gsi.1 hx).1]
  exact hx
 | y :: ys,i + 1,c,h2,h,j,x,hx => by
  simp only [List.getElem?_cons_succ] at h
  have hy : y.length = k := h2 y (mcs ..)
  rw [List.flatten_cons,gar (by rw [hy,Nat.add_mul]; omega)]
  have := flatten_row (fun z hz => h2 z (mcm _ hz)) h j x hx
  rw [show (i + 1) * k + j - y.length = i * k + j by rw [hy,Nat.add_mul]; omega]
  exact this
theorem rowPtr_sound {r : Rd} {u : Value} {size i : Nat} {y : PV} (hr : RdRel w g vals d s r u) (h : rowPtr r size i = some y) :
  ∃ b off n c,u = .slice (some ⟨b,off,none⟩) n c /\ i < n /\ RelP w g vals s y (.pointer (some ⟨b,off + i * size,none⟩)) := by
 cases hr with
 | imm k xs _ hd =>
  simp only [rowPtr] at h
  split at h
  ·rename_i hk
   subst hk
   obtain ⟨c,h1,h2⟩ := seqO_eq.1 h
   obtain rfl := sij h2
   obtain ⟨ad,cap,rfl,_,h3⟩ := hd.slice
   have hne : xs ≠ [] := by rintro rfl; simp at h1
   obtain ⟨h4,b,o',us,rfl,h5⟩ := h3 hne
   refine ⟨b,o',_,cap,rfl,(gsi.1 h1).1,b,o' + i * k,fun j => us (i * k + j),rfl,fun j x hx => ?_⟩
   rw [Nat.add_assoc]
   exact h5 _ x (flatten_row h4 h1 j x hx)
  ·cases h
 | «at» p ex k xs _ ow h1 h2 h3 h4 =>
  simp only [rowPtr] at h
  split at h
  ·rename_i hk
   obtain ⟨rfl,hlt⟩ := hk
   obtain rfl := sij h
   obtain ⟨b,off,c,cs,T,rfl,_⟩ := h4
   exact ⟨b,off,_,c,rfl,hlt,⟨b,off,_,c,h3,by simp⟩,by rw [h1]; rfl⟩
  ·cases h
theorem indexAddr_sound (hc : CfgOk P cfg) (hi : Inv base w0 w g d s vals) (hgl : GlobOk cfg g) (ha : a.tmps = vals) {t : TypeId} {x ix : Operand} (ho : o.op = .indexAddr t x ix) {s' : St}
  (h : (seqO (aIndexAddr cfg t x ix s) fun v => some (put s o.dst v)) = some s') : Goes P o a base w0 w g d s vals s' := by
 obtain ⟨y,h1,h2⟩ := seqO_eq.1 h
 obtain rfl := sij h2
 unfold aIndexAddr at h1
 obtain ⟨i,hti,h1⟩ := seqO_eq.1 h1
 obtain ⟨n,hn,h1⟩ := seqO_eq.1 h1
 obtain ⟨kn,en⟩ := val_int hi hgl ha hn
 have hkd := (hc.ti t i hti).kind
 split at h1
 ·cases h1
 ·rename_i hn0
  have hn0' : 0 <= n := by omega
  split at h1
  ·rename_i e hk
   rw [hk] at hkd
   obtain ⟨j,htj,h1⟩ := seqO_eq.1 h1
   obtain ⟨r,hr,h1⟩ := seqO_eq.1 h1
   obtain ⟨b,off,m,c,e1,e2,e3⟩ := rowPtr_sound (rd_sound hi hgl ha hr) h1
   refine goes_same ?_ hi e3
   have hsz := run_sizeOf' (hc.ti e j htj) w
   have hlt : 0 <= n /\ n < (m : Int) := ⟨hn0',by omega⟩
   simp only [execOp,ho,Instr.indexAt,e1,en,asIntOf,Sem.run_bind,run_underlying hkd,Result.andThen_ok,Sem.run_pure,if_pos hlt,hsz,add_mk]
  ·rename_i len e hk
   rw [hk] at hkd
   obtain ⟨j,htj,h1⟩ := seqO_eq.1 h1
   split at h1
   ·rename_i hlt
    obtain ⟨b,off,e1,e2⟩ := val_addr hi hgl ha h1
    refine goes_same ?_ hi e2
    have hsz := run_sizeOf' (hc.ti e j htj) w
    have hlt' : 0 <= n /\ n < (len : Int) := ⟨hn0',by omega⟩
    simp only [execOp,ho,Instr.indexAt,e1,en,asIntOf,Instr.sureAddr,Sem.run_bind,run_underlying hkd,Result.andThen_ok,Sem.run_pure,if_pos hlt',hsz,add_mk]
   ·cases h1
  ·cases h1
end
end Go.Vx
namespace Go.Vx
open Go Go.RowKit
section
variable {P : Program} {cfg : Cfg} {base : Nat} {w0 w : World} {g : Gh} {d : Nat} {s : St} {vals : Array Value} {o : Oper} {a : Act}
theorem run_isAgg' {t : TypeId} {i : TI} (h : TiOk P t i) (w : World) : (isAgg t).run P w = .ok i.kind.isAgg w := by
 have hk := h.kind
 cases hd : i.kind with
 | struct fs => rw [hd] at hk; obtain ⟨f,h1,_⟩ := hk; simp only [isAgg,Sem.run_bind,run_underlying h1,Result.andThen_ok]; rfl
 | array n e => rw [hd] at hk; simp only [KindOk] at hk; simp only [isAgg,Sem.run_bind,run_underlying hk,Result.andThen_ok]; rfl
 | other =>
  rw [hd] at hk
  obtain ⟨x,h1,h2⟩ := hk
  simp only [isAgg,Sem.run_bind,run_underlying h1,Result.andThen_ok,TK.isAgg]
  cases x <;> first | rfl | cases h2
 | int k => rw [hd] at hk; simp only [KindOk] at hk; simp only [isAgg,Sem.run_bind,run_underlying hk,Result.andThen_ok]; rfl
 | bool => rw [hd] at hk; simp only [KindOk] at hk; simp only [isAgg,Sem.run_bind,run_underlying hk,Result.andThen_ok]; rfl
 | str => rw [hd] at hk; simp only [KindOk] at hk; simp only [isAgg,Sem.run_bind,run_underlying hk,Result.andThen_ok]; rfl
 | slice e => rw [hd] at hk; simp only [KindOk] at hk; simp only [isAgg,Sem.run_bind,run_underlying hk,Result.andThen_ok]; rfl
theorem run_loadVar_agg {t : TypeId} {i : TI} (h : TiOk P t i) (hk : i.kind.isAgg = true) {ad : Addr} {vs : List Value} (hl : vs.length = i.size)
  (hv : ∀ j v,vs[j]? = some v -> w.cell? (ad.add j) = some v) : (loadVar t ad).run P w = .ok (.agg vs.toArray) w := by
 have h1 := run_isAgg' h w
 have h2 := run_sizeOf' h w
 rw [hk] at h1
 have h3 := run_loadCells_list (P := P) w ad vs hv
 rw [hl] at h3
 simp only [loadVar,Sem.run_bind,h1,Result.andThen_ok,if_true,h2,h3,Sem.run_pure]
theorem run_loadVar_one {t : TypeId} {i : TI} (h : TiOk P t i) (hk : i.kind.isAgg = false) {ad : Addr} {v : Value} (hv : w.cell? ad = some v) : (loadVar t ad).run P w = .ok v w := by
 have h1 := run_isAgg' h w
 rw [hk] at h1
 simp only [loadVar,Sem.run_bind,h1,Result.andThen_ok,Bool.false_eq_true,if_false,run_load,hv]
theorem load_exec {t : TypeId} {x : Operand} (ho : o.op = .load t x) {ad : Addr} {v : Value} {w' : World} (hx : a.eval x = .pointer (some ad)) (hr : (loadVar t ad).run P w = .ok v w') :
  (execOp a.eval o).run P w = .ok (.value v) w' := by
 simp only [execOp,ho,hx,Instr.loadAt,Instr.sureAddr,Sem.run_bind,Sem.run_pure,Result.andThen_ok,hr]
theorem cut_eq {α : Type} {cs c : List α} {off n : Nat} (h : cut cs off n = some c) : c.length = n /\ ∀ j,j < n -> c[j]? = cs[off + j]? := by
 unfold cut at h
 split at h
 ·rename_i hl
  obtain rfl := sij h
  refine ⟨by simp; omega,fun j hj => ?_⟩
  rw [List.getElem?_take_of_lt hj,List.getElem?_drop]
 ·cases h
theorem load_imm {t : TypeId} {i : TI} (h : TiOk P t i) {b o' : Nat} {us : Nat -> Value} {cs : List D}
  (hu : ∀ j x,cs[j]? = some x -> w.cell? ⟨b,o' + j,none⟩ = some (us j) /\ RelD g.m x (us j)) {off : Nat} {y : PV}
  (hy : (if i.kind.isAgg then seqO (cut cs off i.size) fun c => some (PV.agg (c.map .dat)) else seqO cs[off]? fun x => some (.dat x)) = some y) :
  ∃ v,(loadVar t ⟨b,o' + off,none⟩).run P w = .ok v w /\ RelA g y v := by
 split at hy
 ·rename_i hk
  obtain ⟨c,h1,h2⟩ := seqO_eq.1 hy
  obtain rfl := sij h2
  obtain ⟨l1,l2⟩ := cut_eq h1
  have hvs : ∀ j,j < i.size -> ∃ x,c[j]? = some x /\ cs[off + j]? = some x := fun j hj => by
   have hx : c[j]? = some c[j] := gge (by omega)
   exact ⟨_,hx,by rw [<- l2 j hj]; exact hx⟩
  refine ⟨.agg ((List.range i.size).map fun j => us (off + j)).toArray,run_loadVar_agg h hk (by simp) (fun j v hv => ?_),(List.range i.size).map fun j => us (off + j),rfl,by simp [l1],fun j x v hx hv => ?_⟩
  ·rw [List.getElem?_map] at hv
   cases hj : (List.range i.size)[j]? with
   | none => rw [hj] at hv; cases hv
   | some j' =>
    obtain ⟨hlt,he⟩ := gsi.1 hj
    simp at hlt he
    subst he
    rw [hj] at hv
    obtain rfl := sij hv
    obtain ⟨x,_,hx⟩ := hvs j hlt
    rw [add_mk,Nat.add_assoc]
    exact (hu _ x hx).1
  ·rw [List.getElem?_map] at hx hv
   cases hj : (List.range i.size)[j]? with
   | none => rw [hj] at hv; cases hv
   | some j' =>
    obtain ⟨hlt,he⟩ := gsi.1 hj
    simp at hlt he
    subst he
    rw [hj] at hv
    obtain rfl := sij hv
    obtain ⟨x',hx1,hx2⟩ := hvs j hlt
    rw [hx1] at hx
    obtain rfl := sij hx
    exact relC_dat (hu _ x' hx2).2
 ·rename_i hk
  obtain ⟨x,h1,h2⟩ := seqO_eq.1 hy
  obtain rfl := sij h2
  obtain ⟨c1,c2⟩ := hu off x h1
  exact ⟨us off,run_loadVar_one h (by simpa using hk) c1,relC_dat c2⟩
theorem load_box (hi : Inv base w0 w g d s vals) {l : Nat} {bx : Box} (hb : s.bx[l]? = some bx) : ∃ b cs T,g.blk[l]? = some b /\ w.heap[b]? = some (.cells cs T (0,0)) /\ cs.size = bx.length ∧
  ∀ (j : Nat) c u,bx[j]? = some c -> cs[j]? = some u -> RelB w g b j c u := by
 have hlt : l < g.blk.length := by rw [hi.blen]; exact (gsi.1 hb).1
 obtain ⟨q1,q2,cs,T,q3,q4,q5⟩ := hi.boxes l _ bx (gge hlt) hb
 exact ⟨_,cs,T,gge hlt,q3,q4,q5⟩
theorem relC_of_relB {b j : Nat} {c : PV} {u : Value} (h : RelB w g b j c u) (hc : c.isOwn = false) : RelC g c u := by
 cases c <;> first | exact h | exact Bool.noConfusion hc
theorem freeze_sound : ∀ (n l off : Nat) {s : St} {g : Gh},Inv base w0 w g d s vals -> ∃ g',Inv base w0 w g' d (freeze l off n s) vals /\ Stp d s (freeze l off n s) w w g g'
 | 0,l,off,s,g,hi => ⟨g,hi,Stp.refl d s w g⟩
 | n + 1,l,off,s,g,hi => by
  simp only [freeze]
  split
  ·rename_i k xs hp
   obtain ⟨g1,_,_,i1,st1,_,_⟩ := share_sound hi hp
   obtain ⟨g2,i2,st2⟩ := freeze_sound n l (off + 1) i1
   exact ⟨g2,i2,st1.trans st2⟩
  ·exact freeze_sound n l (off + 1) hi
theorem preF_sound (hi : Inv base w0 w g d s vals) (cx : Cx) (rid : Nat) : ∃ g',Inv base w0 w g' d (preF cx rid s) vals /\ Stp d s (preF cx rid s) w w g g' := by
 unfold preF
 split
 ·split
  ·exact freeze_sound _ _ _ hi
  ·exact ⟨g,hi,Stp.refl d s w g⟩
 ·exact ⟨g,hi,Stp.refl d s w g⟩
theorem relC_frz {b j : Nat} {c : PV} {u : Value} (h : RelB w g b j c u) (hf : c.frozen = true) : RelC g c.frz u := by
 cases c with
 | own ex k xs =>
  have he : ex = false := by simpa [PV.frozen] using hf
  subst he
  exact own_shared h
 | _ => exact h
theorem load_agg (hi : Inv base w0 w g d s vals) {t : TypeId} {i : TI} (ht : TiOk P t i) (hk : i.kind.isAgg = true) {l off b : Nat} {bx : Box} (hb : g.blk[l]? = some b) (hbx : s.bx[l]? = some bx) {c : List PV} (h1 : cut bx off i.size = some c) (hf : c.all PV.frozen = true) :
  ∃ v,(loadVar t ⟨b,off,none⟩).run P w = .ok v w /\ RelAgg g (c.map PV.frz) v := by
 obtain ⟨b',cs,T,q1,q2,q3,q4⟩ := load_box hi hbx
 rw [hb] at q1
 obtain rfl := sij q1
 obtain ⟨l1,l2⟩ := cut_eq h1
 have hsz : ∀ j,j < i.size -> ∃ x,c[j]? = some x /\ bx[off + j]? = some x /\ ∃ u,cs[off + j]? = some u := fun j hj => by
  have hx : c[j]? = some c[j] := gge (by omega)
  have hx2 : bx[off + j]? = some c[j] := by rw [<- l2 j hj]; exact hx
  exact ⟨_,hx,hx2,_,agg (by rw [q3]; exact (gsi.1 hx2).1)⟩
 have hrel : RelAgg g (c.map PV.frz) (.agg ((List.range i.size).map fun j => (cs[off + j]?).getD undef).toArray) := by
  refine ⟨_,rfl,by simp [l1],fun j x v hx hv => ?_⟩
  rw [List.getElem?_map] at hx
  cases hcx : c[j]? with
  | none => rw [hcx] at hx; cases hx
  | some y =>
   rw [hcx] at hx
   obtain rfl := sij hx
   have hj : j < i.size := by rw [<- l1]; exact (gsi.1 hcx).1
   obtain ⟨x',g1,g2,u,g3⟩ := hsz j hj
   rw [hcx] at g1
   obtain rfl := sij g1
   rw [List.getElem?_map,List.getElem?_range hj] at hv
   simp only [Option.map_some,g3,Option.getD_some,sjE] at hv
   subst hv
   exact relC_frz (q4 _ _ _ g2 g3) (List.all_eq_true.1 hf y (mog hcx))
 refine ⟨_,run_loadVar_agg ht hk (by simp) (fun j v hv => ?_),hrel⟩
 rw [List.getElem?_map] at hv
 cases hj : (List.range i.size)[j]? with
 | none => rw [hj] at hv; cases hv
 | some j' =>
  obtain ⟨hlt,he⟩ := gsi.1 hj
  simp at hlt he
  subst he
  obtain ⟨x,_,_,u,g3⟩ := hsz j hlt
  rw [hj] at hv
  simp only [Option.map_some,g3,Option.getD_some,sjE] at hv
  subst hv
  rw [add_mk,cell_of_heap q2]
  exact g3
theorem aLoad_sound (hc : CfgOk P cfg) (hi : Inv base w0 w g d s vals) (hgl : GlobOk cfg g) (ha : a.tmps = vals) {t : TypeId} {x : Operand} {pl : Pol} {y : PV} {s1 : St} (h : aLoad cfg t pl (s.val cfg x) s = some (y,s1)) :
  ∃ ad v g1,a.eval x = .pointer (some ad) /\ (loadVar t ad).run P w = .ok v w /\ Inv base w0 w g1 d s1 vals /\ Stp d s s1 w w g g1 /\ RelP w g1 vals s1 y v /\ (pl = .copy -> RelA g1 y v) := by
 unfold aLoad at h
 obtain ⟨i,hti,hh⟩ := seqO_eq.1 h
 clear h
 have ht := hc.ti t i hti
 split at hh
 ·rename_i cs off hv
  obtain ⟨b,o',us,e1,e2⟩ := val_plain hi hgl ha hv (by intro e; cases e) (by intro _ _ _ e; cases e) rfl rfl
  have key : (if i.kind.isAgg then seqO (cut cs off i.size) fun c => some (PV.agg (c.map .dat)) else seqO cs[off]? fun x => some (.dat x)) = some y /\ s1 = s := by
   split at hh
   ·rename_i hk
    obtain ⟨c,h1,h2⟩ := seqO_eq.1 hh
    simp only [sjE,Prod.mk.injEq] at h2
    rw [if_pos hk]
    exact ⟨seqO_eq.2 ⟨c,h1,by rw [h2.1]⟩,h2.2.symm⟩
   ·rename_i hk
    obtain ⟨c,h1,h2⟩ := seqO_eq.1 hh
    simp only [sjE,Prod.mk.injEq] at h2
    rw [if_neg hk]
    exact ⟨seqO_eq.2 ⟨c,h1,by rw [h2.1]⟩,h2.2.symm⟩
  obtain ⟨k1,rfl⟩ := key
  obtain ⟨v,r1,r2⟩ := load_imm ht (us := us) (fun j x hx => ⟨hi.mem _ _ (e2 j x hx).1,(e2 j x hx).2⟩) k1
  exact ⟨_,v,g,e1,r1,hi,Stp.refl d _ w g,relP_of_relA r2,fun _ => r2⟩
 ·rename_i p k r j hv
  obtain ⟨tt,rfl⟩ := val_is_tmp hv (.inl ⟨p,rfl⟩)
  simp only [St.val] at hv
  obtain ⟨h1,h2,b,o',n',c',h3,h4⟩ := val_tmp hi ha hv (by intro e; cases e)
  obtain ⟨q,hq,hh'⟩ := seqO_eq.1 hh
  clear hh
  have hh := hh'
  clear hh'
  have hr := rdPV_sound hi h3 hq
  split at hh
  ·rename_i p' ex k' xs
   split at hh
   ·rename_i hkk
    subst hkk
    obtain ⟨cs,hcs,hh⟩ := seqO_eq.1 hh
    cases hr with
    | «at» _ _ _ _ _ ow e1 e2 e3 e4 =>
     obtain ⟨b1,off1,c1,arr,T,f1,f2,f3,f4,f5,f6,f7,f8,f9,f10,f11⟩ := e4
     simp only [Value.slice.injEq,sjE,Addr.mk.injEq] at f1
     obtain ⟨⟨rfl,rfl,_⟩,rfl,rfl⟩ := f1
     have key : (if i.kind.isAgg then seqO (cut cs j i.size) fun c => some (PV.agg (c.map .dat)) else seqO cs[j]? fun x => some (.dat x)) = some y /\ s1 = s := by
      split at hh
      ·rename_i hk
       obtain ⟨c,h1,h2⟩ := seqO_eq.1 hh
       simp only [sjE,Prod.mk.injEq] at h2
       rw [if_pos hk]
       exact ⟨seqO_eq.2 ⟨c,h1,by rw [h2.1]⟩,h2.2.symm⟩
      ·rename_i hk
       obtain ⟨c,h1,h2⟩ := seqO_eq.1 hh
       simp only [sjE,Prod.mk.injEq] at h2
       rw [if_neg hk]
       exact ⟨seqO_eq.2 ⟨c,h1,by rw [h2.1]⟩,h2.2.symm⟩
     obtain ⟨k1,rfl⟩ := key
     obtain ⟨v,r1,r2⟩ := load_imm ht (o' := o' + r * ksz k') (us := fun q => (arr[o' + r * ksz k' + q]?).getD undef) (fun q x hx => by
      obtain ⟨u,g1,g2⟩ := f9 _ x (flatten_row f8 hcs q x hx)
      rw [cell_of_heap f3]
      rw [<- Nat.add_assoc] at g1
      rw [g1]
      exact ⟨rfl,g2⟩) k1
     rw [Nat.add_assoc] at r1
     exact ⟨_,v,g,h4,r1,hi,Stp.refl d _ w g,relP_of_relA r2,fun _ => r2⟩
   ·cases hh
  ·cases hh
 ·rename_i l off hv
  obtain ⟨b',e1,e2⟩ := val_plain hi hgl ha hv (by intro e; cases e) (by intro _ _ _ e; cases e) rfl rfl
  obtain ⟨bx,hbx,hh⟩ := seqO_eq.1 hh
  obtain ⟨b,cs,T,q1,q2,q3,q4⟩ := load_box hi hbx
  rw [q1] at e1
  obtain rfl := sij e1
  split at hh
  ·rename_i hk
   obtain ⟨c,h1,h2⟩ := seqO_eq.1 hh
   obtain ⟨l1,l2⟩ := cut_eq h1
   split at h2
   ·obtain ⟨b2,h3,h4⟩ := seqO_eq.1 h2
    obtain ⟨c2,h5,h6⟩ := seqO_eq.1 h4
    split at h6
    ·rename_i hfz
     simp only [sjE,Prod.mk.injEq] at h6
     obtain ⟨rfl,rfl⟩ := h6
     obtain ⟨g2,i2,st2⟩ := freeze_sound i.size l off hi
     obtain ⟨v,r1,r2⟩ := load_agg i2 ht hk (st2.gr.blk l b q1) h3 h5 hfz
     exact ⟨_,v,g2,e2,r1,i2,st2,relP_of_relA (c := .agg (c2.map PV.frz)) r2,fun _ => r2⟩
    ·cases h6
   ·rename_i hno
    simp only [sjE,Prod.mk.injEq] at h2
    obtain ⟨rfl,rfl⟩ := h2
    have hsz : ∀ j,j < i.size -> ∃ x,c[j]? = some x /\ bx[off + j]? = some x /\ ∃ u,cs[off + j]? = some u := fun j hj => by
     have hx : c[j]? = some c[j] := gge (by omega)
     have hx2 : bx[off + j]? = some c[j] := by rw [<- l2 j hj]; exact hx
     exact ⟨_,hx,hx2,_,agg (by rw [q3]; exact (gsi.1 hx2).1)⟩
    have hrel : RelAgg g c (.agg ((List.range i.size).map fun j => (cs[off + j]?).getD undef).toArray) := by
     refine ⟨_,rfl,by simp [l1],fun j x v hx hv => ?_⟩
     have hj : j < i.size := by rw [<- l1]; exact (gsi.1 hx).1
     obtain ⟨x',g1,g2,u,g3⟩ := hsz j hj
     rw [hx] at g1
     obtain rfl := sij g1
     rw [List.getElem?_map,List.getElem?_range hj] at hv
     simp only [Option.map_some,g3,Option.getD_some,sjE] at hv
     subst hv
     refine relC_of_relB (q4 _ _ _ g2 g3) ?_
     cases ho : x.isOwn with
     | false => rfl
     | true => exact absurd (List.any_eq_true.2 ⟨x,mog hx,ho⟩) (by simpa using hno)
    refine ⟨_,_,g,e2,run_loadVar_agg ht hk (by simp) (fun j v hv => ?_),hi,Stp.refl d _ w g,relP_of_relA (c := .agg c) hrel,fun _ => hrel⟩
    rw [List.getElem?_map] at hv
    cases hj : (List.range i.size)[j]? with
    | none => rw [hj] at hv; cases hv
    | some j' =>
     obtain ⟨hlt,he⟩ := gsi.1 hj
     simp at hlt he
     subst he
     obtain ⟨x,_,_,u,g3⟩ := hsz j hlt
     rw [hj] at hv
     simp only [Option.map_some,g3,Option.getD_some,sjE] at hv
     subst hv
     rw [add_mk,cell_of_heap q2]
     exact g3
  ·rename_i hk
   have hk' : i.kind.isAgg = false := by simpa using hk
   obtain ⟨c,h1,h2⟩ := seqO_eq.1 hh
   have hlt : off < cs.size := by rw [q3]; exact (gsi.1 h1).1
   have hcu : cs[off]? = some cs[off] := agg hlt
   have hcell : w.cell? ⟨b,off,none⟩ = some cs[off] := by rw [cell_of_heap q2]; exact hcu
   have hrun := run_loadVar_one ht hk' hcell
   have hB := q4 off c _ h1 hcu
   have hat : s.at (.cell l off) = c := by simp only [St.at,hbx,Option.getD_some,List.getD,h1]
   split at h2
   ·rename_i ex k xs
    rw [<- hat] at h2
    obtain ⟨g1,u,k1,k2,k3,k4,k5⟩ := takeAt_sound hi h2
    simp only [placeVal,q1,Option.bind_some,hcell,sjE] at k1
    subst k1
    exact ⟨_,_,g1,e2,hrun,k2,k3,k4,k5⟩
   ·cases h2
   ·rename_i hn1 hn2
    simp only [sjE,Prod.mk.injEq] at h2
    obtain ⟨rfl,rfl⟩ := h2
    have hA : RelA g c cs[off] := by
     cases c <;> first | exact hB | exact absurd rfl (hn1 _ _ _) | exact absurd rfl hn2 | exact hB.elim
    exact ⟨_,_,g,e2,hrun,hi,Stp.refl d _ w g,relP_of_relA hA,fun _ => hA⟩
 ·cases hh
theorem load_sound (hc : CfgOk P cfg) (hi : Inv base w0 w g d s vals) (hgl : GlobOk cfg g) (ha : a.tmps = vals) {t : TypeId} {x : Operand} {pl : Pol} (ho : o.op = .load t x) {s' : St}
  (h : (seqO (aLoad cfg t pl (s.val cfg x) s) fun p => some (put p.2 o.dst p.1)) = some s') : Goes P o a base w0 w g d s vals s' := by
 obtain ⟨⟨y,s1⟩,h1,h2⟩ := seqO_eq.1 h
 obtain rfl := sij h2
 obtain ⟨ad,v,g1,e1,e2,e3,e4,e5,_⟩ := aLoad_sound hc hi hgl ha h1
 exact goes_of_pend (.inl (load_exec ho e1 e2)) e3 e4 e5
theorem nilCheck_sound (hi : Inv base w0 w g d s vals) (hgl : GlobOk cfg g) (ha : a.tmps = vals) {x : Operand} (ho : o.op = .nilCheck x) {s' : St}
  (h : (match s.val cfg x with
   | .ptr l off => some (put s o.dst (.ptr l off))
   | .iptr cs off => some (put s o.dst (.iptr cs off))
   | .clo f c => some (put s o.dst (.clo f c))
   | _ => none) = some s') : Goes P o a base w0 w g d s vals s' := by
 split at h
 ·rename_i l off hv
  obtain rfl := sij h
  have hr := val_plain hi hgl ha hv (by intro e; cases e) (by intro _ _ _ e; cases e) rfl rfl
  obtain ⟨b,h1,h2⟩ := hr
  exact goes_same (v := .pointer (some ⟨b,off,none⟩)) (by simp [execOp,ho,h2]) hi ⟨b,h1,rfl⟩
 ·rename_i cs off hv
  obtain rfl := sij h
  have hr := val_plain hi hgl ha hv (by intro e; cases e) (by intro _ _ _ e; cases e) rfl rfl
  obtain ⟨b,o',us,h1,h2⟩ := hr
  exact goes_same (v := .pointer (some ⟨b,o' + off,none⟩)) (by simp [execOp,ho,h1]) hi ⟨b,o',us,rfl,h2⟩
 ·rename_i f cap hv
  obtain rfl := sij h
  have hr := val_plain hi hgl ha hv (by intro e; cases e) (by intro _ _ _ e; cases e) rfl rfl
  obtain ⟨us,h1,h2⟩ := hr
  exact goes_same (v := .func (.func f) #[] us) (by simp [execOp,ho,h1]) hi ⟨us,rfl,h2⟩
 ·cases h
end
end Go.Vx
namespace Go.Vx
open Go Go.RowKit
section
variable {P : Program} {base : Nat} {w0 w : World} {g : Gh} {d : Nat} {s : St} {vals : Array Value} {o : Oper} {a : Act}
theorem setCells_len {α : Type} {b cs : List α} {off : Nat} (h : off + cs.length <= b.length) : (setCells b off cs).length = b.length := by
 simp [setCells]; omega
theorem setCells_get {α : Type} {b cs : List α} {off : Nat} (h : off + cs.length <= b.length) (j : Nat) :
  (setCells b off cs)[j]? = if off <= j /\ j < off + cs.length then cs[j - off]? else b[j]? := by
 simp only [setCells,List.append_assoc]
 have hl : (b.take off).length = off := by simp; omega
 by_cases h1 : j < off
 ·rw [gal (by omega),List.getElem?_take_of_lt h1,if_neg (by omega)]
 ·rw [gar (by omega),hl]
  by_cases h2 : j < off + cs.length
  ·rw [gal (by omega),if_pos ⟨by omega,h2⟩]
  ·rw [gar (by omega),List.getElem?_drop,if_neg (by omega)]
   congr 1; omega
theorem run_storeVar' {t : TypeId} {i : TI} (h : TiOk P t i) {b off : Nat} {cur : Array Value} {T : TypeId} {u : Value} (hb : w.heap[b]? = some (.cells cur T (0,0))) (hs : u.cells.size = i.size)
  (hl : off + u.cells.size <= cur.size) (h1 : ∀ v ∈ u.cells.toList,v.oneCell' = true) :
  (storeVar t ⟨b,off,none⟩ u).run P w = .ok () (w.setRow b (setCells cur.toList off u.cells.toList).toArray) := by
 have h2 := run_sizeOf' h w
 have h3 := run_storeCells_at P b off T u.cells.toList 0 cur w hb (by simpa using hl) h1
 simp only [Nat.add_zero] at h3
 simp only [storeVar,Sem.run_bind,h2,Result.andThen_ok,hs,ne_eq,not_true_eq_false,if_false]
 exact h3
theorem setRow_cell {b b' j : Nat} {cur new : Array Value} {T : TypeId} {fr : Nat × Nat} (hb : w.heap[b]? = some (.cells cur T fr)) :
  (w.setRow b new).cell? ⟨b',j,none⟩ = if b' = b then new[j]? else w.cell? ⟨b',j,none⟩ := by
 by_cases e : b' = b
 ·subst e
  rw [if_pos rfl,cell_of_heap (setRow_heap w b' cur new T fr hb)]
 ·rw [if_neg e]
  exact World.cell?_of_block (w := w) (a := ⟨b',j,none⟩) (setRow_other w b b' _ e)
theorem below_setRow (hi : Inv base w0 w g d s vals) {b : Nat} {new : Array Value} (hb : base <= b) : Below base w0 (w.setRow b new) :=
 hi.low.trans ⟨rfl,rfl,rfl,by simp [World.setRow],fun k hk => setRow_other w b k _ (by omega)⟩
theorem cells_relP {c : PV} {u : Value} {cs : List PV} (hr : RelP w g vals s c u) (hc : c.cells = some cs) (hall : cs.all isCell = true) :
  u.cells.size = cs.length /\ (∀ (j : Nat) x v,cs[j]? = some x -> u.cells[j]? = some v -> v.oneCell' = true /\ ((x.isOwn = false /\ RelC g x v) ∨ (∃ ex k xs,x = .own ex k xs /\ cs = [x] /\ OwnRel w g (.res 0) ex k xs v))) := by
 have hplain : RelA g c u -> (∀ ex k xs,c ≠ .own ex k xs) -> u.cells.size = cs.length /\ (∀ (j : Nat) x v,cs[j]? = some x -> u.cells[j]? = some v -> v.oneCell' = true /\ ((x.isOwn = false /\ RelC g x v) ∨ (∃ ex k xs,x = .own ex k xs /\ cs = [x] /\ OwnRel w g (.res 0) ex k xs v))) := by
  intro hA _
  obtain ⟨h1,h2⟩ := cells_rel hA hc hall
  refine ⟨h1,fun j x v hx hv => ?_⟩
  have hR := h2 j x v hx hv
  have hcell := List.all_eq_true.1 hall x (mog hx)
  cases x with
  | dat y =>
   refine ⟨?_,.inl ⟨rfl,hR⟩⟩
   cases y with
   | lit q => have : v = q := hR; subst this; exact hcell
   | nil => exact RelD.oneCell hR
   | sl k xs => exact RelD.oneCell hR
   | any => exact RelD.oneCell hR
  | ptr l off => obtain ⟨b,h3,h4⟩ := hR; subst h4; exact ⟨rfl,.inl ⟨rfl,b,h3,rfl⟩⟩
  | iptr q off => obtain ⟨b,o',us,h3,h4⟩ := hR; subst h3; exact ⟨rfl,.inl ⟨rfl,b,o',us,rfl,h4⟩⟩
  | clo f cap => obtain ⟨us,h3,h4⟩ := hR; subst h3; exact ⟨rfl,.inl ⟨rfl,us,rfl,h4⟩⟩
  | own ex k xs => exact hR.elim
  | _ => cases hcell
 cases c with
 | own ex k xs =>
  obtain rfl := sij hc
  have hO : OwnRel w g (.res 0) ex k xs u := hr
  have hu : ∃ b off n c,u = .slice (some ⟨b,off,none⟩) n c := by obtain ⟨b,off,c,_,_,h1,_⟩ := hO; exact ⟨b,off,_,c,h1⟩
  obtain ⟨b,off,n,c,rfl⟩ := hu
  refine ⟨rfl,fun j x v hx hv => ?_⟩
  cases j with
  | succ j => simp at hx
  | zero =>
   simp only [List.getElem?_cons_zero,sjE] at hx
   simp [Value.cells] at hv
   subst hx; subst hv
   exact ⟨rfl,.inr ⟨ex,k,xs,rfl,rfl,hO⟩⟩
 | agg cs' => exact hplain hr (by intro _ _ _ e; cases e)
 | dat x => exact hplain hr (by intro _ _ _ e; cases e)
 | ptr l off => exact hplain hr (by intro _ _ _ e; cases e)
 | iptr q off => exact hplain hr (by intro _ _ _ e; cases e)
 | clo f cap => exact hplain hr (by intro _ _ _ e; cases e)
 | _ => cases hc
theorem isDat_ptrLt {n : Nat} {c : PV} (h : c.isDat = true) : ptrLt n c := by
 cases c <;> first | exact trivial | cases h
theorem cells_isDat {v : PV} {cs : List PV} (hc : v.cells = some cs) (hn : v.noPtr = true) : ∀ c ∈ cs,c.isDat = true := by
 intro c hm
 cases v with
 | agg x => obtain rfl := sij hc; exact List.all_eq_true.1 hn c hm
 | dat y =>
  cases y with
  | lit q =>
   simp only [PV.cells] at hc
   split at hc
   ·obtain rfl := sij hc; simp only [List.mem_singleton] at hm; subst hm; rfl
   ·cases hc
  | nil => obtain rfl := sij hc; simp only [List.mem_singleton] at hm; subst hm; rfl
  | sl k xs => obtain rfl := sij hc; simp only [List.mem_singleton] at hm; subst hm; rfl
  | any => obtain rfl := sij hc; simp only [List.mem_singleton] at hm; subst hm; rfl
 | own ex k xs => obtain rfl := sij hc; simp only [List.mem_singleton] at hm; subst hm; rfl
 | iptr q off => obtain rfl := sij hc; simp only [List.mem_singleton] at hm; subst hm; rfl
 | ptr l off => cases hn
 | clo f cap => cases hn
 | _ => cases hc
theorem strip_true {q : Place -> Bool} {c : PV} {p : Place} (h : aliasOf c = some p) (hq : q p = true) : PV.strip q c = .dead := by
 cases c with
 | «alias» p' => simp only [aliasOf,sjE] at h; subst h; simp [PV.strip,hq]
 | eptr p' k r j => simp only [aliasOf,sjE] at h; subst h; simp [PV.strip,hq]
 | _ => cases h
theorem strip_false {q : Place -> Bool} {c : PV} {p : Place} (h : aliasOf c = some p) (hq : q p = false) : PV.strip q c = c := by
 cases c with
 | «alias» p' => simp only [aliasOf,sjE] at h; subst h; simp [PV.strip,hq]
 | eptr p' k r j => simp only [aliasOf,sjE] at h; subst h; simp [PV.strip,hq]
 | _ => cases h
theorem stored_bx (s : St) (l off : Nat) (b : Box) (cs : List PV) (np : Bool) : (stored s l off b cs np).bx = s.bx.set l (setCells b off cs) := by
 unfold stored; simp only; repeat' split
 all_goals simp [touch_bx]
theorem stored_nb (s : St) (l off : Nat) (b : Box) (cs : List PV) (np : Bool) : (stored s l off b cs np).nb = s.nb := by
 unfold stored; simp only; repeat' split
 all_goals simp [touch_nb]
theorem stored_lo (s : St) (l off : Nat) (b : Box) (cs : List PV) (np : Bool) : (stored s l off b cs np).lo = (touch { s with bx := s.bx.set l (setCells b off cs) } l).lo := by
 unfold stored; simp only; repeat' split
 all_goals rfl
theorem stored_ts (s : St) (l off : Nat) (b : Box) (cs : List PV) (np : Bool) :
  (stored s l off b cs np).ts = if ((b.drop off).take cs.length).any PV.maySrc then s.ts.map (PV.strip (isCellIn off cs.length)) else s.ts := by
 unfold stored; simp only; repeat' split
 all_goals simp_all [touch_ts]
theorem stored_kp (s : St) (l off : Nat) (b : Box) (cs : List PV) (np : Bool) (h : (stored s l off b cs np).kp = false) : s.kp = false /\ (np = true ∨ ¬ l < s.nb) := by
 unfold stored at h
 simp only at h
 repeat' split at h
 all_goals simp_all [touch_kp]
def storeLab (b off r0 : Nat) : Owner -> Option Owner
 | .res j => if r0 <= j then some (.cell b (off + (j - r0))) else some (.res j)
 | o => some o
theorem storeLab_ne {b off r0 : Nat} {o : Owner} (h : ∀ j,o ≠ .res j) : storeLab b off r0 o = some o := by
 cases o with
 | res j => exact absurd rfl (h j)
 | _ => rfl
theorem store_inv (hi : Inv base w0 w g d s vals) {l off b : Nat} {bx : Box} {cs : List PV} {us : List Value} {cur : Array Value} {T : TypeId} {np : Bool}
  (hbx : s.bx[l]? = some bx) (hb : g.blk[l]? = some b) (hheap : w.heap[b]? = some (.cells cur T (0,0))) (hcur : cur.size = bx.length) (hul : us.length = cs.length) (hl : off + cs.length <= bx.length)
  (hnp : np = true -> ∀ c ∈ cs,c.isDat = true)
  (r0 : Nat) (hr : ∀ (j : Nat) x v,cs[j]? = some x -> us[j]? = some v -> (x.isOwn = false /\ RelC g x v) ∨ (∃ ex k xs,x = .own ex k xs /\ OwnRel w g (.res (r0 + j)) ex k xs v)) :
  ∃ g',Inv base w0 (w.setRow b (setCells cur.toList off us).toArray) g' d (stored s l off bx cs np) vals ∧
   Stp d s (stored s l off bx cs np) w (w.setRow b (setCells cur.toList off us).toArray) g g' := by
 obtain ⟨q1,q2,cur',T',q3,q4,q5⟩ := hi.boxes l b bx hb hbx
 rw [hheap] at q3
 obtain ⟨rfl,rfl,_⟩ : cur = cur' /\ T = T' /\ True := by cases q3; exact ⟨rfl,rfl,trivial⟩
 have hbase : base <= b := hi.own_ge b _ q1
 have hlen : (setCells cur.toList off us).length = cur.toList.length := setCells_len (by simp; omega)
 have hl0 : l < s.bx.length := (gsi.1 hbx).1
 have huniq : ∀ l',g.blk[l']? = some b -> l' = l := by
  intro l' h
  obtain ⟨p1,p2⟩ := gsi.1 h
  obtain ⟨r1,r2⟩ := gsi.1 hb
  exact (List.getElem_inj hi.nodup).1 (p2.trans r2.symm)
 let f := storeLab b off r0
 let g' := g.relab f
 let w' := w.setRow b (setCells cur.toList off us).toArray
 have hg : Grows g g' := grows_relab g f
 have hk : ∀ b' o',g.own b' = some o' -> (∀ j,o' ≠ .res j) -> b' ≠ b -> Kept w w' g g' b' := by
  intro b' o' h1 h2 h3
  exact ⟨setRow_other w b b' _ h3,by simp [g',Gh.relab,h1,f,storeLab_ne h2],fun _ => rfl⟩
 have hne : ∀ b' o',g.own b' = some o' -> o' ≠ .box -> b' ≠ b := by
  intro b' o' h1 h2 e
  subst e
  rw [q1] at h1
  cases h1
  exact h2 rfl
 have hpv : ∀ p v,placeVal w g vals p = some v -> (∀ j,p = .cell l j -> ¬ (off <= j /\ j < off + cs.length)) -> placeVal w' g' vals p = some v := by
  intro p v h hp
  cases p with
  | tmp => exact h
  | cell l' j =>
   simp only [placeVal] at h ⊢
   change (g.blk[l']?).bind _ = some v
   cases hb' : g.blk[l']? with
   | none => rw [hb'] at h; cases h
   | some b' =>
    rw [hb'] at h
    simp only [Option.bind_some] at h ⊢
    rw [setRow_cell hheap]
    by_cases e : b' = b
    ·subst e
     rw [if_pos rfl]
     have := huniq l' hb'
     subst this
     have := hp j rfl
     rw [cell_of_heap hheap] at h
     rw [List.getElem?_toArray,setCells_get (by simp; omega),if_neg (by rw [hul]; exact this),Array.getElem?_toList]
     exact h
    ·rw [if_neg e]; exact h
 have hown' : ∀ b' o',g'.own b' = some o' -> ∃ o'',g.own b' = some o'' /\ f o'' = some o' := fun b' o' h => relab_own h
 refine ⟨g',⟨below_setRow hi hbase,hi.hb,?_,?_,?_,?_,?_,hi.nodup,?_,?_,?_,?_,?_⟩,⟨hg,stored_nb ..,?_,?_,?_,?_,?_,?_⟩⟩
 ·intro ad v h
  have hm : w.cell? ad = some v := hi.mem ad v h
  have hne' : ad.block ≠ b := by
   intro e
   cases ad with
   | mk ab ao asp =>
    simp only at e
    subst e
    have hsp : asp = none := by
     cases asp with
     | none => rfl
     | some q => simp [World.cell?,hheap] at hm
    subst hsp
    have : g.m ⟨ab,ao,none⟩ = some v := h
    rw [q2] at this; cases this
  rw [<- hm]
  exact World.cell?_of_block (w := w) (setRow_other w b ad.block _ hne')
 ·intro b' o' h; obtain ⟨o'',h1,_⟩ := hown' b' o' h; exact hi.own_ge b' o'' h1
 ·intro b' o' h; obtain ⟨o'',h1,_⟩ := hown' b' o' h; simpa [World.setRow] using hi.own_lt b' o'' h1
 ·intro b' d' i j h
  obtain ⟨o'',h1,h2⟩ := hown' b' _ h
  cases o'' with
  | res j0 =>
   simp only [f,storeLab] at h2
   split at h2 <;> cases h2
  | tmp d1 i1 j1 => cases h2; exact hi.own_d b' _ _ _ h1
  | box => cases h2
  | cell => cases h2
 ·rw [stored_bx,lls]; exact hi.blen
 ·rw [stored_nb,stored_bx,lls]; exact hi.nbl
 ·intro l' b' bx' h1 h2
  rw [stored_bx,List.getElem?_set] at h2
  by_cases e : l = l'
  ·subst e
   rw [if_pos rfl,if_pos hl0] at h2
   obtain rfl := sij h2
   have : g.blk[l]? = some b' := h1
   rw [hb] at this
   obtain rfl := sij this
   refine ⟨by simp [g',Gh.relab,q1,f,storeLab],q2,(setCells cur.toList off us).toArray,T,setRow_heap w b cur _ T _ hheap,by simp [hlen,setCells_len hl]; exact hcur,fun j x v hx hv => ?_⟩
   rw [List.getElem?_toArray,setCells_get (by simp; omega)] at hv
   rw [setCells_get hl] at hx
   by_cases hin : off <= j /\ j < off + cs.length
   ·rw [if_pos hin] at hx
    rw [if_pos (by rw [hul]; exact hin)] at hv
    rcases hr _ x v hx hv with ⟨h3,h4⟩ | ⟨ex,k,xs,h3,h5⟩
    ·have := h4.grows hg
     cases x <;> first | exact this | exact Bool.noConfusion h3 | exact this.elim
    ·subst h3
     obtain ⟨b1,off1,c1,arr,T1,f1,f2,f3,f4⟩ := h5
     have hb1 : b1 ≠ b := hne b1 _ f2 (by intro e; cases e)
     exact ⟨b1,off1,c1,arr,T1,f1,by simp [g',Gh.relab,f2,f,storeLab]; omega,by rw [setRow_other w b b1 _ hb1]; exact f3,f4⟩
   ·rw [if_neg hin] at hx
    rw [if_neg (by rw [hul]; exact hin),Array.getElem?_toList] at hv
    exact (q5 j x v hx hv).kept hg (fun b'' hb'' => hk b'' _ hb'' (fun _ e => by cases e) (hne b'' _ hb'' (by intro e; cases e))) fun T0 ht0 => by
     obtain ⟨cs0,fr0,ht0⟩ := ht0
     rw [hheap] at ht0
     obtain ⟨rfl,rfl,rfl⟩ := by simpa using ht0
     exact ⟨_,_,setRow_heap w b cur _ _ _ hheap⟩
  ·rw [if_neg e] at h2
   have h1' : g.blk[l']? = some b' := h1
   have h := hi.boxes l' b' bx' h1' h2
   have hbne : b' ≠ b := fun e' => e (huniq l' (by rw [<- e']; exact h1')).symm
   exact h.kept hg (hk b' _ h.1 (fun _ e => by cases e) hbne) fun off' b'' hb'' => hk b'' _ hb'' (fun _ e => by cases e) (hne b'' _ hb'' (by intro e; cases e))
 ·rw [stored_ts]; split <;> simp [hi.tl]
 ·intro i x v hx hv
  have key : ∀ x0,s.ts[i]? = some x0 -> (∀ p,aliasOf x0 = some p -> ∀ j,p = .cell l j -> ¬ (off <= j /\ j < off + cs.length)) -> RelT w' g' vals d i x0 v := fun x0 h0 hp =>
   (hi.tmps i x0 v h0 hv).kept hg (fun j b' hb' => hk b' _ hb' (fun _ e => by cases e) (hne b' _ hb' (by intro e; cases e))) fun p v' h1 h2 => hpv p v' h2 (hp p h1)
  rw [stored_ts] at hx
  split at hx
  ·rw [List.getElem?_map] at hx
   cases h0 : s.ts[i]? with
   | none => rw [h0] at hx; cases hx
   | some x0 =>
    rw [h0] at hx
    obtain rfl := sij hx
    cases ha : aliasOf x0 with
    | none =>
     rw [PV.strip_of ha]
     exact key x0 h0 fun p hp => by rw [ha] at hp; cases hp
    | some p =>
     by_cases hq : isCellIn off cs.length p = true
     ·rw [strip_true ha hq]; exact trivial
     ·rw [strip_false ha (by simpa using hq)]
      refine key x0 h0 fun p' hp' j hj => ?_
      rw [ha] at hp'
      obtain rfl := sij hp'
      subst hj
      simpa [isCellIn] using hq
  ·rename_i hno
   refine key x hx fun p hp j hj hin => ?_
   subst hj
   have hm := hi.al i x _ hx hp
   simp only [St.at,hbx,Option.getD_some,List.getD] at hm
   refine hno ?_
   have hj : j < bx.length := by omega
   refine List.any_eq_true.2 ⟨bx[j],?_,?_⟩
   ·refine mog (i := j - off) ?_
    rw [List.getElem?_take_of_lt (by omega),List.getElem?_drop,show off + (j - off) = j by omega]
    exact gge hj
   ·rw [gge hj] at hm
    exact hm
 ·intro i x p hx hp
  have key : ∀ x0,s.ts[i]? = some x0 -> aliasOf x0 = some p -> (∀ j,p = .cell l j -> ¬ (off <= j /\ j < off + cs.length)) -> ((stored s l off bx cs np).at p).maySrc = true := by
   intro x0 h0 h1 h2
   have hm := hi.al i x0 p h0 h1
   have hlt : i < vals.size := by rw [hi.tl]; exact (gsi.1 h0).1
   have hT := hi.tmps i x0 _ h0 (agg hlt)
   cases p with
   | cell l' j =>
    simp only [St.at,stored_bx,List.getElem?_set] at hm ⊢
    by_cases e : l = l'
    ·subst e
     rw [if_pos rfl,if_pos hl0]
     simp only [Option.getD_some,List.getD,setCells_get hl]
     rw [if_neg (h2 j rfl)]
     simpa [hbx,List.getD] using hm
    ·rw [if_neg e]; exact hm
   | tmp t =>
    simp only [St.at,List.getD] at hm ⊢
    rw [stored_ts]
    split
    ·rw [List.getElem?_map]
     cases h3 : s.ts[t]? with
     | none => rfl
     | some y =>
      rw [h3] at hm
      simp only [Option.map_some,Option.getD_some] at hm ⊢
      rw [maySrc_strip_of hm]; exact hm
    ·exact hm
  rw [stored_ts] at hx
  split at hx
  ·rw [List.getElem?_map] at hx
   cases h0 : s.ts[i]? with
   | none => rw [h0] at hx; cases hx
   | some x0 =>
    rw [h0] at hx
    obtain rfl := sij hx
    obtain ⟨h1,h2⟩ := alias_strip hp
    exact key x0 h0 h1 fun j hj => by subst hj; simpa [isCellIn] using h2
  ·rename_i hno
   refine key x hx hp fun j hj hin => ?_
   subst hj
   have hm := hi.al i x _ hx hp
   simp only [St.at,hbx,Option.getD_some,List.getD] at hm
   refine hno ?_
   have hj : j < bx.length := by omega
   refine List.any_eq_true.2 ⟨bx[j],?_,?_⟩
   ·refine mog (i := j - off) ?_
    rw [List.getElem?_take_of_lt (by omega),List.getElem?_drop,show off + (j - off) = j by omega]
    exact gge hj
   ·rw [gge hj] at hm
    exact hm
 ·rw [stored_bx,lls]; exact Nat.le_refl _
 ·intro b' d' i j h1 _
  exact hk b' _ h1 (fun _ e => by cases e) (hne b' _ h1 (by intro e; cases e))
 ·rw [stored_lo]; exact touch_lo { s with bx := s.bx.set l (setCells bx off cs) } l
 ·intro l' hl' hbel
  rw [stored_lo] at hbel
  have hne' : l' ≠ l := by
   intro e
   subst e
   have := touch_ne { s with bx := s.bx.set l' (setCells bx off cs) } l' hl' l' hbel
   omega
  refine ⟨by rw [stored_bx,List.getElem?_set,if_neg (Ne.symm hne')],fun b' hgb => ⟨?_,fun off' b'' hb'' => ?_⟩⟩
  ·have hlt : l' < s.bx.length := by rw [<- hi.blen]; exact (gsi.1 hgb).1
   have h := hi.boxes l' b' _ hgb (gge hlt)
   exact hk b' _ h.1 (fun _ e => by cases e) fun e => hne' (huniq l' (by rw [<- e]; exact hgb))
  ·exact hk b'' _ hb'' (fun _ e => by cases e) (hne b'' _ hb'' (by intro e; cases e))
 ·intro h
  unfold stored
  simp only
  repeat' split
  all_goals simp [touch_kp,h]
 ·intro hkp n l' bx0 bx' hl' h1 h2 hb' c hc'
  obtain ⟨k1,k2⟩ := stored_kp s l off bx cs np hkp
  rw [stored_bx,List.getElem?_set] at hb'
  by_cases e : l = l'
  ·subst e
   rw [if_pos rfl,if_pos hl0] at hb'
   obtain rfl := sij hb'
   rw [hbx] at h1
   obtain rfl := sij h1
   simp only [setCells,List.mem_append] at hc'
   rcases hc' with (h | h) | h
   ·exact h2 c (List.mem_of_mem_take h)
   ·rcases k2 with k2 | k2
    ·exact isDat_ptrLt (hnp k2 c h)
    ·exact absurd hl' k2
   ·exact h2 c (List.mem_of_mem_drop h)
  ·rw [if_neg e,h1] at hb'
   obtain rfl := sij hb'
   exact h2 c hc'
end
end Go.Vx
namespace Go.Vx
open Go Go.RowKit
section
variable {P : Program} {cfg : Cfg} {base : Nat} {w0 w : World} {g : Gh} {d : Nat} {s : St} {vals : Array Value} {o : Oper} {a : Act}
theorem flatten_set {k : Nat} : ∀ {xs : List (List D)} {r : Nat} {row row' : List D},(∀ x ∈ xs,x.length = k) -> xs[r]? = some row -> row'.length = k →
  ∀ i,(xs.set r row').flatten[i]? = if r * k <= i /\ i < r * k + k then row'[i - r * k]? else xs.flatten[i]?
 | [],r,row,row',_,h,_,i => by simp at h
 | y :: ys,0,row,row',h2,h,hl,i => by
  have hy : y.length = k := h2 y (mcs ..)
  simp only [List.set_cons_zero,List.flatten_cons,Nat.zero_mul,Nat.zero_add,Nat.sub_zero,Nat.zero_le,true_and]
  by_cases hi : i < k
  ·rw [gal (by omega),if_pos hi]
  ·rw [gar (by omega),gar (by omega),if_neg hi,hl,hy]
 | y :: ys,r + 1,row,row',h2,h,hl,i => by
  have hy : y.length = k := h2 y (mcs ..)
  simp only [List.getElem?_cons_succ] at h
  simp only [List.set_cons_succ,List.flatten_cons]
  have hk : (r + 1) * k = r * k + k := by rw [Nat.add_mul,Nat.one_mul]
  by_cases hi : i < k
  ·rw [gal (by omega),gal (by omega),if_neg (by omega)]
  ·rw [gar (by omega),gar (by omega),hy,flatten_set (fun z hz => h2 z (mcm _ hz)) h hl (i - k),hk]
   by_cases hc : r * k <= i - k /\ i - k < r * k + k
   ·rw [if_pos hc,if_pos (by omega)]; congr 1; omega
   ·rw [if_neg hc,if_neg (by omega)]
theorem flatten_setCells {k : Nat} {xs : List (List D)} {r j : Nat} {row ds : List D} (h2 : ∀ x ∈ xs,x.length = k) (h : xs[r]? = some row) (hj : j + ds.length <= row.length) (i : Nat) :
  (xs.set r (setCells row j ds)).flatten[i]? = if r * k + j <= i /\ i < r * k + j + ds.length then ds[i - (r * k + j)]? else xs.flatten[i]? := by
 have hrow : row.length = k := h2 row (mog h)
 rw [flatten_set h2 h (by rw [setCells_len hj]; exact hrow)]
 by_cases hc : r * k <= i /\ i < r * k + k
 ·rw [if_pos hc,setCells_get hj]
  by_cases hc2 : j <= i - r * k /\ i - r * k < j + ds.length
  ·rw [if_pos hc2,if_pos (by omega)]; congr 1; omega
  ·rw [if_neg hc2,if_neg (by omega)]
   have hlt : i - r * k < row.length := by omega
   have := flatten_row h2 h (i - r * k) row[i - r * k] (gge hlt)
   rw [show r * k + (i - r * k) = i by omega] at this
   rw [this]; exact gge hlt
 ·rw [if_neg hc,if_neg (by omega)]
theorem row_lt {k : Nat} {xs : List (List D)} {r : Nat} (h2 : ∀ x ∈ xs,x.length = k) (hr : r < xs.length) : r * k + k <= xs.flatten.length := by
 rw [flatten_len h2]
 have : (r + 1) * k <= xs.length * k := Nat.mul_le_mul_right k hr
 rw [Nat.add_mul,Nat.one_mul] at this
 exact this
theorem elem_inv (hi : Inv base w0 w g d s vals) {p : Place} {k r j : Nat} {xs : List (List D)} {row ds : List D} {us : List Value} {u : Value} {ow : Owner}
  (hp : s.at p = .own true k xs) (hw : OwnerAt g d p ow) (hu : placeVal w g vals p = some u) (hrow : xs[r]? = some row) (hj : j + ds.length <= row.length)
  (hul : us.length = ds.length) (hd : ∀ (q : Nat) x v,ds[q]? = some x -> us[q]? = some v -> RelD g.m x v) {b off : Nat} {n c : Nat} {cur : Array Value} {T : TypeId}
  (ho : OwnRel w g ow true k xs u) (hub : u = .slice (some ⟨b,off,none⟩) n c) (hheap : w.heap[b]? = some (.cells cur T (0,0))) :
  off + (r * ksz k + j) + us.length <= cur.size ∧
  Inv base w0 (w.setRow b (setCells cur.toList (off + (r * ksz k + j)) us).toArray) g d (s.mark p (.own true k (xs.set r (setCells row j ds)))) vals ∧
   Stp d s (s.mark p (.own true k (xs.set r (setCells row j ds)))) w (w.setRow b (setCells cur.toList (off + (r * ksz k + j)) us).toArray) g g := by
 obtain ⟨b1,off1,c1,cur1,T1,f1,f2,f3,f4,f5,f6,f7,f8,f9,f10,f11⟩ := ho
 subst f1
 simp only [Value.slice.injEq,sjE,Addr.mk.injEq] at hub
 obtain ⟨⟨rfl,rfl,_⟩,rfl,rfl⟩ := hub
 rw [hheap] at f3
 obtain ⟨rfl,rfl⟩ : cur = cur1 /\ T = T1 := by cases f3; exact ⟨rfl,rfl⟩
 have hrl : row.length = ksz k := f8 row (mog hrow)
 have hrlt : r < xs.length := (gsi.1 hrow).1
 have hfl := row_lt f8 hrlt
 have hflen := flatten_len f8
 have hck : xs.length * ksz k <= c1 * ksz k := Nat.mul_le_mul_right (ksz k) f4
 have hfit : off1 + (r * ksz k + j) + us.length <= cur.size := by omega
 have hfit' : off1 + (r * ksz k + j) + us.length <= cur.toList.length := by simpa using hfit
 refine ⟨hfit,?_⟩
 have hbase : base <= b1 := hi.own_ge b1 _ f2
 have hxl : (xs.set r (setCells row j ds)).length = xs.length := lls
 have hx8 : ∀ x ∈ xs.set r (setCells row j ds),x.length = ksz k := by
  intro x hx
  rcases List.mem_or_eq_of_mem_set hx with h | h
  ·exact f8 x h
  ·subst h; rw [setCells_len hj]; exact hrl
 have hown : OwnRel (w.setRow b1 (setCells cur.toList (off1 + (r * ksz k + j)) us).toArray) g ow true k (xs.set r (setCells row j ds)) (.slice (some ⟨b1,off1,none⟩) xs.length c1) := by
  refine ⟨b1,off1,c1,(setCells cur.toList (off1 + (r * ksz k + j)) us).toArray,T,by rw [hxl],f2,setRow_heap w b1 cur _ T _ hheap,by rw [hxl]; exact f4,f5,f6,by simp [setCells_len hfit']; exact f7,hx8,fun i x hx => ?_,fun _ => f10 rfl,by intro h; cases h⟩
  rw [flatten_setCells f8 hrow hj] at hx
  rw [List.getElem?_toArray,setCells_get hfit']
  by_cases hc : r * ksz k + j <= i /\ i < r * ksz k + j + ds.length
  ·rw [if_pos hc] at hx
   rw [if_pos (by omega),show off1 + i - (off1 + (r * ksz k + j)) = i - (r * ksz k + j) by omega]
   have hlt : i - (r * ksz k + j) < us.length := by omega
   exact ⟨us[i - (r * ksz k + j)],gge hlt,hd _ x _ hx (gge hlt)⟩
  ·rw [if_neg hc] at hx
   rw [if_neg (by omega),Array.getElem?_toList]
   exact f9 i x hx
 refine markW_sound hi hw hu (below_setRow hi hbase) (by simp [World.setRow]) rfl rfl (fun _ _ h => h) (fun ad v h => ?_) (fun b' o' h1 h2 => ?_) (fun b' o' h => ⟨o',h,.inl rfl⟩) rfl ?_
 ·have hm := hi.mem ad v h
  have hne' : ad.block ≠ b1 := by
   intro e
   cases ad with
   | mk ab ao asp =>
    simp only at e
    subst e
    have hsp : asp = none := by
     cases asp with
     | none => rfl
     | some q => simp [World.cell?,hheap] at hm
    subst hsp
    rw [f10 rfl] at h; cases h
  rw [<- hm]
  exact World.cell?_of_block (w := w) (setRow_other w b1 ad.block _ hne')
 ·refine ⟨setRow_other w b1 b' _ ?_,rfl,fun _ => rfl⟩
  rintro rfl
  rw [f2] at h1
  cases h1
  exact h2 rfl
 ·cases p with
  | tmp t => obtain rfl := hw; exact hown
  | cell l off' => obtain ⟨b',hb',rfl⟩ := hw; exact ⟨b',hb',hown⟩
theorem toDs_rel : ∀ {cs : List PV} {ds : List D},toDs cs = some ds -> ds.length = cs.length /\ ∀ (j : Nat) x,ds[j]? = some x -> ∃ c,cs[j]? = some c /\ c.toD = some x
 | [],ds,h => by
  obtain rfl := sij h
  exact ⟨rfl,fun j x hx => by simp at hx⟩
 | c :: cs,ds,h => by
  simp only [toDs] at h
  obtain ⟨y,h1,h2⟩ := seqO_eq.1 h
  obtain ⟨ys,h3,h4⟩ := seqO_eq.1 h2
  obtain rfl := sij h4
  obtain ⟨k1,k2⟩ := toDs_rel h3
  refine ⟨by simp [k1],fun j x hx => ?_⟩
  cases j with
  | zero =>
   simp only [List.getElem?_cons_zero,sjE] at hx
   subst hx
   exact ⟨c,rfl,h1⟩
  | succ j =>
   simp only [List.getElem?_cons_succ] at hx ⊢
   exact k2 j x hx
theorem toD_rel {c : PV} {x : D} {v : Value} (h : c.toD = some x) (hr : RelC g c v) : RelD g.m x v := by
 cases c with
 | dat y =>
  cases y with
  | lit q =>
   simp only [PV.toD] at h
   split at h
   ·rename_i h1
    obtain rfl := sij h
    have : v = q := hr
    subst this
    exact .lit v h1
   ·cases h
  | nil => obtain rfl := sij h; exact hr
  | sl k xs => obtain rfl := sij h; exact hr
  | any => obtain rfl := sij h; exact hr
 | _ => cases h
theorem store_exec {t : TypeId} {x y : Operand} (ho : o.op = .store t x y) {ad : Addr} {w' : World} (hx : a.eval x = .pointer (some ad)) (hr : (storeVar t ad (a.eval y)).run P w = .ok () w') :
  (execOp a.eval o).run P w = .ok .skip w' := by
 simp only [execOp,ho,hx,Instr.storeAt,Instr.sureAddr,Sem.run_bind,Sem.run_pure,Result.andThen_ok,hr]
theorem store_sound (hc : CfgOk P cfg) (hi : Inv base w0 w g d s vals) (hgl : GlobOk cfg g) (ha : a.tmps = vals) {t : TypeId} {x y : Operand} {pl : Pol} (ho : o.op = .store t x y) {s' : St}
  (h : (seqO (fetch cfg pl y s) fun p => seqO (aStore cfg t (p.2.val cfg x) p.1 p.2) fun s' => some (put s' o.dst (.dat (.lit undef)))) = some s') : Goes P o a base w0 w g d s vals s' := by
 obtain ⟨⟨pv,s1⟩,h1,h2⟩ := seqO_eq.1 h
 obtain ⟨s2,h3,h4⟩ := seqO_eq.1 h2
 obtain rfl := sij h4
 clear h h2
 obtain ⟨g1,i1,st1,r1,_⟩ := fetch_sound hi hgl h1 ha
 have hgl1 := hgl.grows st1.gr
 simp only at h3
 unfold aStore at h3
 obtain ⟨i,hti,h5⟩ := seqO_eq.1 h3
 obtain ⟨cs,hcs,h6⟩ := seqO_eq.1 h5
 clear h3 h5
 have ht := hc.ti t i hti
 split at h6
 ·rename_i hcond
  obtain ⟨hsz,hall⟩ := hcond
  obtain ⟨c1,c2⟩ := cells_relP r1 hcs hall
  have hone : ∀ v ∈ (a.eval y).cells.toList,v.oneCell' = true := by
   intro v hv
   obtain ⟨j,hj⟩ := List.getElem?_of_mem hv
   have hlt : j < cs.length := by rw [<- c1,<- Array.length_toList]; exact (gsi.1 hj).1
   exact (c2 j cs[j] v (gge hlt) (by rw [<- Array.getElem?_toList]; exact hj)).1
  split at h6
  ·rename_i l off hv
   obtain ⟨b,e1,e2⟩ := val_plain i1 hgl1 ha hv (by intro e; cases e) (by intro _ _ _ e; cases e) rfl rfl
   obtain ⟨bx,hbx,h7⟩ := seqO_eq.1 h6
   by_cases hfit : off + cs.length <= bx.length
   ·rw [if_pos hfit] at h7
    obtain ⟨b',cur,T,q1,q2,q3,q4⟩ := load_box i1 hbx
    rw [e1] at q1
    obtain rfl := sij q1
    have hs2 : s2 = stored s1 l off bx cs pv.noPtr := by
     simp only [sjE] at h7
     rw [<- h7]
     unfold stored
     rfl
    obtain ⟨g2,k1,k2⟩ := store_inv (np := pv.noPtr) (us := (a.eval y).cells.toList) i1 hbx e1 q2 q3 (by rw [Array.length_toList]; exact c1) hfit (fun hn => cells_isDat hcs hn) 0
     (fun j x' v hx hv => (c2 j x' v hx (by rw [<- Array.getElem?_toList]; exact hv)).2.imp_right fun ⟨ex,k,xs,h1,h2,h3⟩ => ⟨ex,k,xs,h1,by
      subst h2
      cases j with
      | zero => exact h3
      | succ j => simp at hx⟩)
    rw [<- hs2] at k1 k2
    refine goes_of_pend (.inr ⟨store_exec ho e2 ?_,rfl⟩) k1 (st1.trans k2) lit_rel
    exact run_storeVar' ht q2 (by rw [c1]; exact hsz) (by rw [c1,q3]; exact hfit) hone
   ·rw [if_neg hfit] at h7; cases h7
  ·rename_i p k r j hv
   obtain ⟨ds,hds,h7⟩ := seqO_eq.1 h6
   clear h6
   obtain ⟨tt,rfl⟩ := val_is_tmp hv (.inl ⟨p,rfl⟩)
   simp only [St.val] at hv
   obtain ⟨_,_,b,off,n',c',e3,e4⟩ := val_tmp i1 ha hv (by intro e; cases e)
   split at h7
   ·rename_i ex k' xs hat
    split at h7
    ·rename_i hk
     obtain ⟨rfl,rfl⟩ := hk
     obtain ⟨row,hrow,h8⟩ := seqO_eq.1 h7
     clear h7
     split at h8
     ·rename_i hj
      obtain rfl := sij h8
      obtain ⟨ow,u,a1,a2,a3⟩ := at_rel i1 hat
      rw [e3] at a2
      obtain rfl := sij a2
      have ⟨b1,off1,cc,cur,T,f1,f2,f3,_⟩ := a3
      simp only [Value.slice.injEq,sjE,Addr.mk.injEq] at f1
      obtain ⟨⟨rfl,rfl,_⟩,rfl,rfl⟩ := f1
      obtain ⟨d1,d2⟩ := toDs_rel hds
      obtain ⟨k0,k1,k2⟩ := elem_inv (us := (a.eval y).cells.toList) i1 hat a1 e3 hrow hj (by rw [Array.length_toList,c1,d1]) (fun q x v hx hv => by
       obtain ⟨c0,hc0,hc1⟩ := d2 q x hx
       rcases (c2 q c0 v hc0 (by rw [<- Array.getElem?_toList]; exact hv)).2 with ⟨_,hR⟩ | ⟨ex',k',xs',e,_,_⟩
       ·exact toD_rel hc1 hR
       ·subst e; cases hc1) a3 rfl f3
      refine goes_of_pend (.inr ⟨store_exec ho e4 ?_,rfl⟩) k1 (st1.trans k2) lit_rel
      exact run_storeVar' ht f3 (by rw [c1]; exact hsz) (by rw [Array.length_toList] at k0; exact k0) hone
     ·cases h8
    ·cases h7
   ·cases h7
  ·cases h6
 ·cases h6
end
end Go.Vx
namespace Go.Vx
open Go Go.RowKit
section
variable {P : Program} {cfg : Cfg} {base : Nat} {w0 w : World} {g : Gh} {d : Nat} {s : St} {vals : Array Value} {o : Oper} {a : Act}
def Gh.newArr (g : Gh) (b : Nat) : Gh := { g with own := fun b' => if b' = b then some (.res 0) else g.own b' }
theorem newarr_sound (hi : Inv base w0 w g d s vals) {w1 : World} {us : Array Value} {T : TypeId} {k c : Nat} {xs : List (List D)}
  (hw : w1.heap = w.heap.push (.cells us T)) (hlow : Below base w0 w1) (hk : k = 0 -> T = g.bt) (hc : us.size = c * ksz k) (hlc : xs.length <= c) (hcm : c <= maxLen) (hx : ∀ x ∈ xs,x.length = ksz k)
  (hr : ∀ (j : Nat) x,xs.flatten[j]? = some x -> ∃ v,us[j]? = some v /\ RelD g.m x v) :
  Inv base w0 w1 (g.newArr w.heap.size) d s vals /\ Stp d s s w w1 g (g.newArr w.heap.size) ∧
   RelP w1 (g.newArr w.heap.size) vals s (.own true k xs) (.slice (some ⟨w.heap.size,0,none⟩) xs.length c) := by
 have hbase : base <= w.heap.size := Nat.le_trans hi.hb hi.low.size
 have hg : Grows g (g.newArr w.heap.size) := ⟨fun _ _ h => h,fun _ _ h => h,rfl⟩
 have hold : ∀ b,b < w.heap.size -> w1.heap[b]? = w.heap[b]? := fun b hb => by
  rw [hw,Array.getElem?_push,if_neg (by omega)]
 have hnew : w1.heap[w.heap.size]? = some (.cells us T (0,0)) := by rw [hw,Array.getElem?_push,if_pos rfl]
 have hmn : ∀ j,g.m ⟨w.heap.size,j,none⟩ = none := by
  intro j
  cases hm : g.m ⟨w.heap.size,j,none⟩ with
  | none => rfl
  | some v => have := m_lt hi hm; simp at this
 obtain ⟨h1,h2⟩ := inv_grow (w1 := w1) (g1 := g.newArr w.heap.size) (nbs := []) (nbl := []) hi hlow hg
  (fun ad v h => by
   have h' := hi.mem ad v h
   rw [World.cell?_of_block (w := w) (hold ad.block (World.block_lt_of_cell? w ad h'))]
   exact h')
  (fun b o' hb _ => ⟨hold b (hi.own_lt b o' hb),by
   simp only [Gh.newArr]
   rw [if_neg]
   have := hi.own_lt b o' hb
   omega,fun _ => rfl⟩)
  (fun b o' hb => by
   simp only [Gh.newArr] at hb
   split at hb
   ·rename_i e
    subst e
    obtain rfl := sij hb
    exact .inr ⟨hbase,by rw [hw]; simp,fun _ _ _ e => by cases e⟩
   ·exact .inl hb)
  (by rw [hw]; simp) (by simp [Gh.newArr]) rfl (by simp) (fun b hb => by cases hb) (fun l b bx h1 h2 => by simp at h1)
 have es : ({ s with bx := s.bx ++ [] } : St) = s := by simp
 rw [es] at h1 h2
 refine ⟨h1,h2,w.heap.size,0,c,us,T,rfl,by simp [Gh.newArr],hnew,hlc,hcm,hk,by omega,hx,fun j x h => (hr j x h).imp fun v hv => ⟨by simpa using hv.1,hv.2⟩,fun _ => hmn,(by intro h; cases h)⟩
theorem sharepend_sound (hi : Inv base w0 w g d s vals) {k : Nat} {xs : List (List D)} {u : Value} (h : OwnRel w g (.res 0) true k xs u) :
  ∃ g',Inv base w0 w g' d s vals /\ Stp d s s w w g g' /\ OwnRel w g' (.res 0) false k xs u := by
 obtain ⟨b,off,c,cs,T,e1,e2,e3,e4,e5,e6,e7,e8,e9,e10,e11⟩ := h
 have hcell : ∀ j,w.cell? ⟨b,j,none⟩ = cs[j]? := fun j => cell_of_heap e3
 have hm : ∀ a v,g.m a = some v -> (g.share w b off xs.flatten.length).m a = some v := by
  intro a v h
  by_cases hc : a.block = b /\ a.spot = none /\ off <= a.off /\ a.off < off + xs.flatten.length
  ·obtain ⟨c1,c2,_⟩ := hc
   have : g.m a = none := by
    have := e10 rfl a.off
    cases a with
    | mk ab ao asp => simp only at c1 c2; subst c1; subst c2; exact this
   rw [this] at h; cases h
  ·rw [share_out _ _ _ _ _ _ hc]; exact h
 obtain ⟨h1,h2⟩ := inv_grow (w1 := w) (g1 := g.share w b off xs.flatten.length) (nbs := []) (nbl := []) hi hi.low ⟨hm,fun _ _ h => h,rfl⟩
  (fun a v h => by
   by_cases hc : a.block = b /\ a.spot = none /\ off <= a.off /\ a.off < off + xs.flatten.length
   ·rw [Gh.share] at h
    simp only [if_pos hc] at h
    exact h
   ·rw [share_out _ _ _ _ _ _ hc] at h; exact hi.mem a v h)
  (fun b' o' hb' hne => ⟨rfl,rfl,fun j => by
   rw [share_out]
   rintro ⟨q,_⟩
   simp only at q
   subst q
   rw [e2] at hb'
   cases hb'
   exact hne 0 rfl⟩)
  (fun b' o' hb' => .inl hb') (Nat.le_refl _) (by simp [Gh.share]) rfl (by simp) (fun b hb => by cases hb) (fun l b bx h1 h2 => by simp at h1)
 have es : ({ s with bx := s.bx ++ [] } : St) = s := by simp
 rw [es] at h1 h2
 refine ⟨_,h1,h2,b,off,c,cs,T,e1,e2,e3,e4,e5,e6,e7,e8,fun j x hx => (e9 j x hx).imp fun v hv => ⟨hv.1,hv.2.mono hm⟩,(by intro h; cases h),fun _ => ⟨fun j hj => ?_,fun j hj => ?_⟩⟩
 ·rw [share_in _ _ _ _ _ _ (by omega) (by omega),hcell]
 ·rw [share_out _ _ _ _ _ _ (by rintro ⟨_,_,q1,q2⟩; simp only at q2; omega)]
  exact e10 rfl j
theorem run_zero_size {t : TypeId} {i : TI} (h : TiOk P t i) : ∃ info z,P.info? t = some info /\ info.size = i.size /\ info.bytes = i.bytes /\ info.zero = some z /\ z.cells.toList = i.zero.map D.toValue /\ z.cells.size = i.size := by
 obtain ⟨info,z,q1,q2,q3,q4,q5⟩ := h.info
 exact ⟨info,z,q1,q2,q3,q4,q5,by rw [<- Array.length_toList,q5,List.length_map,h.zlen]⟩
theorem flatten_replicate {x : List D} {k : Nat} (hk : x.length = k) : ∀ (n j : Nat),(List.replicate n x).flatten[j]? = if j < n * k then x[j % k]? else none
 | 0,j => by simp
 | n + 1,j => by
  rw [List.replicate_succ,List.flatten_cons]
  by_cases h : j < k
  ·rw [gal (by omega),Nat.mod_eq_of_lt h,if_pos (by rw [Nat.add_mul]; omega)]
  ·rw [gar (by omega),hk,flatten_replicate hk n (j - k)]
   have hm : j % k = (j - k) % k := by rw [Nat.mod_eq_sub_mod (by omega)]
   rw [hm]
   by_cases h2 : j < (n + 1) * k
   ·rw [if_pos h2,if_pos (by rw [Nat.add_mul] at h2; omega)]
   ·rw [if_neg h2,if_neg (by rw [Nat.add_mul] at h2; omega)]
theorem made_get (z : Array Value) (n j : Nat) (hj : j < n) (hz : 0 < z.size) : (madeCells z n)[j]? = z[j % z.size]? := by
 have : j % z.size < z.size := Nat.mod_lt _ hz
 simp [madeCells,hj,this]
theorem zero_rows {i : TI} {t : TypeId} (h : TiOk P t i) {z : Value} (hz : z.cells.toList = i.zero.map D.toValue) (hzs : z.cells.size = i.size) (h0 : 0 < i.size) (n : Nat) {m : Addr -> Option Value} :
  ∀ (j : Nat) x,(List.replicate n i.zero).flatten[j]? = some x -> ∃ v,(madeCells z.cells (n * i.size))[j]? = some v /\ RelD m x v := by
 intro j x hx
 rw [flatten_replicate h.zlen] at hx
 split at hx
 ·rename_i hj
  rw [made_get z.cells _ j hj (by rw [hzs]; exact h0),hzs,<- Array.getElem?_toList,hz,List.getElem?_map,hx]
  exact ⟨_,rfl,zero_rel (List.all_eq_true.1 h.zero x (mog hx))⟩
 ·cases hx
theorem makeSlice_sound (hc : CfgOk P cfg) (hi : Inv base w0 w g d s vals) (hgl : GlobOk cfg g) (ha : a.tmps = vals) {t : TypeId} {l c : Operand} (ho : o.op = .makeSlice t l c) {s' : St}
  (h : (seqO (cfg.ti t) fun i => seqO (aint (s.val cfg l)) fun n => seqO (aint (s.val cfg c)) fun n' => match i.kind with
   | .slice e => seqO (cfg.ti e) fun j => if 0 < j.size /\ 0 < j.bytes /\ n = n' /\ 0 <= n /\ n.toNat * j.bytes <= 140737488355328 then some (put s o.dst (.own true (keyOf cfg e j) (List.replicate n.toNat j.zero))) else none
   | _ => none) = some s') : Goes P o a base w0 w g d s vals s' := by
 obtain ⟨i,hti,h1⟩ := seqO_eq.1 h
 obtain ⟨n,hn,h2⟩ := seqO_eq.1 h1
 obtain ⟨n',hn',h3⟩ := seqO_eq.1 h2
 clear h h1 h2
 obtain ⟨kl,el⟩ := val_int hi hgl ha hn
 obtain ⟨kc,ec⟩ := val_int hi hgl ha hn'
 have hkd := (hc.ti t i hti).kind
 split at h3
 ·rename_i e hk
  rw [hk] at hkd
  obtain ⟨j,htj,h4⟩ := seqO_eq.1 h3
  split at h4
  ·rename_i hcond
   obtain ⟨c1,c2,rfl,c4,c5⟩ := hcond
   obtain rfl := sij h4
   have htj' := hc.ti e j htj
   obtain ⟨info,z,q1,q2,q3,q4,q5,q6⟩ := run_zero_size htj'
   have hn63 : n.toNat <= 140737488355328 := Nat.le_trans (Nat.le_mul_of_pos_right _ c2) c5
   have hb : (info.bytes : Int) * n <= 281474976710656 := by
    have h1 : ((j.bytes * n.toNat : Nat) : Int) <= 281474976710656 := by rw [Nat.mul_comm]; omega
    rw [q3]
    rw [Int.natCast_mul,Int.toNat_of_nonneg c4] at h1
    exact h1
   have hr := run_make (P := P) w t e info z hkd q1 q4 kl kc n n c4 (Int.le_refl _) hb (by omega)
   rw [q2] at hr
   have hlenr : (List.replicate n.toNat j.zero).length = n.toNat := List.length_replicate
   have hks := keyOf_ksz hc htj c1
   obtain ⟨k1,k2,k3⟩ := newarr_sound (k := keyOf cfg e j) (w1 := w.alloc (.cells (madeCells z.cells (n.toNat * j.size)) e)) (c := n.toNat) (xs := List.replicate n.toNat j.zero) hi rfl (hi.low.alloc (Nat.le_trans hi.hb hi.low.size) _) (fun h => by rw [hgl.2]; exact keyOf_byte c1 h)
    (by rw [hks]; exact size_madeCells _ _) (by rw [hlenr]; exact Nat.le_refl _) (by simp only [maxLen]; omega) (fun x hx => by rw [(List.mem_replicate.1 hx).2,hks]; exact htj'.zlen) (zero_rows htj' q5 q6 c1 n.toNat)
   rw [hlenr] at k3
   refine goes_of_pend (.inl ?_) k1 k2 k3
   simp only [execOp,ho,el,ec,Sem.run_bind,hr,Result.andThen_ok,Sem.run_pure]
  ·cases h4
 ·cases h3
theorem rd_cells {r : Rd} {u : Value} (hi : Inv base w0 w g d s vals) (hr : RdRel w g vals d s r u) {k : Nat} (hf : r.fits k = true) :
  ∃ ad c us,u = .slice ad r.rows.length c /\ r.rows.length <= c /\ us.length = r.rows.length * k /\ (∀ x ∈ r.rows,x.length = k) /\ (us ≠ [] -> ∃ b off,ad = some ⟨b,off,none⟩) ∧
   (∀ b off,ad = some ⟨b,off,none⟩ -> ∀ (j : Nat) v,us[j]? = some v -> w.cell? ⟨b,off + j,none⟩ = some v) /\ ∀ (j : Nat) x,r.rows.flatten[j]? = some x -> ∃ v,us[j]? = some v /\ RelD g.m x v := by
 cases hr with
 | imm k' xs _ hd =>
  obtain ⟨ad,c,rfl,hle,h3⟩ := hd.slice
  by_cases hxs : xs = []
  ·subst hxs
   exact ⟨ad,c,[],rfl,Nat.zero_le _,(by simp [Rd.rows]),fun x hx => (by cases hx),fun h => absurd rfl h,fun _ _ _ j v h => (by simp at h),fun j x h => (by simp [Rd.rows] at h)⟩
  ·obtain ⟨h4,b,o',us,rfl,h5⟩ := h3 hxs
   have hkk : k' = k := by
    simp only [Rd.fits,Bool.or_eq_true,beq_iff_eq,List.isEmpty_iff] at hf
    exact hf.resolve_right hxs
   subst hkk
   have hfl := flatten_len h4
   have hget : ∀ (j : Nat),j < xs.flatten.length -> ∃ x,xs.flatten[j]? = some x := fun j hj => ⟨_,gge hj⟩
   refine ⟨_,c,(List.range xs.flatten.length).map us,rfl,hle,by simp only [List.length_map,List.length_range]; exact hfl,h4,fun _ => ⟨b,o',rfl⟩,?_,?_⟩
   ·intro b1 off1 e j v hv
    simp only [sjE,Addr.mk.injEq] at e
    obtain ⟨rfl,rfl,_⟩ := e
    rw [List.getElem?_map] at hv
    cases hj : (List.range xs.flatten.length)[j]? with
    | none => rw [hj] at hv; cases hv
    | some j' =>
     obtain ⟨hlt,he⟩ := gsi.1 hj
     simp only [List.length_range,List.getElem_range] at hlt he
     subst he
     rw [hj] at hv
     obtain rfl := sij hv
     obtain ⟨x,hx⟩ := hget j hlt
     exact hi.mem _ _ (h5 j x hx).1
   ·intro j x hx
    change xs.flatten[j]? = some x at hx
    have hj := (gsi.1 hx).1
    refine ⟨us j,?_,(h5 j x hx).2⟩
    rw [List.getElem?_map,List.getElem?_range hj]; rfl
 | «at» p ex k' xs _ ow h1 h2 h3 h4 =>
  have hkk : ksz k' = k := by simpa [Rd.fits] using hf
  subst hkk
  obtain ⟨b,off,c,cs,T,rfl,f2,f3,f4,f5,f6,f7,f8,f9,f10,f11⟩ := h4
  have hfl := flatten_len f8
  refine ⟨_,c,(List.range xs.flatten.length).map fun j => (cs[off + j]?).getD undef,rfl,f4,by simp only [List.length_map,List.length_range]; exact hfl,f8,fun _ => ⟨b,off,rfl⟩,?_,?_⟩
  ·intro b1 off1 e j v hv
   simp only [sjE,Addr.mk.injEq] at e
   obtain ⟨rfl,rfl,_⟩ := e
   rw [List.getElem?_map] at hv
   cases hj : (List.range xs.flatten.length)[j]? with
   | none => rw [hj] at hv; cases hv
   | some j' =>
    obtain ⟨hlt,he⟩ := gsi.1 hj
    simp only [List.length_range,List.getElem_range] at hlt he
    subst he
    obtain ⟨x,hx⟩ : ∃ x,xs.flatten[j]? = some x := ⟨_,gge hlt⟩
    obtain ⟨v',g1,_⟩ := f9 j x hx
    rw [hj] at hv
    simp only [Option.map_some,g1,Option.getD_some,sjE] at hv
    subst hv
    rw [cell_of_heap f3]; exact g1
  ·intro j x hx
   change xs.flatten[j]? = some x at hx
   have hj := (gsi.1 hx).1
   obtain ⟨v',g1,g2⟩ := f9 j x hx
   refine ⟨v',?_,g2⟩
   rw [List.getElem?_map,List.getElem?_range hj]
   simp [g1]
end
end Go.Vx
namespace Go.Vx
open Go Go.RowKit
section
variable {P : Program} {base : Nat} {w0 w : World} {g : Gh} {d : Nat} {s : St} {vals : Array Value} {o : Oper} {a : Act}
def NoZeros (P : Program) (argTypes : Array TypeId) : Prop := ∃ tx,argTypes[1]? = some tx /\ ((∃ e,P.underlying tx = some (.slice e)) ∨ P.underlying tx = some .string)
theorem run_append_in {argTypes : Array TypeId} {t ty e : TypeId} {i : TypeInfo} (h0 : argTypes[0]? = some t) (h1 : NoZeros P argTypes) (ht : P.underlying t = some (.slice e)) (hi : P.info? e = some i)
  {bs : Option Addr} {n c m : Nat} {x : Value} {news : Array Value} (hx : (Builtin.lenOf x).run P w = .ok m w) (hf : (Builtin.firstCells i.size m x).run P w = .ok news w) (hroom : n + m <= c) {w' : World}
  (hst : ∀ b,bs = some b -> (storeCells (b.add (n * i.size)) news.toList).run P w = .ok () w') (hno : bs = none -> w' = w) :
  (Builtin.append_ argTypes ty #[.slice bs n c,x]).run P w = .ok (.slice bs (n + m) c) w' := by
 obtain ⟨tx,h1,⟨e2,h2⟩ | h2⟩ := h1
 all_goals cases bs with
 | none =>
  obtain rfl := hno rfl
  simp [Builtin.append_,h0,h1,run_underlying ht,run_underlying h2,sizeOf,typeInfo,hi,hx,hroom,hf]
 | some b =>
  have := hst b rfl
  simp [Builtin.append_,h0,h1,run_underlying ht,run_underlying h2,sizeOf,typeInfo,hi,hx,hroom,hf,this]
theorem run_append_out {argTypes : Array TypeId} {t ty e : TypeId} {i : TypeInfo} {z : Value} (h0 : argTypes[0]? = some t) (h1 : NoZeros P argTypes) (ht : P.underlying t = some (.slice e)) (hi : P.info? e = some i) (hz : i.zero = some z)
  {bs : Option Addr} {n c m : Nat} {x : Value} {olds news : Array Value} (hx : (Builtin.lenOf x).run P w = .ok m w) (hfo : (Builtin.firstCells i.size n (.slice bs n c)).run P w.drew = .ok olds w.drew) (hf : (Builtin.firstCells i.size m x).run P w.drew = .ok news w.drew)
  (hg : c < n + m) (h63 : ((n + m : Nat) : Int) <= 9223372036854775807) (hfit : Builtin.nextslicecap (n + m) c * i.bytes <= 281474976710656) :
  (Builtin.append_ argTypes ty #[.slice bs n c,x]).run P w =
   .ok (.slice (some ⟨w.heap.size,0,none⟩) (n + m) (grownCap w (n + m) c e))
    (w.drew.alloc (.cells (olds ++ news ++ Builtin.zeroCells z.cells (grownCap w (n + m) c e - (n + m))) e)) := by
 obtain ⟨tx,h1,⟨e2,h2⟩ | h2⟩ := h1
 all_goals have hn : ¬ (n + m <= c) := by omega
 all_goals have h63' : ¬ (9223372036854775807 < ((n : Int) + (m : Int))) := by omega
 all_goals have h48' : ¬ (281474976710656 < Builtin.nextslicecap (n + m) c * i.bytes) := by omega
 all_goals simp [Builtin.append_,h0,h1,run_underlying ht,run_underlying h2,sizeOf,typeInfo,zeroValue,hi,hz,hx,hn,h63',h48',Question.forced,hf,hfo,newRow,grownCap]
theorem firstCells_of {size m cx : Nat} {ad : Option Addr} {us : List Value} (hl : us.length = m * size) (h1 : us ≠ [] -> ∃ b off,ad = some ⟨b,off,none⟩)
  (h2 : ∀ b off,ad = some ⟨b,off,none⟩ -> ∀ (j : Nat) v,us[j]? = some v -> w.cell? ⟨b,off + j,none⟩ = some v) : (Builtin.firstCells size m (.slice ad m cx)).run P w = .ok us.toArray w := by
 by_cases hu : us = []
 ·subst hu
  cases ad with
  | none => simp [Builtin.firstCells]
  | some a =>
   have hz : m * size = 0 := by simpa using hl.symm
   simp [Builtin.firstCells,hz,loadCells,loadCellsFrom]
 ·obtain ⟨b,off,rfl⟩ := h1 hu
  exact run_firstCells_some w size m _ _ cx us hl fun j v hv => by rw [add_mk]; exact h2 b off rfl j v hv
theorem flatten_append_get {xs ys : List (List D)} {j : Nat} {x : D} (h : (xs ++ ys).flatten[j]? = some x) :
  (j < xs.flatten.length /\ xs.flatten[j]? = some x) ∨ (xs.flatten.length <= j /\ ys.flatten[j - xs.flatten.length]? = some x) := by
 rw [List.flatten_append] at h
 by_cases hj : j < xs.flatten.length
 ·rw [gal hj] at h; exact .inl ⟨hj,h⟩
 ·rw [gar (by omega)] at h; exact .inr ⟨by omega,h⟩
theorem grown_sound (hi : Inv base w0 w g d s vals) {info : TypeInfo} {e : TypeId} {k n m c : Nat} {z : Value} {olds us : List Value} {rows : List (List D)} (hk : k = 0 -> e = g.bt) (hzs : z.cells.size = ksz k)
  (holds : olds.length = n * ksz k) (hul : us.length = m * ksz k) (hrl : rows.length = n + m) (hrk : ∀ x ∈ rows,x.length = ksz k) (h63 : n + m <= maxLen)
  (hr : ∀ (j : Nat) x,rows.flatten[j]? = some x -> ∃ v,(olds ++ us)[j]? = some v /\ RelD g.m x v) (_ : info.size = ksz k) :
  ∃ g',Inv base w0 (w.drew.alloc (.cells (olds.toArray ++ us.toArray ++ Builtin.zeroCells z.cells (grownCap w (n + m) c e - (n + m))) e)) g' d s vals ∧
   Stp d s s w (w.drew.alloc (.cells (olds.toArray ++ us.toArray ++ Builtin.zeroCells z.cells (grownCap w (n + m) c e - (n + m))) e)) g g' ∧
   OwnRel (w.drew.alloc (.cells (olds.toArray ++ us.toArray ++ Builtin.zeroCells z.cells (grownCap w (n + m) c e - (n + m))) e)) g' (.res 0) true k rows (.slice (some ⟨w.heap.size,0,none⟩) (n + m) (grownCap w (n + m) c e)) := by
 have hge := grownCap_ge w (n + m) c e
 have hle := grownCap_le_maxLen w (n + m) c e h63
 have hbase : base <= w.heap.size := Nat.le_trans hi.hb hi.low.size
 obtain ⟨h1,h2,h3⟩ := newarr_sound (xs := rows) (c := grownCap w (n + m) c e) (k := k) (w1 := w.drew.alloc (.cells (olds.toArray ++ us.toArray ++ Builtin.zeroCells z.cells (grownCap w (n + m) c e - (n + m))) e)) hi rfl
  (hi.low.drew.alloc hbase _) hk (by
   simp only [Array.size_append,List.size_toArray,size_zeroCells,hzs,holds,hul,<- Nat.add_mul]
   congr 1; omega) (by rw [hrl]; exact hge) hle hrk (fun j x hx => by
   obtain ⟨v,hv,hd⟩ := hr j x hx
   refine ⟨v,?_,hd⟩
   have hj : j < (olds ++ us).length := (gsi.1 hv).1
   rw [Array.getElem?_append_left (by simpa using hj),List.append_toArray,List.getElem?_toArray]
   exact hv)
 rw [hrl] at h3
 exact ⟨_,h1,h2,h3⟩
theorem dead_at (hi : Inv base w0 w g d s vals) {p : Place} {ex : Bool} {k : Nat} {xs : List (List D)} (hp : s.at p = .own ex k xs) : Inv base w0 w g d (s.mark p .dead) vals /\ Stp d s (s.mark p .dead) w w g g := by
 obtain ⟨o,u,h1,h2,h3⟩ := at_rel hi hp
 refine mark_sound hi h1 h2 rfl rfl (fun _ _ h => h) hi.mem (fun b _ _ _ => Kept.refl w g b) (fun b o' h => ⟨o',h,.inl rfl⟩) rfl ?_
 cases p with
 | tmp => exact trivial
 | cell l off => obtain ⟨b,hb,_⟩ := h1; exact ⟨b,hb,trivial⟩
theorem room_sound (hi : Inv base w0 w g d s vals) {p : Place} {ow : Owner} {ex : Bool} {k : Nat} {xs ys : List (List D)} {u : Value} (hw : OwnerAt g d p ow) (hu : placeVal w g vals p = some u)
  {b off c : Nat} {cs : Array Value} {T : TypeId} (e1 : u = .slice (some ⟨b,off,none⟩) xs.length c) (ho : OwnRel w g ow ex k xs u) (hheap : w.heap[b]? = some (.cells cs T (0,0))) {us : List Value}
  (hys : ∀ x ∈ ys,x.length = ksz k) (hul : us.length = ys.length * ksz k) (hroom : xs.length + ys.length <= c) (hd : ∀ (j : Nat) x,ys.flatten[j]? = some x -> ∃ v,us[j]? = some v /\ RelD g.m x v) :
  off + xs.length * ksz k + us.length <= cs.size ∧
  ∃ g',Inv base w0 (w.setRow b (setCells cs.toList (off + xs.length * ksz k) us).toArray) g' d (s.mark p .dead) vals ∧
   Stp d s (s.mark p .dead) w (w.setRow b (setCells cs.toList (off + xs.length * ksz k) us).toArray) g g' ∧
   OwnRel (w.setRow b (setCells cs.toList (off + xs.length * ksz k) us).toArray) g' (.res 0) ex k (xs ++ ys) (.slice (some ⟨b,off,none⟩) (xs.length + ys.length) c) := by
 obtain ⟨b1,off1,c1,cs1,T1,f1,f2,f3,f4,f5,f6,f7,f8,f9,f10,f11⟩ := ho
 subst f1
 simp only [Value.slice.injEq,sjE,Addr.mk.injEq] at e1
 obtain ⟨⟨rfl,rfl,_⟩,_,rfl⟩ := e1
 rw [hheap] at f3
 obtain ⟨rfl,rfl⟩ : cs = cs1 /\ T = T1 := by cases f3; exact ⟨rfl,rfl⟩
 have hfx := flatten_len f8
 have hfy := flatten_len hys
 have hck : (xs.length + ys.length) * ksz k <= c1 * ksz k := Nat.mul_le_mul_right (ksz k) hroom
 rw [Nat.add_mul] at hck
 have hfit : off1 + xs.length * ksz k + us.length <= cs.size := by omega
 have hfit' : off1 + xs.length * ksz k + us.length <= cs.toList.length := by simpa using hfit
 refine ⟨hfit,?_⟩
 have hbase : base <= b1 := hi.own_ge b1 _ f2
 let w' := w.setRow b1 (setCells cs.toList (off1 + xs.length * ksz k) us).toArray
 have hw'heap : w'.heap[b1]? = some (.cells (setCells cs.toList (off1 + xs.length * ksz k) us).toArray T (0,0)) := setRow_heap w b1 cs _ T _ hheap
 have hnew : ∀ j,(setCells cs.toList (off1 + xs.length * ksz k) us).toArray[j]? = if off1 + xs.length * ksz k <= j /\ j < off1 + xs.length * ksz k + us.length then us[j - (off1 + xs.length * ksz k)]? else cs[j]? := by
  intro j
  rw [List.getElem?_toArray,setCells_get hfit',Array.getElem?_toList (xs := cs)]
 let n1 := if ex then 0 else us.length
 let g1 := g.share w' b1 (off1 + xs.length * ksz k) n1
 have hin1 : ∀ j,off1 + xs.length * ksz k <= j -> g.m ⟨b1,j,none⟩ = none := by
  intro j hj
  cases ex with
  | true => exact f10 rfl j
  | false => exact (f11 rfl).2 j (by omega)
 have hm : ∀ ad v,g.m ad = some v -> g1.m ad = some v := by
  intro ad v h
  by_cases hc : ad.block = b1 /\ ad.spot = none /\ off1 + xs.length * ksz k <= ad.off /\ ad.off < off1 + xs.length * ksz k + n1
  ·obtain ⟨c1,c2,c3,_⟩ := hc
   have : g.m ad = none := by
    have := hin1 ad.off c3
    cases ad with
    | mk ab ao asp => simp only at c1 c2; subst c1; subst c2; exact this
   rw [this] at h; cases h
  ·show (g.share w' b1 _ n1).m ad = some v
   rw [share_out _ _ _ _ _ _ hc]; exact h
 have hkeepcell : ∀ ad v,g.m ad = some v -> w'.cell? ad = some v := by
  intro ad v h
  have hmc := hi.mem ad v h
  by_cases hbk : ad.block = b1
  ·cases ad with
   | mk ab ao asp =>
    simp only at hbk
    subst hbk
    have hsp : asp = none := by
     cases asp with
     | none => rfl
     | some q => simp [World.cell?,hheap] at hmc
    subst hsp
    rw [cell_of_heap hheap] at hmc
    rw [cell_of_heap hw'heap,hnew,if_neg]
    ·exact hmc
    ·intro hc
     rw [hin1 ao hc.1] at h; cases h
  ·rw [<- hmc]; exact World.cell?_of_block (w := w) (setRow_other w b1 ad.block _ hbk)
 let g' := g1.relab (moveLab ow (.res 0))
 have hmk := markW_sound (w' := w') (g' := g') (c := .dead) hi hw hu (below_setRow hi hbase) (by simp [w',World.setRow]) rfl rfl hm (fun ad v h => by
   have h' : g1.m ad = some v := h
   by_cases hc : ad.block = b1 /\ ad.spot = none /\ off1 + xs.length * ksz k <= ad.off /\ ad.off < off1 + xs.length * ksz k + n1
   ·simp only [g1,Gh.share,if_pos hc] at h'; exact h'
   ·simp only [g1] at h'
    rw [share_out _ _ _ _ _ _ hc] at h'
    exact hkeepcell ad v h')
  (fun b' o' h1 h2 => by
   have hne : b' ≠ b1 := by rintro rfl; rw [f2] at h1; cases h1; exact h2 rfl
   refine ⟨setRow_other w b1 b' _ hne,?_,fun j => ?_⟩
   ·show (g.own b').bind (moveLab ow (.res 0)) = g.own b'
    rw [h1]; simp [moveLab,h2]
   ·show (g.share w' b1 _ n1).m _ = _
    rw [share_out]
    rintro ⟨q,_⟩
    exact hne q)
  (fun b' o' hb' => by
   obtain ⟨o'',e1,e2⟩ := relab_own hb'
   refine ⟨o'',e1,?_⟩
   unfold moveLab at e2
   split at e2
   ·cases e2; exact .inr (fun _ _ _ e => by cases e)
   ·cases e2; exact .inl rfl) rfl (by
   cases p with
   | tmp => exact trivial
   | cell l off => obtain ⟨b,hb,_⟩ := hw; exact ⟨b,hb,trivial⟩)
 have hfl : (xs ++ ys).flatten.length = xs.length * ksz k + us.length := by rw [List.flatten_append,List.length_append,hfx,hfy,hul]
 refine ⟨g',hmk.1,hmk.2,b1,off1,c1,(setCells cs.toList (off1 + xs.length * ksz k) us).toArray,T,by simp,?_,hw'heap,by simpa using hroom,f5,f6,by simp [setCells_len hfit']; exact f7,?_,?_,?_,?_⟩
 ·show (g.own b1).bind (moveLab ow (.res 0)) = _
  rw [f2]; simp [moveLab]
 ·intro x hx
  rcases List.mem_append.1 hx with h | h
  ·exact f8 x h
  ·exact hys x h
 ·intro j x hx
  rw [hnew]
  rcases flatten_append_get hx with ⟨h1,h2⟩ | ⟨h1,h2⟩
  ·rw [if_neg (by omega)]
   obtain ⟨v,hv,hr⟩ := f9 j x h2
   exact ⟨v,hv,hr.mono hm⟩
  ·obtain ⟨v,hv,hr⟩ := hd _ x h2
   have hlt := (gsi.1 hv).1
   rw [if_pos (by omega),show off1 + j - (off1 + xs.length * ksz k) = j - xs.flatten.length by omega]
   exact ⟨v,hv,hr.mono hm⟩
 ·intro he j
  subst he
  show (g.share w' b1 _ 0).m _ = none
  rw [share_out _ _ _ _ _ _ (by rintro ⟨_,_,q1,q2⟩; omega)]
  exact f10 rfl j
 ·intro he
  subst he
  have hn1 : n1 = us.length := rfl
  refine ⟨fun j hj => ?_,fun j hj => ?_⟩
  ·rw [hfl] at hj
   show (g.share w' b1 _ us.length).m _ = _
   by_cases hj2 : j < xs.length * ksz k
   ·rw [share_out _ _ _ _ _ _ (by rintro ⟨_,_,q1,q2⟩; simp only at q1; omega),hnew,if_neg (by omega)]
    exact (f11 rfl).1 j (by omega)
   ·rw [share_in _ _ _ _ _ _ (by omega) (by omega),cell_of_heap hw'heap]
  ·rw [hfl] at hj
   show (g.share w' b1 _ us.length).m _ = _
   rw [share_out _ _ _ _ _ _ (by rintro ⟨_,_,q1,q2⟩; simp only at q2; omega)]
   exact (f11 rfl).2 j (by omega)
end
end Go.Vx
