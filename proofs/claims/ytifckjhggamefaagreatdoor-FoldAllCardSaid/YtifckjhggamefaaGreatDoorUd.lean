/- The abstract interpreter of the model's code, and its soundness: a part. No condition. -/
import Derived.Test.YtifckjhggamefaaGreatDoorUc
import Derived.Lib.AppendStr
set_option linter.unusedSimpArgs false
set_option linter.unusedVariables false
set_option linter.unusedSectionVars false
namespace Go.Vx
open Go Go.RowKit
section
variable {P : Program} {cfg : Cfg} {base : Nat} {w0 w : World} {g : Gh} {d : Nat} {s : St} {vals : Array Value} {a : Act}
theorem RdRel.value {r : Rd} {u : Value} (hr : RdRel w g vals d s r u) : ∃ ad c,u = .slice ad r.rows.length c /\ r.rows.length <= c := by
 cases hr with
 | imm k xs _ h => obtain ⟨ad,c,h1,h2,_⟩ := h.slice; exact ⟨ad,c,h1,h2⟩
 | «at» p ex k xs _ ow h1 h2 h3 h4 => obtain ⟨b,off,c,cs,T,f1,f2,f3,f4,_⟩ := h4; exact ⟨_,c,f1,f4⟩
def AppArg (P : Program) (w : World) (g : Gh) (rb : Rd) (y : Value) : Prop :=
 (∀ w',(Builtin.lenOf y).run P w' = .ok rb.rows.length w') /\ ∀ k,rb.fits k = true -> ∃ us : List Value,us.length = rb.rows.length * k /\ (∀ x ∈ rb.rows,x.length = k) ∧
  (∀ w' : World,(∀ ad,w'.cell? ad = w.cell? ad) -> (Builtin.firstCells k rb.rows.length y).run P w' = .ok us.toArray w') /\ ∀ (j : Nat) x,rb.rows.flatten[j]? = some x -> ∃ v,us[j]? = some v /\ RelD g.m x v
theorem appArg_rd (hi : Inv base w0 w g d s vals) {rb : Rd} {u : Value} (Rb : RdRel w g vals d s rb u) : AppArg P w g rb u := by
 refine ⟨fun w' => ?_,fun k hk => ?_⟩
 ·obtain ⟨ad,c,rfl,_⟩ := Rb.value
  rfl
 ·obtain ⟨ad,cb,us,eb,hcb,hul,hyk,hus1,hus2,hus3⟩ := rd_cells hi Rb hk
  refine ⟨us,hul,hyk,fun w' hw' => ?_,hus3⟩
  rw [eb]
  exact firstCells_of hul hus1 fun b off e j v hv => by rw [hw']; exact hus2 b off e j v hv
theorem append_sound (hc : CfgOk P cfg) (hi : Inv base w0 w g d s vals) (hgl : GlobOk cfg g) (ha : a.tmps = vals) {t : TypeId} {x y : Operand} {rb : Rd} {pv : PV} {s1 : St} (h : aAppendR cfg t x rb s = some (pv,s1))
  (hB : AppArg P w g rb (a.eval y)) {argTypes : Array TypeId} (ha0 : argTypes[0]? = some t) (ha1 : NoZeros P argTypes) (ty : TypeId) :
  ∃ v w1 g1,(Builtin.append_ argTypes ty #[a.eval x,a.eval y]).run P w = .ok v w1 /\ Inv base w0 w1 g1 d s1 vals /\ Stp d s s1 w w1 g g1 /\ RelP w1 g1 vals s1 pv v := by
 unfold aAppendR at h
 obtain ⟨i,hti,h1⟩ := seqO_eq.1 h
 have hkd := (hc.ti t i hti).kind
 clear h
 split at h1
 ·rename_i e hk
  rw [hk] at hkd
  simp only [KindOk] at hkd
  obtain ⟨j,htj,h2⟩ := seqO_eq.1 h1
  clear h1
  have htj' := hc.ti e j htj
  obtain ⟨info,z,q1,q2,q3,q4,q5,q6⟩ := run_zero_size htj'
  split at h2
  ·cases h2
  ·rename_i hne
   have hk0 : 0 < j.size := Nat.pos_of_ne_zero fun e => hne (.inl e)
   have hb0 : 0 < j.bytes := Nat.pos_of_ne_zero fun e => hne (.inr e)
   obtain ⟨ra,hra,h4⟩ := seqO_eq.1 h2
   clear h2
   have Ra := rd_sound hi hgl ha hra
   obtain ⟨hblen,hB⟩ := hB
   simp only at h4
   split at h4
   ·rename_i hcond
    obtain ⟨hbytes,hfit⟩ := hcond
    obtain ⟨us,hul,hyk,hf0,hus3⟩ := hB _ hfit
    have hks := keyOf_ksz hc htj hk0
    have hkb : keyOf cfg e j = 0 -> e = g.bt := fun h => by rw [hgl.2]; exact keyOf_byte hk0 h
    have hyk' : ∀ x ∈ rb.rows,x.length = ksz (keyOf cfg e j) := by rw [hks]; exact hyk
    have hul' : us.length = rb.rows.length * ksz (keyOf cfg e j) := by rw [hks]; exact hul
    have q6' : z.cells.size = ksz (keyOf cfg e j) := by rw [hks]; exact q6
    have q2' : info.size = ksz (keyOf cfg e j) := by rw [hks]; exact q2
    have hmax : ra.rows.length + rb.rows.length <= 140737488355328 := Nat.le_trans (Nat.le_mul_of_pos_right _ hb0) hbytes
    have hmaxL : ra.rows.length + rb.rows.length <= maxLen := by simp only [maxLen]; omega
    have hf : ∀ w',(∀ ad,w'.cell? ad = w.cell? ad) -> (Builtin.firstCells info.size rb.rows.length (a.eval y)).run P w' = .ok us.toArray w' := by
     intro w' hw'
     rw [q2]
     exact hf0 w' hw'
    have hsame : us = [] -> ∀ ad' n c,a.eval x = .slice ad' n c -> n <= c -> rb.rows.length = 0 →
      (Builtin.append_ argTypes ty #[a.eval x,a.eval y]).run P w = .ok (.slice ad' (n + 0) c) w := by
     intro hu ad' n c ex hle hr0
     rw [ex]
     have := run_append_in (ty := ty) (w' := w) ha0 ha1 hkd q1 (hblen w) (hf w fun _ => rfl) (bs := ad') (n := n) (c := c) (by omega) (fun b _ => by rw [hu]; rfl) (fun _ => rfl)
     rw [hr0] at this
     exact this
    split at h4
    ·rename_i k xs
     cases Ra with
     | imm _ _ _ hd =>
      obtain ⟨ad',c',ex,hle,_⟩ := hd.slice
      change xs.length + rb.rows.length <= maxLen at hmaxL
      change (xs.length + rb.rows.length) * j.bytes <= 140737488355328 at hbytes
      change xs.length + rb.rows.length <= 140737488355328 at hmax
      split at h4
      ·rename_i hnil
       have hv := val_plain hi hgl ha hnil (by intro e; cases e) (by intro _ _ _ e; cases e) rfl rfl
       have hx0 : ∃ a0,a.eval x = .slice a0 0 0 := by
        generalize a.eval x = ux at hv
        cases hv
        exact ⟨_,rfl⟩
       obtain ⟨a0,ex0⟩ := hx0
       rw [ex0] at ex
       have hxl : xs.length = 0 := by simp only [Value.slice.injEq] at ex; exact ex.2.1.symm
       simp only [sjE,Prod.mk.injEq] at h4
       obtain ⟨rfl,rfl⟩ := h4
       cases hys : rb.rows with
       | nil =>
        have hu : us = [] := List.eq_nil_of_length_eq_zero (by rw [hul,hys]; simp)
        have hrun := hsame hu a0 0 0 ex0 (Nat.le_refl _) (by rw [hys]; rfl)
        exact ⟨_,w,g,hrun,hi,Stp.refl d _ w g,RelD.nil a0⟩
       | cons y0 ys0 =>
        rw [<- hys]
        have hpos : 0 < rb.rows.length := by rw [hys]; simp
        have hfo : (Builtin.firstCells info.size 0 (.slice a0 0 0)).run P w.drew = .ok #[] w.drew := by
         cases a0 <;> simp [Builtin.firstCells,loadCells,loadCellsFrom]
        have hrun := run_append_out (ty := ty) (w := w) ha0 ha1 hkd q1 q4 (bs := a0) (n := 0) (c := 0) (hblen w) hfo (hf w.drew fun _ => rfl) (by omega) (by simp only [maxLen] at hmaxL; omega) (growslice_fits (by omega) (by rw [q3]; simpa [hxl] using hbytes))
        rw [<- ex0] at hrun
        obtain ⟨g',k1,k2,k3⟩ := grown_sound (info := info) (e := e) (c := 0) (n := 0) (m := rb.rows.length) (z := z) (olds := []) (us := us) (rows := rb.rows) hi hkb q6' (by simp) hul' (by simp) hyk' (by simpa [hxl] using hmaxL) (fun j x hx => by simpa using hus3 j x hx) q2'
        refine ⟨_,_,g',hrun,k1,k2,?_⟩
        split
        ·rename_i h0; rw [h0] at hpos; simp at hpos
        ·exact k3
      ·split at h4
       ·rename_i hye
        simp only [sjE,Prod.mk.injEq] at h4
        obtain ⟨rfl,rfl⟩ := h4
        have hy0 : rb.rows = [] := by simpa using hye
        have hu : us = [] := List.eq_nil_of_length_eq_zero (by rw [hul,hy0]; simp)
        have hrun := hsame hu ad' xs.length c' ex hle (by rw [hy0]; rfl)
        refine ⟨_,w,g,hrun,hi,Stp.refl d _ w g,?_⟩
        rw [ex] at hd
        exact hd
       ·cases h4
    ·rename_i p ex k xs
     cases Ra with
     | «at» _ _ _ _ _ ow p1 p2 p3 p4 =>
      change xs.length + rb.rows.length <= maxLen at hmaxL
      change (xs.length + rb.rows.length) * j.bytes <= 140737488355328 at hbytes
      change xs.length + rb.rows.length <= 140737488355328 at hmax
      split at h4
      ·rename_i hkk
       subst hkk
       simp only [sjE,Prod.mk.injEq] at h4
       obtain ⟨rfl,rfl⟩ := h4
       have ⟨b,off,c,cs,T,f1,f2,f3,f4,f5,f6,f7,f8,f9,f10,f11⟩ := p4
       by_cases hroom : xs.length + rb.rows.length <= c
       ·obtain ⟨r1,g',r2,r3,r4⟩ := room_sound hi p2 p3 f1 p4 f3 hyk' hul' hroom hus3
        refine ⟨_,_,g',?_,r2,r3,r4⟩
        rw [f1]
        refine run_append_in (ty := ty) ha0 ha1 hkd q1 (hblen w) (hf w fun _ => rfl) hroom (fun b' hb' => ?_) (fun h => by cases h)
        obtain rfl := sij hb'
        have hone : ∀ v ∈ us,v.oneCell' = true := by
         intro v hv
         obtain ⟨jj,hj⟩ := List.getElem?_of_mem hv
         have hlt := (gsi.1 hj).1
         have hfy := flatten_len hyk
         have : jj < rb.rows.flatten.length := by omega
         obtain ⟨v',h1,h2⟩ := hus3 jj _ (gge this)
         rw [hj] at h1
         obtain rfl := sij h1
         exact h2.oneCell
        rw [hks] at r1 ⊢
        have hst := run_storeCells_at P b (off + xs.length * j.size) T us 0 cs w f3 (by simpa using r1) hone
        simp only [Nat.add_zero] at hst
        rw [q2,add_mk]
        exact hst
       ·have hfxl := flatten_len f8
        have holds : ∀ (jj : Nat),jj < xs.flatten.length -> ∃ x v,xs.flatten[jj]? = some x /\ cs[off + jj]? = some v /\ RelD g.m x v := fun jj hj => by
         obtain ⟨v,h1,h2⟩ := f9 jj _ (gge hj)
         exact ⟨_,v,gge hj,h1,h2⟩
        let olds := (List.range xs.flatten.length).map fun jj => (cs[off + jj]?).getD undef
        have hol' : olds.length = xs.length * ksz (keyOf cfg e j) := by simp only [olds,List.length_map,List.length_range]; exact hfxl
        have hol : olds.length = xs.length * j.size := by rw [<- hks]; exact hol'
        have holdget : ∀ (jj : Nat) v,olds[jj]? = some v -> cs[off + jj]? = some v := by
         intro jj v hv
         simp only [olds,List.getElem?_map] at hv
         cases hj : (List.range xs.flatten.length)[jj]? with
         | none => rw [hj] at hv; cases hv
         | some j' =>
          obtain ⟨hlt,he⟩ := gsi.1 hj
          simp only [List.length_range,List.getElem_range] at hlt he
          subst he
          obtain ⟨x',v',_,g1,_⟩ := holds jj hlt
          rw [hj] at hv
          simp only [Option.map_some,g1,Option.getD_some,sjE] at hv
          subst hv; exact g1
        have hfo : (Builtin.firstCells info.size xs.length (.slice (some ⟨b,off,none⟩) xs.length c)).run P w.drew = .ok olds.toArray w.drew := by
         rw [q2]
         refine firstCells_of hol (fun _ => ⟨b,off,rfl⟩) fun b' off' e jj v hv => ?_
         simp only [sjE,Addr.mk.injEq] at e
         obtain ⟨rfl,rfl,_⟩ := e
         show w.cell? _ = _
         rw [cell_of_heap f3]
         exact holdget jj v hv
        have hrun := run_append_out (ty := ty) (w := w) ha0 ha1 hkd q1 q4 (bs := some ⟨b,off,none⟩) (n := xs.length) (c := c) (hblen w) hfo (hf w.drew fun _ => rfl) (by omega) (by simp only [maxLen] at hmaxL; omega) (growslice_fits (by omega) (by rw [q3]; exact hbytes))
        rw [<- f1] at hrun
        obtain ⟨g',k1,k2,k3⟩ := grown_sound (info := info) (e := e) (c := c) (n := xs.length) (m := rb.rows.length) (z := z) (olds := olds) (us := us) (rows := xs ++ rb.rows) hi hkb q6' hol' hul' (by simp)
         (fun x hx => by rcases List.mem_append.1 hx with h | h <;> first | exact f8 x h | exact hyk' x h) hmaxL (fun jj x hx => by
          rcases flatten_append_get hx with ⟨h1,h2⟩ | ⟨h1,h2⟩
          ·obtain ⟨x',v,g0,g1,g2⟩ := holds jj h1
           rw [h2] at g0
           obtain rfl := sij g0
           refine ⟨v,?_,g2⟩
           rw [gal (by rw [hol']; omega)]
           simp only [olds,List.getElem?_map,List.getElem?_range h1,Option.map_some,g1,Option.getD_some]
          ·obtain ⟨v,g1,g2⟩ := hus3 _ x h2
           refine ⟨v,?_,g2⟩
           rw [gar (by rw [hol']; omega),hol',<- hfxl]; exact g1) q2'
        obtain ⟨m1,m2⟩ := dead_at k1 p1
        cases ex with
        | true => exact ⟨_,_,g',hrun,m1,k2.trans m2,k3⟩
        | false =>
         obtain ⟨g2,n1,n2,n3⟩ := sharepend_sound m1 k3
         exact ⟨_,_,g2,hrun,n1,(k2.trans m2).trans n2,n3⟩
      ·cases h4
   ·cases h4
 ·cases h1
end
end Go.Vx
namespace Go.Vx
open Go Go.RowKit
section
variable {P : Program} {cfg : Cfg} {base : Nat} {w0 w : World} {g : Gh} {d : Nat} {s : St} {vals : Array Value} {o : Oper} {a : Act}
theorem flatten_drop {k : Nat} : ∀ {xs : List (List D)} (l : Nat),(∀ x ∈ xs,x.length = k) -> (xs.drop l).flatten = xs.flatten.drop (l * k)
 | xs,0,_ => by simp
 | [],l + 1,_ => by simp
 | x :: xs,l + 1,h => by
  have hx : x.length = k := h x (mcs ..)
  have e1 : x.drop ((l + 1) * k) = [] := List.drop_of_length_le (by rw [hx,Nat.add_mul]; omega)
  have e2 : (l + 1) * k - x.length = l * k := by rw [hx,Nat.add_mul]; omega
  rw [List.drop_succ_cons,flatten_drop l (fun y hy => h y (mcm _ hy)),List.flatten_cons,List.drop_append,e1,e2,List.nil_append]
theorem flatten_take_get {xs : List (List D)} {n j : Nat} {x : D} (h : (xs.take n).flatten[j]? = some x) : xs.flatten[j]? = some x := by
 have e : xs.flatten = (xs.take n).flatten ++ (xs.drop n).flatten := by rw [<- List.flatten_append,List.take_append_drop]
 rw [e,gal (gsi.1 h).1]
 exact h
theorem sub_get {k l n : Nat} {xs : List (List D)} (h : ∀ x ∈ xs,x.length = k) {j : Nat} {x : D} (hx : ((xs.take n).drop l).flatten[j]? = some x) : xs.flatten[l * k + j]? = some x := by
 rw [flatten_drop l (fun y hy => h y (List.mem_of_mem_take hy)),List.getElem?_drop] at hx
 exact flatten_take_get hx
theorem sub_len {α : Type} {xs : List α} {l n : Nat} (h1 : l <= n) (h2 : n <= xs.length) : ((xs.take n).drop l).length = n - l := by
 simp only [List.length_drop,List.length_take]; omega
theorem relD_sub {m : Addr -> Option Value} {k l n c : Nat} {xs : List (List D)} {ad : Option Addr} (h : RelD m (.sl k xs) (.slice ad xs.length c)) (h1 : l <= n) (h2 : n <= xs.length) (h3 : xs.length <= c) :
  RelD m (.sl k ((xs.take n).drop l)) (.slice (if c = l then ad else ad.map (·.add (l * k))) (n - l) (c - l)) := by
 have hlen := sub_len h1 h2
 by_cases hn : n = l
 ·have : (xs.take n).drop l = [] := List.eq_nil_of_length_eq_zero (by omega)
  rw [this,hn,Nat.sub_self]
  exact .emp k _ _
 ·have hcl : ¬ c = l := by omega
  obtain ⟨ad',c',e,_,h4⟩ := h.slice
  simp only [Value.slice.injEq] at e
  obtain ⟨rfl,_,rfl⟩ := e
  have hne : xs ≠ [] := by rintro rfl; simp at h2; omega
  obtain ⟨h5,b,off,us,rfl,h6⟩ := h4 hne
  rw [if_neg hcl,<- hlen]
  simp only [Option.map_some,add_mk]
  exact relD_of_cells (by omega) (fun x hx => h5 x (List.mem_of_mem_take (List.mem_of_mem_drop hx))) (fun j => us (l * k + j)) fun j x hx => by
   rw [Nat.add_assoc]; exact h6 _ x (sub_get h5 hx)
def BoundIs (a : Act) (lo : Option Operand) (dflt l : Int) : Prop :=
 match lo with
 | some x => ∃ k,a.eval x = .int k l
 | none => l = dflt
theorem run_bounds {b : Bool} {len cap : Nat} {lo hi : Option Operand} {l h : Int} (hl : BoundIs a lo 0 l) (hh : BoundIs a hi len h)
  (h0 : 0 <= l) (h1 : l <= h) (h2 : h <= len) (h3 : len <= cap) : (Instr.sliceBounds b len cap (lo.map a.eval) (hi.map a.eval) none).run P w = .ok (l.toNat,h.toNat,cap) w := by
 have key : ∀ (y : Nat) (x : Int) (k : IntKind) (code : BoundsCode),0 <= x -> x <= y -> (Instr.sliceBound (.int k x) y code).run P w = .ok x.toNat w := by
  intro y x k code hx hy
  simp [Instr.sliceBound,asIntOf,hx,hy]
 cases hi with
 | none =>
  obtain rfl := hh
  cases lo with
  | none => obtain rfl := hl; simp [Instr.sliceBounds]
  | some x =>
   obtain ⟨k,e⟩ := hl
   have hk := fun code => key len l k code h0 (by omega)
   simp [Instr.sliceBounds,e,hk]
 | some y =>
  obtain ⟨ky,ey⟩ := hh
  have hk2 := fun code => key cap h ky code (by omega) (by omega)
  cases lo with
  | none => obtain rfl := hl; simp [Instr.sliceBounds,ey,hk2]
  | some x =>
   obtain ⟨k,e⟩ := hl
   have hk := fun code => key h.toNat l k code h0 (by omega)
   simp [Instr.sliceBounds,e,ey,hk,hk2]
theorem bound_val (hi : Inv base w0 w g d s vals) (hgl : GlobOk cfg g) (ha : a.tmps = vals) {lo : Option Operand} {dflt l : Int} (h : (match lo with | some x => aint (s.val cfg x) | none => some dflt) = some l) : BoundIs a lo dflt l := by
 cases lo with
 | none => exact (sij h).symm
 | some x => exact val_int hi hgl ha h
theorem slice_exec {t : TypeId} {x : Operand} {lo hi mx : Option Operand} (ho : o.op = .slice t x lo hi mx) {v : Value} {w' : World} (hr : (Instr.sliceAt t (a.eval x) (lo.map a.eval) (hi.map a.eval) (mx.map a.eval)).run P w = .ok v w') :
  (execOp a.eval o).run P w = .ok (.value v) w' := by
 simp only [execOp,ho,Sem.run_bind,hr,Result.andThen_ok,Sem.run_pure]
theorem slice_sound (hc : CfgOk P cfg) (hi : Inv base w0 w g d s vals) (hgl : GlobOk cfg g) (ha : a.tmps = vals) {t : TypeId} {pl : Pol} {x : Operand} {lo hi' mx : Option Operand} (ho : o.op = .slice t x lo hi' mx) {s' : St}
  (h : (seqO (aSlice cfg t pl x lo hi' mx s) fun p => some (put p.2 o.dst p.1)) = some s') : Goes P o a base w0 w g d s vals s' := by
 obtain ⟨⟨pv,s1⟩,h1,h2⟩ := seqO_eq.1 h
 obtain rfl := sij h2
 clear h h2
 unfold aSlice at h1
 obtain ⟨l,hl,h3⟩ := seqO_eq.1 h1
 clear h1
 have hL := bound_val hi hgl ha hl
 split at h3
 ·cases h3
 ·rename_i hl0
  have hl0' : 0 <= l := by omega
  obtain ⟨i,hti,h4⟩ := seqO_eq.1 h3
  clear h3
  have hkd := (hc.ti t i hti).kind
  split at h4
  ·rename_i hk
   rw [hk] at hkd
   simp only [KindOk] at hkd
   split at h4
   ·rename_i b hv
    obtain ⟨hh,hhe,h5⟩ := seqO_eq.1 h4
    have hH := bound_val hi hgl ha hhe
    split at h5
    ·rename_i hcond
     simp only [sjE,Prod.mk.injEq] at h5
     obtain ⟨rfl,rfl⟩ := h5
     have hx := val_lit hi hgl ha hv
     have hb := run_bounds (P := P) (w := w) (b := false) (len := b.size) (cap := b.size) hL hH hl0' hcond.1 hcond.2 (Nat.le_refl _)
     refine goes_same (v := .string (b.extract l.toNat hh.toNat)) (slice_exec ho ?_) hi lit_rel
     simp [Instr.sliceAt,Instr.slice,run_underlying hkd,hx,hb]
    ·cases h5
   ·cases h4
  ·rename_i e hk
   rw [hk] at hkd
   simp only [KindOk] at hkd
   obtain ⟨j,htj,h5⟩ := seqO_eq.1 h4
   obtain ⟨r,hr,h6⟩ := seqO_eq.1 h5
   obtain ⟨hh,hhe,h7⟩ := seqO_eq.1 h6
   clear h4 h5 h6
   have Rr := rd_sound hi hgl ha hr
   have hH := bound_val hi hgl ha hhe
   have hsz := run_sizeOf' (hc.ti e j htj) w
   obtain ⟨ad,c,ev,hle⟩ := Rr.value
   split at h7
   ·rename_i hcond
    obtain ⟨m,hm,h8⟩ := seqO_eq.1 h7
    clear h7
    have hrun : mx = none -> (Instr.sliceAt t (a.eval x) (lo.map a.eval) (hi'.map a.eval) (mx.map a.eval)).run P w = .ok (.slice (if c = l.toNat then ad else ad.map (·.add (l.toNat * j.size))) (hh.toNat - l.toNat) (c - l.toNat)) w := by
     rintro rfl
     have hb := run_bounds (P := P) (w := w) (b := true) (cap := c) hL hH hl0' hcond.1 hcond.2 hle
     simp [Instr.sliceAt,Instr.slice,run_underlying hkd,ev,hb,hsz]
    have hn1 : l.toNat <= hh.toNat := by omega
    have hn2 : hh.toNat <= r.rows.length := by omega
    split at h8
    ·rename_i m'
     split at h8
     ·rename_i hml
      obtain ⟨rfl,rfl,hsome⟩ := hml
      simp only [sjE,Prod.mk.injEq] at h8
      obtain ⟨rfl,rfl⟩ := h8
      cases mx with
      | none => cases hm
      | some om =>
       obtain ⟨m2,hm2,hm3⟩ := seqO_eq.1 hm
       simp only [sjE] at hm3
       subst hm3
       obtain ⟨km,em⟩ := val_int hi hgl ha hm2
       cases hi' with
       | none =>
        cases hsome
       | some oh =>
        obtain ⟨kh,eh⟩ := hH
        have key : ∀ (y : Nat) (z : Int) (k : IntKind) (code : BoundsCode),0 <= z -> z <= y -> (Instr.sliceBound (.int k z) y code).run P w = .ok z.toNat w := by
         intro y z k code hx hy
         simp [Instr.sliceBound,asIntOf,hx,hy]
        have k1 := fun code => key c m2 km code hl0' (by omega)
        have k2 := fun code => key m2.toNat m2 kh code hl0' (by omega)
        have hb : (Instr.sliceBounds true r.rows.length c (lo.map a.eval) (some (a.eval oh)) (some (a.eval om))).run P w = .ok (m2.toNat,m2.toNat,m2.toNat) w := by
         cases lo with
         | none =>
          have hL' : m2 = 0 := hL
          subst hL'
          have k2' := fun code => key 0 0 kh code (Int.le_refl _) (Int.le_refl _)
          simp at k1 k2'
          simp [Instr.sliceBounds,em,eh,k1,k2']
         | some ol =>
          obtain ⟨kl,el⟩ := hL
          have k3 := fun code => key m2.toNat m2 kl code hl0' (by omega)
          simp [Instr.sliceBounds,em,eh,el,k1,k2,k3]
        refine goes_same (v := .slice ad 0 0) (slice_exec ho ?_) hi (RelD.nil ad)
        simp [Instr.sliceAt,Instr.slice,run_underlying hkd,ev,hb,hsz]
     ·cases h8
    ·have hmx : mx = none := by
      cases mx with
      | none => rfl
      | some om => obtain ⟨m2,_,hm3⟩ := seqO_eq.1 hm; cases hm3
     have hrun' := hrun hmx
     split at h8
     ·rename_i k xs
      cases Rr with
      | imm _ _ _ hd =>
       change hh.toNat <= xs.length at hn2
       change xs.length <= c at hle
       rw [ev] at hd
       split at h8
       ·rename_i hfit
        simp only [sjE,Prod.mk.injEq] at h8
        obtain ⟨rfl,rfl⟩ := h8
        refine goes_same (slice_exec ho hrun') hi ?_
        by_cases hkk : k = j.size
        ·subst hkk; exact relD_sub hd hn1 hn2 hle
        ·have hx0 : xs = [] := by simpa [hkk] using hfit
         subst hx0
         simp only [List.length_nil,Nat.le_zero] at hn2
         have : hh.toNat - l.toNat = 0 := by omega
         rw [this]
         simp only [List.take_nil,List.drop_nil]
         exact .emp k _ _
       ·cases h8
     ·rename_i p ex k xs
      cases Rr with
      | «at» _ _ _ _ _ ow p1 p2 p3 p4 =>
       change hh.toNat <= xs.length at hn2
       change xs.length <= c at hle
       split at h8
       ·rename_i hkk
        obtain ⟨rfl,hj0⟩ := hkk
        have hks := keyOf_ksz hc htj hj0
        rw [<- hks] at hrun'
        have shared : ∀ (pv' : PV) (s2 : St),some (PV.dat (.sl (ksz (keyOf cfg e j)) ((xs.take hh.toNat).drop l.toNat)),if ex then s.mark p (.own false (keyOf cfg e j) xs) else s) = some (pv',s2) -> Goes P o a base w0 w g d s vals (put s2 o.dst pv') := by
         intro pv' s2 e
         simp only [sjE,Prod.mk.injEq] at e
         obtain ⟨rfl,rfl⟩ := e
         cases ex with
         | true =>
          obtain ⟨g',u,q1,q2,q3,q4,_⟩ := share_sound hi p1
          rw [p3] at q1
          obtain rfl := sij q1
          rw [ev] at q4
          exact goes_of_pend (.inl (slice_exec ho hrun')) q2 q3 (relD_sub q4 hn1 hn2 hle)
         | false =>
          have q4 := own_shared p4
          rw [ev] at q4
          exact goes_same (slice_exec ho hrun') hi (relD_sub q4 hn1 hn2 hle)
        split at h8
        ·split at h8
         ·rename_i hex
          subst hex
          simp only [sjE,Prod.mk.injEq] at h8
          obtain ⟨rfl,rfl⟩ := h8
          have hhx : hh.toNat = xs.length := by
           have : hh = (xs.length : Int) := hH
           omega
          obtain ⟨g',u,q1,q2,q3,q4⟩ := dead_sound hi p1
          rw [p3] at q1
          obtain rfl := sij q1
          refine goes_of_pend (.inl (slice_exec ho hrun')) q2 q3 ?_
          obtain ⟨b,off,c1,cs,T,f1,f2,f3,f4,f5,f6,f7,f8,f9,f10,f11⟩ := q4
          rw [ev] at f1
          simp only [Value.slice.injEq] at f1
          obtain ⟨rfl,_,rfl⟩ := f1
          rw [hhx] at hn1 ⊢
          have hfd := flatten_drop (k := ksz (keyOf cfg e j)) l.toNat f8
          have hmul : l.toNat * ksz (keyOf cfg e j) <= c * ksz (keyOf cfg e j) := Nat.mul_le_mul_right _ (by omega)
          by_cases hcl : c = l.toNat
          ·have hxl : xs.drop l.toNat = [] := List.drop_of_length_le (by omega)
           rw [if_pos hcl,hxl]
           refine ⟨b,off,c - l.toNat,cs,T,by simp; omega,f2,f3,by simp,by omega,f6,?_,by simp,by simp,fun _ => f10 rfl,(by intro h; cases h)⟩
           rw [show c - l.toNat = 0 by omega]; omega
          ·rw [if_neg hcl]
           refine ⟨b,off + l.toNat * ksz (keyOf cfg e j),c - l.toNat,cs,T,by simp [add_mk],f2,f3,by simp; omega,by omega,f6,?_,fun y hy => f8 y (List.mem_of_mem_drop hy),fun q y hy => ?_,fun _ => f10 rfl,(by intro h; cases h)⟩
           ·rw [Nat.sub_mul]; omega
           ·rw [hfd,List.getElem?_drop] at hy
            rw [Nat.add_assoc]
            exact f9 _ y hy
         ·rename_i hex
          have hex' : ex = false := by simpa using hex
          subst hex'
          exact shared _ _ h8
        ·exact shared _ _ h8
       ·cases h8
   ·cases h7
  ·cases h4
end
end Go.Vx
namespace Go.Vx
open Go Go.RowKit
section
variable {P : Program} {cfg : Cfg} {base : Nat} {w0 w : World} {g : Gh} {d : Nat} {s : St} {vals : Array Value} {a : Act}
theorem foldl_set (off : Nat) : ∀ (l : List Value) (k : Nat) (A : Array Value),off + k + l.length <= A.size →
  ((l.zipIdx k).foldl (fun cs (x : Value × Nat) => cs.setIfInBounds (off + x.2) x.1) A).size = A.size ∧
  ∀ i,((l.zipIdx k).foldl (fun cs (x : Value × Nat) => cs.setIfInBounds (off + x.2) x.1) A)[i]? = if off + k <= i /\ i < off + k + l.length then l[i - (off + k)]? else A[i]?
 | [],k,A,_ => by
  refine ⟨rfl,fun i => ?_⟩
  rw [if_neg (by simp)]; rfl
 | v :: l,k,A,h => by
  simp only [List.length_cons] at h
  obtain ⟨h1,h2⟩ := foldl_set off l (k + 1) (A.setIfInBounds (off + k) v) (by simp; omega)
  simp only [List.zipIdx_cons,List.foldl_cons]
  refine ⟨by rw [h1]; simp,fun i => ?_⟩
  rw [h2 i,Array.getElem?_setIfInBounds]
  simp only [List.length_cons]
  by_cases e : i = off + k
  ·subst e
   rw [if_neg (by omega),if_pos rfl,if_pos (by omega),if_pos (by omega)]
   simp
  ·by_cases c : off + (k + 1) <= i /\ i < off + (k + 1) + l.length
   ·rw [if_pos c,if_pos (by omega),show i - (off + k) = (i - (off + (k + 1))) + 1 by omega,List.getElem?_cons_succ]
   ·rw [if_neg c,if_neg (fun e' => e e'.symm),if_neg (by omega)]
theorem fill_step (off : Nat) (us A : Array Value) (h : off + us.size <= A.size) :
  (us.zipIdx.foldl (fun cs (x : Value × Nat) => cs.setIfInBounds (off + x.2) x.1) A).size = A.size ∧
  ∀ i,(us.zipIdx.foldl (fun cs (x : Value × Nat) => cs.setIfInBounds (off + x.2) x.1) A)[i]? = if off <= i /\ i < off + us.size then us[i - off]? else A[i]? := by
 have e : us.zipIdx.foldl (fun cs (x : Value × Nat) => cs.setIfInBounds (off + x.2) x.1) A = (us.toList.zipIdx 0).foldl (fun cs (x : Value × Nat) => cs.setIfInBounds (off + x.2) x.1) A := by
  rw [<- Array.foldl_toList]
  congr 1
  simp
 rw [e]
 obtain ⟨h1,h2⟩ := foldl_set off us.toList 0 A (by simpa using h)
 refine ⟨h1,fun i => ?_⟩
 rw [h2 i]
 simp
def PartsRel (g : Gh) : List (Nat × PV) -> List (Nat × Value) -> Prop
 | [],[] => True
 | (i,c) :: xs,(j,v) :: ys => i = j /\ RelA g c v /\ PartsRel g xs ys
 | _,_ => False
def RowsRel (g : Gh) (k : Nat) (rows : List (List D)) (A : Array Value) : Prop :=
 A.size = rows.length * k /\ (∀ x ∈ rows,x.length = k) /\ ∀ (j : Nat) x,rows.flatten[j]? = some x -> ∃ v,A[j]? = some v /\ RelD g.m x v
theorem relA_cells {c : PV} {u : Value} {cs : List PV} {ds : List D} (hr : RelA g c u) (hc : c.cells = some cs) (hd : toDs cs = some ds) : u.cells.size = ds.length /\ ∀ (j : Nat) x v,ds[j]? = some x -> u.cells[j]? = some v -> RelD g.m x v := by
 obtain ⟨d1,d2⟩ := toDs_rel hd
 have hall : cs.all isCell = true := by
  refine List.all_eq_true.2 fun x hx => ?_
  obtain ⟨j,hj⟩ := List.getElem?_of_mem hx
  have hlt : j < ds.length := by rw [d1]; exact (gsi.1 hj).1
  obtain ⟨c',h1,h2⟩ := d2 j ds[j] (gge hlt)
  rw [hj] at h1
  obtain rfl := sij h1
  cases x with
  | dat y =>
   cases y with
   | lit q =>
    simp only [PV.toD] at h2
    split at h2
    ·assumption
    ·cases h2
   | nil => rfl
   | sl => rfl
   | any => rfl
  | _ => cases h2
 obtain ⟨h1,h2⟩ := cells_rel hr hc hall
 refine ⟨by rw [h1,d1],fun j x v hx hv => ?_⟩
 obtain ⟨c',h3,h4⟩ := d2 j x hx
 exact toD_rel h4 (h2 j c' v h3 hv)
theorem fill_rows {k : Nat} {zero : List D} (hz : zero.length = k) : ∀ (ps : List (Nat × PV)) (vs : List (Nat × Value)) (rows rows' : List (List D)) (A : Array Value),PartsRel g ps vs -> RowsRel g k rows A →
  aRows zero ps rows = some rows' -> ∃ A',Instr.fill (fun i => some (i * k,k)) A vs = some A' /\ RowsRel g k rows' A' /\ rows'.length = rows.length
 | [],[],rows,rows',A,_,hR,h => by
  obtain rfl := sij h
  exact ⟨A,rfl,hR,rfl⟩
 | (f,c) :: ps,(f',v) :: vs,rows,rows',A,hP,hR,h => by
  obtain ⟨rfl,hA,hP'⟩ := hP
  simp only [aRows] at h
  obtain ⟨cs,h1,h2⟩ := seqO_eq.1 h
  obtain ⟨ds,h3,h4⟩ := seqO_eq.1 h2
  split at h4
  ·rename_i hcond
   obtain ⟨hdl,hfl⟩ := hcond
   obtain ⟨e1,e2⟩ := relA_cells hA h1 h3
   obtain ⟨r1,r2,r3⟩ := hR
   rw [hz] at hdl
   have hmul : f * k + k <= rows.length * k := by
    have := Nat.mul_le_mul_right k (show f + 1 <= rows.length from hfl)
    rw [Nat.add_mul,Nat.one_mul] at this; exact this
   obtain ⟨s1,s2⟩ := fill_step (f * k) v.cells A (by rw [r1,e1,hdl]; exact hmul)
   have hrow : rows[f]? = some rows[f] := gge hfl
   obtain ⟨A',q1,q2,q3⟩ := fill_rows hz ps vs (rows.set f ds) rows' (v.cells.zipIdx.foldl (fun cs (x : Value × Nat) => cs.setIfInBounds (f * k + x.2) x.1) A) hP' ⟨by rw [s1,r1,lls],fun x hx => by
     rcases List.mem_or_eq_of_mem_set hx with h | h
     ·exact r2 x h
     ·subst h; exact hdl,fun j x hx => by
     rw [flatten_set r2 hrow hdl] at hx
     rw [s2]
     by_cases hc : f * k <= j /\ j < f * k + k
     ·rw [if_pos hc] at hx
      rw [if_pos (by rw [e1,hdl]; exact hc)]
      have hlt : j - f * k < v.cells.size := by rw [e1,hdl]; omega
      exact ⟨v.cells[j - f * k],agg hlt,e2 _ x _ hx (agg hlt)⟩
     ·rw [if_neg hc] at hx
      rw [if_neg (by rw [e1,hdl]; exact hc)]
      exact r3 j x hx⟩ h4
   refine ⟨A',?_,q2,by rw [q3,lls]⟩
   simp only [Instr.fill]
   rw [if_neg]
   ·exact q1
   ·simp only [ne_eq,Bool.or_eq_true,dqE,not_or,Decidable.not_not]
    refine ⟨by rw [e1,hdl],by rw [r1,e1,hdl]; omega⟩
  ·cases h4
 | [],_ :: _,_,_,_,hP,_,_ => hP.elim
 | _ :: _,[],_,_,_,hP,_,_ => hP.elim
def AggRel (g : Gh) (cs : List PV) (A : Array Value) : Prop := A.size = cs.length /\ ∀ (j : Nat) c v,cs[j]? = some c -> A[j]? = some v -> RelC g c v
theorem fill_agg {i : TI} {place : Nat -> Option (Nat × Nat)} (hplace : ∀ f off n,(match i.kind with
   | .struct fs => fs[f]?.bind fun p => (cfg.ti p.2).map fun j => (p.1,j.size)
   | .array _ e => (cfg.ti e).map fun j => (f * j.size,j.size)
   | _ => none) = some (off,n) -> place f = some (off,n)) : ∀ (ps : List (Nat × PV)) (vs : List (Nat × Value)) (cells cells' : List PV) (A : Array Value),PartsRel g ps vs -> AggRel g cells A →
  aBuild cfg i ps cells = some cells' -> ∃ A',Instr.fill place A vs = some A' /\ AggRel g cells' A' /\ cells'.length = cells.length
 | [],[],cells,cells',A,_,hR,h => by
  obtain rfl := sij h
  exact ⟨A,rfl,hR,rfl⟩
 | (f,c) :: ps,(f',v) :: vs,cells,cells',A,hP,hR,h => by
  obtain ⟨rfl,hA,hP'⟩ := hP
  have key : ∀ (off n : Nat) (cs : List PV),place f = some (off,n) -> c.cells = some cs -> cs.length = n /\ off + cs.length <= cells.length /\ cs.all isCell = true -> aBuild cfg i ps (setCells cells off cs) = some cells' →
    ∃ A',Instr.fill place A ((f,v) :: vs) = some A' /\ AggRel g cells' A' /\ cells'.length = cells.length := by
   intro off n cs hp hc hcond hb
   obtain ⟨c1,c2,c3⟩ := hcond
   obtain ⟨e1,e2⟩ := cells_rel hA hc c3
   obtain ⟨r1,r2⟩ := hR
   obtain ⟨s1,s2⟩ := fill_step off v.cells A (by rw [r1,e1]; exact c2)
   obtain ⟨A',q1,q2,q3⟩ := fill_agg hplace ps vs (setCells cells off cs) cells' (v.cells.zipIdx.foldl (fun cs (x : Value × Nat) => cs.setIfInBounds (off + x.2) x.1) A) hP' ⟨by rw [s1,r1,setCells_len c2],fun j x u hx hu => by
     rw [setCells_get c2] at hx
     rw [s2] at hu
     by_cases hc : off <= j /\ j < off + cs.length
     ·rw [if_pos hc] at hx
      rw [if_pos (by rw [e1]; exact hc)] at hu
      exact e2 _ x u hx hu
     ·rw [if_neg hc] at hx
      rw [if_neg (by rw [e1]; exact hc)] at hu
      exact r2 j x u hx hu⟩ hb
   refine ⟨A',?_,q2,by rw [q3,setCells_len c2]⟩
   simp only [Instr.fill,hp]
   rw [if_neg]
   ·exact q1
   ·simp only [ne_eq,Bool.or_eq_true,dqE,not_or,Decidable.not_not]
    refine ⟨by rw [e1,c1],by rw [r1,e1]; omega⟩
  simp only [aBuild] at h
  split at h
  ·rename_i fs hk
   obtain ⟨p,h1,h2⟩ := seqO_eq.1 h
   obtain ⟨j,h3,h4⟩ := seqO_eq.1 h2
   obtain ⟨cs,h5,h6⟩ := seqO_eq.1 h4
   split at h6
   ·rename_i hcond
    exact key p.1 j.size cs (hplace f p.1 j.size (by rw [hk]; simp [h1,h3])) h5 ⟨hcond.1,hcond.2.1,hcond.2.2.1⟩ h6
   ·cases h6
  ·rename_i n e hk
   obtain ⟨j,h3,h4⟩ := seqO_eq.1 h
   obtain ⟨cs,h5,h6⟩ := seqO_eq.1 h4
   split at h6
   ·rename_i hcond
    exact key (f * j.size) j.size cs (hplace f _ j.size (by rw [hk]; simp [h3])) h5 ⟨hcond.1,hcond.2.1,hcond.2.2.1⟩ h6
   ·cases h6
  ·cases h
 | [],_ :: _,_,_,_,hP,_,_ => hP.elim
 | _ :: _,[],_,_,_,hP,_,_ => hP.elim
theorem parts_rel {a : Act} : ∀ (l : List (Nat × Operand)) (cs : List PV),cs.length = l.length -> (∀ (j : Nat) x c,(l.map (·.2))[j]? = some x -> cs[j]? = some c -> RelA g c (a.eval x)) →
  PartsRel g ((l.map (·.1)).zip cs) (l.map fun p => (p.1,a.eval p.2))
 | [],cs,h,_ => by
  have : cs = [] := List.eq_nil_of_length_eq_zero h
  subst this; exact trivial
 | (i,x) :: l,[],h,_ => by simp at h
 | (i,x) :: l,c :: cs,h,hr => by
  refine ⟨rfl,hr 0 x c rfl rfl,parts_rel l cs (by simpa using h) fun j y c' hy hc => hr (j + 1) y c' (by simpa using hy) (by simpa using hc)⟩
theorem run_mapM {α β : Type} {f : α -> Sem β} {h : α -> β} : ∀ (l : List α),(∀ x ∈ l,(f x).run P w = .ok (h x) w) -> (l.mapM f).run P w = .ok (l.map h) w
 | [],_ => by simp
 | x :: l,hx => by
  have ih := run_mapM l fun y hy => hx y (mcm _ hy)
  simp only [List.mapM_cons,Sem.run_bind,hx x (mcs ..),Result.andThen_ok,ih,Sem.run_pure,List.map_cons]
theorem run_mapMA {α β : Type} {f : α -> Sem β} {h : α -> β} (l : Array α) (hl : ∀ x ∈ l.toList,(f x).run P w = .ok (h x) w) : (l.mapM f).run P w = .ok (l.map h) w := by
 rw [Array.mapM_eq_mapM_toList]
 simp only [Sem.run_map,run_mapM l.toList hl,Result.andThen_ok]
 have e : (l.toList.map h).toArray = l.map h := by rw [<- Array.toList_map]
 first | exact congrArg (fun z => Result.ok z w) e | (rw [<- e]; rfl) | simp [e]
theorem share_res (hi : Inv base w0 w g d s vals) {j : Nat} {ex : Bool} {k : Nat} {xs : List (List D)} {v : Value} (h : OwnRel w g (.res j) ex k xs v) : ∃ g',Inv base w0 w g' d s vals /\ Stp d s s w w g g' /\ RelD g'.m (.sl (ksz k) xs) v := by
 cases ex with
 | false => exact ⟨g,hi,Stp.refl d s w g,own_shared h⟩
 | true =>
  obtain ⟨b,off,c,cs,T,e1,e2,e3,e4,e5,e6,e7,e8,e9,e10,e11⟩ := h
  have hcell : ∀ j,w.cell? ⟨b,j,none⟩ = cs[j]? := fun j => cell_of_heap e3
  have hm : ∀ a v,g.m a = some v -> (g.share w b off xs.flatten.length).m a = some v := by
   intro a v h
   by_cases hc : a.block = b /\ a.spot = none /\ off <= a.off /\ a.off < off + xs.flatten.length
   ·obtain ⟨c1,c2,_⟩ := hc
    have : g.m a = none := by
     have := e10 rfl a.off
     cases a with
     | mk ab ao asp => simp only at c1 c2; subst c1; subst c2; exact this
    rw [this] at h; cases h
   ·rw [share_out _ _ _ _ _ _ hc]; exact h
  have hg : Grows g (g.share w b off xs.flatten.length) := ⟨hm,fun _ _ h => h,rfl⟩
  have hin : ∀ j,j < xs.flatten.length -> (g.share w b off xs.flatten.length).m ⟨b,off + j,none⟩ = cs[off + j]? := by
   intro j hj
   rw [share_in _ _ _ _ _ _ (by omega) (by omega),hcell]
  have hout : ∀ j,off + xs.flatten.length <= j -> (g.share w b off xs.flatten.length).m ⟨b,j,none⟩ = none := by
   intro j hj
   rw [share_out _ _ _ _ _ _ (by rintro ⟨_,_,q1,q2⟩; simp only at q2; omega)]
   exact e10 rfl j
  have hown : OwnRel w (g.share w b off xs.flatten.length) (.res j) false k xs v :=
   ⟨b,off,c,cs,T,e1,e2,e3,e4,e5,e6,e7,e8,fun j d hd => (e9 j d hd).imp fun v hv => ⟨hv.1,hv.2.mono hm⟩,(by intro h; cases h),fun _ => ⟨hin,hout⟩⟩
  have h1 := inv_grow (w1 := w) (g1 := g.share w b off xs.flatten.length) (nbs := []) (nbl := []) hi hi.low hg (fun a v h => by
    by_cases hc : a.block = b /\ a.spot = none /\ off <= a.off /\ a.off < off + xs.flatten.length
    ·rw [Gh.share] at h
     simp only [if_pos hc] at h
     exact h
    ·rw [share_out _ _ _ _ _ _ hc] at h; exact hi.mem a v h)
   (fun b' o' hb' hne => ⟨rfl,rfl,fun j' => by
    rw [share_out]
    rintro ⟨q,_⟩
    simp only at q
    subst q
    rw [e2] at hb'
    cases hb'
    exact hne j rfl⟩)
   (fun b' o' hb' => .inl hb') (Nat.le_refl _) (by simp [Gh.share]) rfl List.nodup_nil (fun b hb => by cases hb) (fun l b bx h => by simp at h)
  have hs : ({ s with bx := s.bx ++ [] } : St) = s := by simp
  rw [hs] at h1
  exact ⟨_,h1.1,h1.2,own_shared hown⟩
theorem relP_frz (hi : Inv base w0 w g d s vals) (pol : Option Pol) {r : PV} {v : Value} (hr : RelP w g vals s r v) : ∃ g',Inv base w0 w g' d s vals /\ Stp d s s w w g g' /\ RelP w g' vals s (frzIf pol r) v := by
 have same : ∃ g',Inv base w0 w g' d s vals /\ Stp d s s w w g g' /\ RelP w g' vals s r v := ⟨g,hi,Stp.refl d s w g,hr⟩
 cases pol with
 | none => exact same
 | some p =>
  cases p with
  | copy =>
   cases r with
   | own ex k xs =>
    obtain ⟨g',h1,h2,h3⟩ := share_res hi (show OwnRel w g (.res 0) ex k xs v from hr)
    exact ⟨g',h1,h2,h3⟩
   | _ => exact same
  | _ => exact same
end
end Go.Vx
namespace Go.Vx
open Go Go.RowKit
section
variable {P : Program} {cfg : Cfg} {base : Nat} {w0 w : World} {g : Gh} {d : Nat} {s : St} {vals : Array Value} {o : Oper} {a : Act}
theorem map_parts (ps : Array (Nat × Operand)) (ev : Operand -> Value) : (ps.map fun (x : Nat × Operand) => (x.1,ev x.2)).toList = ps.toList.map fun p => (p.1,ev p.2) := by simp
theorem build0_sound (hc : CfgOk P cfg) (hi : Inv base w0 w g d s vals) {t e : TypeId} {ps : Array (Nat × Operand)} (hkd : P.underlying t = some (.slice e)) {j : TI} (htj' : TiOk P e j) (c1 : 0 < j.size) (ho : o.op = .buildSlice t 0 ps) (hps : ps.toList = []) :
  Goes P o a base w0 w g d s vals (put s o.dst (.dat .nil)) := by
 obtain ⟨k1,k2,_⟩ := newarr_sound (k := 1) (w1 := w.alloc (.cells #[] e)) (c := 0) (xs := []) hi rfl (hi.low.alloc (Nat.le_trans hi.hb hi.low.size) _) (fun h => absurd h (by decide)) (by simp) (by simp) (by simp [maxLen]) (fun x hx => by cases hx) (fun j x hx => by simp at hx)
 refine goes_of_pend (v := .slice (some ⟨w.heap.size,0,none⟩) 0 0) (.inl ?_) k1 k2 (RelD.nil _)
 have hsz := run_sizeOf' htj' w
 have hps' : ps = #[] := by cases ps; simp at hps; subst hps; rfl
 subst hps'
 simp only [execOp,ho,Instr.buildSlice,Sem.run_bind,run_underlying hkd,Result.andThen_ok,hsz,Nat.zero_mul,Sem.run_pure]
 simp [Instr.fill,newRow,run_newObj,show Array.range 0 = #[] from rfl]
theorem buildSlice_sound (hc : CfgOk P cfg) (hi : Inv base w0 w g d s vals) (hgl : GlobOk cfg g) (ha : a.tmps = vals) {t : TypeId} {n : Nat} {ps : Array (Nat × Operand)} (ho : o.op = .buildSlice t n ps) {s' : St}
  (h : (seqO (cfg.ti t) fun i => match i.kind with
   | .slice e => seqO (cfg.ti e) fun j => if n = 0 /\ ps.toList = [] /\ 0 < j.size then some (put s o.dst (.dat .nil)) else if 0 < j.size /\ n * j.size <= 16777216 /\ 0 < n then seqO (fetchs cfg .copy (ps.toList.map (·.2)) s) fun q =>
     seqO (aRows j.zero ((ps.toList.map (·.1)).zip q.1) (List.replicate n j.zero)) fun rows => some (put q.2 o.dst (frzV cfg (.own true (keyOf cfg e j) rows))) else none
   | _ => none) = some s') : Goes P o a base w0 w g d s vals s' := by
 obtain ⟨i,hti,h1⟩ := seqO_eq.1 h
 clear h
 have hkd := (hc.ti t i hti).kind
 split at h1
 ·rename_i e hk
  rw [hk] at hkd
  obtain ⟨j,htj,h2⟩ := seqO_eq.1 h1
  split at h2
  ·rename_i hcond
   obtain ⟨rfl,c2,c1⟩ := hcond
   obtain rfl := sij h2
   exact build0_sound hc hi hkd (hc.ti e j htj) c1 ho c2
  split at h2
  ·rename_i hcond
   obtain ⟨c1,c2,c3⟩ := hcond
   obtain ⟨⟨pvs,s1⟩,h3,h4⟩ := seqO_eq.1 h2
   obtain ⟨rows,h5,h6⟩ := seqO_eq.1 h4
   obtain rfl := sij h6
   have htj' := hc.ti e j htj
   obtain ⟨info,z,q1,q2,q3,q4,q5,q6⟩ := run_zero_size htj'
   obtain ⟨g1,i1,st1,l1,r1⟩ := fetchs_sound ha _ hi hgl h3
   have hp := parts_rel (g := g1) (a := a) ps.toList pvs (by simpa using l1) r1
   have hnp : 0 < n * j.size := Nat.mul_pos c3 c1
   have hR : RowsRel g1 j.size (List.replicate n j.zero) (madeCells z.cells (n * j.size)) :=
    ⟨by rw [size_madeCells,List.length_replicate],fun x hx => by rw [(List.mem_replicate.1 hx).2]; exact htj'.zlen,zero_rows htj' q5 q6 c1 n⟩
   obtain ⟨A',f1,⟨f2,f3,f4⟩,f5⟩ := fill_rows htj'.zlen _ _ _ _ _ hp hR h5
   rw [List.length_replicate] at f5
   have hks := keyOf_ksz hc htj c1
   obtain ⟨k1,k2,k3⟩ := newarr_sound (k := keyOf cfg e j) (w1 := w.alloc (.cells A' e)) (c := n) (xs := rows) i1 rfl (hi.low.alloc (Nat.le_trans hi.hb hi.low.size) _) (fun h => by rw [(hgl.grows st1.gr).2]; exact keyOf_byte c1 h)
    (by rw [f2,f5,hks]) (by rw [f5]; exact Nat.le_refl _) (by
     have : n <= n * j.size := Nat.le_mul_of_pos_right _ c1
     simp only [maxLen]; omega) (by rw [hks]; exact f3) f4
   rw [f5] at k3
   obtain ⟨g2,z1,z2,z3⟩ : ∃ g2,Inv base w0 _ g2 d s1 vals /\ Stp d s1 s1 _ _ _ g2 /\ RelP _ g2 vals s1 (frzV cfg (.own true (keyOf cfg e j) rows)) _ := by
    unfold frzV
    split
    ·exact relP_frz k1 (some .copy) k3
    ·exact ⟨_,k1,Stp.refl d s1 _ _,k3⟩
   refine goes_of_pend (.inl ?_) z1 ((st1.trans k2).trans z2) z3
   have hsz := run_sizeOf' htj' w
   have hzv := run_zeroValue (P := P) (w := w) q1 q4
   simp only [madeCells] at f1
   have e1 : ¬ n * j.size > 2 ^ 24 := by omega
   have e2 : ¬ n * j.size = 0 := by omega
   simp only [execOp,ho,Instr.buildSlice,Sem.run_bind,run_underlying hkd,Result.andThen_ok,hsz,if_neg e1,if_neg e2,hzv,Sem.run_pure,map_parts,f1,newRow,run_newObj]
   rfl
  ·cases h2
 ·cases h1
theorem build_sound (hc : CfgOk P cfg) (hi : Inv base w0 w g d s vals) (hgl : GlobOk cfg g) (ha : a.tmps = vals) {t : TypeId} {ps : Array (Nat × Operand)} (ho : o.op = .build t ps) {s' : St}
  (h : (seqO (cfg.ti t) fun i => if canBuild cfg i then seqO (fetchs cfg .copy (ps.toList.map (·.2)) s) fun q =>
   seqO (aBuild cfg i ((ps.toList.map (·.1)).zip q.1) (i.zero.map .dat)) fun cs => some (put q.2 o.dst (.agg cs)) else none) = some s') : Goes P o a base w0 w g d s vals s' := by
 obtain ⟨i,hti,h0⟩ := seqO_eq.1 h
 clear h
 split at h0 <;> try (cases h0; done)
 rename_i hcan
 obtain ⟨⟨pvs,s1⟩,h3,h4⟩ := seqO_eq.1 h0
 obtain ⟨cs,h5,h6⟩ := seqO_eq.1 h4
 clear h0 h4
 obtain rfl := sij h6
 have ht := hc.ti t i hti
 have hkd := ht.kind
 obtain ⟨info,z,q1,q2,q3,q4,q5,q6⟩ := run_zero_size ht
 obtain ⟨g1,i1,st1,l1,r1⟩ := fetchs_sound ha _ hi hgl h3
 have hp := parts_rel (g := g1) (a := a) ps.toList pvs (by simpa using l1) r1
 have hzv := run_zeroValue (P := P) (w := w) q1 q4
 have hR : AggRel g1 (i.zero.map .dat) z.cells := by
  obtain ⟨z1,z2⟩ := zero_cells (g := g1) ht.zero q5
  exact ⟨z1,z2⟩
 have fin : ∀ A',AggRel g1 cs A' -> RelP w g1 vals s1 (.agg cs) (.agg A') := fun A' h => ⟨A'.toList,rfl,by rw [Array.length_toList]; exact h.1,fun j c v hc hv => h.2 j c v hc (by rw [<- Array.getElem?_toList]; exact hv)⟩
 cases hk : i.kind with
 | struct fs =>
  rw [hk] at hkd
  obtain ⟨fields,k1,k2,k3⟩ := hkd
  have hsz : ∀ f ∈ fields.toList,(sizeOf f.type).run P w = .ok ((P.info? f.type).map (·.size) |>.getD 0) w := by
   intro f hf
   have := k3 f hf
   cases hq : P.info? f.type with
   | none => rw [hq] at this; cases this
   | some inf => simp [sizeOf,typeInfo,hq]
  have hmap : (fields.mapM fun f => do pure (f.offset,<- sizeOf f.type) : Sem (Array (Nat × Nat))).run P w = .ok (fields.map fun f => (f.offset,(P.info? f.type).map (·.size) |>.getD 0)) w :=
   run_mapMA fields fun f hf => by simp only [Sem.run_bind,hsz f hf,Result.andThen_ok,Sem.run_pure]
  obtain ⟨A',f1,f2,f3⟩ := fill_agg (cfg := cfg) (g := g1) (i := i) (place := fun x => (fields.map fun f => (f.offset,(P.info? f.type).map (·.size) |>.getD 0))[x]?) (fun f off n hf => by
   rw [hk] at hf
   simp only [<- k2,List.getElem?_map] at hf
   simp only [Array.getElem?_map]
   cases hfl : fields.toList[f]? with
   | none => rw [hfl] at hf; cases hf
   | some fd =>
    rw [hfl] at hf
    simp only [Option.map_some,Option.bind_some] at hf ⊢
    cases htf : cfg.ti fd.type with
    | none => rw [htf] at hf; cases hf
    | some j =>
     rw [htf] at hf
     simp only [Option.map_some,sjE,Prod.mk.injEq] at hf
     obtain ⟨rfl,rfl⟩ := hf
     obtain ⟨inf,_,p1,p2,_⟩ := (hc.ti _ j htf).info
     have hfl' : fields[f]? = some fd := by rw [<- Array.getElem?_toList]; exact hfl
     simp [hfl',p1,p2]) _ _ _ _ _ hp hR h5
  refine goes_of_pend (.inl ?_) i1 st1 (fin A' f2)
  simp only [execOp,ho,Instr.build,Sem.run_bind,run_underlying k1,Result.andThen_ok,hzv,hmap,Sem.run_pure,map_parts,f1]
 | array n e =>
  rw [hk] at hkd
  simp only [KindOk] at hkd
  simp only [canBuild,hk] at hcan
  cases htj : cfg.ti e with
  | none => rw [htj] at hcan; cases hcan
  | some j =>
   have hsz := run_sizeOf' (hc.ti e j htj) w
   obtain ⟨A',f1,f2,f3⟩ := fill_agg (cfg := cfg) (g := g1) (i := i) (place := fun x => some (x * j.size,j.size)) (fun f off n hf => by
    rw [hk] at hf
    simpa [htj] using hf) _ _ _ _ _ hp hR h5
   refine goes_of_pend (.inl ?_) i1 st1 (fin A' f2)
   simp only [execOp,ho,Instr.build,Sem.run_bind,run_underlying hkd,Result.andThen_ok,hzv,hsz,Sem.run_pure,map_parts,f1]
 | _ => simp [canBuild,hk] at hcan
theorem relC_relP {c : PV} {u : Value} (h : RelC g c u) : RelP w g vals s c u := by
 cases c with
 | dead => exact trivial
 | own => exact h.elim
 | agg => exact h.elim
 | bag => exact h.elim
 | tup => exact h.elim
 | «alias» => exact h.elim
 | eptr => exact h.elim
 | dat _ => exact h
 | ptr _ _ => exact h
 | iptr _ _ => exact h
 | clo _ _ => exact h
theorem part_sound (_ : Inv base w0 w g d s vals) {us : List Value} {cs : List PV} (hl : us.length = cs.length) (hr : ∀ (j : Nat) c v,cs[j]? = some c -> us[j]? = some v -> RelC g c v)
  {t : TypeId} {j : TI} (ht : TiOk P t j) {off : Nat} {s' : St}
  (h : (if j.kind.isAgg then seqO (cut cs off j.size) fun c => some (put s o.dst (.agg c)) else seqO cs[off]? fun c => some (put s o.dst c)) = some s') :
  ∃ v,(part t us.toArray off).run P w = .ok v w /\ ∃ pv,s' = put s o.dst pv /\ RelP w g vals s pv v := by
 have h1 := run_isAgg' ht w
 have h2 := run_sizeOf' ht w
 split at h
 ·rename_i hk
  obtain ⟨c,h3,h4⟩ := seqO_eq.1 h
  obtain rfl := sij h4
  rw [hk] at h1
  obtain ⟨c1,c2⟩ := cut_eq h3
  have hle : off + j.size <= us.length := by
   unfold cut at h3
   split at h3
   ·rw [hl]; assumption
   ·cases h3
  refine ⟨.agg (us.toArray.extract off (off + j.size)),by simp [part,h1,h2],_,rfl,(us.drop off).take j.size,?_,by simp [c1]; omega,fun k x v hx hv => ?_⟩
  ·simp [List.extract_eq_take_drop]
  ·have hk' : k < j.size := by rw [<- c1]; exact (gsi.1 hx).1
   rw [c2 k hk'] at hx
   rw [List.getElem?_take_of_lt hk',List.getElem?_drop] at hv
   exact hr _ x v hx hv
 ·rename_i hk
  obtain ⟨c,h3,h4⟩ := seqO_eq.1 h
  obtain rfl := sij h4
  have hk' : j.kind.isAgg = false := by simpa using hk
  rw [hk'] at h1
  have hlt : off < us.length := by rw [hl]; exact (gsi.1 h3).1
  refine ⟨us[off],?_,_,rfl,relC_relP (hr off c _ h3 (gge hlt))⟩
  simp [part,h1,hlt]
theorem val_agg (hi : Inv base w0 w g d s vals) (hgl : GlobOk cfg g) (ha : a.tmps = vals) {x : Operand} {cs : List PV} (h : s.val cfg x = .agg cs) : RelAgg g cs (a.eval x) :=
 val_plain hi hgl ha h (by intro e; cases e) (by intro _ _ _ e; cases e) rfl rfl
theorem field_sound (hc : CfgOk P cfg) (hi : Inv base w0 w g d s vals) (hgl : GlobOk cfg g) (ha : a.tmps = vals) {t : TypeId} {x : Operand} {f : Nat} (ho : o.op = .field t x f) {s' : St}
  (h : (seqO (cfg.ti t) fun i => match i.kind,s.val cfg x with
   | .struct fs,.agg cs => seqO fs[f]? fun p => seqO (cfg.ti p.2) fun j =>
    if j.kind.isAgg then seqO (cut cs p.1 j.size) fun c => some (put s o.dst (.agg c)) else seqO cs[p.1]? fun c => some (put s o.dst c)
   | _,_ => none) = some s') : Goes P o a base w0 w g d s vals s' := by
 obtain ⟨i,hti,h1⟩ := seqO_eq.1 h
 have hkd := (hc.ti t i hti).kind
 split at h1
 ·rename_i fs cs hk hv
  obtain ⟨p,h2,h3⟩ := seqO_eq.1 h1
  obtain ⟨j,h4,h5⟩ := seqO_eq.1 h3
  rw [hk] at hkd
  obtain ⟨fields,k1,k2,k3⟩ := hkd
  obtain ⟨us,e1,e2,e3⟩ := val_agg hi hgl ha hv
  obtain ⟨v,r1,pv,rfl,r3⟩ := part_sound (P := P) hi e2 e3 (hc.ti _ j h4) h5
  refine goes_same ?_ hi r3
  rw [<- k2,List.getElem?_map] at h2
  cases hfl : fields.toList[f]? with
  | none => rw [hfl] at h2; cases h2
  | some fd =>
   rw [hfl] at h2
   obtain rfl := sij h2
   have hfl' : fields[f]? = some fd := by rw [<- Array.getElem?_toList]; exact hfl
   simp only [execOp,ho,Instr.field,Sem.run_bind,run_underlying k1,Result.andThen_ok,hfl',e1,asAgg,Sem.run_pure,r1]
 ·cases h1
theorem ptrBoxes_rel : ∀ (l : List PV) {ls : List Nat},ptrBoxes l = some ls -> l = ls.map fun b => .ptr b 0
 | [],ls,h => by obtain rfl := sij h; rfl
 | c :: cs,ls,h => by
  simp only [ptrBoxes] at h
  obtain ⟨b,h1,h2⟩ := seqO_eq.1 h
  obtain ⟨bs,h3,h4⟩ := seqO_eq.1 h2
  obtain rfl := sij h4
  have : c = .ptr b 0 := by
   cases c with
   | ptr l off =>
    cases off with
    | zero => obtain rfl := sij h1; rfl
    | succ => cases h1
   | _ => cases h1
  rw [this,ptrBoxes_rel cs h3]; rfl
theorem makeFunc_sound (hi : Inv base w0 w g d s vals) (hgl : GlobOk cfg g) (ha : a.tmps = vals) {f : FuncId} {first cap : Array Operand} (ho : o.op = .makeFunc (.func f) first cap) {s' : St}
  (h : (if first.size = 0 then seqO (ptrBoxes (cap.toList.map (s.val cfg))) fun ls => some (put s o.dst (.clo f ls)) else none) = some s') : Goes P o a base w0 w g d s vals s' := by
 split at h
 ·rename_i hf
  obtain ⟨ls,h1,h2⟩ := seqO_eq.1 h
  obtain rfl := sij h2
  have hl := ptrBoxes_rel _ h1
  have hf' : first = #[] := Array.eq_empty_of_size_eq_zero hf
  refine goes_same (v := .func (.func f) #[] (cap.map a.eval)) (by simp [execOp,ho,Instr.makeFunc,hf']) hi ⟨cap.map a.eval,rfl,?_,?_⟩
  ·have := congrArg List.length hl
   simpa using this
  ·intro j l hjl
   have h3 : (cap.toList.map (s.val cfg))[j]? = some (.ptr l 0) := by rw [hl,List.getElem?_map,hjl]; rfl
   rw [List.getElem?_map] at h3
   cases hx : cap.toList[j]? with
   | none => rw [hx] at h3; cases h3
   | some x =>
    rw [hx] at h3
    have h4 : s.val cfg x = .ptr l 0 := sij h3
    obtain ⟨b,q1,q2⟩ : RelC g (.ptr l 0) (a.eval x) := val_plain hi hgl ha h4 (by intro e; cases e) (by intro _ _ _ e; cases e) rfl rfl
    have hx' : cap[j]? = some x := by rw [<- Array.getElem?_toList]; exact hx
    exact ⟨b,q1,by simp [hx',q2]⟩
 ·cases h
def tupLab (d t : Nat) : Owner -> Option Owner
 | .tmp d' i j => if d' = d /\ i = t then some (.res j) else some (.tmp d' i j)
 | o => some o
theorem tup_take (hi : Inv base w0 w g d s vals) {t : Nat} {vs : List PV} (ht : s.ts[t]? = some (.tup vs)) :
  Inv base w0 w (g.relab (tupLab d t)) d { s with ts := s.ts.set t .dead } vals ∧
   Stp d s { s with ts := s.ts.set t .dead } w w g (g.relab (tupLab d t)) := by
 have hat : ∀ p,(s.at p).maySrc = true -> ({ s with ts := s.ts.set t .dead } : St).at p = s.at p := by
  intro p hp
  cases p with
  | cell => rfl
  | tmp i =>
   simp only [St.at,List.getD_eq_getElem?_getD,List.getElem?_set]
   by_cases e : t = i
   ·subst e
    simp only [St.at,List.getD_eq_getElem?_getD,ht,Option.getD_some] at hp
    cases hp
   ·rw [if_neg e]
 have hlab : ∀ o,(∀ j,o ≠ .tmp d t j) -> tupLab d t o = some o := fun o h => by
  cases o with
  | tmp d' i j =>
   simp only [tupLab]
   rw [if_neg]
   rintro ⟨rfl,rfl⟩
   exact h j rfl
  | _ => rfl
 refine ⟨⟨hi.low,hi.hb,hi.mem,fun b o h => ?_,fun b o h => ?_,fun b d' i j h => ?_,hi.blen,hi.nodup,hi.nbl,fun l b bx h1 h2 => ?_,by simpa using hi.tl,fun i c v h1 h2 => ?_,fun i c p h1 h2 => ?_⟩,⟨grows_relab _ _,rfl,Nat.le_refl _,fun b d' i j h hd => ?_,fun _ h => h,fun l hl hlo => ⟨rfl,fun b h => ⟨?_,fun off b' h' => ?_⟩⟩,fun h => h,fun _ => kpl_same rfl⟩⟩
 ·obtain ⟨o',h1,_⟩ := relab_own h; exact hi.own_ge b o' h1
 ·obtain ⟨o',h1,_⟩ := relab_own h; exact hi.own_lt b o' h1
 ·obtain ⟨o',h1,h2⟩ := relab_own h
  cases o' with
  | tmp d1 i1 j1 =>
   simp only [tupLab] at h2
   split at h2
   ·cases h2
   ·cases h2; exact hi.own_d b _ _ _ h1
  | box => cases h2
  | cell => cases h2
  | res => cases h2
 ·exact (hi.boxes l b bx h1 h2).relab (hlab _ (by intro j e; cases e)) fun off => hlab _ (by intro j e; cases e)
 ·simp only [List.getElem?_set] at h1
  by_cases e : t = i
  ·subst e
   have hlt := (gsi.1 ht).1
   rw [if_pos rfl,if_pos hlt] at h1
   obtain rfl := sij h1
   exact trivial
  ·rw [if_neg e] at h1
   exact (hi.tmps i c v h1 h2).relab (fun j => hlab _ (by intro j' h; injection h with _ h _; exact e h.symm)) fun p hp => by cases p <;> rfl
 ·simp only [List.getElem?_set] at h1
  by_cases e : t = i
  ·subst e
   rw [if_pos rfl] at h1
   split at h1
   ·obtain rfl := sij h1
    cases h2
   ·cases h1
  ·rw [if_neg e] at h1
   have := hi.al i c p h1 h2
   rw [hat p this]; exact this
 ·exact kept_relab h (hlab _ (by intro j' e; injection e with e _ _; omega))
 ·have hl' : l < s.bx.length := Nat.lt_of_lt_of_le hl hi.nbl
  have := (hi.boxes l b _ h (gge hl')).1
  exact kept_relab this (hlab _ (by intro j' e; cases e))
 ·exact kept_relab h' (hlab _ (by intro j' e; cases e))
theorem moveT_sound (hi : Inv base w0 w g d s vals) (ha : a.tmps = vals) {x : Operand} (ho : o.op = .move x) {q : Nat × List PV} (h : moveTup cfg x s = some q) :
  Goes P o a base w0 w g d s vals (put { s with ts := s.ts.set q.1 .dead } o.dst (.tup q.2)) := by
 unfold moveTup at h
 split at h
 ·rename_i t vs hv
  obtain rfl := sij h
  have ht : s.ts[t]? = some (.tup vs) := getD_some hv (by intro e; cases e)
  have hlt : t < vals.size := by rw [hi.tl]; exact (gsi.1 ht).1
  obtain ⟨k1,k2⟩ := tup_take hi ht
  have hr : RelV w g (fun j => .tmp d t j) (.tup vs) vals[t] := hi.tmps t _ vals[t] ht (agg hlt)
  have hev : a.eval (.tmp t) = vals[t] := by simp [Act.eval,ha,hlt]
  refine goes_of_pend (v := vals[t]) (.inl (by simp [execOp,ho,hev])) k1 k2 ?_
  exact RelV.relab (f := tupLab d t) (ow' := .res) (fun j => by simp [tupLab]) hr
 ·cases h
theorem tup_dead (hi : Inv base w0 w g d s vals) {t ix : Nat} {vs : List PV} (ht : s.ts[t]? = some (.tup vs)) :
  Inv base w0 w (g.relab (moveLab (.tmp d t (ix + 1)) (.res 0))) d { s with ts := s.ts.set t (.tup (vs.set ix .dead)) } vals ∧
   Stp d s { s with ts := s.ts.set t (.tup (vs.set ix .dead)) } w w g (g.relab (moveLab (.tmp d t (ix + 1)) (.res 0))) := by
 have hat : ∀ p,(s.at p).maySrc = true -> ({ s with ts := s.ts.set t (.tup (vs.set ix .dead)) } : St).at p = s.at p := by
  intro p hp
  cases p with
  | cell => rfl
  | tmp i =>
   simp only [St.at,List.getD_eq_getElem?_getD,List.getElem?_set]
   by_cases e : t = i
   ·subst e
    simp only [St.at,List.getD_eq_getElem?_getD,ht,Option.getD_some] at hp
    cases hp
   ·rw [if_neg e]
 have hlab : ∀ o,o ≠ .tmp d t (ix + 1) -> moveLab (.tmp d t (ix + 1)) (.res 0) o = some o := fun o h => by simp [moveLab,h]
 have hb : ∀ b,moveLab (.tmp d t (ix + 1)) (.res 0) b = some b ∨ b = .tmp d t (ix + 1) := fun b => by
  by_cases h : b = .tmp d t (ix + 1)
  ·exact .inr h
  ·exact .inl (hlab b h)
 refine ⟨⟨hi.low,hi.hb,hi.mem,fun b o h => ?_,fun b o h => ?_,fun b d' i j h => ?_,hi.blen,hi.nodup,hi.nbl,fun l b bx h1 h2 => ?_,by simpa using hi.tl,fun i c v h1 h2 => ?_,fun i c p h1 h2 => ?_⟩,⟨grows_relab _ _,rfl,Nat.le_refl _,fun b d' i j h hd => ?_,fun _ h => h,fun l hl hlo => ⟨rfl,fun b h => ⟨?_,fun off b' h' => ?_⟩⟩,fun h => h,fun _ => kpl_same rfl⟩⟩
 ·obtain ⟨o',h1,_⟩ := relab_own h; exact hi.own_ge b o' h1
 ·obtain ⟨o',h1,_⟩ := relab_own h; exact hi.own_lt b o' h1
 ·obtain ⟨o',h1,h2⟩ := relab_own h
  rcases hb o' with h3 | h3
  ·rw [h3] at h2; cases h2; exact hi.own_d b d' i j h1
  ·subst h3; simp [moveLab] at h2
 ·exact (hi.boxes l b bx h1 h2).relab (hlab _ (by intro e; cases e)) fun off => hlab _ (by intro e; cases e)
 ·simp only [List.getElem?_set] at h1
  by_cases e : t = i
  ·subst e
   have hlt := (gsi.1 ht).1
   rw [if_pos rfl,if_pos hlt] at h1
   obtain rfl := sij h1
   obtain ⟨us,q1,q2,q3⟩ := hi.tmps t _ v ht h2
   refine ⟨us,q1,by simpa using q2,fun j c x hc hx => ?_⟩
   rw [List.getElem?_set] at hc
   by_cases e : ix = j
   ·subst e
    rw [if_pos rfl] at hc
    split at hc
    ·obtain rfl := sij hc
     exact trivial
    ·cases hc
   ·rw [if_neg e] at hc
    exact (q3 j c x hc hx).relab (hlab _ (by intro h; injection h with _ _ h; omega))
  ·rw [if_neg e] at h1
   exact (hi.tmps i c v h1 h2).relab (fun j => hlab _ (by intro h; injection h with _ h _; exact e h.symm)) fun p hp => by cases p <;> rfl
 ·simp only [List.getElem?_set] at h1
  by_cases e : t = i
  ·subst e
   rw [if_pos rfl] at h1
   split at h1
   ·obtain rfl := sij h1
    cases h2
   ·cases h1
  ·rw [if_neg e] at h1
   have := hi.al i c p h1 h2
   rw [hat p this]; exact this
 ·exact kept_relab h (hlab _ (by intro e; injection e with e _ _; omega))
 ·have hl' : l < s.bx.length := Nat.lt_of_lt_of_le hl hi.nbl
  have := (hi.boxes l b _ h (gge hl')).1
  exact kept_relab this (hlab _ (by intro e; cases e))
 ·exact kept_relab h' (hlab _ (by intro e; cases e))
theorem extract_sound (hi : Inv base w0 w g d s vals) (ha : a.tmps = vals) {x : Operand} {ix : Nat} (ho : o.op = .extract x ix) {s' : St}
  (h : (match (generalizing := false) x,s.val cfg x with
  | .tmp t,.tup vs => seqO vs[ix]? fun v => match v with
   | .own ex k xs => some (put { s with ts := s.ts.set t (.tup (vs.set ix .dead)) } o.dst (.own ex k xs))
   | .dead => none
   | v => some (put s o.dst v)
  | _,_ => none) = some s') : Goes P o a base w0 w g d s vals s' := by
 split at h
 ·rename_i t vs hv
  have ht : s.ts[t]? = some (.tup vs) := getD_some hv (by intro e; cases e)
  obtain ⟨c,h1,h2⟩ := seqO_eq.1 h
  have hlt : t < vals.size := by rw [hi.tl]; exact (gsi.1 ht).1
  obtain ⟨us,q1,q2,q3⟩ := hi.tmps t _ vals[t] ht (agg hlt)
  have hix : ix < us.length := by rw [q2]; exact (gsi.1 h1).1
  have hr := q3 ix c us[ix] h1 (gge hix)
  have hev : a.eval (.tmp t) = .tuple us.toArray := by
   rw [<- q1]; simp [Act.eval,ha,hlt]
  have hrun : (execOp a.eval o).run P w = .ok (.value us[ix]) w := by
   simp [execOp,ho,hev,Instr.extract,hix]
  cases c with
  | own ex k xs =>
   obtain rfl := sij h2
   obtain ⟨k1,k2⟩ := tup_dead (ix := ix) hi ht
   refine goes_of_pend (.inl hrun) k1 k2 ?_
   exact OwnRel.relab (f := moveLab (.tmp d t (ix + 1)) (.res 0)) (by simp [moveLab]) hr
  | dead => cases h2
  | dat _ => obtain rfl := sij h2; exact goes_same hrun hi hr
  | agg _ => obtain rfl := sij h2; exact goes_same hrun hi hr
  | ptr _ _ => obtain rfl := sij h2; exact goes_same hrun hi hr
  | iptr _ _ => obtain rfl := sij h2; exact goes_same hrun hi hr
  | clo _ _ => obtain rfl := sij h2; exact goes_same hrun hi hr
  | bag _ => exact hr.elim
  | tup _ => exact hr.elim
  | «alias» _ => exact hr.elim
  | eptr _ _ _ _ => exact hr.elim
 ·cases h
end
end Go.Vx
namespace Go.Vx
open Go Go.RowKit
section
variable {P : Program} {cfg : Cfg} {base : Nat} {w0 w : World} {g : Gh} {d : Nat} {s : St} {vals : Array Value} {o : Oper} {a : Act}
def BagC (g : Gh) (vals : Array Value) (c : PV) (u : Value) : Prop := (∃ t,c = .alias (.tmp t) /\ vals[t]? = some u) ∨ (c.isOwn = false /\ RelC g c u)
def BagRel (g : Gh) (vals : Array Value) (cs : List PV) (A : Array Value) : Prop := A.size = cs.length /\ ∀ (j : Nat) c v,cs[j]? = some c -> A[j]? = some v -> BagC g vals c v
def BagV (g : Gh) (vals : Array Value) (c : PV) (v : Value) : Prop := (∃ t,c = .alias (.tmp t) /\ vals[t]? = some v /\ v.cells = #[v]) ∨ RelA g c v
def PartsB (g : Gh) (vals : Array Value) : List (Nat × PV) -> List (Nat × Value) -> Prop
 | [],[] => True
 | (i,c) :: xs,(j,v) :: ys => i = j /\ BagV g vals c v /\ PartsB g vals xs ys
 | _,_ => False
theorem bagCells_rel {c : PV} {v : Value} {cs : List PV} (hr : BagV g vals c v) (hc : bagCells c = some cs) :
  v.cells.size = cs.length /\ ∀ (j : Nat) x u,cs[j]? = some x -> v.cells[j]? = some u -> BagC g vals x u := by
 rcases hr with ⟨t,rfl,h1,h2⟩ | hA
 ·obtain rfl := sij hc
  rw [h2]
  refine ⟨rfl,fun j x u hx hu => ?_⟩
  cases j with
  | succ j => simp at hx
  | zero =>
   simp only [List.getElem?_cons_zero,sjE] at hx
   simp at hu
   subst hx; subst hu
   exact .inl ⟨t,rfl,h1⟩
 ·have key : (seqO c.cells fun cs => if cs.all isCell = true /\ cs.any PV.isOwn = false then some cs else none) = some cs := by
   cases c with
   | «alias» => exact hA.elim
   | _ => exact hc
  obtain ⟨cs',h1,h2⟩ := seqO_eq.1 key
  split at h2
  ·rename_i hcond
   obtain rfl := sij h2
   obtain ⟨e1,e2⟩ := cells_rel hA h1 hcond.1
   refine ⟨e1,fun j x u hx hu => .inr ⟨?_,e2 j x u hx hu⟩⟩
   have := hcond.2
   rw [List.any_eq_false] at this
   simpa using this x (mog hx)
  ·cases h2
theorem fill_bag {fs : List (Nat × TypeId)} {place : Nat -> Option (Nat × Nat)} (hplace : ∀ f off n,(fs[f]?.bind fun p => (cfg.ti p.2).map fun j => (p.1,j.size)) = some (off,n) -> place f = some (off,n)) :
  ∀ (ps : List (Nat × PV)) (vs : List (Nat × Value)) (cells cells' : List PV) (A : Array Value),PartsB g vals ps vs -> BagRel g vals cells A →
  bagFill cfg fs ps cells = some cells' -> ∃ A',Instr.fill place A vs = some A' /\ BagRel g vals cells' A'
 | [],[],cells,cells',A,_,hR,h => by
  obtain rfl := sij h
  exact ⟨A,rfl,hR⟩
 | (f,c) :: ps,(f',v) :: vs,cells,cells',A,hP,hR,h => by
  obtain ⟨rfl,hA,hP'⟩ := hP
  simp only [bagFill] at h
  obtain ⟨p,h1,h2⟩ := seqO_eq.1 h
  obtain ⟨j,h3,h4⟩ := seqO_eq.1 h2
  obtain ⟨cs,h5,h6⟩ := seqO_eq.1 h4
  split at h6
  ·rename_i hcond
   obtain ⟨c1,c2⟩ := hcond
   obtain ⟨e1,e2⟩ := bagCells_rel hA h5
   obtain ⟨r1,r2⟩ := hR
   obtain ⟨s1,s2⟩ := fill_step p.1 v.cells A (by rw [r1,e1]; exact c2)
   obtain ⟨A',q1,q2⟩ := fill_bag hplace ps vs (setCells cells p.1 cs) cells' (v.cells.zipIdx.foldl (fun cs (x : Value × Nat) => cs.setIfInBounds (p.1 + x.2) x.1) A) hP' ⟨by rw [s1,r1,setCells_len c2],fun j x u hx hu => by
     rw [setCells_get c2] at hx
     rw [s2] at hu
     by_cases hc : p.1 <= j /\ j < p.1 + cs.length
     ·rw [if_pos hc] at hx
      rw [if_pos (by rw [e1]; exact hc)] at hu
      exact e2 _ x u hx hu
     ·rw [if_neg hc] at hx
      rw [if_neg (by rw [e1]; exact hc)] at hu
      exact r2 j x u hx hu⟩ h6
   refine ⟨A',?_,q2⟩
   simp only [Instr.fill,hplace f p.1 j.size (by simp [h1,h3])]
   rw [if_neg]
   ·exact q1
   ·simp only [ne_eq,Bool.or_eq_true,dqE,not_or,Decidable.not_not]
    refine ⟨by rw [e1,c1],by rw [r1,e1]; omega⟩
  ·cases h6
 | [],_ :: _,_,_,_,hP,_,_ => hP.elim
 | _ :: _,[],_,_,_,hP,_,_ => hP.elim
theorem bagVals_rel (hi : Inv base w0 w g d s vals) (hgl : GlobOk cfg g) (ha : a.tmps = vals) : ∀ (l : List (Nat × Operand)) (pvs : List PV),bagVals cfg s (l.map (·.2)) = some pvs →
  PartsB g vals ((l.map (·.1)).zip pvs) (l.map fun p => (p.1,a.eval p.2))
 | [],pvs,h => by
  obtain rfl := sij h
  exact trivial
 | (i,x) :: l,pvs,h => by
  simp only [List.map_cons,bagVals] at h
  obtain ⟨v,h1,h2⟩ := seqO_eq.1 h
  obtain ⟨vs,h3,h4⟩ := seqO_eq.1 h2
  obtain rfl := sij h4
  refine ⟨rfl,?_,bagVals_rel hi hgl ha l vs h3⟩
  unfold bagVal at h1
  split at h1
  ·rename_i ex k xs hv
   split at h1
   ·rename_i t
    obtain rfl := sij h1
    simp only [St.val] at hv
    obtain ⟨k1,k2,k3⟩ := val_tmp hi ha hv (by intro e; cases e)
    refine .inl ⟨t,rfl,k2,?_⟩
    obtain ⟨b,off,c,cs,T,e,_⟩ : OwnRel w g (.tmp d t 0) ex k xs (a.eval (.tmp t)) := k3
    rw [e]; rfl
   ·cases h1
  ·rename_i y hv
   obtain rfl := sij h1
   exact .inr (val_plain hi hgl ha hv (by intro e; cases e) (by intro _ _ _ e; cases e) rfl rfl)
  ·rename_i y hv
   obtain rfl := sij h1
   exact .inr (val_plain hi hgl ha hv (by intro e; cases e) (by intro _ _ _ e; cases e) rfl rfl)
  ·cases h1
theorem slot_take (hi : Inv base w0 w g d s vals) {t : Nat} {ex : Bool} {k : Nat} {xs : List (List D)} (ht : s.ts.getD t .dead = .own ex k xs) (j : Nat) :
  ∃ g1 v,vals[t]? = some v /\ Inv base w0 w g1 d { s with ts := s.ts.set t .dead } vals /\ Stp d s { s with ts := s.ts.set t .dead } w w g g1 /\ OwnRel w g1 (.res j) ex k xs v ∧
   ∀ j' ex' k' xs' v',OwnRel w g (.res j') ex' k' xs' v' -> OwnRel w g1 (.res j') ex' k' xs' v' := by
 have hat : s.at (.tmp t) = .own ex k xs := ht
 obtain ⟨o,u,h1,h2,h3⟩ := at_rel hi hat
 obtain rfl : o = .tmp d t 0 := h1
 have hf : moveLab (.tmp d t 0) (.res j) (.tmp d t 0) = some (.res j) := by simp [moveLab]
 have hm := mark_sound (g' := g.relab (moveLab (.tmp d t 0) (.res j))) (p := .tmp t) (o := .tmp d t 0) (c := .dead) (u := u) hi rfl h2 rfl rfl (fun _ _ h => h) hi.mem
  (fun b o' hb hne => kept_relab hb (by simp [moveLab,hne])) (fun b o' hb => by
   obtain ⟨o'',e1,e2⟩ := relab_own hb
   refine ⟨o'',e1,?_⟩
   unfold moveLab at e2
   split at e2
   ·cases e2; exact .inr (fun _ _ _ e => by cases e)
   ·cases e2; exact .inl rfl) rfl trivial
 exact ⟨_,u,h2,hm.1,hm.2,h3.relab hf,fun j' ex' k' xs' v' h => h.relab (by simp [moveLab])⟩
theorem relR_of_relC {ow : Owner} {c : PV} {u : Value} (h : RelC g c u) : RelR w g ow c u := by
 cases c <;> first | exact h | exact h.elim
theorem bagTake_sound (A : Array Value) : ∀ (cs : List PV) (off : Nat) {g : Gh} {s s1 : St} {cs' : List PV},Inv base w0 w g d s vals -> (∀ (j : Nat) c v,cs[j]? = some c -> A[off + j]? = some v -> BagC g vals c v) -> off + cs.length <= A.size →
  bagTake cs s = some (cs',s1) -> ∃ g1,Inv base w0 w g1 d s1 vals /\ Stp d s s1 w w g g1 /\ cs'.length = cs.length /\ (∀ j' ex' k' xs' v',OwnRel w g (.res j') ex' k' xs' v' -> OwnRel w g1 (.res j') ex' k' xs' v') ∧
   ∀ (j : Nat) c v,cs'[j]? = some c -> A[off + j]? = some v -> RelR w g1 (.res (off + j + 1)) c v
 | [],off,g,s,s1,cs',hi,_,_,h => by
  simp only [bagTake,sjE,Prod.mk.injEq] at h
  obtain ⟨rfl,rfl⟩ := h
  exact ⟨g,hi,Stp.refl d s w g,rfl,fun _ _ _ _ _ h => h,fun j c v hc => by simp at hc⟩
 | c :: cs,off,g,s,s1,cs',hi,hr,hsz,h => by
  rw [List.length_cons] at hsz
  have hlt : off < A.size := by omega
  have h0 : A[off + 0]? = some A[off] := agg hlt
  have hc0 := hr 0 c A[off] rfl h0
  have plain : ∀ (hp : c.isOwn = false /\ RelC g c A[off]) (hb : (seqO (bagTake cs s) fun q => some (c :: q.1,q.2)) = some (cs',s1)),∃ g1,Inv base w0 w g1 d s1 vals /\ Stp d s s1 w w g g1 /\ cs'.length = (c :: cs).length /\ (∀ j' ex' k' xs' v',OwnRel w g (.res j') ex' k' xs' v' -> OwnRel w g1 (.res j') ex' k' xs' v') ∧
    ∀ (j : Nat) c v,cs'[j]? = some c -> A[off + j]? = some v -> RelR w g1 (.res (off + j + 1)) c v := by
   intro hp hb
   obtain ⟨⟨cs1,s2⟩,h1,h2⟩ := seqO_eq.1 hb
   simp only [sjE,Prod.mk.injEq] at h2
   obtain ⟨rfl,rfl⟩ := h2
   obtain ⟨g1,i1,st1,l1,o1,r1⟩ := bagTake_sound A cs (off + 1) hi (fun j x v hx hv => hr (j + 1) x v hx (by rw [<- hv]; congr 1; omega)) (by omega) h1
   refine ⟨g1,i1,st1,by simp [l1],o1,fun j x v hx hv => ?_⟩
   cases j with
   | zero =>
    simp only [List.getElem?_cons_zero,sjE] at hx
    subst hx
    rw [h0] at hv
    obtain rfl := sij hv
    exact relR_of_relC (hp.2.grows st1.gr)
   | succ j =>
    have := r1 j x v hx (by rw [<- hv]; congr 1; omega)
    rw [show off + (j + 1) + 1 = off + 1 + j + 1 by omega]
    exact this
  rcases hc0 with ⟨t,rfl,ht⟩ | hp
  ·simp only [bagTake] at h
   split at h
   ·rename_i ex k xs hown
    obtain ⟨⟨cs1,s2⟩,h1,h2⟩ := seqO_eq.1 h
    simp only [sjE,Prod.mk.injEq] at h2
    obtain ⟨rfl,rfl⟩ := h2
    obtain ⟨g1,u,e1,i1,st1,r1,o1⟩ := slot_take hi hown (off + 1)
    rw [ht] at e1
    obtain rfl := sij e1
    obtain ⟨g2,i2,st2,l2,o2,r2⟩ := bagTake_sound A cs (off + 1) i1 (fun j x v hx hv => by
     rcases hr (j + 1) x v hx (by rw [<- hv]; congr 1; omega) with h | ⟨h3,h4⟩
     ·exact .inl h
     ·exact .inr ⟨h3,h4.grows st1.gr⟩) (by omega) h1
    refine ⟨g2,i2,st1.trans st2,by simp [l2],fun j' ex' k' xs' v' h => o2 _ _ _ _ _ (o1 _ _ _ _ _ h),fun j x v hx hv => ?_⟩
    cases j with
    | zero =>
     simp only [List.getElem?_cons_zero,sjE] at hx
     subst hx
     rw [h0] at hv
     obtain rfl := sij hv
     exact o2 _ _ _ _ _ r1
    | succ j =>
     have := r2 j x v hx (by rw [<- hv]; congr 1; omega)
     rw [show off + (j + 1) + 1 = off + 1 + j + 1 by omega]
     exact this
   ·cases h
  ·refine plain hp ?_
   cases c with
   | «alias» p => exact hp.2.elim
   | _ => exact h
theorem bagBuild_sound (hc : CfgOk P cfg) (hi : Inv base w0 w g d s vals) (hgl : GlobOk cfg g) (ha : a.tmps = vals) {t : TypeId} {ps : Array (Nat × Operand)} (ho : o.op = .build t ps) {s' : St}
  (h : bagBuild cfg o.dst t ps.toList s = some s') : Goes P o a base w0 w g d s vals s' := by
 unfold bagBuild at h
 obtain ⟨i,hti,h0⟩ := seqO_eq.1 h
 clear h
 have ht := hc.ti t i hti
 have hkd := ht.kind
 split at h0
 ·rename_i fs hk
  obtain ⟨vs,h1,h2⟩ := seqO_eq.1 h0
  obtain ⟨cs,h3,h4⟩ := seqO_eq.1 h2
  obtain ⟨⟨cs',s1⟩,h5,h6⟩ := seqO_eq.1 h4
  obtain rfl := sij h6
  clear h0 h2 h4
  obtain ⟨info,z,q1,q2,q3,q4,q5,q6⟩ := run_zero_size ht
  have hp := bagVals_rel hi hgl ha ps.toList vs h1
  have hzv := run_zeroValue (P := P) (w := w) q1 q4
  have hR : BagRel g vals (i.zero.map .dat) z.cells := by
   obtain ⟨z1,z2⟩ := zero_cells (g := g) ht.zero q5
   refine ⟨z1,fun j c v hx hv => .inr ⟨?_,z2 j c v hx hv⟩⟩
   rw [List.getElem?_map] at hx
   cases hz : i.zero[j]? with
   | none => rw [hz] at hx; cases hx
   | some y => rw [hz] at hx; obtain rfl := sij hx; rfl
  rw [hk] at hkd
  obtain ⟨fields,k1,k2,k3⟩ := hkd
  have hsz : ∀ f ∈ fields.toList,(sizeOf f.type).run P w = .ok ((P.info? f.type).map (·.size) |>.getD 0) w := by
   intro f hf
   have := k3 f hf
   cases hq : P.info? f.type with
   | none => rw [hq] at this; cases this
   | some inf => simp [sizeOf,typeInfo,hq]
  have hmap : (fields.mapM fun f => do pure (f.offset,<- sizeOf f.type) : Sem (Array (Nat × Nat))).run P w = .ok (fields.map fun f => (f.offset,(P.info? f.type).map (·.size) |>.getD 0)) w :=
   run_mapMA fields fun f hf => by simp only [Sem.run_bind,hsz f hf,Result.andThen_ok,Sem.run_pure]
  obtain ⟨A',f1,f2⟩ := fill_bag (cfg := cfg) (g := g) (place := fun x => (fields.map fun f => (f.offset,(P.info? f.type).map (·.size) |>.getD 0))[x]?) (fun f off n hf => by
   simp only [<- k2,List.getElem?_map] at hf
   simp only [Array.getElem?_map]
   cases hfl : fields.toList[f]? with
   | none => rw [hfl] at hf; cases hf
   | some fd =>
    rw [hfl] at hf
    simp only [Option.map_some,Option.bind_some] at hf ⊢
    cases htf : cfg.ti fd.type with
    | none => rw [htf] at hf; cases hf
    | some j =>
     rw [htf] at hf
     simp only [Option.map_some,sjE,Prod.mk.injEq] at hf
     obtain ⟨rfl,rfl⟩ := hf
     obtain ⟨inf,_,p1,p2,_⟩ := (hc.ti _ j htf).info
     have hfl' : fields[f]? = some fd := by rw [<- Array.getElem?_toList]; exact hfl
     simp [hfl',p1,p2]) _ _ _ _ _ hp hR h3
  obtain ⟨g1,i1,st1,l1,_,r1⟩ := bagTake_sound A' cs 0 hi (fun j c v hx hv => f2.2 j c v hx (by rw [<- hv]; congr 1; omega)) (by rw [f2.1]; omega) h5
  refine goes_of_pend (pv := .bag cs') (v := .agg A') (.inl ?_) i1 st1 ⟨A'.toList,rfl,by rw [Array.length_toList,f2.1,l1],fun j c v hx hv => ?_⟩
  ·simp only [execOp,ho,Instr.build,Sem.run_bind,run_underlying k1,Result.andThen_ok,hzv,hmap,Sem.run_pure,map_parts,f1]
  ·have := r1 j c v hx (by rw [<- Array.getElem?_toList,<- hv]; congr 1; omega)
   rw [show 0 + j + 1 = j + 1 by omega] at this
   exact this
 ·cases h0
theorem bag_take (hi : Inv base w0 w g d s vals) {t : Nat} {vs : List PV} (ht : s.ts[t]? = some (.bag vs)) :
  Inv base w0 w (g.relab (tupLab d t)) d { s with ts := s.ts.set t .dead } vals ∧
   Stp d s { s with ts := s.ts.set t .dead } w w g (g.relab (tupLab d t)) := by
 have hat : ∀ p,(s.at p).maySrc = true -> ({ s with ts := s.ts.set t .dead } : St).at p = s.at p := by
  intro p hp
  cases p with
  | cell => rfl
  | tmp i =>
   simp only [St.at,List.getD_eq_getElem?_getD,List.getElem?_set]
   by_cases e : t = i
   ·subst e
    simp only [St.at,List.getD_eq_getElem?_getD,ht,Option.getD_some] at hp
    cases hp
   ·rw [if_neg e]
 have hlab : ∀ o,(∀ j,o ≠ .tmp d t j) -> tupLab d t o = some o := fun o h => by
  cases o with
  | tmp d' i j =>
   simp only [tupLab]
   rw [if_neg]
   rintro ⟨rfl,rfl⟩
   exact h j rfl
  | _ => rfl
 refine ⟨⟨hi.low,hi.hb,hi.mem,fun b o h => ?_,fun b o h => ?_,fun b d' i j h => ?_,hi.blen,hi.nodup,hi.nbl,fun l b bx h1 h2 => ?_,by simpa using hi.tl,fun i c v h1 h2 => ?_,fun i c p h1 h2 => ?_⟩,⟨grows_relab _ _,rfl,Nat.le_refl _,fun b d' i j h hd => ?_,fun _ h => h,fun l hl hlo => ⟨rfl,fun b h => ⟨?_,fun off b' h' => ?_⟩⟩,fun h => h,fun _ => kpl_same rfl⟩⟩
 ·obtain ⟨o',h1,_⟩ := relab_own h; exact hi.own_ge b o' h1
 ·obtain ⟨o',h1,_⟩ := relab_own h; exact hi.own_lt b o' h1
 ·obtain ⟨o',h1,h2⟩ := relab_own h
  cases o' with
  | tmp d1 i1 j1 =>
   simp only [tupLab] at h2
   split at h2
   ·cases h2
   ·cases h2; exact hi.own_d b _ _ _ h1
  | box => cases h2
  | cell => cases h2
  | res => cases h2
 ·exact (hi.boxes l b bx h1 h2).relab (hlab _ (by intro j e; cases e)) fun off => hlab _ (by intro j e; cases e)
 ·simp only [List.getElem?_set] at h1
  by_cases e : t = i
  ·subst e
   have hlt := (gsi.1 ht).1
   rw [if_pos rfl,if_pos hlt] at h1
   obtain rfl := sij h1
   exact trivial
  ·rw [if_neg e] at h1
   exact (hi.tmps i c v h1 h2).relab (fun j => hlab _ (by intro j' h; injection h with _ h _; exact e h.symm)) fun p hp => by cases p <;> rfl
 ·simp only [List.getElem?_set] at h1
  by_cases e : t = i
  ·subst e
   rw [if_pos rfl] at h1
   split at h1
   ·obtain rfl := sij h1
    cases h2
   ·cases h1
  ·rw [if_neg e] at h1
   have := hi.al i c p h1 h2
   rw [hat p this]; exact this
 ·exact kept_relab h (hlab _ (by intro j' e; injection e with e _ _; omega))
 ·have hl' : l < s.bx.length := Nat.lt_of_lt_of_le hl hi.nbl
  have := (hi.boxes l b _ h (gge hl')).1
  exact kept_relab this (hlab _ (by intro j' e; cases e))
 ·exact kept_relab h' (hlab _ (by intro j' e; cases e))
def bagLab (b : Nat) : Owner -> Owner
 | .res (j + 1) => .cell b j
 | o => o
def Gh.newBag (g : Gh) (b : Nat) : Gh := { g with own := fun b' => if b' = b then some .box else (g.own b').map (bagLab b),blk := g.blk ++ [b] }
theorem newbag_sound (hi : Inv base w0 w g d s vals) {us : Array Value} {cs : Box} {T : TypeId} (hl : us.size = cs.length) (hall : cs.all isCell = true)
  (hr : ∀ (j : Nat) c u,cs[j]? = some c -> us[j]? = some u -> RelR w g (.res (j + 1)) c u) :
  Inv base w0 (w.alloc (.cells us T)) (g.newBag w.heap.size) d { s with bx := s.bx ++ [cs] } vals /\ Stp d s { s with bx := s.bx ++ [cs] } w (w.alloc (.cells us T)) g (g.newBag w.heap.size) ∧
   RelP (w.alloc (.cells us T)) (g.newBag w.heap.size) vals { s with bx := s.bx ++ [cs] } (.ptr s.bx.length 0) (.pointer (some ⟨w.heap.size,0,none⟩)) := by
 have hbase : base <= w.heap.size := Nat.le_trans hi.hb hi.low.size
 have hg : Grows g (g.newBag w.heap.size) := ⟨fun _ _ h => h,fun l b h => by
  simp only [Gh.newBag]; rw [gal (gsi.1 h).1]; exact h,rfl⟩
 have hmn : ∀ j,g.m ⟨w.heap.size,j,none⟩ = none := by
  intro j
  cases hm : g.m ⟨w.heap.size,j,none⟩ with
  | none => rfl
  | some v => have := m_lt hi hm; simp at this
 have hnew : ∀ b o',g.own b = some o' -> (g.newBag w.heap.size).own b = some (bagLab w.heap.size o') := by
  intro b o' hb
  have := hi.own_lt b o' hb
  simp only [Gh.newBag]
  rw [if_neg (by omega),hb]; rfl
 obtain ⟨h1,h2⟩ := inv_grow (w1 := w.alloc (.cells us T)) (g1 := g.newBag w.heap.size) (nbs := [cs]) (nbl := [w.heap.size]) hi (hi.low.alloc hbase _) hg
  (fun a v h => by
   have h' := hi.mem a v h
   rw [World.cell?_of_block (w := w) (heap_alloc_old w _ a.block (World.block_lt_of_cell? w a h'))]
   exact h')
  (fun b o' hb hne => ⟨heap_alloc_old w _ b (hi.own_lt b o' hb),by
   rw [hnew b o' hb,hb]
   cases o' with
   | res j => exact absurd rfl (hne j)
   | _ => rfl,fun _ => rfl⟩)
  (fun b o' hb => by
   simp only [Gh.newBag] at hb
   split at hb
   ·rename_i e
    subst e
    obtain rfl := sij hb
    exact .inr ⟨hbase,by simp,fun _ _ _ e => by cases e⟩
   ·cases hob : g.own b with
    | none => rw [hob] at hb; cases hb
    | some o'' =>
     rw [hob] at hb
     obtain rfl := sij hb
     cases o'' with
     | res j =>
      cases j with
      | zero => exact .inl rfl
      | succ j => exact .inr ⟨hi.own_ge b _ hob,by have := hi.own_lt b _ hob; simp; omega,fun _ _ _ e => by cases e⟩
     | _ => exact .inl rfl)
  (by simp) rfl rfl (by simp) (fun b hb => by
   simp only [List.mem_singleton] at hb
   subst hb
   rw [own_none hi (Nat.le_refl _)]
   exact fun e => by cases e)
  (fun l b bx h1 h2 => by
   cases l with
   | succ l => simp at h1
   | zero =>
    simp only [List.getElem?_cons_zero,sjE] at h1 h2
    subst h1; subst h2
    refine ⟨by simp [Gh.newBag],hmn,us,T,heap_alloc_new w _,hl,fun j c u hc hu => ?_⟩
    have h := hr j c u hc hu
    have hcell := List.all_eq_true.1 hall c (mog hc)
    cases c with
    | own ex k xs =>
     obtain ⟨b1,off1,c1,arr,T1,f1,f2,f3,f4⟩ := (h : OwnRel w g (.res (j + 1)) ex k xs u)
     have hlt := hi.own_lt b1 _ f2
     exact ⟨b1,off1,c1,arr,T1,f1,hnew b1 _ f2,by rw [heap_alloc_old w _ b1 hlt]; exact f3,f4⟩
    | dat x => exact RelC.grows hg (c := .dat x) h
    | ptr l off => exact RelC.grows hg (c := .ptr l off) h
    | iptr q off => exact RelC.grows hg (c := .iptr q off) h
    | clo f cap => exact RelC.grows hg (c := .clo f cap) h
    | _ => cases hcell)
 refine ⟨h1,h2,⟨w.heap.size,?_,rfl⟩⟩
 simp only [Gh.newBag]
 rw [gar (by rw [hi.blen]; exact Nat.le_refl _),hi.blen]
 simp
theorem bagBox_sound (hi : Inv base w0 w g d s vals) (ha : a.tmps = vals) {t : TypeId} {x : Operand} (ho : o.op = .box t x) {s' : St}
  (h : bagBox cfg o.dst x s = some s') : Goes P o a base w0 w g d s vals s' := by
 unfold bagBox at h
 split at h
 ·rename_i t1 cs hv
  split at h
  ·rename_i hall
   obtain rfl := sij h
   have ht : s.ts[t1]? = some (.bag cs) := getD_some hv (by intro e; cases e)
   have hlt : t1 < vals.size := by rw [hi.tl]; exact (gsi.1 ht).1
   obtain ⟨k1,k2⟩ := bag_take hi ht
   have hr : RelV w g (fun j => .tmp d t1 j) (.bag cs) vals[t1] := hi.tmps t1 _ vals[t1] ht (agg hlt)
   have hr' : RelV w (g.relab (tupLab d t1)) .res (.bag cs) vals[t1] := RelV.relab (f := tupLab d t1) (ow' := .res) (fun j => by simp [tupLab]) hr
   have hev : a.eval (.tmp t1) = vals[t1] := by simp [Act.eval,ha,hlt]
   obtain ⟨us,e1,e2,e3⟩ := hr'
   obtain ⟨n1,n2,n3⟩ := newbag_sound (T := t) (us := us.toArray) k1 (by simpa using e2) hall (fun j c u hc hu => e3 j c u hc (by simpa using hu))
   refine goes_of_pend (.inl ?_) n1 (k2.trans n2) n3
   simp only [execOp,ho,Instr.box,newVar,newRow,Sem.run_bind,Result.andThen_ok,run_newObj,Sem.run_pure,hev,e1]
   rfl
  ·cases h
 ·cases h
theorem bagStore_sound (hc : CfgOk P cfg) (hi : Inv base w0 w g d s vals) (hgl : GlobOk cfg g) (ha : a.tmps = vals) {t : TypeId} {x y : Operand} (ho : o.op = .store t x y) {s' : St}
  (h : (seqO (bagStore cfg t x y s) fun s' => some (put s' o.dst (.dat (.lit undef)))) = some s') : Goes P o a base w0 w g d s vals s' := by
 obtain ⟨s2,h1,h2⟩ := seqO_eq.1 h
 obtain rfl := sij h2
 clear h h2
 unfold bagStore at h1
 split at h1
 ·rename_i t1 cs hv
  split at h1
  ·rename_i l off hv2
   obtain ⟨i,hti,h3⟩ := seqO_eq.1 h1
   obtain ⟨bx,hbx,h4⟩ := seqO_eq.1 h3
   split at h4
   ·rename_i hcond
    obtain ⟨⟨hsz,hfit⟩,hall⟩ := hcond
    obtain rfl := sij h4
    clear h1 h3
    have ht := hc.ti t i hti
    have htb : s.ts[t1]? = some (.bag cs) := getD_some hv (by intro e; cases e)
    have hlt : t1 < vals.size := by rw [hi.tl]; exact (gsi.1 htb).1
    obtain ⟨k1,k2⟩ := bag_take hi htb
    have hr : RelV w g (fun j => .tmp d t1 j) (.bag cs) vals[t1] := hi.tmps t1 _ vals[t1] htb (agg hlt)
    have hr' : RelV w (g.relab (tupLab d t1)) .res (.bag cs) vals[t1] := RelV.relab (f := tupLab d t1) (ow' := .res) (fun j => by simp [tupLab]) hr
    have hev : a.eval (.tmp t1) = vals[t1] := by simp [Act.eval,ha,hlt]
    obtain ⟨us,e1,e2,e3⟩ := hr'
    obtain ⟨b,q1,e4⟩ := val_plain hi hgl ha hv2 (by intro e; cases e) (by intro _ _ _ e; cases e) rfl rfl
    have q1' := k2.gr.blk l b q1
    obtain ⟨b',cur,T,p1,p2,p3,p4⟩ := load_box k1 (l := l) (bx := bx) hbx
    rw [q1'] at p1
    obtain rfl := sij p1
    have hcell : ∀ v ∈ us,v.oneCell' = true := by
     intro v hm
     obtain ⟨j,hj⟩ := List.getElem?_of_mem hm
     have hjl : j < cs.length := by rw [<- e2]; exact (gsi.1 hj).1
     have hc0 := gge hjl
     have hR := e3 j cs[j] v hc0 hj
     have hcl := List.all_eq_true.1 hall cs[j] (mog hc0)
     revert hR hcl
     cases cs[j] with
     | own ex k xs => intro hR _; obtain ⟨b1,off1,c1,arr,T1,f1,_⟩ := (hR : OwnRel _ _ _ ex k xs v); rw [f1]; rfl
     | dat y =>
      intro hR hcl
      cases y with
      | lit q => have : v = q := hR; subst this; exact hcl
      | nil => exact RelD.oneCell hR
      | sl k xs => exact RelD.oneCell hR
      | any => exact RelD.oneCell hR
     | ptr l off => intro hR _; obtain ⟨b,_,h4⟩ := hR; subst h4; rfl
     | iptr q off => intro hR _; obtain ⟨b,o',us,h3,_⟩ := hR; subst h3; rfl
     | clo f cap => intro hR _; obtain ⟨us,h3,_⟩ := hR; subst h3; rfl
     | _ => intro _ hcl; cases hcl
    obtain ⟨g2,i2,st2⟩ := store_inv (np := false) (us := us) k1 hbx q1' p2 p3 e2 hfit (fun hn => by cases hn) 1
     (fun j x' v hx hv => by
      have hR := e3 j x' v hx hv
      have hcl := List.all_eq_true.1 hall x' (mog hx)
      cases x' with
      | own ex k xs => exact .inr ⟨ex,k,xs,rfl,by rw [Nat.add_comm]; exact hR⟩
      | dat y => exact .inl ⟨rfl,hR⟩
      | ptr l off => exact .inl ⟨rfl,hR⟩
      | iptr q off => exact .inl ⟨rfl,hR⟩
      | clo f cap => exact .inl ⟨rfl,hR⟩
      | _ => cases hcl)
    have hcells : (a.eval (.tmp t1)).cells.toList = us := by rw [hev,e1]; simp [Value.cells]
    refine goes_of_pend (.inr ⟨store_exec ho e4 ?_,rfl⟩) i2 (k2.trans st2) lit_rel
    have hsz2 : (a.eval (.tmp t1)).cells.size = us.length := by rw [<- Array.length_toList,hcells]
    have := run_storeVar' ht p2 (u := a.eval (.tmp t1)) (off := off) (by rw [hsz2,e2]; exact hsz) (by rw [hsz2,p3,e2]; exact hfit) (by rw [hcells]; exact hcell)
    rw [hcells] at this
    exact this
   ·cases h4
  ·cases h1
 ·cases h1
theorem place_take (hi : Inv base w0 w g d s vals) {p : Place} {ex : Bool} {k : Nat} {xs : List (List D)} (hp : s.at p = .own ex k xs) (j : Nat) :
  ∃ g1 u,placeVal w g vals p = some u /\ Inv base w0 w g1 d (s.mark p .dead) vals /\ Stp d s (s.mark p .dead) w w g g1 /\ OwnRel w g1 (.res j) ex k xs u ∧
   ∀ j' ex' k' xs' v',OwnRel w g (.res j') ex' k' xs' v' -> OwnRel w g1 (.res j') ex' k' xs' v' := by
 obtain ⟨o,u,h1,h2,h3⟩ := at_rel hi hp
 have hno : ∀ j',o ≠ .res j' := by
  intro j' e
  cases p with
  | tmp t => rw [e] at h1; cases h1
  | cell l off => obtain ⟨b,hb,h⟩ := h1; rw [e] at h; cases h
 have hf : moveLab o (.res j) o = some (.res j) := by simp [moveLab]
 have hm := mark_sound (g' := g.relab (moveLab o (.res j))) (c := .dead) hi h1 h2 rfl rfl (fun _ _ h => h) hi.mem
  (fun b o' hb hne => kept_relab hb (by simp [moveLab,hne])) (fun b o' hb => by
   obtain ⟨o'',e1,e2⟩ := relab_own hb
   refine ⟨o'',e1,?_⟩
   unfold moveLab at e2
   split at e2
   ·cases e2; exact .inr (fun _ _ _ e => by cases e)
   ·cases e2; exact .inl rfl) rfl (by
   cases p with
   | tmp => exact trivial
   | cell l off => obtain ⟨b,hb,_⟩ := h1; exact ⟨b,hb,trivial⟩)
 exact ⟨_,u,h2,hm.1,hm.2,h3.relab hf,fun j' ex' k' xs' v' h => h.relab (by simp only [moveLab]; rw [if_neg (fun e => hno j' e.symm)])⟩
theorem takeBag_sound {l b j0 : Nat} {cs0 : Array Value} {T : TypeId} (hheap : w.heap[b]? = some (.cells cs0 T (0,0))) : ∀ (cs : List PV) (j : Nat) {g : Gh} {s : St} {bx : Box},j0 <= j -> Inv base w0 w g d s vals -> g.blk[l]? = some b -> s.bx[l]? = some bx →
  (∀ (k : Nat) c,cs[k]? = some c -> bx[j + k]? = some c) -> cs.all isCell = true →
  ∃ g1,Inv base w0 w g1 d (takeCells l j cs s) vals /\ Stp d s (takeCells l j cs s) w w g g1 /\ (∀ j' ex' k' xs' v',OwnRel w g (.res j') ex' k' xs' v' -> OwnRel w g1 (.res j') ex' k' xs' v') ∧
   ∀ (k : Nat) c u,cs[k]? = some c -> cs0[j + k]? = some u -> RelR w g1 (.res (j - j0 + k + 1)) c u
 | [],j,g,s,bx,_,hi,_,_,_,_ => ⟨g,hi,Stp.refl _ s w g,fun _ _ _ _ _ h => h,fun k c u h => by simp at h⟩
 | c :: cs,j,g,s,bx,hj,hi,hb,hbx,hcs,hall => by
  have hc0 : bx[j]? = some c := hcs 0 c rfl
  simp only [List.all_cons,Bool.and_eq_true] at hall
  have plain : c.isOwn = false -> takeCells l j (c :: cs) s = takeCells l (j + 1) cs s -> ∃ g1,Inv base w0 w g1 d (takeCells l j (c :: cs) s) vals /\ Stp d s (takeCells l j (c :: cs) s) w w g g1 /\ (∀ j' ex' k' xs' v',OwnRel w g (.res j') ex' k' xs' v' -> OwnRel w g1 (.res j') ex' k' xs' v') /\ ∀ (k : Nat) c' u,(c :: cs)[k]? = some c' -> cs0[j + k]? = some u -> RelR w g1 (.res (j - j0 + k + 1)) c' u := by
   intro hno e
   rw [e]
   obtain ⟨g1,i1,st1,o1,r1⟩ := takeBag_sound hheap cs (j + 1) (Nat.le_succ_of_le hj) hi hb hbx (fun k c' h => by rw [show j + 1 + k = j + (k + 1) by omega]; exact hcs (k + 1) c' h) hall.2
   refine ⟨g1,i1,st1,o1,fun k c' u hk hu => ?_⟩
   cases k with
   | succ k =>
    have := r1 k c' u hk (by rw [<- hu]; congr 1; omega)
    rw [show j - j0 + (k + 1) + 1 = j + 1 - j0 + k + 1 by omega]; exact this
   | zero =>
    simp only [List.getElem?_cons_zero,sjE] at hk
    subst hk
    obtain ⟨b',cs',T',p1,p2,p3,p4⟩ := load_box hi hbx
    rw [hb] at p1
    obtain rfl := sij p1
    rw [hheap] at p2
    obtain ⟨rfl,_⟩ : cs0 = cs' /\ True := by cases p2; exact ⟨rfl,trivial⟩
    have hR := relC_of_relB (p4 j c u hc0 hu) hno
    exact relR_of_relC (hR.grows st1.gr)
  cases c with
  | own ex k xs =>
   have hat : s.at (.cell l j) = .own ex k xs := by simp only [St.at,hbx,Option.getD_some,List.getD,hc0]
   obtain ⟨g1,u0,e1,i1,st1,o1,k1⟩ := place_take hi hat (j - j0 + 1)
   have hl0 : l < s.bx.length := (gsi.1 hbx).1
   obtain ⟨g3,i3,st3,k3,r3⟩ := takeBag_sound hheap cs (j + 1) (s := s.mark (.cell l j) .dead) (bx := bx.set j .dead) (Nat.le_succ_of_le hj) i1 (st1.gr.blk l b hb)
    (by simp only [St.mark,touch_bx,hbx,Option.getD_some,List.getElem?_set]; rw [if_pos trivial,if_pos hl0])
    (fun k' c' h => by
     rw [List.getElem?_set,if_neg (by omega),show j + 1 + k' = j + (k' + 1) by omega]
     exact hcs (k' + 1) c' h) hall.2
   refine ⟨g3,i3,st1.trans st3,fun j' ex' k' xs' v' h => k3 _ _ _ _ _ (k1 _ _ _ _ _ h),fun k' c' u hk hu => ?_⟩
   cases k' with
   | succ k' =>
    have := r3 k' c' u hk (by rw [<- hu]; congr 1; omega)
    rw [show j - j0 + (k' + 1) + 1 = j + 1 - j0 + k' + 1 by omega]; exact this
   | zero =>
    simp only [List.getElem?_cons_zero,sjE] at hk
    subst hk
    simp only [placeVal,hb,Option.bind_some,cell_of_heap hheap] at e1
    rw [Nat.add_zero] at hu
    rw [e1] at hu
    obtain rfl := sij hu
    exact k3 _ _ _ _ _ o1
  | _ => exact plain rfl rfl
theorem bagLoad_sound (hc : CfgOk P cfg) (hi : Inv base w0 w g d s vals) (hgl : GlobOk cfg g) (ha : a.tmps = vals) {t : TypeId} {x : Operand} (ho : o.op = .load t x) {s' : St}
  (h : bagLoad cfg o.dst t x s = some s') : Goes P o a base w0 w g d s vals s' := by
 unfold bagLoad at h
 split at h
 ·rename_i l off hv
  obtain ⟨i,hti,h1⟩ := seqO_eq.1 h
  obtain ⟨bx,hbx,h2⟩ := seqO_eq.1 h1
  obtain ⟨cs,hcut,h3⟩ := seqO_eq.1 h2
  clear h h1 h2
  split at h3
  ·rename_i hcond
   obtain ⟨hk,hall⟩ := hcond
   obtain rfl := sij h3
   have ht := hc.ti t i hti
   obtain ⟨b,cs0,T,p1,p2,p3,p4⟩ := load_box hi hbx
   obtain ⟨b',q1,q2⟩ := val_plain hi hgl ha hv (by intro e; cases e) (by intro _ _ _ e; cases e) rfl rfl
   rw [p1] at q1
   obtain rfl := sij q1
   obtain ⟨l1,l2⟩ := cut_eq hcut
   have hin : ∀ j,j < i.size -> ∃ u,cs0[off + j]? = some u := fun j hj => by
    have hx : cs[j]? = some cs[j] := gge (by omega)
    have hx2 : bx[off + j]? = some cs[j] := by rw [<- l2 j hj]; exact hx
    exact ⟨_,agg (by rw [p3]; exact (gsi.1 hx2).1)⟩
   obtain ⟨g1,i1,st1,_,r1⟩ := takeBag_sound (j0 := off) p2 cs off (Nat.le_refl _) hi p1 hbx (fun k c h => by
    rw [<- l2 k (by rw [<- l1]; exact (gsi.1 h).1)]; exact h) hall
   have hrun := run_loadVar_agg (P := P) (w := w) ht hk (ad := ⟨b,off,none⟩) (vs := (List.range i.size).map fun j => (cs0[off + j]?).getD undef) (by simp) (fun j v hv => by
    rw [List.getElem?_map] at hv
    cases hj : (List.range i.size)[j]? with
    | none => rw [hj] at hv; cases hv
    | some j' =>
     obtain ⟨hlt,he⟩ := gsi.1 hj
     simp at hlt he
     subst he
     obtain ⟨u,g3⟩ := hin j hlt
     rw [hj] at hv
     simp only [Option.map_some,g3,Option.getD_some,sjE] at hv
     subst hv
     rw [add_mk,cell_of_heap p2]
     exact g3)
   refine goes_of_pend (pv := .bag cs) (.inl (load_exec ho q2 hrun)) i1 st1 ⟨(List.range i.size).map fun j => (cs0[off + j]?).getD undef,rfl,by simp [l1],fun j c v hx hv => ?_⟩
   ·have hj : j < i.size := by rw [<- l1]; exact (gsi.1 hx).1
    obtain ⟨u,g3⟩ := hin j hj
    rw [List.getElem?_map,List.getElem?_range hj] at hv
    simp only [Option.map_some,g3,Option.getD_some,sjE] at hv
    subst hv
    have := r1 j c u hx g3
    rw [Nat.sub_self,Nat.zero_add] at this
    exact this
  ·cases h3
 ·cases h
end
end Go.Vx
namespace Go.Vx
open Go Go.RowKit
section
variable {P : Program} {cfg : Cfg} {base : Nat} {w0 w : World} {g : Gh} {d : Nat} {s : St} {vals : Array Value} {o : Oper} {a : Act}
theorem rd_len {r : Rd} {u : Value} (hr : RdRel w g vals d s r u) : ∃ ad c,u = .slice ad r.rows.length c := by
 cases hr with
 | imm k xs _ h => obtain ⟨ad,c,h1,_⟩ := h.slice; exact ⟨ad,c,h1⟩
 | «at» p ex k xs _ ow h1 h2 h3 h4 => obtain ⟨b,off,c,cs,T,h,_⟩ := h4; exact ⟨_,c,h⟩
theorem builtin_exec {b : Builtin} {c : Call} (ho : o.op = .call c) (hb : c.callee = .builtin b) {w' : World} {v : Value}
  (h : (builtin b c.argTypes o.type (c.args.map fun | .const _ => true | _ => false) (c.args.map a.eval)).run P w = .ok (.value v) w') : (execOp a.eval o).run P w = .ok (.value v) w' := by
 simp only [execOp,ho,resolve,hb,Sem.run_bind,Sem.run_pure,Result.andThen_ok,invoke]
 exact h
theorem builtin_sound (hc : CfgOk P cfg) (hi : Inv base w0 w g d s vals) (hgl : GlobOk cfg g) (ha : a.tmps = vals) {b : Builtin} {c : Call} (ho : o.op = .call c) (hb : c.callee = .builtin b) {s' : St}
  (h : (seqO (aBuiltin cfg b c.argTypes c.args.toList s) fun p => some (put p.2 o.dst p.1)) = some s') : Goes P o a base w0 w g d s vals s' := by
 obtain ⟨⟨pv,s1⟩,h1,h2⟩ := seqO_eq.1 h
 obtain rfl := sij h2
 clear h h2
 have hargs : ∀ l,c.args.toList = l -> c.args = l.toArray := fun l e => by rw [<- e]
 have slen : ∀ (x : Operand),c.args.toList = [x] -> b = .len -> (seqO (c.argTypes[0]?) fun t => seqO (cfg.ti t) fun i => match i.kind with
   | .slice _ => seqO (rd cfg x s) fun r => some (PV.dat (.lit (.int .i64 r.rows.length)),s)
   | _ => none) = some (pv,s1) -> Goes P o a base w0 w g d s vals (put s1 o.dst pv) := by
  intro x hx hbl h
  subst hbl
  obtain ⟨t,h2,h3⟩ := seqO_eq.1 h
  obtain ⟨i,h4,h5⟩ := seqO_eq.1 h3
  have hkd := (hc.ti t i h4).kind
  split at h5
  ·rename_i e hk
   rw [hk] at hkd
   simp only [KindOk] at hkd
   obtain ⟨r,h6,h7⟩ := seqO_eq.1 h5
   simp only [sjE,Prod.mk.injEq] at h7
   obtain ⟨rfl,rfl⟩ := h7
   obtain ⟨ad,cc,hu⟩ := rd_len (rd_sound hi hgl ha h6)
   refine goes_same (builtin_exec ho hb ?_) hi lit_rel
   simp only [hargs _ hx,builtin,Builtin.len_,h2,List.map_toArray,List.map_cons,List.map_nil]
   simp [hu,run_underlying hkd,goInt]
  ·cases h5
 unfold aBuiltin at h1
 split at h1
 ·rename_i x hx
  split at h1
  ·rename_i b' hv
   obtain ⟨t,h2,h3⟩ := seqO_eq.1 h1
   obtain ⟨i,h4,h5⟩ := seqO_eq.1 h3
   have hkd := (hc.ti t i h4).kind
   split at h5
   ·rename_i hk
    rw [hk] at hkd
    simp only [KindOk] at hkd
    simp only [sjE,Prod.mk.injEq] at h5
    obtain ⟨rfl,rfl⟩ := h5
    have ex := val_lit hi hgl ha hv
    refine goes_same (builtin_exec ho hb ?_) hi lit_rel
    simp only [hargs _ hx,builtin,Builtin.len_,h2,List.map_toArray,List.map_cons,List.map_nil]
    simp [ex,run_underlying hkd,goInt]
   ·cases h5
  ·exact slen x hx rfl h1
 ·rename_i x y hx
  obtain ⟨t,h2,h3⟩ := seqO_eq.1 h1
  obtain ⟨t',h4,h5⟩ := seqO_eq.1 h3
  split at h5
  ·rename_i ht
   subst ht
   obtain ⟨rb,hrb,h6⟩ := seqO_eq.1 h5
   have hz : NoZeros P c.argTypes := by
    have ⟨i,hti,h7⟩ := seqO_eq.1 h6
    have hkd := (hc.ti t i hti).kind
    split at h7
    ·rename_i e hk
     rw [hk] at hkd
     exact ⟨t,h4,.inl ⟨e,hkd⟩⟩
    ·cases h7
   obtain ⟨v,w1,g1,r1,i1,st1,rel⟩ := append_sound hc hi hgl ha h6 (appArg_rd hi (rd_sound hi hgl ha hrb)) h2 hz o.type
   refine goes_of_pend (.inl (builtin_exec ho hb ?_)) i1 st1 rel
   simp only [hargs _ hx,builtin,List.map_toArray,List.map_cons,List.map_nil,Sem.run_bind,r1,Result.andThen_ok,Sem.run_pure]
  ·cases h5
 ·rename_i x y hx
  split at h1
  ·rename_i k n k' n' hv hv'
   simp only [sjE,Prod.mk.injEq] at h1
   obtain ⟨rfl,rfl⟩ := h1
   have e1 := val_lit hi hgl ha hv
   have e2 := val_lit hi hgl ha hv'
   refine goes_same (builtin_exec ho hb ?_) hi lit_rel
   simp only [hargs _ hx,builtin,Builtin.max_,List.map_toArray,List.map_cons,List.map_nil]
   simp [e1,e2,Builtin.max2]
  ·cases h1
 ·cases h1
theorem aop_sound (hc : CfgOk P cfg) (hi : Inv base w0 w g d s vals) (hgl : GlobOk cfg g) (ha : a.tmps = vals) {pol : Option Pol} {s' : St}
  (h : aop cfg pol o s = some s') : Goes P o a base w0 w g d s vals s' := by
 unfold aop at h
 split at h
 ·rename_i ho
  split at h
  ·rename_i q hq
   obtain rfl := sij h
   exact moveT_sound hi ha ho hq
  ·exact move_sound hi hgl ha (.inl ho) h
 ·rename_i ho; exact move_sound hi hgl ha (.inr ho) h
 ·rename_i ho; exact pick_sound hi hgl ha ho h
 ·rename_i ho; exact alloc_sound hc hi ho h
 ·rename_i ho
  split at h
  ·exact bagBox_sound hi ha ho h
  ·exact box_sound hi hgl ha ho h
 ·rename_i ho
  split at h
  ·exact bagBuild_sound hc hi hgl ha ho h
  ·exact build_sound hc hi hgl ha ho h
 ·rename_i ho; exact buildSlice_sound hc hi hgl ha ho h
 ·rename_i ho
  split at h
  ·exact bagLoad_sound hc hi hgl ha ho h
  ·exact load_sound hc hi hgl ha ho h
 ·rename_i ho
  split at h
  ·exact bagStore_sound hc hi hgl ha ho h
  ·exact store_sound hc hi hgl ha ho h
 ·rename_i ho; exact nilCheck_sound hi hgl ha ho h
 ·rename_i ho; exact binOp_sound hc hi hgl ha ho h
 ·rename_i ho; exact unOp_sound hi hgl ha ho h
 ·rename_i ho; exact conv_sound hc hi hgl ha ho h
 ·rename_i ho; exact makeFunc_sound hi hgl ha ho h
 ·rename_i ho; exact makeSlice_sound hc hi hgl ha ho h
 ·rename_i ho; exact slice_sound hc hi hgl ha ho h
 ·rename_i ho; exact fieldAddr_sound hc hi hgl ha ho h
 ·rename_i ho; exact indexAddr_sound hc hi hgl ha ho h
 ·rename_i ho; exact field_sound hc hi hgl ha ho h
 ·rename_i ho; exact extract_sound hi ha ho h
 ·rename_i c ho
  split at h
  ·rename_i b hb; exact builtin_sound hc hi hgl ha ho hb h
  ·cases h
 ·cases h
end
end Go.Vx
namespace Go.Vx
open Go Go.RowKit
section
variable {P : Program} {cfg : Cfg} {base : Nat} {w0 w : World} {g : Gh} {d : Nat} {s : St} {vals : Array Value} {o : Oper} {a : Act}
theorem relab_res (hi : Inv base w0 w g d s vals) {f : Owner -> Option Owner} (hb : f .box = some .box) (hc : ∀ b off,f (.cell b off) = some (.cell b off)) (ht : ∀ d' i j,d' <= d -> f (.tmp d' i j) = some (.tmp d' i j))
  (hr : ∀ j d' i j',f (.res j) = some (.tmp d' i j') -> d' <= d) : Inv base w0 w (g.relab f) d s vals /\ Stp d s s w w g (g.relab f) := by
 refine ⟨⟨hi.low,hi.hb,hi.mem,fun b o h => ?_,fun b o h => ?_,fun b d' i j h => ?_,hi.blen,hi.nodup,hi.nbl,fun l b bx h1 h2 => (hi.boxes l b bx h1 h2).relab hb (hc b),hi.tl,fun i c v h1 h2 => ?_,hi.al⟩,⟨grows_relab _ _,rfl,Nat.le_refl _,fun b d' i j h hd => kept_relab h (ht d' i j (Nat.le_of_lt hd)),fun _ h => h,fun l hl hlo => ⟨rfl,fun b h => ⟨?_,fun off b' h' => kept_relab h' (hc b off)⟩⟩,fun h => h,fun _ => kpl_same rfl⟩⟩
 ·obtain ⟨o',h1,_⟩ := relab_own h; exact hi.own_ge b o' h1
 ·obtain ⟨o',h1,_⟩ := relab_own h; exact hi.own_lt b o' h1
 ·obtain ⟨o',h1,h2⟩ := relab_own h
  cases o' with
  | box => rw [hb] at h2; cases h2
  | cell b1 off => rw [hc] at h2; cases h2
  | tmp d1 i1 j1 =>
   have := hi.own_d b d1 i1 j1 h1
   rw [ht d1 i1 j1 this] at h2
   cases h2; exact this
  | res j1 => exact hr j1 d' i j h2
 ·exact (hi.tmps i c v h1 h2).relab (fun j => ht d i j (Nat.le_refl _)) fun p hp => by cases p <;> rfl
 ·have hl' : l < s.bx.length := Nat.lt_of_lt_of_le hl hi.nbl
  exact kept_relab (hi.boxes l b _ h (gge hl')).1 hb
def resEval (tmps : Array Value) : ResultVar -> Sem Value
 | .tmp t => pure (tmps.getD t undef)
 | .cell a t => do loadVar t (← asAddr (tmps.getD a undef))
theorem results_eq (fn : Func) (tmps : Array Value) : results fn tmps = (do let vs ← fn.results.mapM (resEval tmps); pure (if h : vs.size = 1 then vs[0] else .tuple vs)) := rfl
theorem relR_of_relP {c : PV} {u : Value} (hok : okRes c = true) (h : RelP w g vals s c u) : RelR w g (.res 0) c u := by
 cases c with
 | «alias» => cases hok
 | eptr => cases hok
 | bag => cases hok
 | tup => cases hok
 | dead => cases hok
 | dat => exact h
 | own => exact h
 | agg => exact h
 | ptr => exact h
 | iptr => exact h
 | clo => exact h
theorem relR_of_relA {c : PV} {u : Value} {ow : Owner} (h : RelA g c u) : RelR w g ow c u := by
 cases c with
 | agg => exact h
 | dead => exact trivial
 | own => exact h.elim
 | «alias» => exact h.elim
 | eptr => exact h.elim
 | bag => exact h.elim
 | tup => exact h.elim
 | dat => exact h
 | ptr => exact h
 | iptr => exact h
 | clo => exact h
theorem ares_sound (hc : CfgOk P cfg) (hi : Inv base w0 w g d s vals) (hgl : GlobOk cfg g) {v : ResultVar} {pv : PV} {s1 : St} (h : ares cfg v s = some (pv,s1)) :
  ∃ u g1,(resEval vals v).run P w = .ok u w /\ Inv base w0 w g1 d s1 vals /\ Stp d s s1 w w g g1 /\ RelR w g1 (.res 0) pv u := by
 have ha : ({ tmps := vals,defers := [] } : Act).tmps = vals := rfl
 cases v with
 | tmp t =>
  simp only [ares] at h
  obtain ⟨⟨c,s'⟩,h1,h2⟩ := seqO_eq.1 h
  split at h2
  ·rename_i hok
   simp only [sjE,Prod.mk.injEq] at h2
   obtain ⟨rfl,rfl⟩ := h2
   obtain ⟨g1,i1,st1,r1,_⟩ := fetch_sound hi hgl h1 ha
   exact ⟨_,g1,rfl,i1,st1,relR_of_relP hok r1⟩
  ·cases h2
 | cell x t =>
  simp only [ares] at h
  obtain ⟨ad,u,g1,e1,r1,i1,st1,_,r2⟩ := aLoad_sound (x := .tmp x) hc hi hgl ha h
  refine ⟨u,g1,?_,i1,st1,relR_of_relA (r2 rfl)⟩
  have e1' : vals.getD x undef = .pointer (some ad) := e1
  simp only [resEval,e1',asAddr,Sem.run_bind,Sem.run_pure,Result.andThen_ok,r1]
def valOf (r : Result Value) : Value :=
 match r with
 | .ok v _ => v
 | _ => undef
def toLab (d N j : Nat) : Owner -> Option Owner := fun o => if o = .res 0 then some (.tmp d N (j + 1)) else some o
theorem aress_sound (hc : CfgOk P cfg) {N : Nat} : ∀ (vs : List ResultVar) {j : Nat} {g : Gh} {s s1 : St} {pvs : List PV},Inv base w0 w g (d + 1) s vals -> GlobOk cfg g -> aress cfg vs s = some (pvs,s1) →
  ∃ g1,(∀ v ∈ vs,(resEval vals v).run P w = .ok (valOf ((resEval vals v).run P w)) w) /\ Inv base w0 w g1 (d + 1) s1 vals /\ Stp (d + 1) s s1 w w g g1 /\ pvs.length = vs.length ∧
   ∀ (i : Nat) v c,vs[i]? = some v -> pvs[i]? = some c -> RelR w g1 (.tmp d N (j + i + 1)) c (valOf ((resEval vals v).run P w))
 | [],j,g,s,s1,pvs,hi,_,h => by
  simp only [aress,sjE,Prod.mk.injEq] at h
  obtain ⟨rfl,rfl⟩ := h
  exact ⟨g,fun v h => (by cases h),hi,Stp.refl _ s w g,rfl,fun i v c h => by simp at h⟩
 | v :: vs,j,g,s,s1,pvs,hi,hgl,h => by
  simp only [aress] at h
  obtain ⟨⟨c,s'⟩,h1,h2⟩ := seqO_eq.1 h
  obtain ⟨⟨cs,s''⟩,h3,h4⟩ := seqO_eq.1 h2
  simp only [sjE,Prod.mk.injEq] at h4
  obtain ⟨rfl,rfl⟩ := h4
  obtain ⟨u,g1,r1,i1,st1,rel1⟩ := ares_sound hc hi hgl h1
  obtain ⟨i2,st2⟩ := relab_res (f := toLab d N j) i1 (by simp [toLab]) (fun _ _ => by simp [toLab]) (fun _ _ _ _ => by simp [toLab]) (fun j' d' i j'' e => by
   unfold toLab at e
   split at e
   ·cases e; exact Nat.le_succ d
   ·cases e)
  have rel2 : RelR w (g1.relab (toLab d N j)) (.tmp d N (j + 1)) c u := rel1.relab (by simp [toLab])
  obtain ⟨g3,r3,i3,st3,l3,rel3⟩ := aress_sound hc (N := N) vs (j := j + 1) i2 ((hgl.grows st1.gr).grows st2.gr) h3
  have hu : valOf ((resEval vals v).run P w) = u := by rw [r1]; rfl
  refine ⟨g3,fun x hx => ?_,i3,(st1.trans st2).trans st3,by simp [l3],fun i x y hx hy => ?_⟩
  ·rcases List.mem_cons.1 hx with hx | hx
   ·subst hx; rw [hu]; exact r1
   ·exact r3 x hx
  ·cases i with
   | zero =>
    simp only [List.getElem?_cons_zero,sjE] at hx hy
    subst hx; subst hy
    rw [hu]
    exact rel2.kept st3.gr fun b hb => st3.tmps b d N (j + 1) hb (Nat.lt_succ_self d)
   | succ i =>
    simp only [List.getElem?_cons_succ] at hx hy
    have := rel3 i x y hx hy
    rw [show j + (i + 1) + 1 = j + 1 + i + 1 by omega]
    exact this
theorem takeCells_sound {N l b : Nat} {cs0 : Array Value} {T : TypeId} (hheap : w.heap[b]? = some (.cells cs0 T (0,0))) : ∀ (cs : List PV) (j : Nat) {g : Gh} {s : St} {bx : Box},Inv base w0 w g (d + 1) s vals -> g.blk[l]? = some b -> s.bx[l]? = some bx →
  (∀ (k : Nat) c,cs[k]? = some c -> bx[j + k]? = some c) -> cs.all isCell = true →
  ∃ g1,Inv base w0 w g1 (d + 1) (takeCells l j cs s) vals /\ Stp (d + 1) s (takeCells l j cs s) w w g g1 /\ ∀ (k : Nat) c u,cs[k]? = some c -> cs0[j + k]? = some u -> RelR w g1 (.tmp d N (j + k + 1)) c u
 | [],j,g,s,bx,hi,_,_,_,_ => ⟨g,hi,Stp.refl _ s w g,fun k c u h => by simp at h⟩
 | c :: cs,j,g,s,bx,hi,hb,hbx,hcs,hall => by
  have hc0 : bx[j]? = some c := hcs 0 c rfl
  simp only [List.all_cons,Bool.and_eq_true] at hall
  have plain : c.isOwn = false -> takeCells l j (c :: cs) s = takeCells l (j + 1) cs s -> ∃ g1,Inv base w0 w g1 (d + 1) (takeCells l j (c :: cs) s) vals /\ Stp (d + 1) s (takeCells l j (c :: cs) s) w w g g1 /\ ∀ (k : Nat) c' u,(c :: cs)[k]? = some c' -> cs0[j + k]? = some u -> RelR w g1 (.tmp d N (j + k + 1)) c' u := by
   intro hno e
   rw [e]
   obtain ⟨g1,i1,st1,r1⟩ := takeCells_sound (N := N) hheap cs (j + 1) hi hb hbx (fun k c' h => by rw [show j + 1 + k = j + (k + 1) by omega]; exact hcs (k + 1) c' h) hall.2
   refine ⟨g1,i1,st1,fun k c' u hk hu => ?_⟩
   cases k with
   | succ k =>
    have := r1 k c' u hk (by rw [<- hu]; congr 1; omega)
    rw [show j + (k + 1) + 1 = j + 1 + k + 1 by omega]; exact this
   | zero =>
    simp only [List.getElem?_cons_zero,sjE] at hk
    subst hk
    obtain ⟨b',cs',T',p1,p2,p3,p4⟩ := load_box hi hbx
    rw [hb] at p1
    obtain rfl := sij p1
    rw [hheap] at p2
    obtain ⟨rfl,_⟩ : cs0 = cs' /\ True := by cases p2; exact ⟨rfl,trivial⟩
    have hR := relC_of_relB (p4 j c u hc0 hu) hno
    have hR2 := hR.grows st1.gr
    cases c <;> first | exact hR2 | exact hR2.elim
  cases c with
  | own ex k xs =>
   have hat : s.at (.cell l j) = .own ex k xs := by simp only [St.at,hbx,Option.getD_some,List.getD,hc0]
   obtain ⟨g1,u0,e1,i1,st1,o1⟩ := dead_sound hi hat
   obtain ⟨i2,st2⟩ := relab_res (f := toLab d N j) i1 (by simp [toLab]) (fun _ _ => by simp [toLab]) (fun _ _ _ _ => by simp [toLab]) (fun j' d' i j'' e => by
    unfold toLab at e
    split at e
    ·cases e; exact Nat.le_succ d
    ·cases e)
   have rel2 : OwnRel w (g1.relab (toLab d N j)) (.tmp d N (j + 1)) ex k xs u0 := o1.relab (by simp [toLab])
   have hl0 : l < s.bx.length := (gsi.1 hbx).1
   obtain ⟨g3,i3,st3,r3⟩ := takeCells_sound (N := N) hheap cs (j + 1) (s := s.mark (.cell l j) .dead) (bx := bx.set j .dead) i2 (st2.gr.blk l b (st1.gr.blk l b hb))
    (by simp only [St.mark,touch_bx,hbx,Option.getD_some,List.getElem?_set]; rw [if_pos trivial,if_pos hl0])
    (fun k' c' h => by
     rw [List.getElem?_set,if_neg (by omega),show j + 1 + k' = j + (k' + 1) by omega]
     exact hcs (k' + 1) c' h) hall.2
   refine ⟨g3,i3,(st1.trans st2).trans st3,fun k' c' u hk hu => ?_⟩
   cases k' with
   | succ k' =>
    have := r3 k' c' u hk (by rw [<- hu]; congr 1; omega)
    rw [show j + (k' + 1) + 1 = j + 1 + k' + 1 by omega]; exact this
   | zero =>
    simp only [List.getElem?_cons_zero,sjE] at hk
    subst hk
    simp only [placeVal,hb,Option.bind_some,cell_of_heap hheap] at e1
    rw [Nat.add_zero] at hu
    rw [e1] at hu
    obtain rfl := sij hu
    exact (show RelR w (g1.relab (toLab d N j)) (.tmp d N (j + 1)) (.own ex k xs) u0 from rel2).kept st3.gr fun b hb => st3.tmps b d N (j + 1) hb (Nat.lt_succ_self d)
  | _ => exact plain rfl rfl
theorem bagRes_sound (hc : CfgOk P cfg) (hi : Inv base w0 w g (d + 1) s vals) {N : Nat} {rs : List ResultVar} {pvs : List PV} {s1 : St} (hgl : GlobOk cfg g) (h : bagRes cfg rs s = some (pvs,s1)) :
  ∃ (v : ResultVar) (us : List Value) (g1 : Gh),rs = [v] /\ (resEval vals v).run P w = .ok (.agg us.toArray) w /\ Inv base w0 w g1 (d + 1) s1 vals /\ Stp (d + 1) s s1 w w g g1 /\ us.length = pvs.length /\ 1 < pvs.length ∧
   ∀ (i : Nat) c u,pvs[i]? = some c -> us[i]? = some u -> RelR w g1 (.tmp d N (i + 1)) c u := by
 have hcut : ∃ a t,rs = [.cell a t] := by
  unfold bagRes at h
  split at h
  ·exact ⟨_,_,rfl⟩
  ·cases h
 obtain ⟨a,t,rfl⟩ := hcut
 ·change (match s.ts.getD a .dead with
   | .ptr l 0 => seqO (cfg.ti t) fun i => seqO s.bx[l]? fun b =>
    if (b.length = i.size /\ 1 < b.length) /\ i.kind.isAgg = true /\ b.all isCell = true then some (b,takeCells l 0 b s) else none
   | _ => none) = some (pvs,s1) at h
  split at h
  ·rename_i l hv
   obtain ⟨i,hti,h1⟩ := seqO_eq.1 h
   obtain ⟨bx,hbx,h2⟩ := seqO_eq.1 h1
   clear h h1
   split at h2
   ·rename_i hcond
    obtain ⟨⟨hsz,hlt⟩,hk,hall⟩ := hcond
    simp only [sjE,Prod.mk.injEq] at h2
    obtain ⟨rfl,rfl⟩ := h2
    have ht := hc.ti t i hti
    obtain ⟨b,cs,T,p1,p2,p3,p4⟩ := load_box hi hbx
    have ha : ({ tmps := vals,defers := [] } : Act).tmps = vals := rfl
    have hv' : s.val cfg (.tmp a) = .ptr l 0 := hv
    obtain ⟨b',q1,q2⟩ := val_plain hi hgl ha hv' (by intro e; cases e) (by intro _ _ _ e; cases e) rfl rfl
    rw [p1] at q1
    obtain rfl := sij q1
    obtain ⟨g1,i1,st1,r1⟩ := takeCells_sound (N := N) p2 bx 0 hi p1 hbx (fun k c h => by rw [Nat.zero_add]; exact h) hall
    have hrun := run_loadVar_agg (P := P) (w := w) ht hk (ad := ⟨b,0,none⟩) (vs := cs.toList) (by rw [Array.length_toList,p3,hsz]) (fun j v hj => by
     rw [add_mk,cell_of_heap p2,Nat.zero_add,<- Array.getElem?_toList]
     exact hj)
    refine ⟨_,cs.toList,g1,rfl,?_,i1,st1,by rw [Array.length_toList,p3],hlt,fun i c u h1 h2 => ?_⟩
    ·have e1' : vals.getD a undef = .pointer (some ⟨b,0,none⟩) := q2
     simp only [resEval,e1',asAddr,Sem.run_bind,Sem.run_pure,Result.andThen_ok,hrun]
    ·have := r1 i c u h1 (by rw [Nat.zero_add,<- Array.getElem?_toList]; exact h2)
     rw [Nat.zero_add] at this
     exact this
   ·cases h2
  ·cases h
end
end Go.Vx
