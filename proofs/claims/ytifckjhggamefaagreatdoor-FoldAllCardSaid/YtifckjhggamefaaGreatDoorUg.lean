/- The abstract interpreter of the model's code, and its soundness: a part. No condition. -/
import Derived.Test.YtifckjhggamefaaGreatDoorUa
import Derived.Attr
set_option linter.unusedSimpArgs false
set_option linter.unusedVariables false
set_option linter.unusedSectionVars false
namespace Go.Vx
open Go
theorem sO_some {α β : Type} (a : α) (f : α -> Option β) : seqO (some a) f = f a := Eq.symm (Eq.symm (seqO_some a f))
theorem sO_none {α β : Type} (f : α -> Option β) : seqO none f = none := Eq.symm (Eq.symm (seqO_none f))
theorem iB_true {α : Type} (x y : Unit -> α) : iteB true x y = x () := Eq.symm (Eq.symm (iteB_true x y))
theorem iB_false {α : Type} (x y : Unit -> α) : iteB false x y = y () := Eq.symm (Eq.symm (iteB_false x y))
theorem iteB_not {α : Type} (b : Bool) (x y : Unit -> α) : iteB (!b) x y = iteB b y x := by cases b <;> rfl
theorem beq_true' (b : Bool) : (b == true) = b := by cases b <;> rfl
theorem beq_false' (b : Bool) : (b == false) = !b := by cases b <;> rfl
section
variable {α : Type}
theorem app_get (a b : List α) (k : Nat) : (a ++ b)[a.length + k]? = b[k]? := by
 rw [gar (Nat.le_add_right ..)]; simp
theorem app_get0 (a b : List α) : (a ++ b)[a.length]? = b[0]? := by
 rw [gar (Nat.le_refl _)]; simp
theorem app_set (a b : List α) (k : Nat) (v : α) : (a ++ b).set (a.length + k) v = a ++ b.set k v := by
 rw [List.set_append_right _ _ (Nat.le_add_right ..)]; simp
theorem app_set0 (a b : List α) (v : α) : (a ++ b).set a.length v = a ++ b.set 0 v := by
 rw [List.set_append_right _ _ (Nat.le_refl _)]; simp
theorem app_take (a b : List α) : (a ++ b).take a.length = a := by simp
theorem app_takek (a b : List α) (k : Nat) : (a ++ b).take (a.length + k) = a ++ b.take k := List.take_length_add_append ..
theorem app_drop (a b : List α) : (a ++ b).drop a.length = b := by simp
theorem lt_irr (a : Nat) : (a < a) = False := by simp
theorem add_lt_irr (a k : Nat) : (a + k < a) = False := by simp
theorem lt_add (a k : Nat) : (a < a + (k + 1)) = True := by simp
theorem add_lt_add (a k j : Nat) : (a + k < a + j) = (k < j) := by simp
theorem le_add (a k : Nat) : (a <= a + k) = True := by simp
theorem add_sub (a k : Nat) : a + k - a = k := by simp
end
def D.oneC : D -> Bool
 | .lit v => v.oneCell'
 | _ => true
def D.rdI : D -> Option Rd
 | .nil => some (.imm 0 [])
 | .sl k xs => some (.imm k xs)
 | .lit _ => none
 | .any => none
theorem oneC_lit (v : Value) : D.oneC (.lit v) = v.oneCell' := rfl
theorem oneC_nil : D.oneC .nil = true := rfl
theorem oneC_sl (k : Nat) (xs : List (List D)) : D.oneC (.sl k xs) = true := rfl
theorem rdI_nil : D.rdI .nil = some (.imm 0 []) := rfl
theorem rdI_sl (k : Nat) (xs : List (List D)) : D.rdI (.sl k xs) = some (.imm k xs) := rfl
def IsS (k : Nat) (rows : List (List D)) (d : D) : Prop := ∃ w,d.rdI = some (.imm w rows) /\ (w == k || rows.isEmpty) = true /\ d.oneC = true
theorem isS_nil (k : Nat) : IsS k [] .nil := ⟨0,rfl,by simp,rfl⟩
theorem isS_sl (k : Nat) (rows : List (List D)) : IsS k rows (.sl k rows) := ⟨k,rfl,by simp,rfl⟩
theorem isS_w {k w : Nat} {rows : List (List D)} {i : Nat} {r : List D} (h : (w == k || rows.isEmpty) = true) (hr : rows[i]? = some r) : w = k := by
 cases rows with
 | nil => simp at hr
 | cons => simpa using h
theorem isCell_dat (d : D) : isCell (.dat d) = d.oneC := by cases d <;> rfl
theorem isCell_own (ex : Bool) (k : Nat) (xs : List (List D)) : isCell (.own ex k xs) = true := rfl
theorem isCell_ptr (l o : Nat) : isCell (.ptr l o) = true := rfl
theorem isCell_iptr (cs : List D) (o : Nat) : isCell (.iptr cs o) = true := rfl
theorem isCell_clo (f : FuncId) (c : List Nat) : isCell (.clo f c) = true := rfl
theorem cells_dat (d : D) : PV.cells (.dat d) = if d.oneC = true then some [.dat d] else none := by cases d <;> rfl
theorem cells_own (ex : Bool) (k : Nat) (xs : List (List D)) : PV.cells (.own ex k xs) = some [.own ex k xs] := rfl
theorem cells_ptr (l o : Nat) : PV.cells (.ptr l o) = some [.ptr l o] := rfl
theorem cells_iptr (cs : List D) (o : Nat) : PV.cells (.iptr cs o) = some [.iptr cs o] := rfl
theorem cells_clo (f : FuncId) (c : List Nat) : PV.cells (.clo f c) = some [.clo f c] := rfl
theorem cells_agg (cs : List PV) : PV.cells (.agg cs) = some cs := rfl
theorem toD_dat (d : D) : PV.toD (.dat d) = if d.oneC = true then some d else none := by cases d <;> rfl
def rdV (x : Operand) (s : St) : PV -> Option Rd
 | .own ex k xs => match x with
  | .tmp t => some (.at (.tmp t) ex k xs)
  | _ => none
 | .dat d => d.rdI
 | .alias p => rdPV p (s.at p)
 | _ => none
theorem rd_eq (cfg : Cfg) (x : Operand) (s : St) : rd cfg x s = rdV x s (s.val cfg x) := by
 unfold rd rdV
 cases s.val cfg x with
 | dat d => cases d <;> rfl
 | _ => rfl
theorem rdPV_dat (p : Place) (d : D) : rdPV p (.dat d) = d.rdI := by cases d <;> rfl
theorem rdPV_own (p : Place) (ex : Bool) (k : Nat) (xs : List (List D)) : rdPV p (.own ex k xs) = some (.at p ex k xs) := rfl
def lenV (cfg : Cfg) (t : TypeId) (x : Operand) (s : St) : TK -> Option (PV × St)
 | .str => match s.val cfg x with
  | .dat (.lit (.string c)) => some (.dat (.lit (.int .i64 c.size)),s)
  | _ => none
 | .slice _ => seqO (rd cfg x s) fun r => some (.dat (.lit (.int .i64 r.rows.length)),s)
 | _ => none
theorem builtin_len (cfg : Cfg) (ts : Array TypeId) (x : Operand) (s : St) : aBuiltin cfg .len ts [x] s = seqO (ts[0]?) fun t => seqO (cfg.ti t) fun i => lenV cfg t x s i.kind := by
 unfold aBuiltin
 simp only
 cases ts[0]? with
 | none => split <;> rfl
 | some t =>
  simp only [seqO_some]
  cases cfg.ti t with
  | none => split <;> rfl
  | some i =>
   simp only [seqO_some,lenV]
   split
   ·rename_i c hv
    cases i.kind with
    | slice e => simp only [rd_eq,hv,rdV,D.rdI,seqO_none]
    | str => simp only [hv]
    | _ => rfl
   ·rename_i hne
    cases i.kind with
    | str => cases hv : s.val cfg x with
     | dat d => cases d with
      | lit v => cases v with
       | string c => exact absurd hv (hne c)
       | _ => rfl
      | _ => rfl
     | _ => rfl
    | _ => rfl
theorem builtin_append (cfg : Cfg) (ts : Array TypeId) (x y : Operand) (s : St) : aBuiltin cfg .append ts [x,y] s = seqO (ts[0]?) fun t => seqO (ts[1]?) fun t' => if t = t' then aAppend cfg t x y s else none := rfl
def maxV (s : St) : PV -> PV -> Option (PV × St)
 | .dat (.lit (.int k a)),.dat (.lit (.int _ c)) => some (.dat (.lit (.int k (if a < c then c else a))),s)
 | _,_ => none
theorem builtin_max (cfg : Cfg) (ts : Array TypeId) (x y : Operand) (s : St) : aBuiltin cfg .max ts [x,y] s = maxV s (s.val cfg x) (s.val cfg y) := rfl
theorem set_old {α : Type} {a : List α} {l : Nat} (h : l < a.length) (b : List α) (v : α) : (a ++ b).set l v = a.set l v ++ b := List.set_append_left _ _ h
theorem get_old {α : Type} {a : List α} {l : Nat} (h : l < a.length) (b : List α) : (a ++ b)[l]? = a[l]? := gal h
theorem get_set {α : Type} {a : List α} {l : Nat} (h : l < a.length) (v : α) : (a.set l v)[l]? = some v := by simp [h]
theorem take_set {α : Type} (a b : List α) (l : Nat) (v : α) : (a.set l v ++ b).take a.length = a.set l v := by
 have := List.take_left (l₁ := a.set l v) (l₂ := b); rwa [lls] at this
theorem take_setk {α : Type} (a b : List α) (l k : Nat) (v : α) : (a.set l v ++ b).take (a.length + k) = a.set l v ++ b.take k := by
 have := List.take_length_add_append (l₁ := a.set l v) (l₂ := b) k; rwa [lls] at this
theorem take_set0 {α : Type} (a : List α) (l : Nat) (v : α) : (a.set l v).take a.length = a.set l v := by
 have := List.take_length (l := a.set l v); rwa [lls] at this
theorem drop_set {α : Type} (a b : List α) (l : Nat) (v : α) : (a.set l v ++ b).drop a.length = b := by
 have := List.drop_left (l₁ := a.set l v) (l₂ := b); rwa [lls] at this
theorem get_setn {α : Type} (a b : List α) (l k : Nat) (v : α) : (a.set l v ++ b)[a.length + k]? = b[k]? := by
 have := app_get (a.set l v) b k; rwa [lls] at this
theorem get_setn0 {α : Type} (a b : List α) (l : Nat) (v : α) : (a.set l v ++ b)[a.length]? = b[0]? := by
 have := app_get0 (a.set l v) b; rwa [lls] at this
theorem set_setn {α : Type} (a b : List α) (l k : Nat) (v u : α) : (a.set l v ++ b).set (a.length + k) u = a.set l v ++ b.set k u := by
 have := app_set (a.set l v) b k u; rwa [lls] at this
theorem set_setn0 {α : Type} (a b : List α) (l : Nat) (v u : α) : (a.set l v ++ b).set a.length u = a.set l v ++ b.set 0 u := by
 have := app_set0 (a.set l v) b u; rwa [lls] at this
theorem lt_addk {l a : Nat} (h : l < a) (k : Nat) : (l < a + k) = True := by simp; omega
theorem cl_dat (h : Nat) (d : D) : cellLt h (.dat d) = true := rfl
theorem cl_own (h : Nat) (ex : Bool) (k : Nat) (xs : List (List D)) : cellLt h (.own ex k xs) = true := rfl
theorem cl_ptr (h l o : Nat) : cellLt h (.ptr l o) = decide (l < h) := rfl
theorem cl_clo (h : Nat) (f : FuncId) (c : List Nat) : cellLt h (.clo f c) = c.all fun l => decide (l < h) := rfl
theorem cl_iptr (h : Nat) (cs : List D) (o : Nat) : cellLt h (.iptr cs o) = true := rfl
theorem cl_dead (h : Nat) : cellLt h .dead = true := rfl
theorem cl_alias (h : Nat) (p : Place) : cellLt h (.alias p) = true := rfl
theorem cl_eptr (h : Nat) (p : Place) (k i j : Nat) : cellLt h (.eptr p k i j) = true := rfl
def freezeC (l off : Nat) (s : St) : PV -> St
 | .own true k xs => s.mark (.cell l off) (.own false k xs)
 | _ => s
theorem frzS (l off n : Nat) (s : St) : freeze l off (n + 1) s = freeze l (off + 1) n (freezeC l off s (s.at (.cell l off))) := by
 rw [freeze]
 congr 1
theorem frz0 (l off : Nat) (s : St) : freeze l off 0 s = s := rfl
theorem frz1 (l off : Nat) (s : St) : freeze l off 1 s = freeze l (off + 1) 0 (freezeC l off s (s.at (.cell l off))) := frzS l off 0 s
theorem frz2 (l off : Nat) (s : St) : freeze l off 2 s = freeze l (off + 1) 1 (freezeC l off s (s.at (.cell l off))) := frzS l off 1 s
theorem frz3 (l off : Nat) (s : St) : freeze l off 3 s = freeze l (off + 1) 2 (freezeC l off s (s.at (.cell l off))) := frzS l off 2 s
theorem frz4 (l off : Nat) (s : St) : freeze l off 4 s = freeze l (off + 1) 3 (freezeC l off s (s.at (.cell l off))) := frzS l off 3 s
theorem frz5 (l off : Nat) (s : St) : freeze l off 5 s = freeze l (off + 1) 4 (freezeC l off s (s.at (.cell l off))) := frzS l off 4 s
theorem frz6 (l off : Nat) (s : St) : freeze l off 6 s = freeze l (off + 1) 5 (freezeC l off s (s.at (.cell l off))) := frzS l off 5 s
theorem frz7 (l off : Nat) (s : St) : freeze l off 7 s = freeze l (off + 1) 6 (freezeC l off s (s.at (.cell l off))) := frzS l off 6 s
theorem frz8 (l off : Nat) (s : St) : freeze l off 8 s = freeze l (off + 1) 7 (freezeC l off s (s.at (.cell l off))) := frzS l off 7 s
theorem frz9 (l off : Nat) (s : St) : freeze l off 9 s = freeze l (off + 1) 8 (freezeC l off s (s.at (.cell l off))) := frzS l off 8 s
theorem frz10 (l off : Nat) (s : St) : freeze l off 10 s = freeze l (off + 1) 9 (freezeC l off s (s.at (.cell l off))) := frzS l off 9 s
theorem frz11 (l off : Nat) (s : St) : freeze l off 11 s = freeze l (off + 1) 10 (freezeC l off s (s.at (.cell l off))) := frzS l off 10 s
theorem frz12 (l off : Nat) (s : St) : freeze l off 12 s = freeze l (off + 1) 11 (freezeC l off s (s.at (.cell l off))) := frzS l off 11 s
theorem tri_some (b : Bool) (x y : Unit -> Option (AExit × St)) : tri (some b) x y = iteB b x y := Eq.symm (Eq.symm rfl)
theorem tri_none (x y : Unit -> Option (AExit × St)) : tri none x y = joinF (x ()) (y ()) := Eq.symm (Eq.symm rfl)
theorem bothO_same (o : Out) : bothO (some o) (some o) = some o := by simp [bothO,seqO]
theorem thenC_n (k : St -> Option (AExit × St)) (s : St) : thenC (.normal,s) k = k s := Eq.symm (Eq.symm rfl)
theorem thenC_e (k : St -> Option (AExit × St)) (i : Nat) (s : St) : thenC (.exit i,s) k = some (.exit i,s) := Eq.symm (Eq.symm rfl)
theorem thenC_r (k : St -> Option (AExit × St)) (s : St) : thenC (.ret,s) k = some (.ret,s) := Eq.symm (Eq.symm rfl)
theorem thenC_f (k : St -> Option (AExit × St)) (x1 : AExit) (s1 : St) (x2 : AExit) (s : St) : thenC (.fork x1 s1 x2,s) k = seqO (thenC (x1,s1) k) fun p => seqO (thenC (x2,s) k) fun q => some (.fork p.1 p.2 q.1,q.2) := Eq.symm (Eq.symm rfl)
end Go.Vx
namespace Go.Vx
open Go
abbrev I (n : Int) : PV := .dat (.lit (.int .i64 n))
abbrev B (b : Bool) : PV := .dat (.lit (.bool b))
abbrev S (s : ByteArray) : PV := .dat (.lit (.string s))
abbrev dI (n : Int) : D := .lit (.int .i64 n)
def i64 (n : Int) : Prop := -9223372036854775808 <= n /\ n <= 9223372036854775807
theorem wrap_id {n : Int} (h : i64 n) : IntKind.wrap .i64 n = n := by
 obtain ⟨h1,h2⟩ := h
 simp only [IntKind.wrap,IntKind.signed,IntKind.bits,Bool.true_and,dqE,Nat.reduceSub,Int.reducePow]
 split <;> rename_i h <;> simp only [ge_iff_le,dqE] at h <;> omega
theorem wrap_lo {n : Int} (h1 : -9223372036854775808 <= n) (h2 : n <= 9223372036854775807) : IntKind.wrap .i64 n = n := wrap_id ⟨h1,h2⟩
theorem wl_0 : IntKind.wrap .i64 0 = 0 := by decide
theorem wl_1 : IntKind.wrap .i64 1 = 1 := by decide
theorem wl_2 : IntKind.wrap .i64 2 = 2 := by decide
theorem wl_3 : IntKind.wrap .i64 3 = 3 := by decide
theorem wl_4 : IntKind.wrap .i64 4 = 4 := by decide
theorem wl_5 : IntKind.wrap .i64 5 = 5 := by decide
theorem wl_6 : IntKind.wrap .i64 6 = 6 := by decide
theorem wl_7 : IntKind.wrap .i64 7 = 7 := by decide
theorem wl_8 : IntKind.wrap .i64 8 = 8 := by decide
theorem wl_9 : IntKind.wrap .i64 9 = 9 := by decide
theorem wl_10 : IntKind.wrap .i64 10 = 10 := by decide
theorem wl_11 : IntKind.wrap .i64 11 = 11 := by decide
theorem wl_12 : IntKind.wrap .i64 12 = 12 := by decide
theorem wl_13 : IntKind.wrap .i64 13 = 13 := by decide
theorem wl_14 : IntKind.wrap .i64 14 = 14 := by decide
theorem wl_15 : IntKind.wrap .i64 15 = 15 := by decide
theorem wl_16 : IntKind.wrap .i64 16 = 16 := by decide
theorem wl_17 : IntKind.wrap .i64 17 = 17 := by decide
theorem wl_18 : IntKind.wrap .i64 18 = 18 := by decide
theorem wl_19 : IntKind.wrap .i64 19 = 19 := by decide
theorem wl_20 : IntKind.wrap .i64 20 = 20 := by decide
theorem wl_21 : IntKind.wrap .i64 21 = 21 := by decide
theorem wl_22 : IntKind.wrap .i64 22 = 22 := by decide
theorem wl_23 : IntKind.wrap .i64 23 = 23 := by decide
theorem wl_24 : IntKind.wrap .i64 24 = 24 := by decide
theorem wl_25 : IntKind.wrap .i64 25 = 25 := by decide
theorem wl_26 : IntKind.wrap .i64 26 = 26 := by decide
theorem wl_27 : IntKind.wrap .i64 27 = 27 := by decide
theorem wl_28 : IntKind.wrap .i64 28 = 28 := by decide
theorem wl_29 : IntKind.wrap .i64 29 = 29 := by decide
theorem wl_30 : IntKind.wrap .i64 30 = 30 := by decide
theorem nat_lt {i n : Nat} (h : i < n) : decide ((i : Int) < (n : Int)) = true := dqt (by omega)
theorem nat_ge {i n : Nat} (h : n <= i) : decide ((i : Int) < (n : Int)) = false := dqf (by omega)
theorem nat_neg (i : Nat) : ((i : Int) < 0) = False := by simp
theorem nat_succ {i n : Nat} (h : i < n) (h2 : n < 9223372036854775808) : IntKind.wrap .i64 ((i : Int) + 1) = ((i + 1 : Nat) : Int) := by
 rw [wrap_lo (by omega) (by omega)]; rfl
theorem drop_cons {α : Type} {l : List α} {i : Nat} {x : α} {xs : List α} (h : l.drop i = x :: xs) : l[i]? = some x /\ l.drop (i + 1) = xs /\ i < l.length := by
 have h1 : (l.drop i)[0]? = some x := by rw [h]; rfl
 rw [List.getElem?_drop,Nat.add_zero] at h1
 refine ⟨h1,?_,(gsi.1 h1).1⟩
 have := congrArg List.tail h
 rw [List.tail_cons,List.tail_drop] at this
 exact this
theorem drop_nil {α : Type} {l : List α} {i : Nat} (h : l.drop i = []) : l.length <= i := by
 have := congrArg List.length h
 simp at this; omega
theorem set_same {α : Type} {l : List α} {i : Nat} {x : α} (h : l[i]? = some x) : l.set i x = l := by
 apply List.ext_getElem?
 intro j
 rw [List.getElem?_set]
 split
 ·rename_i e; subst e
  split
  ·exact h.symm
  ·rename_i hl; rw [List.getElem?_eq_none (by omega)] at h; cases h
 ·rfl
end Go.Vx
