/- The abstract interpreter of the model's code, and its soundness: a part. No condition. -/
import Derived.LoopN
import Derived.Calls
import Derived.Laws.Sem
import Derived.Lib.SlicesCompact
set_option linter.unusedSimpArgs false
set_option linter.unusedVariables false
set_option linter.unusedSectionVars false
namespace Go.Vx
open Go
theorem sij {α : Type _} {a b : α} (h : some a = some b) : a = b := Option.some.inj h
theorem gsi {α : Type _} {l : List α} {i : Nat} {a : α} : l[i]? = some a ↔ ∃ h : i < l.length,l[i] = a := List.getElem?_eq_some_iff
theorem tnc (n : Nat) : (n : Int).toNat = n := Int.toNat_natCast n
theorem gge {α : Type _} {l : List α} {i : Nat} (h : i < l.length) : l[i]? = some l[i] := List.getElem?_eq_getElem h
theorem sjE {α : Type _} (a b : α) : (some a = some b) = (a = b) := Option.some.injEq a b
theorem dqE {p : Prop} [Decidable p] : (decide p = true) = p := decide_eq_true_eq
theorem dqf {p : Prop} [i : Decidable p] (h : ¬p) : decide p = false := decide_eq_false h
theorem dqt {p : Prop} [i : Decidable p] (h : p) : decide p = true := decide_eq_true h
theorem mcs {α : Type _} {a : α} {l : List α} : a ∈ a :: l := List.mem_cons_self
theorem mcm {α : Type _} (y : α) {a : α} {l : List α} (h : a ∈ l) : a ∈ y :: l := List.mem_cons_of_mem y h
theorem lls {α : Type _} {l : List α} {i : Nat} {a : α} : (l.set i a).length = l.length := List.length_set
theorem fnt : ¬ false = true := Bool.false_ne_true
theorem gal {α : Type _} {l m : List α} {n : Nat} (h : n < l.length) : (l ++ m)[n]? = l[n]? := List.getElem?_append_left h
theorem gar {α : Type _} {l m : List α} {n : Nat} (h : l.length <= n) : (l ++ m)[n]? = m[n - l.length]? := List.getElem?_append_right h
theorem agg {α : Type _} {l : Array α} {i : Nat} (h : i < l.size) : l[i]? = some l[i] := Array.getElem?_eq_getElem h
theorem gss {α : Type _} {l : List α} {i : Nat} {a : α} (h : i < l.length) : (l.set i a)[i]? = some a := List.getElem?_set_self h
theorem mog {α : Type _} {l : List α} {i : Nat} {a : α} (h : l[i]? = some a) : a ∈ l := List.mem_of_getElem? h
inductive D where
 | lit (v : Value)
 | nil
 | sl (k : Nat) (xs : List (List D))
 /-- a bool that is not known -/
 | any
inductive Place where
 | tmp (i : Nat)
 | cell (l off : Nat)
 deriving DecidableEq
inductive PV where
 | dat (d : D)
 | own (ex : Bool) (k : Nat) (xs : List (List D))
 | agg (cs : List PV)
 | tup (vs : List PV)
 | ptr (l off : Nat)
 | iptr (cs : List D) (off : Nat)
 | clo (f : FuncId) (cap : List Nat)
 | alias (p : Place)
 | eptr (p : Place) (k i j : Nat)
 | dead
 /-- in a slot: a struct that is built,whose cells may be own arrays,which it has taken -/
 | bag (cs : List PV)
def ksz (k : Nat) : Nat := if k = 0 then 1 else k
abbrev Box := List PV
structure St where
 ts : List PV
 bx : List Box
 nb : Nat
 lo : Option Nat
 kp : Bool
inductive Pol where
 | alias
 | take
 | copy
inductive TK where
 | int (k : IntKind)
 | bool
 | str
 | slice (e : TypeId)
 | struct (fs : List (Nat × TypeId))
 | array (n : Nat) (e : TypeId)
 | other
structure TI where
 size : Nat
 bytes : Nat
 zero : List D
 kind : TK
def TK.isAgg : TK -> Bool
 | .struct _ | .array _ _ => true
 | _ => false
structure Cx where
 pol : List (Nat × Nat × Pol) := []
 segs : List (Nat × List Nat) := []
 live : List (Nat × List Nat × List Nat) := []
 /-- in a region that draws its order: calls that may turn boxes -/
 mix : List (Nat × List Nat) := []
 /-- in such a region: appends that take their array out of a slot,which nothing else reads -/
 takes : List (Nat × List (Nat × Nat)) := []
 /-- regions whose calls' own answers are written no more -/
 frz : List Nat := []
 /-- regions ahead of which a box's own arrays are written no more: the slot that leads to the box -/
 pre : List (Nat × Nat) := []
 /-- its answer is a struct that takes the own arrays of the result's variable -/
 bag : Bool := false
inductive Hook where
 /-- it sorts an own array of ints,in place -/
 | sort
 /-- of an own array of ints: each run of the same as one -/
 | compact
 /-- of an own array of ints: what a function does not strike -/
 | delFn
structure Cfg where
 fn : FuncId -> Option Func
 ti : TypeId -> Option TI
 glob : Nat -> Option (List D)
 cx : FuncId -> Cx
 /-- structs of plain fields,that may be compared -/
 cmp : TypeId -> Bool
 hook : FuncId -> Option Hook
 /-- the type of bytes -/
 byteT : TypeId
 /-- are literals written no more? -/
 frzB : Bool
def keyOf (cfg : Cfg) (e : TypeId) (j : TI) : Nat := if e = cfg.byteT then 0 else j.size
inductive AExit where
 | normal
 | exit (id : Nat)
 | ret
 /-- either the one,in its own state,or the other -/
 | fork (x : AExit) (s : St) (y : AExit)
structure Eff where
 bx : List Box
 lo : Nat
 kp : Bool
inductive Job where
 | call (f : FuncId) (args : List PV) (bx : List Box)
 | loop (f : FuncId) (k : Nat) (s : St)
inductive Out where
 | ret (r : PV) (eff : Option Eff)
 | loop (e : AExit) (s : St)
def seqO {α β : Type} (x : Option α) (f : α -> Option β) : Option β :=
 match x with
 | some a => f a
 | none => none
theorem seqO_congr {α β : Type} {x x' : Option α} {f : α -> Option β} (h : x = x') : seqO x f = seqO x' f := by rw [h]
theorem seqO_some {α β : Type} (a : α) (f : α -> Option β) : seqO (some a) f = f a := rfl
theorem seqO_none {α β : Type} (f : α -> Option β) : seqO none f = none := rfl
theorem seqO_eq {α β : Type} {x : Option α} {f : α -> Option β} {r : β} : seqO x f = some r ↔ ∃ a,x = some a /\ f a = some r := by
 cases x <;> simp [seqO]
def iteB {α : Type} (b : Bool) (x y : Unit -> α) : α :=
 match b with
 | true => x ()
 | false => y ()
theorem iteB_congr {α : Type} {b b' : Bool} {x y : Unit -> α} (h : b = b') : iteB b x y = iteB b' x y := by rw [h]
theorem iteB_true {α : Type} (x y : Unit -> α) : iteB true x y = x () := rfl
theorem iteB_false {α : Type} (x y : Unit -> α) : iteB false x y = y () := rfl
theorem seqO_iteB {α β : Type} (b : Bool) (x y : Unit -> Option α) (f : α -> Option β) :
  seqO (iteB b x y) f = iteB b (fun u => seqO (x u) f) (fun u => seqO (y u) f) := by cases b <;> rfl
theorem seqO_seqO {α β γ : Type} (x : Option α) (f : α -> Option β) (g : β -> Option γ) : seqO (seqO x f) g = seqO x fun a => seqO (f a) g := by cases x <;> rfl
def D.ofCell : Value -> D
 | .slice none 0 0 => .nil
 | v => .lit v
def PV.ofValue : Value -> PV
 | .agg cs => .agg (cs.toList.map fun v => .dat (D.ofCell v))
 | .slice none 0 0 => .dat .nil
 | v => .dat (.lit v)
def PV.isDat : PV -> Bool
 | .dat _ | .own .. | .dead | .iptr .. => true
 | _ => false
def PV.noPtr : PV -> Bool
 | .agg cs => cs.all PV.isDat
 | .tup vs => vs.all fun v => match v with | .agg cs => cs.all PV.isDat | v => v.isDat
 | v => v.isDat
def PV.isOwn : PV -> Bool
 | .own .. => true
 | _ => false
def PV.held : PV -> Bool
 | .tup _ | .bag _ => true
 | _ => false
def PV.maySrc : PV -> Bool
 | .own .. | .dead => true
 | _ => false
def PV.cells : PV -> Option (List PV)
 | .dat (.lit v) => if v.oneCell' then some [.dat (.lit v)] else none
 | .dat d => some [.dat d]
 | .own ex k xs => some [.own ex k xs]
 | .ptr l off => some [.ptr l off]
 | .iptr cs off => some [.iptr cs off]
 | .clo f cap => some [.clo f cap]
 | .agg cs => some cs
 | _ => none
def PV.toD : PV -> Option D
 | .dat (.lit v) => if v.oneCell' then some (.lit v) else none
 | .dat d => some d
 | _ => none
def toDs : List PV -> Option (List D)
 | [] => some []
 | c :: cs => seqO c.toD fun d => seqO (toDs cs) fun ds => some (d :: ds)
def PV.strip (q : Place -> Bool) : PV -> PV
 | .alias p => if q p then .dead else .alias p
 | .eptr p k i j => if q p then .dead else .eptr p k i j
 | v => v
def St.at (s : St) : Place -> PV
 | .tmp i => s.ts.getD i .dead
 | .cell l off => ((s.bx[l]?).getD []).getD off .dead
def touch (s : St) (l : Nat) : St :=
 if l < s.nb then { s with lo := some (match s.lo with | none => l | some m => min m l) } else s
def St.mark (s : St) (p : Place) (v : PV) : St :=
 match p with
 | .tmp i => { s with ts := s.ts.set i v }
 | .cell l off => touch { s with bx := s.bx.set l (((s.bx[l]?).getD []).set off v) } l
def St.val (cfg : Cfg) (s : St) : Operand -> PV
 | .tmp t => s.ts.getD t .dead
 | .const v => PV.ofValue v
 | .global g => match cfg.glob g with
  | some cs => .iptr cs 0
  | none => .dead
 | .func f => .clo f []
def takeAt (s : St) (p : Place) (pl : Pol) : PV -> Option (PV × St)
 | .own ex k xs => match pl with
  | .alias => some (.alias p,s)
  | .take => some (.own ex k xs,s.mark p .dead)
  | .copy => some (.dat (.sl (ksz k) xs),if ex then s.mark p (.own false k xs) else s)
 | .dat d => some (.dat d,s)
 | _ => none
def fetch (cfg : Cfg) (pl : Pol) (x : Operand) (s : St) : Option (PV × St) :=
 match s.val cfg x with
 | .own ex k xs => match x with
  | .tmp t => takeAt s (.tmp t) pl (.own ex k xs)
  | _ => none
 | .alias p => match pl with
  | .alias => some (.alias p,s)
  | pl => takeAt s p pl (s.at p)
 | .eptr p k i j => match pl with
  | .copy => none
  | _ => some (.eptr p k i j,s)
 | .tup _ => none
 | .bag _ => none
 | .dead => match pl with
  | .alias => some (.dead,s)
  | _ => none
 | v => some (v,s)
inductive Rd where
 | imm (k : Nat) (xs : List (List D))
 | at (p : Place) (ex : Bool) (k : Nat) (xs : List (List D))
def rdPV (p : Place) : PV -> Option Rd
 | .own ex k xs => some (.at p ex k xs)
 | .dat .nil => some (.imm 0 [])
 | .dat (.sl k xs) => some (.imm k xs)
 | _ => none
def rd (cfg : Cfg) (x : Operand) (s : St) : Option Rd :=
 match s.val cfg x with
 | .own ex k xs => match x with
  | .tmp t => some (.at (.tmp t) ex k xs)
  | _ => none
 | .dat .nil => some (.imm 0 [])
 | .dat (.sl k xs) => some (.imm k xs)
 | .alias p => rdPV p (s.at p)
 | _ => none
def Rd.rows : Rd -> List (List D)
 | .imm _ xs => xs
 | .at _ _ _ xs => xs
def Rd.fits : Rd -> Nat -> Bool
 | .imm k xs,n => k == n || xs.isEmpty
 | .at _ _ k _,n => ksz k == n
def isCellIn (off n : Nat) : Place -> Bool
 | .cell _ o => decide (off <= o /\ o < off + n)
 | _ => false
def isTmp (d : Nat) : Place -> Bool
 | .tmp i => i == d
 | _ => false
def put (s : St) (dst : Option Tmp) (v : PV) : St :=
 match dst with
 | none => s
 | some d =>
  { s with ts := (if (s.ts.getD d .dead).maySrc then s.ts.map (PV.strip (isTmp d)) else s.ts).set d (PV.strip (isTmp d) v) }
def aint : PV -> Option Int
 | .dat (.lit (.int _ n)) => some n
 | _ => none
def abool : PV -> Option Bool
 | .dat (.lit (.bool b)) => some b
 | _ => none
def binLit (op : BinOp) (x y : Value) : Option Value :=
 match x,y with
 | .int k a,.int k' b =>
  if k = k' then match op with
   | .add => some (.int k (k.wrap (a + b)))
   | .sub => some (.int k (k.wrap (a - b)))
   | .mul => some (.int k (k.wrap (a * b)))
   | .quo => if b = 0 then none else some (.int k (k.wrap (a.tdiv b)))
   | .rem => if b = 0 then none else some (.int k (a.tmod b))
   | .eql => some (.bool (a == b))
   | .neq => some (.bool (a != b))
   | .lss => some (.bool (decide (a < b)))
   | .leq => some (.bool (decide (a <= b)))
   | .gtr => some (.bool (decide (a > b)))
   | .geq => some (.bool (decide (a >= b)))
   | _ => none
  else none
 | .string a,.string b => match op with
  | .add => if a.size + b.size <= 9223372036854775807 then some (.string (a ++ b)) else none
  | .eql => some (.bool (a.toList == b.toList))
  | .neq => some (.bool (!(a.toList == b.toList)))
  | _ => none
 | .bool a,.bool b => match op with
  | .eql => some (.bool (a == b))
  | .neq => some (.bool (!(a == b)))
  | _ => none
 | _,_ => none
def eqKind (cfg : Cfg) (t : TypeId) (x : Value) : Bool :=
 match x with
 | .bool _ => match cfg.ti t with
  | some i => match i.kind with
   | .bool => true
   | _ => false
  | none => false
 | _ => true
def eqCell (k : TK) (x y : Option PV) : Option Bool :=
 match k,x,y with
 | .int k,some (.dat (.lit (.int k' a))),some (.dat (.lit (.int k'' b))) => if k' = k /\ k'' = k then some (a == b) else none
 | .bool,some (.dat (.lit (.bool a))),some (.dat (.lit (.bool b))) => some (a == b)
 | .str,some (.dat (.lit (.string a))),some (.dat (.lit (.string b))) => some (a.toList == b.toList)
 | _,_,_ => none
def eqFieldsA (cfg : Cfg) (xs ys : List PV) : List (Nat × TypeId) -> Option Bool
 | [] => some true
 | p :: ps => seqO (cfg.ti p.2) fun j => seqO (eqCell j.kind xs[p.1]? ys[p.1]?) fun b => seqO (eqFieldsA cfg xs ys ps) fun c => some (b && c)
def eqRes (op : BinOp) (b : Bool) : Option PV :=
 match op with
 | .eql => some (.dat (.lit (.bool b)))
 | .neq => some (.dat (.lit (.bool (!b))))
 | _ => none
def aBin (cfg : Cfg) (op : BinOp) (t : TypeId) (x y : PV) : Option PV :=
 match x,y with
 | .agg xs,.agg ys => if cfg.cmp t then seqO (cfg.ti t) fun i => match i.kind with
   | .struct fs => seqO (eqFieldsA cfg xs ys fs) fun b => match op with
    | .eql => some (.dat (.lit (.bool b)))
    | .neq => some (.dat (.lit (.bool (!b))))
    | _ => none
   | _ => none
  else none
 | .dat (.lit a),.dat (.lit b) => if eqKind cfg t a then seqO (binLit op a b) fun v => some (.dat (.lit v)) else none
 | _,_ => none
def isNilC : Operand -> Bool
 | .const (.slice none 0 0) => true
 | _ => false
def D.nilQ : D -> Option (Option Bool)
 | .nil => some none
 | .sl _ [] => some none
 | .sl _ (_ :: _) => some (some false)
 | _ => none
def nilRes (op : BinOp) : Option Bool -> Option PV
 | none => match op with
  | .eql | .neq => some (.dat .any)
  | _ => none
 | some b => eqRes op b
def aNil (cfg : Cfg) (op : BinOp) (t : TypeId) (x : PV) : Option PV :=
 match x with
 | .dat d => seqO (cfg.ti t) fun i => match i.kind with
  | .slice _ => seqO d.nilQ fun q => nilRes op q
  | _ => none
 | _ => none
def aBinN (cfg : Cfg) (op : BinOp) (t : TypeId) (n : Bool) (x y : PV) : Option PV :=
 match n with
 | true => aNil cfg op t x
 | false => aBin cfg op t x y
def aUn (op : UnOp) (x : PV) : Option PV :=
 match op,x with
 | .not,.dat (.lit (.bool b)) => some (.dat (.lit (.bool (!b))))
 | .neg,.dat (.lit (.int k n)) => some (.dat (.lit (.int k (k.wrap (0 - n)))))
 | _,_ => none
def aConv0 (cfg : Cfg) (src dst : TypeId) (x : PV) : Option PV :=
 match cfg.ti src,cfg.ti dst with
 | some _,some j => match j.kind,x with
  | .int k,.dat (.lit (.int _ n)) => some (.dat (.lit (.int k (k.wrap n))))
  | .str,.dat (.lit (.int _ n)) => some (.dat (.lit (.string (Utf8.encode n))))
  | .str,.dat (.lit (.string s)) => some (.dat (.lit (.string s)))
  | _,_ => none
 | _,_ => none
def aConv (cfg : Cfg) (src dst : TypeId) (_ : St) (x : PV) : Option PV := aConv0 cfg src dst x
def addOff : PV -> Nat -> Option PV
 | .ptr l off,o => some (.ptr l (off + o))
 | .iptr cs off,o => some (.iptr cs (off + o))
 | .eptr p k i j,o => some (.eptr p k i (j + o))
 | _,_ => none
def aFieldAddr (cfg : Cfg) (t : TypeId) (x : PV) (f : Nat) : Option PV :=
 seqO (cfg.ti t) fun i => match i.kind with
  | .struct fs => seqO fs[f]? fun p => seqO (cfg.ti p.2) fun j => if j.size = 0 then none else addOff x p.1
  | _ => none
def rowPtr (r : Rd) (size i : Nat) : Option PV :=
 match r with
 | .imm k xs => if k = size then seqO xs[i]? fun c => some (.iptr c 0) else none
 | .at p _ k xs => if ksz k = size /\ i < xs.length then some (.eptr p size i 0) else none
def aIndexAddr (cfg : Cfg) (t : TypeId) (x ix : Operand) (s : St) : Option PV :=
 seqO (cfg.ti t) fun i => seqO (aint (s.val cfg ix)) fun n => if n < 0 then none else match i.kind with
  | .slice e => seqO (cfg.ti e) fun j => seqO (rd cfg x s) fun r => rowPtr r j.size n.toNat
  | .array len e => seqO (cfg.ti e) fun j => if n.toNat < len then addOff (s.val cfg x) (n.toNat * j.size) else none
  | _ => none
def cut {α : Type} (cs : List α) (off n : Nat) : Option (List α) :=
 if off + n <= cs.length then some ((cs.drop off).take n) else none
def freeze (l : Nat) : Nat -> Nat -> St -> St
 | _,0,s => s
 | off,n + 1,s => freeze l (off + 1) n (match s.at (.cell l off) with
  | .own true k xs => s.mark (.cell l off) (.own false k xs)
  | _ => s)
def preF (cx : Cx) (rid : Nat) (s : St) : St :=
 match cx.pre.find? fun p => p.1 == rid with
 | some p => match s.ts.getD p.2 .dead with
  | .ptr l _ => freeze l 0 ((s.bx[l]?).getD []).length s
  | _ => s
 | none => s
def PV.frz : PV -> PV
 | .own _ k xs => .dat (.sl (ksz k) xs)
 | c => c
def frzV (cfg : Cfg) (v : PV) : PV :=
 match cfg.frzB with
 | true => v.frz
 | false => v
def PV.frozen : PV -> Bool
 | .own ex _ _ => !ex
 | _ => true
def aLoad (cfg : Cfg) (t : TypeId) (pl : Pol) (a : PV) (s : St) : Option (PV × St) :=
 seqO (cfg.ti t) fun i => match a with
  | .iptr cs off =>
   if i.kind.isAgg then seqO (cut cs off i.size) fun c => some (.agg (c.map .dat),s)
   else seqO cs[off]? fun d => some (.dat d,s)
  | .eptr p k r j => seqO (rdPV p (s.at p)) fun q => match q with
   | .at _ _ k' xs => if k = ksz k' then seqO xs[r]? fun cs =>
     if i.kind.isAgg then seqO (cut cs j i.size) fun c => some (.agg (c.map .dat),s)
     else seqO cs[j]? fun d => some (.dat d,s)
    else none
   | _ => none
  | .ptr l off => seqO s.bx[l]? fun b =>
   if i.kind.isAgg then seqO (cut b off i.size) fun c =>
    if c.any PV.isOwn then seqO (freeze l off i.size s).bx[l]? fun b2 => seqO (cut b2 off i.size) fun c2 =>
     if c2.all PV.frozen then some (.agg (c2.map PV.frz),freeze l off i.size s) else none
    else some (.agg c,s)
   else seqO b[off]? fun c => match c with
    | .own ex k xs => takeAt s (.cell l off) pl (.own ex k xs)
    | .dead => none
    | c => some (c,s)
  | _ => none
def setCells {α : Type} (b : List α) (off : Nat) (cs : List α) : List α := b.take off ++ cs ++ b.drop (off + cs.length)
def isCell : PV -> Bool
 | .dat (.lit v) => v.oneCell'
 | .dat _ | .own .. | .ptr .. | .iptr .. | .clo .. => true
 | _ => false
def aStore (cfg : Cfg) (t : TypeId) (a : PV) (v : PV) (s : St) : Option St :=
 seqO (cfg.ti t) fun i => seqO v.cells fun cs => if cs.length = i.size /\ cs.all isCell = true then match a with
  | .ptr l off => seqO s.bx[l]? fun b => if off + cs.length <= b.length then
    let s1 := touch { s with bx := s.bx.set l (setCells b off cs) } l
    let s2 := if ((b.drop off).take cs.length).any PV.maySrc then { s1 with ts := s1.ts.map (PV.strip (isCellIn off cs.length)) } else s1
    some (if v.noPtr then s2 else if l < s.nb then { s2 with kp := true } else s2)
   else none
  | .eptr p k r j => seqO (toDs cs) fun ds => match s.at p with
   | .own ex k' xs => if ex = true /\ k = ksz k' then seqO xs[r]? fun row =>
     if j + ds.length <= row.length then some (s.mark p (.own ex k' (xs.set r (setCells row j ds)))) else none
    else none
   | _ => none
  | _ => none
 else none
def stored (s : St) (l off : Nat) (b : Box) (cs : List PV) (np : Bool) : St :=
 let s1 := touch { s with bx := s.bx.set l (setCells b off cs) } l
 let s2 := if ((b.drop off).take cs.length).any PV.maySrc then { s1 with ts := s1.ts.map (PV.strip (isCellIn off cs.length)) } else s1
 if np then s2 else if l < s.nb then { s2 with kp := true } else s2
def aBuild (cfg : Cfg) (i : TI) : List (Nat × PV) -> List PV -> Option (List PV)
 | [],cells => some cells
 | (f,v) :: rest,cells => match i.kind with
  | .struct fs => seqO fs[f]? fun p => seqO (cfg.ti p.2) fun j => seqO v.cells fun cs =>
    if cs.length = j.size /\ p.1 + cs.length <= cells.length /\ cs.all isCell = true /\ cs.any PV.isOwn = false then aBuild cfg i rest (setCells cells p.1 cs) else none
  | .array _ e => seqO (cfg.ti e) fun j => seqO v.cells fun cs =>
    if cs.length = j.size /\ f * j.size + cs.length <= cells.length /\ cs.all isCell = true /\ cs.any PV.isOwn = false then aBuild cfg i rest (setCells cells (f * j.size) cs) else none
  | _ => none
def canBuild (cfg : Cfg) (i : TI) : Bool :=
 match i.kind with
 | .struct _ => true
 | .array _ e => (cfg.ti e).isSome
 | _ => false
def aRows (zero : List D) : List (Nat × PV) -> List (List D) -> Option (List (List D))
 | [],rows => some rows
 | (f,v) :: rest,rows => seqO v.cells fun cs => seqO (toDs cs) fun ds =>
   if ds.length = zero.length /\ f < rows.length then aRows zero rest (rows.set f ds) else none
def fetchs (cfg : Cfg) (pl : Pol) : List Operand -> St -> Option (List PV × St)
 | [],s => some ([],s)
 | x :: xs,s => seqO (fetch cfg pl x s) fun p => seqO (fetchs cfg pl xs p.2) fun q => some (p.1 :: q.1,q.2)
def aSlice (cfg : Cfg) (t : TypeId) (pl : Pol) (x : Operand) (lo hi mx : Option Operand) (s : St) : Option (PV × St) :=
 let lon : Option Int := match lo with | some o => aint (s.val cfg o) | none => some 0
 seqO lon fun l => if l < 0 then none else seqO (cfg.ti t) fun i => match i.kind with
  | .str => match s.val cfg x,mx with
   | .dat (.lit (.string b)),none =>
    let hin : Option Int := match hi with | some o => aint (s.val cfg o) | none => some b.size
    seqO hin fun h => if l <= h /\ h <= b.size then some (.dat (.lit (.string (b.extract l.toNat h.toNat))),s) else none
   | _,_ => none
  | .slice e => seqO (cfg.ti e) fun j => seqO (rd cfg x s) fun r =>
    let hin : Option Int := match hi with | some o => aint (s.val cfg o) | none => some r.rows.length
    seqO hin fun h => if l <= h /\ h <= r.rows.length then
     let mxn : Option (Option Int) := match mx with | some o => seqO (aint (s.val cfg o)) fun m => some (some m) | none => some none
     seqO mxn fun m => match m with
      | some m => if m = l /\ h = l /\ hi.isSome = true then some (.dat .nil,s) else none
      | none => match r with
       | .imm k xs => if (k == j.size || xs.isEmpty) = true then some (.dat (.sl k ((xs.take h.toNat).drop l.toNat)),s) else none
       | .at p ex k xs => if k = keyOf cfg e j /\ 0 < j.size then match pl,hi with
        | .take,none => if ex then some (.own true k (xs.drop l.toNat),s.mark p .dead) else some (.dat (.sl (ksz k) ((xs.take h.toNat).drop l.toNat)),s)
        | _,_ => some (.dat (.sl (ksz k) ((xs.take h.toNat).drop l.toNat)),if ex then s.mark p (.own false k xs) else s)
        else none
     else none
  | _ => none
def aAppendR (cfg : Cfg) (t : TypeId) (a : Operand) (rb : Rd) (s : St) : Option (PV × St) :=
 seqO (cfg.ti t) fun i => match i.kind with
  | .slice e => seqO (cfg.ti e) fun j => if j.size = 0 ∨ j.bytes = 0 then none else seqO (rd cfg a s) fun ra =>
    let ys := rb.rows
    if (ra.rows.length + ys.length) * j.bytes <= 140737488355328 /\ rb.fits j.size = true then
     match ra with
     | .imm k xs => match s.val cfg a with
      | .dat .nil => some (match ys with | [] => .dat .nil | _ => .own true (keyOf cfg e j) ys,s)
      | _ => if ys.isEmpty then some (.dat (.sl k xs),s) else none
     | .at p ex k xs => if k = keyOf cfg e j then some (.own ex k (xs ++ ys),s.mark p .dead) else none
    else none
  | _ => none
def aAppend (cfg : Cfg) (t : TypeId) (a b : Operand) (s : St) : Option (PV × St) := seqO (rd cfg b s) fun rb => aAppendR cfg t a rb s
def aBuiltin (cfg : Cfg) (b : Builtin) (argTypes : Array TypeId) (args : List Operand) (s : St) : Option (PV × St) :=
 match b,args with
 | .len,[x] => match s.val cfg x with
  | .dat (.lit (.string c)) => seqO (argTypes[0]?) fun t => seqO (cfg.ti t) fun i => match i.kind with
   | .str => some (.dat (.lit (.int .i64 c.size)),s)
   | _ => none
  | _ => seqO (argTypes[0]?) fun t => seqO (cfg.ti t) fun i => match i.kind with
   | .slice _ => seqO (rd cfg x s) fun r => some (.dat (.lit (.int .i64 r.rows.length)),s)
   | _ => none
 | .append,[x,y] => seqO (argTypes[0]?) fun t => seqO (argTypes[1]?) fun t' => if t = t' then aAppend cfg t x y s else none
 | .max,[x,y] => match s.val cfg x,s.val cfg y with
  | .dat (.lit (.int k a)),.dat (.lit (.int _ c)) => some (.dat (.lit (.int k (if a < c then c else a))),s)
  | _,_ => none
 | _,_ => none
def ptrBox : PV -> Option Nat
 | .ptr l 0 => some l
 | _ => none
def ptrBoxes : List PV -> Option (List Nat)
 | [] => some []
 | c :: cs => seqO (ptrBox c) fun l => seqO (ptrBoxes cs) fun ls => some (l :: ls)
def moveTup (cfg : Cfg) (x : Operand) (s : St) : Option (Nat × List PV) :=
 match x,s.val cfg x with
 | .tmp t,.tup vs => some (t,vs)
 | _,_ => none
def zeros (_ : Cfg) (_ : TypeId) (i : TI) : List PV := i.zero.map .dat
def isTake : Option Pol -> Bool
 | some .take => true
 | _ => false
def bagVal (cfg : Cfg) (s : St) (x : Operand) : Option PV :=
 match s.val cfg x with
 | .own .. => match x with
  | .tmp t => some (.alias (.tmp t))
  | _ => none
 | .dat d => some (.dat d)
 | .agg cs => some (.agg cs)
 | _ => none
def bagVals (cfg : Cfg) (s : St) : List Operand -> Option (List PV)
 | [] => some []
 | x :: xs => seqO (bagVal cfg s x) fun v => seqO (bagVals cfg s xs) fun vs => some (v :: vs)
def bagCells : PV -> Option (List PV)
 | .alias (.tmp t) => some [.alias (.tmp t)]
 | .alias _ => none
 | v => seqO v.cells fun cs => if cs.all isCell = true /\ cs.any PV.isOwn = false then some cs else none
def bagFill (cfg : Cfg) (fs : List (Nat × TypeId)) : List (Nat × PV) -> List PV -> Option (List PV)
 | [],cells => some cells
 | (f,v) :: rest,cells => seqO fs[f]? fun p => seqO (cfg.ti p.2) fun j => seqO (bagCells v) fun cs =>
   if cs.length = j.size /\ p.1 + cs.length <= cells.length then bagFill cfg fs rest (setCells cells p.1 cs) else none
def bagTake : List PV -> St -> Option (List PV × St)
 | [],s => some ([],s)
 | c :: cs,s => match c with
  | .alias (.tmp t) => match s.ts.getD t .dead with
   | .own ex k xs => seqO (bagTake cs { s with ts := s.ts.set t .dead }) fun q => some (.own ex k xs :: q.1,q.2)
   | _ => none
  | .alias _ => none
  | c => seqO (bagTake cs s) fun q => some (c :: q.1,q.2)
def bagBuild (cfg : Cfg) (dst : Option Tmp) (t : TypeId) (ps : List (Nat × Operand)) (s : St) : Option St :=
 seqO (cfg.ti t) fun i => match i.kind with
  | .struct fs => seqO (bagVals cfg s (ps.map (·.2))) fun vs => seqO (bagFill cfg fs ((ps.map (·.1)).zip vs) (i.zero.map .dat)) fun cs =>
    seqO (bagTake cs s) fun q => some (put q.2 dst (.bag q.1))
  | _ => none
def bagBox (cfg : Cfg) (dst : Option Tmp) (x : Operand) (s : St) : Option St :=
 match x,s.val cfg x with
 | .tmp t,.bag cs => if cs.all isCell = true then some (put { s with ts := s.ts.set t .dead,bx := s.bx ++ [cs] } dst (.ptr s.bx.length 0)) else none
 | _,_ => none
def takeCells (l : Nat) : Nat -> Box -> St -> St
 | _,[],s => s
 | j,c :: cs,s => match c with
  | .own _ _ _ => takeCells l (j + 1) cs (s.mark (.cell l j) .dead)
  | _ => takeCells l (j + 1) cs s
def aggT (cfg : Cfg) (t : TypeId) : Bool :=
 match cfg.ti t with
 | some i => i.kind.isAgg
 | none => false
def bagLoad (cfg : Cfg) (dst : Option Tmp) (t : TypeId) (a : Operand) (s : St) : Option St :=
 match s.val cfg a with
 | .ptr l off => seqO (cfg.ti t) fun i => seqO s.bx[l]? fun b => seqO (cut b off i.size) fun cs =>
   if i.kind.isAgg = true /\ cs.all isCell = true then some (put (takeCells l off cs s) dst (.bag cs)) else none
 | _ => none
def bagStore (cfg : Cfg) (t : TypeId) (a x : Operand) (s : St) : Option St :=
 match x,s.val cfg x with
 | .tmp tt,.bag cs => match s.val cfg a with
  | .ptr l off => seqO (cfg.ti t) fun i => seqO s.bx[l]? fun b =>
    if (cs.length = i.size /\ off + cs.length <= b.length) /\ cs.all isCell = true then some (stored { s with ts := s.ts.set tt .dead } l off b cs false) else none
  | _ => none
 | _,_ => none
def aop (cfg : Cfg) (pol : Option Pol) (o : Oper) (s : St) : Option St :=
 match o.op with
 | .move x => match moveTup cfg x s with
  | some q => some (put { s with ts := s.ts.set q.1 .dead } o.dst (.tup q.2))
  | none => seqO (fetch cfg (pol.getD .alias) x s) fun p => some (put p.2 o.dst p.1)
 | .assign x => seqO (fetch cfg (pol.getD .take) x s) fun p => some (put p.2 o.dst p.1)
 | .pick c a b => seqO (abool (s.val cfg c)) fun t => seqO (fetch cfg (pol.getD .alias) (if t then a else b) s) fun p => some (put p.2 o.dst p.1)
 | .alloc t => seqO (cfg.ti t) fun i => some (put { s with bx := s.bx ++ [zeros cfg t i] } o.dst (.ptr s.bx.length 0))
 | .box _ x => if isTake pol = true then bagBox cfg o.dst x s else seqO (fetch cfg .copy x s) fun p => seqO p.1.cells fun cs => if cs.all isCell then some (put { p.2 with bx := p.2.bx ++ [cs] } o.dst (.ptr p.2.bx.length 0)) else none
 | .build t ps => if isTake pol = true then bagBuild cfg o.dst t ps.toList s else seqO (cfg.ti t) fun i => if canBuild cfg i then seqO (fetchs cfg .copy (ps.toList.map (·.2)) s) fun q =>
   seqO (aBuild cfg i ((ps.toList.map (·.1)).zip q.1) (i.zero.map .dat)) fun cs => some (put q.2 o.dst (.agg cs)) else none
 | .buildSlice t n ps => seqO (cfg.ti t) fun i => match i.kind with
  | .slice e => seqO (cfg.ti e) fun j => if n = 0 /\ ps.toList = [] /\ 0 < j.size then some (put s o.dst (.dat .nil)) else if 0 < j.size /\ n * j.size <= 16777216 /\ 0 < n then seqO (fetchs cfg .copy (ps.toList.map (·.2)) s) fun q =>
    seqO (aRows j.zero ((ps.toList.map (·.1)).zip q.1) (List.replicate n j.zero)) fun rows => some (put q.2 o.dst (frzV cfg (.own true (keyOf cfg e j) rows))) else none
  | _ => none
 | .load t a => if (isTake pol && aggT cfg t) = true then bagLoad cfg o.dst t a s else seqO (aLoad cfg t (pol.getD .alias) (s.val cfg a) s) fun p => some (put p.2 o.dst p.1)
 | .store t a x => if isTake pol = true then seqO (bagStore cfg t a x s) fun s' => some (put s' o.dst (.dat (.lit undef))) else seqO (fetch cfg (pol.getD .take) x s) fun p => seqO (aStore cfg t (p.2.val cfg a) p.1 p.2) fun s' => some (put s' o.dst (.dat (.lit undef)))
 | .nilCheck x => match s.val cfg x with
  | .ptr l off => some (put s o.dst (.ptr l off))
  | .iptr cs off => some (put s o.dst (.iptr cs off))
  | .clo f c => some (put s o.dst (.clo f c))
  | _ => none
 | .binOp op t x y _ => seqO (aBinN cfg op t (isNilC y) (s.val cfg x) (s.val cfg y)) fun v => some (put s o.dst v)
 | .unOp op _ x => seqO (aUn op (s.val cfg x)) fun v => some (put s o.dst v)
 | .convert a b x => seqO (aConv cfg a b s (s.val cfg x)) fun v => some (put s o.dst v)
 | .makeFunc (.func g) first cap => if first.size = 0 then seqO (ptrBoxes (cap.toList.map (s.val cfg))) fun ls => some (put s o.dst (.clo g ls)) else none
 | .makeSlice t l c => seqO (cfg.ti t) fun i => seqO (aint (s.val cfg l)) fun n => seqO (aint (s.val cfg c)) fun n' => match i.kind with
  | .slice e => seqO (cfg.ti e) fun j => if 0 < j.size /\ 0 < j.bytes /\ n = n' /\ 0 <= n /\ n.toNat * j.bytes <= 140737488355328 then some (put s o.dst (.own true (keyOf cfg e j) (List.replicate n.toNat j.zero))) else none
  | _ => none
 | .slice t x lo hi mx => seqO (aSlice cfg t (pol.getD .alias) x lo hi mx s) fun p => some (put p.2 o.dst p.1)
 | .fieldAddr t x f => seqO (aFieldAddr cfg t (s.val cfg x) f) fun v => some (put s o.dst v)
 | .indexAddr t x i => seqO (aIndexAddr cfg t x i s) fun v => some (put s o.dst v)
 | .field t x f => seqO (cfg.ti t) fun i => match i.kind,s.val cfg x with
  | .struct fs,.agg cs => seqO fs[f]? fun p => seqO (cfg.ti p.2) fun j =>
    if j.kind.isAgg then seqO (cut cs p.1 j.size) fun c => some (put s o.dst (.agg c)) else seqO cs[p.1]? fun c => some (put s o.dst c)
  | _,_ => none
 | .extract x ix => match x,s.val cfg x with
  | .tmp t,.tup vs => seqO vs[ix]? fun v => match v with
   | .own ex k xs => some (put { s with ts := s.ts.set t (.tup (vs.set ix .dead)) } o.dst (.own ex k xs))
   | .dead => none
   | v => some (put s o.dst v)
  | _,_ => none
 | .call c => match c.callee with
  | .builtin b => seqO (aBuiltin cfg b c.argTypes c.args.toList s) fun p => some (put p.2 o.dst p.1)
  | _ => none
 | _ => none
def hookOf (cfg : Cfg) : Op -> Option (Hook × List Operand)
 | .call c => match c.callee with
  | .value (.func g) => (cfg.hook g).map fun h => (h,c.args.toList)
  | _ => none
 | _ => none
def intRow : List D -> Option Int
 | [.lit (.int .i64 z)] => some z
 | _ => none
def intRows : List (List D) -> Option (List Int)
 | [] => some []
 | r :: rs => seqO (intRow r) fun z => seqO (intRows rs) fun zs => some (z :: zs)
def rowsOf (zs : List Int) : List (List D) := zs.map fun z => [.lit (.int .i64 z)]
def sortI (zs : List Int) : List Int := zs.mergeSort fun x y => decide (x <= y)
def ownPlace (cfg : Cfg) (x : Operand) (s : St) : Option (Place × List (List D)) :=
 match s.val cfg x with
 | .alias p => match s.at p with
  | .own true 1 xs => some (p,xs)
  | _ => none
 | .own true 1 xs => match x with
  | .tmp t => some (.tmp t,xs)
  | _ => none
 | _ => none
def runHook (cfg : Cfg) (h : Hook) (args : List Operand) (s : St) : Option (PV × St) :=
 match h,args with
 | .sort,[x] => match s.val cfg x with
  | .dat .nil => some (.tup [],s)
  | _ => seqO (ownPlace cfg x s) fun q => seqO (intRows q.2) fun zs => if zs.length < 4611686018427387904 then some (.tup [],s.mark q.1 (.own true 1 (rowsOf (sortI zs)))) else none
 | .compact,[x] => match s.val cfg x with
  | .dat .nil => some (.dat .nil,s)
  | _ => seqO (ownPlace cfg x s) fun q => seqO (intRows q.2) fun zs => if zs.length < 4611686018427387904 then some (.own true 1 (rowsOf (Lib.compact zs)),s.mark q.1 .dead) else none
 | _,_ => none
def isFnCall : Op -> Option (Operand × List Operand)
 | .call c => match c.callee with
  | .value f => some (f,c.args.toList)
  | _ => none
 | _ => none
def prep (cfg : Cfg) (f : Operand) (args : List Operand) (s : St) : Option (Job × St) :=
 seqO (fetchs cfg .copy args s) fun q => match q.2.val cfg f with
  | .clo g cap => some (.call g (q.1 ++ cap.map fun l => .ptr l 0) q.2.bx,q.2)
  | _ => none
def noAlias (ts : List PV) : List PV := ts.map (PV.strip fun p => match p with | .cell _ _ => true | _ => false)
def fin (out : Out) (dst : Option Tmp) (s : St) : Option St :=
 match out with
 | .ret r none => some (put s dst r)
 | .ret r (some e) =>
  some (put { s with ts := noAlias s.ts,bx := e.bx,lo := (if e.lo < s.nb then some (match s.lo with | none => e.lo | some m => min m e.lo) else s.lo),kp := s.kp || e.kp } dst r)
 | .loop _ _ => none
def wants (ops : List Oper) (o : Oper) (s : St) : Option Bool :=
 match o.guard with
 | none => some true
 | some (j,want) => seqO (ops[j]?) fun q => seqO q.dst fun d => match s.ts.getD d .dead with
  | .dat (.lit (.bool b)) => some (b == want)
  | .dat (.lit _) => some false
  | _ => none
def polOf (cx : Cx) (rid i : Nat) : Option Pol := (cx.pol.find? fun p => p.1 == rid && p.2.1 == i).map (·.2.2)
def frzIf (pol : Option Pol) (r : PV) : PV :=
 match pol with
 | some .copy => r.frz
 | _ => r
def frzOut (pol : Option Pol) (out : Out) : Out :=
 match pol with
 | some .copy => match out with
  | .ret r e => .ret r.frz e
  | .loop x s => .loop x s
 | _ => out
def delRows (e : Job -> Option Out) (g : FuncId) (cap : List Nat) (bx : List Box) : List Int -> Option (List Int)
 | [] => some []
 | z :: zs => seqO (e (.call g (.dat (.lit (.int .i64 z)) :: cap.map fun l => .ptr l 0) bx)) fun out => match out with
  | .ret (.dat (.lit (.bool b))) none => seqO (delRows e g cap bx zs) fun ys => some (if b = true then ys else z :: ys)
  | _ => none
def isDel : Hook × List Operand -> Option (Operand × Operand)
 | (.delFn,[x,f]) => some (x,f)
 | _ => none
def delSt (e : Job -> Option Out) (g : FuncId) (cap : List Nat) (t : Tmp) (s : St) : PV -> Option (PV × St)
 | .own true 1 xs => seqO (intRows xs) fun zs => if zs.length < 4611686018427387904 /\ zs ≠ [] then seqO (delRows e g cap s.bx zs) fun ys => some (.own true 1 (rowsOf ys),s.mark (.tmp t) .dead) else none
 | _ => none
def runDel (e : Job -> Option Out) (cfg : Cfg) (x f : Operand) (s : St) : Option (PV × St) :=
 match s.val cfg f with
 | .clo g cap => match s.val cfg x with
  | .dat .nil => some (.dat .nil,s)
  | .own ex k xs => match x with
   | .tmp t => delSt e g cap t s (.own ex k xs)
   | _ => none
  | .alias (.tmp t) => delSt e g cap t s (s.at (.tmp t))
  | _ => none
 | _ => none
def aopX (e : Job -> Option Out) (cfg : Cfg) (pol : Option Pol) (o : Oper) (s : St) : Option St :=
 match hookOf cfg o.op with
 | some h => match isDel h with
  | some q => seqO (runDel e cfg q.1 q.2 s) fun p => some (put p.2 o.dst p.1)
  | none => seqO (runHook cfg h.1 h.2 s) fun p => some (put p.2 o.dst p.1)
 | none => match isFnCall o.op with
 | some c => seqO (prep cfg c.1 c.2 s) fun p => seqO (e p.1) fun out => fin (frzOut pol out) o.dst p.2
 | none => aop cfg pol o s
def aopG (e : Job -> Option Out) (cfg : Cfg) (pol : Option Pol) (ops : List Oper) (o : Oper) (s : St) : Option St :=
 seqO (wants ops o s) fun b => iteB b (fun _ => aopX e cfg pol o s) (fun _ => some (put s o.dst (.dat (.lit undef))))
def wantsR (ops : List Oper) (o : Oper) (s : St) : Option (Bool × St × St) :=
 match o.guard with
 | none => some (true,s,s)
 | some (j,want) => seqO (ops[j]?) fun q => seqO q.dst fun d => match s.ts.getD d .dead with
  | .dat (.lit (.bool b)) => some (b == want,{ s with ts := s.ts.set d (.dat (.lit (.bool want))) },{ s with ts := s.ts.set d (.dat (.lit (.bool (!want)))) })
  | .dat (.lit _) => some (false,s,s)
  | _ => none
def aopR (e : Job -> Option Out) (cfg : Cfg) (pol : Option Pol) (ops : List Oper) (o : Oper) (s : St) : Option St :=
 seqO (wantsR ops o s) fun p => iteB p.1 (fun _ => aopX e cfg pol o p.2.1) (fun _ => some (put p.2.2 o.dst (.dat (.lit undef))))
def aops (e : Job -> Option Out) (cfg : Cfg) (cx : Cx) (rid : Nat) (ops : List Oper) : Nat -> List Oper -> St -> Option St
 | _,[],s => some s
 | i,o :: os,s => seqO (aopR e cfg (polOf cx rid i) ops o s) fun s' => aops e cfg cx rid ops (i + 1) os s'
theorem set_getD {α : Type} {l : List α} {d : Nat} {x v : α} (h : l.getD d x = v) (hne : v ≠ x) : l.set d v = l := by
 rw [List.getD_eq_getElem?_getD] at h
 cases hq : l[d]? with
 | none => rw [hq] at h; exact absurd h.symm hne
 | some y =>
  rw [hq] at h
  obtain rfl : y = v := h
  apply List.ext_getElem?
  intro i
  rw [List.getElem?_set]
  split
  ·rename_i e; subst e
   split
   ·exact hq.symm
   ·rename_i hl; rw [List.getElem?_eq_none (by omega)] at hq; cases hq
  ·rfl
theorem wantsR_wants {ops : List Oper} {o : Oper} {s : St} {p : Bool × St × St} (h : wantsR ops o s = some p) : wants ops o s = some p.1 /\ (p.1 = true -> p.2.1 = s) /\ (p.1 = false -> p.2.2 = s) := by
 unfold wantsR at h
 unfold wants
 split at h
 ·obtain rfl := sij h
  exact ⟨rfl,fun _ => rfl,fun _ => rfl⟩
 ·rename_i j want hg
  obtain ⟨q,h1,h2⟩ := seqO_eq.1 h
  obtain ⟨d,h3,h4⟩ := seqO_eq.1 h2
  simp only [h1,h3,seqO_some]
  split at h4
  ·rename_i b hv
   obtain rfl := sij h4
   refine ⟨rfl,fun hb => ?_,fun hb => ?_⟩
   ·obtain rfl : b = want := by simpa using hb
    show ({ s with ts := s.ts.set d _ } : St) = s
    rw [set_getD hv (by intro e; cases e)]
   ·obtain rfl : b = !want := by cases b <;> cases want <;> simp_all
    show ({ s with ts := s.ts.set d _ } : St) = s
    rw [set_getD hv (by intro e; cases e)]
  ·rename_i v hnb hv
   obtain rfl := sij h4
   exact ⟨rfl,fun _ => rfl,fun _ => rfl⟩
  ·cases h4
theorem aopR_G {e : Job -> Option Out} {cfg : Cfg} {pol : Option Pol} {ops : List Oper} {o : Oper} {s s' : St} (h : aopR e cfg pol ops o s = some s') : aopG e cfg pol ops o s = some s' := by
 unfold aopR at h
 obtain ⟨⟨b,s1,s2⟩,h1,h2⟩ := seqO_eq.1 h
 obtain ⟨h3,h4,h5⟩ := wantsR_wants h1
 unfold aopG
 rw [h3]
 cases b with
 | true => rw [h4 rfl] at h2; exact h2
 | false => rw [h5 rfl] at h2; exact h2
end Go.Vx
namespace Go.Vx
open Go
def fetchN (cfg : Cfg) (x : Operand) (s : St) : Option PV :=
 match s.val cfg x with
 | .own false k xs => some (.dat (.sl (ksz k) xs))
 | .own true _ _ => none
 | .alias p => match s.at p with
  | .own false k xs => some (.dat (.sl (ksz k) xs))
  | .dat d => some (.dat d)
  | _ => none
 | .eptr .. => none
 | .tup _ => none
 | .bag _ => none
 | .dead => none
 | v => some v
def fetchNs (cfg : Cfg) : List Operand -> St -> Option (List PV)
 | [],_ => some []
 | x :: xs,s => seqO (fetchN cfg x s) fun v => seqO (fetchNs cfg xs s) fun vs => some (v :: vs)
def prepN (cfg : Cfg) (f : Operand) (args : List Operand) (s : St) : Option Job :=
 seqO (fetchNs cfg args s) fun q => match s.val cfg f with
  | .clo g cap => some (.call g (q ++ cap.map fun l => .ptr l 0) s.bx)
  | _ => none
def stays (cfg : Cfg) (x : Operand) (s : St) : Bool :=
 match s.val cfg x with
 | .own ex _ _ => !ex
 | .alias p => match s.at p with
  | .own ex _ _ => !ex
  | _ => true
 | _ => true
def aopN (cfg : Cfg) (o : Oper) (s : St) : Option PV :=
 match o.op with
 | .move x => match s.val cfg x with
  | .own .. => match x with
   | .tmp t => some (.alias (.tmp t))
   | _ => none
  | .tup _ | .bag _ | .dead => none
  | v => some v
 | .assign x => match s.val cfg x with
  | .alias p => match s.at p with
   | .dat d => some (.dat d)
   | _ => none
  | .own .. | .eptr .. | .tup _ | .bag _ | .dead => none
  | v => some v
 | .slice t x lo hi mx => if stays cfg x s then seqO (aSlice cfg t .alias x lo hi mx s) fun p => some p.1 else none
 | .pick c a b => seqO (abool (s.val cfg c)) fun t => match s.val cfg (if t then a else b) with
  | .own .. | .alias _ | .eptr .. | .tup _ | .bag _ | .dead => none
  | v => some v
 | .build t ps => seqO (cfg.ti t) fun i => if canBuild cfg i then seqO (fetchNs cfg (ps.toList.map (·.2)) s) fun q =>
   seqO (aBuild cfg i ((ps.toList.map (·.1)).zip q) (i.zero.map .dat)) fun cs => some (.agg cs) else none
 | .buildSlice t n ps => seqO (cfg.ti t) fun i => match i.kind with
  | .slice e => seqO (cfg.ti e) fun j => if n = 0 /\ ps.toList = [] /\ 0 < j.size then some (.dat .nil) else if 0 < j.size /\ n * j.size <= 16777216 /\ 0 < n then seqO (fetchNs cfg (ps.toList.map (·.2)) s) fun q =>
    seqO (aRows j.zero ((ps.toList.map (·.1)).zip q) (List.replicate n j.zero)) fun rows => some (frzV cfg (.own true (keyOf cfg e j) rows)) else none
  | _ => none
 | .load t a => match s.val cfg a with
  | .ptr l off => seqO (cfg.ti t) fun i => seqO s.bx[l]? fun b =>
   if i.kind.isAgg then seqO (cut b off i.size) fun c =>
    if c.any PV.isOwn then (if c.all PV.frozen then some (.agg (c.map PV.frz)) else none) else some (.agg c)
   else seqO b[off]? fun c => match c with
    | .own _ _ _ => some (.alias (.cell l off))
    | .dead => none
    | c => some c
  | v => seqO (aLoad cfg t .alias v s) fun p => some p.1
 | .nilCheck x => match s.val cfg x with
  | .ptr l off => some (.ptr l off)
  | .iptr cs off => some (.iptr cs off)
  | .clo f c => some (.clo f c)
  | _ => none
 | .binOp op t x y _ => aBinN cfg op t (isNilC y) (s.val cfg x) (s.val cfg y)
 | .unOp op _ x => aUn op (s.val cfg x)
 | .convert a b x => aConv cfg a b s (s.val cfg x)
 | .fieldAddr t x f => aFieldAddr cfg t (s.val cfg x) f
 | .indexAddr t x i => aIndexAddr cfg t x i s
 | .call c => match c.callee with
  | .builtin .len => seqO (aBuiltin cfg .len c.argTypes c.args.toList s) fun p => some p.1
  | _ => none
 | _ => none
def aopNX (e : Job -> Option Out) (cfg : Cfg) (o : Oper) (s : St) : Option PV :=
 match hookOf cfg o.op with
 | some _ => none
 | none => match isFnCall o.op with
 | some c => seqO (prepN cfg c.1 c.2 s) fun j => seqO (e j) fun out => match out with
  | .ret r none => some r
  | _ => none
 | none => aopN cfg o s
def okAl (ds : List Nat) : PV -> Bool
 | .alias (.tmp p) => !ds.contains p
 | .eptr (.tmp p) _ _ _ => !ds.contains p
 | _ => true
def dstsOf : List Oper -> List Nat
 | [] => []
 | o :: os => match o.dst with
  | some d => d :: dstsOf os
  | none => dstsOf os
def aopNG (e : Job -> Option Out) (cfg : Cfg) (ops : List Oper) (ds : List Nat) (o : Oper) (s : St) : Option St :=
 seqO o.dst fun d =>
  seqO (wants ops o s) fun b => seqO (iteB b (fun _ => aopNX e cfg o s) (fun _ => some (.dat (.lit undef)))) fun v => if okAl ds v then some { s with ts := s.ts.set d v } else none
def aopNR (e : Job -> Option Out) (cfg : Cfg) (ops : List Oper) (ds : List Nat) (o : Oper) (s : St) : Option St :=
 seqO o.dst fun d =>
  seqO (wantsR ops o s) fun p => iteB p.1 (fun _ => seqO (aopNX e cfg o p.2.1) fun v => if okAl ds v then some { p.2.1 with ts := p.2.1.ts.set d v } else none) (fun _ => some { p.2.2 with ts := p.2.2.ts.set d (.dat (.lit undef)) })
theorem aopNR_NG {e : Job -> Option Out} {cfg : Cfg} {ops : List Oper} {ds : List Nat} {o : Oper} {s s' : St} (h : aopNR e cfg ops ds o s = some s') : aopNG e cfg ops ds o s = some s' := by
 unfold aopNR at h
 unfold aopNG
 obtain ⟨d,h0,h⟩ := seqO_eq.1 h
 rw [h0]
 simp only [seqO_some]
 obtain ⟨⟨b,s1,s2⟩,h1,h2⟩ := seqO_eq.1 h
 obtain ⟨h3,h4,h5⟩ := wantsR_wants h1
 rw [h3]
 cases b with
 | true => rw [h4 rfl] at h2; exact h2
 | false => rw [h5 rfl] at h2; exact h2
def segFree (ds : List Nat) (s : St) : Bool := s.ts.all (okAl ds) && ds.all fun d => decide (d < s.ts.length)
def allocOf (o : Oper) : Option TypeId :=
 match o.guard with
 | some _ => none
 | none => match o.op with
  | .alloc t => some t
  | _ => none
def anseg (e : Job -> Option Out) (cfg : Cfg) (ops : List Oper) (ds : List Nat) : List Oper -> St -> Option St
 | [],s => some s
 | o :: os,s => match allocOf o with
  | some _ => seqO o.dst fun d => anseg e cfg ops ds os { s with ts := s.ts.set d .dead }
  | none => seqO (aopNR e cfg ops ds o s) fun s' => anseg e cfg ops ds os s'
def adopts (cfg : Cfg) : List Oper -> St -> Option St
 | [],s => some s
 | o :: os,s => match allocOf o with
  | some t => seqO (cfg.ti t) fun i => adopts cfg os (put { s with bx := s.bx ++ [zeros cfg t i] } o.dst (.ptr s.bx.length 0))
  | none => adopts cfg os s
def noCellAl : PV -> Bool
 | .alias (.cell _ _) => false
 | .eptr (.cell _ _) _ _ _ => false
 | _ => true
def nOk (cfg : Cfg) (o : Oper) (s : St) : Bool :=
 match o.op with
 | .move _ | .fieldAddr .. | .binOp .. | .unOp .. | .assign _ | .indexAddr .. => true
 | .load _ a => match s.val cfg a with
  | .ptr _ _ | .iptr _ _ | .eptr .. => true
  | _ => false
 | _ => false
def loadBox (cfg : Cfg) (o : Oper) (s : St) : List Nat :=
 match o.op with
 | .load _ a => match s.val cfg a with
  | .ptr l _ => [l]
  | _ => []
 | _ => []
def applyE (s : St) (d : Nat) (r : PV) : Option Eff -> St
 | none => { s with ts := s.ts.set d r }
 | some e => { s with ts := s.ts.set d r,bx := e.bx,lo := (if e.lo < s.nb then some (match s.lo with | none => e.lo | some m => min m e.lo) else s.lo),kp := s.kp || e.kp }
def outE (ds : List Nat) (d : Nat) (s : St) : Out -> Option St
 | .ret r ef => if (okAl ds r && noCellAl r) = true then some (applyE s d r ef) else none
 | .loop _ _ => none
def plainOp : Op -> Bool
 | .alloc _ | .store .. => true
 | _ => false
def plainV : PV -> Bool
 | .dat _ | .agg _ => true
 | _ => false
def plainE (cfg : Cfg) (o : Oper) (s : St) : Option (PV × Eff) :=
 match o.op,o.dst with
 | .alloc t,some _ => seqO (cfg.ti t) fun i => some (.ptr s.bx.length 0,⟨s.bx ++ [zeros cfg t i],s.nb,false⟩)
 | .store t a y,none => match s.val cfg a with
  | .ptr l off => if plainV (s.val cfg y) = true then seqO (cfg.ti t) fun i => seqO (s.val cfg y).cells fun cs => seqO s.bx[l]? fun b =>
    if (cs.length = i.size /\ cs.all isCell = true) /\ off + cs.length <= b.length then some (.dat (.lit undef),⟨s.bx.set l (setCells b off cs),if l < s.nb then l else s.nb,!(s.val cfg y).noPtr && decide (l < s.nb)⟩) else none
   else none
  | _ => none
 | _,_ => none
def setO (ts : List PV) (d : Option Nat) (v : PV) : List PV :=
 match d with
 | some d => ts.set d v
 | none => ts
def applyP (s : St) (d : Option Nat) (r : PV) (e : Eff) : St :=
 { s with ts := setO s.ts d r,bx := e.bx,lo := (if e.lo < s.nb then some (match s.lo with | none => e.lo | some m => min m e.lo) else s.lo),kp := s.kp || e.kp }
def aopE (e : Job -> Option Out) (cfg : Cfg) (ds : List Nat) (o : Oper) (s : St) : Option St :=
 match o.guard with
 | some _ => none
 | none => if plainOp o.op = true then seqO (plainE cfg o s) fun q => if (okAl ds q.1 && noCellAl q.1) = true then some (applyP s o.dst q.1 q.2) else none else match hookOf cfg o.op with
 | some _ => none
 | none => seqO o.dst fun d => seqO (isFnCall o.op) fun c => seqO (prepN cfg c.1 c.2 s) fun j => seqO (e j) fun out => outE ds d s out
def stabL (bx : List Box) (l : Nat) : List (List Box) -> Prop
 | [] => True
 | b :: vs => b[l]? = bx[l]? /\ stabL bx l vs
def stab (bx : List Box) (vs : List (List Box)) : List Nat -> Prop
 | [] => True
 | l :: ls => stabL bx l vs /\ stab bx vs ls
open Classical in
noncomputable def amix (e : Job -> Option Out) (cfg : Cfg) (ops : List Oper) (ds E : List Nat) : Nat -> List Oper -> St -> List (List Box) -> List Nat -> Option St
 | _,[],s,vs,ls => if stab s.bx vs ls /\ s.ts.all noCellAl = true then some s else none
 | i,o :: os,s,vs,ls =>
  if E.contains i = true then seqO (aopE e cfg ds o s) fun s' => amix e cfg ops ds E (i + 1) os s' (s.bx :: vs) ls
  else if nOk cfg o s = true then seqO (aopNR e cfg ops ds o s) fun s' => amix e cfg ops ds E (i + 1) os s' vs (loadBox cfg o s ++ ls)
  else none
def mixOf (cx : Cx) (rid : Nat) : List Nat := ((cx.mix.find? fun p => p.1 == rid).map (·.2)).getD []
def mixIn (cx : Cx) (rid i n : Nat) : Bool := (mixOf cx rid).any fun j => decide (i <= j) && decide (j < i + n)
def takesOf (cx : Cx) (rid : Nat) : List (Nat × Nat) := ((cx.takes.find? fun p => p.1 == rid).map (·.2)).getD []
def takesIn (cx : Cx) (rid i n : Nat) : Bool := (takesOf cx rid).any fun p => decide (i <= p.1) && decide (p.1 < i + n)
def takeOf (T : List (Nat × Nat)) (j : Nat) : Option Nat := (T.find? fun p => p.1 == j).map (·.2)
def aopT1 (cfg : Cfg) (t : Nat) (ts : Array TypeId) (y : Operand) (s : St) : PV -> Option PV
 | .own ex k xs => seqO (ts[0]?) fun ty => seqO (ts[1]?) fun ty' => if ty = ty' then seqO (aAppend cfg ty (.tmp t) y s) fun p => some p.1 else none
 | _ => none
def aopT (cfg : Cfg) (t : Nat) (o : Oper) (s : St) : Option PV :=
 match o.guard,o.op with
 | none,.call c => match c.callee,c.args.toList with
  | .builtin .append,[.tmp t',y] => if t' = t then aopT1 cfg t c.argTypes y s (s.ts.getD t .dead) else none
  | _,_ => none
 | _,_ => none
def aopTC (e : Job -> Option Out) (cfg : Cfg) (t : Nat) (o : Oper) (s : St) : Option PV :=
 match o.guard with
 | some _ => none
 | none => match hookOf cfg o.op with
 | some _ => none
 | none => match isFnCall o.op with
 | some (f,[.tmp t']) => if t' = t then match s.ts.getD t .dead with
   | .own true k xs => match s.val cfg f with
    | .clo g cap => seqO (e (.call g (.dat (.sl (ksz k) xs) :: cap.map fun l => .ptr l 0) s.bx)) fun out => match out with
     | .ret r none => some r
     | _ => none
    | _ => none
   | _ => none
  else none
 | _ => none
def aopTX (e : Job -> Option Out) (cfg : Cfg) (t : Nat) (o : Oper) (s : St) : Option PV :=
 match isFnCall o.op with
 | some _ => aopTC e cfg t o s
 | none => aopT cfg t o s
def tvOf (o : Oper) (p : PV) : PV :=
 match isFnCall o.op with
 | some _ => match p with
  | .own _ k xs => .own false k xs
  | _ => .dead
 | none => .dead
def ateg (e : Job -> Option Out) (cfg : Cfg) (ops : List Oper) (ds : List Nat) (T : List (Nat × Nat)) : Nat -> List Oper -> St -> Option St
 | _,[],s => some s
 | i,o :: os,s => match takeOf T i with
  | some t => seqO o.dst fun d => if ds.contains t = true then seqO (aopTX e cfg t o s) fun v => if okAl ds v = true then ateg e cfg ops ds T (i + 1) os { s with ts := (s.ts.set t (tvOf o (s.ts.getD t .dead))).set d v } else none else none
  | none => match allocOf o with
   | some _ => none
   | none => seqO (aopNR e cfg ops ds o s) fun s' => ateg e cfg ops ds T (i + 1) os s'
def segE (cx : Cx) (rid : Nat) (e : Job -> Option Out) (j : Job) : Option Out :=
 match cx.frz.contains rid with
 | true => seqO (e j) fun out => some (frzOut (some .copy) out)
 | false => e j
def segC (cx : Cx) (rid : Nat) (cfg : Cfg) : Cfg :=
 match cx.frz.contains rid with
 | true => { cfg with frzB := true }
 | false => cfg
noncomputable def asegs (e : Job -> Option Out) (cfg : Cfg) (cx : Cx) (rid : Nat) (ops : List Oper) : List Nat -> Nat -> List Oper -> St -> Option St
 | [],_,rest,s => match rest with
  | [] => some s
  | _ => none
 | n :: ns,i,rest,s =>
  if n = 1 then match rest with
   | o :: rest' => seqO (aopR e cfg (polOf cx rid i) ops o s) fun s' => asegs e cfg cx rid ops ns (i + 1) rest' s'
   | [] => none
  else if segFree (dstsOf (rest.take n)) s = true then
   if mixIn cx rid i n = true then (if s.ts.all noCellAl = true then seqO (amix (segE cx rid e) (segC cx rid cfg) ops (dstsOf (rest.take n)) (mixOf cx rid) i (rest.take n) s [] []) fun s' => asegs e cfg cx rid ops ns (i + n) (rest.drop n) s' else none)
   else if takesIn cx rid i n = true then seqO (ateg e cfg ops (dstsOf (rest.take n)) (takesOf cx rid) i (rest.take n) s) fun s' => asegs e cfg cx rid ops ns (i + n) (rest.drop n) s'
   else seqO (anseg (segE cx rid e) (segC cx rid cfg) ops (dstsOf (rest.take n)) (rest.take n) s) fun s' => seqO (adopts cfg (rest.take n) s') fun s' => asegs e cfg cx rid ops ns (i + n) (rest.drop n) s' else none
def segsOf (cx : Cx) (rid : Nat) : Option (List Nat) := (cx.segs.find? fun p => p.1 == rid).map (·.2)
def ridOf : Code -> Option Nat
 | .region id _ _ => some id
 | .seq a b => match ridOf a with
  | some i => some i
  | none => ridOf b
 | .cond _ a b => match ridOf a with
  | some i => some i
  | none => ridOf b
 | .block _ c => ridOf c
 | .loop c => ridOf c
 | _ => none
def keepAt (l : List Nat) : Nat -> List PV -> List PV
 | _,[] => []
 | i,v :: vs => (if l.contains i then v else .dead) :: keepAt l (i + 1) vs
def loopAt (k : Nat) : Code -> Option Code
 | .seq a b => match loopAt k a with
  | some c => some c
  | none => loopAt k b
 | .cond _ a b => match loopAt k a with
  | some c => some c
  | none => loopAt k b
 | .block _ c => loopAt k c
 | .loop c => match ridOf c with
  | some i => if i = k then some c else loopAt k c
  | none => loopAt k c
 | _ => none
def loopCode (cfg : Cfg) (f : FuncId) (k : Nat) : Option Code := seqO (cfg.fn f) fun fn => seqO fn.body fun c => loopAt k c
def atHead (cx : Cx) (k : Nat) (s : St) : St :=
 match cx.live.find? fun p => p.1 == k with
 | some p => { s with ts := keepAt p.2.1 0 s.ts }
 | none => s
def atExit (cx : Cx) (k : Nat) (s : St) : St :=
 match cx.live.find? fun p => p.1 == k with
 | some p => { s with ts := keepAt p.2.2 0 s.ts }
 | none => s
def cellLt (h : Nat) : PV -> Bool
 | .ptr l _ => decide (l < h)
 | .clo _ cap => cap.all fun l => decide (l < h)
 | _ => true
def refLt (h : Nat) : PV -> Bool
 | .agg cs => cs.all (cellLt h)
 | .tup _ => false
 | .bag _ => false
 | .alias (.cell l _) => decide (l < h)
 | .eptr (.cell l _) _ _ _ => decide (l < h)
 | c => cellLt h c
def gc (h : Nat) (s : St) : St :=
 if (!s.kp && decide (s.nb <= h) && s.ts.all (refLt h) && ((s.bx.drop s.nb).take (h - s.nb)).all fun b => b.all (cellLt h)) = true then { s with bx := s.bx.take h } else s
def thenX (k : St -> Option (AExit × St)) : AExit -> St -> Option (AExit × St)
 | .normal,s => k s
 | .exit i,s => some (.exit i,s)
 | .ret,s => some (.ret,s)
 | .fork x1 s1 x2,s => seqO (thenX k x1 s1) fun p => seqO (thenX k x2 s) fun q => some (.fork p.1 p.2 q.1,q.2)
def thenC (r : AExit × St) (k : St -> Option (AExit × St)) : Option (AExit × St) := thenX k r.1 r.2
def inX (id : Nat) : AExit -> AExit
 | .normal => .normal
 | .exit i => if i = id then .normal else .exit i
 | .ret => .ret
 | .fork x1 s1 x2 => .fork (inX id x1) s1 (inX id x2)
def inBlockC (id : Nat) (r : AExit × St) : AExit × St := (inX id r.1,r.2)
def cond3 : PV -> Option (Option Bool)
 | .dat (.lit (.bool b)) => some (some b)
 | .dat .any => some none
 | _ => none
def joinF (x y : Option (AExit × St)) : Option (AExit × St) := seqO x fun p => seqO y fun q => some (.fork p.1 p.2 q.1,q.2)
def tri (t : Option Bool) (x y : Unit -> Option (AExit × St)) : Option (AExit × St) :=
 match t with
 | some b => iteB b x y
 | none => joinF (x ()) (y ())
noncomputable def acode (e : Job -> Option Out) (cfg : Cfg) (f : FuncId) : Code -> St -> Option (AExit × St)
 | .skip,s => some (.normal,s)
 | .label _,s => some (.normal,s)
 | .region rid ops draw,s =>
  if draw then seqO (segsOf (cfg.cx f) rid) fun ns => seqO (asegs e cfg (cfg.cx f) rid ops.toList ns 0 ops.toList (preF (cfg.cx f) rid s)) fun s' => some (.normal,s')
  else seqO (aops e cfg (cfg.cx f) rid ops.toList 0 ops.toList s) fun s' => some (.normal,s')
 | .seq a b,s => seqO (acode e cfg f a s) fun r => thenC r fun s' => acode e cfg f b s'
 | .cond c x y,s => seqO (cond3 (s.val cfg c)) fun t => tri t (fun _ => acode e cfg f x s) (fun _ => acode e cfg f y s)
 | .block id c,s => seqO (acode e cfg f c s) fun r => some (inBlockC id r)
 | .loop c,s => seqO (ridOf c) fun k => seqO (e (.loop f k (atHead (cfg.cx f) k s))) fun out => match out with
  | .loop x s' => some (x,s')
  | _ => none
 | .exit id,s => some (.exit id,s)
 | .ret,s => some (.ret,s)
 | _,_ => none
def okRes : PV -> Bool
 | .alias _ | .eptr .. | .tup _ | .bag _ | .dead => false
 | _ => true
def ares (cfg : Cfg) (v : ResultVar) (s : St) : Option (PV × St) :=
 match v with
 | .tmp t => seqO (fetch cfg .take (.tmp t) s) fun p => if okRes p.1 then some p else none
 | .cell a t => aLoad cfg t .copy (s.ts.getD a .dead) s
def aress (cfg : Cfg) : List ResultVar -> St -> Option (List PV × St)
 | [],s => some ([],s)
 | v :: vs,s => seqO (ares cfg v s) fun p => seqO (aress cfg vs p.2) fun q => some (p.1 :: q.1,q.2)
def tupOf : List PV -> PV
 | [v] => v
 | vs => .tup vs
def outOf (r : PV) (s : St) : Out :=
 if r.noPtr && !s.kp then match s.lo with
  | none => .ret r none
  | some l => .ret r (some ⟨s.bx.take s.nb,l,false⟩)
 else .ret r (some ⟨s.bx,s.lo.getD s.nb,s.kp⟩)
open Classical in
noncomputable def bothO (x y : Option Out) : Option Out := seqO x fun p => seqO y fun q => if p = q then some p else none
def bagRes (cfg : Cfg) (rs : List ResultVar) (s : St) : Option (List PV × St) :=
 match rs with
 | [.cell a t] => match s.ts.getD a .dead with
  | .ptr l 0 => seqO (cfg.ti t) fun i => seqO s.bx[l]? fun b =>
    if (b.length = i.size /\ 1 < b.length) /\ i.kind.isAgg = true /\ b.all isCell = true then some (b,takeCells l 0 b s) else none
  | _ => none
 | _ => none
def bagOut : Out -> Out
 | .ret (.tup vs) e => .ret (.bag vs) e
 | o => o
def resO (bag : Bool) (cfg : Cfg) (fn : Func) (s : St) : Option Out :=
 match bag with
 | true => seqO (bagRes cfg fn.results.toList s) fun q => some (bagOut (outOf (.tup q.1) q.2))
 | false => seqO (aress cfg fn.results.toList s) fun q => some (outOf (tupOf q.1) q.2)
noncomputable def retX (bag : Bool) (cfg : Cfg) (fn : Func) : AExit -> St -> Option Out
 | .exit _,_ => none
 | .normal,s => resO bag cfg fn s
 | .ret,s => resO bag cfg fn s
 | .fork x1 s1 x2,s => bothO (retX bag cfg fn x1 s1) (retX bag cfg fn x2 s)
noncomputable def retOf (bag : Bool) (cfg : Cfg) (fn : Func) (r : AExit × St) : Option Out := retX bag cfg fn r.1 r.2
def startSt (fn : Func) (args : List PV) (bx : List Box) : St :=
 { ts := args ++ List.replicate (fn.ntmps - args.length) (.dat (.lit undef)),bx := bx,nb := bx.length,lo := none,kp := false }
noncomputable def stepJ (e : Job -> Option Out) (cfg : Cfg) : Job -> Option Out
 | .call f args bx => seqO (cfg.fn f) fun fn => seqO fn.body fun c => seqO (acode e cfg f c (startSt fn args bx)) fun r => retOf (cfg.cx f).bag cfg fn r
 | .loop f k s => seqO (loopCode cfg f k) fun c => seqO (acode e cfg f c s) fun r => match r.1 with
  | .normal => e (.loop f k (gc s.bx.length (atHead (cfg.cx f) k r.2)))
  | .fork .. => none
  | x => some (.loop x (gc s.bx.length (atExit (cfg.cx f) k r.2)))
noncomputable def evN (cfg : Cfg) : Nat -> Job -> Option Out
 | 0,_ => none
 | n + 1,j => stepJ (evN cfg n) cfg j
open Classical in
noncomputable def ev (cfg : Cfg) (j : Job) : Option Out :=
 if h : ∃ n r,evN cfg n j = some r then some h.choose_spec.choose else none
def Le (e e' : Job -> Option Out) : Prop := ∀ j r,e j = some r -> e' j = some r
def Mo {β : Type} (F : (Job -> Option Out) -> Option β) : Prop := ∀ e e',Le e e' -> ∀ r,F e = some r -> F e' = some r
theorem Mo.const {β : Type} (x : Option β) : Mo fun _ => x := fun _ _ _ _ h => h
theorem Mo.ask (j : Job) : Mo fun e => e j := fun _ _ h r hr => h j r hr
theorem Mo.seq {α β : Type} {F : (Job -> Option Out) -> Option α} {G : α -> (Job -> Option Out) -> Option β} (hF : Mo F) (hG : ∀ a,Mo (G a)) :
  Mo fun e => seqO (F e) fun a => G a e := by
 intro e e' h r hr
 obtain ⟨a,h1,h2⟩ := seqO_eq.1 hr
 exact seqO_eq.2 ⟨a,hF e e' h a h1,hG a e e' h r h2⟩
theorem Mo.ite {β : Type} (b : Bool) {F G : (Job -> Option Out) -> Option β} (hF : Mo F) (hG : Mo G) : Mo fun e => iteB b (fun _ => F e) (fun _ => G e) := by
 cases b
 ·exact hG
 ·exact hF
theorem Mo.tri (t : Option Bool) {F G : (Job -> Option Out) -> Option (AExit × St)} (hF : Mo F) (hG : Mo G) : Mo fun e => tri t (fun _ => F e) (fun _ => G e) := by
 cases t with
 | some b => exact Mo.ite b hF hG
 | none => exact Mo.seq hF fun p => Mo.seq hG fun q => Mo.const _
theorem Mo.thenX {k : St -> (Job -> Option Out) -> Option (AExit × St)} (hk : ∀ s,Mo (k s)) : ∀ (x : AExit) (s : St),Mo fun e => thenX (fun s => k s e) x s
 | .normal,s => hk s
 | .exit _,_ => Mo.const _
 | .ret,_ => Mo.const _
 | .fork x1 s1 x2,s => Mo.seq (Mo.thenX hk x1 s1) fun p => Mo.seq (Mo.thenX hk x2 s) fun q => Mo.const _
theorem le_segE (cx : Cx) (rid : Nat) {e e' : Job -> Option Out} (h : Le e e') : Le (segE cx rid e) (segE cx rid e') := by
 intro j r hr
 unfold segE at hr ⊢
 split at hr
 ·obtain ⟨a,h1,h2⟩ := seqO_eq.1 hr
  exact seqO_eq.2 ⟨a,h j a h1,h2⟩
 ·exact h j r hr
theorem Mo.segE {β : Type} (cx : Cx) (rid : Nat) {F : (Job -> Option Out) -> Option β} (hF : Mo F) : Mo fun e => F (segE cx rid e) := fun _ _ h r hr => hF _ _ (le_segE cx rid h) r hr
structure Chain (E : Nat -> Job -> Option Out) (e : Job -> Option Out) : Prop where
 mono : ∀ n m,n <= m -> Le (E n) (E m)
 sup : ∀ j r,e j = some r -> ∃ n,E n j = some r
theorem chain_segE (cx : Cx) (rid : Nat) {E : Nat -> Job -> Option Out} {e : Job -> Option Out} (h : Chain E e) : Chain (fun n => segE cx rid (E n)) (segE cx rid e) := by
 refine ⟨fun n m hnm => le_segE cx rid (h.mono n m hnm),fun j r hr => ?_⟩
 unfold segE at hr ⊢
 split at hr
 ·obtain ⟨a,h1,h2⟩ := seqO_eq.1 hr
  obtain ⟨n,hn⟩ := h.sup j a h1
  exact ⟨n,seqO_eq.2 ⟨a,hn,h2⟩⟩
 ·exact h.sup j r hr
def Ct (cfg : Cfg) {β : Type} (F : (Job -> Option Out) -> Option β) : Prop := Mo F /\ ∀ E e,Chain E e -> ∀ r,F e = some r -> ∃ n,F (E n) = some r
section
variable {cfg : Cfg}
theorem Ct.const {β : Type} (x : Option β) : Ct cfg fun _ => x := ⟨Mo.const x,fun _ _ _ _ h => ⟨0,h⟩⟩
theorem Ct.ask (j : Job) : Ct cfg fun e => e j := ⟨Mo.ask j,fun _ _ hE _ h => hE.sup j _ h⟩
theorem Ct.segE {β : Type} (cx : Cx) (rid : Nat) {F : (Job -> Option Out) -> Option β} (hF : Ct cfg F) : Ct cfg fun e => F (segE cx rid e) := ⟨Mo.segE cx rid hF.1,fun _ _ hE r hr => hF.2 _ _ (chain_segE cx rid hE) r hr⟩
theorem Ct.seq {α β : Type} {F : (Job -> Option Out) -> Option α} {G : α -> (Job -> Option Out) -> Option β} (hF : Ct cfg F) (hG : ∀ a,Ct cfg (G a)) :
  Ct cfg fun e => seqO (F e) fun a => G a e := by
 refine ⟨Mo.seq hF.1 fun a => (hG a).1,fun E e hE r hr => ?_⟩
 obtain ⟨a,h1,h2⟩ := seqO_eq.1 hr
 obtain ⟨n,hn⟩ := hF.2 E e hE a h1
 obtain ⟨m,hm⟩ := (hG a).2 E e hE r h2
 exact ⟨max n m,seqO_eq.2 ⟨a,hF.1 _ _ (hE.mono _ _ (Nat.le_max_left n m)) a hn,(hG a).1 _ _ (hE.mono _ _ (Nat.le_max_right n m)) r hm⟩⟩
theorem Ct.ite {β : Type} (b : Bool) {F G : (Job -> Option Out) -> Option β} (hF : Ct cfg F) (hG : Ct cfg G) : Ct cfg fun e => iteB b (fun _ => F e) (fun _ => G e) := by
 cases b
 ·exact hG
 ·exact hF
theorem Ct.tri (t : Option Bool) {F G : (Job -> Option Out) -> Option (AExit × St)} (hF : Ct cfg F) (hG : Ct cfg G) : Ct cfg fun e => tri t (fun _ => F e) (fun _ => G e) := by
 cases t with
 | some b => exact Ct.ite b hF hG
 | none => exact Ct.seq hF fun p => Ct.seq hG fun q => Ct.const _
theorem Ct.thenX {k : St -> (Job -> Option Out) -> Option (AExit × St)} (hk : ∀ s,Ct cfg (k s)) : ∀ (x : AExit) (s : St),Ct cfg fun e => thenX (fun s => k s e) x s
 | .normal,s => hk s
 | .exit _,_ => Ct.const _
 | .ret,_ => Ct.const _
 | .fork x1 s1 x2,s => Ct.seq (Ct.thenX hk x1 s1) fun p => Ct.seq (Ct.thenX hk x2 s) fun q => Ct.const _
theorem ct_delRows (g : FuncId) (cap : List Nat) (bx : List Box) : ∀ zs : List Int,Ct cfg fun e => delRows e g cap bx zs
 | [] => Ct.const _
 | z :: zs => by
  unfold delRows
  refine Ct.seq (Ct.ask _) fun out => ?_
  split
  ·exact Ct.seq (ct_delRows g cap bx zs) fun ys => Ct.const _
  ·exact Ct.const _
theorem ct_delSt (g : FuncId) (cap : List Nat) (t : Tmp) (s : St) (v : PV) : Ct cfg fun e => delSt e g cap t s v := by
 unfold delSt
 split
 ·refine Ct.seq (Ct.const _) fun zs => ?_
  split
  ·exact Ct.seq (ct_delRows _ _ _ zs) fun ys => Ct.const _
  ·exact Ct.const _
 ·exact Ct.const _
theorem ct_runDel (x f : Operand) (s : St) : Ct cfg fun e => runDel e cfg x f s := by
 unfold runDel
 split
 ·split
  ·exact Ct.const _
  ·split
   ·exact ct_delSt _ _ _ s _
   ·exact Ct.const _
  ·exact ct_delSt _ _ _ s _
  ·exact Ct.const _
 ·exact Ct.const _
theorem ct_aopX (pol : Option Pol) (o : Oper) (s : St) : Ct cfg fun e => aopX e cfg pol o s := by
 unfold aopX
 split
 ·split
  ·exact Ct.seq (ct_runDel _ _ s) fun p => Ct.const _
  ·exact Ct.const _
 split
 ·exact Ct.seq (Ct.const _) fun p => Ct.seq (Ct.ask _) fun out => Ct.const _
 ·exact Ct.const _
theorem ct_aopR (pol : Option Pol) (ops : List Oper) (o : Oper) (s : St) : Ct cfg fun e => aopR e cfg pol ops o s :=
 Ct.seq (Ct.const _) fun p => Ct.ite p.1 (ct_aopX pol o p.2.1) (Ct.const _)
theorem ct_aops (cx : Cx) (rid : Nat) (ops : List Oper) : ∀ (os : List Oper) (i : Nat) (s : St),Ct cfg fun e => aops e cfg cx rid ops i os s
 | [],_,_ => Ct.const _
 | o :: os,i,s => Ct.seq (ct_aopR _ ops o s) fun s' => ct_aops cx rid ops os (i + 1) s'
theorem ct_aopNX (o : Oper) (s : St) : Ct cfg fun e => aopNX e cfg o s := by
 unfold aopNX
 split
 ·exact Ct.const _
 split
 ·exact Ct.seq (Ct.const _) fun p => Ct.seq (Ct.ask _) fun out => Ct.const _
 ·exact Ct.const _
theorem ct_aopNR (ops : List Oper) (ds : List Nat) (o : Oper) (s : St) : Ct cfg fun e => aopNR e cfg ops ds o s := by
 unfold aopNR
 refine Ct.seq (Ct.const _) fun d => ?_
 exact Ct.seq (Ct.const _) fun p => Ct.ite p.1 (Ct.seq (ct_aopNX o p.2.1) fun v => Ct.const _) (Ct.const _)
theorem ct_anseg (ops : List Oper) (ds : List Nat) : ∀ (os : List Oper) (s : St),Ct cfg fun e => anseg e cfg ops ds os s
 | [],_ => Ct.const _
 | o :: os,s => by
  unfold anseg
  cases allocOf o with
  | some _ => exact Ct.seq (Ct.const _) fun d => ct_anseg ops ds os _
  | none => exact Ct.seq (ct_aopNR ops ds o s) fun s' => ct_anseg ops ds os s'
theorem ct_aopTC (t : Nat) (o : Oper) (s : St) : Ct cfg fun e => aopTC e cfg t o s := by
 unfold aopTC
 split
 ·exact Ct.const _
 split
 ·exact Ct.const _
 split
 ·split
  ·split
   ·split
    ·exact Ct.seq (Ct.ask _) fun out => Ct.const _
    ·exact Ct.const _
   ·exact Ct.const _
  ·exact Ct.const _
 ·exact Ct.const _
theorem ct_aopTX (t : Nat) (o : Oper) (s : St) : Ct cfg fun e => aopTX e cfg t o s := by
 unfold aopTX
 split
 ·exact ct_aopTC t o s
 ·exact Ct.const _
theorem ct_ateg (ops : List Oper) (ds : List Nat) (T : List (Nat × Nat)) : ∀ (os : List Oper) (i : Nat) (s : St),Ct cfg fun e => ateg e cfg ops ds T i os s
 | [],_,_ => Ct.const _
 | o :: os,i,s => by
  unfold ateg
  cases takeOf T i with
  | some t =>
   refine Ct.seq (Ct.const _) fun d => ?_
   split
   ·refine Ct.seq (ct_aopTX t o s) fun v => ?_
    split
    ·exact ct_ateg ops ds T os (i + 1) _
    ·exact Ct.const _
   ·exact Ct.const _
  | none =>
   simp only
   split
   ·exact Ct.const _
   ·exact Ct.seq (ct_aopNR ops ds o s) fun s' => ct_ateg ops ds T os (i + 1) s'
theorem ct_aopE (ds : List Nat) (o : Oper) (s : St) : Ct cfg fun e => aopE e cfg ds o s := by
 unfold aopE
 split
 ·exact Ct.const _
 split
 ·exact Ct.const _
 split
 ·exact Ct.const _
 exact Ct.seq (Ct.const _) fun d => Ct.seq (Ct.const _) fun c => Ct.seq (Ct.const _) fun j => Ct.seq (Ct.ask _) fun out => Ct.const _
theorem ct_amix (ops : List Oper) (ds E : List Nat) : ∀ (os : List Oper) (i : Nat) (s : St) (vs : List (List Box)) (ls : List Nat),Ct cfg fun e => amix e cfg ops ds E i os s vs ls
 | [],_,_,_,_ => Ct.const _
 | o :: os,i,s,vs,ls => by
  unfold amix
  split
  ·exact Ct.seq (ct_aopE ds o s) fun s' => ct_amix ops ds E os (i + 1) s' _ ls
  ·split
   ·exact Ct.seq (ct_aopNR ops ds o s) fun s' => ct_amix ops ds E os (i + 1) s' vs _
   ·exact Ct.const _
theorem ct_asegs (cx : Cx) (rid : Nat) (ops : List Oper) : ∀ (ns : List Nat) (i : Nat) (rest : List Oper) (s : St),Ct cfg fun e => asegs e cfg cx rid ops ns i rest s
 | [],_,rest,_ => by cases rest <;> exact Ct.const _
 | n :: ns,i,rest,s => by
  unfold asegs
  split
  ·cases rest with
   | nil => exact Ct.const _
   | cons o rest' => exact Ct.seq (ct_aopR _ ops o s) fun s' => ct_asegs cx rid ops ns (i + 1) rest' s'
  ·split
   ·split
    ·split
     ·exact Ct.seq (Ct.segE cx rid (ct_amix (cfg := segC cx rid cfg) ops _ _ _ _ s _ _)) fun s' => ct_asegs cx rid ops ns (i + n) _ s'
     ·exact Ct.const _
    ·split
     ·exact Ct.seq (ct_ateg ops _ _ _ _ s) fun s' => ct_asegs cx rid ops ns (i + n) _ s'
     exact Ct.seq (Ct.segE cx rid (ct_anseg (cfg := segC cx rid cfg) ops _ _ s)) fun s' => Ct.seq (Ct.const _) fun s' => ct_asegs cx rid ops ns (i + n) _ s'
   ·exact Ct.const _
theorem ct_acode (f : FuncId) : ∀ (c : Code) (s : St),Ct cfg fun e => acode e cfg f c s
 | .skip,_ => Ct.const _
 | .label _,_ => Ct.const _
 | .exit _,_ => Ct.const _
 | .ret,_ => Ct.const _
 | .refuse _,_ => Ct.const _
 | .goto _,_ => Ct.const _
 | .scope _,_ => Ct.const _
 | .rangeFunc ..,_ => Ct.const _
 | .region rid ops draw,s => by
  unfold acode
  split
  ·exact Ct.seq (Ct.const _) fun ns => Ct.seq (ct_asegs _ rid _ ns 0 _ _) fun _ => Ct.const _
  ·exact Ct.seq (ct_aops _ rid _ _ 0 s) fun _ => Ct.const _
 | .seq a b,s => Ct.seq (ct_acode f a s) fun r => Ct.thenX (fun s => ct_acode f b s) r.1 r.2
 | .cond c x y,s => Ct.seq (Ct.const _) fun b => Ct.tri b (ct_acode f x s) (ct_acode f y s)
 | .block id c,s => Ct.seq (ct_acode f c s) fun r => Ct.const _
 | .loop c,s => Ct.seq (Ct.const _) fun k => Ct.seq (Ct.ask _) fun out => Ct.const _
theorem ct_step : ∀ j : Job,Ct cfg fun e => stepJ e cfg j
 | .call f args bx => Ct.seq (Ct.const _) fun fn => Ct.seq (Ct.const _) fun c => Ct.seq (ct_acode f c _) fun r => Ct.const _
 | .loop f k s => Ct.seq (Ct.const _) fun c => Ct.seq (ct_acode f c s) fun r => by
  split
  ·exact Ct.ask _
  ·exact Ct.const _
  ·exact Ct.const _
end
theorem mo_step (cfg : Cfg) (j : Job) : Mo fun e => stepJ e cfg j := (ct_step (cfg := cfg) j).1
theorem evN_succ (cfg : Cfg) : ∀ n,Le (evN cfg n) (evN cfg (n + 1))
 | 0 => fun _ _ h => by cases h
 | n + 1 => fun j r h => mo_step cfg j _ _ (evN_succ cfg n) r h
theorem evN_le (cfg : Cfg) {n m : Nat} (h : n <= m) : Le (evN cfg n) (evN cfg m) := by
 induction h with
 | refl => exact fun _ _ h => h
 | step _ ih => exact fun j r h => evN_succ cfg _ j r (ih j r h)
theorem ev_of (cfg : Cfg) {n : Nat} {j : Job} {r : Out} (h : evN cfg n j = some r) : ev cfg j = some r := by
 unfold ev
 have hx : ∃ n r,evN cfg n j = some r := ⟨n,r,h⟩
 rw [dif_pos hx]
 have hs := hx.choose_spec.choose_spec
 rcases Nat.le_total n hx.choose with hl | hl
 ·exact hs.symm.trans (evN_le cfg hl j r h)
 ·exact (evN_le cfg hl j _ hs).symm.trans h
theorem of_ev (cfg : Cfg) {j : Job} {r : Out} (h : ev cfg j = some r) : ∃ n,evN cfg n j = some r := by
 unfold ev at h
 split at h
 ·rename_i hx
  obtain rfl := sij h
  exact ⟨_,hx.choose_spec.choose_spec⟩
 ·cases h
theorem chain_ev (cfg : Cfg) : Chain (evN cfg) (ev cfg) := ⟨fun _ _ h => evN_le cfg h,fun _ _ h => of_ev cfg h⟩
theorem ev_step (cfg : Cfg) {j : Job} {r : Out} (h : stepJ (ev cfg) cfg j = some r) : ev cfg j = some r := by
 obtain ⟨n,hn⟩ := (ct_step (cfg := cfg) j).2 _ _ (chain_ev cfg) r h
 exact ev_of cfg (n := n + 1) hn
end Go.Vx
