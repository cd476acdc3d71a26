/- What an argument that can be read says of numbers, terms, processes, blocks; what the laid tables say. No condition. Written by a program (mkfit.py). -/
import Derived.Test.YtifckjhggamefaaGreatDoorRows
import Derived.MakeChecks
import Derived.KernelRfl
import Derived.OpenShut
import Derived.Test.YtifckjhggamefaaGreatDoorVxOk
import Derived.Test.YtifckjhggamefaaGreatDoorCards
import Derived.Test.YtifckjhggamefaaGreatDoorTie
import Derived.ProofKit
import Derived.LaidMore
import Derived.Stop.Joined
import Derived.SevenTiedAt
import Derived.Test.YtifckjhggamefaaGreatDoorGp
import Derived.Laws.Strings
set_option linter.unusedSimpArgs false
set_option linter.unusedVariables false
set_option linter.unusedSectionVars false
namespace Go.Proofs.YtifckjhggamefaaGreatDoor
open Go Go.Vx Go.RowKit
set_option maxRecDepth 100000
structure FitQ (t : Nat) (ds : List D) : Prop where
 int : t = 3 -> ∃ n,ds = [dI n] /\ i64 n
 bool : t = 4 -> ∃ b : Bool,ds = [.lit (.bool b)]
 terms : t = 53 -> ∃ K,ds = [K] /\ ∃ rows bs,IsS 3 rows K /\ IsT.IsTs bs rows /\ bs.length < 9223372036854775808
 term : t = 55 -> ∃ b k n K,ds = [dI k,dI n,K] /\ IsT b k n K
 node : t = 66 -> ∃ x,IsNd x ds
 flow : t = 57 -> ∃ x,IsFl x ds
 nodes : t = 22 -> ∃ K,ds = [K] /\ ∃ rows xs,IsS 5 rows K /\ AreR IsNd xs rows /\ xs.length < 9223372036854775808
 flows : t = 23 -> ∃ K,ds = [K] /\ ∃ rows xs,IsS 6 rows K /\ AreR IsFl xs rows /\ xs.length < 9223372036854775808
 net : t = 25 -> ∃ n N F,ds = [N,F] /\ IsN n N F
theorem trms_of : ∀ {rows : List (List D)},(∀ r ∈ rows,∃ b k n K,r = [dI k,dI n,K] /\ IsT b k n K) -> ∃ bs,IsT.IsTs bs rows
 | [],_ => ⟨[],by rw [IsT.IsTs]⟩
 | r :: rows,h => by
  obtain ⟨b,k,n,K,rfl,h1⟩ := h r (mcs ..)
  obtain ⟨bs,h2⟩ := trms_of fun r hr => h r (mcm _ hr)
  exact ⟨b :: bs,by rw [IsT.IsTs]; exact ⟨k,n,K,rows,rfl,h1,h2⟩⟩
theorem are_of {α : Type} {p : α -> List D -> Prop} : ∀ {rows : List (List D)},(∀ r ∈ rows,∃ x,p x r) -> ∃ xs,AreR p xs rows
 | [],_ => ⟨[],rfl,fun i x hx => by simp at hx⟩
 | r :: rows,h => by
  obtain ⟨x,h1⟩ := h r (mcs ..)
  obtain ⟨xs,h2,h3⟩ := are_of fun r hr => h r (mcm _ hr)
  refine ⟨x :: xs,by simp [h2],fun i y hy => ?_⟩
  cases i with
  | zero =>
   obtain rfl : x = y := by simpa using hy
   exact ⟨r,rfl,h1⟩
  | succ i => exact h3 i y (by simpa using hy)
theorem maxLen_lt {n : Nat} (h : n <= maxLen) : n < 9223372036854775808 := by unfold maxLen at h; omega
theorem fit_q {t : TypeId} {ds : List D} (h : Fit tiT t ds) : FitQ t ds := by
 induction h with
 | @int t i k n h hk hw =>
  refine ⟨fun q => ?_,fun q => ?_,fun q => ?_,fun q => ?_,fun q => ?_,fun q => ?_,fun q => ?_,fun q => ?_,fun q => ?_⟩ <;> subst q
  all_goals try (cases h; cases hk; done)
  ·obtain rfl := sij ((show tiT 3 = some _ from rfl).symm.trans h)
   cases hk
   refine ⟨n,rfl,?_⟩
   simp only [Lit.wf,Bool.and_eq_true,dqE] at hw
   exact hw
 | @bool t i b h hk =>
  refine ⟨fun q => ?_,fun q => ?_,fun q => ?_,fun q => ?_,fun q => ?_,fun q => ?_,fun q => ?_,fun q => ?_,fun q => ?_⟩ <;> subst q
  all_goals try (cases h; cases hk; done)
  ·obtain rfl := sij ((show tiT 4 = some _ from rfl).symm.trans h)
   exact ⟨b,rfl⟩
 | @str t i s h hk hw =>
  refine ⟨fun q => ?_,fun q => ?_,fun q => ?_,fun q => ?_,fun q => ?_,fun q => ?_,fun q => ?_,fun q => ?_,fun q => ?_⟩ <;> subst q
  all_goals try (cases h; cases hk; done)
 | @nil t e i h hk =>
  refine ⟨fun q => ?_,fun q => ?_,fun q => ?_,fun q => ?_,fun q => ?_,fun q => ?_,fun q => ?_,fun q => ?_,fun q => ?_⟩ <;> subst q
  all_goals try (cases h; cases hk; done)
  ·exact ⟨.nil,rfl,[],[],isS_nil 3,by rw [IsT.IsTs],by simp⟩
  ·exact ⟨.nil,rfl,[],[],isS_nil 5,⟨rfl,fun i x hx => by simp at hx⟩,by simp⟩
  ·exact ⟨.nil,rfl,[],[],isS_nil 6,⟨rfl,fun i x hx => by simp at hx⟩,by simp⟩
 | @sl t e i j rows h hk hj hl hr ih =>
  refine ⟨fun q => ?_,fun q => ?_,fun q => ?_,fun q => ?_,fun q => ?_,fun q => ?_,fun q => ?_,fun q => ?_,fun q => ?_⟩ <;> subst q
  all_goals try (cases h; cases hk; done)
  ·obtain rfl := sij ((show tiT 53 = some _ from rfl).symm.trans h)
   cases hk
   obtain rfl := sij ((show tiT 55 = some _ from rfl).symm.trans hj)
   obtain ⟨bs,h1⟩ := trms_of fun r hr => (ih r hr).term rfl
   exact ⟨_,rfl,rows,bs,isS_sl 3 rows,h1,by rw [<- isTs_len h1]; exact maxLen_lt hl⟩
  ·obtain rfl := sij ((show tiT 22 = some _ from rfl).symm.trans h)
   cases hk
   obtain rfl := sij ((show tiT 66 = some _ from rfl).symm.trans hj)
   obtain ⟨xs,h1⟩ := are_of fun r hr => (ih r hr).node rfl
   exact ⟨_,rfl,rows,xs,isS_sl 5 rows,h1,by rw [<- h1.1]; exact maxLen_lt hl⟩
  ·obtain rfl := sij ((show tiT 23 = some _ from rfl).symm.trans h)
   cases hk
   obtain rfl := sij ((show tiT 57 = some _ from rfl).symm.trans hj)
   obtain ⟨xs,h1⟩ := are_of fun r hr => (ih r hr).flow rfl
   exact ⟨_,rfl,rows,xs,isS_sl 6 rows,h1,by rw [<- h1.1]; exact maxLen_lt hl⟩
 | @struct t i fs ds h hk hl hf ih =>
  refine ⟨fun q => ?_,fun q => ?_,fun q => ?_,fun q => ?_,fun q => ?_,fun q => ?_,fun q => ?_,fun q => ?_,fun q => ?_⟩ <;> subst q
  all_goals try (cases h; cases hk; done)
  ·obtain rfl := sij ((show tiT 55 = some _ from rfl).symm.trans h)
   cases hk
   match ds,hl with
   | [d0,d1,d2],_ =>
    obtain ⟨n0,e0,w0⟩ := (ih (0,3) (by simp) _ rfl).int rfl
    obtain ⟨n1,e1,w1⟩ := (ih (1,3) (by simp) _ rfl).int rfl
    obtain ⟨K,e3,rows,bs,hK,hbs,hlen⟩ := (ih (2,53) (by simp) _ rfl).terms rfl
    simp at e0 e1 e3
    subst e0; subst e1; subst e3
    exact ⟨.mk n0 n1 bs,n0,n1,_,rfl,by rw [IsT]; exact ⟨rfl,rfl,w0,w1,rows,hK,hbs,hlen⟩⟩
  ·obtain rfl := sij ((show tiT 66 = some _ from rfl).symm.trans h)
   cases hk
   match ds,hl with
   | [d0,d1,d2,d3,d4],_ =>
    obtain ⟨n0,e0,w0⟩ := (ih (0,3) (by simp) _ rfl).int rfl
    obtain ⟨n1,e1,w1⟩ := (ih (1,3) (by simp) _ rfl).int rfl
    obtain ⟨b,op,m,K,e2,hT⟩ := (ih (2,55) (by simp) _ rfl).term rfl
    simp at e0 e1 e2
    obtain ⟨rfl,rfl,rfl⟩ := e2
    subst e0; subst e1
    exact ⟨⟨n0,n1,b⟩,w0,w1,op,m,_,rfl,hT⟩
  ·obtain rfl := sij ((show tiT 57 = some _ from rfl).symm.trans h)
   cases hk
   match ds,hl with
   | [d0,d1,d2,d3,d4,d5],_ =>
    obtain ⟨n0,e0,w0⟩ := (ih (0,3) (by simp) _ rfl).int rfl
    obtain ⟨n1,e1,w1⟩ := (ih (1,3) (by simp) _ rfl).int rfl
    obtain ⟨v,e3⟩ := (ih (2,4) (by simp) _ rfl).bool rfl
    obtain ⟨b,op,m,K,e2,hT⟩ := (ih (3,55) (by simp) _ rfl).term rfl
    simp at e0 e1 e2 e3
    obtain ⟨rfl,rfl,rfl⟩ := e2
    subst e0; subst e1; subst e3
    exact ⟨⟨n0,n1,v,b⟩,w0,w1,op,m,_,rfl,hT⟩
  ·obtain rfl := sij ((show tiT 25 = some _ from rfl).symm.trans h)
   cases hk
   match ds,hl with
   | [d0,d1],_ =>
    obtain ⟨N,e0,nr,ns,hN,hnr,hn⟩ := (ih (0,22) (by simp) _ rfl).nodes rfl
    obtain ⟨F,e1,fr,fs,hF,hfr,hf⟩ := (ih (1,23) (by simp) _ rfl).flows rfl
    simp at e0 e1
    subst e0; subst e1
    exact ⟨⟨ns,fs⟩,_,_,rfl,nr,fr,hN,hnr,hn,hF,hfr,hf⟩
def fitT : List TypeId := [3,4,53,55,66,57,22,23,25]
theorem fitT_ok : closedTi tiT fitT = true := by decide
theorem lit_bytes {s : ByteArray} {l : List UInt8} (h : s.data.toList = l) : s = ⟨l.toArray⟩ := by
 cases s with
 | mk a => cases a; simp at h; subst h; rfl
theorem g_words : Tryz.prog.globalNamed "treenail/term.words" = some 1 := by kernel_rfl
theorem t_words : (Tryz.prog.globals[1]?).map (·.type) = some 198 := by kernel_rfl
def cells_words : List Value := (.string ⟨#[]⟩) :: (.int .i64 0) :: (.int .i64 0) :: (.int .i64 0) :: (.string ⟨#[]⟩) :: (.int .i64 0) :: (.int .i64 0) :: (.int .i64 0) :: (.string ⟨#[]⟩) :: (.int .i64 0) :: (.int .i64 0) :: (.int .i64 0) :: (.string ⟨#[110,101,103]⟩) :: (.int .i64 1) :: (.int .i64 1) :: (.int .i64 1) :: (.string ⟨#[110,111,116]⟩) :: (.int .i64 1) :: (.int .i64 2) :: (.int .i64 2) :: (.string ⟨#[97,100,100]⟩) :: (.int .i64 2) :: (.int .i64 1) :: (.int .i64 1) :: (.string ⟨#[115,117,98]⟩) :: (.int .i64 2) :: (.int .i64 1) :: (.int .i64 1) :: (.string ⟨#[109,117,108]⟩) :: (.int .i64 2) :: (.int .i64 1) :: (.int .i64 1) :: (.string ⟨#[100,105,118]⟩) :: (.int .i64 2) :: (.int .i64 1) :: (.int .i64 1) :: (.string ⟨#[109,111,100]⟩) :: (.int .i64 2) :: (.int .i64 1) :: (.int .i64 1) :: (.string ⟨#[101,113]⟩) :: (.int .i64 2) :: (.int .i64 1) :: (.int .i64 2) :: (.string ⟨#[108,116]⟩) :: (.int .i64 2) :: (.int .i64 1) :: (.int .i64 2) :: (.string ⟨#[108,101]⟩) :: (.int .i64 2) :: (.int .i64 1) :: (.int .i64 2) :: (.string ⟨#[97,110,100]⟩) :: (.int .i64 2) :: (.int .i64 2) :: (.int .i64 2) :: (.string ⟨#[111,114]⟩) :: (.int .i64 2) :: (.int .i64 2) :: (.int .i64 2) :: []
theorem word_row {H : Type} {enc : TypeId × Value -> H} {w : World} {base : Nat} {spare : Nat -> Bool} {held : Bool} {fuel : Nat} {cs : List Value} {l : List UInt8} {a b c : Int} {m : List MemPlace}
  (h : DataW.trod enc Tryz.prog w base spare held fuel 197 cs = some (.agg [.lit (.string l),.lit (.int .i64 a),.lit (.int .i64 b),.lit (.int .i64 c)],m)) :
  cs = [.string ⟨l.toArray⟩,.int .i64 a,.int .i64 b,.int .i64 c] := by
 obtain ⟨xs,n,rfl,hx,hlen,hn,hel⟩ := DataW.trod_struct Tryz.underlying197 h
 have cW : Tryz.prog.cellsOf 197 = 4 := by kernel_rfl
 have c9 : Tryz.prog.cellsOf 9 = 1 := by kernel_rfl
 have c3 : Tryz.prog.cellsOf 3 = 1 := by kernel_rfl
 rw [cW] at hlen
 have hx' : xs.map (·.1) = [.lit (.string l),.lit (.int .i64 a),.lit (.int .i64 b),.lit (.int .i64 c)] := by
  have := congrArg Prod.fst hx
  exact (DataW.agg.inj this).symm
 match cs,hlen with
 | [v0,v1,v2,v3],_ =>
  match xs,hx' with
  | [x0,x1,x2,x3],hx' =>
   simp only [List.map_cons,List.map_nil,List.cons.injEq,and_true] at hx'
   obtain ⟨e0,e1,e2,e3⟩ := hx'
   have h0 : DataW.trod enc Tryz.prog w base spare held n 9 (([v0,v1,v2,v3].drop 0).take (Tryz.prog.cellsOf 9)) = some x0 := hel 0 _ rfl
   rw [c9] at h0
   have h1 : DataW.trod enc Tryz.prog w base spare held n 3 (([v0,v1,v2,v3].drop 1).take (Tryz.prog.cellsOf 3)) = some x1 := hel 1 _ rfl
   rw [c3] at h1
   have h2 : DataW.trod enc Tryz.prog w base spare held n 3 (([v0,v1,v2,v3].drop 2).take (Tryz.prog.cellsOf 3)) = some x2 := hel 2 _ rfl
   rw [c3] at h2
   have h3 : DataW.trod enc Tryz.prog w base spare held n 3 (([v0,v1,v2,v3].drop 3).take (Tryz.prog.cellsOf 3)) = some x3 := hel 3 _ rfl
   rw [c3] at h3
   obtain ⟨s,f0,g0,_⟩ := DataW.trod_string Tryz.underlying9 h0
   obtain ⟨n1,f1,g1,_⟩ := DataW.trod_int Tryz.underlying3 h1
   obtain ⟨n2,f2,g2,_⟩ := DataW.trod_int Tryz.underlying3 h2
   obtain ⟨n3,f3,g3,_⟩ := DataW.trod_int Tryz.underlying3 h3
   subst g0; subst g1; subst g2; subst g3
   simp only [DataW.lit.injEq,Lit.string.injEq,Lit.int.injEq,true_and] at e0 e1 e2 e3
   subst e1; subst e2; subst e3
   obtain rfl := lit_bytes e0
   simp at f0 f1 f2 f3
   rw [f0,f1,f2,f3]
theorem met_words {W : World} {g0 : Nat} {t0 : TypeId} {cs0 : Array Value} {f0 : Nat} {p0 : List MemPlace} (hg0 : Tryz.prog.globalNamed "treenail/term.words" = some g0) (ht0 : (Tryz.prog.globals[g0]?).map (·.type) = some t0)
  (hv0 : W.var? Tryz.prog "treenail/term.words" = some cs0) (hd0 : DataW.trod (fun _ => ()) Tryz.prog W 0 (fun _ => true) false f0 t0 cs0.toList = some (Rows.laid_treenail_term_words, p0)) : ∀ (j : Nat) v, cells_words[j]? = some v -> W.cell? ⟨1, j, none⟩ = some v := by
 obtain rfl := sij (g_words.symm.trans hg0)
 obtain rfl := sij (t_words.symm.trans ht0)
 obtain ⟨xs,m1,rfl,hx1,hlen,hn,hel⟩ := DataW.trod_array Tryz.underlying198 hd0
 have hx : xs.map (·.1) = [.agg [.lit (.string []),.lit (.int .i64 0),.lit (.int .i64 0),.lit (.int .i64 0)],.agg [.lit (.string []),.lit (.int .i64 0),.lit (.int .i64 0),.lit (.int .i64 0)],.agg [.lit (.string []),.lit (.int .i64 0),.lit (.int .i64 0),.lit (.int .i64 0)],.agg [.lit (.string [110,101,103]),.lit (.int .i64 1),.lit (.int .i64 1),.lit (.int .i64 1)],.agg [.lit (.string [110,111,116]),.lit (.int .i64 1),.lit (.int .i64 2),.lit (.int .i64 2)],.agg [.lit (.string [97,100,100]),.lit (.int .i64 2),.lit (.int .i64 1),.lit (.int .i64 1)],.agg [.lit (.string [115,117,98]),.lit (.int .i64 2),.lit (.int .i64 1),.lit (.int .i64 1)],.agg [.lit (.string [109,117,108]),.lit (.int .i64 2),.lit (.int .i64 1),.lit (.int .i64 1)],.agg [.lit (.string [100,105,118]),.lit (.int .i64 2),.lit (.int .i64 1),.lit (.int .i64 1)],.agg [.lit (.string [109,111,100]),.lit (.int .i64 2),.lit (.int .i64 1),.lit (.int .i64 1)],.agg [.lit (.string [101,113]),.lit (.int .i64 2),.lit (.int .i64 1),.lit (.int .i64 2)],.agg [.lit (.string [108,116]),.lit (.int .i64 2),.lit (.int .i64 1),.lit (.int .i64 2)],.agg [.lit (.string [108,101]),.lit (.int .i64 2),.lit (.int .i64 1),.lit (.int .i64 2)],.agg [.lit (.string [97,110,100]),.lit (.int .i64 2),.lit (.int .i64 2),.lit (.int .i64 2)],.agg [.lit (.string [111,114]),.lit (.int .i64 2),.lit (.int .i64 2),.lit (.int .i64 2)]] := by
  have := congrArg Prod.fst hx1
  exact (DataW.agg.inj this).symm
 have cW : Tryz.prog.cellsOf 197 = 4 := by kernel_rfl
 have hrow : ∀ (r : Nat) (l : List UInt8) (a b c : Int),r < 15 -> (xs.map (·.1))[r]? = some (.agg [.lit (.string l),.lit (.int .i64 a),.lit (.int .i64 b),.lit (.int .i64 c)]) →
   W.cell? ⟨1,r * 4,none⟩ = some (.string ⟨l.toArray⟩) /\ W.cell? ⟨1,r * 4 + 1,none⟩ = some (.int .i64 a) /\ W.cell? ⟨1,r * 4 + 2,none⟩ = some (.int .i64 b) /\ W.cell? ⟨1,r * 4 + 3,none⟩ = some (.int .i64 c) := by
  intro r l a b c hr hl
  have h1 := hel r hr
  rw [cW] at h1
  rw [List.getElem?_map] at hl
  cases hxj : xs[r]? with
  | none => rw [hxj] at hl; cases hl
  | some y =>
   rw [hxj] at h1 hl
   obtain ⟨y1,y2⟩ := y
   simp only [Option.map_some,sjE] at hl
   subst hl
   have hw := word_row h1
   have hc : ∀ (k : Nat) (v : Value),k < 4 -> ([.string ⟨l.toArray⟩,.int .i64 a,.int .i64 b,.int .i64 c] : List Value)[k]? = some v -> W.cell? ⟨1,r * 4 + k,none⟩ = some v := by
    intro k v hk hv
    rw [<- hw,List.getElem?_take_of_lt hk,List.getElem?_drop] at hv
    have := World.var?_cell hg0 hv0 (r * 4 + k)
    rw [Array.getElem?_toList] at hv
    rw [this,hv]
   exact ⟨hc 0 _ (by omega) rfl,hc 1 _ (by omega) rfl,hc 2 _ (by omega) rfl,hc 3 _ (by omega) rfl⟩
 rw [hx] at hrow
 have w0 := hrow 0 [] 0 0 0 (by omega) rfl
 have w1 := hrow 1 [] 0 0 0 (by omega) rfl
 have w2 := hrow 2 [] 0 0 0 (by omega) rfl
 have w3 := hrow 3 [110,101,103] 1 1 1 (by omega) rfl
 have w4 := hrow 4 [110,111,116] 1 2 2 (by omega) rfl
 have w5 := hrow 5 [97,100,100] 2 1 1 (by omega) rfl
 have w6 := hrow 6 [115,117,98] 2 1 1 (by omega) rfl
 have w7 := hrow 7 [109,117,108] 2 1 1 (by omega) rfl
 have w8 := hrow 8 [100,105,118] 2 1 1 (by omega) rfl
 have w9 := hrow 9 [109,111,100] 2 1 1 (by omega) rfl
 have w10 := hrow 10 [101,113] 2 1 2 (by omega) rfl
 have w11 := hrow 11 [108,116] 2 1 2 (by omega) rfl
 have w12 := hrow 12 [108,101] 2 1 2 (by omega) rfl
 have w13 := hrow 13 [97,110,100] 2 2 2 (by omega) rfl
 have w14 := hrow 14 [111,114] 2 2 2 (by omega) rfl
 clear hrow hel hx hx1
 intro j v hv
 match j with
 | 0 => obtain rfl := sij hv; exact w0.1
 | 1 => obtain rfl := sij hv; exact w0.2.1
 | 2 => obtain rfl := sij hv; exact w0.2.2.1
 | 3 => obtain rfl := sij hv; exact w0.2.2.2
 | 4 => obtain rfl := sij hv; exact w1.1
 | 5 => obtain rfl := sij hv; exact w1.2.1
 | 6 => obtain rfl := sij hv; exact w1.2.2.1
 | 7 => obtain rfl := sij hv; exact w1.2.2.2
 | 8 => obtain rfl := sij hv; exact w2.1
 | 9 => obtain rfl := sij hv; exact w2.2.1
 | 10 => obtain rfl := sij hv; exact w2.2.2.1
 | 11 => obtain rfl := sij hv; exact w2.2.2.2
 | 12 => obtain rfl := sij hv; exact w3.1
 | 13 => obtain rfl := sij hv; exact w3.2.1
 | 14 => obtain rfl := sij hv; exact w3.2.2.1
 | 15 => obtain rfl := sij hv; exact w3.2.2.2
 | 16 => obtain rfl := sij hv; exact w4.1
 | 17 => obtain rfl := sij hv; exact w4.2.1
 | 18 => obtain rfl := sij hv; exact w4.2.2.1
 | 19 => obtain rfl := sij hv; exact w4.2.2.2
 | 20 => obtain rfl := sij hv; exact w5.1
 | 21 => obtain rfl := sij hv; exact w5.2.1
 | 22 => obtain rfl := sij hv; exact w5.2.2.1
 | 23 => obtain rfl := sij hv; exact w5.2.2.2
 | 24 => obtain rfl := sij hv; exact w6.1
 | 25 => obtain rfl := sij hv; exact w6.2.1
 | 26 => obtain rfl := sij hv; exact w6.2.2.1
 | 27 => obtain rfl := sij hv; exact w6.2.2.2
 | 28 => obtain rfl := sij hv; exact w7.1
 | 29 => obtain rfl := sij hv; exact w7.2.1
 | 30 => obtain rfl := sij hv; exact w7.2.2.1
 | 31 => obtain rfl := sij hv; exact w7.2.2.2
 | 32 => obtain rfl := sij hv; exact w8.1
 | 33 => obtain rfl := sij hv; exact w8.2.1
 | 34 => obtain rfl := sij hv; exact w8.2.2.1
 | 35 => obtain rfl := sij hv; exact w8.2.2.2
 | 36 => obtain rfl := sij hv; exact w9.1
 | 37 => obtain rfl := sij hv; exact w9.2.1
 | 38 => obtain rfl := sij hv; exact w9.2.2.1
 | 39 => obtain rfl := sij hv; exact w9.2.2.2
 | 40 => obtain rfl := sij hv; exact w10.1
 | 41 => obtain rfl := sij hv; exact w10.2.1
 | 42 => obtain rfl := sij hv; exact w10.2.2.1
 | 43 => obtain rfl := sij hv; exact w10.2.2.2
 | 44 => obtain rfl := sij hv; exact w11.1
 | 45 => obtain rfl := sij hv; exact w11.2.1
 | 46 => obtain rfl := sij hv; exact w11.2.2.1
 | 47 => obtain rfl := sij hv; exact w11.2.2.2
 | 48 => obtain rfl := sij hv; exact w12.1
 | 49 => obtain rfl := sij hv; exact w12.2.1
 | 50 => obtain rfl := sij hv; exact w12.2.2.1
 | 51 => obtain rfl := sij hv; exact w12.2.2.2
 | 52 => obtain rfl := sij hv; exact w13.1
 | 53 => obtain rfl := sij hv; exact w13.2.1
 | 54 => obtain rfl := sij hv; exact w13.2.2.1
 | 55 => obtain rfl := sij hv; exact w13.2.2.2
 | 56 => obtain rfl := sij hv; exact w14.1
 | 57 => obtain rfl := sij hv; exact w14.2.1
 | 58 => obtain rfl := sij hv; exact w14.2.2.1
 | 59 => obtain rfl := sij hv; exact w14.2.2.2
 | k + 60 => simp [cells_words] at hv
theorem g_names : Tryz.prog.globalNamed "treenail/block.names" = some 0 := by kernel_rfl
theorem t_names : (Tryz.prog.globals[0]?).map (·.type) = some 132 := by kernel_rfl
def cells_names : List Value := (.string ⟨#[]⟩) :: (.string ⟨#[]⟩) :: (.string ⟨#[]⟩) :: (.string ⟨#[115,101,113]⟩) :: (.string ⟨#[112,97,114]⟩) :: (.string ⟨#[97,108,116]⟩) :: (.string ⟨#[112,105,99,107]⟩) :: (.string ⟨#[108,111,111,112]⟩) :: (.string ⟨#[]⟩) :: (.string ⟨#[119,101,98]⟩) :: (.string ⟨#[]⟩) :: []
theorem met_names {W : World} {g0 : Nat} {t0 : TypeId} {cs0 : Array Value} {f0 : Nat} {p0 : List MemPlace} (hg0 : Tryz.prog.globalNamed "treenail/block.names" = some g0) (ht0 : (Tryz.prog.globals[g0]?).map (·.type) = some t0)
  (hv0 : W.var? Tryz.prog "treenail/block.names" = some cs0) (hd0 : DataW.trod (fun _ => ()) Tryz.prog W 0 (fun _ => true) false f0 t0 cs0.toList = some (Rows.laid_treenail_block_names, p0)) : ∀ (j : Nat) v, cells_names[j]? = some v -> W.cell? ⟨0, j, none⟩ = some v := by
 obtain rfl := sij (g_names.symm.trans hg0)
 obtain rfl := sij (t_names.symm.trans ht0)
 obtain ⟨xs,m1,rfl,hx1,hlen,hn,hel⟩ := DataW.trod_array Tryz.underlying132 hd0
 have hx : xs.map (·.1) = [.lit (.string []),.lit (.string []),.lit (.string []),.lit (.string [115,101,113]),.lit (.string [112,97,114]),.lit (.string [97,108,116]),.lit (.string [112,105,99,107]),.lit (.string [108,111,111,112]),.lit (.string []),.lit (.string [119,101,98]),.lit (.string [])] := by
  have := congrArg Prod.fst hx1
  exact (DataW.agg.inj this).symm
 have c9 : Tryz.prog.cellsOf 9 = 1 := by kernel_rfl
 have hcell : ∀ (j : Nat) (l : List UInt8),j < 11 -> (xs.map (·.1))[j]? = some (.lit (.string l)) -> W.cell? ⟨0,j,none⟩ = some (.string ⟨l.toArray⟩) := by
  intro j l hj hl
  have h1 := hel j hj
  rw [c9,Nat.mul_one] at h1
  rw [List.getElem?_map] at hl
  cases hxj : xs[j]? with
  | none => rw [hxj] at hl; cases hl
  | some y =>
   rw [hxj] at h1 hl
   obtain ⟨s,e1,e2,_⟩ := DataW.trod_string Tryz.underlying9 h1
   subst e2
   simp only [Option.map_some,sjE,DataW.lit.injEq,Lit.string.injEq] at hl
   obtain rfl := lit_bytes hl
   have hv := World.var?_cell hg0 hv0 j
   have hcj : cs0.toList[j]? = some (.string ⟨l.toArray⟩) := by
    have : ((cs0.toList.drop j).take 1)[0]? = some (.string ⟨l.toArray⟩) := by rw [e1]; rfl
    rwa [List.getElem?_take_of_lt (by omega),List.getElem?_drop,Nat.add_zero] at this
   rw [Array.getElem?_toList] at hcj
   rw [hv,hcj]
 rw [hx] at hcell
 intro j v hv
 match j with
 | 0 => obtain rfl := sij hv; exact hcell 0 [] (by omega) rfl
 | 1 => obtain rfl := sij hv; exact hcell 1 [] (by omega) rfl
 | 2 => obtain rfl := sij hv; exact hcell 2 [] (by omega) rfl
 | 3 => obtain rfl := sij hv; exact hcell 3 [115,101,113] (by omega) rfl
 | 4 => obtain rfl := sij hv; exact hcell 4 [112,97,114] (by omega) rfl
 | 5 => obtain rfl := sij hv; exact hcell 5 [97,108,116] (by omega) rfl
 | 6 => obtain rfl := sij hv; exact hcell 6 [112,105,99,107] (by omega) rfl
 | 7 => obtain rfl := sij hv; exact hcell 7 [108,111,111,112] (by omega) rfl
 | 8 => obtain rfl := sij hv; exact hcell 8 [] (by omega) rfl
 | 9 => obtain rfl := sij hv; exact hcell 9 [119,101,98] (by omega) rfl
 | 10 => obtain rfl := sij hv; exact hcell 10 [] (by omega) rfl
 | k + 11 => simp [cells_names] at hv
theorem one_glob {W : World} {gl : Nat} {ds : List D} {vs : List Value} (hd : ds = vs.map .lit) (h1 : ∀ v ∈ vs,v.oneCell' = true) (h : ∀ (j : Nat) v,vs[j]? = some v -> W.cell? ⟨gl,j,none⟩ = some v) :
  ∃ us : Nat -> Value,∀ j d,ds[j]? = some d -> memOf W ⟨gl,j,none⟩ = some (us j) /\ RelD (memOf W) d (us j) := by
 subst hd
 refine ⟨fun j => (W.cell? ⟨gl,j,none⟩).getD undef,fun j d hd => ?_⟩
 rw [List.getElem?_map] at hd
 cases hv : vs[j]? with
 | none => rw [hv] at hd; cases hd
 | some v =>
  rw [hv] at hd
  obtain rfl := sij hd
  have e := h j v hv
  simp only [memOf,e,Option.getD_some]
  exact ⟨trivial,.lit _ (h1 v (mog hv))⟩
abbrev laidNames : List (String × DataW Unit) := [("treenail/term.words", Rows.laid_treenail_term_words), ("treenail/block.names", Rows.laid_treenail_block_names)]
theorem glob_ok {W : World} (h : laidMetH Tryz.prog laidNames W) : GlobOk cfg (gh0 cfg W) := by
 rw [MakeChecks.laidMetH_plain _ _ _ (by kernel_rfl)] at h
 obtain ⟨ps,⟨g0,t0,cs0,f0,p0,q0,hg0,ht0,hv0,hd0,⟨g1,t1,cs1,f1,p1,q1,hg1,ht1,hv1,hd1,_,_⟩,_⟩,_,_⟩ := h
 have m_words := met_words hg0 ht0 hv0 hd0
 have m_names := met_names hg1 ht1 hv1 hd1
 refine ⟨fun gl cs hgl => ?_,rfl⟩
 change glT gl = some cs at hgl
 unfold glT at hgl
 split at hgl
 ·exact one_glob (vs := cells_names) (sij hgl).symm (by decide) m_names
 ·exact one_glob (vs := cells_words) (sij hgl).symm (by decide) m_words
 ·cases hgl
open Go.ChangeShapes Go.WideShapes Go.ChangeAt Go.WideElems Go.RowKit
theorem own : ownKnob Tryz.prog.godebug = none := by kernel_rfl
theorem laidOut : laidOutB Tryz.prog = true := by kernel_rfl
theorem door_met (os : Os) (args : Array Value) : laidMetH Tryz.prog laidNames ((World.doorLaid Tryz.prog 400 os).forCall (fun _ _ => 0) ⟨#[],args,[]⟩).memory :=
 laidMetH_of_parts3 (fuel := 8) (laidMet_of_run' 8 (by kernel_rfl) (by kernel_rfl)) (by kernel_rfl) (by kernel_rfl)
section
variable {H : Type} {enc : TypeId × Value -> H} {P : Program}
theorem post_below {f : Func} {s : ChangeSpec} {apart fresh handsOn again : Bool} {W W' : World} {args : Array Value} {v : Value} {ds gs : List (DataW H)} {before pa pv : List MemPlace}
  (hW : DataW.Whole enc P f.params.toList s.vars apart W args.toList ds gs before)
  (hres : ∀ (b : Nat) (sp : Nat -> Bool) (hd : Bool),DataW.TrodAll enc P W' b sp hd f.resultTypes.toList (v.resultList f.resultTypes.size) (s.fn H (ds ++ gs)).results [])
  (hargs : ∀ sp : Nat -> Bool,(∀ p ∈ before,sp p.block = true) -> DataW.TrodAll enc P W' 0 sp true f.params.toList args.toList (s.fn H (ds ++ gs)).args pa)
  (hvars : ∀ sp : Nat -> Bool,(∀ p ∈ before,sp p.block = true) -> DataW.TrodVars enc P W' sp s.vars (s.fn H (ds ++ gs)).vars pv)
  (hps : before = pa ++ pv) (hb : Below W.heap.size W W')
  (hok : ∀ (j : Nat) (t : TypeId) (r : Value),f.resultTypes[j]? = some t -> (v.resultList f.resultTypes.size)[j]? = some r -> Value.okWide P W' .any 0 t r) :
  s.post enc P f apart fresh handsOn again W args v W' := by
 have hlt : ∀ p ∈ before,p.block < W.heap.size := fun p hp => hW.lt p hp
 have hold : ∀ p ∈ before,(fun b => decide (b < W.heap.size)) p.block = true := fun p hp => by simpa using hlt p hp
 refine ⟨ds,gs,before,[],pa,pv,hW,hres _ _ _,hargs _ hold,hvars _ hold,World.keptBut_mono (fun p hp => ⟨hp,?_⟩) (hb.frame (· ∈ before)),fun _ => ?_⟩
 ·rw [hps,List.mem_append] at hp
  exact Or.inr hp
 ·obtain ⟨_,_,_,_,_,hz,hn⟩ := hW
  refine ⟨hok,_,_,([] ++ pa) ++ pv,⟨[] ++ pa,pv,trodAll_append (hargs _ (fun _ _ => rfl)) (hres _ _ _),hvars _ (fun _ _ => rfl),rfl,?_,?_⟩,?_⟩
  ·intro b off hp
   have hin : MemPlace.cell b off ∈ before := by rw [hps]; simpa using hp
   rw [hb.frozen (hlt _ hin)]
   exact hz b off hin
  ·intro ha
   have := hn ha
   rw [hps] at this
   simpa using this
  ·intro p hp _
   rw [hps]
   simpa using hp
end
set_option maxHeartbeats 1000000
def lkEq (x y : Int × Int × Int) : Bool := x.1 == y.1 && (x.2.1 == y.2.1 && x.2.2 == y.2.2)
def lksEq : List (Int × Int × Int) -> List (Int × Int × Int) -> Bool
 | [],[] => true
 | x :: xs,y :: ys => lkEq x y && lksEq xs ys
 | _,_ => false
def sameB : Blk -> Blk -> Bool
 | .mk k n a ks ls,b => match b with
  | .mk k2 n2 a2 ks2 ls2 => k == k2 && n == n2 && a == a2 && lksEq ls ls2 && go ks ks2
where
 go : List Blk -> List Blk -> Bool
 | [],bs => bs.isEmpty
 | b :: bs,cs => match cs with
  | [] => false
  | c :: cs => sameB b c && go bs cs
theorem lksEq_len : ∀ {xs ys : List (Int × Int × Int)},xs.length ≠ ys.length -> lksEq xs ys = false
 | [],[],h => absurd rfl h
 | [],_ :: _,_ => rfl
 | _ :: _,[],_ => rfl
 | x :: xs,y :: ys,h => by rw [lksEq,lksEq_len (by simpa using h),Bool.and_false]
theorem go_len : ∀ {xs ys : List Blk},xs.length ≠ ys.length -> sameB.go xs ys = false
 | [],[],h => absurd rfl h
 | [],_ :: _,_ => by rw [sameB.go]; rfl
 | _ :: _,[],_ => by rw [sameB.go]
 | x :: xs,y :: ys,h => by rw [sameB.go]; (try simp only); rw [go_len (by simpa using h),Bool.and_false]
theorem lksEq_refl : ∀ xs,lksEq xs xs = true
 | [] => rfl
 | x :: xs => by rw [lksEq,lksEq_refl xs,lkEq]; simp
theorem sameB_refl : ∀ b,sameB b b = true
 | .mk k n a ks ls => by rw [sameB]; (try simp only); rw [lksEq_refl,go ks]; simp
where
 go : ∀ bs,sameB.go bs bs = true
 | [] => by rw [sameB.go]; rfl
 | b :: bs => by rw [sameB.go]; (try simp only); rw [sameB_refl b,go bs]; rfl
theorem bne_len {m n : Nat} (h : ¬ m = n) : ((m : Int) != (n : Int)) = true := by
 simp only [bne_iff_ne,ne_eq]
 omega
theorem bne_len' {m n : Nat} (h : m = n) : ((m : Int) != (n : Int)) = false := by
 subst h; simp
theorem lks_loop : ∀ (xs ys : List (Int × Int × Int)) {lr lr2 : List (List D)} {L L2 : D} {i : Nat} {bx : List Box},IsS 3 lr L -> IsS 3 lr2 L2 -> lr.drop i = xs.map lnkD -> lr2.drop i = ys.map lnkD -> xs.length = ys.length -> lr.length < 9223372036854775808 →
  ev cfg (.loop 51 4 (q0 bx (sh51_4 (.dat L) (.dat L2) (I lr.length) (I i)))) = some (if lksEq xs ys = true then .loop (.exit 0) (q0 bx (se51_4 .dead)) else .loop .ret (q0 bx (se51_4 (B false))))
 | [],[],lr,lr2,L,L2,i,bx,hL,hL2,hr,hr2,hlen,hmax => by
  rw [lksEq,if_pos rfl]
  exact es (e41 (drop_nil hr))
 | x :: xs,y :: ys,lr,lr2,L,L2,i,bx,hL,hL2,hr,hr2,hlen,hmax => by
  rw [List.map_cons] at hr hr2
  obtain ⟨hget,hr',hlt⟩ := drop_cons hr
  obtain ⟨hget2,hr2',_⟩ := drop_cons hr2
  have h1 := r41 (bx := bx) (x := lkEq x y) hL hL2 hget hget2 hlt hmax rfl
  have ih := lks_loop xs ys (i := i + 1) (bx := bx) hL hL2 hr' hr2' (by simpa using hlen) hmax
  rw [lksEq]
  cases hx : lkEq x y
  ·rw [hx,if_neg (by simp)] at h1
   rw [Bool.false_and,if_neg (by simp)]
   exact es h1
  ·rw [hx,if_pos rfl] at h1
   rw [Bool.true_and]
   exact es (h1.trans ih)
 | [],_ :: _,_,_,_,_,_,_,_,_,_,_,hlen,_ => by cases hlen
 | _ :: _,[],_,_,_,_,_,_,_,_,_,_,hlen,_ => by cases hlen
theorem lks_ev {xs ys : List (Int × Int × Int)} {L L2 : D} (hL : IsS 3 (xs.map lnkD) L) (hL2 : IsS 3 (ys.map lnkD) L2) (hmax : xs.length < 9223372036854775808) (bx : List Box) : ev cfg (.call 51 (Nb L L2) bx) = Rq (B (lksEq xs ys)) := by
 by_cases h : xs.length = ys.length
 ·exact es (f41 hL hL2 (bne_len' (by simpa using h)) (lks_loop xs ys (i := 0) hL hL2 rfl rfl h (by simpa using hmax)))
 ·rw [lksEq_len h]
  exact es (f41_len hL hL2 (bne_len (by simpa using h)))
theorem same_ev : ∀ (b c : Blk) {k n a k2 n2 a2 : Int} {K L K2 L2 : D},IsB b k n a K L -> IsB c k2 n2 a2 K2 L2 -> Cq 23 [Wq k n a K L,Wq k2 n2 a2 K2 L2] (B (sameB b c))
 | .mk _ _ _ ks ls,c,k,n,a,k2,n2,a2,K,L,K2,L2,h,h2,bx => by
  cases c with
  | mk _ _ _ ks2 ls2 =>
  rw [IsB] at h h2
  obtain ⟨rfl,rfl,rfl,_,_,_,rows,hK,hks,hmax,hL,hlm,_⟩ := h
  obtain ⟨rfl,rfl,rfl,_,_,_,rows2,hK2,hks2,hmax2,hL2,hlm2,_⟩ := h2
  have h42 : Cq 52 [.dat K,.dat K2,.clo 23 []] (B (sameB.go ks ks2)) := by
   intro bx
   by_cases hlen : ks.length = ks2.length
   ·exact es (f42 hK hK2 (bne_len' (by rw [isBs_len hks,isBs_len hks2]; exact hlen)) (loop ks ks2 (i := 0) hK hK2 rfl rfl hks hks2 hlen (by rw [isBs_len hks]; exact hmax)))
   ·rw [go_len hlen]
    exact es (f42_len hK hK2 (bne_len (by rw [isBs_len hks,isBs_len hks2]; exact hlen)))
  rw [sameB]
  exact es (f17 hK hL hK2 hL2 (lks_ev hL hL2 hlm) h42)
where
 loop : ∀ (bs cs : List Blk) {rows rows2 rs rs2 : List (List D)} {K K2 : D} {i : Nat} {bx : List Box},IsS 5 rows K -> IsS 5 rows2 K2 -> rows.drop i = rs -> rows2.drop i = rs2 -> IsB.IsBs bs rs -> IsB.IsBs cs rs2 -> bs.length = cs.length -> rows.length < 9223372036854775808 →
  ev cfg (.loop 52 4 (q0 bx (sh52_4 (.dat K2) (.clo 23 []) (.dat K) (I rows.length) (I i)))) = some (if sameB.go bs cs = true then .loop (.exit 0) (q0 bx (se52_4 .dead)) else .loop .ret (q0 bx (se52_4 (B false))))
 | [],cs,rows,rows2,rs,rs2,K,K2,i,bx,hK,hK2,hr,hr2,hbs,hcs,hlen,hmax => by
  cases cs with
  | cons => cases hlen
  | nil =>
   rw [IsB.IsBs] at hbs
   subst hbs
   rw [sameB.go,List.isEmpty_nil,if_pos rfl]
   exact es (e42 (drop_nil hr))
 | b :: bs,cs,rows,rows2,rs,rs2,K,K2,i,bx,hK,hK2,hr,hr2,hbs,hcs,hlen,hmax => by
  cases cs with
  | nil => cases hlen
  | cons c cs =>
   rw [IsB.IsBs] at hbs hcs
   obtain ⟨k,n,a,K',L',rest,rfl,hB,hrest⟩ := hbs
   obtain ⟨k2,n2,a2,K2',L2',rest2,rfl,hB2,hrest2⟩ := hcs
   obtain ⟨hget,hr',hlt⟩ := drop_cons hr
   obtain ⟨hget2,hr2',_⟩ := drop_cons hr2
   have h1 := r42 (bx := bx) (x := sameB b c) hK hK2 hget hget2 hlt hmax (isB_one hB).1 (isB_one hB).2 (isB_one hB2).1 (isB_one hB2).2 (same_ev b c hB hB2)
   have ih := loop bs cs (i := i + 1) (bx := bx) hK hK2 hr' hr2' hrest hrest2 (by simpa using hlen) hmax
   rw [sameB.go]
   try simp only
   cases hx : sameB b c
   ·rw [hx,if_neg (by simp)] at h1
    rw [Bool.false_and,if_neg (by simp)]
    exact es h1
   ·rw [hx,if_pos rfl] at h1
    rw [Bool.true_and]
    exact es (h1.trans ih)
def plR (rule : Int) (ks : List Nat) : List (List D) := ks.map fun (k : Nat) => [dI rule,dI ((k : Nat) : Int)]
theorem plR_app (r : Int) (xs ys : List Nat) : plR r (xs ++ ys) = plR r xs ++ plR r ys := by simp [plR]
theorem plR_len (r : Int) (xs : List Nat) : (plR r xs).length = xs.length := by simp [plR]
theorem places_ev {g : FuncId} {cap : List Nat} (rule : Int) {m : Nat} {bx : List Box} (w : Nat -> Bool) (hcap : (cap.all fun l => decide (l < bx.length)) = true) (hm : m <= 1000000)
  (hcall : ∀ i,i < m -> ev cfg (.call g (I i :: cap.map fun l => .ptr l 0) bx) = Rq (B (w i))) :
  ev cfg (.call 107 [I rule,I m,.clo g cap] bx) = Rq (mkS 2 (plR rule ((List.range m).filter w))) := by
 have loop : ∀ (j i : Nat) (acc : List Nat),i + j = m -> acc.length <= i -> ev cfg (.loop 107 3 (q0 bx (sh107_3 (I rule) (.clo g cap) (mkS 2 (plR rule acc)) (I m) (I i)))) =
   some (.loop (.exit 0) (q0 bx (se107_3 (mkS 2 (plR rule (acc ++ (List.range' i j).filter w)))))) := by
  intro j
  induction j with
  | zero =>
   intro i acc hi ha
   rw [List.range'_zero,List.filter_nil,List.append_nil]
   exact es (places_end hcap (by omega))
  | succ j ih =>
   intro i acc hi ha
   have hc1 := hcall i (by omega)
   have e : acc ++ (List.range' i (j + 1)).filter w = (if w i = true then acc ++ [i] else acc) ++ (List.range' (i + 1) j).filter w := by
    rw [List.range'_succ,List.filter_cons]
    split <;> simp
   rw [e]
   have hacc : (if w i = true then acc ++ [i] else acc).length <= i + 1 := by split <;> (try simp) <;> omega
   refine es (Eq.trans ?_ (ih (i + 1) (if w i = true then acc ++ [i] else acc) (by omega) hacc))
   have hks : ((plR rule acc).length + 1) * 16 <= 140737488355328 := by rw [plR_len]; omega
   cases acc with
   | nil =>
    refine (places_round0 hcap (by omega) (by omega) hc1).trans ?_
    cases w i <;> rfl
   | cons a acc =>
    refine (places_round1 (rs := plR rule (a :: acc)) hcap (by omega) (by omega) hks hc1).trans ?_
    cases w i
    ·rfl
    ·simp only [if_true,plR_app]; rfl
 refine es (places_f hcap ?_)
 have := loop m 0 [] (by omega) (Nat.le_refl _)
 rw [List.nil_append,<- List.range_eq_range'] at this
 exact this
theorem outs_lt {n : Nt} {i : Int} {o : Nat} (h : o ∈ outsN n i) : o < n.flows.length := by
 obtain ⟨_,x,h1,_⟩ := (mem_idxs _ _ _ _).1 h
 exact (gsi.1 h1).1
theorem kind_at {n : Nt} {p : Nat} (h : p < n.nodes.length) : kindN n p = n.nodes[p].k := by
 rw [kindN,if_neg (by omega)]
 simp [h]
theorem to_at {n : Nt} {p : Nat} (h : p < n.flows.length) : toN n p = n.flows[p].to := by simp [toN,h]
theorem els_at {n : Nt} {p : Nat} (h : p < n.flows.length) : elsN n p = n.flows[p].els := by simp [elsN,h]
def Ends (n : Nt) : Prop := ∀ f ∈ n.flows,(0 <= f.fr /\ f.fr < n.nodes.length) /\ 0 <= f.to /\ f.to < n.nodes.length
theorem beq_nat (m k : Nat) : ((m : Int) == (k : Int)) = (m == k) := by rw [Bool.eq_iff_iff,beq_iff_eq,beq_iff_eq]; omega
theorem linked_ev {n : Nt} {N F : D} (h : IsN n N F) (hsz : n.flows.length <= 1000000) (hE : Ends n) {p : Nat} (hp : p < n.nodes.length) (bx : List Box) :
  ev cfg (.call 137 [Nq N F,I p] bx) = Rq (B (linkedN n p)) := by
 have hO := fun bx : List Box => outs_ev h hsz p bx
 have hI := fun bx : List Box => ins_ev h hsz p bx
 have hol : (outsN n p).length <= 1000000 := Nat.le_trans (idxs_len _ _ _) hsz
 obtain ⟨o1,o2⟩ := isN_one h
 obtain ⟨nr,fr,hN,hnr,_,hF,hfr,_⟩ := h
 obtain ⟨row,hrow,_,_,op2,m2,K2,rfl,hT2⟩ := hnr.get hp
 have hX := mkD_is 1 (natR (outsN n p))
 have hXl : (natR (outsN n p)).length = (outsN n p).length := natR_len _
 have loop : ∀ (ins kd : Int) (os : List Nat) (i el : Nat) (cat : Bool),(outsN n p).drop i = os -> el <= i →
   ev cfg (.loop 137 6 (qs bx (sh137_6 (P0 bx) (.dat (mkD 1 (natR (outsN n p)))) (I ins) (I kd) (I el) (B cat) (.dat (mkD 1 (natR (outsN n p)))) (I (natR (outsN n p)).length) (I i)) [Nb N F])) =
   some (.loop (.exit 0) (qs bx (se137_6 (.dat (mkD 1 (natR (outsN n p)))) (I ins) (I kd) (I ((el + (os.filter (elsN n)).length : Nat) : Int)) (B (cat && os.all fun f => kindN n (toN n f) == 8))) [Nb N F])) := by
  intro ins kd os
  induction os with
  | nil =>
   intro i el cat hd _
   rw [List.filter_nil,List.length_nil,Nat.add_zero,List.all_nil,Bool.and_true]
   exact es (link_end o1 o2 (mkD_one _ _) (by rw [hXl]; exact drop_nil hd))
  | cons o os ih =>
   intro i el cat hd hel
   obtain ⟨hget,hd',hlt⟩ := drop_cons hd
   have hol2 : o < n.flows.length := outs_lt (mog hget)
   obtain ⟨row,hfrow,_,_,op,m,K,rfl,hT⟩ := hfr.get hol2
   have hends := hE n.flows[o] (List.getElem_mem hol2)
   obtain ⟨q,hq⟩ : ∃ q : Nat,n.flows[o].to = q := ⟨n.flows[o].to.toNat,by omega⟩
   have hql : q < n.nodes.length := by omega
   obtain ⟨row,hnrow,_,_,op3,m3,K3,rfl,hT3⟩ := hnr.get hql
   rw [hq] at hfrow
   have hXget : (natR (outsN n p))[i]? = some [dI (o : Int)] := by simp [natR,hget]
   have hr := link_round (bx := bx) (el := (el : Int)) (ins := ins) (kd := kd) (cat := cat) hN hF hX hXget hfrow hnrow (by rw [hXl]; exact hlt) (by rw [hXl]; omega) (wrap_lo (by omega) (by omega))
   have hk8 : (kindN n (toN n o) == 8) = (n.nodes[q].k == 8) := by rw [to_at hol2,hq,kind_at hql]
   have hel' : (if n.flows[o].els = true then (el : Int) + 1 else el) = ((if elsN n o = true then el + 1 else el : Nat) : Int) := by
    rw [els_at hol2]; split <;> simp
   rw [hel',<- hk8] at hr
   have e1 : el + ((o :: os).filter (elsN n)).length = (if elsN n o = true then el + 1 else el) + (os.filter (elsN n)).length := by
    rw [List.filter_cons]; split <;> simp <;> omega
   rw [e1,List.all_cons,<- Bool.and_assoc]
   exact es (hr.trans (ih (i + 1) (if elsN n o = true then el + 1 else el) (cat && kindN n (toN n o) == 8) hd' (by split <;> omega)))
 have hl := fun kd : Int => loop (natR (insN n p)).length kd (outsN n p) 0 0 true rfl (Nat.le_refl _)
 have hk : kindN n p = n.nodes[p].k := kind_at hp
 have hY := mkD_is 1 (natR (insN n p))
 have hYl : (natR (insN n p)).length = (insN n p).length := natR_len _
 have g0 : ∀ m : Nat,((m : Int) == 0) = (m == 0) := fun m => beq_nat m 0
 have g1 : ∀ m : Nat,((m : Int) == 1) = (m == 1) := fun m => beq_nat m 1
 have gg : ∀ m : Nat,decide ((m : Int) > 1) = decide (1 < m) := fun m => decide_eq_decide.2 (by omega)
 rw [linkedN]
 simp only [hk]
 generalize n.nodes[p].k = k at hrow
 have hl0 := hl k
 simp only [Nat.zero_add,Bool.true_and] at hl0
 by_cases k1 : k = 1
 ·subst k1
  rw [if_pos rfl,es (link_1 hN o2 hX hY hrow hO hI hl0),hXl,hYl,g0,g1]
 rw [if_neg k1]
 by_cases k2 : k = 2
 ·subst k2
  rw [if_pos rfl,es (link_2 hN o2 hX hY hrow hO hI hl0),hXl,hYl,g0,g1]
 rw [if_neg k2]
 by_cases k7 : k = 7
 ·subst k7
  rw [if_pos rfl,es (link_7 hN o2 hX hY hrow hO hI hl0),hXl,hYl,gg,g1]
 rw [if_neg k7]
 by_cases k5 : k = 5
 ·subst k5
  rw [if_pos rfl,es (link_5 hN o2 hX hY hrow hO hI hl0),hXl,hYl,gg,gg,g1,g1,g1,<- Bool.and_assoc]
 rw [if_neg k5]
 by_cases k6 : k = 6
 ·subst k6
  rw [if_pos rfl,es (link_6 hN o2 hX hY hrow hO hI hl0),hXl,hYl,gg,gg,g1,g1]
 rw [if_neg k6,es (link_o (by simpa using k1) (by simpa using k2) (by simpa using k7) (by simpa using k5) (by simpa using k6) hN o2 hX hY hrow hO hI hl0),hXl,hYl,g1,g1]
def thirdW (n : Nt) (i : Nat) : Bool := !linkedN n i || ((kindN n i == 1 && (i : Int) != startN n) || (kindN n i == 2 && (i : Int) != endN n))
theorem third_ev {n : Nt} {N F : D} (h : IsN n N F) (hsz : n.flows.length <= 1000000) (hsz2 : n.nodes.length <= 1000000) (hE : Ends n) (bx : List Box) :
  ev cfg (.call 112 [Nq N F] bx) = Rq (mkS 2 (plR 3 ((List.range n.nodes.length).filter (thirdW n)) ++ if (decide (startN n < 0) || decide (endN n < 0)) = true then [[dI 3,dI n.nodes.length]] else [])) := by
 have hs := fun bx : List Box => start_ev h bx
 have hz := fun bx : List Box => end_ev h bx
 have hl := fun (p : Nat) (hp : p < n.nodes.length) (bx : List Box) => linked_ev h hsz hE hp bx
 obtain ⟨o1,o2⟩ := isN_one h
 obtain ⟨nr,fr,hN,hnr,_,hF,hfr,_⟩ := h
 have hlen : nr.length = n.nodes.length := hnr.1
 have hpl := places_ev (g := 136) (cap := [bx.length,bx.length + 1,bx.length + 2]) 3 (m := n.nodes.length) (bx := bx ++ [Nb N F,[I (startN n)],[I (endN n)]]) (thirdW n) (by simp) hsz2 fun p hp => by
  obtain ⟨row,hrow,_,_,op2,m2,K2,rfl,hT2⟩ := hnr.get hp
  have := third1_f (bx := bx ++ [Nb N F,[I (startN n)],[I (endN n)]]) (l1 := bx.length) (l2 := bx.length + 1) (l3 := bx.length + 2) (s := startN n) (z := endN n) hN o2 hrow (by simp) (by simp) (by simp) (by simp) (by simp) (by simp) (hl p hp _)
  refine es (this.trans ?_)
  rw [thirdW,kind_at hp]
 rw [<- hlen] at hpl ⊢
 cases hf : (List.range nr.length).filter (thirdW n) with
 | nil =>
  rw [hf] at hpl
  rw [es (third_f0 hN o2 hs hz hpl)]
  congr 2
  split <;> rfl
 | cons a l =>
  rw [hf] at hpl
  have hks : ((plR 3 (a :: l)).length + 1) * 16 <= 140737488355328 := by
   rw [plR_len,<- hf]
   have := List.length_filter_le (thirdW n) (List.range nr.length)
   rw [List.length_range] at this
   omega
  rw [es (third_f1 hks hN o2 hs hz hpl)]
  congr 2
  split
  ·rfl
  ·rw [List.append_nil]; rfl
theorem boolR_get {bs : List Bool} {i : Nat} {b : Bool} (h : bs[i]? = some b) : (boolR bs)[i]? = some [.lit (.bool b)] := by simp [boolR,h]
theorem boolR_set (bs : List Bool) (i : Nat) (b : Bool) : (boolR bs).set i [.lit (.bool b)] = boolR (bs.set i b) := by simp [boolR,List.map_set]
theorem boolR_rep (m : Nat) : List.replicate m [D.lit (.bool false)] = boolR (List.replicate m false) := by simp [boolR]
theorem intR_app (xs ys : List Int) : intR (xs ++ ys) = intR xs ++ intR ys := by simp [intR]
theorem intR_len (xs : List Int) : (intR xs).length = xs.length := by simp [intR]
theorem met_ev {n : Nt} {N F : D} (h : IsN n N F) (hfl : n.flows.length <= 1000) (hnd : n.nodes.length <= 1000) (hE : Ends n) (back : Bool) {a : Int} (ha : 0 <= a /\ a < n.nodes.length) :
  ∃ seen : List Bool,seen.length = n.nodes.length /\ (∀ i : Nat,seen[i]? = some true ↔ Rch (EdgeB n back) a i) /\ Cq 113 [Nq N F,I a,B back] (.dat (.sl 1 (boolR seen))) := by
 obtain ⟨o1,o2⟩ := isN_one h
 obtain ⟨nr,fr,hN,hnr,_,hF,hfr,_⟩ := h
 have hlen : nr.length = n.nodes.length := hnr.1
 have hflen : fr.length = n.flows.length := hfr.1
 have inner : ∀ (bx : List Box) (sr : List (List D)) (q : Nat) (fs : List Fl) (i : Nat) (todo : List Int),n.flows.drop i = fs -> todo.length + fs.length <= 10000000 →
   ev cfg (.loop 113 9 (qs bx (sh113_9 (B back) (P0 bx) (.own true 1 sr) (.own true 1 (intR todo)) (I q) (.dat F) (I fr.length) (I i)) [Nb N F])) =
   some (.loop (.exit 2) (qs bx (se113_9 (B back) (P0 bx) (.own true 1 sr) (.own true 1 (intR (todo ++ fs.filterMap (nextF back q))))) [Nb N F])) := by
  intro bx sr q fs
  have hc : (Nb N F : Box).all (cellLt (bx.length + 1)) = true := by simp [cellLt]
  induction fs with
  | nil =>
   intro i todo hd _
   rw [List.filterMap_nil,List.append_nil]
   exact es (met_ine o2 hc (by rw [hflen]; exact drop_nil hd))
  | cons f fs ih =>
   intro i todo hd hsz
   obtain ⟨hget,hd',hlt⟩ := drop_cons hd
   obtain ⟨row,hrow,_,_,op,m,K,rfl,hT⟩ := hfr.2 i f hget
   have hr := met_in (bx := bx) (c := (Nb N F)) (q := q) (back := back) (sr := sr) (tr := intR todo) hF hc hrow (isT_one hT) (by rw [hflen]; exact hlt) (by rw [hflen]; omega) (by rw [intR_len]; simp at hsz; omega)
   have e1 : (if back = true then (if (f.to == (q : Int)) = true then intR todo ++ [[dI f.fr]] else intR todo) else if (f.fr == (q : Int)) = true then intR todo ++ [[dI f.to]] else intR todo) = intR (todo ++ (nextF back q f).toList) := by
    simp only [nextF,beq_iff_eq]
    split <;> split <;> simp [intR_app,intR]
   have e2 : todo ++ (f :: fs).filterMap (nextF back q) = (todo ++ (nextF back q f).toList) ++ fs.filterMap (nextF back q) := by
    rw [List.filterMap_cons]
    cases nextF back q f <;> simp
   rw [e1] at hr
   rw [e2]
   refine es (hr.trans (ih (i + 1) _ hd' ?_))
   have : (nextF back q f).toList.length <= 1 := by cases nextF back q f <;> simp
   simp at hsz ⊢
   omega
 have outer : ∀ (m : Nat) (todo : List Int) (seen : List Bool),MetInv n back a todo seen -> unseen seen * (n.flows.length + 1) + todo.length <= m -> m <= 5000000 →
   ∃ fin : List Bool,fin.length = n.nodes.length /\ (∀ i : Nat,fin[i]? = some true ↔ Rch (EdgeB n back) a i) /\ ∀ bx : List Box,
    ev cfg (.loop 113 3 (qs bx (sh113_3 (B back) (P0 bx) (.own true 1 (boolR seen)) (.own true 1 (intR todo))) [Nb N F])) =
    some (.loop (.exit 0) (qs bx (se113_3 (.own true 1 (boolR fin))) [Nb N F])) := by
  intro m
  induction m with
  | zero =>
   intro todo seen hi hm _
   have : todo = [] := List.length_eq_zero_iff.1 (by omega)
   subst this
   exact ⟨seen,hi.len,hi.done hE ha.1,fun bx => es (met_end o1 o2)⟩
  | succ m ih =>
   intro todo seen hi hm hle
   cases todo with
   | nil => exact ⟨seen,hi.len,hi.done hE ha.1,fun bx => es (met_end o1 o2)⟩
   | cons t todo =>
    have ht := hi.rng t mcs
    obtain ⟨q,rfl⟩ : ∃ q : Nat,t = q := ⟨t.toNat,by omega⟩
    have hq : q < seen.length := by rw [hi.len]; omega
    have hqq : ((q : Int)).toNat = q := by omega
    cases hs : seen[q] with
    | true =>
     have hs' : seen[q]? = some true := by rw [gge hq,hs]
     obtain ⟨fin,w1,w2,w3⟩ := ih todo seen (hi.skip (by rw [hqq]; exact hs')) (by simp at hm; omega) (by omega)
     exact ⟨fin,w1,w2,fun bx => es ((met_skip (tr := intR todo) o1 o2 (boolR_get hs')).trans (w3 bx))⟩
    | false =>
     have hs' : seen[q]? = some false := by rw [gge hq,hs]
     have hv := hi.visit hE
     rw [hqq] at hv
     have hu := unseen_set _ _ hs'
     have hnx : (n.flows.filterMap (nextF back q)).length <= n.flows.length := List.length_filterMap_le _ _
     have hmul : unseen seen * (n.flows.length + 1) = unseen (seen.set q true) * (n.flows.length + 1) + (n.flows.length + 1) := by rw [<- hu,Nat.add_mul,Nat.one_mul]
     obtain ⟨fin,w1,w2,w3⟩ := ih _ _ hv (by simp at hm ⊢; omega) (by omega)
     refine ⟨fin,w1,w2,fun bx => es ((met_visit (tr := intR todo) (fin := intR (todo ++ n.flows.filterMap (nextF back q))) o1 hF (boolR_get hs') ?_).trans ?_)⟩
     ·exact inner bx _ q n.flows 0 todo rfl (by simp at hm; omega)
     ·rw [boolR_set]; exact w3 bx
 have hinit : MetInv n back a [a] (List.replicate n.nodes.length false) := by
  refine ⟨by simp,fun t ht => by rw [List.mem_singleton] at ht; subst ht; exact ha,fun i hi => ?_,fun t ht => by rw [List.mem_singleton] at ht; subst ht; exact .refl,fun i hi => ?_,.inl (List.mem_singleton.2 rfl)⟩
  ·rw [List.getElem?_replicate] at hi; split at hi <;> simp at hi
  ·rw [List.getElem?_replicate] at hi; split at hi <;> simp at hi
 have hu := unseen_le (List.replicate n.nodes.length false)
 rw [List.length_replicate] at hu
 have hmul : unseen (List.replicate n.nodes.length false) * (n.flows.length + 1) <= 1000 * 1001 := Nat.mul_le_mul (by omega) (by omega)
 obtain ⟨fin,w1,w2,w3⟩ := outer 2000000 [a] _ hinit (by simp; omega) (by omega)
 refine ⟨fin,w1,w2,fun bx => es (met_f hN o2 (by omega) ?_)⟩
 rw [hlen,boolR_rep]
 exact w3 bx
def OkN (n : Nt) : Prop := n.nodes.length <= 24 /\ n.flows.length <= 40 /\ (∀ x ∈ n.nodes,rightN ofT x = true) /\ (∀ f ∈ n.flows,leadsN ofT n f = true) /\ (∀ i,i < n.nodes.length -> thirdW n i = false) /\ 0 <= startN n /\ 0 <= endN n ∧
 ∀ i : Nat,i < n.nodes.length -> Rch (EdgeB n false) (startN n) i /\ Rch (EdgeB n true) (endN n) i
theorem leads_ends {n : Nt} (h : ∀ f ∈ n.flows,leadsN ofT n f = true) : Ends n := fun f hf => by
 have := h f hf
 simp only [leadsN,inN,Bool.and_eq_true,dqE] at this
 omega
theorem filter_cons_iff {w : Nat -> Bool} {m : Nat} : (List.range m).filter w = [] ↔ ∀ i,i < m -> w i = false := by
 simp [List.filter_eq_nil_iff]
theorem plR_cons {r : Int} {ks : List Nat} (h : ks ≠ []) : ∃ q rs,plR r ks = [dI r,dI q] :: rs := by
 cases ks with
 | nil => exact absurd rfl h
 | cons k ks => exact ⟨k,plR r ks,rfl⟩
theorem ncheck_ev {n : Nt} {N F : D} (h : IsN n N F) (hfl : n.flows.length <= 1000) (hnd : n.nodes.length <= 1000) (hz : ∀ t ∈ termsN n,sizeT t <= 1000000) :
  ∃ r q : Int,(r = 0 ↔ OkN n) /\ Cq 33 [Nq N F] (.tup [I r,I q]) := by
 obtain ⟨o1,o2⟩ := isN_one h
 have h0 := h
 obtain ⟨nr,fr,hN,hnr,_,hF,hfr,_⟩ := h
 have hlen : nr.length = n.nodes.length := hnr.1
 have hflen : fr.length = n.flows.length := hfr.1
 have done : ∀ (r q : Int) (rs : List (List D)),(r = 0 ↔ OkN n) -> (Cq 68 [Nq N F] (.own true 2 ([dI r,dI q] :: rs))) →
   ∃ r q : Int,(r = 0 ↔ OkN n) /\ Cq 33 [Nq N F] (.tup [I r,I q]) :=
  fun r q rs h1 h2 => ⟨r,q,h1,fun bx => es (check_1 o1 o2 h2)⟩
 by_cases hb : (decide ((nr.length : Int) > 24) || decide ((fr.length : Int) > 40)) = true
 ·refine done 1 0 [] ⟨fun e => (by cases e),fun e => ?_⟩ fun bx => es (all_big hN hF hb)
  simp only [Bool.or_eq_true,dqE] at hb
  obtain ⟨e1,e2,_⟩ := e
  omega
 have hb' := hb
 simp only [Bool.not_eq_true,Bool.or_eq_false_iff] at hb'
 obtain ⟨c1,c2⟩ := hb'
 have hn24 : n.nodes.length <= 24 /\ n.flows.length <= 40 := by
  simp only [decide_eq_false_iff_not] at c1 c2; omega
 have hpl1 := fun bx : List Box => places_ev (g := 108) (cap := [bx.length]) 1 (m := n.nodes.length) (bx := bx ++ [Nb N F]) (fun p => !(match n.nodes[p]? with | some x => rightN ofT x | none => true)) (by simp) (by omega) fun p hp => by
  obtain ⟨row,hrow,_,_,op2,m2,K2,rfl,hT2⟩ := hnr.get hp
  have hm : n.nodes[p].t ∈ termsN n := List.mem_append_left _ (List.mem_map.2 ⟨_,List.getElem_mem hp,rfl⟩)
  have := all1_f (bx := bx ++ [Nb N F]) (l := bx.length) hN o2 (by simp) (by simp) hrow (isT_one hT2) fun bx => right_ev n.nodes[p] hT2 (hz _ hm) bx
  refine es (this.trans ?_)
  simp [hp]
 rw [<- hlen] at hpl1
 have hall1 : (List.range nr.length).filter (fun p => !(match n.nodes[p]? with | some x => rightN ofT x | none => true)) = [] ↔ ∀ x ∈ n.nodes,rightN ofT x = true := by
  rw [filter_cons_iff,hlen]
  constructor
  ·intro h x hx
   obtain ⟨i,hi,rfl⟩ := List.getElem_of_mem hx
   have := h i hi
   simpa [hi] using this
  ·intro h i hi
   simp [hi,h]
 by_cases k1 : ¬((List.range nr.length).filter (fun p => !(match n.nodes[p]? with | some x => rightN ofT x | none => true)) = [])
 ·obtain ⟨q,rs,e⟩ := plR_cons (r := 1) k1
  rw [e] at hpl1
  refine done 1 q rs ⟨fun e => (by cases e),fun e => absurd (hall1.2 e.2.2.1) k1⟩ fun bx => es (all_1 hN hF c1 c2 (by simp) (hpl1 bx))
 replace k1 := Classical.not_not.1 k1
 rw [k1] at hpl1
 have hpl2 := fun bx : List Box => places_ev (g := 110) (cap := [bx.length]) 2 (m := n.flows.length) (bx := bx ++ [Nb N F]) (fun p => !(match n.flows[p]? with | some x => leadsN ofT n x | none => true)) (by simp) (by omega) fun p hp => by
  obtain ⟨row,hrow,_,_,op2,m2,K2,rfl,hT2⟩ := hfr.get hp
  have hm : n.flows[p].c ∈ termsN n := List.mem_append_right _ (List.mem_map.2 ⟨_,List.getElem_mem hp,rfl⟩)
  have := all2_f (bx := bx ++ [Nb N F]) (l := bx.length) o1 hF (by simp) (by simp) hrow (isT_one hT2) fun bx => leads_ev h0 (by omega) n.flows[p] hT2 (hz _ hm) bx
  refine es (this.trans ?_)
  simp [hp]
 rw [<- hflen] at hpl2
 have hall2 : (List.range fr.length).filter (fun p => !(match n.flows[p]? with | some x => leadsN ofT n x | none => true)) = [] ↔ ∀ x ∈ n.flows,leadsN ofT n x = true := by
  rw [filter_cons_iff,hflen]
  constructor
  ·intro h x hx
   obtain ⟨i,hi,rfl⟩ := List.getElem_of_mem hx
   have := h i hi
   simpa [hi] using this
  ·intro h i hi
   simp [hi,h]
 by_cases k2 : ¬((List.range fr.length).filter (fun p => !(match n.flows[p]? with | some x => leadsN ofT n x | none => true)) = [])
 ·obtain ⟨q,rs,e⟩ := plR_cons (r := 2) k2
  rw [e] at hpl2
  refine done 2 q rs ⟨fun e => (by cases e),fun e => absurd (hall2.2 e.2.2.2.1) k2⟩ fun bx => es (all_2 hN hF c1 c2 (by simp) (hpl1 bx) (hpl2 bx))
 replace k2 := Classical.not_not.1 k2
 rw [k2] at hpl2
 have hEnds := leads_ends (hall2.1 k2)
 have h3 := fun bx : List Box => third_ev h0 (by omega) (by omega) hEnds bx
 by_cases k3 : ¬((∀ i,i < n.nodes.length -> thirdW n i = false) /\ 0 <= startN n /\ 0 <= endN n)
 ·have hne : ∃ q rs,plR 3 ((List.range n.nodes.length).filter (thirdW n)) ++ (if (decide (startN n < 0) || decide (endN n < 0)) = true then [[dI 3,dI n.nodes.length]] else []) = [dI 3,dI q] :: rs := by
   by_cases k4 : (List.range n.nodes.length).filter (thirdW n) = []
   ·rw [k4]
    have : ¬ (0 <= startN n /\ 0 <= endN n) := fun hh => k3 ⟨filter_cons_iff.1 k4,hh⟩
    rw [if_pos (by simp only [Bool.or_eq_true,dqE]; omega)]
    exact ⟨n.nodes.length,[],rfl⟩
   ·obtain ⟨q,rs,e⟩ := plR_cons (r := 3) k4
    rw [e]; exact ⟨q,_,rfl⟩
  obtain ⟨q,rs,e⟩ := hne
  rw [e] at h3
  exact done 3 q rs ⟨fun e => (by cases e),fun e => absurd ⟨e.2.2.2.2.1,e.2.2.2.2.2.1,e.2.2.2.2.2.2.1⟩ k3⟩ fun bx => es (all_3 hN hF c1 c2 (by simp) (hpl1 bx) (hpl2 bx) h3)
 replace k3 := Classical.not_not.1 k3
 obtain ⟨k3a,k3s,k3z⟩ := k3
 have e3 : plR 3 ((List.range n.nodes.length).filter (thirdW n)) ++ (if (decide (startN n < 0) || decide (endN n < 0)) = true then [[dI 3,dI n.nodes.length]] else []) = [] := by
  rw [filter_cons_iff.2 k3a,if_neg (by simp only [Bool.or_eq_true,dqE]; omega)]; rfl
 rw [e3] at h3
 have hs : 0 <= startN n /\ startN n < n.nodes.length := ⟨k3s,by have := firstK_ge 1 n.nodes 0; rw [startN] at k3s ⊢; omega⟩
 have he : 0 <= endN n /\ endN n < n.nodes.length := ⟨k3z,by have := firstK_ge 2 n.nodes 0; rw [endN] at k3z ⊢; omega⟩
 obtain ⟨sr,s1,s2,s3⟩ := met_ev h0 (by omega) (by omega) hEnds false hs
 obtain ⟨tr,t1,t2,t3⟩ := met_ev h0 (by omega) (by omega) hEnds true he
 have hpl4 := fun bx : List Box => places_ev (g := 116) (cap := [bx.length + 1,bx.length + 2]) 4 (m := n.nodes.length) (bx := bx ++ [Nb N F,[.dat (.sl 1 (boolR sr))],[.dat (.sl 1 (boolR tr))]]) (fun p => !(sr.getD p true) || !(tr.getD p true)) (by simp) (by omega) fun p hp => by
  have p1 : sr[p]? = some (sr.getD p true) := by simp [List.getD,s1,hp]
  have p2 : tr[p]? = some (tr.getD p true) := by simp [List.getD,t1,hp]
  have r1 := boolR_get p1
  have r2 := boolR_get p2
  have b1 : (bx ++ [Nb N F,[.dat (.sl 1 (boolR sr))],[.dat (.sl 1 (boolR tr))]] : List Box)[bx.length + 1]? = some [.dat (.sl 1 (boolR sr))] := by simp
  have b2 : (bx ++ [Nb N F,[.dat (.sl 1 (boolR sr))],[.dat (.sl 1 (boolR tr))]] : List Box)[bx.length + 2]? = some [.dat (.sl 1 (boolR tr))] := by simp
  have l1 : bx.length + 1 < (bx ++ [Nb N F,[.dat (.sl 1 (boolR sr))],[.dat (.sl 1 (boolR tr))]] : List Box).length := by simp
  have l2 : bx.length + 2 < (bx ++ [Nb N F,[.dat (.sl 1 (boolR sr))],[.dat (.sl 1 (boolR tr))]] : List Box).length := by simp
  generalize sr.getD p true = x at r1 ⊢
  generalize tr.getD p true = y at r2 ⊢
  exact es (all3_f l1 l2 b1 b2 r1 r2)
 rw [<- hlen] at hpl4
 have hA : Cq 68 [Nq N F] (mkS 2 (plR 4 ((List.range nr.length).filter (fun p => !(sr.getD p true) || !(tr.getD p true))))) := by
  generalize (List.range nr.length).filter (fun p => !(sr.getD p true) || !(tr.getD p true)) = ks at hpl4
  intro bx
  have q1 := hpl1 bx
  have q2 := hpl2 bx
  have q4 := hpl4 bx
  have q5 := fun bx : List Box => start_ev h0 bx
  have q6 := fun bx : List Box => end_ev h0 bx
  exact es (all_4 (Z := mkS 2 (plR 4 ks)) (rs := plR 4 ks) (sr := boolR sr) (tr := boolR tr) (s := startN n) (z := endN n) hN hF c1 c2 rfl q1 q2 h3 q5 q6 s3 t3 q4)
 have hall4 : (List.range nr.length).filter (fun p => !(sr.getD p true) || !(tr.getD p true)) = [] ↔ ∀ i : Nat,i < n.nodes.length -> Rch (EdgeB n false) (startN n) i /\ Rch (EdgeB n true) (endN n) i := by
  rw [filter_cons_iff,hlen]
  refine forall_congr' fun i => forall_congr' fun hi => ?_
  have p1 : sr[i]? = some (sr.getD i true) := by simp [List.getD,s1,hi]
  have p2 : tr[i]? = some (tr.getD i true) := by simp [List.getD,t1,hi]
  rw [<- s2 i,<- t2 i,p1,p2]
  cases sr.getD i true <;> cases tr.getD i true <;> simp
 by_cases k4 : (List.range nr.length).filter (fun p => !(sr.getD p true) || !(tr.getD p true)) = []
 ·rw [k4] at hA
  exact ⟨0,0,⟨fun _ => ⟨hn24.1,hn24.2,hall1.1 k1,hall2.1 k2,k3a,k3s,k3z,hall4.1 k4⟩,fun _ => rfl⟩,fun bx => es (check_0 o1 o2 hA)⟩
 ·obtain ⟨q,rs,e⟩ := plR_cons (r := 4) k4
  rw [e] at hA
  exact done 4 q rs ⟨fun e => (by cases e),fun e => absurd (hall4.2 e.2.2.2.2.2.2.2) k4⟩ hA
def nodeL (n : Nt) (k nd : Int) : List Int := if k = 6 then (outsN n nd).map (toN n) ++ [nd] else if k = 2 ∨ k = 4 ∨ k = 5 ∨ k = 7 ∨ k = 8 then [nd] else []
def nodesB (n : Nt) : Blk -> List Int
 | .mk k nd _ ks _ => nodeL n k nd ++ go ks
where
 go : List Blk -> List Int
 | [] => []
 | b :: bs => nodesB n b ++ go bs
abbrev upd (bx : List Box) (l : Nat) (acc xs : List Int) : List Box := if (!xs.isEmpty) = true then bx.set l [mkS 1 (intR (acc ++ xs))] else bx
abbrev updL (lo : Option Nat) (l : Nat) (xs : List Int) : Option Nat := if (!xs.isEmpty) = true then some l else lo
theorem upd_len (bx : List Box) (l : Nat) (acc xs : List Int) : (upd bx l acc xs).length = bx.length := by unfold upd; split <;> simp
theorem upd_get {bx : List Box} {l : Nat} {acc : List Int} (h : bx[l]? = some [mkS 1 (intR acc)]) (xs : List Int) : (upd bx l acc xs)[l]? = some [mkS 1 (intR (acc ++ xs))] := by
 have hl : l < bx.length := (gsi.1 h).1
 unfold upd
 cases xs with
 | nil => simpa using h
 | cons x xs => simp [hl]
theorem upd_ne {bx : List Box} {l l0 : Nat} {b : Box} (hne : l ≠ l0) (h : bx[l0]? = some b) (acc xs : List Int) : (upd bx l acc xs)[l0]? = some b := by
 unfold upd
 split
 ·rw [List.getElem?_set_ne hne]; exact h
 ·exact h
theorem upd_upd (bx : List Box) (l : Nat) (acc xs ys : List Int) : upd (upd bx l acc xs) l (acc ++ xs) ys = upd bx l acc (xs ++ ys) := by
 unfold upd
 cases xs with
 | nil => simp
 | cons x xs =>
  cases ys with
  | nil => simp
  | cons y ys => simp
theorem updL_updL (lo : Option Nat) (l : Nat) (xs ys : List Int) : updL (updL lo l xs) l ys = updL lo l (xs ++ ys) := by
 unfold updL
 cases xs <;> cases ys <;> simp
theorem nodeL_len {n : Nt} (hf : n.flows.length <= 1000) (k nd : Int) : (nodeL n k nd).length <= 1001 := by
 unfold nodeL
 split
 ·have := idxs_len (fun f : Fl => f.fr == nd) n.flows 0
  rw [List.length_append,List.length_map]
  simp only [outsN,List.length_singleton]
  omega
 ·split <;> simp
theorem box_ne {bx : List Box} {l l0 : Nat} {u : PV} {p q : PV} (h0 : bx[l0]? = some [p,q]) (h : bx[l]? = some [u]) : l ≠ l0 := by
 rintro rfl
 rw [h0] at h
 simp at h
theorem outs_flow {n : Nt} {nd : Int} {j : Nat} (h : j ∈ outsN n nd) : j < n.flows.length := outs_lt h
theorem nodes1_loop {n : Nt} {N F : D} (h : IsN n N F) (hsz : n.flows.length <= 1000) (nd : Int) {l l0 : Nat} (hne : l ≠ l0) : ∀ (os : List Nat) (i : Nat) (acc : List Int) (bx : List Box) (lo : Option Nat) (c : Box),(outsN n nd).drop i = os -> acc.length + os.length <= 1000000000 →
  bx[l0]? = some (Nb N F) -> bx[l]? = some [mkS 1 (intR acc)] -> (lo = none ∨ lo = some l) -> c.all (cellLt (bx.length + 1)) = true →
  ev cfg (.loop 77 9 ⟨(sh77_9 (.ptr l0 0) (.ptr l 0) (P0 bx) (.dat (mkD 1 (natR (outsN n nd)))) (I (natR (outsN n nd)).length) (I i)),bx ++ [c],bx.length,lo,false⟩) =
   some (.loop (.exit 3) ⟨(se77_9 (.ptr l 0) (P0 bx)),upd bx l acc (os.map (toN n)) ++ [c],bx.length,updL lo l (os.map (toN n)),false⟩) := by
 have hh := h
 obtain ⟨oN,_⟩ := isN_one h
 obtain ⟨nr,fr,hN,_,_,hF,hfr,hmax⟩ := h
 intro os
 induction os with
 | nil =>
  intro i acc bx lo c hd hs b0 b1 hlo hc
  have hl0 : l0 < bx.length := (gsi.1 b0).1
  have hl : l < bx.length := (gsi.1 b1).1
  exact es (nodes1_end (mkD_one _ _) hl0 hl hc (by rw [natR_len]; exact drop_nil hd) lo)
 | cons j os ih =>
  intro i acc bx lo c hd hs b0 b1 hlo hc
  have hl0 : l0 < bx.length := (gsi.1 b0).1
  have hl : l < bx.length := (gsi.1 b1).1
  obtain ⟨hget,hd',hlt⟩ := drop_cons hd
  have hj : j < n.flows.length := outs_flow (nd := nd) (mog hget)
  obtain ⟨row,hrow,_,_,op,m,K,rfl,hT⟩ := hfr.get hj
  have hg : (natR (outsN n nd))[i]? = some [dI (j : Nat)] := by simp [natR,hget]
  have hm : (natR (outsN n nd)).length < 9223372036854775808 := by
   have := idxs_len (fun f : Fl => f.fr == nd) n.flows 0
   rw [natR_len]; simp only [outsN]; omega
  have hx : (natR (outsN n nd)).length = (outsN n nd).length := natR_len _
  have to : toN n j = n.flows[j].to := to_at hj
  simp only [List.length_cons] at hs
  have rest := ih (i + 1) (acc ++ [toN n j]) (bx.set l [mkS 1 (intR (acc ++ [toN n j]))]) (some l) c hd' (by simp; omega) (by rw [List.getElem?_set_ne hne]; exact b0) (by simp [hl]) (.inr rfl) (by simpa using hc)
  simp only [P0,lls] at rest
  have e1 : upd (bx.set l [mkS 1 (intR (acc ++ [toN n j]))]) l (acc ++ [toN n j]) (os.map (toN n)) = upd bx l acc ((j :: os).map (toN n)) := by
   have := upd_upd bx l acc [toN n j] (os.map (toN n))
   simpa [upd] using this
  have e2 : updL (some l) l (os.map (toN n)) = updL lo l ((j :: os).map (toN n)) := by
   unfold updL; cases os <;> simp
  rw [e1,e2] at rest
  refine es (Eq.trans ?_ rest)
  cases acc with
  | nil =>
   refine (nodes1_round0 hF oN (mkD_is _ _) hl0 hl b0 hc hg hrow (by rw [hx]; exact hlt) hm lo hlo b1).trans ?_
   rw [to]; rfl
  | cons a acc =>
   refine (nodes1_round1 (acc := intR (a :: acc)) hF oN (mkD_is _ _) hl0 hl b0 hc hg hrow (by rw [hx]; exact hlt) hm lo hlo (by rw [intR_len]; simp at hs ⊢; omega) b1).trans ?_
   have e : (.own true 1 (intR (a :: acc) ++ [[dI n.flows[j].to]]) : PV) = mkS 1 (intR (a :: acc ++ [n.flows[j].to])) := by rw [intR_app]; rfl
   rw [to,e]
theorem nodes1_ev {n : Nt} {N F : D} (h : IsN n N F) (hsz : n.flows.length <= 1000) {k nd a : Int} {K L : D} (oK : Oq K) (oL : Oq L) {bx : List Box} {l l0 : Nat} {acc : List Int} (hs : acc.length + 1001 <= 1000000000)
  (b0 : bx[l0]? = some (Nb N F)) (b1 : bx[l]? = some [mkS 1 (intR acc)]) :
  ev cfg (.call 77 [Wq k nd a K L,.ptr l0 0,.ptr l 0] bx) = some (.ret (.tup []) (if (!(nodeL n k nd).isEmpty) = true then some ⟨bx.set l [mkS 1 (intR (acc ++ nodeL n k nd))],l,false⟩ else none)) := by
 have hl0 : l0 < bx.length := (gsi.1 b0).1
 have hl : l < bx.length := (gsi.1 b1).1
 have hne := box_ne b0 b1
 obtain ⟨oN,oF⟩ := isN_one h
 have hks : ((intR acc).length + 1) * 8 <= 140737488355328 := by rw [intR_len]; omega
 have one : ∀ (r : List Int),r = [nd] -> nodeL n k nd = r -> ev cfg (.call 77 [Wq k nd a K L,.ptr l0 0,.ptr l 0] bx) = some (.ret (.tup []) (some ⟨bx.set l [mkS 1 (intR (acc ++ [nd]))],l,false⟩)) -> ev cfg (.call 77 [Wq k nd a K L,.ptr l0 0,.ptr l 0] bx) = some (.ret (.tup []) (if (!(nodeL n k nd).isEmpty) = true then some ⟨bx.set l [mkS 1 (intR (acc ++ nodeL n k nd))],l,false⟩ else none)) := by
  intro r hr hn he
  rw [hn,hr]
  exact he
 have snoc : ∀ (a' : Int) (zs : List Int),(.own true 1 (intR (a' :: zs) ++ [[dI nd]]) : PV) = mkS 1 (intR ((a' :: zs) ++ [nd])) := fun a' zs => by rw [intR_app]; rfl
 by_cases k6 : k = 6
 ·subst k6
  have e : nodeL n 6 nd = (outsN n nd).map (toN n) ++ [nd] := by rw [nodeL,if_pos rfl]
  rw [e]
  have hne2 : (!((outsN n nd).map (toN n) ++ [nd]).isEmpty) = true := by simp
  rw [if_pos hne2,<- List.append_assoc]
  have hl' := nodes1_loop h hsz nd hne (outsN n nd) 0 acc bx none
  have hlen : (outsN n nd).length <= 1000 := by
   have := idxs_len (fun f : Fl => f.fr == nd) n.flows 0
   simp only [outsN]; omega
  have hloop := fun (c : Box) (hc : c.all (cellLt (bx.length + 1)) = true) => hl' c rfl (by omega) b0 b1 (.inl rfl) hc
  have hO := fun bx : List Box => outs_ev h (by omega) nd bx
  cases ho : (outsN n nd).map (toN n) with
  | nil =>
   rw [ho] at hloop
   cases acc with
   | nil => exact es (nodes1_k6_0 oF oN (mkD_is _ _) oK oL hl0 hl b0 b1 hO hloop)
   | cons a' zs =>
    rw [List.append_nil,<- snoc]
    exact es (nodes1_k6_1 (acc := intR (a' :: zs)) oF oN (mkD_is _ _) oK oL hl0 hl hks b0 b1 hO hloop)
  | cons o os =>
   rw [ho] at hloop
   have hne3 : ∃ z zs,acc ++ o :: os = z :: zs := by cases acc <;> simp
   obtain ⟨z,zs,hz⟩ := hne3
   have hu : ∀ lo,upd bx l acc (o :: os) = bx.set l [.own true 1 (intR (acc ++ o :: os))] /\ updL lo l (o :: os) = some l := fun lo => by
    refine ⟨?_,by simp [updL]⟩
    unfold upd; rw [hz]; rfl
   have hol : (o :: os).length <= 1000 := by rw [<- ho,List.length_map]; exact hlen
   rw [(hu none).1,(hu none).2] at hloop
   have := nodes1_k6_2 (u := mkS 1 (intR acc)) (acc2 := intR (acc ++ o :: os)) (a := a) oF oN (mkD_is _ _) oK oL hl0 hl (by rw [intR_len,List.length_append]; omega) b0 b1 hO hloop
   rw [hz,snoc] at this
   rw [hz]
   exact es this
 ·by_cases k2 : k = 2
  ·subst k2
   refine one _ rfl (by rw [nodeL,if_neg (by decide),if_pos (by decide)]) ?_
   cases acc with
   | nil => exact es (nodes1_k2_0 oK oL hl0 hl b1)
   | cons a' zs => rw [<- snoc]; exact es (nodes1_k2_1 (acc := intR (a' :: zs)) oK oL hl0 hl hks b1)
  by_cases k4 : k = 4
  ·subst k4
   refine one _ rfl (by rw [nodeL,if_neg (by decide),if_pos (by decide)]) ?_
   cases acc with
   | nil => exact es (nodes1_k4_0 oK oL hl0 hl b1)
   | cons a' zs => rw [<- snoc]; exact es (nodes1_k4_1 (acc := intR (a' :: zs)) oK oL hl0 hl hks b1)
  by_cases k5 : k = 5
  ·subst k5
   refine one _ rfl (by rw [nodeL,if_neg (by decide),if_pos (by decide)]) ?_
   cases acc with
   | nil => exact es (nodes1_k5_0 oK oL hl0 hl b1)
   | cons a' zs => rw [<- snoc]; exact es (nodes1_k5_1 (acc := intR (a' :: zs)) oK oL hl0 hl hks b1)
  by_cases k7 : k = 7
  ·subst k7
   refine one _ rfl (by rw [nodeL,if_neg (by decide),if_pos (by decide)]) ?_
   cases acc with
   | nil => exact es (nodes1_k7_0 oK oL hl0 hl b1)
   | cons a' zs => rw [<- snoc]; exact es (nodes1_k7_1 (acc := intR (a' :: zs)) oK oL hl0 hl hks b1)
  by_cases k8 : k = 8
  ·subst k8
   refine one _ rfl (by rw [nodeL,if_neg (by decide),if_pos (by decide)]) ?_
   cases acc with
   | nil => exact es (nodes1_k8_0 oK oL hl0 hl b1)
   | cons a' zs => rw [<- snoc]; exact es (nodes1_k8_1 (acc := intR (a' :: zs)) oK oL hl0 hl hks b1)
  ·have e : nodeL n k nd = [] := by rw [nodeL,if_neg k6,if_neg (by simp [k2,k4,k5,k7,k8])]
   rw [e,if_neg (by simp)]
   exact es (nodes1_o oK oL hl0 hl (by simpa using k6) (by simpa using k2) (by simpa using k4) (by simpa using k5) (by simpa using k7) (by simpa using k8))
theorem nodesB_len {n : Nt} (hf : n.flows.length <= 1000) : ∀ b : Blk,((nodesB n b).length : Int) <= 1001 * sizeB b
 | .mk k nd a ks ls => by
  have h1 := nodeL_len hf k nd
  have h2 := go ks
  rw [nodesB,sizeB,List.length_append]
  omega
where
 go : ∀ bs : List Blk,((nodesB.go n bs).length : Int) <= 1001 * sizeB.go bs
 | [] => by rw [nodesB.go,sizeB.go]; simp
 | b :: bs => by
  have h1 := nodesB_len hf b
  have h2 := go bs
  rw [nodesB.go,sizeB.go,List.length_append]
  omega
theorem cap_two {l l0 m : Nat} (h0 : l0 < m) (h : l < m) : ([l0,l].all fun l => decide (l < m + 1)) = true := by
 simp; omega
theorem eachN_ev {n : Nt} {N F : D} (h : IsN n N F) (hsz : n.flows.length <= 1000) {l l0 : Nat} (hne : l ≠ l0) : ∀ (b : Blk) {k nd a : Int} {K L : D} {bx : List Box} {acc : List Int},IsB b k nd a K L -> (acc.length : Int) + 1001 * sizeB b <= 1000000000 →
  bx[l0]? = some (Nb N F) -> bx[l]? = some [mkS 1 (intR acc)] →
  ev cfg (.call 76 [Wq k nd a K L,.clo 77 [l0,l]] bx) = some (.ret (.tup []) (if (!(nodesB n b).isEmpty) = true then some ⟨bx.set l [mkS 1 (intR (acc ++ nodesB n b))],l,false⟩ else none))
 | .mk _ _ _ ks ls,k,nd,a,K,L,bx,acc,hB,hs,b0,b1 => by
  rw [IsB] at hB
  obtain ⟨rfl,rfl,rfl,_,_,_,rows,hK,hks,hmax,hL,_,_⟩ := hB
  have oK : Oq K := by obtain ⟨_,_,_,h3⟩ := hK; exact h3
  have oL : Oq L := by obtain ⟨_,_,_,h3⟩ := hL; exact h3
  have hl0 : l0 < bx.length := (gsi.1 b0).1
  have hl : l < bx.length := (gsi.1 b1).1
  rw [sizeB] at hs
  have hp := sizeB_pos.go ks
  have hnl := nodeL_len hsz k nd
  have := eachc_f (u := [mkS 1 (intR (acc ++ nodeL n k nd))]) (u2 := [mkS 1 (intR (acc ++ nodesB n (.mk k nd a ks ls)))]) (k := k) (n := nd) (a := a) (bx := bx) (!(nodeL n k nd).isEmpty) (!(nodesB n (.mk k nd a ks ls)).isEmpty) (cap_two hl0 hl) hK hL hl (g := 77)
   (fun r => by
    have h1 := nodes1_ev h hsz (k := k) (nd := nd) (a := a) oK oL (bx := bx ++ [r]) (l := l) (l0 := l0) (acc := acc) (by omega) (by rw [get_old hl0]; exact b0) (by rw [get_old hl]; exact b1)
    rw [set_old hl] at h1
    exact h1)
   (fun c hc => by
    have h1 := loop ks (bx := upd bx l acc (nodeL n k nd)) (acc := acc ++ nodeL n k nd) (i := 0) (c := c) hK rfl hks (by rw [isBs_len hks]; exact hmax) (by rw [List.length_append]; push_cast; omega) (upd_ne hne b0 _ _) (upd_get b1 _) (by rw [upd_len]; exact hc) (updL none l (nodeL n k nd)) (by unfold updL; split <;> simp)
    rw [upd_len,upd_upd,updL_updL] at h1
    rw [nodesB]
    exact h1)
  exact es this
where
 loop : ∀ (bs : List Blk) {rows rs : List (List D)} {K : D} {acc : List Int} {i : Nat} {bx : List Box} {c : Box},IsS 5 rows K -> rows.drop i = rs -> IsB.IsBs bs rs -> rows.length < 9223372036854775808 -> (acc.length : Int) + 1001 * sizeB.go bs <= 1000000000 →
  bx[l0]? = some (Nb N F) -> bx[l]? = some [mkS 1 (intR acc)] -> c.all (cellLt (bx.length + 1)) = true -> ∀ lo : Option Nat,lo = none ∨ lo = some l →
  ev cfg (.loop 76 3 ⟨(sh76_3 (.clo 77 [l0,l]) (.dat K) (I rows.length) (I i)),bx ++ [c],bx.length,lo,false⟩) = some (.loop (.exit 0) ⟨(se76_3),upd bx l acc (nodesB.go n bs) ++ [c],bx.length,updL lo l (nodesB.go n bs),false⟩)
 | [],rows,rs,K,acc,i,bx,c,hK,hr,hbs,hmax,hs,b0,b1,hc,lo,hlo => by
  have hl0 : l0 < bx.length := (gsi.1 b0).1
  have hl : l < bx.length := (gsi.1 b1).1
  rw [IsB.IsBs] at hbs
  subst hbs
  rw [nodesB.go]
  obtain ⟨_,_,_,h3⟩ := hK
  exact es (eachc_end (cap_two hl0 hl) hc (drop_nil hr) lo h3)
 | b :: bs,rows,rs,K,acc,i,bx,c,hK,hr,hbs,hmax,hs,b0,b1,hc,lo,hlo => by
  have hl0 : l0 < bx.length := (gsi.1 b0).1
  have hl : l < bx.length := (gsi.1 b1).1
  rw [IsB.IsBs] at hbs
  obtain ⟨k,nd,a,K',L',rest,rfl,hB,hrest⟩ := hbs
  obtain ⟨hget,hr',hlt⟩ := drop_cons hr
  rw [sizeB.go] at hs
  have hp := sizeB_pos.go bs
  have hp2 := sizeB_pos b
  have hbl := nodesB_len hsz b
  have h1 := eachc_round (g := 77) (cap := [l0,l]) (u := [mkS 1 (intR (acc ++ nodesB n b))]) (cap_two hl0 hl) hK hl hc hget hlt hmax (isB_one hB).1 (isB_one hB).2 lo hlo (!(nodesB n b).isEmpty) (fun r => by
   have h2 := eachN_ev h hsz hne b (bx := bx ++ [c,r]) (acc := acc) hB (by omega) (by rw [get_old hl0]; exact b0) (by rw [get_old hl]; exact b1)
   rw [set_old hl] at h2
   exact h2)
  have h2 := loop bs (bx := upd bx l acc (nodesB n b)) (acc := acc ++ nodesB n b) (i := i + 1) (c := c) hK hr' hrest hmax (by rw [List.length_append]; push_cast; omega) (upd_ne hne b0 _ _) (upd_get b1 _) (by rw [upd_len]; exact hc) (updL lo l (nodesB n b)) (by unfold updL; split; exact .inr rfl; exact hlo)
  rw [upd_len,upd_upd,updL_updL] at h2
  rw [nodesB.go]
  exact es (h1.trans h2)
theorem intRows_intR : ∀ zs : List Int,intRows (intR zs) = some zs
 | [] => rfl
 | z :: zs => by
  have : intR (z :: zs) = [dI z] :: intR zs := rfl
  rw [this,intRows,intRow,seqO_some,intRows_intR zs]; rfl
theorem nodes_ev {n : Nt} {N F : D} (h : IsN n N F) (hsz : n.flows.length <= 1000) (b : Blk) {k nd a : Int} {K L : D} (hB : IsB b k nd a K L) (hz : sizeB b <= 1000) (bx : List Box) :
  ev cfg (.call 44 [Nq N F,Wq k nd a K L] bx) = Rq (mkS 1 (intR (sortI (nodesB n b)))) := by
 obtain ⟨oN,oF⟩ := isN_one h
 obtain ⟨oK,oL⟩ := isB_one hB
 have he := eachN_ev h hsz (l := bx.length + 2) (l0 := bx.length) (by omega) b (bx := bx ++ [Nb N F,Wx k nd a K L,[.dat .nil]]) (acc := []) hB (by simp; omega) (by rw [app_get0]; rfl) (by rw [app_get]; rfl)
 have hlen := nodesB_len hsz b
 cases hnb : nodesB n b with
 | nil =>
  rw [hnb] at he
  rw [show sortI ([] : List Int) = [] by simp [sortI]]
  exact es (nodes_f0 oK oL oF oN he)
 | cons z zs =>
  rw [hnb,if_pos (by simp)] at he
  rw [app_set] at he
  rw [hnb] at hlen
  have hs : ∃ y ys,sortI (z :: zs) = y :: ys := by
   have : (sortI (z :: zs)).length = (z :: zs).length := List.length_mergeSort ..
   cases hq : sortI (z :: zs) with
   | nil => rw [hq] at this; simp at this
   | cons y ys => exact ⟨y,ys,rfl⟩
  have := nodes_f1 (k := k) (n := nd) (a := a) (bx := bx) (acc := intR (z :: zs)) (zs := z :: zs) (intRows_intR _) (by omega) oK oL oF oN he
  obtain ⟨y,ys,hy⟩ := hs
  rw [hy] at this ⊢
  exact es this
end Go.Proofs.YtifckjhggamefaaGreatDoor
