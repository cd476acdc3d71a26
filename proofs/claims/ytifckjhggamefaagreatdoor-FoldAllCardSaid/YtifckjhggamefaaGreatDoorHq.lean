/- What an argument that can be read says of numbers, terms, processes, blocks; what the laid tables say. No condition. Written by a program (mkfit.py). -/
import Derived.Test.YtifckjhggamefaaGreatDoorHl
import Derived.Test.YtifckjhggamefaaGreatDoorRows
import Derived.MakeChecks
import Derived.KernelRfl
import Derived.OpenShut
import Derived.Test.YtifckjhggamefaaGreatDoorVyOk
import Derived.Test.YtifckjhggamefaaGreatDoorCards
import Derived.Test.YtifckjhggamefaaGreatDoorTie
import Derived.ProofKit
import Derived.LaidMore
import Derived.Stop.Joined
import Derived.SevenTiedAt
set_option linter.unusedSimpArgs false
set_option linter.unusedVariables false
set_option linter.unusedSectionVars false
namespace Go.Proofs.YtifckjhggamefaaGreatDoor
open Go Go.Vx Go.RowKit
set_option maxRecDepth 100000
structure FitQ (t : Nat) (ds : List D) : Prop where
 int : t = 3 -> ∃ n,ds = [dI n] /\ i64 n
 bool : t = 4 -> ∃ b : Bool,ds = [.lit (.bool b)]
 terms : t = 53 -> ∃ K,ds = [K] /\ ∃ rows bs,IsS 3 rows K /\ IsT.IsTs bs rows /\ bs.length < 9223372036854775808
 term : t = 55 -> ∃ b k n K,ds = [dI k,dI n,K] /\ IsT b k n K
 node : t = 66 -> ∃ x,IsNd x ds
 flow : t = 57 -> ∃ x,IsFl x ds
 nodes : t = 22 -> ∃ K,ds = [K] /\ ∃ rows xs,IsS 5 rows K /\ AreR IsNd xs rows /\ xs.length < 9223372036854775808
 flows : t = 23 -> ∃ K,ds = [K] /\ ∃ rows xs,IsS 6 rows K /\ AreR IsFl xs rows /\ xs.length < 9223372036854775808
 net : t = 25 -> ∃ n N F,ds = [N,F] /\ IsN n N F
theorem trms_of : ∀ {rows : List (List D)},(∀ r ∈ rows,∃ b k n K,r = [dI k,dI n,K] /\ IsT b k n K) -> ∃ bs,IsT.IsTs bs rows
 | [],_ => ⟨[],by rw [IsT.IsTs]⟩
 | r :: rows,h => by
  obtain ⟨b,k,n,K,rfl,h1⟩ := h r (mcs ..)
  obtain ⟨bs,h2⟩ := trms_of fun r hr => h r (mcm _ hr)
  exact ⟨b :: bs,by rw [IsT.IsTs]; exact ⟨k,n,K,rows,rfl,h1,h2⟩⟩
theorem are_of {α : Type} {p : α -> List D -> Prop} : ∀ {rows : List (List D)},(∀ r ∈ rows,∃ x,p x r) -> ∃ xs,AreR p xs rows
 | [],_ => ⟨[],rfl,fun i x hx => by simp at hx⟩
 | r :: rows,h => by
  obtain ⟨x,h1⟩ := h r (mcs ..)
  obtain ⟨xs,h2,h3⟩ := are_of fun r hr => h r (mcm _ hr)
  refine ⟨x :: xs,by simp [h2],fun i y hy => ?_⟩
  cases i with
  | zero =>
   obtain rfl : x = y := by simpa using hy
   exact ⟨r,rfl,h1⟩
  | succ i => exact h3 i y (by simpa using hy)
theorem maxLen_lt {n : Nat} (h : n <= maxLen) : n < 9223372036854775808 := by unfold maxLen at h; omega
theorem fit_q {t : TypeId} {ds : List D} (h : Fit tiT t ds) : FitQ t ds := by
 induction h with
 | @int t i k n h hk hw =>
  refine ⟨fun q => ?_,fun q => ?_,fun q => ?_,fun q => ?_,fun q => ?_,fun q => ?_,fun q => ?_,fun q => ?_,fun q => ?_⟩ <;> subst q
  all_goals try (cases h; cases hk; done)
  ·obtain rfl := sij ((show tiT 3 = some _ from rfl).symm.trans h)
   cases hk
   refine ⟨n,rfl,?_⟩
   simp only [Lit.wf,Bool.and_eq_true,dqE] at hw
   exact hw
 | @bool t i b h hk =>
  refine ⟨fun q => ?_,fun q => ?_,fun q => ?_,fun q => ?_,fun q => ?_,fun q => ?_,fun q => ?_,fun q => ?_,fun q => ?_⟩ <;> subst q
  all_goals try (cases h; cases hk; done)
  ·obtain rfl := sij ((show tiT 4 = some _ from rfl).symm.trans h)
   exact ⟨b,rfl⟩
 | @str t i s h hk hw =>
  refine ⟨fun q => ?_,fun q => ?_,fun q => ?_,fun q => ?_,fun q => ?_,fun q => ?_,fun q => ?_,fun q => ?_,fun q => ?_⟩ <;> subst q
  all_goals try (cases h; cases hk; done)
 | @nil t e i h hk =>
  refine ⟨fun q => ?_,fun q => ?_,fun q => ?_,fun q => ?_,fun q => ?_,fun q => ?_,fun q => ?_,fun q => ?_,fun q => ?_⟩ <;> subst q
  all_goals try (cases h; cases hk; done)
  ·exact ⟨.nil,rfl,[],[],isS_nil 3,by rw [IsT.IsTs],by simp⟩
  ·exact ⟨.nil,rfl,[],[],isS_nil 5,⟨rfl,fun i x hx => by simp at hx⟩,by simp⟩
  ·exact ⟨.nil,rfl,[],[],isS_nil 6,⟨rfl,fun i x hx => by simp at hx⟩,by simp⟩
 | @sl t e i j rows h hk hj hl hr ih =>
  refine ⟨fun q => ?_,fun q => ?_,fun q => ?_,fun q => ?_,fun q => ?_,fun q => ?_,fun q => ?_,fun q => ?_,fun q => ?_⟩ <;> subst q
  all_goals try (cases h; cases hk; done)
  ·obtain rfl := sij ((show tiT 53 = some _ from rfl).symm.trans h)
   cases hk
   obtain rfl := sij ((show tiT 55 = some _ from rfl).symm.trans hj)
   obtain ⟨bs,h1⟩ := trms_of fun r hr => (ih r hr).term rfl
   exact ⟨_,rfl,rows,bs,isS_sl 3 rows,h1,by rw [<- isTs_len h1]; exact maxLen_lt hl⟩
  ·obtain rfl := sij ((show tiT 22 = some _ from rfl).symm.trans h)
   cases hk
   obtain rfl := sij ((show tiT 66 = some _ from rfl).symm.trans hj)
   obtain ⟨xs,h1⟩ := are_of fun r hr => (ih r hr).node rfl
   exact ⟨_,rfl,rows,xs,isS_sl 5 rows,h1,by rw [<- h1.1]; exact maxLen_lt hl⟩
  ·obtain rfl := sij ((show tiT 23 = some _ from rfl).symm.trans h)
   cases hk
   obtain rfl := sij ((show tiT 57 = some _ from rfl).symm.trans hj)
   obtain ⟨xs,h1⟩ := are_of fun r hr => (ih r hr).flow rfl
   exact ⟨_,rfl,rows,xs,isS_sl 6 rows,h1,by rw [<- h1.1]; exact maxLen_lt hl⟩
 | @struct t i fs ds h hk hl hf ih =>
  refine ⟨fun q => ?_,fun q => ?_,fun q => ?_,fun q => ?_,fun q => ?_,fun q => ?_,fun q => ?_,fun q => ?_,fun q => ?_⟩ <;> subst q
  all_goals try (cases h; cases hk; done)
  ·obtain rfl := sij ((show tiT 55 = some _ from rfl).symm.trans h)
   cases hk
   match ds,hl with
   | [d0,d1,d2],_ =>
    obtain ⟨n0,e0,w0⟩ := (ih (0,3) (by simp) _ rfl).int rfl
    obtain ⟨n1,e1,w1⟩ := (ih (1,3) (by simp) _ rfl).int rfl
    obtain ⟨K,e3,rows,bs,hK,hbs,hlen⟩ := (ih (2,53) (by simp) _ rfl).terms rfl
    simp at e0 e1 e3
    subst e0; subst e1; subst e3
    exact ⟨.mk n0 n1 bs,n0,n1,_,rfl,by rw [IsT]; exact ⟨rfl,rfl,w0,w1,rows,hK,hbs,hlen⟩⟩
  ·obtain rfl := sij ((show tiT 66 = some _ from rfl).symm.trans h)
   cases hk
   match ds,hl with
   | [d0,d1,d2,d3,d4],_ =>
    obtain ⟨n0,e0,w0⟩ := (ih (0,3) (by simp) _ rfl).int rfl
    obtain ⟨n1,e1,w1⟩ := (ih (1,3) (by simp) _ rfl).int rfl
    obtain ⟨b,op,m,K,e2,hT⟩ := (ih (2,55) (by simp) _ rfl).term rfl
    simp at e0 e1 e2
    obtain ⟨rfl,rfl,rfl⟩ := e2
    subst e0; subst e1
    exact ⟨⟨n0,n1,b⟩,w0,w1,op,m,_,rfl,hT⟩
  ·obtain rfl := sij ((show tiT 57 = some _ from rfl).symm.trans h)
   cases hk
   match ds,hl with
   | [d0,d1,d2,d3,d4,d5],_ =>
    obtain ⟨n0,e0,w0⟩ := (ih (0,3) (by simp) _ rfl).int rfl
    obtain ⟨n1,e1,w1⟩ := (ih (1,3) (by simp) _ rfl).int rfl
    obtain ⟨v,e3⟩ := (ih (2,4) (by simp) _ rfl).bool rfl
    obtain ⟨b,op,m,K,e2,hT⟩ := (ih (3,55) (by simp) _ rfl).term rfl
    simp at e0 e1 e2 e3
    obtain ⟨rfl,rfl,rfl⟩ := e2
    subst e0; subst e1; subst e3
    exact ⟨⟨n0,n1,v,b⟩,w0,w1,op,m,_,rfl,hT⟩
  ·obtain rfl := sij ((show tiT 25 = some _ from rfl).symm.trans h)
   cases hk
   match ds,hl with
   | [d0,d1],_ =>
    obtain ⟨N,e0,nr,ns,hN,hnr,hn⟩ := (ih (0,22) (by simp) _ rfl).nodes rfl
    obtain ⟨F,e1,fr,fs,hF,hfr,hf⟩ := (ih (1,23) (by simp) _ rfl).flows rfl
    simp at e0 e1
    subst e0; subst e1
    exact ⟨⟨ns,fs⟩,_,_,rfl,nr,fr,hN,hnr,hn,hF,hfr,hf⟩
def fitT : List TypeId := [3,4,53,55,66,57,22,23,25]
theorem fitT_ok : closedTi tiT fitT = true := by decide
theorem lit_bytes {s : ByteArray} {l : List UInt8} (h : s.data.toList = l) : s = ⟨l.toArray⟩ := by
 cases s with
 | mk a => cases a; simp at h; subst h; rfl
theorem g_words : Tryz.prog.globalNamed "treenail/term.words" = some 1 := by kernel_rfl
theorem t_words : (Tryz.prog.globals[1]?).map (·.type) = some 198 := by kernel_rfl
def cells_words : List Value := (.string ⟨#[]⟩) :: (.int .i64 0) :: (.int .i64 0) :: (.int .i64 0) :: (.string ⟨#[]⟩) :: (.int .i64 0) :: (.int .i64 0) :: (.int .i64 0) :: (.string ⟨#[]⟩) :: (.int .i64 0) :: (.int .i64 0) :: (.int .i64 0) :: (.string ⟨#[110,101,103]⟩) :: (.int .i64 1) :: (.int .i64 1) :: (.int .i64 1) :: (.string ⟨#[110,111,116]⟩) :: (.int .i64 1) :: (.int .i64 2) :: (.int .i64 2) :: (.string ⟨#[97,100,100]⟩) :: (.int .i64 2) :: (.int .i64 1) :: (.int .i64 1) :: (.string ⟨#[115,117,98]⟩) :: (.int .i64 2) :: (.int .i64 1) :: (.int .i64 1) :: (.string ⟨#[109,117,108]⟩) :: (.int .i64 2) :: (.int .i64 1) :: (.int .i64 1) :: (.string ⟨#[100,105,118]⟩) :: (.int .i64 2) :: (.int .i64 1) :: (.int .i64 1) :: (.string ⟨#[109,111,100]⟩) :: (.int .i64 2) :: (.int .i64 1) :: (.int .i64 1) :: (.string ⟨#[101,113]⟩) :: (.int .i64 2) :: (.int .i64 1) :: (.int .i64 2) :: (.string ⟨#[108,116]⟩) :: (.int .i64 2) :: (.int .i64 1) :: (.int .i64 2) :: (.string ⟨#[108,101]⟩) :: (.int .i64 2) :: (.int .i64 1) :: (.int .i64 2) :: (.string ⟨#[97,110,100]⟩) :: (.int .i64 2) :: (.int .i64 2) :: (.int .i64 2) :: (.string ⟨#[111,114]⟩) :: (.int .i64 2) :: (.int .i64 2) :: (.int .i64 2) :: []
theorem word_row {H : Type} {enc : TypeId × Value -> H} {w : World} {base : Nat} {spare : Nat -> Bool} {held : Bool} {fuel : Nat} {cs : List Value} {l : List UInt8} {a b c : Int} {m : List MemPlace}
  (h : DataW.trod enc Tryz.prog w base spare held fuel 197 cs = some (.agg [.lit (.string l),.lit (.int .i64 a),.lit (.int .i64 b),.lit (.int .i64 c)],m)) :
  cs = [.string ⟨l.toArray⟩,.int .i64 a,.int .i64 b,.int .i64 c] := by
 obtain ⟨xs,n,rfl,hx,hlen,hn,hel⟩ := DataW.trod_struct Tryz.underlying197 h
 have cW : Tryz.prog.cellsOf 197 = 4 := by kernel_rfl
 have c9 : Tryz.prog.cellsOf 9 = 1 := by kernel_rfl
 have c3 : Tryz.prog.cellsOf 3 = 1 := by kernel_rfl
 rw [cW] at hlen
 have hx' : xs.map (·.1) = [.lit (.string l),.lit (.int .i64 a),.lit (.int .i64 b),.lit (.int .i64 c)] := by
  have := congrArg Prod.fst hx
  exact (DataW.agg.inj this).symm
 match cs,hlen with
 | [v0,v1,v2,v3],_ =>
  match xs,hx' with
  | [x0,x1,x2,x3],hx' =>
   simp only [List.map_cons,List.map_nil,List.cons.injEq,and_true] at hx'
   obtain ⟨e0,e1,e2,e3⟩ := hx'
   have h0 : DataW.trod enc Tryz.prog w base spare held n 9 (([v0,v1,v2,v3].drop 0).take (Tryz.prog.cellsOf 9)) = some x0 := hel 0 _ rfl
   rw [c9] at h0
   have h1 : DataW.trod enc Tryz.prog w base spare held n 3 (([v0,v1,v2,v3].drop 1).take (Tryz.prog.cellsOf 3)) = some x1 := hel 1 _ rfl
   rw [c3] at h1
   have h2 : DataW.trod enc Tryz.prog w base spare held n 3 (([v0,v1,v2,v3].drop 2).take (Tryz.prog.cellsOf 3)) = some x2 := hel 2 _ rfl
   rw [c3] at h2
   have h3 : DataW.trod enc Tryz.prog w base spare held n 3 (([v0,v1,v2,v3].drop 3).take (Tryz.prog.cellsOf 3)) = some x3 := hel 3 _ rfl
   rw [c3] at h3
   obtain ⟨s,f0,g0,_⟩ := DataW.trod_string Tryz.underlying9 h0
   obtain ⟨n1,f1,g1,_⟩ := DataW.trod_int Tryz.underlying3 h1
   obtain ⟨n2,f2,g2,_⟩ := DataW.trod_int Tryz.underlying3 h2
   obtain ⟨n3,f3,g3,_⟩ := DataW.trod_int Tryz.underlying3 h3
   subst g0; subst g1; subst g2; subst g3
   simp only [DataW.lit.injEq,Lit.string.injEq,Lit.int.injEq,true_and] at e0 e1 e2 e3
   subst e1; subst e2; subst e3
   obtain rfl := lit_bytes e0
   simp at f0 f1 f2 f3
   rw [f0,f1,f2,f3]
theorem met_words {W : World} {g0 : Nat} {t0 : TypeId} {cs0 : Array Value} {f0 : Nat} {p0 : List MemPlace} (hg0 : Tryz.prog.globalNamed "treenail/term.words" = some g0) (ht0 : (Tryz.prog.globals[g0]?).map (·.type) = some t0)
  (hv0 : W.var? Tryz.prog "treenail/term.words" = some cs0) (hd0 : DataW.trod (fun _ => ()) Tryz.prog W 0 (fun _ => true) false f0 t0 cs0.toList = some (Rows.laid_treenail_term_words, p0)) : ∀ (j : Nat) v, cells_words[j]? = some v -> W.cell? ⟨1, j, none⟩ = some v := by
 obtain rfl := sij (g_words.symm.trans hg0)
 obtain rfl := sij (t_words.symm.trans ht0)
 obtain ⟨xs,m1,rfl,hx1,hlen,hn,hel⟩ := DataW.trod_array Tryz.underlying198 hd0
 have hx : xs.map (·.1) = [.agg [.lit (.string []),.lit (.int .i64 0),.lit (.int .i64 0),.lit (.int .i64 0)],.agg [.lit (.string []),.lit (.int .i64 0),.lit (.int .i64 0),.lit (.int .i64 0)],.agg [.lit (.string []),.lit (.int .i64 0),.lit (.int .i64 0),.lit (.int .i64 0)],.agg [.lit (.string [110,101,103]),.lit (.int .i64 1),.lit (.int .i64 1),.lit (.int .i64 1)],.agg [.lit (.string [110,111,116]),.lit (.int .i64 1),.lit (.int .i64 2),.lit (.int .i64 2)],.agg [.lit (.string [97,100,100]),.lit (.int .i64 2),.lit (.int .i64 1),.lit (.int .i64 1)],.agg [.lit (.string [115,117,98]),.lit (.int .i64 2),.lit (.int .i64 1),.lit (.int .i64 1)],.agg [.lit (.string [109,117,108]),.lit (.int .i64 2),.lit (.int .i64 1),.lit (.int .i64 1)],.agg [.lit (.string [100,105,118]),.lit (.int .i64 2),.lit (.int .i64 1),.lit (.int .i64 1)],.agg [.lit (.string [109,111,100]),.lit (.int .i64 2),.lit (.int .i64 1),.lit (.int .i64 1)],.agg [.lit (.string [101,113]),.lit (.int .i64 2),.lit (.int .i64 1),.lit (.int .i64 2)],.agg [.lit (.string [108,116]),.lit (.int .i64 2),.lit (.int .i64 1),.lit (.int .i64 2)],.agg [.lit (.string [108,101]),.lit (.int .i64 2),.lit (.int .i64 1),.lit (.int .i64 2)],.agg [.lit (.string [97,110,100]),.lit (.int .i64 2),.lit (.int .i64 2),.lit (.int .i64 2)],.agg [.lit (.string [111,114]),.lit (.int .i64 2),.lit (.int .i64 2),.lit (.int .i64 2)]] := by
  have := congrArg Prod.fst hx1
  exact (DataW.agg.inj this).symm
 have cW : Tryz.prog.cellsOf 197 = 4 := by kernel_rfl
 have hrow : ∀ (r : Nat) (l : List UInt8) (a b c : Int),r < 15 -> (xs.map (·.1))[r]? = some (.agg [.lit (.string l),.lit (.int .i64 a),.lit (.int .i64 b),.lit (.int .i64 c)]) →
   W.cell? ⟨1,r * 4,none⟩ = some (.string ⟨l.toArray⟩) /\ W.cell? ⟨1,r * 4 + 1,none⟩ = some (.int .i64 a) /\ W.cell? ⟨1,r * 4 + 2,none⟩ = some (.int .i64 b) /\ W.cell? ⟨1,r * 4 + 3,none⟩ = some (.int .i64 c) := by
  intro r l a b c hr hl
  have h1 := hel r hr
  rw [cW] at h1
  rw [List.getElem?_map] at hl
  cases hxj : xs[r]? with
  | none => rw [hxj] at hl; cases hl
  | some y =>
   rw [hxj] at h1 hl
   obtain ⟨y1,y2⟩ := y
   simp only [Option.map_some,sjE] at hl
   subst hl
   have hw := word_row h1
   have hc : ∀ (k : Nat) (v : Value),k < 4 -> ([.string ⟨l.toArray⟩,.int .i64 a,.int .i64 b,.int .i64 c] : List Value)[k]? = some v -> W.cell? ⟨1,r * 4 + k,none⟩ = some v := by
    intro k v hk hv
    rw [<- hw,List.getElem?_take_of_lt hk,List.getElem?_drop] at hv
    have := World.var?_cell hg0 hv0 (r * 4 + k)
    rw [Array.getElem?_toList] at hv
    rw [this,hv]
   exact ⟨hc 0 _ (by omega) rfl,hc 1 _ (by omega) rfl,hc 2 _ (by omega) rfl,hc 3 _ (by omega) rfl⟩
 rw [hx] at hrow
 have w0 := hrow 0 [] 0 0 0 (by omega) rfl
 have w1 := hrow 1 [] 0 0 0 (by omega) rfl
 have w2 := hrow 2 [] 0 0 0 (by omega) rfl
 have w3 := hrow 3 [110,101,103] 1 1 1 (by omega) rfl
 have w4 := hrow 4 [110,111,116] 1 2 2 (by omega) rfl
 have w5 := hrow 5 [97,100,100] 2 1 1 (by omega) rfl
 have w6 := hrow 6 [115,117,98] 2 1 1 (by omega) rfl
 have w7 := hrow 7 [109,117,108] 2 1 1 (by omega) rfl
 have w8 := hrow 8 [100,105,118] 2 1 1 (by omega) rfl
 have w9 := hrow 9 [109,111,100] 2 1 1 (by omega) rfl
 have w10 := hrow 10 [101,113] 2 1 2 (by omega) rfl
 have w11 := hrow 11 [108,116] 2 1 2 (by omega) rfl
 have w12 := hrow 12 [108,101] 2 1 2 (by omega) rfl
 have w13 := hrow 13 [97,110,100] 2 2 2 (by omega) rfl
 have w14 := hrow 14 [111,114] 2 2 2 (by omega) rfl
 clear hrow hel hx hx1
 intro j v hv
 match j with
 | 0 => obtain rfl := sij hv; exact w0.1
 | 1 => obtain rfl := sij hv; exact w0.2.1
 | 2 => obtain rfl := sij hv; exact w0.2.2.1
 | 3 => obtain rfl := sij hv; exact w0.2.2.2
 | 4 => obtain rfl := sij hv; exact w1.1
 | 5 => obtain rfl := sij hv; exact w1.2.1
 | 6 => obtain rfl := sij hv; exact w1.2.2.1
 | 7 => obtain rfl := sij hv; exact w1.2.2.2
 | 8 => obtain rfl := sij hv; exact w2.1
 | 9 => obtain rfl := sij hv; exact w2.2.1
 | 10 => obtain rfl := sij hv; exact w2.2.2.1
 | 11 => obtain rfl := sij hv; exact w2.2.2.2
 | 12 => obtain rfl := sij hv; exact w3.1
 | 13 => obtain rfl := sij hv; exact w3.2.1
 | 14 => obtain rfl := sij hv; exact w3.2.2.1
 | 15 => obtain rfl := sij hv; exact w3.2.2.2
 | 16 => obtain rfl := sij hv; exact w4.1
 | 17 => obtain rfl := sij hv; exact w4.2.1
 | 18 => obtain rfl := sij hv; exact w4.2.2.1
 | 19 => obtain rfl := sij hv; exact w4.2.2.2
 | 20 => obtain rfl := sij hv; exact w5.1
 | 21 => obtain rfl := sij hv; exact w5.2.1
 | 22 => obtain rfl := sij hv; exact w5.2.2.1
 | 23 => obtain rfl := sij hv; exact w5.2.2.2
 | 24 => obtain rfl := sij hv; exact w6.1
 | 25 => obtain rfl := sij hv; exact w6.2.1
 | 26 => obtain rfl := sij hv; exact w6.2.2.1
 | 27 => obtain rfl := sij hv; exact w6.2.2.2
 | 28 => obtain rfl := sij hv; exact w7.1
 | 29 => obtain rfl := sij hv; exact w7.2.1
 | 30 => obtain rfl := sij hv; exact w7.2.2.1
 | 31 => obtain rfl := sij hv; exact w7.2.2.2
 | 32 => obtain rfl := sij hv; exact w8.1
 | 33 => obtain rfl := sij hv; exact w8.2.1
 | 34 => obtain rfl := sij hv; exact w8.2.2.1
 | 35 => obtain rfl := sij hv; exact w8.2.2.2
 | 36 => obtain rfl := sij hv; exact w9.1
 | 37 => obtain rfl := sij hv; exact w9.2.1
 | 38 => obtain rfl := sij hv; exact w9.2.2.1
 | 39 => obtain rfl := sij hv; exact w9.2.2.2
 | 40 => obtain rfl := sij hv; exact w10.1
 | 41 => obtain rfl := sij hv; exact w10.2.1
 | 42 => obtain rfl := sij hv; exact w10.2.2.1
 | 43 => obtain rfl := sij hv; exact w10.2.2.2
 | 44 => obtain rfl := sij hv; exact w11.1
 | 45 => obtain rfl := sij hv; exact w11.2.1
 | 46 => obtain rfl := sij hv; exact w11.2.2.1
 | 47 => obtain rfl := sij hv; exact w11.2.2.2
 | 48 => obtain rfl := sij hv; exact w12.1
 | 49 => obtain rfl := sij hv; exact w12.2.1
 | 50 => obtain rfl := sij hv; exact w12.2.2.1
 | 51 => obtain rfl := sij hv; exact w12.2.2.2
 | 52 => obtain rfl := sij hv; exact w13.1
 | 53 => obtain rfl := sij hv; exact w13.2.1
 | 54 => obtain rfl := sij hv; exact w13.2.2.1
 | 55 => obtain rfl := sij hv; exact w13.2.2.2
 | 56 => obtain rfl := sij hv; exact w14.1
 | 57 => obtain rfl := sij hv; exact w14.2.1
 | 58 => obtain rfl := sij hv; exact w14.2.2.1
 | 59 => obtain rfl := sij hv; exact w14.2.2.2
 | k + 60 => simp [cells_words] at hv
theorem g_names : Tryz.prog.globalNamed "treenail/block.names" = some 0 := by kernel_rfl
theorem t_names : (Tryz.prog.globals[0]?).map (·.type) = some 132 := by kernel_rfl
def cells_names : List Value := (.string ⟨#[]⟩) :: (.string ⟨#[]⟩) :: (.string ⟨#[]⟩) :: (.string ⟨#[115,101,113]⟩) :: (.string ⟨#[112,97,114]⟩) :: (.string ⟨#[97,108,116]⟩) :: (.string ⟨#[112,105,99,107]⟩) :: (.string ⟨#[108,111,111,112]⟩) :: (.string ⟨#[]⟩) :: (.string ⟨#[119,101,98]⟩) :: (.string ⟨#[]⟩) :: []
theorem met_names {W : World} {g0 : Nat} {t0 : TypeId} {cs0 : Array Value} {f0 : Nat} {p0 : List MemPlace} (hg0 : Tryz.prog.globalNamed "treenail/block.names" = some g0) (ht0 : (Tryz.prog.globals[g0]?).map (·.type) = some t0)
  (hv0 : W.var? Tryz.prog "treenail/block.names" = some cs0) (hd0 : DataW.trod (fun _ => ()) Tryz.prog W 0 (fun _ => true) false f0 t0 cs0.toList = some (Rows.laid_treenail_block_names, p0)) : ∀ (j : Nat) v, cells_names[j]? = some v -> W.cell? ⟨0, j, none⟩ = some v := by
 obtain rfl := sij (g_names.symm.trans hg0)
 obtain rfl := sij (t_names.symm.trans ht0)
 obtain ⟨xs,m1,rfl,hx1,hlen,hn,hel⟩ := DataW.trod_array Tryz.underlying132 hd0
 have hx : xs.map (·.1) = [.lit (.string []),.lit (.string []),.lit (.string []),.lit (.string [115,101,113]),.lit (.string [112,97,114]),.lit (.string [97,108,116]),.lit (.string [112,105,99,107]),.lit (.string [108,111,111,112]),.lit (.string []),.lit (.string [119,101,98]),.lit (.string [])] := by
  have := congrArg Prod.fst hx1
  exact (DataW.agg.inj this).symm
 have c9 : Tryz.prog.cellsOf 9 = 1 := by kernel_rfl
 have hcell : ∀ (j : Nat) (l : List UInt8),j < 11 -> (xs.map (·.1))[j]? = some (.lit (.string l)) -> W.cell? ⟨0,j,none⟩ = some (.string ⟨l.toArray⟩) := by
  intro j l hj hl
  have h1 := hel j hj
  rw [c9,Nat.mul_one] at h1
  rw [List.getElem?_map] at hl
  cases hxj : xs[j]? with
  | none => rw [hxj] at hl; cases hl
  | some y =>
   rw [hxj] at h1 hl
   obtain ⟨s,e1,e2,_⟩ := DataW.trod_string Tryz.underlying9 h1
   subst e2
   simp only [Option.map_some,sjE,DataW.lit.injEq,Lit.string.injEq] at hl
   obtain rfl := lit_bytes hl
   have hv := World.var?_cell hg0 hv0 j
   have hcj : cs0.toList[j]? = some (.string ⟨l.toArray⟩) := by
    have : ((cs0.toList.drop j).take 1)[0]? = some (.string ⟨l.toArray⟩) := by rw [e1]; rfl
    rwa [List.getElem?_take_of_lt (by omega),List.getElem?_drop,Nat.add_zero] at this
   rw [Array.getElem?_toList] at hcj
   rw [hv,hcj]
 rw [hx] at hcell
 intro j v hv
 match j with
 | 0 => obtain rfl := sij hv; exact hcell 0 [] (by omega) rfl
 | 1 => obtain rfl := sij hv; exact hcell 1 [] (by omega) rfl
 | 2 => obtain rfl := sij hv; exact hcell 2 [] (by omega) rfl
 | 3 => obtain rfl := sij hv; exact hcell 3 [115,101,113] (by omega) rfl
 | 4 => obtain rfl := sij hv; exact hcell 4 [112,97,114] (by omega) rfl
 | 5 => obtain rfl := sij hv; exact hcell 5 [97,108,116] (by omega) rfl
 | 6 => obtain rfl := sij hv; exact hcell 6 [112,105,99,107] (by omega) rfl
 | 7 => obtain rfl := sij hv; exact hcell 7 [108,111,111,112] (by omega) rfl
 | 8 => obtain rfl := sij hv; exact hcell 8 [] (by omega) rfl
 | 9 => obtain rfl := sij hv; exact hcell 9 [119,101,98] (by omega) rfl
 | 10 => obtain rfl := sij hv; exact hcell 10 [] (by omega) rfl
 | k + 11 => simp [cells_names] at hv
theorem one_glob {W : World} {gl : Nat} {ds : List D} {vs : List Value} (hd : ds = vs.map .lit) (h1 : ∀ v ∈ vs,v.oneCell' = true) (h : ∀ (j : Nat) v,vs[j]? = some v -> W.cell? ⟨gl,j,none⟩ = some v) :
  ∃ us : Nat -> Value,∀ j d,ds[j]? = some d -> memOf W ⟨gl,j,none⟩ = some (us j) /\ RelD (memOf W) d (us j) := by
 subst hd
 refine ⟨fun j => (W.cell? ⟨gl,j,none⟩).getD undef,fun j d hd => ?_⟩
 rw [List.getElem?_map] at hd
 cases hv : vs[j]? with
 | none => rw [hv] at hd; cases hd
 | some v =>
  rw [hv] at hd
  obtain rfl := sij hd
  have e := h j v hv
  simp only [memOf,e,Option.getD_some]
  exact ⟨trivial,.lit _ (h1 v (mog hv))⟩
abbrev laidNames : List (String × DataW Unit) := [("treenail/term.words", Rows.laid_treenail_term_words), ("treenail/block.names", Rows.laid_treenail_block_names)]
theorem glob_ok {W : World} (h : laidMetH Tryz.prog laidNames W) : GlobOk cfg (gh0 cfg W) := by
 rw [MakeChecks.laidMetH_plain _ _ _ (by kernel_rfl)] at h
 obtain ⟨ps,⟨g0,t0,cs0,f0,p0,q0,hg0,ht0,hv0,hd0,⟨g1,t1,cs1,f1,p1,q1,hg1,ht1,hv1,hd1,_,_⟩,_⟩,_,_⟩ := h
 have m_words := met_words hg0 ht0 hv0 hd0
 have m_names := met_names hg1 ht1 hv1 hd1
 refine ⟨fun gl cs hgl => ?_,rfl⟩
 change glT gl = some cs at hgl
 unfold glT at hgl
 split at hgl
 ·exact one_glob (vs := cells_names) (sij hgl).symm (by decide) m_names
 ·exact one_glob (vs := cells_words) (sij hgl).symm (by decide) m_words
 ·cases hgl
open Go.ChangeShapes Go.WideShapes Go.ChangeAt Go.WideElems Go.RowKit
theorem own : ownKnob Tryz.prog.godebug = none := by kernel_rfl
theorem laidOut : laidOutB Tryz.prog = true := by kernel_rfl
theorem door_met (os : Os) (args : Array Value) : laidMetH Tryz.prog laidNames ((World.doorLaid Tryz.prog 400 os).forCall (fun _ _ => 0) ⟨#[],args,[]⟩).memory :=
 laidMetH_of_parts3 (fuel := 8) (laidMet_of_run' 8 (by kernel_rfl) (by kernel_rfl)) (by kernel_rfl) (by kernel_rfl)
section
variable {H : Type} {enc : TypeId × Value -> H} {P : Program}
theorem post_below {f : Func} {s : ChangeSpec} {apart fresh handsOn again : Bool} {W W' : World} {args : Array Value} {v : Value} {ds gs : List (DataW H)} {before pa pv : List MemPlace}
  (hW : DataW.Whole enc P f.params.toList s.vars apart W args.toList ds gs before)
  (hres : ∀ (b : Nat) (sp : Nat -> Bool) (hd : Bool),DataW.TrodAll enc P W' b sp hd f.resultTypes.toList (v.resultList f.resultTypes.size) (s.fn H (ds ++ gs)).results [])
  (hargs : ∀ sp : Nat -> Bool,(∀ p ∈ before,sp p.block = true) -> DataW.TrodAll enc P W' 0 sp true f.params.toList args.toList (s.fn H (ds ++ gs)).args pa)
  (hvars : ∀ sp : Nat -> Bool,(∀ p ∈ before,sp p.block = true) -> DataW.TrodVars enc P W' sp s.vars (s.fn H (ds ++ gs)).vars pv)
  (hps : before = pa ++ pv) (hb : Below W.heap.size W W')
  (hok : ∀ (j : Nat) (t : TypeId) (r : Value),f.resultTypes[j]? = some t -> (v.resultList f.resultTypes.size)[j]? = some r -> Value.okWide P W' .any 0 t r) :
  s.post enc P f apart fresh handsOn again W args v W' := by
 have hlt : ∀ p ∈ before,p.block < W.heap.size := fun p hp => hW.lt p hp
 have hold : ∀ p ∈ before,(fun b => decide (b < W.heap.size)) p.block = true := fun p hp => by simpa using hlt p hp
 refine ⟨ds,gs,before,[],pa,pv,hW,hres _ _ _,hargs _ hold,hvars _ hold,World.keptBut_mono (fun p hp => ⟨hp,?_⟩) (hb.frame (· ∈ before)),fun _ => ?_⟩
 ·rw [hps,List.mem_append] at hp
  exact Or.inr hp
 ·obtain ⟨_,_,_,_,_,hz,hn⟩ := hW
  refine ⟨hok,_,_,([] ++ pa) ++ pv,⟨[] ++ pa,pv,trodAll_append (hargs _ (fun _ _ => rfl)) (hres _ _ _),hvars _ (fun _ _ => rfl),rfl,?_,?_⟩,?_⟩
  ·intro b off hp
   have hin : MemPlace.cell b off ∈ before := by rw [hps]; simpa using hp
   rw [hb.frozen (hlt _ hin)]
   exact hz b off hin
  ·intro ha
   have := hn ha
   rw [hps] at this
   simpa using this
  ·intro p hp _
   rw [hps]
   simpa using hp
end
end Go.Proofs.YtifckjhggamefaaGreatDoor
