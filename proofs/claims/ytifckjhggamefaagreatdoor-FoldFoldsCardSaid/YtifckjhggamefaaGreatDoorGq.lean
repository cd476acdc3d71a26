/- What the folder's inRow answers. No condition. -/
import Derived.Test.YtifckjhggamefaaGreatDoorGd
import Derived.Test.YtifckjhggamefaaGreatDoorGp
import Derived.Test.YtifckjhggamefaaGreatDoorGl
import Derived.Test.YtifckjhggamefaaGreatDoorGi
import Derived.Test.YtifckjhggamefaaGreatDoorGa
import Derived.Test.YtifckjhggamefaaGreatDoorGk
import Derived.Test.YtifckjhggamefaaGreatDoorGo
import Derived.Test.YtifckjhggamefaaGreatDoorPb
set_option linter.unusedSimpArgs false
set_option linter.unusedVariables false
set_option linter.unusedSectionVars false
namespace Go.Proofs.YtifckjhggamefaaGreatDoor
open Go Go.Vx
set_option maxRecDepth 10000
set_option maxHeartbeats 1000000
theorem parts_len {n : Nt} {w : Wb} (hw : InvW n w) {i : Nat} {b : Blk} (h : w.ks[i]? = some b) : (partsB b).length <= 64 /\ (partsB b).length <= szB b := by
 have h1 := parts_size b
 have h2 := szBs_len (xs := partsB b)
 have h3 := set_size (c := b) h
 have h4 := hw.size
 have h5 : szB b <= sizeW w.ks := by
  have : w.ks.set i b = w.ks := set_same h
  have h6 := dropK_sum (gone := fun x => !(x == i)) (bs := w.ks) (i := 0)
  have h7 := sum_split (fun x => x == i) (bs := w.ks) (i := 0)
  have h8 := sum_one (a := i) (bs := w.ks) (i := 0) (Nat.zero_le _)
  rw [Nat.sub_zero, h] at h8
  simp only at h8
  omega
 omega
theorem setFrom_map {ls : List Lk} {k : Nat} {a : Int} : (setFrom ls k a).map lnkD = (ls.map lnkD).set k [dI a, dI (lkW ls k).2.1, dI (lkW ls k).2.2] := by
 rw [setFrom, List.map_set]; rfl
theorem setFrom_len {ls : List Lk} {k : Nat} {a : Int} : (setFrom ls k a).length = ls.length := by simp [setFrom]
structure FB (bx : List Box) (l : Nat) (N F : D) (w : Wb) : Prop where
 lt : l < bx.length
 get : bx[l]? = some [.dat N, .dat F, .own true 5 (cB.cBs w.ks), .own true 3 (w.ls.map lnkD)]
 n : Oq N
 f : Oq F
theorem fbox_ne {N F : D} {w : Wb} (h : w.ks ≠ []) (h2 : w.ls ≠ []) : fbox N F w = [.dat N, .dat F, .own true 5 (cB.cBs w.ks), .own true 3 (w.ls.map lnkD)] := by
 rw [fbox, mkS_ne (by simpa [cBs_map] using h), mkS_ne (by simpa using h2)]
theorem FB.ex {bx : List Box} {l : Nat} {N F : D} {w : Wb} (h : FB bx l N F w) (r : List Box) : FB (bx ++ r) l N F w := ⟨by have := h.lt; simp; omega, by rw [gal h.lt]; exact h.get, h.n, h.f⟩
theorem FB.set {bx : List Box} {l : Nat} {N F : D} {w w' : Wb} (h : FB bx l N F w) : FB (bx.set l [.dat N, .dat F, .own true 5 (cB.cBs w'.ks), .own true 3 (w'.ls.map lnkD)]) l N F w' := ⟨by have := h.lt; simpa using this, by rw [gss h.lt], h.n, h.f⟩
theorem outs1 {n : Nt} {w : Wb} (hw : InvW n w) {a : Nat} (ha : a < w.ks.length) (hg : gateW w.ks a = false) : outsW w.ls a = [hd (outsW w.ls a)] /\ hd (outsW w.ls a) < w.ls.length := by
 have hk := gge ha
 have h2 := (hw.kid a _ hk).one (by rw [gate_iff hk] at hg; simpa using hg)
 exact ⟨hd_one h2.2, (outsW_lt (hd_mem (by rw [h2.2]; exact Nat.one_pos))).1⟩
theorem inRow_at {n : Nt} {w : Wb} {bx : List Box} {l : Nat} {N F : D} (hw : InvW n w) (hB : FB bx l N F w) {a : Nat} (ha : a < w.ks.length) :
  match oneAt w a with
  | none => Jq (.loop 62 2 (q0 bx (sh62_2 (.ptr l 0) (I (cB.cBs w.ks).length) (I a)))) = ev cfg (.loop 62 2 (q0 bx (sh62_2 (.ptr l 0) (I (cB.cBs w.ks).length) (I ((a + 1 : Nat) : Int)))))
  | some x => Jq (.loop 62 2 (q0 bx (sh62_2 (.ptr l 0) (I (cB.cBs w.ks).length) (I a)))) = some (.loop .ret ⟨(se62_2 (B true)), bx.set l (fbox N F x), bx.length, some l, false⟩) := by
 obtain ⟨hl, hb, hN, hF⟩ := hB
 have hlens := hw.lens
 have hkl : (cB.cBs w.ks).length = w.ks.length := cBs_len _
 have hlt : a < (cB.cBs w.ks).length := by rw [hkl]; exact ha
 have hmax : (cB.cBs w.ks).length < 9223372036854775808 := by rw [hkl]; omega
 have hg := gateW_ev hl hb (q := (a : Int)) (by omega)
 cases hgw : gateW w.ks a with
 | true =>
  rw [hgw] at hg
  have e : oneAt w a = none := by rw [oneAt, if_pos hgw]
  rw [e]
  exact finrow_g hl hb hlt hmax hg
 | false =>
  rw [hgw] at hg
  obtain ⟨ho1, hol⟩ := outs1 hw ha hgw
  have ho := outsW_ev hl hb (by omega) (a : Int)
  have eone : oneAt w a = if (decide (toW w.ls (hd (outsW w.ls a)) < 0) || (toW w.ls (hd (outsW w.ls a)) == (a : Int) || gateW w.ks (toW w.ls (hd (outsW w.ls a))))) = true then none
   else some (dropW ⟨w.ks.set a (rowB (partsB ((kidW w.ks a).getD emptyB) ++ partsB ((kidW w.ks (toW w.ls (hd (outsW w.ls a)))).getD emptyB))), setFrom w.ls (hd (outsW w.ls (toW w.ls (hd (outsW w.ls a))))) a⟩ [toW w.ls (hd (outsW w.ls a))] [hd (outsW w.ls a)]) := by
   rw [oneAt, if_neg (by rw [hgw]; exact fnt)]
  rw [eone]
  clear eone
  rw [ho1] at ho
  generalize hd (outsW w.ls a) = o at *
  have ho : ev cfg (.call 84 [.ptr l 0, I a] bx) = Rq (.own true 1 ([dI o] :: [])) := ho
  have hget := lnk_getk hol
  have hto : (lkW w.ls o).2.1 = toW w.ls o := rfl
  have hrng := (hw.rng _ (mog (lk_of hol))).2.1
  rw [hto] at hget hrng
  by_cases h0 : toW w.ls o < 0
  ·rw [if_pos (by simp [h0])]
   exact finrow_neg hl hb hlt hmax hg ho hget (dqt h0)
  have h0' : decide (toW w.ls o < 0) = false := dqf h0
  by_cases hs : toW w.ls o = a
  ·rw [if_pos (by simp [hs])]
   exact finrow_self hl hb hlt hmax hg ho hget h0' (by simpa using hs)
  have hs' : (toW w.ls o == (a : Int)) = false := beq_eq_false_iff_ne.2 hs
  have hg2 := gateW_ev hl hb hrng.2
  cases hgb : gateW w.ks (toW w.ls o) with
  | true =>
   rw [hgb] at hg2
   rw [if_pos (by simp)]
   exact finrow_gb hl hb hlt hmax hg ho hget h0' hs' hg2
  | false =>
   rw [hgb] at hg2
   rw [if_neg (by rw [h0', hs']; exact fnt)]
   obtain ⟨b, hbq⟩ : ∃ b : Nat, toW w.ls o = b := ⟨(toW w.ls o).toNat, by omega⟩
   rw [hbq] at hs' hg2 hgb hrng hget ⊢
   have hbl : b < w.ks.length := by omega
   obtain ⟨hob1, hobl⟩ := outs1 hw hbl hgb
   have hka := gge ha
   have hkb := gge hbl
   obtain ⟨pa1, pa2⟩ := parts_len hw hka
   obtain ⟨pb1, pb2⟩ := parts_len hw hkb
   have koA := hw.kid a _ hka
   have koB := hw.kid b _ hkb
   have hna := parts_ne koA.ne.1 koA.seq
   have hnb := parts_ne koB.ne.1 koB.seq
   rw [kid_nat, kid_nat, hka, hkb]
   simp only [Option.getD_some]
   have hra := cBs_get hka
   have hrb := cBs_get hkb
   have hpa := fun bx : List Box => partsW_ev w.ks[a] bx
   have hpb := fun bx : List Box => partsW_ev w.ks[b] bx
   generalize w.ks[a] = A at *
   generalize w.ks[b] = B at *
   cases hPA : partsB A with
   | nil => rw [hPA] at hna; simp at hna
   | cons x pa =>
   cases hPB : partsB B with
   | nil => rw [hPB] at hnb; simp at hnb
   | cons y pb =>
   rw [hPA] at hpa pa1
   rw [hPB] at hpb pb1
   have hrow := fun bx : List Box => rowW_ev (bs := x :: pa ++ y :: pb) (.inl rfl) (by simp at pa1 pb1 ⊢; omega) bx
   have hR : rowB (x :: pa ++ y :: pb) = .mk 3 0 0 (x :: pa ++ y :: pb) [] := row_many (by simp; omega)
   rw [hR] at hrow ⊢
   have ecs : cB.cBs (x :: pa ++ y :: pb) = cB x :: (cB.cBs pa ++ cB y :: cB.cBs pb) := by rw [cBs_app]; rfl
   have erow : cB (.mk 3 0 0 (x :: pa ++ y :: pb) []) = [dI 3, dI 0, dI 0, .sl 5 (cB x :: (cB.cBs pa ++ cB y :: cB.cBs pb)), .nil] := by
    rw [cB, ecs]; rfl
   have epv : pB (.mk 3 0 0 (x :: pa ++ y :: pb) []) = Wq 3 0 0 (.sl 5 (cB x :: (cB.cBs pa ++ cB y :: cB.cBs pb))) .nil := by
    rw [pB, ecs]; rfl
   rw [epv] at hrow
   rw [ecs] at hrow
   generalize hWR : Blk.mk 3 0 0 (x :: pa ++ y :: pb) [] = R at erow
   have hset : (cB.cBs w.ks).set a [dI 3, dI 0, dI 0, .sl 5 (cB x :: (cB.cBs pa ++ cB y :: cB.cBs pb)), .nil] = cB.cBs (w.ks.set a R) := by rw [<- erow, cBs_set]
   generalize hqo2 : hd (outsW w.ls b) = o2 at *
   have hget2 := lnk_getk hobl
   have hFB1 : FB (bx.set l [.dat N, .dat F, .own true 5 (cB.cBs (w.ks.set a R)), .own true 3 (w.ls.map lnkD)]) l N F ⟨w.ks.set a R, w.ls⟩ := FB.set (w := w) (w' := ⟨w.ks.set a R, w.ls⟩) ⟨hl, hb, hN, hF⟩
   have hFB2 : FB (bx.set l [.dat N, .dat F, .own true 5 (cB.cBs (w.ks.set a R)), .own true 3 ((setFrom w.ls o2 a).map lnkD)]) l N F ⟨w.ks.set a R, setFrom w.ls o2 a⟩ := FB.set (w := w) (w' := ⟨w.ks.set a R, setFrom w.ls o2 a⟩) ⟨hl, hb, hN, hF⟩
   have ho2 := outsW_ev hFB1.lt hFB1.get (show w.ls.length <= 1000 by omega) (b : Int)
   rw [hob1] at ho2
   have hdr := dropW_ev (w := ⟨w.ks.set a R, setFrom w.ls o2 a⟩) (gone := [(b : Int)]) (cut := [o]) (X := .sl 1 [[dI (b : Nat)]]) (Z := .sl 1 [[dI o]]) (by simp only [lls, setFrom_len]; omega) (by
    simp only [lls]
    refine setFrom_rng (fun l hl => ⟨(hw.rng l hl).1, (hw.rng l hl).2.1⟩) fun hk => ⟨?_, (hw.rng _ (mog (lk_of hk))).2.1⟩
    constructor
    ·show (-1 : Int) <= (a : Int); omega
    ·show (a : Int) < _; omega) hFB2.lt hFB2.get ⟨1, rfl, by simp, rfl⟩ ⟨1, rfl, by simp, rfl⟩ (by simp)
   rw [List.set_set] at hdr
   rw [setFrom_map] at hdr
   rw [<- hset] at ho2 hdr
   cases A
   cases B
   exact finrow_go (a1 := cB x) (b1 := cB y) (pa := cB.cBs pa) (pb := cB.cBs pb) hl hb hlt hmax hg ho hget hs' hg2 hra hrb (mkD_one 5 _) (mkD_one 3 _) (mkD_one 5 _) (mkD_one 3 _) hpa hpb (fun bx => clone5_ev (rows := cB x :: cB.cBs pa) (by rw [List.length_cons, cBs_len]; simp at pa1; omega) bx)
    (by rw [cBs_len, cBs_len]; simp at pa1 pb1; omega) hrow ho2 hget2 hdr
theorem inRow_ev {n : Nt} {w : Wb} {bx : List Box} {l : Nat} {N F : D} (hw : InvW n w) (hB : FB bx l N F w) :
  ev cfg (.call 62 [.ptr l 0] bx) = match firstAt (oneAt w) 0 w.ks.length with
   | none => (Rq (B false))
   | some x => some (.ret (B true) (some ⟨bx.set l (fbox N F x), l, false⟩)) := by
 have hkl : (cB.cBs w.ks).length = w.ks.length := cBs_len _
 have loop : ∀ (m i : Nat), i + m = w.ks.length -> ev cfg (.loop 62 2 (q0 bx (sh62_2 (.ptr l 0) (I (cB.cBs w.ks).length) (I i)))) = match firstAt (oneAt w) i m with
   | none => some (.loop (.exit 0) (q0 bx (se62_2 .dead)))
   | some x => some (.loop .ret ⟨(se62_2 (B true)), bx.set l (fbox N F x), bx.length, some l, false⟩) := by
  intro m
  induction m with
  | zero =>
   intro i hi
   exact es (finrow_end hB.lt (by rw [hkl]; omega))
  | succ m ih =>
   intro i hi
   have h := inRow_at hw hB (a := i) (by omega)
   rw [firstAt]
   cases ho : oneAt w i with
   | none =>
    rw [ho] at h
    have h2 := ih (i + 1) (by omega)
    rw [<- h] at h2
    simp only
    cases hf : firstAt (oneAt w) (i + 1) m <;> (rw [hf] at h2; exact es h2)
   | some x =>
    rw [ho] at h
    exact es h
 have h := loop w.ks.length 0 (Nat.zero_add _)
 cases hf : firstAt (oneAt w) 0 w.ks.length with
 | none => rw [hf] at h; exact es (finrow_f hB.lt hB.get h)
 | some x => rw [hf] at h; exact es (finrow_t hB.lt hB.get h)
def ofT (t : Trm) (k : Int) : Bool := (checkT t).2 == 0 && (checkT t).1 == k
def natR (ks : List Nat) : List (List D) := ks.map fun (k : Nat) => [dI ((k : Nat) : Int)]
theorem none_ev (t : Trm) {op n : Int} {K : D} (h : IsT t op n K) (bx : List Box) : ev cfg (.call 134 [Tq op n K] bx) = Rq (B (noneT t)) := by
 obtain ⟨op', n', ks⟩ := t
 rw [IsT] at h
 obtain ⟨rfl, rfl, _, _, rows, hK, hks, _⟩ := h
 rw [es (none_r hK), isTs_len hks]
 have e : (op == 0 && (n == 0 && (ks.length : Int) == 0)) = noneT (.mk op n ks) := by
  rw [noneT, <- Bool.and_assoc]
  congr 1
  cases ks with
  | nil => rfl
  | cons b bs =>
   have : (((b :: bs).length : Int) == 0) = false := by rw [beq_eq_false_iff_ne]; simp; omega
   rw [this]; rfl
 rw [e]
theorem of_ev (t : Trm) {op n : Int} {K : D} (h : IsT t op n K) (hz : sizeT t <= 1000000) (k : Int) (bx : List Box) : ev cfg (.call 133 [Tq op n K, I k] bx) = Rq (B (ofT t k)) :=
 es (of_r (isT_one h) fun bx => check_ev t h hz bx)
theorem zero_is : IsT (.mk 0 0 []) 0 0 .nil := by
 rw [IsT]
 exact ⟨rfl, rfl, ⟨by omega, by omega⟩, ⟨by omega, by omega⟩, [], mkD_is 3 [], rfl, by decide⟩
theorem right_ev (x : Nd) {op n : Int} {K : D} (h : IsT x.t op n K) (hz : sizeT x.t <= 1000000) (bx : List Box) : ev cfg (.call 109 [.agg [I x.k, I x.a, I op, I n, .dat K]] bx) = Rq (B (rightN ofT x)) := by
 obtain ⟨k, a, t⟩ := x
 simp only at h hz ⊢
 have hn := fun bx : List Box => none_ev t h bx
 have ho := fun bx : List Box => of_ev t h hz 1 bx
 by_cases h4 : k = 4
 ·subst h4
  rw [rightN, if_pos rfl]
  simp only
  cases hb : ofT t 1 with
  | false =>
   rw [hb] at ho
   exact es (right_4n (isT_one h) ho)
  | true =>
   rw [hb] at ho
   rw [es (right_4y (isT_one h) ho fun bx => none_ev _ zero_is bx)]
   rfl
 ·rw [rightN, if_neg h4]
  simp only
  by_cases h3 : k = 3
  ·subst h3
   rw [es (right_3 (isT_one h) hn)]
   simp only [most, if_true, Bool.and_assoc]
   all_goals rfl
  ·by_cases h8 : k = 8
   ·subst h8
    rw [es (right_8 (isT_one h) hn)]
    simp only [most, if_true, Bool.and_assoc]
    all_goals rfl
   ·rw [es (right_o (isT_one h) (by simpa using h4) (by simpa using h3) (by simpa using h8) hn)]
    simp only [most, if_neg h3, if_neg h8, Bool.and_assoc]
    all_goals rfl
theorem isN_one {n : Nt} {N F : D} (h : IsN n N F) : Oq N /\ Oq F := by
 obtain ⟨nr, fr, ⟨_, _, _, h1⟩, _, _, ⟨_, _, _, h2⟩, _⟩ := h
 exact ⟨h1, h2⟩
theorem natR_app (xs ys : List Nat) : natR (xs ++ ys) = natR xs ++ natR ys := by simp [natR]
theorem natR_len (xs : List Nat) : (natR xs).length = xs.length := by simp [natR]
theorem flows_ev {n : Nt} {N F : D} {g : FuncId} {l : Nat} (p : Fl -> Bool) (h : IsN n N F) (hsz : n.flows.length <= 1000000) {bx : List Box} (hl : l < bx.length)
  (hcall : ∀ (f : Fl) op m K, IsT f.c op m K -> ∀ r : List Box, ev cfg (.call g [.agg [I f.fr, I f.to, B f.els, I op, I m, .dat K], .ptr l 0] (bx ++ r)) = Rq (B (p f))) :
  ev cfg (.call 123 [Nq N F, .clo g [l]] bx) = Rq (.dat (mkD 1 (natR (idxs p 0 n.flows)))) := by
 have hone := (isN_one h).1
 obtain ⟨nr, fr, hN, _, _, hF, hfr, hmax⟩ := h
 have hlen : fr.length = n.flows.length := hfr.1
 have loop : ∀ (fs : List Fl) (i : Nat) (acc : List Nat), n.flows.drop i = fs -> acc.length <= i -> ∀ c : Box, c.all (cellLt (bx.length + 1)) = true →
   ev cfg (.loop 123 3 (qs bx (sh123_3 (.clo g [l]) (mkS 1 (natR acc)) (.dat F) (I fr.length) (I i)) [c])) = some (.loop (.exit 0) (qs bx (se123_3 (mkS 1 (natR (acc ++ idxs p i fs)))) [c])) := by
  intro fs
  induction fs with
  | nil =>
   intro i acc hd ha c hc
   rw [idxs, List.append_nil]
   exact es (flows_end rfl hl hc (by rw [hlen]; exact drop_nil hd))
  | cons f fs ih =>
   intro i acc hd ha c hc
   obtain ⟨hget, hd', hlt⟩ := drop_cons hd
   obtain ⟨row, hrow, _, _, op, m, K, rfl, hT⟩ := hfr.2 i f hget
   have hc1 := hcall f op m K hT
   have hks : ((natR acc).length + 1) * 8 <= 140737488355328 := by rw [natR_len]; omega
   have e : acc ++ idxs p i (f :: fs) = (if p f = true then acc ++ [i] else acc) ++ idxs p (i + 1) fs := by
    rw [idxs]
    split <;> simp
   rw [e]
   have hacc : (if p f = true then acc ++ [i] else acc).length <= i + 1 := by split <;> (try simp) <;> omega
   have := ih (i + 1) (if p f = true then acc ++ [i] else acc) hd' hacc c hc
   refine es (Eq.trans ?_ this)
   cases acc with
   | nil =>
    refine (flows_round0 hF hl hc hrow (by rw [hlen]; exact hlt) (by rw [hlen]; exact hmax) (isT_one hT) hc1).trans ?_
    cases p f <;> rfl
   | cons a acc =>
    refine (flows_round1 (rs := natR (a :: acc)) hF hl hc hrow (by rw [hlen]; exact hlt) (by rw [hlen]; exact hmax) (isT_one hT) hks hc1).trans ?_
    cases p f
    ·rfl
    ·simp only [if_true, natR_app]; rfl
 refine es (flows_f hone hF hl fun c hc => ?_)
 have := loop n.flows 0 [] rfl (Nat.le_refl _) c hc
 rw [List.nil_append] at this
 exact this
theorem outs_ev {n : Nt} {N F : D} (h : IsN n N F) (hsz : n.flows.length <= 1000000) (i : Int) (bx : List Box) : ev cfg (.call 78 [Nq N F, I i] bx) = Rq (.dat (mkD 1 (natR (outsN n i)))) := by
 refine es (outs_f (isN_one h).1 (isN_one h).2 (mkD_one _ _) fun c => ?_)
 exact flows_ev (fun f => f.fr == i) h hsz (by simp) fun f op m K hT r => es (outs1_f (isT_one hT) (by simp) (by simp))
theorem ins_ev {n : Nt} {N F : D} (h : IsN n N F) (hsz : n.flows.length <= 1000000) (i : Int) (bx : List Box) : ev cfg (.call 82 [Nq N F, I i] bx) = Rq (.dat (mkD 1 (natR (insN n i)))) := by
 refine es (ins_f (isN_one h).1 (isN_one h).2 (mkD_one _ _) fun c => ?_)
 exact flows_ev (fun f => f.to == i) h hsz (by simp) fun f op m K hT r => es (ins1_f (isT_one hT) (by simp) (by simp))
theorem index_ev {n : Nt} {N F : D} (h : IsN n N F) {g : FuncId} (k : Int) (hcall : ∀ (x : Nd) op m K, IsT x.t op m K -> ∀ bx : List Box, ev cfg (.call g [.agg [I x.k, I x.a, I op, I m, .dat K]] bx) = Rq (B (x.k == k))) (bx : List Box) :
  ev cfg (.call 138 [.dat N, .clo g []] bx) = Rq (I (firstK k 0 n.nodes)) := by
 obtain ⟨nr, fr, hN, hnr, hmax, _⟩ := h
 have hlen : nr.length = n.nodes.length := hnr.1
 have loop : ∀ (xs : List Nd) (i : Nat), n.nodes.drop i = xs -> ∃ y : Option Int, firstK k i xs = y.getD (-1) /\ ev cfg (.loop 138 2 (q0 bx (sh138_2 (.dat N) (.clo g []) (I nr.length) (I i)))) = some (match y with
   | some j => .loop .ret (q0 bx (se138_2 (I j)))
   | none => .loop (.exit 0) (q0 bx (se138_2 .dead))) := by
  intro xs
  induction xs with
  | nil =>
   intro i hd
   exact ⟨none, rfl, es (index_end (by rw [hlen]; exact drop_nil hd))⟩
  | cons x xs ih =>
   intro i hd
   obtain ⟨hget, hd', hlt⟩ := drop_cons hd
   obtain ⟨row, hrow, _, _, op, m, K, rfl, hT⟩ := hnr.2 i x hget
   have hr := index_round (bx := bx) hN hrow (by rw [hlen]; exact hlt) (by rw [hlen]; exact hmax) (isT_one hT) (fun bx => hcall x op m K hT bx)
   rw [firstK]
   by_cases hx : x.k = k
   ·rw [if_pos hx]
    rw [show (x.k == k) = true by simpa using hx, if_pos rfl] at hr
    exact ⟨some i, rfl, es hr⟩
   ·rw [if_neg hx]
    rw [show (x.k == k) = false by simpa using hx, if_neg (by decide)] at hr
    obtain ⟨y, h1, h2⟩ := ih (i + 1) hd'
    exact ⟨y, by simpa using h1, es (hr.trans h2)⟩
 obtain ⟨y, h1, h2⟩ := loop n.nodes 0 rfl
 have h1' : firstK k 0 n.nodes = y.getD (-1) := h1
 rw [h1']
 exact es (index_f hN h2)
theorem start_ev {n : Nt} {N F : D} (h : IsN n N F) (bx : List Box) : ev cfg (.call 114 [Nq N F] bx) = Rq (I (startN n)) :=
 es (start_f (isN_one h).1 (isN_one h).2 fun bx => index_ev h 1 (fun x op m K hT bx => es (start1_f (isT_one hT))) bx)
theorem end_ev {n : Nt} {N F : D} (h : IsN n N F) (bx : List Box) : ev cfg (.call 115 [Nq N F] bx) = Rq (I (endN n)) :=
 es (end_f (isN_one h).1 (isN_one h).2 fun bx => index_ev h 2 (fun x op m K hT bx => es (end1_f (isT_one hT))) bx)
theorem lead1_ev {n : Nt} {N F : D} (h : IsN n N F) (q : Int) {bx : List Box} {l : Nat} (hb : bx[l]? = some (Nb N F)) : ev cfg (.call 135 [I q, .ptr l 0] bx) = Rq (B (inN n q)) := by
 obtain ⟨nr, fr, hN, hnr, _⟩ := h
 rw [es (leads1_f hN (gsi.1 hb).1 hb), hnr.1]
 rfl
theorem leads_ev {n : Nt} {N F : D} (h : IsN n N F) (hsz : n.flows.length <= 1000000) (f : Fl) {op m : Int} {K : D} (hT : IsT f.c op m K) (hz : sizeT f.c <= 1000000) (bx : List Box) :
  ev cfg (.call 111 [Nq N F, .agg [I f.fr, I f.to, B f.els, I op, I m, .dat K]] bx) = Rq (B (leadsN ofT n f)) := by
 have h1 := fun c : Box => lead1_ev h f.fr (bx := bx ++ [Nb N F, c]) (l := bx.length) (by simp)
 have h2 := fun c : Box => lead1_ev h f.to (bx := bx ++ [Nb N F, c]) (l := bx.length) (by simp)
 obtain ⟨o1, o2⟩ := isN_one h
 cases c1 : inN n f.fr with
 | false =>
  rw [c1] at h1
  have e : leadsN ofT n f = false := by simp [leadsN, c1]
  rw [e]
  exact es (leads_no1 o1 o2 (isT_one hT) h1)
 | true =>
  rw [c1] at h1
  cases c2 : inN n f.to with
  | false =>
   rw [c2] at h2
   have e : leadsN ofT n f = false := by simp [leadsN, c2]
   rw [e]
   exact es (leads_no2 o1 o2 (isT_one hT) h1 h2 (.inl rfl))
  | true =>
   rw [c2] at h2
   cases c3 : (f.fr == f.to) with
   | true =>
    have e : leadsN ofT n f = false := by simp [leadsN, bne, c3]
    rw [e]
    exact es (leads_no2 o1 o2 (isT_one hT) h1 h2 (.inr c3))
   | false =>
    have hin : 0 <= f.fr /\ f.fr < n.nodes.length := by simpa [inN] using c1
    obtain ⟨p, hp⟩ : ∃ p : Nat, f.fr = p := ⟨f.fr.toNat, by omega⟩
    have hpl : p < n.nodes.length := by omega
    have hh := h
    obtain ⟨nr, fr, hN, hnr, _⟩ := hh
    obtain ⟨row, hrow, _, _, op2, m2, K2, rfl, hT2⟩ := hnr.get hpl
    have hO := fun bx : List Box => outs_ev h hsz f.fr bx
    have hkind : kindN n f.fr = n.nodes[p].k := by
     rw [kindN, if_neg (by omega), hp]
     simp [hpl]
    rw [hp] at h1 c3 hO ⊢
    rw [es (leads_go (e := f.els) (op := op) (n := m) (K := K) hN o2 (isT_one hT) h1 h2 c3 hrow (mkD_is _ _) hO (fun bx => none_ev f.c hT bx) fun bx => of_ev f.c hT hz 2 bx)]
    congr 4
    rw [natR_len]
    have e : leadsN ofT n f = if kindN n f.fr ≠ 5 ∨ (outsN n f.fr).length < 2 then !f.els && noneT f.c else if f.els = true then noneT f.c else ofT f.c 2 := by
     rw [leadsN, c1, c2]
     have : (f.fr != f.to) = true := by rw [bne, hp, c3]; rfl
     rw [this]; rfl
    rw [e, hkind, <- hp]
    congr 1
    simp only [Bool.or_eq_true, bne_iff_ne, ne_eq, dqE]
    refine propext (or_congr Iff.rfl ?_)
    rw [hp]; omega
theorem rlnk_loop : ∀ (ls : List (Int × Int × Int)) {lr acc : List (List D)} {L : D} {i : Nat} {bx : List Box} {c z : Box} {k0 n0 a0 : Int} {Y : PV}, IsS 3 lr L -> lr.drop i = ls.map lnkD -> lr.length < 9223372036854775808 -> c.all (cellLt (bx.length + 3)) = true -> z.all (cellLt (bx.length + 3)) = true -> cellLt (bx.length + 3) Y = true -> acc.length + ls.length <= 1000 →
  ev cfg (.loop 13 8 (qs bx (sh13_8 (P1 bx) (P2 bx) (.dat L) (I lr.length) (I i)) [c, z, [I k0, I n0, I a0, Y, mkS 3 acc]])) =
   some (.loop (.exit 2) (qs bx (se13_8 (P1 bx) (P2 bx)) [c, z, [I k0, I n0, I a0, Y, mkS 3 (acc ++ ls.map lnkD)]]))
 | [], lr, acc, L, i, bx, c, z, k0, n0, a0, Y, hL, hr, hmax, hc, hz, hy, hs => by
  rw [List.map_nil, List.append_nil]
  exact es (e12b hc hz hy (by cases acc <;> rfl) (drop_nil hr))
 | x :: ls, lr, acc, L, i, bx, c, z, k0, n0, a0, Y, hL, hr, hmax, hc, hz, hy, hs => by
  rw [List.map_cons] at hr
  obtain ⟨hget, hr', hlt⟩ := drop_cons hr
  rw [List.length_cons] at hs
  have ih := rlnk_loop ls (acc := acc ++ [lnkD x]) (i := i + 1) (bx := bx) (c := c) (z := z) (k0 := k0) (n0 := n0) (a0 := a0) (Y := Y) hL hr' hmax hc hz hy (by simp; omega)
  rw [List.append_assoc, List.singleton_append, <- List.map_cons] at ih
  rw [mkS_snoc] at ih
  cases acc with
  | nil => exact es ((r12bn (f := x.1) (t := x.2.1) (w := x.2.2) hL hc hz hy hget hlt hmax).trans ih)
  | cons y acc => exact es ((r12b (f := x.1) (t := x.2.1) (w := x.2.2) (ls := y :: acc) hL hc hz hy hget hlt hmax (by simp at hs ⊢; omega)).trans ih)
theorem ref_ev : ∀ (b : Blk) {k n a : Int} {K L : D}, IsB b k n a K L -> okB b -> ∃ M N, IsB b k n a M N /\ Cq 13 [Wq k n a K L] (Wq k n a M N)
 | .mk _ _ _ ks ls, k, n, a, K, L, h, hok => by
  rw [IsB] at h
  obtain ⟨rfl, rfl, rfl, ik, hn, ha, rows, hK, hks, hmax, hL, hlm, hx⟩ := h
  rw [okB] at hok
  obtain ⟨o1, o2, o3⟩ := hok
  obtain ⟨rows', hr', hloop⟩ := loop ks (i := 0) hK rfl hks (by rw [isBs_len hks]; exact hmax) o3
  refine ⟨mkD 5 rows', mkD 3 (ls.map lnkD), ?_, fun bx => ?_⟩
  ·rw [IsB]
   exact ⟨rfl, rfl, rfl, ik, hn, ha, rows', mkD_is _ _, hr', hmax, mkD_is _ _, hlm, hx⟩
  ·exact es (f12 (ks := rows') (ls := ls.map lnkD) hK hL (fun c z hc hz => hloop [] bx c z k n a (by simp; omega) hc hz) fun c z hc hz => rlnk_loop ls (acc := []) (i := 0) hL rfl (by simpa using hlm) hc hz (by cases rows' <;> rfl) (by simp; omega))
where
 loop : ∀ (bs : List Blk) {rows rs : List (List D)} {K : D} {i : Nat}, IsS 5 rows K -> rows.drop i = rs -> IsB.IsBs bs rs -> rows.length < 9223372036854775808 -> okB.go bs -> ∃ rows', IsB.IsBs bs rows' /\ ∀ (acc : List (List D)) (bx : List Box) (c z : Box) (k0 n0 a0 : Int), acc.length + bs.length <= 1000 -> c.all (cellLt (bx.length + 3)) = true -> z.all (cellLt (bx.length + 3)) = true →
  ev cfg (.loop 13 3 (qs bx (sh13_3 (P0 bx) (P1 bx) (P2 bx) (.dat K) (I rows.length) (I i)) [c, z, [I k0, I n0, I a0, mkS 5 acc, .dat .nil]])) =
   some (.loop (.exit 0) (qs bx (se13_3 (P0 bx) (P1 bx) (P2 bx)) [c, z, [I k0, I n0, I a0, mkS 5 (acc ++ rows'), .dat .nil]]))
 | [], rows, rs, K, i, hK, hr, hbs, hmax, hok => by
  rw [IsB.IsBs] at hbs
  subst hbs
  refine ⟨[], by rw [IsB.IsBs], fun acc bx c z k0 n0 a0 hs hc hz => ?_⟩
  rw [List.append_nil]
  exact es (e12 hc hz (by cases acc <;> rfl) (drop_nil hr))
 | b :: bs, rows, rs, K, i, hK, hr, hbs, hmax, hok => by
  rw [IsB.IsBs] at hbs
  obtain ⟨k, n, a, K', L', rest, rfl, hB, hrest⟩ := hbs
  obtain ⟨hget, hr', hlt⟩ := drop_cons hr
  rw [okB.go] at hok
  obtain ⟨M, N, q1, q2⟩ := ref_ev b hB hok.1
  obtain ⟨rows', p1, p2⟩ := loop bs (i := i + 1) hK hr' hrest hmax hok.2
  refine ⟨[dI k, dI n, dI a, M, N] :: rows', ?_, fun acc bx c z k0 n0 a0 hs hc hz => ?_⟩
  ·rw [IsB.IsBs]; exact ⟨k, n, a, M, N, rows', rfl, q1, p1⟩
  ·rw [List.length_cons] at hs
   have ih := p2 (acc ++ [[dI k, dI n, dI a, M, N]]) bx c z k0 n0 a0 (by simp; omega) hc hz
   rw [List.append_assoc, List.singleton_append, mkS_snoc] at ih
   cases acc with
   | nil => exact es ((r12n hK hc hz hget hlt hmax (isB_one hB).1 (isB_one hB).2 (isB_one q1).1 (isB_one q1).2 q2).trans ih)
   | cons y acc => exact es ((r12 (ks := y :: acc) hK hc hz hget hlt hmax (isB_one hB).1 (isB_one hB).2 (isB_one q1).1 (isB_one q1).2 (by simp at hs ⊢; omega) q2).trans ih)
end Go.Proofs.YtifckjhggamefaaGreatDoor
