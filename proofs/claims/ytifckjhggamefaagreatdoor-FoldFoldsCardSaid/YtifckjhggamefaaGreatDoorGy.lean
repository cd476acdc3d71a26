/- What the reference's two answers. No condition. -/
import Derived.Test.YtifckjhggamefaaGreatDoorGf
import Derived.Test.YtifckjhggamefaaGreatDoorGg
import Derived.Test.YtifckjhggamefaaGreatDoorGx
set_option linter.unusedSimpArgs false
set_option linter.unusedVariables false
set_option linter.unusedSectionVars false
namespace Go.Proofs.YtifckjhggamefaaGreatDoor
open Go Go.Vx
set_option maxRecDepth 10000
set_option maxHeartbeats 1000000
section
variable {n : Nt} {w : Wb} {N F : D}
theorem two_loop (hN : IsN n N F) (hw : InvW n w) {s j : Nat} {kk bk nd : Int} (h7 : kk = 7 -> ∀ q ∈ outsW w.ls s, awaitK n w q = true) (hks : w.ks ≠ []) (hls : w.ls ≠ []) (bx : List Box) : ∀ (xs : List Nat) (i : Nat) (P : List Nat), (outsW w.ls s).drop i = xs -> P.length = i →
  ev cfg (.loop 66 11 (qs bx (sh66_11 (P1 bx) (P2 bx) (I s) (I j) (P3 bx) (I kk) (P4 bx) (P5 bx) (.own true 3 ((waysW w s).map wyR)) (I ((waysW w s).map wyR).length) (I i)) [Nb N F, Wx 9 0 0 (.sl 5 (cB.cBs w.ks)) (.sl 3 (w.ls.map lnkD)), [I 0, I 0, I 0, .dat .nil, .dat .nil, I 0], [I 9, I 0, I 0, .own true 5 (cB.cBs w.ks), .own true 3 (w.ls.map lnkD)], [I bk, I nd, I 0, mkS 5 (cB.cBs ((P.map (followW w)).map (pieceW w kk))), .dat .nil], [.own true 1 (iR ((j : Int) :: ((P.map (followW w)).map (·.by_)).filter (fun x => decide (0 <= x)))), .own true 1 (nR (outsW w.ls s ++ (P.map (followW w)).map (·.last)))]])) = some (.loop (.exit 2) (qs bx (se66_11 (P1 bx) (P2 bx) (I s) (I j) (P3 bx) (P4 bx) (P5 bx)) [Nb N F, Wx 9 0 0 (.sl 5 (cB.cBs w.ks)) (.sl 3 (w.ls.map lnkD)), [I 0, I 0, I 0, .dat .nil, .dat .nil, I 0], [I 9, I 0, I 0, .own true 5 (cB.cBs w.ks), .own true 3 (w.ls.map lnkD)], [I bk, I nd, I 0, mkS 5 (cB.cBs (((P ++ xs).map (followW w)).map (pieceW w kk))), .dat .nil], [.own true 1 (iR ((j : Int) :: (((P ++ xs).map (followW w)).map (·.by_)).filter (fun x => decide (0 <= x)))), .own true 1 (nR (outsW w.ls s ++ ((P ++ xs).map (followW w)).map (·.last)))]])) := by
 obtain ⟨oN, oF⟩ := xisN_one hN
 have hlens := hw.lens
 have hol := outs_le w s
 have hwl : ((waysW w s).map wyR).length = (outsW w.ls s).length := by rw [waysW]; simp
 intro xs
 induction xs with
 | nil =>
  intro i P hd hP
  rw [List.append_nil]
  exact es (x2_lend oN oF (by rw [hwl]; exact drop_nil hd))
 | cons q xs ih =>
  intro i P hd hP
  obtain ⟨hget, hd', hlti⟩ := drop_cons hd
  have hql := (outsW_lt (mog hget)).1
  have h3 := ih (i + 1) (P ++ [q]) hd' (by simp [hP])
  rw [List.append_assoc] at h3
  refine es (Eq.trans ?_ h3)
  have hwg : ((waysW w s).map wyR)[i]? = some [dI (followW w q).to, dI (followW w q).by_, dI (followW w q).last] := wys_get hget
  have h1 : i < ((waysW w s).map wyR).length := (gsi.1 hwg).1
  have h2 : ((waysW w s).map wyR).length < 9223372036854775808 := by rw [hwl]; omega
  have hp := xpart_ev (w := w) (by_lt hw hql)
  rw [xW_eq hks hls] at hp
  have hps := xparts_ev (partW w (followW w q))
  have e1 : (((P ++ [q]).map (followW w)).map (pieceW w kk)) = ((P.map (followW w)).map (pieceW w kk)) ++ [pieceW w kk (followW w q)] := by simp
  have e2 : nR (outsW w.ls s ++ ((P ++ [q]).map (followW w)).map (·.last)) = nR (outsW w.ls s ++ (P.map (followW w)).map (·.last)) ++ [[dI (followW w q).last]] := by
   rw [<- nR_app1]; simp
  rw [e1, e2, cBs_app]
  have hcl : ((nR (outsW w.ls s ++ (P.map (followW w)).map (·.last))).length + 1) * 8 <= 140737488355328 := by
   rw [nR_len, List.length_append, List.length_map, List.length_map, hP]; omega
  have hck : ((iR ((j : Int) :: ((P.map (followW w)).map (·.by_)).filter (fun x => decide (0 <= x)))).length + 1) * 8 <= 140737488355328 := by
   have := List.length_filter_le (fun x => decide (0 <= x)) ((P.map (followW w)).map (·.by_))
   rw [List.length_map, List.length_map, hP] at this
   rw [iR_len, List.length_cons]; omega
  have hbnd : ((cB.cBs ((P.map (followW w)).map (pieceW w kk))).length + 1) * 72 <= 140737488355328 := by
   rw [cBs_len, List.length_map, List.length_map, hP]; omega
  have hby : ∃ v : Bool, decide ((followW w q).by_ >= 0) = v /\ iR ((j : Int) :: (((P ++ [q]).map (followW w)).map (·.by_)).filter (fun x => decide (0 <= x))) = (if v = true then iR ((j : Int) :: ((P.map (followW w)).map (·.by_)).filter (fun x => decide (0 <= x))) ++ [[dI (followW w q).by_]] else iR ((j : Int) :: ((P.map (followW w)).map (·.by_)).filter (fun x => decide (0 <= x)))) := by
   refine ⟨_, rfl, ?_⟩
   by_cases hb : 0 <= (followW w q).by_
   ·rw [if_pos (dqt hb)]
    simp [List.filter_append, hb, iR]
   ·rw [if_neg (by simpa using hb)]
    simp [List.filter_append, hb, iR]
  obtain ⟨v, hv, e3⟩ := hby
  rw [e3]
  have hpc : pieceW w kk (followW w q) = if kk = 7 then rowB ((partsB (partW w (followW w q))).drop 1) else partW w (followW w q) := rfl
  by_cases c7 : kk = 7
  ·subst c7
   have haw := h7 rfl q (mog hget)
   rw [awaitK] at haw
   rw [if_pos rfl] at hpc
   rw [hpc]
   generalize partW w (followW w q) = p at hp hps haw ⊢
   cases hpp : partsB p with
   | nil => rw [hpp] at haw; cases haw
   | cons c cs =>
    rw [hpp] at hps
    have hr := xrow_ev (bs := cs) (R := .sl 5 (cB.cBs cs)) (by
     cases cs with
     | nil => exact .inr ⟨rfl, ⟨5, rfl, by simp, rfl⟩⟩
     | cons a b => exact .inl rfl)
    simp only [List.drop_succ_cons, List.drop_zero]
    generalize rowB cs = rb at hr ⊢
    obtain ⟨k, nn, a, ks, ls⟩ := p
    obtain ⟨rk, rn, ra, rks, rls⟩ := rb
    cases hPP : (P.map (followW w)).map (pieceW w 7) with
    | nil =>
     cases v with
     | true => exact x2_r70y oN oF hwg h1 h2 hp (mkD_one 5 _) (mkD_one 3 _) hps hr (mkD_one 5 _) (mkD_one 3 _) hcl hck hv
     | false => exact x2_r70n oN oF hwg h1 h2 hp (mkD_one 5 _) (mkD_one 3 _) hps hr (mkD_one 5 _) (mkD_one 3 _) hcl hck hv
    | cons c0 c1 =>
     rw [hPP] at hbnd
     cases v with
     | true => exact x2_r71y (ps := cB.cBs (c0 :: c1)) oN oF hwg h1 h2 hp (mkD_one 5 _) (mkD_one 3 _) hps hr (mkD_one 5 _) (mkD_one 3 _) hcl hck hbnd hv
     | false => exact x2_r71n (ps := cB.cBs (c0 :: c1)) oN oF hwg h1 h2 hp (mkD_one 5 _) (mkD_one 3 _) hps hr (mkD_one 5 _) (mkD_one 3 _) hcl hck hbnd hv
  ·have c7' : (kk == 7) = false := beq_eq_false_iff_ne.2 c7
   rw [if_neg c7] at hpc
   rw [hpc]
   generalize partW w (followW w q) = p at hp ⊢
   obtain ⟨k, nn, a, ks, ls⟩ := p
   cases hPP : (P.map (followW w)).map (pieceW w kk) with
   | nil =>
    cases v with
    | true => exact x2_r0y oN oF hwg h1 h2 hp (mkD_one 5 _) (mkD_one 3 _) c7' hcl hck hv
    | false => exact x2_r0n oN oF hwg h1 h2 hp (mkD_one 5 _) (mkD_one 3 _) c7' hcl hck hv
   | cons c0 c1 =>
    rw [hPP] at hbnd
    cases v with
    | true => exact x2_r1y (ps := cB.cBs (c0 :: c1)) oN oF hwg h1 h2 hp (mkD_one 5 _) (mkD_one 3 _) c7' hcl hck hbnd hv
    | false => exact x2_r1n (ps := cB.cBs (c0 :: c1)) oN oF hwg h1 h2 hp (mkD_one 5 _) (mkD_one 3 _) c7' hcl hck hbnd hv
theorem two_def (s : Nat) : twoAt n w s = match closeAt n w s with
 | none => none
 | some j => some (dropW ⟨w.ks.set s (.mk (blockOf (gkW n w s)) (nodeW w.ks s) 0 ((waysW w s).map (pieceW w (gkW n w s))) []), setFrom w.ls (hd (outsW w.ls j)) s⟩ (j :: ((waysW w s).map (·.by_)).filter (fun x => decide (0 <= x))) (outsW w.ls s ++ (waysW w s).map (·.last))) := rfl
theorem xtwo_ev (hG : Gates n) (hN : IsN n N F) (hw : InvW n w) (bx : List Box) :
  ev cfg (.call 66 [Nq N F, xW w] bx) = Rq (match firstAt (twoAt n w) 0 w.ks.length with | some x => pF x 2 | none => pF w 0) := by
 obtain ⟨oN, oF⟩ := xisN_one hN
 have hlens := hw.lens
 have hkl : (cB.cBs w.ks).length = w.ks.length := cBs_len _
 have hmax : (cB.cBs w.ks).length < 9223372036854775808 := by rw [hkl]; omega
 have loop : ∀ (m s : Nat), s + m = w.ks.length -> ev cfg (.loop 66 2 (qs bx (sh66_2 (P0 bx) (P1 bx) (P2 bx) (I (cB.cBs w.ks).length) (I s)) [Nb N F, Wx 9 0 0 (mkD 5 (cB.cBs w.ks)) (mkD 3 (w.ls.map lnkD)), [I 0, I 0, I 0, .dat .nil, .dat .nil, I 0]])) =
   some (match firstAt (twoAt n w) s m with
   | some x => .loop .ret (qs bx (se66_2 (P1 bx) (P2 bx)) [Nb N F, Wx 9 0 0 (mkD 5 (cB.cBs w.ks)) (mkD 3 (w.ls.map lnkD)), pFc x 2])
   | none => .loop (.exit 0) (qs bx (se66_2 (P1 bx) (P2 bx)) [Nb N F, Wx 9 0 0 (mkD 5 (cB.cBs w.ks)) (mkD 3 (w.ls.map lnkD)), [I 0, I 0, I 0, .dat .nil, .dat .nil, I 0]])) := by
  intro m
  induction m with
  | zero =>
   intro s ha
   exact es (x2_end oN oF (mkD_one 5 _) (mkD_one 3 _) (by rw [hkl]; omega))
  | succ m ih =>
   intro s ha
   have hal : s < w.ks.length := by omega
   have halt : s < (cB.cBs w.ks).length := by rw [hkl]; exact hal
   have h3 := ih (s + 1) (by omega)
   have hc := xclosing_ev hG hN hw hal
   rw [firstAt, two_def]
   cases hca : closeAt n w s with
   | none =>
    rw [hca] at hc
    exact es ((x2_next oN oF (mkD_one 5 _) (mkD_one 3 _) halt hmax hc rfl).trans h3)
   | some jj =>
    obtain ⟨j, rfl, hcl⟩ := close_some hca
    rw [hca] at hc
    simp only [Option.getD_some] at hc
    obtain ⟨b, hb, _, _, hnd, hgk, _, hkn, _⟩ := gate_ok hG hw hcl.gs
    rw [<- hgk] at hkn
    have hg := xgate_ev hN hw (q := (s : Int)) (by omega)
    have hos := xouts_ne hG hw (Int.natCast_nonneg s) (by omega)
    have hwy := xways_ev hG hN hw hal
    have hoj := xouts_ne hG hw (Int.natCast_nonneg j) (by have := hcl.jl; omega)
    have hoj1 := hd_one hcl.out
    have hql : hd (outsW w.ls j) < w.ls.length := (outsW_lt (x := (j : Int)) (by rw [hoj1]; exact mcs)).1
    rw [hoj1] at hoj
    have hlq := lnk_getk hql
    have hl := two_loop hN hw (s := s) (j := j) (kk := gkW n w s) (bk := blockOf (gkW n w s)) (nd := nodeW w.ks s) hcl.wait (ks_ne hal) (ls_ne hql) bx (outsW w.ls s) 0 [] rfl rfl
    rw [List.nil_append] at hl
    have hck : (iR ((j : Int) :: ((waysW w s).map (·.by_)).filter (fun x => decide (0 <= x)))).length < 1000 := by
     have := List.length_filter_le (fun x => decide (0 <= x)) ((waysW w s).map (·.by_))
     have h2 := outs_le w s
     rw [List.length_map, waysW, List.length_map] at this
     rw [iR_len, List.length_cons, waysW]; omega
    have hwt := xfold_without hw hal (.mk (blockOf (gkW n w s)) (nodeW w.ks s) 0 ((waysW w s).map (pieceW w (gkW n w s))) []) hql (gone := (j : Int) :: ((waysW w s).map (·.by_)).filter (fun x => decide (0 <= x))) (cut := outsW w.ls s ++ (waysW w s).map (·.last))
     (C := .sl 1 (iR ((j : Int) :: ((waysW w s).map (·.by_)).filter (fun x => decide (0 <= x))))) (X := .sl 1 (nR (outsW w.ls s ++ (waysW w s).map (·.last)))) (mkD_isS 1 (iR (_ :: _))) (by
      have := mkD_isS 1 (nR (outsW w.ls s ++ (waysW w s).map (·.last)))
      rw [mkD_ne] at this
      ·exact this
      ·obtain ⟨⟨qz, qr, h⟩, _⟩ := kid_ways hG hw hal
       rw [h]; simp [nR, iR]) ⟨by rw [iR_len] at hck; exact hck, by have h2 := outs_le w s; rw [List.length_append, waysW, List.length_map, List.length_map]; omega⟩
    obtain ⟨⟨qz, qr, hQ⟩, _⟩ := kid_ways hG hw hal
    have hpc : ∃ c0 cs, (waysW w s).map (pieceW w (gkW n w s)) = c0 :: cs := by rw [waysW, hQ]; exact ⟨_, _, rfl⟩
    obtain ⟨c0, cs, hpc⟩ := hpc
    have hrow := cBs_get hb
    have eW := xW_eq (ks_ne hal) (ls_ne hql)
    have eK : mkD 5 (cB.cBs w.ks) = .sl 5 (cB.cBs w.ks) := mkD_ne (by rw [cBs_map]; simpa using ks_ne hal)
    have eL : mkD 3 (w.ls.map lnkD) = .sl 3 (w.ls.map lnkD) := mkD_ne (by simpa using ls_ne hql)
    have hcp := xcopied_ev (w := w) (by omega) (by omega)
    rw [mkS_ne (by rw [cBs_map]; simpa using ks_ne hal), mkS_ne (by simpa using ls_ne hql)] at hcp
    rw [eW] at hc hg hos hwy hoj hcp
    rw [eK, eL]
    dsimp only
    simp only [List.map_nil, List.append_nil, List.filter_nil] at hl
    have ewy : (outsW w.ls s).map (followW w) = waysW w s := rfl
    rw [ewy, hpc] at hl
    rw [hpc] at hwt ⊢
    rw [hnd] at hl hwt ⊢
    generalize hq : hd (outsW w.ls j) = q at *
    obtain ⟨k1, n1, a1, ks1, ls1⟩ := b
    have hQ' : nR (outsW w.ls s) = [dI qz] :: nR qr := by rw [hQ]; rfl
    have hos' : Cq 57 [Wq 9 0 0 (.sl 5 (cB.cBs w.ks)) (.sl 3 (w.ls.map lnkD)), I s] (.own true 1 ([dI qz] :: nR qr)) := fun bx => by rw [<- hQ']; exact hos bx
    rcases hkn with hk | hk | hk
    ·rw [hk] at hg hl hwt ⊢
     have hbo : blockOf 5 = 5 := rfl
     rw [hbo] at hl hwt ⊢
     exact es (x2_f5 (p0 := cB c0) (ps := cB.cBs cs) (o0 := [dI qz]) (os := nR qr) oN oF halt hmax hc hcp hg hrow hos' hwy (by rw [<- hQ'] ; exact hl) hoj hlq hwt (mkD_one 5 _) (mkD_one 3 _))
    ·rw [hk] at hg hl hwt ⊢
     have hbo : blockOf 6 = 4 := rfl
     rw [hbo] at hl hwt ⊢
     exact es (x2_f6 (p0 := cB c0) (ps := cB.cBs cs) (o0 := [dI qz]) (os := nR qr) oN oF halt hmax hc hcp hg hrow hos' hwy (by rw [<- hQ'] ; exact hl) hoj hlq hwt (mkD_one 5 _) (mkD_one 3 _))
    ·rw [hk] at hg hl hwt ⊢
     have hbo : blockOf 7 = 6 := rfl
     rw [hbo] at hl hwt ⊢
     exact es (x2_f7 (p0 := cB c0) (ps := cB.cBs cs) (o0 := [dI qz]) (os := nR qr) oN oF halt hmax hc hcp hg hrow hos' hwy (by rw [<- hQ'] ; exact hl) hoj hlq hwt (mkD_one 5 _) (mkD_one 3 _))
 have h := loop w.ks.length 0 (by omega)
 cases hf : firstAt (twoAt n w) 0 w.ks.length with
 | none =>
  rw [hf] at h
  exact es (x2_none oN oF (mkD_isS 5 _) (mkD_one 3 _) h)
 | some x =>
  rw [hf] at h
  exact es (x2_some oN oF (mkD_isS 5 _) (mkD_one 3 _) (mkD_one 5 _) (mkD_one 3 _) h)
end
section
variable {n : Nt} {w : Wb} {N F : D}
theorem three_def (j : Nat) : threeAt n w j = if (gkW n w j != 5 || (insW w.ls j).length != 2 || (outsW w.ls j).length != 1) = true then none else
  if (gkW n w (followW w (hd (outsW w.ls j))).to != 5 || (outsW w.ls (followW w (hd (outsW w.ls j))).to).length != 2) = true then none else
   if ((followW w ((outsW w.ls (followW w (hd (outsW w.ls j))).to).getD 0 0)).to == (j : Int)) = ((followW w ((outsW w.ls (followW w (hd (outsW w.ls j))).to).getD 1 0)).to == (j : Int)) then none else
    some (dropW ⟨w.ks.set j (.mk 7 (nodeW w.ks (followW w (hd (outsW w.ls j))).to) ((if ((followW w ((outsW w.ls (followW w (hd (outsW w.ls j))).to).getD 1 0)).to == (j : Int)) = true then 0 else 1 : Nat) : Int) [partW w (followW w (hd (outsW w.ls j))), partW w (if ((followW w ((outsW w.ls (followW w (hd (outsW w.ls j))).to).getD 1 0)).to == (j : Int)) = true then (followW w ((outsW w.ls (followW w (hd (outsW w.ls j))).to).getD 1 0)) else (followW w ((outsW w.ls (followW w (hd (outsW w.ls j))).to).getD 0 0)))] []),
     setFrom w.ls ((outsW w.ls (followW w (hd (outsW w.ls j))).to).getD (if ((followW w ((outsW w.ls (followW w (hd (outsW w.ls j))).to).getD 1 0)).to == (j : Int)) = true then 0 else 1 : Nat) 0) j⟩
     ([(followW w (hd (outsW w.ls j))).to] ++ ([(followW w (hd (outsW w.ls j))).by_, (if ((followW w ((outsW w.ls (followW w (hd (outsW w.ls j))).to).getD 1 0)).to == (j : Int)) = true then (followW w ((outsW w.ls (followW w (hd (outsW w.ls j))).to).getD 1 0)) else (followW w ((outsW w.ls (followW w (hd (outsW w.ls j))).to).getD 0 0))).by_].filter (fun x => decide (0 <= x))))
     [hd (outsW w.ls j), (followW w (hd (outsW w.ls j))).last, (outsW w.ls (followW w (hd (outsW w.ls j))).to).getD (1 - (if ((followW w ((outsW w.ls (followW w (hd (outsW w.ls j))).to).getD 1 0)).to == (j : Int)) = true then 0 else 1 : Nat)) 0, (if ((followW w ((outsW w.ls (followW w (hd (outsW w.ls j))).to).getD 1 0)).to == (j : Int)) = true then (followW w ((outsW w.ls (followW w (hd (outsW w.ls j))).to).getD 1 0)) else (followW w ((outsW w.ls (followW w (hd (outsW w.ls j))).to).getD 0 0))).last]) := rfl
theorem inL_filter (x : Int) (L : List Int) : inL (x :: L.filter (fun x => decide (0 <= x))) = inL (x :: L) := by
 funext i
 rw [Bool.eq_iff_iff, inL_nat, inL_nat]
 simp only [List.mem_cons, List.mem_filter, dqE]
 constructor
 ·rintro (h | ⟨h, _⟩)
  ·exact .inl h
  ·exact .inr h
 ·rintro (h | h)
  ·exact .inl h
  ·exact .inr ⟨h, by omega⟩
theorem dropW_filter (v : Wb) (x : Int) (L : List Int) (cut : List Nat) : dropW v (x :: L.filter (fun x => decide (0 <= x))) cut = dropW v (x :: L) cut := by
 rw [dropW, dropW, inL_filter]
theorem int_ne2 (a : Nat) : ((a : Int) != 2) = (a != 2) := by
 rw [Bool.eq_iff_iff, bne_iff_ne, bne_iff_ne]; omega
theorem xthree_ev (hG : Gates n) (hN : IsN n N F) (hw : InvW n w) (bx : List Box) :
  ev cfg (.call 67 [Nq N F, xW w] bx) = Rq (match firstAt (threeAt n w) 0 w.ks.length with | some x => pF x 3 | none => pF w 0) := by
 obtain ⟨oN, oF⟩ := xisN_one hN
 have hlens := hw.lens
 have hkl : (cB.cBs w.ks).length = w.ks.length := cBs_len _
 have hmax : (cB.cBs w.ks).length < 9223372036854775808 := by rw [hkl]; omega
 have loop : ∀ (m j : Nat), j + m = w.ks.length -> ev cfg (.loop 67 2 (qs bx (sh67_2 (P0 bx) (P1 bx) (P2 bx) (I (cB.cBs w.ks).length) (I j)) [Nb N F, Wx 9 0 0 (mkD 5 (cB.cBs w.ks)) (mkD 3 (w.ls.map lnkD)), [I 0, I 0, I 0, .dat .nil, .dat .nil, I 0]])) =
   some (match firstAt (threeAt n w) j m with
   | some x => .loop .ret (qs bx (se67_2 (P1 bx) (P2 bx)) [Nb N F, Wx 9 0 0 (mkD 5 (cB.cBs w.ks)) (mkD 3 (w.ls.map lnkD)), pFc x 3])
   | none => .loop (.exit 0) (qs bx (se67_2 (P1 bx) (P2 bx)) [Nb N F, Wx 9 0 0 (mkD 5 (cB.cBs w.ks)) (mkD 3 (w.ls.map lnkD)), [I 0, I 0, I 0, .dat .nil, .dat .nil, I 0]])) := by
  intro m
  induction m with
  | zero =>
   intro j ha
   exact es (x3_end oN oF (mkD_one 5 _) (mkD_one 3 _) (by rw [hkl]; omega))
  | succ m ih =>
   intro j ha
   have hjl : j < w.ks.length := by omega
   have halt : j < (cB.cBs w.ks).length := by rw [hkl]; exact hjl
   have h3 := ih (j + 1) (by omega)
   have hg := xgate_ev hN hw (q := (j : Int)) (by omega)
   have hi := xins_ne hG hw (Int.natCast_nonneg j) (by omega)
   have ho := xouts_ne hG hw (Int.natCast_nonneg j) (by omega)
   have ei : (((nR (insW w.ls j)).length : Int) != 2) = ((insW w.ls j).length != 2) := by rw [nR_len]; exact int_ne2 _
   obtain ⟨⟨o, os, hO⟩, _⟩ := kid_ways hG hw hjl
   have eo : ((((nR os).length + 1 : Nat) : Int) != 1) = ((outsW w.ls j).length != 1) := by rw [hO, nR_len]; exact int_ne1 _
   have hol : o < w.ls.length := (outsW_lt (x := (j : Int)) (by rw [hO]; exact mcs)).1
   have hhd : hd (outsW w.ls j) = o := by rw [hO]; rfl
   have hf := xfollow_ev hN hw hol
   have hdl := to_lt hw hol
   have hgd := xgate_ev hN hw hdl
   have hho : nR (outsW w.ls j) = [dI o] :: nR os := by rw [hO]; rfl
   rw [hho] at ho
   rw [firstAt, three_def, hhd]
   cases c1 : (gkW n w j != 5) with
   | true =>
    rw [if_pos (by simp)]
    exact es ((x3_g oN oF (mkD_one 5 _) (mkD_one 3 _) halt hmax hg c1).trans h3)
   | false =>
    cases c2 : ((insW w.ls j).length != 2) with
    | true =>
     rw [c2] at ei
     rw [if_pos (by simp)]
     exact es ((x3_i oN oF (mkD_one 5 _) (mkD_one 3 _) halt hmax hg c1 hi ei).trans h3)
    | false =>
     rw [c2] at ei
     cases c3 : ((outsW w.ls j).length != 1) with
     | true =>
      rw [c3] at eo
      rw [if_pos (by simp)]
      exact es ((x3_o oN oF (mkD_one 5 _) (mkD_one 3 _) halt hmax hg c1 hi ei ho eo).trans h3)
     | false =>
      rw [c3] at eo
      rw [if_neg (by simp)]
      cases c4 : (gkW n w (followW w o).to != 5) with
      | true =>
       rw [if_pos (by simp)]
       exact es ((x3_d oN oF (mkD_one 5 _) (mkD_one 3 _) halt hmax hg c1 hi ei ho eo hf hgd c4).trans h3)
      | false =>
       have hd0 : 0 <= (followW w o).to := by
        rcases Int.lt_or_le (followW w o).to 0 with h | h
        ·rw [gk_neg h] at c4; cases c4
        ·exact h
       obtain ⟨d, hdd⟩ : ∃ d : Nat, (followW w o).to = d := ⟨(followW w o).to.toNat, by omega⟩
       have hod := xouts_ne hG hw hd0 hdl
       have hp1 := xpart_ev (w := w) (by_lt hw hol)
       generalize hx : followW w o = x at *
       obtain ⟨dt, db, dl⟩ := x
       simp only at hdd
       subst hdd
       simp only at hf hgd hdl c4 hd0 hod hp1 ⊢
       have hdk : d < w.ks.length := by omega
       have eod : (((nR (outsW w.ls d)).length : Int) != 2) = ((outsW w.ls d).length != 2) := by rw [nR_len]; exact int_ne2 _
       cases c5 : ((outsW w.ls d).length != 2) with
       | true =>
        rw [c5] at eod
        rw [if_pos (by simp)]
        exact es ((x3_l oN oF (mkD_one 5 _) (mkD_one 3 _) halt hmax hg c1 hi ei ho eo hf hgd c4 hod eod).trans h3)
       | false =>
        rw [c5] at eod
        rw [if_neg (by simp)]
        have h2 : (outsW w.ls d).length = 2 := by simpa using c5
        have hD := two_list h2
        have hwd := xways_ev hG hN hw hdk
        rw [waysW] at hwd
        generalize e0 : (outsW w.ls d).getD 0 0 = b0 at *
        generalize e1 : (outsW w.ls d).getD 1 0 = b1 at *
        have hb0 : b0 < w.ls.length := (outsW_lt (x := (d : Int)) (by rw [hD]; simp)).1
        have hb1 : b1 < w.ls.length := (outsW_lt (x := (d : Int)) (by rw [hD]; simp)).1
        rw [hD] at hwd
        have hwd' : Cq 104 [Nq N F, xW w, I d] (.own true 3 [[dI (followW w b0).to, dI (followW w b0).by_, dI (followW w b0).last], [dI (followW w b1).to, dI (followW w b1).by_, dI (followW w b1).last]]) := hwd
        have hod' : Cq 57 [xW w, I d] (.own true 1 [[dI b0], [dI b1]]) := fun bx => by
         have := hod bx; rw [hD] at this; exact this
        by_cases c6 : ((followW w b0).to == (j : Int)) = ((followW w b1).to == (j : Int))
        ·rw [if_pos c6]
         exact es ((x3_s oN oF (mkD_one 5 _) (mkD_one 3 _) halt hmax hg c1 hi ei ho eo hf hgd c4 hod eod hwd' c6 rfl).trans h3)
        ·rw [if_neg c6]
         have hbd : w.ks[d]? = some w.ks[d] := gge hdk
         have hbj : w.ks[j]? = some w.ks[j] := gge hjl
         have hnd : nodeW w.ks d = w.ks[d].nd := by rw [nodeW, kid_nat, hbd]
         rw [hnd]
         generalize w.ks[d] = bd at hbd ⊢
         generalize w.ks[j] = bj at hbj
         have hrd := cBs_get hbd
         have hrj := cBs_get hbj
         have eW := xW_eq (ks_ne hjl) (ls_ne hol)
         have eK : mkD 5 (cB.cBs w.ks) = .sl 5 (cB.cBs w.ks) := mkD_ne (by rw [cBs_map]; simpa using ks_ne hjl)
         have eL : mkD 3 (w.ls.map lnkD) = .sl 3 (w.ls.map lnkD) := mkD_ne (by simpa using ls_ne hol)
         have hcp := xcopied_ev (w := w) (by omega) (by omega)
         rw [mkS_ne (by rw [cBs_map]; simpa using ks_ne hjl), mkS_ne (by simpa using ls_ne hol)] at hcp
         cases c7 : ((followW w b1).to == (j : Int)) with
         | true =>
          rw [c7] at c6
          have c8 : ((followW w b0).to == (j : Int)) = false := by simpa using c6
          have hp2 := xpart_ev (w := w) (by_lt hw hb1)
          have hlq := lnk_getk hb0
          simp only [if_true, List.cons_append, List.nil_append, Nat.sub_zero, e0, e1]
          rw [dropW_filter]
          have hwt := xfold_without hw hjl (.mk 7 bd.nd 0 [partW w ⟨d, db, dl⟩, partW w (followW w b1)] []) hb0 (gone := [(d : Int), db, (followW w b1).by_]) (cut := [o, dl, b1, (followW w b1).last])
           (C := .sl 1 [[dI d], [dI db], [dI (followW w b1).by_]]) (X := .sl 1 [[dI o], [dI dl], [dI b1], [dI (followW w b1).last]]) (mkD_isS 1 (iR [(d : Int), db, (followW w b1).by_])) (mkD_isS 1 (nR [o, dl, b1, (followW w b1).last])) ⟨by simp, by simp⟩
          rw [show (((0 : Nat) : Int)) = 0 from rfl]
          generalize followW w b1 = fb at *
          generalize followW w b0 = fa at *
          generalize partW w ⟨d, db, dl⟩ = P1 at hp1 hwt ⊢
          generalize partW w fb = P2 at hp2 hwt ⊢
          rw [eW] at hg hi ho hf hgd hod' hwd' hcp hp1 hp2
          rw [eK, eL]
          obtain ⟨k1, n1, a1, ks1, ls1⟩ := bd
          obtain ⟨j1, j2, j3, j4, j5⟩ := bj
          obtain ⟨p1, p2, p3, p4, p5⟩ := P1
          obtain ⟨q1, q2, q3, q4, q5⟩ := P2
          exact es (x3_fa oN oF halt hmax hg c1 hi ei ho eo hf hgd c4 hod' hwd' c8 c7 hcp hrd hp1 hp2 (mkD_one 5 _) (mkD_one 3 _) (mkD_one 5 _) (mkD_one 3 _) hrj hlq hwt (mkD_one 5 _) (mkD_one 3 _))
         | false =>
          rw [c7] at c6
          have c8 : ((followW w b0).to == (j : Int)) = true := by simpa using c6
          have hp2 := xpart_ev (w := w) (by_lt hw hb0)
          have hlq := lnk_getk hb1
          simp only [Bool.false_eq_true, if_false, List.cons_append, List.nil_append, Nat.sub_self, e0, e1]
          rw [dropW_filter]
          have hwt := xfold_without hw hjl (.mk 7 bd.nd 1 [partW w ⟨d, db, dl⟩, partW w (followW w b0)] []) hb1 (gone := [(d : Int), db, (followW w b0).by_]) (cut := [o, dl, b0, (followW w b0).last])
           (C := .sl 1 [[dI d], [dI db], [dI (followW w b0).by_]]) (X := .sl 1 [[dI o], [dI dl], [dI b0], [dI (followW w b0).last]]) (mkD_isS 1 (iR [(d : Int), db, (followW w b0).by_])) (mkD_isS 1 (nR [o, dl, b0, (followW w b0).last])) ⟨by simp, by simp⟩
          rw [show (((1 : Nat) : Int)) = 1 from rfl]
          generalize followW w b1 = fb at *
          generalize followW w b0 = fa at *
          generalize partW w ⟨d, db, dl⟩ = P1 at hp1 hwt ⊢
          generalize partW w fa = P2 at hp2 hwt ⊢
          rw [eW] at hg hi ho hf hgd hod' hwd' hcp hp1 hp2
          rw [eK, eL]
          obtain ⟨k1, n1, a1, ks1, ls1⟩ := bd
          obtain ⟨j1, j2, j3, j4, j5⟩ := bj
          obtain ⟨p1, p2, p3, p4, p5⟩ := P1
          obtain ⟨q1, q2, q3, q4, q5⟩ := P2
          exact es (x3_fb oN oF halt hmax hg c1 hi ei ho eo hf hgd c4 hod' hwd' c8 c7 hcp hrd hp1 hp2 (mkD_one 5 _) (mkD_one 3 _) (mkD_one 5 _) (mkD_one 3 _) hrj hlq hwt (mkD_one 5 _) (mkD_one 3 _))
 have h := loop w.ks.length 0 (by omega)
 cases hf : firstAt (threeAt n w) 0 w.ks.length with
 | none =>
  rw [hf] at h
  exact es (x3_none oN oF (mkD_isS 5 _) (mkD_one 3 _) h)
 | some x =>
  rw [hf] at h
  exact es (x3_some oN oF (mkD_isS 5 _) (mkD_one 3 _) (mkD_one 5 _) (mkD_one 3 _) h)
end
end Go.Proofs.YtifckjhggamefaaGreatDoor
