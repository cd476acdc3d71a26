/- An office's methods, step by step. No condition. -/
import Derived.Test.YtgppmcpbphgnnaaVxCfg
import Derived.Test.YtgppmcpbphgnnaaVg
set_option linter.unusedSimpArgs false
set_option linter.unusedVariables false
set_option linter.unusedSectionVars false
namespace Go.Proofs.Ytgppmcpbphgnnaa
open Go Go.Vx
attribute [local congr] seqO_congr iteB_congr
attribute [local go_sem ↓] sO_some sO_none iB_true iB_false
attribute [local go_sem] stepJ sO_some sO_none iB_true iB_false seqO_iteB startSt acode aops aopR wantsR aopX isFnCall aop fetch takeAt moveTup St.val PV.ofValue D.ofCell put isTmp PV.maySrc aBin eqFieldsA eqCell binLit eqKind abool aint aUn thenC inBlockC polOf aConv retOf aress ares okRes okAl Vx.dstsOf stays outOf tupOf PV.noPtr PV.isDat PV.isOwn PV.strip aLoad frz0 frz1 frz2 frz3 frz4 frz5 frz6 frz7 frz8 frz9 frz10 frz11 frz12 freezeC PV.frz PV.frozen aStore aStore0 homeStore PV.isHome hookOf runHook ownPlace aConv0 aConvP eqRes aAppendR aAppendS builtin_sd builtin_us aSliceData aUnsafeString aSliceP zeros Vx.keyOf ksz sr_append sr_len Vx.stored undef cl_tnil cl_home cl_siter cl_mp Nat.le_refl Nat.sub_self List.take_length List.drop_length mapOf runMap int64 mapPlace lookRes aggDs mapBox isNilP eqCellsA List.range' amix aopE outE applyE nOk loadBox stab stabL mixOf mixIn noCellAl eq_self aFieldAddr aIndexAddr addOff rowPtr rd_eq rdV rdPV_dat rdPV_own rdI_nil rdI_sl oneC_lit oneC_nil oneC_sl Rd.rows Rd.fits cut setCells isCell_dat isCell_own isCell_ptr isCell_iptr isCell_clo cells_dat cells_own cells_ptr cells_iptr cells_clo cells_agg toD_dat toDs aBuild canBuild aRows fetchs fetchN fetchNs aSlice aAppend builtin_len lenV builtin_append builtin_max builtin_min maxV minV ptrBox ptrBoxes prep prepN fin noAlias aopN aopNX aopNR anseg asegs segFree segsOf atHead atExit loopCode loopAt gc refLt cl_dat cl_own cl_ptr cl_clo cl_iptr cl_dead cl_alias cl_eptr ridOf keepAt St.at St.mark touch TK.isAgg Value.oneCell' iteB_not wl_0 wl_1 wl_2 wl_3 wl_4 wl_5 wl_6 wl_7 wl_8 wl_9 wl_10 wl_11 wl_12 wl_13 wl_14 wl_15 wl_16 wl_17 wl_18 wl_19 wl_20 wl_21 wl_22 wl_23 wl_24 wl_25 wl_26 wl_27 wl_28 wl_29 wl_30 beq_true' beq_false' app_get app_get0 app_set app_set0 app_take app_takek app_drop set_old get_old get_set take_set take_set0 take_setk drop_set get_setn get_setn0 set_setn set_setn0 lt_addk List.set_set List.getElem?_toArray List.size_toArray Array.size_empty lt_irr add_lt_irr lt_add add_lt_add le_add add_sub List.getD_cons_zero List.getD_cons_succ List.set_cons_zero List.set_cons_succ List.replicate List.length_cons List.length_nil List.length_set List.cons_append List.nil_append List.append_nil List.append_assoc List.map_cons List.map_nil List.all_cons List.all_nil List.any_cons List.any_nil List.take_succ_cons List.take_zero List.take_nil List.drop_succ_cons List.drop_zero List.drop_nil List.zip_cons_cons List.zip_nil_left List.zip_nil_right List.find? List.contains List.elem List.getElem?_cons_zero List.getElem?_cons_succ List.getElem?_nil List.length_append List.length_map List.isEmpty Option.getD_none Option.getD_some Option.map_none Option.map_some Option.bind_some Option.bind_none Option.isSome_none Option.isSome_some Nat.min_self Nat.add_zero Nat.zero_add Nat.add_assoc ne_eq not_false_eq_true not_true_eq_false BEq.rfl beq_self_eq_true if_true if_false Bool.false_eq_true Bool.and_true Bool.true_and Bool.and_false Bool.false_and Bool.or_true Bool.or_false Bool.true_or Bool.false_or Bool.not_false Bool.not_true Bool.not_not Bool.and_self and_self and_true true_and and_false false_and or_self or_false false_or or_true true_or decide_true decide_false
attribute [local go_sem] hookC byteTC bytePC homeC ptrTC unsPC unsToC cmpC cmpAC mapTC
set_option maxHeartbeats 4000000
set_option maxRecDepth 10000

/-- what waits in a box -/
abbrev N4 := Int × Int × Int × Int
def row (n : N4) : List D := [dI n.1, dI n.2.1, dI n.2.2.1, dI n.2.2.2]
def nat4 (n : N4) (m : Int) : Int := if m = 0 then n.1 else if m = 1 then n.2.1 else if m = 2 then n.2.2.1 else n.2.2.2
def set4 (n : N4) (m v : Int) : N4 := if m = 0 then (v, n.2.1, n.2.2.1, n.2.2.2) else if m = 1 then (n.1, v, n.2.2.1, n.2.2.2) else if m = 2 then (n.1, n.2.1, v, n.2.2.2) else (n.1, n.2.1, n.2.2.1, v)
abbrev Bxs := List (Int × N4)
def ents (l : Bxs) : List (Int × List D) := l.map fun p => (p.1, row p.2)
def rows (l : Bxs) : List (List D) := l.map fun p => dI p.1 :: row p.2
def get (l : Bxs) (k : Int) : Option N4 := match l with
  | [] => none
  | p :: ps => if p.1 = k then some p.2 else get ps k
def put4 (l : Bxs) (k : Int) (n : N4) : Bxs := match l with
  | [] => [(k, n)]
  | p :: ps => if p.1 = k then (k, n) :: ps else p :: put4 ps k n
def del (l : Bxs) (k : Int) : Bxs := match l with
  | [] => []
  | p :: ps => if p.1 = k then ps else p :: del ps k
theorem get_ents (k : Int) : ∀ l : Bxs, mapGet k (ents l) = (get l k).map row
  | [] => rfl
  | p :: ps => by
    have : ents (p :: ps) = (p.1, row p.2) :: ents ps := rfl
    rw [this, mapGet, get, get_ents k ps]
    split <;> rfl
theorem put_ents (k : Int) (n : N4) : ∀ l : Bxs, mapPut k (row n) (ents l) = ents (put4 l k n)
  | [] => rfl
  | p :: ps => by
    have : ents (p :: ps) = (p.1, row p.2) :: ents ps := rfl
    rw [this, mapPut, put4, put_ents k n ps]
    split <;> rfl
theorem del_ents (k : Int) : ∀ l : Bxs, mapDel k (ents l) = ents (del l k)
  | [] => rfl
  | p :: ps => by
    have : ents (p :: ps) = (p.1, row p.2) :: ents ps := rfl
    rw [this, mapDel, del, del_ents k ps]
    split <;> rfl
theorem ents_len (l : Bxs) : (ents l).length = l.length := by simp [ents]
theorem rows_len (l : Bxs) : (rows l).length = l.length := by simp [rows]

/-- an office's variable, and the reference's -/
abbrev OB (l : Bxs) : Box := [.mp 4 (ents l)]

section
variable {bx : List Box} {lo : Nat} {l : Bxs} {k m by' : Int} {n : N4} {g : FuncId}

theorem f11 (hl : lo < bx.length) (hb : bx[lo]? = some (OB l)) :
    stepJ (ev cfg) cfg (.call 11 [.ptr lo 0, I k] bx) = some (.ret (.tup [.agg ((match get l k with | some n => row n | none => row (0, 0, 0, 0)).map .dat), B (get l k).isSome]) none) := by
  cases hg : get l k with
  | none =>
    have h1 : mapGet k (ents l) = none := by rw [get_ents, hg]; rfl
    simp (maxSteps := 2000000) only [go_sem, Nat.reduceSub, Nat.reduceAdd, Nat.reduceMul, Nat.reduceLT, Nat.reduceLeDiff, Nat.reduceBEq, Nat.reduceEqDiff, Nat.reduceGT, Int.reduceToNat, Int.reduceLT, Int.reduceNeg, Int.reduceEq, Int.reduceBEq, Int.reduceBNe, Int.reduceLE, Int.reduceGT, Int.reduceGE, Int.reduceNe, Int.reduceAdd, Int.reduceSub, Int.reduceMul, reduceIte, ↓reduceIte, fn11, cx11, Try.f11, ti3, ti33, ti49, ti51, hl, hb, h1, row]
  | some n =>
    have h1 : mapGet k (ents l) = some (row n) := by rw [get_ents, hg]; rfl
    simp (maxSteps := 2000000) only [go_sem, Nat.reduceSub, Nat.reduceAdd, Nat.reduceMul, Nat.reduceLT, Nat.reduceLeDiff, Nat.reduceBEq, Nat.reduceEqDiff, Nat.reduceGT, Int.reduceToNat, Int.reduceLT, Int.reduceNeg, Int.reduceEq, Int.reduceBEq, Int.reduceBNe, Int.reduceLE, Int.reduceGT, Int.reduceGE, Int.reduceNe, Int.reduceAdd, Int.reduceSub, Int.reduceMul, reduceIte, ↓reduceIte, fn11, cx11, Try.f11, ti3, ti33, ti49, ti51, hl, hb, h1, row]

/-! ### the reference's At -/
def RB (l : Bxs) : Box := match l with
  | [] => [.dat .nil]
  | p :: ps => [.own true 5 (rows (p :: ps))]
def atFrom (k : Int) (i : Nat) : Bxs → Int
  | [] => -1
  | p :: ps => if p.1 = k then i else atFrom k (i + 1) ps
def idx (l : Bxs) (k : Int) : Int := atFrom k 0 l

section
variable {i : Nat} {p : Int × N4} {len : Int}
theorem rows_get {l : Bxs} {i : Nat} {p : Int × N4} (h : l[i]? = some p) : (rows l)[i]? = some (dI p.1 :: row p.2) := by simp [rows, h]
theorem r12 {b : Bool} (hl : lo < bx.length) (hb : bx[lo]? = some [.own true 5 (rows l)]) (hget : l[i]? = some p) (hlt : i < l.length) (hmax : l.length < 9223372036854775808) (he : (p.1 == k) = b) :
    stepJ (ev cfg) cfg (.loop 12 2 ⟨(.dead :: I k :: .dead :: .dead :: .dead :: .dead :: .dead :: .dead :: .dead :: .dead :: .alias (.cell lo 0) :: I l.length :: I i :: .dead :: .dead :: .dead :: .dead :: .dead :: .dead :: .dead :: .dead :: .dead :: .dead :: []), bx, bx.length, none, false⟩) =
      if b = true then some (.loop .ret ⟨(.dead :: .dead :: .dead :: .dead :: I i :: .dead :: .dead :: .dead :: .dead :: .dead :: .dead :: .dead :: .dead :: .dead :: .dead :: .dead :: .dead :: .dead :: .dead :: .dead :: .dead :: .dead :: .dead :: []), bx, bx.length, none, false⟩) else ev cfg (.loop 12 2 ⟨(.dead :: I k :: .dead :: .dead :: .dead :: .dead :: .dead :: .dead :: .dead :: .dead :: .alias (.cell lo 0) :: I l.length :: I ((i + 1 : Nat) : Int) :: .dead :: .dead :: .dead :: .dead :: .dead :: .dead :: .dead :: .dead :: .dead :: .dead :: []), bx, bx.length, none, false⟩) := by
  have h1 := rows_get hget
  have h2 : i < (rows l).length := by rw [rows_len]; exact hlt
  cases b <;> simp (maxSteps := 2000000) only [go_sem, Nat.reduceSub, Nat.reduceAdd, Nat.reduceMul, Nat.reduceLT, Nat.reduceLeDiff, Nat.reduceBEq, Nat.reduceEqDiff, Nat.reduceGT, Int.reduceToNat, Int.reduceLT, Int.reduceNeg, Int.reduceEq, Int.reduceBEq, Int.reduceBNe, Int.reduceLE, Int.reduceGT, Int.reduceGE, Int.reduceNe, Int.reduceAdd, Int.reduceSub, Int.reduceMul, reduceIte, ↓reduceIte, fn12, cx12, Try.f12, ti3, ti27, ti29, ti33, ti38, hl, hb, h1, h2, row, nat_lt hlt, nat_neg, Int.toNat_natCast, he, nat_succ hlt hmax]
theorem e12 (hl : lo < bx.length) {X : PV} (hX : X = .dat .nil ∨ X = .alias (.cell lo 0)) {n : Nat} (hge : n ≤ i) :
    stepJ (ev cfg) cfg (.loop 12 2 ⟨(.dead :: I k :: .dead :: .dead :: .dead :: .dead :: .dead :: .dead :: .dead :: .dead :: X :: I n :: I i :: .dead :: .dead :: .dead :: .dead :: .dead :: .dead :: .dead :: .dead :: .dead :: .dead :: []), bx, bx.length, none, false⟩) = some (.loop (.exit 0) ⟨(.dead :: .dead :: .dead :: .dead :: .dead :: .dead :: .dead :: .dead :: .dead :: .dead :: .dead :: .dead :: .dead :: .dead :: .dead :: .dead :: .dead :: .dead :: .dead :: .dead :: .dead :: .dead :: .dead :: []), bx, bx.length, none, false⟩) := by
  rcases hX with rfl | rfl <;> simp (maxSteps := 2000000) only [go_sem, Nat.reduceSub, Nat.reduceAdd, Nat.reduceMul, Nat.reduceLT, Nat.reduceLeDiff, Nat.reduceBEq, Nat.reduceEqDiff, Nat.reduceGT, Int.reduceToNat, Int.reduceLT, Int.reduceNeg, Int.reduceEq, Int.reduceBEq, Int.reduceBNe, Int.reduceLE, Int.reduceGT, Int.reduceGE, Int.reduceNe, Int.reduceAdd, Int.reduceSub, Int.reduceMul, reduceIte, ↓reduceIte, fn12, cx12, Try.f12, ti3, ti27, ti29, ti33, ti38, nat_ge hge, hl]
theorem f12_nil (hl : lo < bx.length) (hb : bx[lo]? = some [.dat .nil])
    (hloop : ev cfg (.loop 12 2 ⟨(.dead :: I k :: .dead :: .dead :: .dead :: .dead :: .dead :: .dead :: .dead :: .dead :: .dat .nil :: I ((0 : Nat) : Int) :: I 0 :: .dead :: .dead :: .dead :: .dead :: .dead :: .dead :: .dead :: .dead :: .dead :: .dead :: []), bx, bx.length, none, false⟩) = some (.loop (.exit 0) ⟨(.dead :: .dead :: .dead :: .dead :: .dead :: .dead :: .dead :: .dead :: .dead :: .dead :: .dead :: .dead :: .dead :: .dead :: .dead :: .dead :: .dead :: .dead :: .dead :: .dead :: .dead :: .dead :: .dead :: []), bx, bx.length, none, false⟩)) :
    stepJ (ev cfg) cfg (.call 12 [.ptr lo 0, I k] bx) = some (.ret (I (-1)) none) := by
  simp (maxSteps := 2000000) only [go_sem, Nat.reduceSub, Nat.reduceAdd, Nat.reduceMul, Nat.reduceLT, Nat.reduceLeDiff, Nat.reduceBEq, Nat.reduceEqDiff, Nat.reduceGT, Int.reduceToNat, Int.reduceLT, Int.reduceNeg, Int.reduceEq, Int.reduceBEq, Int.reduceBNe, Int.reduceLE, Int.reduceGT, Int.reduceGE, Int.reduceNe, Int.reduceAdd, Int.reduceSub, Int.reduceMul, reduceIte, ↓reduceIte, fn12, cx12, Try.f12, ti3, ti27, ti29, ti33, ti38, hl, hb, hloop]
theorem f12_cons {b : Bool} {x : Int} (hl : lo < bx.length) (hb : bx[lo]? = some [.own true 5 (rows l)])
    (hloop : ev cfg (.loop 12 2 ⟨(.dead :: I k :: .dead :: .dead :: .dead :: .dead :: .dead :: .dead :: .dead :: .dead :: .alias (.cell lo 0) :: I l.length :: I 0 :: .dead :: .dead :: .dead :: .dead :: .dead :: .dead :: .dead :: .dead :: .dead :: .dead :: []), bx, bx.length, none, false⟩) =
      some (if b = true then .loop .ret ⟨(.dead :: .dead :: .dead :: .dead :: I x :: .dead :: .dead :: .dead :: .dead :: .dead :: .dead :: .dead :: .dead :: .dead :: .dead :: .dead :: .dead :: .dead :: .dead :: .dead :: .dead :: .dead :: .dead :: []), bx, bx.length, none, false⟩ else .loop (.exit 0) ⟨(.dead :: .dead :: .dead :: .dead :: .dead :: .dead :: .dead :: .dead :: .dead :: .dead :: .dead :: .dead :: .dead :: .dead :: .dead :: .dead :: .dead :: .dead :: .dead :: .dead :: .dead :: .dead :: .dead :: []), bx, bx.length, none, false⟩)) :
    stepJ (ev cfg) cfg (.call 12 [.ptr lo 0, I k] bx) = some (.ret (I (if b = true then x else -1)) none) := by
  cases b <;> simp only [if_true, if_false, Bool.false_eq_true] at hloop <;> simp (maxSteps := 2000000) only [go_sem, Nat.reduceSub, Nat.reduceAdd, Nat.reduceMul, Nat.reduceLT, Nat.reduceLeDiff, Nat.reduceBEq, Nat.reduceEqDiff, Nat.reduceGT, Int.reduceToNat, Int.reduceLT, Int.reduceNeg, Int.reduceEq, Int.reduceBEq, Int.reduceBNe, Int.reduceLE, Int.reduceGT, Int.reduceGE, Int.reduceNe, Int.reduceAdd, Int.reduceSub, Int.reduceMul, reduceIte, ↓reduceIte, fn12, cx12, Try.f12, ti3, ti27, ti29, ti33, ti38, hl, hb, rows_len, hloop]

theorem at_loop (hl : lo < bx.length) {l0 : Bxs} (hb : bx[lo]? = some [.own true 5 (rows l0)]) (hmax : l0.length < 9223372036854775808) : ∀ (l : Bxs) (i : Nat), l0.drop i = l →
    ∃ (b : Bool) (x : Int), atFrom k i l = (if b = true then x else -1) ∧ ev cfg (.loop 12 2 ⟨(.dead :: I k :: .dead :: .dead :: .dead :: .dead :: .dead :: .dead :: .dead :: .dead :: .alias (.cell lo 0) :: I l0.length :: I i :: .dead :: .dead :: .dead :: .dead :: .dead :: .dead :: .dead :: .dead :: .dead :: .dead :: []), bx, bx.length, none, false⟩) =
      some (if b = true then .loop .ret ⟨(.dead :: .dead :: .dead :: .dead :: I x :: .dead :: .dead :: .dead :: .dead :: .dead :: .dead :: .dead :: .dead :: .dead :: .dead :: .dead :: .dead :: .dead :: .dead :: .dead :: .dead :: .dead :: .dead :: []), bx, bx.length, none, false⟩ else .loop (.exit 0) ⟨(.dead :: .dead :: .dead :: .dead :: .dead :: .dead :: .dead :: .dead :: .dead :: .dead :: .dead :: .dead :: .dead :: .dead :: .dead :: .dead :: .dead :: .dead :: .dead :: .dead :: .dead :: .dead :: .dead :: []), bx, bx.length, none, false⟩)
  | [], i, h => ⟨false, 0, rfl, ev_step cfg (e12 hl (.inr rfl) (drop_nil h))⟩
  | p :: ps, i, h => by
    obtain ⟨h1, h2, h3⟩ := drop_cons h
    by_cases he : p.1 = k
    · refine ⟨true, i, by simp [atFrom, he], ?_⟩
      refine ev_step cfg ?_
      rw [r12 (b := true) hl hb h1 h3 hmax (by simpa using he), if_pos rfl, if_pos rfl]
    · obtain ⟨b, x, q1, q2⟩ := at_loop hl hb hmax ps (i + 1) h2
      refine ⟨b, x, by rw [atFrom, if_neg he]; exact q1, ?_⟩
      refine ev_step cfg ?_
      rw [r12 (b := false) hl hb h1 h3 hmax (by simpa using he), if_neg (by decide), q2]
theorem at_ev (hl : lo < bx.length) (hb : bx[lo]? = some (RB l)) (hmax : l.length < 9223372036854775808) : ev cfg (.call 12 [.ptr lo 0, I k] bx) = some (.ret (I (idx l k)) none) := by
  cases l with
  | nil => exact ev_step cfg (f12_nil hl hb (ev_step cfg (e12 hl (.inl rfl) (Nat.le_refl 0))))
  | cons p ps =>
    obtain ⟨b, x, h1, h2⟩ := at_loop (k := k) hl hb hmax (p :: ps) 0 rfl
    unfold idx
    rw [h1]
    exact ev_step cfg (f12_cons hl hb h2)
end
end
end Go.Proofs.Ytgppmcpbphgnnaa
