/- Rounds of the blocks' functions: digits, wrong, bad. No condition. -/
import Derived.Test.YtgppmcpbphgnnaaDoorB1
set_option linter.unusedSimpArgs false
set_option linter.unusedVariables false
set_option linter.unusedSectionVars false
namespace Go.Proofs.YtgppmcpbphgnnaaDoor
open Go Go.Vx
attribute [local congr] seqO_congr iteB_congr
attribute [local go_sem ↓] sO_some sO_none iB_true iB_false
attribute [local go_sem] stepJ sO_some sO_none iB_true iB_false seqO_iteB startSt acode aops aopR wantsR aopX isFnCall aop fetch takeAt moveTup St.val PV.ofValue D.ofCell put isTmp PV.maySrc aBin eqFieldsA eqCell binLit eqKind abool aint aUn thenC inBlockC polOf aConv retOf aress ares okRes okAl dstsOf stays outOf tupOf PV.noPtr PV.isDat PV.isOwn PV.strip aLoad frz0 frz1 frz2 frz3 frz4 frz5 frz6 frz7 frz8 frz9 frz10 frz11 frz12 freezeC PV.frz PV.frozen aStore aFieldAddr aIndexAddr addOff rowPtr rd_eq rdV rdPV_dat rdPV_own rdI_nil rdI_sl oneC_lit oneC_nil oneC_sl Rd.rows Rd.fits cut setCells isCell_dat isCell_own isCell_ptr isCell_iptr isCell_clo cells_dat cells_own cells_ptr cells_iptr cells_clo cells_agg toD_dat toDs aBuild canBuild aRows fetchs fetchN fetchNs aSlice aAppend builtin_len lenV builtin_append builtin_max builtin_min maxV minV ptrBox ptrBoxes prep prepN fin noAlias aopN aopNX aopNR anseg asegs segFree segsOf atHead atExit loopCode loopAt gc refLt cl_dat cl_own cl_ptr cl_clo cl_iptr cl_dead cl_alias cl_eptr ridOf keepAt St.at St.mark touch TK.isAgg Value.oneCell' iteB_not wl_0 wl_1 wl_2 wl_3 wl_4 wl_5 wl_6 wl_7 wl_8 wl_9 wl_10 wl_11 wl_12 wl_13 wl_14 wl_15 wl_16 wl_17 wl_18 wl_19 wl_20 wl_21 wl_22 wl_23 wl_24 wl_25 wl_26 wl_27 wl_28 wl_29 wl_30 beq_true' beq_false' app_get app_get0 app_set app_set0 app_take app_takek app_drop set_old get_old get_set take_set take_setk drop_set get_setn get_setn0 set_setn set_setn0 lt_addk List.set_set List.getElem?_toArray List.size_toArray Array.size_empty lt_irr add_lt_irr lt_add add_lt_add le_add add_sub List.getD_cons_zero List.getD_cons_succ List.set_cons_zero List.set_cons_succ List.replicate List.length_cons List.length_nil List.length_set List.cons_append List.nil_append List.append_nil List.append_assoc List.map_cons List.map_nil List.all_cons List.all_nil List.any_cons List.any_nil List.take_succ_cons List.take_zero List.take_nil List.drop_succ_cons List.drop_zero List.drop_nil List.zip_cons_cons List.zip_nil_left List.zip_nil_right List.find? List.contains List.elem List.getElem?_cons_zero List.getElem?_cons_succ List.getElem?_nil List.length_append List.length_map List.isEmpty Option.getD_none Option.getD_some Option.map_none Option.map_some Option.bind_some Option.bind_none Option.isSome_none Option.isSome_some Nat.add_zero Nat.zero_add Nat.add_assoc ne_eq not_false_eq_true not_true_eq_false BEq.rfl beq_self_eq_true if_true if_false Bool.false_eq_true Bool.and_true Bool.true_and Bool.and_false Bool.false_and Bool.or_true Bool.or_false Bool.true_or Bool.false_or Bool.not_false Bool.not_true Bool.not_not Bool.and_self and_self and_true true_and and_false false_and or_self or_false false_or or_true true_or decide_true decide_false
set_option maxHeartbeats 4000000
set_option maxRecDepth 10000

def chr (d : Nat) : ByteArray := ⟨#[UInt8.ofNat (48 + d)]⟩
def digN (n : Nat) : ByteArray := if n < 10 then chr n else digN (n / 10) ++ chr (n % 10)
def dig (n : Int) : ByteArray := if n < 0 then ⟨#[45, 49]⟩ else digN n.toNat

theorem chr_size (d : Nat) : (chr d).size = 1 := rfl
theorem digN_size : ∀ (k n : Nat), n < 10 ^ (k + 1) → (digN n).size ≤ k + 1
  | 0, n, h => by unfold digN; rw [if_pos (by simpa using h)]; exact Nat.le_refl 1
  | k + 1, n, h => by
    unfold digN
    split
    · rw [chr_size]; omega
    · rw [ByteArray.size_append, chr_size]
      have := digN_size k (n / 10) (by rw [Nat.pow_succ] at h; omega)
      omega
theorem dig_size {n : Int} (h : i64 n) : (dig n).size ≤ 19 := by
  unfold dig
  split
  · decide
  · exact digN_size 18 _ (by obtain ⟨h1, h2⟩ := h; simp only [Nat.reducePow, Nat.reduceAdd]; omega)

theorem enc_chr : ∀ d : Nat, d < 10 → Utf8.encode (IntKind.wrap .i32 (IntKind.wrap .i64 (48 + (d : Int)))) = chr d := by decide
theorem ext_chr : ∀ d : Nat, d < 10 → (⟨#[48, 49, 50, 51, 52, 53, 54, 55, 56, 57]⟩ : ByteArray).extract d (d + 1) = chr d := by decide

/-- of a number from 0 on -/
theorem digits_step (n : Nat) : (n / 10 : Nat) = (n : Int).tdiv 10 ∧ ((n % 10 : Nat) : Int) = (n : Int).tmod 10 := ⟨rfl, rfl⟩

section
variable {bx : List Box} {c : Box} {rows : List (List D)} {K L : D} {lr : List (List D)} {i : Nat} {k n a : Int} {K' L' : D}

theorem f59_neg {n : Int} (h : decide (n < 0) = true) : stepJ (ev cfg) cfg (.call 59 [I n] bx) = some (.ret (S ⟨#[45, 49]⟩) none) := by
  simp only [go_sem, Nat.reduceSub, Nat.reduceAdd, Nat.reduceMul, Nat.reduceLT, Nat.reduceLeDiff, Nat.reduceBEq, Nat.reduceEqDiff, Nat.reduceGT, Int.reduceToNat, Int.reduceLT, Int.reduceNeg, Int.reduceEq, Int.reduceLE, Int.reduceGT, Int.reduceGE, Int.reduceNe, Int.reduceAdd, Int.reduceSub, Int.reduceMul, reduceIte, ↓reduceIte, fn59, cx59, Tryd.f59, ti3, ti9, ti21, h]
theorem f59_one {n : Int} {s : ByteArray} (h : decide (n < 0) = false) (h2 : decide (n < 10) = true) (he : Utf8.encode (IntKind.wrap .i32 (IntKind.wrap .i64 (48 + n))) = s) : stepJ (ev cfg) cfg (.call 59 [I n] bx) = some (.ret (S s) none) := by
  simp only [go_sem, Nat.reduceSub, Nat.reduceAdd, Nat.reduceMul, Nat.reduceLT, Nat.reduceLeDiff, Nat.reduceBEq, Nat.reduceEqDiff, Nat.reduceGT, Int.reduceToNat, Int.reduceLT, Int.reduceNeg, Int.reduceEq, Int.reduceLE, Int.reduceGT, Int.reduceGE, Int.reduceNe, Int.reduceAdd, Int.reduceSub, Int.reduceMul, reduceIte, ↓reduceIte, fn59, cx59, Tryd.f59, ti3, ti9, ti21, h, h2, he]
theorem f59_more {n : Int} {s t : ByteArray} (h : decide (n < 0) = false) (h2 : decide (n < 10) = false) (he : Utf8.encode (IntKind.wrap .i32 (IntKind.wrap .i64 (48 + n.tmod 10))) = s) (hw : IntKind.wrap .i64 (n.tdiv 10) = n.tdiv 10) (hs : t.size + s.size ≤ 9223372036854775807)
    (hr : ∀ bx : List Box, ev cfg (.call 59 [I (n.tdiv 10)] bx) = some (.ret (S t) none)) : stepJ (ev cfg) cfg (.call 59 [I n] bx) = some (.ret (S (t ++ s)) none) := by
  simp only [go_sem, Nat.reduceSub, Nat.reduceAdd, Nat.reduceMul, Nat.reduceLT, Nat.reduceLeDiff, Nat.reduceBEq, Nat.reduceEqDiff, Nat.reduceGT, Int.reduceToNat, Int.reduceLT, Int.reduceNeg, Int.reduceEq, Int.reduceLE, Int.reduceGT, Int.reduceGE, Int.reduceNe, Int.reduceAdd, Int.reduceSub, Int.reduceMul, reduceIte, ↓reduceIte, fn59, cx59, Tryd.f59, ti3, ti9, ti21, h, h2, he, hw, hr, hs]

theorem r70 {n : Int} {s t : ByteArray} (h : decide (n > 9) = true) (h0 : (n.tmod 10 < 0) = False) (hw1 : IntKind.wrap .i64 (n.tmod 10 + 1) = n.tmod 10 + 1) (hw : IntKind.wrap .i64 (n.tdiv 10) = n.tdiv 10) (hle : (n.tmod 10 ≤ n.tmod 10 + 1) = True) (hle2 : (n.tmod 10 + 1 ≤ (10 : Nat)) = True)
    (he : (⟨#[48, 49, 50, 51, 52, 53, 54, 55, 56, 57]⟩ : ByteArray).extract (n.tmod 10).toNat (n.tmod 10 + 1).toNat = t) (hs : t.size + s.size ≤ 9223372036854775807) :
    stepJ (ev cfg) cfg (.loop 70 2 ⟨(I n :: .dead :: .dead :: S s :: .dead :: .dead :: .dead :: .dead :: .dead :: .dead :: .dead :: .dead :: .dead :: .dead :: .dead :: .dead :: .dead :: .dead :: .dead :: .dead :: .dead :: .dead :: []), bx, bx.length, none, false⟩) = ev cfg (.loop 70 2 ⟨(I (n.tdiv 10) :: .dead :: .dead :: S (t ++ s) :: .dead :: .dead :: .dead :: .dead :: .dead :: .dead :: .dead :: .dead :: .dead :: .dead :: .dead :: .dead :: .dead :: .dead :: .dead :: .dead :: .dead :: .dead :: []), bx, bx.length, none, false⟩) := by
  have hz : (⟨#[48, 49, 50, 51, 52, 53, 54, 55, 56, 57]⟩ : ByteArray).size = 10 := rfl
  simp only [go_sem, Nat.reduceSub, Nat.reduceAdd, Nat.reduceMul, Nat.reduceLT, Nat.reduceLeDiff, Nat.reduceBEq, Nat.reduceEqDiff, Nat.reduceGT, Int.reduceToNat, Int.reduceLT, Int.reduceNeg, Int.reduceEq, Int.reduceLE, Int.reduceGT, Int.reduceGE, Int.reduceNe, Int.reduceAdd, Int.reduceSub, Int.reduceMul, reduceIte, ↓reduceIte, fn70, cx70, Tryd.f70, ti9, h, h0, hw, hw1, hle, hle2, he, hs, hz, List.take_length, Nat.le_refl, Nat.sub_self, List.drop_length]
theorem e70 {n : Int} {s : ByteArray} (h : decide (n > 9) = false) :
    stepJ (ev cfg) cfg (.loop 70 2 ⟨(I n :: .dead :: .dead :: S s :: .dead :: .dead :: .dead :: .dead :: .dead :: .dead :: .dead :: .dead :: .dead :: .dead :: .dead :: .dead :: .dead :: .dead :: .dead :: .dead :: .dead :: .dead :: []), bx, bx.length, none, false⟩) = some (.loop (.exit 0) ⟨(I n :: .dead :: .dead :: S s :: .dead :: .dead :: .dead :: .dead :: .dead :: .dead :: .dead :: .dead :: .dead :: .dead :: .dead :: .dead :: .dead :: .dead :: .dead :: .dead :: .dead :: .dead :: []), bx, bx.length, none, false⟩) := by
  simp only [go_sem, Nat.reduceSub, Nat.reduceAdd, Nat.reduceMul, Nat.reduceLT, Nat.reduceLeDiff, Nat.reduceBEq, Nat.reduceEqDiff, Nat.reduceGT, Int.reduceToNat, Int.reduceLT, Int.reduceNeg, Int.reduceEq, Int.reduceLE, Int.reduceGT, Int.reduceGE, Int.reduceNe, Int.reduceAdd, Int.reduceSub, Int.reduceMul, reduceIte, ↓reduceIte, fn70, cx70, Tryd.f70, ti9, h, List.take_length, Nat.le_refl, Nat.sub_self, List.drop_length]
theorem f70 {n m : Int} {s t : ByteArray} (hloop : ev cfg (.loop 70 2 ⟨(I n :: .dead :: .dead :: S ⟨#[]⟩ :: .dead :: .dead :: .dead :: .dead :: .dead :: .dead :: .dead :: .dead :: .dead :: .dead :: .dead :: .dead :: .dead :: .dead :: .dead :: .dead :: .dead :: .dead :: []), bx, bx.length, none, false⟩) = some (.loop (.exit 0) ⟨(I m :: .dead :: .dead :: S s :: .dead :: .dead :: .dead :: .dead :: .dead :: .dead :: .dead :: .dead :: .dead :: .dead :: .dead :: .dead :: .dead :: .dead :: .dead :: .dead :: .dead :: .dead :: []), bx, bx.length, none, false⟩)) (h0 : (m < 0) = False) (hw1 : IntKind.wrap .i64 (m + 1) = m + 1) (hle : (m ≤ m + 1) = True) (hle2 : (m + 1 ≤ (10 : Nat)) = True)
    (he : (⟨#[48, 49, 50, 51, 52, 53, 54, 55, 56, 57]⟩ : ByteArray).extract m.toNat (m + 1).toNat = t) (hs : t.size + s.size ≤ 9223372036854775807) :
    stepJ (ev cfg) cfg (.call 70 [I n] bx) = some (.ret (S (t ++ s)) none) := by
  have hz : (⟨#[48, 49, 50, 51, 52, 53, 54, 55, 56, 57]⟩ : ByteArray).size = 10 := rfl
  simp only [go_sem, Nat.reduceSub, Nat.reduceAdd, Nat.reduceMul, Nat.reduceLT, Nat.reduceLeDiff, Nat.reduceBEq, Nat.reduceEqDiff, Nat.reduceGT, Int.reduceToNat, Int.reduceLT, Int.reduceNeg, Int.reduceEq, Int.reduceLE, Int.reduceGT, Int.reduceGE, Int.reduceNe, Int.reduceAdd, Int.reduceSub, Int.reduceMul, reduceIte, ↓reduceIte, fn70, cx70, Tryd.f70, ti9, hloop, h0, hw1, hle, hle2, he, hs, hz]

theorem f51_num {K : D} {n : Int} {s : ByteArray} (hK : K.oneC = true) (hr : ∀ bx : List Box, ev cfg (.call 70 [I n] bx) = some (.ret (S s) none)) :
    stepJ (ev cfg) cfg (.call 51 [.agg [I 1, I n, .dat K]] bx) = some (.ret (S s) none) := by
  have h1 : ((1 : Int) == 1) = true := rfl
  simp only [go_sem, Nat.reduceSub, Nat.reduceAdd, Nat.reduceMul, Nat.reduceLT, Nat.reduceLeDiff, Nat.reduceBEq, Nat.reduceEqDiff, Nat.reduceGT, Int.reduceToNat, Int.reduceLT, Int.reduceNeg, Int.reduceEq, Int.reduceLE, Int.reduceGT, Int.reduceGE, Int.reduceNe, Int.reduceAdd, Int.reduceSub, Int.reduceMul, reduceIte, ↓reduceIte, fn51, cx51, Tryd.f51, ti3, ti46, ti48, hK, hr, h1]
theorem f60_neg {n : Int} (h : decide (n < 0) = true) : stepJ (ev cfg) cfg (.call 60 [I n] bx) = some (.ret (S ⟨#[45, 49]⟩) none) := by
  simp only [go_sem, Nat.reduceSub, Nat.reduceAdd, Nat.reduceMul, Nat.reduceLT, Nat.reduceLeDiff, Nat.reduceBEq, Nat.reduceEqDiff, Nat.reduceGT, Int.reduceToNat, Int.reduceLT, Int.reduceNeg, Int.reduceEq, Int.reduceLE, Int.reduceGT, Int.reduceGE, Int.reduceNe, Int.reduceAdd, Int.reduceSub, Int.reduceMul, reduceIte, ↓reduceIte, fn60, cx60, Tryd.f60, ti3, ti46, ti48, h]
theorem f60_num {n : Int} {s : ByteArray} (h : decide (n < 0) = false) (hr : ∀ bx : List Box, ev cfg (.call 51 [.agg [I 1, I n, .dat .nil]] bx) = some (.ret (S s) none)) : stepJ (ev cfg) cfg (.call 60 [I n] bx) = some (.ret (S s) none) := by
  simp only [go_sem, Nat.reduceSub, Nat.reduceAdd, Nat.reduceMul, Nat.reduceLT, Nat.reduceLeDiff, Nat.reduceBEq, Nat.reduceEqDiff, Nat.reduceGT, Int.reduceToNat, Int.reduceLT, Int.reduceNeg, Int.reduceEq, Int.reduceLE, Int.reduceGT, Int.reduceGE, Int.reduceNe, Int.reduceAdd, Int.reduceSub, Int.reduceMul, reduceIte, ↓reduceIte, fn60, cx60, Tryd.f60, ti3, ti46, ti48, h, hr]

/-! ### wrong's closure -/
theorem r58 {l : Nat} {v : Bool} {f t w : Int} (hL : IsS 3 lr L) (hl : l < bx.length) (hb : bx[l]? = some [B v]) (hc : c.all (cellLt (bx.length + 1)) = true) (hget : lr[i]? = some [dI f, dI t, dI w]) (hlt : i < lr.length) (hmax : lr.length < 9223372036854775808) (lo : Option Nat) (hlo : lo = some l) :
    stepJ (ev cfg) cfg (.loop 58 3 ⟨(.dead :: .ptr l 0 :: .dead :: .dead :: .dead :: .dead :: .dead :: .dead :: .dead :: .dead :: .dead :: .dead :: .dead :: .dead :: .dead :: .dead :: .dead :: .dead :: .dead :: .dead :: .dead :: .dead :: .dead :: .dead :: .dead :: .dead :: .dead :: .dat L :: I lr.length :: I i :: .dead :: .dead :: .dead :: .dead :: .dead :: .dead :: .dead :: .dead :: .dead :: .dead :: .dead :: .dead :: .dead :: .dead :: .dead :: .dead :: .dead :: .dead :: .dead :: .dead :: []), bx ++ [c], bx.length, lo, false⟩) =
      ev cfg (.loop 58 3 ⟨(.dead :: .ptr l 0 :: .dead :: .dead :: .dead :: .dead :: .dead :: .dead :: .dead :: .dead :: .dead :: .dead :: .dead :: .dead :: .dead :: .dead :: .dead :: .dead :: .dead :: .dead :: .dead :: .dead :: .dead :: .dead :: .dead :: .dead :: .dead :: .dat L :: I lr.length :: I ((i + 1 : Nat) : Int) :: .dead :: .dead :: .dead :: .dead :: .dead :: .dead :: .dead :: .dead :: .dead :: .dead :: .dead :: .dead :: .dead :: .dead :: .dead :: .dead :: .dead :: .dead :: .dead :: .dead :: []), bx.set l [B (v || decide (f < -1) || decide (t < -1) || decide (w < -1))] ++ [c], bx.length, some l, false⟩) := by
  obtain ⟨ww, h1, h2, h3⟩ := hL
  obtain rfl := isS_w h2 hget
  subst hlo
  cases v
  · cases c1 : decide (f < -1)
    · cases c2 : decide (t < -1) <;> simp only [go_sem, Nat.reduceSub, Nat.reduceAdd, Nat.reduceMul, Nat.reduceLT, Nat.reduceLeDiff, Nat.reduceBEq, Nat.reduceEqDiff, Nat.reduceGT, Int.reduceToNat, Int.reduceLT, Int.reduceNeg, Int.reduceEq, Int.reduceLE, Int.reduceGT, Int.reduceGE, Int.reduceNe, Int.reduceAdd, Int.reduceSub, Int.reduceMul, reduceIte, ↓reduceIte, fn58, cx58, Tryd.f58, ti3, ti4, ti22, ti23, ti25, ti71, h1, h3, nat_lt hlt, nat_neg, Int.toNat_natCast, hget, hc, hl, hb, nat_succ hlt hmax, Nat.min_self, c1, c2]
    · simp only [go_sem, Nat.reduceSub, Nat.reduceAdd, Nat.reduceMul, Nat.reduceLT, Nat.reduceLeDiff, Nat.reduceBEq, Nat.reduceEqDiff, Nat.reduceGT, Int.reduceToNat, Int.reduceLT, Int.reduceNeg, Int.reduceEq, Int.reduceLE, Int.reduceGT, Int.reduceGE, Int.reduceNe, Int.reduceAdd, Int.reduceSub, Int.reduceMul, reduceIte, ↓reduceIte, fn58, cx58, Tryd.f58, ti3, ti4, ti22, ti23, ti25, ti71, h1, h3, nat_lt hlt, nat_neg, Int.toNat_natCast, hget, hc, hl, hb, nat_succ hlt hmax, Nat.min_self, c1]
  · simp only [go_sem, Nat.reduceSub, Nat.reduceAdd, Nat.reduceMul, Nat.reduceLT, Nat.reduceLeDiff, Nat.reduceBEq, Nat.reduceEqDiff, Nat.reduceGT, Int.reduceToNat, Int.reduceLT, Int.reduceNeg, Int.reduceEq, Int.reduceLE, Int.reduceGT, Int.reduceGE, Int.reduceNe, Int.reduceAdd, Int.reduceSub, Int.reduceMul, reduceIte, ↓reduceIte, fn58, cx58, Tryd.f58, ti3, ti4, ti22, ti23, ti25, ti71, h1, h3, nat_lt hlt, nat_neg, Int.toNat_natCast, hget, hc, hl, hb, nat_succ hlt hmax, Nat.min_self]
theorem e58 {l : Nat} {n i : Nat} (hl : l < bx.length) (hc : c.all (cellLt (bx.length + 1)) = true) (hge : n ≤ i) :
    stepJ (ev cfg) cfg (.loop 58 3 ⟨(.dead :: .ptr l 0 :: .dead :: .dead :: .dead :: .dead :: .dead :: .dead :: .dead :: .dead :: .dead :: .dead :: .dead :: .dead :: .dead :: .dead :: .dead :: .dead :: .dead :: .dead :: .dead :: .dead :: .dead :: .dead :: .dead :: .dead :: .dead :: .dat L :: I n :: I i :: .dead :: .dead :: .dead :: .dead :: .dead :: .dead :: .dead :: .dead :: .dead :: .dead :: .dead :: .dead :: .dead :: .dead :: .dead :: .dead :: .dead :: .dead :: .dead :: .dead :: []), bx ++ [c], bx.length, some l, false⟩) = some (.loop (.exit 0) ⟨(.dead :: .dead :: .dead :: .dead :: .dead :: .dead :: .dead :: .dead :: .dead :: .dead :: .dead :: .dead :: .dead :: .dead :: .dead :: .dead :: .dead :: .dead :: .dead :: .dead :: .dead :: .dead :: .dead :: .dead :: .dead :: .dead :: .dead :: .dead :: .dead :: .dead :: .dead :: .dead :: .dead :: .dead :: .dead :: .dead :: .dead :: .dead :: .dead :: .dead :: .dead :: .dead :: .dead :: .dead :: .dead :: .dead :: .dead :: .dead :: .dead :: .dead :: []), bx ++ [c], bx.length, some l, false⟩) := by
  simp only [go_sem, Nat.reduceSub, Nat.reduceAdd, Nat.reduceMul, Nat.reduceLT, Nat.reduceLeDiff, Nat.reduceBEq, Nat.reduceEqDiff, Nat.reduceGT, Int.reduceToNat, Int.reduceLT, Int.reduceNeg, Int.reduceEq, Int.reduceLE, Int.reduceGT, Int.reduceGE, Int.reduceNe, Int.reduceAdd, Int.reduceSub, Int.reduceMul, reduceIte, ↓reduceIte, fn58, cx58, Tryd.f58, ti3, ti4, ti22, ti23, ti25, ti71, nat_ge hge, hc, hl]
theorem f58 {l : Nat} {v v' : Bool} (hK : IsS 5 rows K) (hL : IsS 3 lr L) (hl : l < bx.length) (hb : bx[l]? = some [B v])
    (hloop : ∀ c : Box, c.all (cellLt (bx.length + 1)) = true → ev cfg (.loop 58 3 ⟨(.dead :: .ptr l 0 :: .dead :: .dead :: .dead :: .dead :: .dead :: .dead :: .dead :: .dead :: .dead :: .dead :: .dead :: .dead :: .dead :: .dead :: .dead :: .dead :: .dead :: .dead :: .dead :: .dead :: .dead :: .dead :: .dead :: .dead :: .dead :: .dat L :: I lr.length :: I 0 :: .dead :: .dead :: .dead :: .dead :: .dead :: .dead :: .dead :: .dead :: .dead :: .dead :: .dead :: .dead :: .dead :: .dead :: .dead :: .dead :: .dead :: .dead :: .dead :: .dead :: []), bx.set l [B (v || decide (k < 1) || decide (k > 10) || decide (n < 0) || decide (a < 0))] ++ [c], bx.length, some l, false⟩) = some (.loop (.exit 0) ⟨(.dead :: .dead :: .dead :: .dead :: .dead :: .dead :: .dead :: .dead :: .dead :: .dead :: .dead :: .dead :: .dead :: .dead :: .dead :: .dead :: .dead :: .dead :: .dead :: .dead :: .dead :: .dead :: .dead :: .dead :: .dead :: .dead :: .dead :: .dead :: .dead :: .dead :: .dead :: .dead :: .dead :: .dead :: .dead :: .dead :: .dead :: .dead :: .dead :: .dead :: .dead :: .dead :: .dead :: .dead :: .dead :: .dead :: .dead :: .dead :: .dead :: .dead :: []), bx.set l [B v'] ++ [c], bx.length, some l, false⟩)) :
    stepJ (ev cfg) cfg (.call 58 [.agg [I k, I n, I a, .dat K, .dat L], .ptr l 0] bx) = some (.ret (.tup []) (some ⟨bx.set l [B v'], l, false⟩)) := by
  obtain ⟨ww, h1, h2, h3⟩ := hK
  obtain ⟨wl, l1, l2, l3⟩ := hL
  have hloop' := hloop [I k, I n, I a, .dat K, .dat L] (by simp [cellLt])
  cases v
  · cases c1 : decide (k < 1)
    · cases c2 : decide (k > 10)
      · cases c3 : decide (n < 0) <;> simp only [c1, c2, c3, Bool.false_or, Bool.or_false, Bool.or_true, Bool.true_or] at hloop' <;> simp only [go_sem, Nat.reduceSub, Nat.reduceAdd, Nat.reduceMul, Nat.reduceLT, Nat.reduceLeDiff, Nat.reduceBEq, Nat.reduceEqDiff, Nat.reduceGT, Int.reduceToNat, Int.reduceLT, Int.reduceNeg, Int.reduceEq, Int.reduceLE, Int.reduceGT, Int.reduceGE, Int.reduceNe, Int.reduceAdd, Int.reduceSub, Int.reduceMul, reduceIte, ↓reduceIte, fn58, cx58, Tryd.f58, ti3, ti4, ti22, ti23, ti25, ti71, h1, h3, l1, l3, hl, hb, c1, c2, c3, hloop']
      · simp only [c1, c2, Bool.false_or, Bool.or_false, Bool.or_true, Bool.true_or] at hloop'
        simp only [go_sem, Nat.reduceSub, Nat.reduceAdd, Nat.reduceMul, Nat.reduceLT, Nat.reduceLeDiff, Nat.reduceBEq, Nat.reduceEqDiff, Nat.reduceGT, Int.reduceToNat, Int.reduceLT, Int.reduceNeg, Int.reduceEq, Int.reduceLE, Int.reduceGT, Int.reduceGE, Int.reduceNe, Int.reduceAdd, Int.reduceSub, Int.reduceMul, reduceIte, ↓reduceIte, fn58, cx58, Tryd.f58, ti3, ti4, ti22, ti23, ti25, ti71, h1, h3, l1, l3, hl, hb, c1, c2, hloop']
    · simp only [c1, Bool.false_or, Bool.or_false, Bool.or_true, Bool.true_or] at hloop'
      simp only [go_sem, Nat.reduceSub, Nat.reduceAdd, Nat.reduceMul, Nat.reduceLT, Nat.reduceLeDiff, Nat.reduceBEq, Nat.reduceEqDiff, Nat.reduceGT, Int.reduceToNat, Int.reduceLT, Int.reduceNeg, Int.reduceEq, Int.reduceLE, Int.reduceGT, Int.reduceGE, Int.reduceNe, Int.reduceAdd, Int.reduceSub, Int.reduceMul, reduceIte, ↓reduceIte, fn58, cx58, Tryd.f58, ti3, ti4, ti22, ti23, ti25, ti71, h1, h3, l1, l3, hl, hb, c1, hloop']
  · simp only [Bool.true_or] at hloop'
    simp only [go_sem, Nat.reduceSub, Nat.reduceAdd, Nat.reduceMul, Nat.reduceLT, Nat.reduceLeDiff, Nat.reduceBEq, Nat.reduceEqDiff, Nat.reduceGT, Int.reduceToNat, Int.reduceLT, Int.reduceNeg, Int.reduceEq, Int.reduceLE, Int.reduceGT, Int.reduceGE, Int.reduceNe, Int.reduceAdd, Int.reduceSub, Int.reduceMul, reduceIte, ↓reduceIte, fn58, cx58, Tryd.f58, ti3, ti4, ti22, ti23, ti25, ti71, h1, h3, l1, l3, hl, hb, hloop']
end

end Go.Proofs.YtgppmcpbphgnnaaDoor
