/- The abstract interpreter of the model's code, and its soundness: a part. No condition. -/
import Derived.Test.YtifckjhggamefaaDoorVc
import Derived.Lib.AppendStr
import Derived.Lib.UnsafeStr
set_option linter.unusedSimpArgs false
set_option linter.unusedVariables false
set_option linter.unusedSectionVars false
namespace Go.Vx
open Go Go.RowKit

section
variable {P : Program} {cfg : Cfg} {base : Nat} {w0 w : World} {g : Gh} {d : Nat} {s : St} {vals : Array Value} {o : Oper} {a : Act}

theorem RdRel.value {r : Rd} {u : Value} (hr : RdRel w g vals d s r u) : ∃ ad c, u = .slice ad r.rows.length c ∧ r.rows.length ≤ c := by
  cases hr with
  | imm k xs _ h => obtain ⟨ad, c, h1, h2, _⟩ := h.slice; exact ⟨ad, c, h1, h2⟩
  | «at» p ex k xs _ ow h1 h2 h3 h4 => obtain ⟨b, off, c, cs, T, f1, f2, f3, f4, _⟩ := h4; exact ⟨_, c, f1, f4⟩

/-- what is appended -/
def AppArg (P : Program) (w : World) (g : Gh) (rb : Rd) (y : Value) : Prop :=
  (∀ w', (Builtin.lenOf y).run P w' = .ok rb.rows.length w') ∧ ∀ k, rb.fits k = true → ∃ us : List Value, us.length = rb.rows.length * k ∧ (∀ x ∈ rb.rows, x.length = k) ∧
    (∀ w' : World, (∀ ad, w'.cell? ad = w.cell? ad) → (Builtin.firstCells k rb.rows.length y).run P w' = .ok us.toArray w') ∧ ∀ (j : Nat) x, rb.rows.flatten[j]? = some x → ∃ v, us[j]? = some v ∧ RelD g.m x v

theorem appArg_rd (hi : Inv base w0 w g d s vals) {rb : Rd} {u : Value} (Rb : RdRel w g vals d s rb u) : AppArg P w g rb u := by
  refine ⟨fun w' => ?_, fun k hk => ?_⟩
  · obtain ⟨ad, c, rfl, _⟩ := Rb.value
    rfl
  · obtain ⟨ad, cb, us, eb, hcb, hul, hyk, hus1, hus2, hus3⟩ := rd_cells hi Rb hk
    refine ⟨us, hul, hyk, fun w' hw' => ?_, hus3⟩
    rw [eb]
    exact firstCells_of hul hus1 fun b off e j v hv => by rw [hw']; exact hus2 b off e j v hv

theorem strRows_len (b : ByteArray) : (strRows b).length = b.size := by simp [strRows]

theorem strRows_one (b : ByteArray) : ∀ x ∈ strRows b, x.length = 1 := by
  intro x hx
  simp only [strRows, List.mem_map] at hx
  obtain ⟨c, _, rfl⟩ := hx
  rfl

theorem flat_one {α β : Type} (f : α → β) : ∀ l : List α, (l.map fun c => [f c]).flatten = l.map f
  | [] => rfl
  | x :: l => by simp only [List.map_cons, List.flatten_cons, flat_one f l, List.cons_append, List.nil_append]

theorem appArg_str (b : ByteArray) : AppArg P w g (.imm 1 (strRows b)) (.string b) := by
  have hl := strRows_len b
  refine ⟨fun w' => ?_, fun k hk => ?_⟩
  · show _ = Result.ok (strRows b).length w'
    rw [hl]; rfl
  · by_cases hb : strRows b = []
    · have h0 : b.size = 0 := by rw [← hl, hb]; rfl
      refine ⟨[], by simp [Rd.rows, hb], by simp [Rd.rows, hb], fun w' _ => ?_, by simp [Rd.rows, hb]⟩
      simp only [Rd.rows, hb, List.length_nil]
      have : b = ByteArray.empty := by
        cases b with | mk dd => cases dd with | mk l => simp only [ByteArray.size, List.size_toArray] at h0; have := List.eq_nil_of_length_eq_zero h0; subst this; rfl
      subst this
      simp [Builtin.firstCells]
    · have hk1 : k = 1 := by
        simp only [Rd.fits, Bool.or_eq_true, beq_iff_eq, List.isEmpty_iff] at hk
        exact (hk.resolve_right hb).symm
      subst hk1
      refine ⟨b.data.toList.map fun c => .int .u8 c.toNat, by simp [Rd.rows, strRows], strRows_one b, fun w' _ => ?_, fun j x hx => ?_⟩
      · simp only [Rd.rows, hl]
        have := Go.Lib.run_firstCells_string (P := P) w' 1 b
        rw [this]
        simp [Go.Lib.strCells]
      · simp only [Rd.rows, strRows, flat_one] at hx
        rw [List.getElem?_map] at hx
        cases hc : b.data.toList[j]? with
        | none => rw [hc] at hx; cases hx
        | some c =>
          rw [hc] at hx
          obtain rfl := Option.some.inj hx
          refine ⟨.int .u8 c.toNat, by rw [List.getElem?_map, hc]; rfl, .lit _ rfl⟩

theorem append_sound (hc : CfgOk P cfg) (hi : Inv base w0 w g d s vals) (hgl : GlobOk cfg g) (ha : a.tmps = vals) {t : TypeId} {x y : Operand} {rb : Rd} {pv : PV} {s1 : St} (h : aAppendR cfg t x rb s = some (pv, s1))
    (hB : AppArg P w g rb (a.eval y)) {argTypes : Array TypeId} (ha0 : argTypes[0]? = some t) (ha1 : NoZeros P argTypes) (ty : TypeId) :
    ∃ v w1 g1, (Builtin.append_ argTypes ty #[a.eval x, a.eval y]).run P w = .ok v w1 ∧ Inv base w0 w1 g1 d s1 vals ∧ Stp d s s1 w w1 g g1 ∧ RelP w1 g1 vals s1 pv v := by
  unfold aAppendR at h
  obtain ⟨i, hti, h1⟩ := seqO_eq.1 h
  have hkd := (hc.ti t i hti).kind
  clear h
  split at h1
  · rename_i e hk
    rw [hk] at hkd
    simp only [KindOk] at hkd
    obtain ⟨j, htj, h2⟩ := seqO_eq.1 h1
    clear h1
    have htj' := hc.ti e j htj
    obtain ⟨info, z, q1, q2, q3, q4, q5, q6⟩ := run_zero_size htj'
    split at h2
    · cases h2
    · rename_i hne
      have hk0 : 0 < j.size := Nat.pos_of_ne_zero fun e => hne (.inl e)
      have hb0 : 0 < j.bytes := Nat.pos_of_ne_zero fun e => hne (.inr e)
      obtain ⟨ra, hra, h4⟩ := seqO_eq.1 h2
      clear h2
      have Ra := rd_sound hi hgl ha hra
      obtain ⟨hblen, hB⟩ := hB
      simp only at h4
      split at h4
      · rename_i hcond
        obtain ⟨hbytes, hfit⟩ := hcond
        obtain ⟨us, hul, hyk, hf0, hus3⟩ := hB _ hfit
        have hks := keyOf_ksz hc htj hk0
        have hkb : keyOf cfg e j = 0 → e = g.bt := fun h => by rw [hgl.2]; exact keyOf_byte hk0 h
        have hyk' : ∀ x ∈ rb.rows, x.length = ksz (keyOf cfg e j) := by rw [hks]; exact hyk
        have hul' : us.length = rb.rows.length * ksz (keyOf cfg e j) := by rw [hks]; exact hul
        have q6' : z.cells.size = ksz (keyOf cfg e j) := by rw [hks]; exact q6
        have q2' : info.size = ksz (keyOf cfg e j) := by rw [hks]; exact q2
        have hmax : ra.rows.length + rb.rows.length ≤ 140737488355328 := Nat.le_trans (Nat.le_mul_of_pos_right _ hb0) hbytes
        have hmaxL : ra.rows.length + rb.rows.length ≤ maxLen := by simp only [maxLen]; omega
        have hf : ∀ w', (∀ ad, w'.cell? ad = w.cell? ad) → (Builtin.firstCells info.size rb.rows.length (a.eval y)).run P w' = .ok us.toArray w' := by
          intro w' hw'
          rw [q2]
          exact hf0 w' hw'
        -- nothing is appended: the slice itself
        have hsame : us = [] → ∀ ad' n c, a.eval x = .slice ad' n c → n ≤ c → rb.rows.length = 0 →
            (Builtin.append_ argTypes ty #[a.eval x, a.eval y]).run P w = .ok (.slice ad' (n + 0) c) w := by
          intro hu ad' n c ex hle hr0
          rw [ex]
          have := run_append_in (ty := ty) (w' := w) ha0 ha1 hkd q1 (hblen w) (hf w fun _ => rfl) (bs := ad') (n := n) (c := c) (by omega) (fun b _ => by rw [hu]; rfl) (fun _ => rfl)
          rw [hr0] at this
          exact this
        split at h4
        · rename_i k xs
          cases Ra with
          | imm _ _ _ hd =>
            obtain ⟨ad', c', ex, hle, _⟩ := hd.slice
            change xs.length + rb.rows.length ≤ maxLen at hmaxL
            change (xs.length + rb.rows.length) * j.bytes ≤ 140737488355328 at hbytes
            change xs.length + rb.rows.length ≤ 140737488355328 at hmax
            split at h4
            · rename_i hnil
              have hv := val_plain hi hgl ha hnil (by intro e; cases e) (by intro _ _ _ e; cases e) rfl rfl
              have hx0 : ∃ a0, a.eval x = .slice a0 0 0 := by
                generalize a.eval x = ux at hv
                cases hv
                exact ⟨_, rfl⟩
              obtain ⟨a0, ex0⟩ := hx0
              rw [ex0] at ex
              have hxl : xs.length = 0 := by simp only [Value.slice.injEq] at ex; exact ex.2.1.symm
              simp only [Option.some.injEq, Prod.mk.injEq] at h4
              obtain ⟨rfl, rfl⟩ := h4
              cases hys : rb.rows with
              | nil =>
                have hu : us = [] := List.eq_nil_of_length_eq_zero (by rw [hul, hys]; simp)
                have hrun := hsame hu a0 0 0 ex0 (Nat.le_refl _) (by rw [hys]; rfl)
                exact ⟨_, w, g, hrun, hi, Stp.refl d _ w g, RelD.nil a0⟩
              | cons y0 ys0 =>
                rw [← hys]
                have hpos : 0 < rb.rows.length := by rw [hys]; simp
                have hfo : (Builtin.firstCells info.size 0 (.slice a0 0 0)).run P w.drew = .ok #[] w.drew := by
                  cases a0 <;> simp [Builtin.firstCells, loadCells, loadCellsFrom]
                have hrun := run_append_out (ty := ty) (w := w) ha0 ha1 hkd q1 q4 (bs := a0) (n := 0) (c := 0) (hblen w) hfo (hf w.drew fun _ => rfl) (by omega) (by simp only [maxLen] at hmaxL; omega) (growslice_fits (by omega) (by rw [q3]; simpa [hxl] using hbytes))
                rw [← ex0] at hrun
                obtain ⟨g', k1, k2, k3⟩ := grown_sound (info := info) (e := e) (c := 0) (n := 0) (m := rb.rows.length) (z := z) (olds := []) (us := us) (rows := rb.rows) hi hkb q6' (by simp) hul' (by simp) hyk' (by simpa [hxl] using hmaxL) (fun j x hx => by simpa using hus3 j x hx) q2'
                refine ⟨_, _, g', hrun, k1, k2, ?_⟩
                split
                · rename_i h0; rw [h0] at hpos; simp at hpos
                · exact k3
            · split at h4
              · rename_i hye
                simp only [Option.some.injEq, Prod.mk.injEq] at h4
                obtain ⟨rfl, rfl⟩ := h4
                have hy0 : rb.rows = [] := by simpa using hye
                have hu : us = [] := List.eq_nil_of_length_eq_zero (by rw [hul, hy0]; simp)
                have hrun := hsame hu ad' xs.length c' ex hle (by rw [hy0]; rfl)
                refine ⟨_, w, g, hrun, hi, Stp.refl d _ w g, ?_⟩
                rw [ex] at hd
                exact hd
              · cases h4
        · rename_i p ex k xs
          cases Ra with
          | «at» _ _ _ _ _ ow p1 p2 p3 p4 =>
            change xs.length + rb.rows.length ≤ maxLen at hmaxL
            change (xs.length + rb.rows.length) * j.bytes ≤ 140737488355328 at hbytes
            change xs.length + rb.rows.length ≤ 140737488355328 at hmax
            split at h4
            · rename_i hkk
              subst hkk
              simp only [Option.some.injEq, Prod.mk.injEq] at h4
              obtain ⟨rfl, rfl⟩ := h4
              have ⟨b, off, c, cs, T, f1, f2, f3, f4, f5, f6, f7, f8, f9, f10, f11⟩ := p4
              by_cases hroom : xs.length + rb.rows.length ≤ c
              · obtain ⟨r1, g', r2, r3, r4⟩ := room_sound hi p2 p3 f1 p4 f3 hyk' hul' hroom hus3
                refine ⟨_, _, g', ?_, r2, r3, r4⟩
                rw [f1]
                refine run_append_in (ty := ty) ha0 ha1 hkd q1 (hblen w) (hf w fun _ => rfl) hroom (fun b' hb' => ?_) (fun h => by cases h)
                obtain rfl := Option.some.inj hb'
                have hone : ∀ v ∈ us, v.oneCell' = true := by
                  intro v hv
                  obtain ⟨jj, hj⟩ := List.getElem?_of_mem hv
                  have hlt := (List.getElem?_eq_some_iff.1 hj).1
                  have hfy := flatten_len hyk
                  have : jj < rb.rows.flatten.length := by omega
                  obtain ⟨v', h1, h2⟩ := hus3 jj _ (List.getElem?_eq_getElem this)
                  rw [hj] at h1
                  obtain rfl := Option.some.inj h1
                  exact h2.oneCell
                rw [hks] at r1 ⊢
                have hst := run_storeCells_at P b (off + xs.length * j.size) T us 0 cs w f3 (by simpa using r1) hone
                simp only [Nat.add_zero] at hst
                rw [q2, add_mk]
                exact hst
              · have hfxl := flatten_len f8
                -- the old cells
                have holds : ∀ (jj : Nat), jj < xs.flatten.length → ∃ x v, xs.flatten[jj]? = some x ∧ cs[off + jj]? = some v ∧ RelD g.m x v := fun jj hj => by
                  obtain ⟨v, h1, h2⟩ := f9 jj _ (List.getElem?_eq_getElem hj)
                  exact ⟨_, v, List.getElem?_eq_getElem hj, h1, h2⟩
                let olds := (List.range xs.flatten.length).map fun jj => (cs[off + jj]?).getD undef
                have hol' : olds.length = xs.length * ksz (keyOf cfg e j) := by simp only [olds, List.length_map, List.length_range]; exact hfxl
                have hol : olds.length = xs.length * j.size := by rw [← hks]; exact hol'
                have holdget : ∀ (jj : Nat) v, olds[jj]? = some v → cs[off + jj]? = some v := by
                  intro jj v hv
                  simp only [olds, List.getElem?_map] at hv
                  cases hj : (List.range xs.flatten.length)[jj]? with
                  | none => rw [hj] at hv; cases hv
                  | some j' =>
                    obtain ⟨hlt, he⟩ := List.getElem?_eq_some_iff.1 hj
                    simp only [List.length_range, List.getElem_range] at hlt he
                    subst he
                    obtain ⟨x', v', _, g1, _⟩ := holds jj hlt
                    rw [hj] at hv
                    simp only [Option.map_some, g1, Option.getD_some, Option.some.injEq] at hv
                    subst hv; exact g1
                have hfo : (Builtin.firstCells info.size xs.length (.slice (some ⟨b, off, none⟩) xs.length c)).run P w.drew = .ok olds.toArray w.drew := by
                  rw [q2]
                  refine firstCells_of hol (fun _ => ⟨b, off, rfl⟩) fun b' off' e jj v hv => ?_
                  simp only [Option.some.injEq, Addr.mk.injEq] at e
                  obtain ⟨rfl, rfl, _⟩ := e
                  show w.cell? _ = _
                  rw [cell_of_heap f3]
                  exact holdget jj v hv
                have hrun := run_append_out (ty := ty) (w := w) ha0 ha1 hkd q1 q4 (bs := some ⟨b, off, none⟩) (n := xs.length) (c := c) (hblen w) hfo (hf w.drew fun _ => rfl) (by omega) (by simp only [maxLen] at hmaxL; omega) (growslice_fits (by omega) (by rw [q3]; exact hbytes))
                rw [← f1] at hrun
                obtain ⟨g', k1, k2, k3⟩ := grown_sound (info := info) (e := e) (c := c) (n := xs.length) (m := rb.rows.length) (z := z) (olds := olds) (us := us) (rows := xs ++ rb.rows) hi hkb q6' hol' hul' (by simp)
                  (fun x hx => by rcases List.mem_append.1 hx with h | h <;> first | exact f8 x h | exact hyk' x h) hmaxL (fun jj x hx => by
                    rcases flatten_append_get hx with ⟨h1, h2⟩ | ⟨h1, h2⟩
                    · obtain ⟨x', v, g0, g1, g2⟩ := holds jj h1
                      rw [h2] at g0
                      obtain rfl := Option.some.inj g0
                      refine ⟨v, ?_, g2⟩
                      rw [List.getElem?_append_left (by rw [hol']; omega)]
                      simp only [olds, List.getElem?_map, List.getElem?_range h1, Option.map_some, g1, Option.getD_some]
                    · obtain ⟨v, g1, g2⟩ := hus3 _ x h2
                      refine ⟨v, ?_, g2⟩
                      rw [List.getElem?_append_right (by rw [hol']; omega), hol', ← hfxl]; exact g1) q2'
                obtain ⟨m1, m2⟩ := dead_at k1 p1
                cases ex with
                | true => exact ⟨_, _, g', hrun, m1, k2.trans m2, k3⟩
                | false =>
                  obtain ⟨g2, n1, n2, n3⟩ := sharepend_sound m1 k3
                  exact ⟨_, _, g2, hrun, n1, (k2.trans m2).trans n2, n3⟩
            · cases h4
      · cases h4
  · cases h1
end

end Go.Vx
namespace Go.Vx
open Go Go.RowKit

section
variable {P : Program} {cfg : Cfg} {base : Nat} {w0 w : World} {g : Gh} {d : Nat} {s : St} {vals : Array Value} {o : Oper} {a : Act}

theorem flatten_drop {k : Nat} : ∀ {xs : List (List D)} (l : Nat), (∀ x ∈ xs, x.length = k) → (xs.drop l).flatten = xs.flatten.drop (l * k)
  | xs, 0, _ => by simp
  | [], l + 1, _ => by simp
  | x :: xs, l + 1, h => by
    have hx : x.length = k := h x (List.mem_cons_self ..)
    have e1 : x.drop ((l + 1) * k) = [] := List.drop_of_length_le (by rw [hx, Nat.add_mul]; omega)
    have e2 : (l + 1) * k - x.length = l * k := by rw [hx, Nat.add_mul]; omega
    rw [List.drop_succ_cons, flatten_drop l (fun y hy => h y (List.mem_cons_of_mem _ hy)), List.flatten_cons, List.drop_append, e1, e2, List.nil_append]

theorem flatten_take_get {xs : List (List D)} {n j : Nat} {x : D} (h : (xs.take n).flatten[j]? = some x) : xs.flatten[j]? = some x := by
  have e : xs.flatten = (xs.take n).flatten ++ (xs.drop n).flatten := by rw [← List.flatten_append, List.take_append_drop]
  rw [e, List.getElem?_append_left (List.getElem?_eq_some_iff.1 h).1]
  exact h

theorem sub_get {k l n : Nat} {xs : List (List D)} (h : ∀ x ∈ xs, x.length = k) {j : Nat} {x : D} (hx : ((xs.take n).drop l).flatten[j]? = some x) : xs.flatten[l * k + j]? = some x := by
  rw [flatten_drop l (fun y hy => h y (List.mem_of_mem_take hy)), List.getElem?_drop] at hx
  exact flatten_take_get hx

theorem sub_len {α : Type} {xs : List α} {l n : Nat} (h1 : l ≤ n) (h2 : n ≤ xs.length) : ((xs.take n).drop l).length = n - l := by
  simp only [List.length_drop, List.length_take]; omega

/-- a slice of shared elements -/
theorem relD_sub {m : Addr → Option Value} {k l n c : Nat} {xs : List (List D)} {ad : Option Addr} (h : RelD m (.sl k xs) (.slice ad xs.length c)) (h1 : l ≤ n) (h2 : n ≤ xs.length) (h3 : xs.length ≤ c) :
    RelD m (.sl k ((xs.take n).drop l)) (.slice (if c = l then ad else ad.map (·.add (l * k))) (n - l) (c - l)) := by
  have hlen := sub_len h1 h2
  by_cases hn : n = l
  · have : (xs.take n).drop l = [] := List.eq_nil_of_length_eq_zero (by omega)
    rw [this, hn, Nat.sub_self]
    exact .emp k _ _
  · have hcl : ¬ c = l := by omega
    obtain ⟨ad', c', e, _, h4⟩ := h.slice
    simp only [Value.slice.injEq] at e
    obtain ⟨rfl, _, rfl⟩ := e
    have hne : xs ≠ [] := by rintro rfl; simp at h2; omega
    obtain ⟨h5, b, off, us, rfl, h6⟩ := h4 hne
    rw [if_neg hcl, ← hlen]
    simp only [Option.map_some, add_mk]
    exact relD_of_cells (by omega) (fun x hx => h5 x (List.mem_of_mem_take (List.mem_of_mem_drop hx))) (fun j => us (l * k + j)) fun j x hx => by
      rw [Nat.add_assoc]; exact h6 _ x (sub_get h5 hx)

def BoundIs (a : Act) (lo : Option Operand) (dflt l : Int) : Prop :=
  match lo with
  | some x => ∃ k, a.eval x = .int k l
  | none => l = dflt

/-- the bounds of a slice expression without a third -/
theorem run_bounds {b : Bool} {len cap : Nat} {lo hi : Option Operand} {l h : Int} (hl : BoundIs a lo 0 l) (hh : BoundIs a hi len h)
    (h0 : 0 ≤ l) (h1 : l ≤ h) (h2 : h ≤ len) (h3 : len ≤ cap) : (Instr.sliceBounds b len cap (lo.map a.eval) (hi.map a.eval) none).run P w = .ok (l.toNat, h.toNat, cap) w := by
  have key : ∀ (y : Nat) (x : Int) (k : IntKind) (code : BoundsCode), 0 ≤ x → x ≤ y → (Instr.sliceBound (.int k x) y code).run P w = .ok x.toNat w := by
    intro y x k code hx hy
    simp [Instr.sliceBound, asIntOf, hx, hy]
  cases hi with
  | none =>
    obtain rfl := hh
    cases lo with
    | none => obtain rfl := hl; simp [Instr.sliceBounds]
    | some x =>
      obtain ⟨k, e⟩ := hl
      have hk := fun code => key len l k code h0 (by omega)
      simp [Instr.sliceBounds, e, hk]
  | some y =>
    obtain ⟨ky, ey⟩ := hh
    have hk2 := fun code => key cap h ky code (by omega) (by omega)
    cases lo with
    | none => obtain rfl := hl; simp [Instr.sliceBounds, ey, hk2]
    | some x =>
      obtain ⟨k, e⟩ := hl
      have hk := fun code => key h.toNat l k code h0 (by omega)
      simp [Instr.sliceBounds, e, ey, hk, hk2]

theorem bound_val (hi : Inv base w0 w g d s vals) (hgl : GlobOk cfg g) (ha : a.tmps = vals) {lo : Option Operand} {dflt l : Int} (h : (match lo with | some x => aint (s.val cfg x) | none => some dflt) = some l) : BoundIs a lo dflt l := by
  cases lo with
  | none => exact (Option.some.inj h).symm
  | some x => exact val_int hi hgl ha h

theorem slice_exec {t : TypeId} {x : Operand} {lo hi mx : Option Operand} (ho : o.op = .slice t x lo hi mx) {v : Value} {w' : World} (hr : (Instr.sliceAt t (a.eval x) (lo.map a.eval) (hi.map a.eval) (mx.map a.eval)).run P w = .ok v w') :
    (execOp a.eval o).run P w = .ok (.value v) w' := by
  simp only [execOp, ho, Sem.run_bind, hr, Result.andThen_ok, Sem.run_pure]

theorem chunks_len {α : Type} (k : Nat) : ∀ (n : Nat) (cs : List α), (chunks k n cs).length = n
  | 0, _ => rfl
  | n + 1, cs => by simp [chunks, chunks_len k n]

theorem chunks_row {α : Type} (k : Nat) : ∀ (n : Nat) (cs : List α), n * k ≤ cs.length → ∀ x ∈ chunks k n cs, x.length = k
  | 0, _, _, x, h => by cases h
  | n + 1, cs, hl, x, h => by
    rw [Nat.add_mul] at hl
    simp only [chunks, List.mem_cons] at h
    rcases h with rfl | h
    · rw [List.length_take]; omega
    · exact chunks_row k n (cs.drop k) (by rw [List.length_drop]; omega) x h

theorem chunks_flat {α : Type} (k : Nat) : ∀ (n : Nat) (cs : List α), (chunks k n cs).flatten = cs.take (n * k)
  | 0, _ => by simp [chunks]
  | n + 1, cs => by
    simp only [chunks, List.flatten_cons, chunks_flat k n (cs.drop k)]
    rw [Nat.add_mul, Nat.one_mul, Nat.add_comm (n * k) k, List.take_add]

theorem sliceP_goes (hc : CfgOk P cfg) (hi : Inv base w0 w g d s vals) (hgl : GlobOk cfg g) (ha : a.tmps = vals) {t : TypeId} {x : Operand} {lo hi' mx : Option Operand} (ho : o.op = .slice t x lo hi' mx) {n : Nat} {e : TypeId} (u1 : P.underlying t = some (.array n e)) {v : PV}
    (h : aSliceP cfg n e (s.val cfg x) lo hi' mx = some v) : Goes P o a base w0 w g d s vals (put s o.dst v) := by
  unfold aSliceP at h
  split at h
  · rename_i cs off hv
    obtain ⟨j, htj, h⟩ := seqO_eq.1 h
    split at h
    · rename_i hl
      obtain rfl := Option.some.inj h
      obtain ⟨b, o', us, e1, e2⟩ := val_plain hi hgl ha hv (by intro e; cases e) (by intro _ _ _ e; cases e) rfl rfl
      have hsz := run_sizeOf' (hc.ti e j htj) w
      refine goes_same (v := .slice (some ⟨b, o' + off, none⟩) n n) (slice_exec ho ?_) hi ?_
      · simp [Instr.sliceAt, Instr.sureAddr, Instr.sliceBounds, run_underlying u1, e1, hsz]
        intro hn
        have : (⟨b, o' + off, none⟩ : Addr).add 0 = ⟨b, o' + off, none⟩ := add_mk ..
        rw [this]
      · have hcl := chunks_len j.size n (cs.drop off)
        have hrel := relD_of_cells (m := g.m) (k := j.size) (xs := chunks j.size n (cs.drop off)) (b := b) (off := o' + off) (c := n) (by rw [hcl]; exact Nat.le_refl _) (chunks_row j.size n (cs.drop off) (by rw [List.length_drop]; omega)) (fun q => us (off + q)) (fun q x hx => by
          rw [chunks_flat] at hx
          have hx' : cs[off + q]? = some x := by
            have hlt := (List.getElem?_eq_some_iff.1 hx).1
            rw [List.getElem?_take_of_lt (by rw [List.length_take] at hlt; omega), List.getElem?_drop] at hx
            exact hx
          have := e2 _ x hx'
          rw [Nat.add_assoc]
          exact this)
        rw [hcl] at hrel
        exact hrel
    · cases h
  · cases h

theorem slice_sound (hc : CfgOk P cfg) (hi : Inv base w0 w g d s vals) (hgl : GlobOk cfg g) (ha : a.tmps = vals) {t : TypeId} {pl : Pol} {x : Operand} {lo hi' mx : Option Operand} (ho : o.op = .slice t x lo hi' mx) {s' : St}
    (h : (seqO (aSlice cfg t pl x lo hi' mx s) fun p => some (put p.2 o.dst p.1)) = some s') : Goes P o a base w0 w g d s vals s' := by
  obtain ⟨⟨pv, s1⟩, h1, h2⟩ := seqO_eq.1 h
  obtain rfl := Option.some.inj h2
  clear h h2
  unfold aSlice at h1
  obtain ⟨l, hl, h3⟩ := seqO_eq.1 h1
  clear h1
  have hL := bound_val hi hgl ha hl
  split at h3
  · cases h3
  · rename_i hl0
    have hl0' : 0 ≤ l := by omega
    obtain ⟨i, hti, h4⟩ := seqO_eq.1 h3
    clear h3
    have hkd := (hc.ti t i hti).kind
    split at h4
    · rename_i hk
      rw [hk] at hkd
      simp only [KindOk] at hkd
      split at h4
      · rename_i b hv
        obtain ⟨hh, hhe, h5⟩ := seqO_eq.1 h4
        have hH := bound_val hi hgl ha hhe
        split at h5
        · rename_i hcond
          simp only [Option.some.injEq, Prod.mk.injEq] at h5
          obtain ⟨rfl, rfl⟩ := h5
          have hx := val_lit hi hgl ha hv
          have hb := run_bounds (P := P) (w := w) (b := false) (len := b.size) (cap := b.size) hL hH hl0' hcond.1 hcond.2 (Nat.le_refl _)
          refine goes_same (v := .string (b.extract l.toNat hh.toNat)) (slice_exec ho ?_) hi lit_rel
          simp [Instr.sliceAt, Instr.slice, run_underlying hkd, hx, hb]
        · cases h5
      · cases h4
    · rename_i e hk
      rw [hk] at hkd
      simp only [KindOk] at hkd
      obtain ⟨j, htj, h5⟩ := seqO_eq.1 h4
      obtain ⟨r, hr, h6⟩ := seqO_eq.1 h5
      obtain ⟨hh, hhe, h7⟩ := seqO_eq.1 h6
      clear h4 h5 h6
      have Rr := rd_sound hi hgl ha hr
      have hH := bound_val hi hgl ha hhe
      have hsz := run_sizeOf' (hc.ti e j htj) w
      obtain ⟨ad, c, ev, hle⟩ := Rr.value
      split at h7
      · rename_i hcond
        obtain ⟨m, hm, h8⟩ := seqO_eq.1 h7
        clear h7
        have hrun : mx = none → (Instr.sliceAt t (a.eval x) (lo.map a.eval) (hi'.map a.eval) (mx.map a.eval)).run P w = .ok (.slice (if c = l.toNat then ad else ad.map (·.add (l.toNat * j.size))) (hh.toNat - l.toNat) (c - l.toNat)) w := by
          rintro rfl
          have hb := run_bounds (P := P) (w := w) (b := true) (cap := c) hL hH hl0' hcond.1 hcond.2 hle
          simp [Instr.sliceAt, Instr.slice, run_underlying hkd, ev, hb, hsz]
        have hn1 : l.toNat ≤ hh.toNat := by omega
        have hn2 : hh.toNat ≤ r.rows.length := by omega
        split at h8
        · rename_i m'
          split at h8
          · rename_i hml
            obtain ⟨rfl, rfl, hsome⟩ := hml
            simp only [Option.some.injEq, Prod.mk.injEq] at h8
            obtain ⟨rfl, rfl⟩ := h8
            cases mx with
            | none => cases hm
            | some om =>
              obtain ⟨m2, hm2, hm3⟩ := seqO_eq.1 hm
              simp only [Option.some.injEq] at hm3
              subst hm3
              obtain ⟨km, em⟩ := val_int hi hgl ha hm2
              cases hi' with
              | none =>
                cases hsome
              | some oh =>
                obtain ⟨kh, eh⟩ := hH
                have key : ∀ (y : Nat) (z : Int) (k : IntKind) (code : BoundsCode), 0 ≤ z → z ≤ y → (Instr.sliceBound (.int k z) y code).run P w = .ok z.toNat w := by
                  intro y z k code hx hy
                  simp [Instr.sliceBound, asIntOf, hx, hy]
                have k1 := fun code => key c m2 km code hl0' (by omega)
                have k2 := fun code => key m2.toNat m2 kh code hl0' (by omega)
                have hb : (Instr.sliceBounds true r.rows.length c (lo.map a.eval) (some (a.eval oh)) (some (a.eval om))).run P w = .ok (m2.toNat, m2.toNat, m2.toNat) w := by
                  cases lo with
                  | none =>
                    have hL' : m2 = 0 := hL
                    subst hL'
                    have k2' := fun code => key 0 0 kh code (Int.le_refl _) (Int.le_refl _)
                    simp at k1 k2'
                    simp [Instr.sliceBounds, em, eh, k1, k2']
                  | some ol =>
                    obtain ⟨kl, el⟩ := hL
                    have k3 := fun code => key m2.toNat m2 kl code hl0' (by omega)
                    simp [Instr.sliceBounds, em, eh, el, k1, k2, k3]
                refine goes_same (v := .slice ad 0 0) (slice_exec ho ?_) hi (RelD.nil ad)
                simp [Instr.sliceAt, Instr.slice, run_underlying hkd, ev, hb, hsz]
          · cases h8
        · have hmx : mx = none := by
            cases mx with
            | none => rfl
            | some om => obtain ⟨m2, _, hm3⟩ := seqO_eq.1 hm; cases hm3
          have hrun' := hrun hmx
          split at h8
          · rename_i k xs
            cases Rr with
            | imm _ _ _ hd =>
              change hh.toNat ≤ xs.length at hn2
              change xs.length ≤ c at hle
              rw [ev] at hd
              split at h8
              · rename_i hfit
                simp only [Option.some.injEq, Prod.mk.injEq] at h8
                obtain ⟨rfl, rfl⟩ := h8
                refine goes_same (slice_exec ho hrun') hi ?_
                by_cases hkk : k = j.size
                · subst hkk; exact relD_sub hd hn1 hn2 hle
                · have hx0 : xs = [] := by simpa [hkk] using hfit
                  subst hx0
                  simp only [List.length_nil, Nat.le_zero] at hn2
                  have : hh.toNat - l.toNat = 0 := by omega
                  rw [this]
                  simp only [List.take_nil, List.drop_nil]
                  exact .emp k _ _
              · cases h8
          · rename_i p ex k xs
            cases Rr with
            | «at» _ _ _ _ _ ow p1 p2 p3 p4 =>
              change hh.toNat ≤ xs.length at hn2
              change xs.length ≤ c at hle
              split at h8
              · rename_i hkk
                obtain ⟨rfl, hj0⟩ := hkk
                have hks := keyOf_ksz hc htj hj0
                rw [← hks] at hrun'
                have shared : ∀ (pv' : PV) (s2 : St), some (PV.dat (.sl (ksz (keyOf cfg e j)) ((xs.take hh.toNat).drop l.toNat)), if ex then s.mark p (.own false (keyOf cfg e j) xs) else s) = some (pv', s2) → Goes P o a base w0 w g d s vals (put s2 o.dst pv') := by
                  intro pv' s2 e
                  simp only [Option.some.injEq, Prod.mk.injEq] at e
                  obtain ⟨rfl, rfl⟩ := e
                  cases ex with
                  | true =>
                    obtain ⟨g', u, q1, q2, q3, q4, _⟩ := share_sound hi p1
                    rw [p3] at q1
                    obtain rfl := Option.some.inj q1
                    rw [ev] at q4
                    exact goes_of_pend (.inl (slice_exec ho hrun')) q2 q3 (relD_sub q4 hn1 hn2 hle)
                  | false =>
                    have q4 := own_shared p4
                    rw [ev] at q4
                    exact goes_same (slice_exec ho hrun') hi (relD_sub q4 hn1 hn2 hle)
                split at h8
                · split at h8
                  · rename_i hex
                    subst hex
                    simp only [Option.some.injEq, Prod.mk.injEq] at h8
                    obtain ⟨rfl, rfl⟩ := h8
                    have hhx : hh.toNat = xs.length := by
                      have : hh = (xs.length : Int) := hH
                      omega
                    obtain ⟨g', u, q1, q2, q3, q4⟩ := dead_sound hi p1
                    rw [p3] at q1
                    obtain rfl := Option.some.inj q1
                    refine goes_of_pend (.inl (slice_exec ho hrun')) q2 q3 ?_
                    obtain ⟨b, off, c1, cs, T, f1, f2, f3, f4, f5, f6, f7, f8, f9, f10, f11⟩ := q4
                    rw [ev] at f1
                    simp only [Value.slice.injEq] at f1
                    obtain ⟨rfl, _, rfl⟩ := f1
                    rw [hhx] at hn1 ⊢
                    have hfd := flatten_drop (k := ksz (keyOf cfg e j)) l.toNat f8
                    have hmul : l.toNat * ksz (keyOf cfg e j) ≤ c * ksz (keyOf cfg e j) := Nat.mul_le_mul_right _ (by omega)
                    by_cases hcl : c = l.toNat
                    · have hxl : xs.drop l.toNat = [] := List.drop_of_length_le (by omega)
                      rw [if_pos hcl, hxl]
                      refine ⟨b, off, c - l.toNat, cs, T, by simp; omega, f2, f3, by simp, by omega, f6, ?_, by simp, by simp, fun _ => f10 rfl, (by intro h; cases h)⟩
                      rw [show c - l.toNat = 0 by omega]; omega
                    · rw [if_neg hcl]
                      refine ⟨b, off + l.toNat * ksz (keyOf cfg e j), c - l.toNat, cs, T, by simp [add_mk], f2, f3, by simp; omega, by omega, f6, ?_, fun y hy => f8 y (List.mem_of_mem_drop hy), fun q y hy => ?_, fun _ => f10 rfl, (by intro h; cases h)⟩
                      · rw [Nat.sub_mul]; omega
                      · rw [hfd, List.getElem?_drop] at hy
                        rw [Nat.add_assoc]
                        exact f9 _ y hy
                  · rename_i hex
                    have hex' : ex = false := by simpa using hex
                    subst hex'
                    exact shared _ _ h8
                · exact shared _ _ h8
              · cases h8
      · cases h7
    · rename_i n e hk
      rw [hk] at hkd
      obtain ⟨v, h5, h6⟩ := seqO_eq.1 h4
      simp only [Option.some.injEq, Prod.mk.injEq] at h6
      obtain ⟨rfl, rfl⟩ := h6
      exact sliceP_goes hc hi hgl ha ho hkd h5
    · cases h4
end

end Go.Vx
namespace Go.Vx
open Go Go.RowKit

section
variable {P : Program} {cfg : Cfg} {base : Nat} {w0 w : World} {g : Gh} {d : Nat} {s : St} {vals : Array Value} {o : Oper} {a : Act}

theorem foldl_set (off : Nat) : ∀ (l : List Value) (k : Nat) (A : Array Value), off + k + l.length ≤ A.size →
    ((l.zipIdx k).foldl (fun cs (x : Value × Nat) => cs.setIfInBounds (off + x.2) x.1) A).size = A.size ∧
    ∀ i, ((l.zipIdx k).foldl (fun cs (x : Value × Nat) => cs.setIfInBounds (off + x.2) x.1) A)[i]? = if off + k ≤ i ∧ i < off + k + l.length then l[i - (off + k)]? else A[i]?
  | [], k, A, _ => by
    refine ⟨rfl, fun i => ?_⟩
    rw [if_neg (by simp)]; rfl
  | v :: l, k, A, h => by
    simp only [List.length_cons] at h
    obtain ⟨h1, h2⟩ := foldl_set off l (k + 1) (A.setIfInBounds (off + k) v) (by simp; omega)
    simp only [List.zipIdx_cons, List.foldl_cons]
    refine ⟨by rw [h1]; simp, fun i => ?_⟩
    rw [h2 i, Array.getElem?_setIfInBounds]
    simp only [List.length_cons]
    by_cases e : i = off + k
    · subst e
      rw [if_neg (by omega), if_pos rfl, if_pos (by omega), if_pos (by omega)]
      simp
    · by_cases c : off + (k + 1) ≤ i ∧ i < off + (k + 1) + l.length
      · rw [if_pos c, if_pos (by omega), show i - (off + k) = (i - (off + (k + 1))) + 1 by omega, List.getElem?_cons_succ]
      · rw [if_neg c, if_neg (fun e' => e e'.symm), if_neg (by omega)]

theorem fill_step (off : Nat) (us A : Array Value) (h : off + us.size ≤ A.size) :
    (us.zipIdx.foldl (fun cs (x : Value × Nat) => cs.setIfInBounds (off + x.2) x.1) A).size = A.size ∧
    ∀ i, (us.zipIdx.foldl (fun cs (x : Value × Nat) => cs.setIfInBounds (off + x.2) x.1) A)[i]? = if off ≤ i ∧ i < off + us.size then us[i - off]? else A[i]? := by
  have e : us.zipIdx.foldl (fun cs (x : Value × Nat) => cs.setIfInBounds (off + x.2) x.1) A = (us.toList.zipIdx 0).foldl (fun cs (x : Value × Nat) => cs.setIfInBounds (off + x.2) x.1) A := by
    rw [← Array.foldl_toList]
    congr 1
    simp
  rw [e]
  obtain ⟨h1, h2⟩ := foldl_set off us.toList 0 A (by simpa using h)
  refine ⟨h1, fun i => ?_⟩
  rw [h2 i]
  simp

/-- the parts of a literal -/
def PartsRel (g : Gh) : List (Nat × PV) → List (Nat × Value) → Prop
  | [], [] => True
  | (i, c) :: xs, (j, v) :: ys => i = j ∧ RelA g c v ∧ PartsRel g xs ys
  | _, _ => False

def RowsRel (g : Gh) (k : Nat) (rows : List (List D)) (A : Array Value) : Prop :=
  A.size = rows.length * k ∧ (∀ x ∈ rows, x.length = k) ∧ ∀ (j : Nat) x, rows.flatten[j]? = some x → ∃ v, A[j]? = some v ∧ RelD g.m x v

theorem relA_cells {c : PV} {u : Value} {cs : List PV} {ds : List D} (hr : RelA g c u) (hc : c.cells = some cs) (hd : toDs cs = some ds) : u.cells.size = ds.length ∧ ∀ (j : Nat) x v, ds[j]? = some x → u.cells[j]? = some v → RelD g.m x v := by
  obtain ⟨d1, d2⟩ := toDs_rel hd
  have hall : cs.all isCell = true := by
    refine List.all_eq_true.2 fun x hx => ?_
    obtain ⟨j, hj⟩ := List.getElem?_of_mem hx
    have hlt : j < ds.length := by rw [d1]; exact (List.getElem?_eq_some_iff.1 hj).1
    obtain ⟨c', h1, h2⟩ := d2 j ds[j] (List.getElem?_eq_getElem hlt)
    rw [hj] at h1
    obtain rfl := Option.some.inj h1
    cases x with
    | dat y =>
      cases y with
      | lit q =>
        simp only [PV.toD] at h2
        split at h2
        · assumption
        · cases h2
      | nil => rfl
      | sl => rfl
      | any => rfl
    | _ => cases h2
  obtain ⟨h1, h2⟩ := cells_rel hr hc hall
  refine ⟨by rw [h1, d1], fun j x v hx hv => ?_⟩
  obtain ⟨c', h3, h4⟩ := d2 j x hx
  exact toD_rel h4 (h2 j c' v h3 hv)

theorem fill_rows {k : Nat} {zero : List D} (hz : zero.length = k) : ∀ (ps : List (Nat × PV)) (vs : List (Nat × Value)) (rows rows' : List (List D)) (A : Array Value), PartsRel g ps vs → RowsRel g k rows A →
    aRows zero ps rows = some rows' → ∃ A', Instr.fill (fun i => some (i * k, k)) A vs = some A' ∧ RowsRel g k rows' A' ∧ rows'.length = rows.length
  | [], [], rows, rows', A, _, hR, h => by
    obtain rfl := Option.some.inj h
    exact ⟨A, rfl, hR, rfl⟩
  | (f, c) :: ps, (f', v) :: vs, rows, rows', A, hP, hR, h => by
    obtain ⟨rfl, hA, hP'⟩ := hP
    simp only [aRows] at h
    obtain ⟨cs, h1, h2⟩ := seqO_eq.1 h
    obtain ⟨ds, h3, h4⟩ := seqO_eq.1 h2
    split at h4
    · rename_i hcond
      obtain ⟨hdl, hfl⟩ := hcond
      obtain ⟨e1, e2⟩ := relA_cells hA h1 h3
      obtain ⟨r1, r2, r3⟩ := hR
      rw [hz] at hdl
      have hmul : f * k + k ≤ rows.length * k := by
        have := Nat.mul_le_mul_right k (show f + 1 ≤ rows.length from hfl)
        rw [Nat.add_mul, Nat.one_mul] at this; exact this
      obtain ⟨s1, s2⟩ := fill_step (f * k) v.cells A (by rw [r1, e1, hdl]; exact hmul)
      have hrow : rows[f]? = some rows[f] := List.getElem?_eq_getElem hfl
      obtain ⟨A', q1, q2, q3⟩ := fill_rows hz ps vs (rows.set f ds) rows' (v.cells.zipIdx.foldl (fun cs (x : Value × Nat) => cs.setIfInBounds (f * k + x.2) x.1) A) hP' ⟨by rw [s1, r1, List.length_set], fun x hx => by
          rcases List.mem_or_eq_of_mem_set hx with h | h
          · exact r2 x h
          · subst h; exact hdl, fun j x hx => by
          rw [flatten_set r2 hrow hdl] at hx
          rw [s2]
          by_cases hc : f * k ≤ j ∧ j < f * k + k
          · rw [if_pos hc] at hx
            rw [if_pos (by rw [e1, hdl]; exact hc)]
            have hlt : j - f * k < v.cells.size := by rw [e1, hdl]; omega
            exact ⟨v.cells[j - f * k], Array.getElem?_eq_getElem hlt, e2 _ x _ hx (Array.getElem?_eq_getElem hlt)⟩
          · rw [if_neg hc] at hx
            rw [if_neg (by rw [e1, hdl]; exact hc)]
            exact r3 j x hx⟩ h4
      refine ⟨A', ?_, q2, by rw [q3, List.length_set]⟩
      simp only [Instr.fill]
      rw [if_neg]
      · exact q1
      · simp only [ne_eq, Bool.or_eq_true, decide_eq_true_eq, not_or, Decidable.not_not]
        refine ⟨by rw [e1, hdl], by rw [r1, e1, hdl]; omega⟩
    · cases h4
  | [], _ :: _, _, _, _, hP, _, _ => hP.elim
  | _ :: _, [], _, _, _, hP, _, _ => hP.elim

/-- the cells of an aggregate that is built -/
def AggRel (g : Gh) (cs : List PV) (A : Array Value) : Prop := A.size = cs.length ∧ ∀ (j : Nat) c v, cs[j]? = some c → A[j]? = some v → RelC g c v

theorem fill_agg {i : TI} {place : Nat → Option (Nat × Nat)} (hplace : ∀ f off n, (match i.kind with
      | .struct fs => fs[f]?.bind fun p => (cfg.ti p.2).map fun j => (p.1, j.size)
      | .array _ e => (cfg.ti e).map fun j => (f * j.size, j.size)
      | _ => none) = some (off, n) → place f = some (off, n)) : ∀ (ps : List (Nat × PV)) (vs : List (Nat × Value)) (cells cells' : List PV) (A : Array Value), PartsRel g ps vs → AggRel g cells A →
    aBuild cfg i ps cells = some cells' → ∃ A', Instr.fill place A vs = some A' ∧ AggRel g cells' A' ∧ cells'.length = cells.length
  | [], [], cells, cells', A, _, hR, h => by
    obtain rfl := Option.some.inj h
    exact ⟨A, rfl, hR, rfl⟩
  | (f, c) :: ps, (f', v) :: vs, cells, cells', A, hP, hR, h => by
    obtain ⟨rfl, hA, hP'⟩ := hP
    have key : ∀ (off n : Nat) (cs : List PV), place f = some (off, n) → c.cells = some cs → cs.length = n ∧ off + cs.length ≤ cells.length ∧ cs.all isCell = true → aBuild cfg i ps (setCells cells off cs) = some cells' →
        ∃ A', Instr.fill place A ((f, v) :: vs) = some A' ∧ AggRel g cells' A' ∧ cells'.length = cells.length := by
      intro off n cs hp hc hcond hb
      obtain ⟨c1, c2, c3⟩ := hcond
      obtain ⟨e1, e2⟩ := cells_rel hA hc c3
      obtain ⟨r1, r2⟩ := hR
      obtain ⟨s1, s2⟩ := fill_step off v.cells A (by rw [r1, e1]; exact c2)
      obtain ⟨A', q1, q2, q3⟩ := fill_agg hplace ps vs (setCells cells off cs) cells' (v.cells.zipIdx.foldl (fun cs (x : Value × Nat) => cs.setIfInBounds (off + x.2) x.1) A) hP' ⟨by rw [s1, r1, setCells_len c2], fun j x u hx hu => by
          rw [setCells_get c2] at hx
          rw [s2] at hu
          by_cases hc : off ≤ j ∧ j < off + cs.length
          · rw [if_pos hc] at hx
            rw [if_pos (by rw [e1]; exact hc)] at hu
            exact e2 _ x u hx hu
          · rw [if_neg hc] at hx
            rw [if_neg (by rw [e1]; exact hc)] at hu
            exact r2 j x u hx hu⟩ hb
      refine ⟨A', ?_, q2, by rw [q3, setCells_len c2]⟩
      simp only [Instr.fill, hp]
      rw [if_neg]
      · exact q1
      · simp only [ne_eq, Bool.or_eq_true, decide_eq_true_eq, not_or, Decidable.not_not]
        refine ⟨by rw [e1, c1], by rw [r1, e1]; omega⟩
    simp only [aBuild] at h
    split at h
    · rename_i fs hk
      obtain ⟨p, h1, h2⟩ := seqO_eq.1 h
      obtain ⟨j, h3, h4⟩ := seqO_eq.1 h2
      obtain ⟨cs, h5, h6⟩ := seqO_eq.1 h4
      split at h6
      · rename_i hcond
        exact key p.1 j.size cs (hplace f p.1 j.size (by rw [hk]; simp [h1, h3])) h5 ⟨hcond.1, hcond.2.1, hcond.2.2.1⟩ h6
      · cases h6
    · rename_i n e hk
      obtain ⟨j, h3, h4⟩ := seqO_eq.1 h
      obtain ⟨cs, h5, h6⟩ := seqO_eq.1 h4
      split at h6
      · rename_i hcond
        exact key (f * j.size) j.size cs (hplace f _ j.size (by rw [hk]; simp [h3])) h5 ⟨hcond.1, hcond.2.1, hcond.2.2.1⟩ h6
      · cases h6
    · cases h
  | [], _ :: _, _, _, _, hP, _, _ => hP.elim
  | _ :: _, [], _, _, _, hP, _, _ => hP.elim

theorem parts_rel {a : Act} : ∀ (l : List (Nat × Operand)) (cs : List PV), cs.length = l.length → (∀ (j : Nat) x c, (l.map (·.2))[j]? = some x → cs[j]? = some c → RelA g c (a.eval x)) →
    PartsRel g ((l.map (·.1)).zip cs) (l.map fun p => (p.1, a.eval p.2))
  | [], cs, h, _ => by
    have : cs = [] := List.eq_nil_of_length_eq_zero h
    subst this; exact trivial
  | (i, x) :: l, [], h, _ => by simp at h
  | (i, x) :: l, c :: cs, h, hr => by
    refine ⟨rfl, hr 0 x c rfl rfl, parts_rel l cs (by simpa using h) fun j y c' hy hc => hr (j + 1) y c' (by simpa using hy) (by simpa using hc)⟩

theorem run_mapM {α β : Type} {f : α → Sem β} {h : α → β} : ∀ (l : List α), (∀ x ∈ l, (f x).run P w = .ok (h x) w) → (l.mapM f).run P w = .ok (l.map h) w
  | [], _ => by simp
  | x :: l, hx => by
    have ih := run_mapM l fun y hy => hx y (List.mem_cons_of_mem _ hy)
    simp only [List.mapM_cons, Sem.run_bind, hx x (List.mem_cons_self ..), Result.andThen_ok, ih, Sem.run_pure, List.map_cons]

theorem run_mapMA {α β : Type} {f : α → Sem β} {h : α → β} (l : Array α) (hl : ∀ x ∈ l.toList, (f x).run P w = .ok (h x) w) : (l.mapM f).run P w = .ok (l.map h) w := by
  rw [Array.mapM_eq_mapM_toList]
  simp only [Sem.run_map, run_mapM l.toList hl, Result.andThen_ok]
  have e : (l.toList.map h).toArray = l.map h := by rw [← Array.toList_map]
  first | exact congrArg (fun z => Result.ok z w) e | (rw [← e]; rfl) | simp [e]
end

end Go.Vx
namespace Go.Vx
open Go Go.RowKit

section
variable {P : Program} {cfg : Cfg} {base : Nat} {w0 w : World} {g : Gh} {d : Nat} {s : St} {vals : Array Value} {o : Oper} {a : Act}

theorem map_parts (ps : Array (Nat × Operand)) (ev : Operand → Value) : (ps.map fun (x : Nat × Operand) => (x.1, ev x.2)).toList = ps.toList.map fun p => (p.1, ev p.2) := by simp

theorem build0_sound (hc : CfgOk P cfg) (hi : Inv base w0 w g d s vals) {t e : TypeId} {ps : Array (Nat × Operand)} (hkd : P.underlying t = some (.slice e)) {j : TI} (htj' : TiOk P e j) (c1 : 0 < j.size) (ho : o.op = .buildSlice t 0 ps) (hps : ps.toList = []) :
    Goes P o a base w0 w g d s vals (put s o.dst (.dat .nil)) := by
  obtain ⟨k1, k2, _⟩ := newarr_sound (k := 1) (w1 := w.alloc (.cells #[] e)) (c := 0) (xs := []) hi rfl (hi.low.alloc (Nat.le_trans hi.hb hi.low.size) _) (fun h => absurd h (by decide)) (by simp) (by simp) (by simp [maxLen]) (fun x hx => by cases hx) (fun j x hx => by simp at hx)
  refine goes_of_pend (v := .slice (some ⟨w.heap.size, 0, none⟩) 0 0) (.inl ?_) k1 k2 (RelD.nil _)
  have hsz := run_sizeOf' htj' w
  have hps' : ps = #[] := by cases ps; simp at hps; subst hps; rfl
  subst hps'
  simp only [execOp, ho, Instr.buildSlice, Sem.run_bind, run_underlying hkd, Result.andThen_ok, hsz, Nat.zero_mul, Sem.run_pure]
  simp [Instr.fill, newRow, run_newObj, show Array.range 0 = #[] from rfl]

theorem buildSlice_sound (hc : CfgOk P cfg) (hi : Inv base w0 w g d s vals) (hgl : GlobOk cfg g) (ha : a.tmps = vals) {t : TypeId} {n : Nat} {ps : Array (Nat × Operand)} (ho : o.op = .buildSlice t n ps) {s' : St}
    (h : (seqO (cfg.ti t) fun i => match i.kind with
      | .slice e => seqO (cfg.ti e) fun j => if n = 0 ∧ ps.toList = [] ∧ 0 < j.size then some (put s o.dst (.dat .nil)) else if 0 < j.size ∧ n * j.size ≤ 16777216 ∧ 0 < n then seqO (fetchs cfg .copy (ps.toList.map (·.2)) s) fun q =>
          seqO (aRows j.zero ((ps.toList.map (·.1)).zip q.1) (List.replicate n j.zero)) fun rows => some (put q.2 o.dst (.own true (keyOf cfg e j) rows)) else none
      | _ => none) = some s') : Goes P o a base w0 w g d s vals s' := by
  obtain ⟨i, hti, h1⟩ := seqO_eq.1 h
  clear h
  have hkd := (hc.ti t i hti).kind
  split at h1
  · rename_i e hk
    rw [hk] at hkd
    obtain ⟨j, htj, h2⟩ := seqO_eq.1 h1
    split at h2
    · rename_i hcond
      obtain ⟨rfl, c2, c1⟩ := hcond
      obtain rfl := Option.some.inj h2
      exact build0_sound hc hi hkd (hc.ti e j htj) c1 ho c2
    split at h2
    · rename_i hcond
      obtain ⟨c1, c2, c3⟩ := hcond
      obtain ⟨⟨pvs, s1⟩, h3, h4⟩ := seqO_eq.1 h2
      obtain ⟨rows, h5, h6⟩ := seqO_eq.1 h4
      obtain rfl := Option.some.inj h6
      have htj' := hc.ti e j htj
      obtain ⟨info, z, q1, q2, q3, q4, q5, q6⟩ := run_zero_size htj'
      obtain ⟨g1, i1, st1, l1, r1⟩ := fetchs_sound ha _ hi hgl h3
      have hp := parts_rel (g := g1) (a := a) ps.toList pvs (by simpa using l1) r1
      have hnp : 0 < n * j.size := Nat.mul_pos c3 c1
      have hR : RowsRel g1 j.size (List.replicate n j.zero) (madeCells z.cells (n * j.size)) :=
        ⟨by rw [size_madeCells, List.length_replicate], fun x hx => by rw [(List.mem_replicate.1 hx).2]; exact htj'.zlen, zero_rows htj' q5 q6 c1 n⟩
      obtain ⟨A', f1, ⟨f2, f3, f4⟩, f5⟩ := fill_rows htj'.zlen _ _ _ _ _ hp hR h5
      rw [List.length_replicate] at f5
      have hks := keyOf_ksz hc htj c1
      obtain ⟨k1, k2, k3⟩ := newarr_sound (k := keyOf cfg e j) (w1 := w.alloc (.cells A' e)) (c := n) (xs := rows) i1 rfl (hi.low.alloc (Nat.le_trans hi.hb hi.low.size) _) (fun h => by rw [(hgl.grows st1.gr).2]; exact keyOf_byte c1 h)
        (by rw [f2, f5, hks]) (by rw [f5]; exact Nat.le_refl _) (by
          have : n ≤ n * j.size := Nat.le_mul_of_pos_right _ c1
          simp only [maxLen]; omega) (by rw [hks]; exact f3) f4
      rw [f5] at k3
      refine goes_of_pend (.inl ?_) k1 (st1.trans k2) k3
      have hsz := run_sizeOf' htj' w
      have hzv := run_zeroValue (P := P) (w := w) q1 q4
      simp only [madeCells] at f1
      have e1 : ¬ n * j.size > 2 ^ 24 := by omega
      have e2 : ¬ n * j.size = 0 := by omega
      simp only [execOp, ho, Instr.buildSlice, Sem.run_bind, run_underlying hkd, Result.andThen_ok, hsz, if_neg e1, if_neg e2, hzv, Sem.run_pure, map_parts, f1, newRow, run_newObj]
      rfl
    · cases h2
  · cases h1

theorem build_sound (hc : CfgOk P cfg) (hi : Inv base w0 w g d s vals) (hgl : GlobOk cfg g) (ha : a.tmps = vals) {t : TypeId} {ps : Array (Nat × Operand)} (ho : o.op = .build t ps) {s' : St}
    (h : (seqO (cfg.ti t) fun i => if canBuild cfg i then seqO (fetchs cfg .copy (ps.toList.map (·.2)) s) fun q =>
      seqO (aBuild cfg i ((ps.toList.map (·.1)).zip q.1) (i.zero.map .dat)) fun cs => some (put q.2 o.dst (.agg cs)) else none) = some s') : Goes P o a base w0 w g d s vals s' := by
  obtain ⟨i, hti, h0⟩ := seqO_eq.1 h
  clear h
  split at h0 <;> try (cases h0; done)
  rename_i hcan
  obtain ⟨⟨pvs, s1⟩, h3, h4⟩ := seqO_eq.1 h0
  obtain ⟨cs, h5, h6⟩ := seqO_eq.1 h4
  clear h0 h4
  obtain rfl := Option.some.inj h6
  have ht := hc.ti t i hti
  have hkd := ht.kind
  obtain ⟨info, z, q1, q2, q3, q4, q5, q6⟩ := run_zero_size ht
  obtain ⟨g1, i1, st1, l1, r1⟩ := fetchs_sound ha _ hi hgl h3
  have hp := parts_rel (g := g1) (a := a) ps.toList pvs (by simpa using l1) r1
  have hzv := run_zeroValue (P := P) (w := w) q1 q4
  have hR : AggRel g1 (i.zero.map .dat) z.cells := by
    obtain ⟨z1, z2⟩ := zero_cells (g := g1) ht.zero q5
    exact ⟨z1, z2⟩
  have fin : ∀ A', AggRel g1 cs A' → RelP w g1 vals s1 (.agg cs) (.agg A') := fun A' h => ⟨A'.toList, rfl, by rw [Array.length_toList]; exact h.1, fun j c v hc hv => h.2 j c v hc (by rw [← Array.getElem?_toList]; exact hv)⟩
  cases hk : i.kind with
  | struct fs =>
    rw [hk] at hkd
    obtain ⟨fields, k1, k2, k3⟩ := hkd
    have hsz : ∀ f ∈ fields.toList, (sizeOf f.type).run P w = .ok ((P.info? f.type).map (·.size) |>.getD 0) w := by
      intro f hf
      have := k3 f hf
      cases hq : P.info? f.type with
      | none => rw [hq] at this; cases this
      | some inf => simp [sizeOf, typeInfo, hq]
    have hmap : (fields.mapM fun f => do pure (f.offset, ← sizeOf f.type) : Sem (Array (Nat × Nat))).run P w = .ok (fields.map fun f => (f.offset, (P.info? f.type).map (·.size) |>.getD 0)) w :=
      run_mapMA fields fun f hf => by simp only [Sem.run_bind, hsz f hf, Result.andThen_ok, Sem.run_pure]
    obtain ⟨A', f1, f2, f3⟩ := fill_agg (cfg := cfg) (g := g1) (i := i) (place := fun x => (fields.map fun f => (f.offset, (P.info? f.type).map (·.size) |>.getD 0))[x]?) (fun f off n hf => by
      rw [hk] at hf
      simp only [← k2, List.getElem?_map] at hf
      simp only [Array.getElem?_map]
      cases hfl : fields.toList[f]? with
      | none => rw [hfl] at hf; cases hf
      | some fd =>
        rw [hfl] at hf
        simp only [Option.map_some, Option.bind_some] at hf ⊢
        cases htf : cfg.ti fd.type with
        | none => rw [htf] at hf; cases hf
        | some j =>
          rw [htf] at hf
          simp only [Option.map_some, Option.some.injEq, Prod.mk.injEq] at hf
          obtain ⟨rfl, rfl⟩ := hf
          obtain ⟨inf, _, p1, p2, _⟩ := (hc.ti _ j htf).info
          have hfl' : fields[f]? = some fd := by rw [← Array.getElem?_toList]; exact hfl
          simp [hfl', p1, p2]) _ _ _ _ _ hp hR h5
    refine goes_of_pend (.inl ?_) i1 st1 (fin A' f2)
    simp only [execOp, ho, Instr.build, Sem.run_bind, run_underlying k1, Result.andThen_ok, hzv, hmap, Sem.run_pure, map_parts, f1]
  | array n e =>
    rw [hk] at hkd
    simp only [KindOk] at hkd
    simp only [canBuild, hk] at hcan
    cases htj : cfg.ti e with
    | none => rw [htj] at hcan; cases hcan
    | some j =>
      have hsz := run_sizeOf' (hc.ti e j htj) w
      obtain ⟨A', f1, f2, f3⟩ := fill_agg (cfg := cfg) (g := g1) (i := i) (place := fun x => some (x * j.size, j.size)) (fun f off n hf => by
        rw [hk] at hf
        simpa [htj] using hf) _ _ _ _ _ hp hR h5
      refine goes_of_pend (.inl ?_) i1 st1 (fin A' f2)
      simp only [execOp, ho, Instr.build, Sem.run_bind, run_underlying hkd, Result.andThen_ok, hzv, hsz, Sem.run_pure, map_parts, f1]
  | _ => simp [canBuild, hk] at hcan

theorem relC_relP {c : PV} {u : Value} (h : RelC g c u) : RelP w g vals s c u := by
  cases c with
  | mp V es => first | exact hr.elim | exact h.elim | exact hr.1.elim | exact h.1.elim | exact trivial | rfl | assumption
  | dead => exact trivial
  | own => exact h.elim
  | agg => exact h.elim
  | tup => exact h.elim
  | «alias» => exact h.elim
  | eptr => exact h.elim
  | dat _ => exact h
  | ptr _ _ => exact h
  | iptr _ _ => exact h
  | clo _ _ => exact h
  | tnil => exact h.elim
  | home => exact h.elim
  | siter => exact h.elim

/-- a part of an aggregate -/
theorem part_sound (_ : Inv base w0 w g d s vals) {us : List Value} {cs : List PV} (hl : us.length = cs.length) (hr : ∀ (j : Nat) c v, cs[j]? = some c → us[j]? = some v → RelC g c v)
    {t : TypeId} {j : TI} (ht : TiOk P t j) {off : Nat} {s' : St}
    (h : (if j.kind.isAgg then seqO (cut cs off j.size) fun c => some (put s o.dst (.agg c)) else seqO cs[off]? fun c => some (put s o.dst c)) = some s') :
    ∃ v, (part t us.toArray off).run P w = .ok v w ∧ ∃ pv, s' = put s o.dst pv ∧ RelP w g vals s pv v := by
  have h1 := run_isAgg' ht w
  have h2 := run_sizeOf' ht w
  split at h
  · rename_i hk
    obtain ⟨c, h3, h4⟩ := seqO_eq.1 h
    obtain rfl := Option.some.inj h4
    rw [hk] at h1
    obtain ⟨c1, c2⟩ := cut_eq h3
    have hle : off + j.size ≤ us.length := by
      unfold cut at h3
      split at h3
      · rw [hl]; assumption
      · cases h3
    refine ⟨.agg (us.toArray.extract off (off + j.size)), by simp [part, h1, h2], _, rfl, (us.drop off).take j.size, ?_, by simp [c1]; omega, fun k x v hx hv => ?_⟩
    · simp [List.extract_eq_take_drop]
    · have hk' : k < j.size := by rw [← c1]; exact (List.getElem?_eq_some_iff.1 hx).1
      rw [c2 k hk'] at hx
      rw [List.getElem?_take_of_lt hk', List.getElem?_drop] at hv
      exact hr _ x v hx hv
  · rename_i hk
    obtain ⟨c, h3, h4⟩ := seqO_eq.1 h
    obtain rfl := Option.some.inj h4
    have hk' : j.kind.isAgg = false := by simpa using hk
    rw [hk'] at h1
    have hlt : off < us.length := by rw [hl]; exact (List.getElem?_eq_some_iff.1 h3).1
    refine ⟨us[off], ?_, _, rfl, relC_relP (hr off c _ h3 (List.getElem?_eq_getElem hlt))⟩
    simp [part, h1, hlt]

theorem val_agg (hi : Inv base w0 w g d s vals) (hgl : GlobOk cfg g) (ha : a.tmps = vals) {x : Operand} {cs : List PV} (h : s.val cfg x = .agg cs) : RelAgg g cs (a.eval x) :=
  val_plain hi hgl ha h (by intro e; cases e) (by intro _ _ _ e; cases e) rfl rfl

theorem field_sound (hc : CfgOk P cfg) (hi : Inv base w0 w g d s vals) (hgl : GlobOk cfg g) (ha : a.tmps = vals) {t : TypeId} {x : Operand} {f : Nat} (ho : o.op = .field t x f) {s' : St}
    (h : (seqO (cfg.ti t) fun i => match i.kind, s.val cfg x with
      | .struct fs, .agg cs => seqO fs[f]? fun p => seqO (cfg.ti p.2) fun j =>
        if j.kind.isAgg then seqO (cut cs p.1 j.size) fun c => some (put s o.dst (.agg c)) else seqO cs[p.1]? fun c => some (put s o.dst c)
      | _, _ => none) = some s') : Goes P o a base w0 w g d s vals s' := by
  obtain ⟨i, hti, h1⟩ := seqO_eq.1 h
  have hkd := (hc.ti t i hti).kind
  split at h1
  · rename_i fs cs hk hv
    obtain ⟨p, h2, h3⟩ := seqO_eq.1 h1
    obtain ⟨j, h4, h5⟩ := seqO_eq.1 h3
    rw [hk] at hkd
    obtain ⟨fields, k1, k2, k3⟩ := hkd
    obtain ⟨us, e1, e2, e3⟩ := val_agg hi hgl ha hv
    obtain ⟨v, r1, pv, rfl, r3⟩ := part_sound (P := P) hi e2 e3 (hc.ti _ j h4) h5
    refine goes_same ?_ hi r3
    rw [← k2, List.getElem?_map] at h2
    cases hfl : fields.toList[f]? with
    | none => rw [hfl] at h2; cases h2
    | some fd =>
      rw [hfl] at h2
      obtain rfl := Option.some.inj h2
      have hfl' : fields[f]? = some fd := by rw [← Array.getElem?_toList]; exact hfl
      simp only [execOp, ho, Instr.field, Sem.run_bind, run_underlying k1, Result.andThen_ok, hfl', e1, asAgg, Sem.run_pure, r1]
  · cases h1

theorem index_sound (hc : CfgOk P cfg) (hi : Inv base w0 w g d s vals) (hgl : GlobOk cfg g) (ha : a.tmps = vals) {t : TypeId} {x ix : Operand} (ho : o.op = .index t x ix) {s' : St}
    (h : (seqO (cfg.ti t) fun i => seqO (aint (s.val cfg ix)) fun n => if n < 0 then none else match i.kind, s.val cfg x with
    | .str, .dat (.lit (.string b)) => seqO b[n.toNat]? fun c => some (put s o.dst (.dat (.lit (.int .u8 c.toNat))))
    | .array len e, .agg cs => seqO (cfg.ti e) fun j => if n.toNat < len then
        if j.kind.isAgg then seqO (cut cs (n.toNat * j.size) j.size) fun c => some (put s o.dst (.agg c)) else seqO cs[n.toNat * j.size]? fun c => some (put s o.dst c)
      else none
    | _, _ => none) = some s') : Goes P o a base w0 w g d s vals s' := by
  obtain ⟨i, hti, h1⟩ := seqO_eq.1 h
  obtain ⟨n, hn, h2⟩ := seqO_eq.1 h1
  obtain ⟨kn, en⟩ := val_int hi hgl ha hn
  clear h h1
  have hkd := (hc.ti t i hti).kind
  split at h2
  · cases h2
  rename_i hn0
  have hn0' : 0 ≤ n := by omega
  split at h2
  · rename_i b hk hv
    rw [hk] at hkd
    simp only [KindOk] at hkd
    obtain ⟨c, h3, h4⟩ := seqO_eq.1 h2
    obtain rfl := Option.some.inj h4
    have ex := val_lit hi hgl ha hv
    refine goes_same ?_ hi lit_rel
    simp [execOp, ho, Instr.index, en, ex, asIntOf, run_underlying hkd, hn0', h3]
  · rename_i len e cs hk hv
    rw [hk] at hkd
    simp only [KindOk] at hkd
    obtain ⟨j, h3, h4⟩ := seqO_eq.1 h2
    split at h4
    · rename_i hlt
      obtain ⟨us, e1, e2, e3⟩ := val_agg hi hgl ha hv
      obtain ⟨v, r1, pv, rfl, r3⟩ := part_sound (P := P) hi e2 e3 (hc.ti _ j h3) h4
      refine goes_same ?_ hi r3
      have hlt' : n < (len : Int) := by omega
      have hsz := run_sizeOf' (hc.ti e j h3) w
      simp [execOp, ho, Instr.index, en, e1, asIntOf, run_underlying hkd, hn0', hlt', hsz, r1]
    · cases h4
  · cases h2

theorem ptrBoxes_rel : ∀ (l : List PV) {ls : List Nat}, ptrBoxes l = some ls → l = ls.map fun b => .ptr b 0
  | [], ls, h => by obtain rfl := Option.some.inj h; rfl
  | c :: cs, ls, h => by
    simp only [ptrBoxes] at h
    obtain ⟨b, h1, h2⟩ := seqO_eq.1 h
    obtain ⟨bs, h3, h4⟩ := seqO_eq.1 h2
    obtain rfl := Option.some.inj h4
    have : c = .ptr b 0 := by
      cases c with
      | ptr l off =>
        cases off with
        | zero => obtain rfl := Option.some.inj h1; rfl
        | succ => cases h1
      | _ => cases h1
    rw [this, ptrBoxes_rel cs h3]; rfl

theorem makeFunc_sound (hi : Inv base w0 w g d s vals) (hgl : GlobOk cfg g) (ha : a.tmps = vals) {f : FuncId} {first cap : Array Operand} (ho : o.op = .makeFunc (.func f) first cap) {s' : St}
    (h : (if first.size = 0 then seqO (ptrBoxes (cap.toList.map (s.val cfg))) fun ls => some (put s o.dst (.clo f ls)) else none) = some s') : Goes P o a base w0 w g d s vals s' := by
  split at h
  · rename_i hf
    obtain ⟨ls, h1, h2⟩ := seqO_eq.1 h
    obtain rfl := Option.some.inj h2
    have hl := ptrBoxes_rel _ h1
    have hf' : first = #[] := Array.eq_empty_of_size_eq_zero hf
    refine goes_same (v := .func (.func f) #[] (cap.map a.eval)) (by simp [execOp, ho, Instr.makeFunc, hf']) hi ⟨cap.map a.eval, rfl, ?_, ?_⟩
    · have := congrArg List.length hl
      simpa using this
    · intro j l hjl
      have h3 : (cap.toList.map (s.val cfg))[j]? = some (.ptr l 0) := by rw [hl, List.getElem?_map, hjl]; rfl
      rw [List.getElem?_map] at h3
      cases hx : cap.toList[j]? with
      | none => rw [hx] at h3; cases h3
      | some x =>
        rw [hx] at h3
        have h4 : s.val cfg x = .ptr l 0 := Option.some.inj h3
        obtain ⟨b, q1, q2⟩ : RelC g (.ptr l 0) (a.eval x) := val_plain hi hgl ha h4 (by intro e; cases e) (by intro _ _ _ e; cases e) rfl rfl
        have hx' : cap[j]? = some x := by rw [← Array.getElem?_toList]; exact hx
        exact ⟨b, q1, by simp [hx', q2]⟩
  · cases h

/-- labels of a tuple's parts, when it is moved -/
def tupLab (d t : Nat) : Owner → Option Owner
  | .tmp d' i j => if d' = d ∧ i = t then some (.res j) else some (.tmp d' i j)
  | o => some o

theorem tup_take (hi : Inv base w0 w g d s vals) {t : Nat} {vs : List PV} (ht : s.ts[t]? = some (.tup vs)) :
    Inv base w0 w (g.relab (tupLab d t)) d { s with ts := s.ts.set t .dead } vals ∧
      Stp d s { s with ts := s.ts.set t .dead } w w g (g.relab (tupLab d t)) := by
  have hat : ∀ p, (s.at p).maySrc = true → ({ s with ts := s.ts.set t .dead } : St).at p = s.at p := by
    intro p hp
    cases p with
    | cell => rfl
    | tmp i =>
      simp only [St.at, List.getD_eq_getElem?_getD, List.getElem?_set]
      by_cases e : t = i
      · subst e
        simp only [St.at, List.getD_eq_getElem?_getD, ht, Option.getD_some] at hp
        cases hp
      · rw [if_neg e]
  have hlab : ∀ o, (∀ j, o ≠ .tmp d t j) → tupLab d t o = some o := fun o h => by
    cases o with
    | tmp d' i j =>
      simp only [tupLab]
      rw [if_neg]
      rintro ⟨rfl, rfl⟩
      exact h j rfl
    | _ => rfl
  refine ⟨⟨hi.low, hi.hb, hi.mem, fun b o h => ?_, fun b o h => ?_, fun b d' i j h => ?_, hi.blen, hi.nodup, hi.nbl, fun l b bx h1 h2 => ?_, by simpa using hi.tl, fun i c v h1 h2 => ?_, fun i c p h1 h2 => ?_⟩, ⟨grows_relab _ _, rfl, Nat.le_refl _, fun b d' i j h hd => ?_, fun _ h => h, fun l hl hlo => ⟨rfl, fun b h => ⟨?_, fun off b' h' => ?_⟩⟩, fun h => h, fun _ => kpl_same rfl⟩⟩
  · obtain ⟨o', h1, _⟩ := relab_own h; exact hi.own_ge b o' h1
  · obtain ⟨o', h1, _⟩ := relab_own h; exact hi.own_lt b o' h1
  · obtain ⟨o', h1, h2⟩ := relab_own h
    cases o' with
    | tmp d1 i1 j1 =>
      simp only [tupLab] at h2
      split at h2
      · cases h2
      · cases h2; exact hi.own_d b _ _ _ h1
    | box => cases h2
    | cell => cases h2
    | res => cases h2
  · exact (hi.boxes l b bx h1 h2).relab (hlab _ (by intro j e; cases e)) fun off => hlab _ (by intro j e; cases e)
  · simp only [List.getElem?_set] at h1
    by_cases e : t = i
    · subst e
      have hlt := (List.getElem?_eq_some_iff.1 ht).1
      rw [if_pos rfl, if_pos hlt] at h1
      obtain rfl := Option.some.inj h1
      exact trivial
    · rw [if_neg e] at h1
      exact (hi.tmps i c v h1 h2).relab (fun j => hlab _ (by intro j' h; injection h with _ h _; exact e h.symm)) fun p hp => by cases p <;> rfl
  · simp only [List.getElem?_set] at h1
    by_cases e : t = i
    · subst e
      rw [if_pos rfl] at h1
      split at h1
      · obtain rfl := Option.some.inj h1
        cases h2
      · cases h1
    · rw [if_neg e] at h1
      have := hi.al i c p h1 h2
      rw [hat p this]; exact this
  · exact kept_relab h (hlab _ (by intro j' e; injection e with e _ _; omega))
  · have hl' : l < s.bx.length := Nat.lt_of_lt_of_le hl hi.nbl
    have := (hi.boxes l b _ h (List.getElem?_eq_getElem hl')).1
    exact kept_relab this (hlab _ (by intro j' e; cases e))
  · exact kept_relab h' (hlab _ (by intro j' e; cases e))

theorem moveT_sound (hi : Inv base w0 w g d s vals) (ha : a.tmps = vals) {x : Operand} (ho : o.op = .move x) {q : Nat × List PV} (h : moveTup cfg x s = some q) :
    Goes P o a base w0 w g d s vals (put { s with ts := s.ts.set q.1 .dead } o.dst (.tup q.2)) := by
  unfold moveTup at h
  split at h
  · rename_i t vs hv
    obtain rfl := Option.some.inj h
    have ht : s.ts[t]? = some (.tup vs) := getD_some hv (by intro e; cases e)
    have hlt : t < vals.size := by rw [hi.tl]; exact (List.getElem?_eq_some_iff.1 ht).1
    obtain ⟨k1, k2⟩ := tup_take hi ht
    have hr : RelV w g (fun j => .tmp d t j) (.tup vs) vals[t] := hi.tmps t _ vals[t] ht (Array.getElem?_eq_getElem hlt)
    have hev : a.eval (.tmp t) = vals[t] := by simp [Act.eval, ha, hlt]
    refine goes_of_pend (v := vals[t]) (.inl (by simp [execOp, ho, hev])) k1 k2 ?_
    exact RelV.relab (f := tupLab d t) (ow' := .res) (fun j => by simp [tupLab]) hr
  · cases h

theorem tup_dead (hi : Inv base w0 w g d s vals) {t ix : Nat} {vs : List PV} (ht : s.ts[t]? = some (.tup vs)) :
    Inv base w0 w (g.relab (moveLab (.tmp d t (ix + 1)) (.res 0))) d { s with ts := s.ts.set t (.tup (vs.set ix .dead)) } vals ∧
      Stp d s { s with ts := s.ts.set t (.tup (vs.set ix .dead)) } w w g (g.relab (moveLab (.tmp d t (ix + 1)) (.res 0))) := by
  have hat : ∀ p, (s.at p).maySrc = true → ({ s with ts := s.ts.set t (.tup (vs.set ix .dead)) } : St).at p = s.at p := by
    intro p hp
    cases p with
    | cell => rfl
    | tmp i =>
      simp only [St.at, List.getD_eq_getElem?_getD, List.getElem?_set]
      by_cases e : t = i
      · subst e
        simp only [St.at, List.getD_eq_getElem?_getD, ht, Option.getD_some] at hp
        cases hp
      · rw [if_neg e]
  have hlab : ∀ o, o ≠ .tmp d t (ix + 1) → moveLab (.tmp d t (ix + 1)) (.res 0) o = some o := fun o h => by simp [moveLab, h]
  have hb : ∀ b, moveLab (.tmp d t (ix + 1)) (.res 0) b = some b ∨ b = .tmp d t (ix + 1) := fun b => by
    by_cases h : b = .tmp d t (ix + 1)
    · exact .inr h
    · exact .inl (hlab b h)
  refine ⟨⟨hi.low, hi.hb, hi.mem, fun b o h => ?_, fun b o h => ?_, fun b d' i j h => ?_, hi.blen, hi.nodup, hi.nbl, fun l b bx h1 h2 => ?_, by simpa using hi.tl, fun i c v h1 h2 => ?_, fun i c p h1 h2 => ?_⟩, ⟨grows_relab _ _, rfl, Nat.le_refl _, fun b d' i j h hd => ?_, fun _ h => h, fun l hl hlo => ⟨rfl, fun b h => ⟨?_, fun off b' h' => ?_⟩⟩, fun h => h, fun _ => kpl_same rfl⟩⟩
  · obtain ⟨o', h1, _⟩ := relab_own h; exact hi.own_ge b o' h1
  · obtain ⟨o', h1, _⟩ := relab_own h; exact hi.own_lt b o' h1
  · obtain ⟨o', h1, h2⟩ := relab_own h
    rcases hb o' with h3 | h3
    · rw [h3] at h2; cases h2; exact hi.own_d b d' i j h1
    · subst h3; simp [moveLab] at h2
  · exact (hi.boxes l b bx h1 h2).relab (hlab _ (by intro e; cases e)) fun off => hlab _ (by intro e; cases e)
  · simp only [List.getElem?_set] at h1
    by_cases e : t = i
    · subst e
      have hlt := (List.getElem?_eq_some_iff.1 ht).1
      rw [if_pos rfl, if_pos hlt] at h1
      obtain rfl := Option.some.inj h1
      obtain ⟨us, q1, q2, q3⟩ := hi.tmps t _ v ht h2
      refine ⟨us, q1, by simpa using q2, fun j c x hc hx => ?_⟩
      rw [List.getElem?_set] at hc
      by_cases e : ix = j
      · subst e
        rw [if_pos rfl] at hc
        split at hc
        · obtain rfl := Option.some.inj hc
          exact trivial
        · cases hc
      · rw [if_neg e] at hc
        exact (q3 j c x hc hx).relab (hlab _ (by intro h; injection h with _ _ h; omega))
    · rw [if_neg e] at h1
      exact (hi.tmps i c v h1 h2).relab (fun j => hlab _ (by intro h; injection h with _ h _; exact e h.symm)) fun p hp => by cases p <;> rfl
  · simp only [List.getElem?_set] at h1
    by_cases e : t = i
    · subst e
      rw [if_pos rfl] at h1
      split at h1
      · obtain rfl := Option.some.inj h1
        cases h2
      · cases h1
    · rw [if_neg e] at h1
      have := hi.al i c p h1 h2
      rw [hat p this]; exact this
  · exact kept_relab h (hlab _ (by intro e; injection e with e _ _; omega))
  · have hl' : l < s.bx.length := Nat.lt_of_lt_of_le hl hi.nbl
    have := (hi.boxes l b _ h (List.getElem?_eq_getElem hl')).1
    exact kept_relab this (hlab _ (by intro e; cases e))
  · exact kept_relab h' (hlab _ (by intro e; cases e))

theorem extract_sound (hi : Inv base w0 w g d s vals) (ha : a.tmps = vals) {x : Operand} {ix : Nat} (ho : o.op = .extract x ix) {s' : St}
    (h : (match (generalizing := false) x, s.val cfg x with
    | .tmp t, .tup vs => seqO vs[ix]? fun v => match v with
      | .own ex k xs => some (put { s with ts := s.ts.set t (.tup (vs.set ix .dead)) } o.dst (.own ex k xs))
      | .dead => none
      | .siter .. => none
      | v => some (put s o.dst v)
    | _, _ => none) = some s') : Goes P o a base w0 w g d s vals s' := by
  split at h
  · rename_i t vs hv
    have ht : s.ts[t]? = some (.tup vs) := getD_some hv (by intro e; cases e)
    obtain ⟨c, h1, h2⟩ := seqO_eq.1 h
    have hlt : t < vals.size := by rw [hi.tl]; exact (List.getElem?_eq_some_iff.1 ht).1
    obtain ⟨us, q1, q2, q3⟩ := hi.tmps t _ vals[t] ht (Array.getElem?_eq_getElem hlt)
    have hix : ix < us.length := by rw [q2]; exact (List.getElem?_eq_some_iff.1 h1).1
    have hr := q3 ix c us[ix] h1 (List.getElem?_eq_getElem hix)
    have hev : a.eval (.tmp t) = .tuple us.toArray := by
      rw [← q1]; simp [Act.eval, ha, hlt]
    have hrun : (execOp a.eval o).run P w = .ok (.value us[ix]) w := by
      simp [execOp, ho, hev, Instr.extract, hix]
    cases c with
    | mp V es => first | exact hr.elim | exact h.elim | exact hr.1.elim | exact h.1.elim | exact trivial | rfl | assumption
    | own ex k xs =>
      obtain rfl := Option.some.inj h2
      obtain ⟨k1, k2⟩ := tup_dead (ix := ix) hi ht
      refine goes_of_pend (.inl hrun) k1 k2 ?_
      exact OwnRel.relab (f := moveLab (.tmp d t (ix + 1)) (.res 0)) (by simp [moveLab]) hr
    | dead => cases h2
    | siter _ _ => cases h2
    | tnil _ => exact hr.elim
    | home => exact hr.elim
    | dat _ => obtain rfl := Option.some.inj h2; exact goes_same hrun hi hr
    | agg _ => obtain rfl := Option.some.inj h2; exact goes_same hrun hi hr
    | ptr _ _ => obtain rfl := Option.some.inj h2; exact goes_same hrun hi hr
    | iptr _ _ => obtain rfl := Option.some.inj h2; exact goes_same hrun hi hr
    | clo _ _ => obtain rfl := Option.some.inj h2; exact goes_same hrun hi hr
    | tup _ => exact hr.elim
    | «alias» _ => exact hr.elim
    | eptr _ _ _ _ => exact hr.elim
  · cases h
end

end Go.Vx
namespace Go.Vx
open Go Go.RowKit

section
variable {P : Program} {cfg : Cfg} {base : Nat} {w0 w : World} {g : Gh} {d : Nat} {s : St} {vals : Array Value} {o : Oper} {a : Act}

/-- a new iterator that waits for its slot -/
theorem newiter_sound (hi : Inv base w0 w g d s vals) (bs : ByteArray) :
    Inv base w0 (w.alloc (.stringIter bs 0)) (g.newArr w.heap.size) d s vals ∧ Stp d s s w (w.alloc (.stringIter bs 0)) g (g.newArr w.heap.size) ∧
      RelP (w.alloc (.stringIter bs 0)) (g.newArr w.heap.size) vals s (.siter bs 0) (.pointer (some ⟨w.heap.size, 0, none⟩)) := by
  have hbase : base ≤ w.heap.size := Nat.le_trans hi.hb hi.low.size
  have hg : Grows g (g.newArr w.heap.size) := ⟨fun _ _ h => h, fun _ _ h => h, rfl⟩
  have hold : ∀ b, b < w.heap.size → (w.alloc (.stringIter bs 0)).heap[b]? = w.heap[b]? := fun b hb => heap_alloc_old w _ b hb
  have hmn : ∀ j, g.m ⟨w.heap.size, j, none⟩ = none := by
    intro j
    cases hm : g.m ⟨w.heap.size, j, none⟩ with
    | none => rfl
    | some v => have := m_lt hi hm; simp at this
  obtain ⟨h1, h2⟩ := inv_grow (w1 := w.alloc (.stringIter bs 0)) (g1 := g.newArr w.heap.size) (nbs := []) (nbl := []) hi (hi.low.alloc hbase _) hg
    (fun ad v h => by
      have h' := hi.mem ad v h
      rw [World.cell?_of_block (w := w) (hold ad.block (World.block_lt_of_cell? w ad h'))]
      exact h')
    (fun b o' hb _ => ⟨hold b (hi.own_lt b o' hb), by
      simp only [Gh.newArr]
      rw [if_neg]
      have := hi.own_lt b o' hb
      omega, fun _ => rfl⟩)
    (fun b o' hb => by
      simp only [Gh.newArr] at hb
      split at hb
      · rename_i e
        subst e
        obtain rfl := Option.some.inj hb
        exact .inr ⟨hbase, by simp, fun _ _ _ e => by cases e⟩
      · exact .inl hb)
    (by simp) (by simp [Gh.newArr]) rfl (by simp) (fun b hb => by cases hb) (fun l b bx h1 h2 => by simp at h1)
  have es : ({ s with bx := s.bx ++ [] } : St) = s := by simp
  rw [es] at h1 h2
  exact ⟨h1, h2, w.heap.size, rfl, by simp [Gh.newArr], heap_alloc_new w _, hmn⟩

theorem range_sound (hc : CfgOk P cfg) (hi : Inv base w0 w g d s vals) (hgl : GlobOk cfg g) (ha : a.tmps = vals) {t : TypeId} {x : Operand} (ho : o.op = .range t x) {s' : St}
    (h : (seqO (cfg.ti t) fun i => match (generalizing := false) i.kind, s.val cfg x with
      | .str, .dat (.lit (.string bs)) => some (put s o.dst (.siter bs 0))
      | _, _ => none) = some s') : Goes P o a base w0 w g d s vals s' := by
  obtain ⟨i, hti, h1⟩ := seqO_eq.1 h
  have hkd := (hc.ti t i hti).kind
  split at h1
  · rename_i bs hk hv
    obtain rfl := Option.some.inj h1
    rw [hk] at hkd
    simp only [KindOk] at hkd
    have ex := val_lit hi hgl ha hv
    obtain ⟨k1, k2, k3⟩ := newiter_sound hi bs
    refine goes_of_pend (.inl ?_) k1 k2 k3
    simp only [execOp, ho, Instr.range, ex, Sem.run_bind, run_underlying hkd, Result.andThen_ok, Sem.run_pure, run_newObj]
    rfl
  · cases h1

/-- an iterator goes on -/
theorem iter_step (hi : Inv base w0 w g d s vals) {t pos pos' : Nat} {bs : ByteArray} (ht : s.ts[t]? = some (.siter bs pos)) {b : Nat} (hu : vals[t]? = some (.pointer (some ⟨b, 0, none⟩))) (hS : SIter w g (.tmp d t 0) bs pos (.pointer (some ⟨b, 0, none⟩))) :
    Inv base w0 { w with heap := w.heap.setIfInBounds b (.stringIter bs pos') } g d { s with ts := s.ts.set t (.siter bs pos') } vals ∧
      Stp d s { s with ts := s.ts.set t (.siter bs pos') } w { w with heap := w.heap.setIfInBounds b (.stringIter bs pos') } g g := by
  obtain ⟨b', e1, e2, e3, e4⟩ := hS
  obtain rfl : b = b' := by cases e1; rfl
  have hbase : base ≤ b := hi.own_ge b _ e2
  have hbl : b < w.heap.size := hi.own_lt b _ e2
  have hoth : ∀ k, k ≠ b → ({ w with heap := w.heap.setIfInBounds b (.stringIter bs pos') } : World).heap[k]? = w.heap[k]? := by
    intro k hk
    simp only [Array.getElem?_setIfInBounds, if_neg (Ne.symm hk)]
  have hlow : Below base w0 { w with heap := w.heap.setIfInBounds b (.stringIter bs pos') } :=
    hi.low.trans ⟨rfl, rfl, rfl, by simp, fun k hk => hoth k (by omega)⟩
  have hk : ∀ k o', g.own k = some o' → o' ≠ .tmp d t 0 → Kept w { w with heap := w.heap.setIfInBounds b (.stringIter bs pos') } g g k := by
    intro k o' h1 h2
    refine ⟨hoth k ?_, rfl, fun _ => rfl⟩
    rintro rfl
    rw [e2] at h1
    cases h1
    exact h2 rfl
  have hpv : ∀ p v, placeVal w g vals p = some v → placeVal { w with heap := w.heap.setIfInBounds b (.stringIter bs pos') } g vals p = some v := by
    intro p v h
    cases p with
    | tmp => exact h
    | cell l off =>
      simp only [placeVal] at h ⊢
      cases hb' : g.blk[l]? with
      | none => rw [hb'] at h; cases h
      | some b' =>
        rw [hb'] at h
        have hlt : l < s.bx.length := by rw [← hi.blen]; exact (List.getElem?_eq_some_iff.1 hb').1
        have hk' := hk b' _ (hi.boxes l b' _ hb' (List.getElem?_eq_getElem hlt)).1 (by intro e; cases e)
        simp only [Option.bind_some] at h ⊢
        rw [World.cell?_of_block (w := w) hk'.1]
        exact h
  refine ⟨⟨hlow, hi.hb, ?_, hi.own_ge, fun k o' h => by simpa using hi.own_lt k o' h, hi.own_d, hi.blen, hi.nodup, hi.nbl, fun l b' bx h1 h2 => ?_, by simp only [List.length_set]; exact hi.tl, fun i c v h1 h2 => ?_, fun i c p h1 h2 => ?_⟩,
    ⟨Grows.refl g, rfl, Nat.le_refl _, fun k d' i j h1 h2 => hk k _ h1 (by intro e; cases e; omega), fun _ h => h, fun l hl _ => ⟨rfl, fun b' hb' => ⟨?_, fun off k hk' => hk k _ hk' (by intro e; cases e)⟩⟩, fun h => h, fun _ => kpl_same rfl⟩⟩
  · intro ad v h
    have hm := hi.mem ad v h
    have hne : ad.block ≠ b := by
      intro e
      cases ad with
      | mk ab ao asp =>
        simp only at e
        subst e
        simp [World.cell?, e3] at hm
    rw [← hm]
    exact World.cell?_of_block (w := w) (hoth ad.block hne)
  · have h := hi.boxes l b' bx h1 h2
    exact h.kept (Grows.refl g) (hk b' _ h.1 (by intro e; cases e)) fun off k hk' => hk k _ hk' (by intro e; cases e)
  · simp only [List.getElem?_set] at h1
    by_cases e : t = i
    · subst e
      rw [if_pos rfl] at h1
      split at h1
      · obtain rfl := Option.some.inj h1
        rw [hu] at h2
        obtain rfl := Option.some.inj h2
        exact ⟨b, rfl, e2, by simp [hbl], e4⟩
      · cases h1
    · rw [if_neg e] at h1
      exact (hi.tmps i c v h1 h2).kept (Grows.refl g) (fun j k hk' => hk k _ hk' (by intro e'; cases e'; exact e rfl)) fun p v' _ hv' => hpv p v' hv'
  · simp only [List.getElem?_set] at h1
    by_cases e : t = i
    · subst e
      rw [if_pos rfl] at h1
      split at h1
      · obtain rfl := Option.some.inj h1
        cases h2
      · cases h1
    · rw [if_neg e] at h1
      have hm := hi.al i c p h1 h2
      cases p with
      | cell l off => exact hm
      | tmp k =>
        simp only [St.at, List.getD_eq_getElem?_getD, List.getElem?_set] at hm ⊢
        by_cases e' : t = k
        · subst e'
          rw [ht] at hm
          cases hm
        · rw [if_neg e']; exact hm
  · have hlt : l < s.bx.length := by rw [← hi.blen]; exact (List.getElem?_eq_some_iff.1 hb').1
    exact hk b' _ (hi.boxes l b' _ hb' (List.getElem?_eq_getElem hlt)).1 (by intro e; cases e)

theorem next_sound (hi : Inv base w0 w g d s vals) (ha : a.tmps = vals) {x : Operand} {isStr : Bool} (ho : o.op = .next x isStr) {s' : St}
    (h : (match (generalizing := false) x, s.val cfg x with
    | .tmp t, .siter bs pos => if isStr = true then iteB (decide (pos < bs.size))
        (fun _ => some (put { s with ts := s.ts.set t (.siter bs (pos + (Utf8.decode bs pos).2)) } o.dst (.tup [.dat (.lit (.bool true)), .dat (.lit (goInt pos)), .dat (.lit (.int .i32 (Utf8.decode bs pos).1))])))
        (fun _ => some (put s o.dst (.tup [.dat (.lit (.bool false))])))
      else none
    | _, _ => none) = some s') : Goes P o a base w0 w g d s vals s' := by
  split at h
  · rename_i t bs pos hv
    simp only [St.val] at hv
    obtain ⟨h1, h2, h3⟩ := val_tmp hi ha hv (by intro e; cases e)
    have hS : SIter w g (.tmp d t 0) bs pos (a.eval (.tmp t)) := h3
    have ⟨b, e1, e2, e3, e4⟩ := hS
    split at h
    · rename_i hstr
      subst hstr
      by_cases hlt : pos < bs.size
      · rw [decide_eq_true hlt, iteB_true] at h
        obtain rfl := Option.some.inj h
        rw [e1] at h2 hS
        obtain ⟨k1, k2⟩ := iter_step (pos' := pos + (Utf8.decode bs pos).2) hi h1 h2 hS
        refine goes_of_pend (v := .tuple #[.bool true, goInt pos, .int .i32 (Utf8.decode bs pos).1]) (.inl ?_) k1 k2 ?_
        · simp only [execOp, ho, e1, Instr.next, getObj, setObj, Sem.run_bind, Sem.run, e3, Result.andThen_ok, if_pos hlt]
          rfl
        · refine ⟨[.bool true, goInt pos, .int .i32 (Utf8.decode bs pos).1], rfl, rfl, fun j c v hc hv => ?_⟩
          match j, hc, hv with
          | 0, hc, hv => simp at hc hv; subst hc; subst hv; exact rfl
          | 1, hc, hv => simp at hc hv; subst hc; subst hv; exact rfl
          | 2, hc, hv => simp at hc hv; subst hc; subst hv; exact rfl
      · rw [decide_eq_false hlt, iteB_false] at h
        obtain rfl := Option.some.inj h
        refine goes_same (v := .tuple #[.bool false]) ?_ hi ?_
        · simp only [execOp, ho, e1, Instr.next, getObj, Sem.run_bind, Sem.run, e3, Result.andThen_ok, if_neg hlt]
          rfl
        · refine ⟨[.bool false], rfl, rfl, fun j c v hc hv => ?_⟩
          match j, hc, hv with
          | 0, hc, hv => simp at hc hv; subst hc; subst hv; exact rfl
    · cases h
  · cases h

theorem rowByte_eq {r : List D} {b : UInt8} (h : rowByte r = some b) : r = [.lit (.int .u8 b.toNat)] := by
  unfold rowByte at h
  split at h
  · rename_i n
    split at h
    · rename_i hn
      obtain rfl := Option.some.inj h
      have : ((UInt8.ofNat n.toNat).toNat : Int) = n := by
        rw [UInt8.toNat_ofNat']
        omega
      rw [this]
    · cases h
  · cases h

theorem rowsBytes_eq : ∀ {xs : List (List D)} {bs : List UInt8}, rowsBytes xs = some bs → xs = bs.map fun b => [.lit (.int .u8 b.toNat)]
  | [], bs, h => by obtain rfl := Option.some.inj h; rfl
  | r :: rs, bs, h => by
    simp only [rowsBytes] at h
    obtain ⟨b, h1, h⟩ := seqO_eq.1 h
    obtain ⟨bs', h2, h⟩ := seqO_eq.1 h
    obtain rfl := Option.some.inj h
    rw [rowByte_eq h1, rowsBytes_eq h2]; rfl

theorem liesAt_off {e : TypeId} (hc : P.cellsOf e = 1) (count off n : Nat) (hn : off + n ≤ count) : liesAt P P.depth e count off e n = true := by
  have hd : P.depth = (2 * (P.types.size + Made.depth) + 1) + 1 := rfl
  rw [hd]
  simp only [liesAt, Bool.or_eq_true]
  left
  rw [hd]
  simp [rowAt, hc, hn, sameLayout, Nat.mod_one]

theorem run_unsafeString_at (w : World) (ts : Array TypeId) (pt ty e : TypeId) (hts : ts[0]? = some pt) (hp : P.underlying pt = some (.pointer e)) (hc : P.cellsOf e = 1) (g off cells : Nat) (hsh : w.shape? g = some (e, cells)) (l : List UInt8) (h0 : l ≠ []) (hn : off + l.length ≤ cells) (h63 : l.length ≤ 9223372036854775807)
    (hcell : ∀ j x, l[j]? = some x → w.cell? ⟨g, off + j, none⟩ = some (.int .u8 x.toNat)) :
    (Builtin.unsafeString_ ts ty #[.pointer (some ⟨g, off, none⟩), .int .i64 l.length]).run P w = .ok (.string ⟨l.toArray⟩) (w.freeze ⟨g, off, none⟩ l.length) := by
  have hl : l.length ≠ 0 := by simpa using h0
  have hlb := Go.Lib.run_loadBytes (P := P) w l ⟨g, off, none⟩ .empty (fun j x hx => by rw [add_mk]; exact hcell j x hx)
  have hlies := liesAt_off (P := P) hc (cells / P.cellsOf e) off l.length (by rw [hc]; simpa using hn)
  have h63' : ¬ (9223372036854775807 : Int) < (l.length : Int) := by omega
  have hdef : Builtin.unsafeString_ ts ty #[.pointer (some ⟨g, off, none⟩), .int .i64 l.length] =
      (do
        let n ← asInt (.int .i64 l.length)
        let some pt := ts[0]? | stuck "unsafe.String: no argument types"
        if n < 0 then runtimePanic (.error "unsafe.String: len out of range")
        if n > IntKind.i64.max then unsupported (.unsafePointer "String: a length above the largest int")
        if n = 0 then pure (.string .empty)
        else if ← variablesAt ⟨g, off, none⟩ (← elemOf pt) n.toNat then do
          let s ← loadBytes ⟨g, off, none⟩ .empty n.toNat
          Go.freeze ⟨g, off, none⟩ n.toNat
          pure (.string s)
        else unsupported (.unsafePointer "String: not so many bytes at ptr")) := rfl
  rw [hdef]
  have hmax : IntKind.i64.max = 9223372036854775807 := rfl
  have hneg : ¬ (l.length : Int) < 0 := by omega
  simp [asInt, asIntOf, hts, hmax, h63', hneg, hl, variablesAt, hsh, elemOf, run_underlying hp, hlies, hlb]

theorem freeze_cell (w : World) (a x : Addr) (n : Nat) : (w.freeze a n).cell? x = w.cell? x := by
  unfold World.freeze
  split
  · rfl
  · simp only [World.cell?, Array.getElem?_modify]
    by_cases h : a.block = x.block
    · rw [if_pos h]
      cases w.heap[x.block]? with
      | none => rfl
      | some ob => cases ob <;> rfl
    · rw [if_neg h]

theorem freeze_other (w : World) (a : Addr) (n k : Nat) (h : k ≠ a.block) : (w.freeze a n).heap[k]? = w.heap[k]? := by
  unfold World.freeze
  split
  · rfl
  · simp only [Array.getElem?_modify, if_neg (Ne.symm h)]

theorem sliceData_goes (hi : Inv base w0 w g d s vals) (ha : a.tmps = vals) {x : Operand} {pv : PV} {s1 : St} (h : aSliceData cfg x s = some (pv, s1)) (ts : Array TypeId) (ty : TypeId) :
    ∃ v, (Builtin.unsafeSliceData_ ts ty #[a.eval x]).run P w = .ok v w ∧ s1 = s ∧ RelP w g vals s pv v := by
  unfold aSliceData at h
  split at h
  · rename_i p hv
    split at h
    · rename_i ex k xs hp
      split at h
      · rename_i hne
        simp only [Option.some.injEq, Prod.mk.injEq] at h
        obtain ⟨rfl, rfl⟩ := h
        obtain ⟨t, rfl⟩ := val_is_tmp hv (.inl ⟨p, rfl⟩)
        simp only [St.val] at hv
        obtain ⟨h1, h2, h3⟩ := val_tmp hi ha hv (by intro e; cases e)
        obtain ⟨ow, u, q1, q2, q3⟩ := at_rel hi hp
        have hu : u = a.eval (.tmp t) := Option.some.inj (q2.symm.trans h3)
        subst hu
        obtain ⟨b, off, c, cs, T, f1, f2, f3, f4, f5, f6, f7, f8, f9⟩ := q3
        have hc0 : c ≠ 0 := by
          have : xs ≠ [] := by intro e; rw [e] at hne; cases hne
          have := List.length_pos_iff.2 this
          omega
        refine ⟨.pointer (some ⟨b, off, none⟩), ?_, rfl, ⟨⟨b, off, xs.length, c, by rw [← f1]; exact h3, by simp⟩, by rw [hp]; rfl⟩⟩
        rw [f1]
        exact Go.Lib.run_unsafeSliceData_row w ts ty _ _ c hc0
      · cases h
    · cases h
  · cases h

theorem unsafeString_goes (hc : CfgOk P cfg) (hi : Inv base w0 w g d s vals) (hgl : GlobOk cfg g) (ha : a.tmps = vals) {x y : Operand} {pv : PV} {s1 : St} (h : aUnsafeString cfg x y s = some (pv, s1)) {ts : Array TypeId} {pt : TypeId} (hts : ts[0]? = some pt) (hpt : cfg.byteP pt = true) (ty : TypeId) :
    ∃ v w1 g1, (Builtin.unsafeString_ ts ty #[a.eval x, a.eval y]).run P w = .ok v w1 ∧ Inv base w0 w1 g1 d s1 vals ∧ Stp d s s1 w w1 g g1 ∧ RelP w1 g1 vals s1 pv v := by
  unfold aUnsafeString at h
  split at h
  · rename_i p n hv hn
    split at h
    · rename_i ex xs hp
      split at h
      · rename_i hcond
        obtain ⟨hlen, hne⟩ := hcond
        obtain ⟨bs, hbs, h⟩ := seqO_eq.1 h
        simp only [Option.some.injEq, Prod.mk.injEq] at h
        obtain ⟨rfl, rfl⟩ := h
        have ey := val_lit hi hgl ha hn
        obtain ⟨t, rfl⟩ := val_is_tmp hv (.inl ⟨p, rfl⟩)
        simp only [St.val] at hv
        obtain ⟨h1, h2, b, off, n', c', h3, h4⟩ := val_tmp hi ha hv (by intro e; cases e)
        obtain ⟨ow, u, q1, q2, q3⟩ := at_rel hi hp
        rw [h3] at q2
        obtain rfl := Option.some.inj q2
        have ⟨b1, off1, c, cs, T, f1, f2, f3, f4, f5, f6, f7, f8, f9, f10, f11⟩ := q3
        simp only [Value.slice.injEq, Option.some.injEq, Addr.mk.injEq] at f1
        obtain ⟨⟨rfl, rfl, _⟩, rfl, rfl⟩ := f1
        have hxs := rowsBytes_eq hbs
        have hbl : bs.length = xs.length := by rw [hxs]; simp
        obtain ⟨k1, k2⟩ := hc.byteP pt hpt
        have hT : T = cfg.byteT := (f6 rfl).trans hgl.2
        have hsh : w.shape? b = some (cfg.byteT, cs.size) := by simp [World.shape?, f3, hT]
        have hk1 : ksz 0 = 1 := rfl
        rw [hk1] at f7
        have hrun := run_unsafeString_at (P := P) w ts pt ty cfg.byteT hts k1 k2 b off cs.size hsh bs (by intro e; rw [e] at hbl; have : xs = [] := List.eq_nil_of_length_eq_zero hbl.symm; rw [this] at hne; cases hne) (by omega) (by simp only [maxLen] at f5; omega) (fun j x hx => by
          have hxj : xs[j]? = some [.lit (.int .u8 x.toNat)] := by rw [hxs, List.getElem?_map, hx]; rfl
          have hfl := flatten_row f8 hxj 0 _ rfl
          rw [hk1] at hfl
          simp only [Nat.mul_one, Nat.add_zero] at hfl
          obtain ⟨v, g1, g2⟩ := f9 j _ hfl
          rw [cell_of_heap f3, g1]
          cases g2; rfl)
        have hbase : base ≤ b := hi.own_ge b _ f2
        obtain ⟨m1, m2⟩ := markW_sound (w' := w.freeze ⟨b, off, none⟩ bs.length) (g' := g) (c := .dead) hi q1 h3 (Go.Lib.below_freeze hi.low hbase _) (by unfold World.freeze; split <;> simp) rfl rfl (fun _ _ h => h)
          (fun ad v h => by rw [freeze_cell]; exact hi.mem ad v h) (fun b' o' e1 e2 => ⟨freeze_other w _ _ b' (by rintro rfl; rw [f2] at e1; cases e1; exact e2 rfl), rfl, fun _ => rfl⟩) (fun b' o' h => ⟨o', h, .inl rfl⟩) rfl (by
            cases p with
            | tmp => exact trivial
            | cell l off' => obtain ⟨b', hb', _⟩ := q1; exact ⟨b', hb', trivial⟩)
        refine ⟨.string ⟨bs.toArray⟩, _, g, ?_, m1, m2, rfl⟩
        rw [h4, ey, hlen, ← hbl]
        simpa using hrun
      · cases h
    · cases h
  · cases h
end

end Go.Vx
namespace Go.Vx
open Go Go.RowKit

section
variable {P : Program} {cfg : Cfg} {base : Nat} {w0 w : World} {g : Gh} {d : Nat} {s : St} {vals : Array Value} {o : Oper} {a : Act}

theorem rd_len {r : Rd} {u : Value} (hr : RdRel w g vals d s r u) : ∃ ad c, u = .slice ad r.rows.length c := by
  cases hr with
  | imm k xs _ h => obtain ⟨ad, c, h1, _⟩ := h.slice; exact ⟨ad, c, h1⟩
  | «at» p ex k xs _ ow h1 h2 h3 h4 => obtain ⟨b, off, c, cs, T, h, _⟩ := h4; exact ⟨_, c, h⟩

theorem builtin_exec {b : Builtin} {c : Call} (ho : o.op = .call c) (hb : c.callee = .builtin b) {w' : World} {v : Value}
    (h : (builtin b c.argTypes o.type (c.args.map fun | .const _ => true | _ => false) (c.args.map a.eval)).run P w = .ok (.value v) w') : (execOp a.eval o).run P w = .ok (.value v) w' := by
  simp only [execOp, ho, resolve, hb, Sem.run_bind, Sem.run_pure, Result.andThen_ok, invoke]
  exact h

theorem builtin_sound (hc : CfgOk P cfg) (hi : Inv base w0 w g d s vals) (hgl : GlobOk cfg g) (ha : a.tmps = vals) {b : Builtin} {c : Call} (ho : o.op = .call c) (hb : c.callee = .builtin b) {s' : St}
    (h : (seqO (aBuiltin cfg b c.argTypes c.args.toList s) fun p => some (put p.2 o.dst p.1)) = some s') : Goes P o a base w0 w g d s vals s' := by
  obtain ⟨⟨pv, s1⟩, h1, h2⟩ := seqO_eq.1 h
  obtain rfl := Option.some.inj h2
  clear h h2
  have hargs : ∀ l, c.args.toList = l → c.args = l.toArray := fun l e => by rw [← e]
  have slen : ∀ (x : Operand), c.args.toList = [x] → b = .len → (seqO (c.argTypes[0]?) fun t => seqO (cfg.ti t) fun i => match i.kind with
      | .slice _ => seqO (rd cfg x s) fun r => some (PV.dat (.lit (.int .i64 r.rows.length)), s)
      | _ => none) = some (pv, s1) → Goes P o a base w0 w g d s vals (put s1 o.dst pv) := by
    intro x hx hbl h
    subst hbl
    obtain ⟨t, h2, h3⟩ := seqO_eq.1 h
    obtain ⟨i, h4, h5⟩ := seqO_eq.1 h3
    have hkd := (hc.ti t i h4).kind
    split at h5
    · rename_i e hk
      rw [hk] at hkd
      simp only [KindOk] at hkd
      obtain ⟨r, h6, h7⟩ := seqO_eq.1 h5
      simp only [Option.some.injEq, Prod.mk.injEq] at h7
      obtain ⟨rfl, rfl⟩ := h7
      obtain ⟨ad, cc, hu⟩ := rd_len (rd_sound hi hgl ha h6)
      refine goes_same (builtin_exec ho hb ?_) hi lit_rel
      simp only [hargs _ hx, builtin, Builtin.len_, h2, List.map_toArray, List.map_cons, List.map_nil]
      simp [hu, run_underlying hkd, goInt]
    · cases h5
  unfold aBuiltin at h1
  split at h1
  · rename_i x hx
    split at h1
    · rename_i b' hv
      obtain ⟨t, h2, h3⟩ := seqO_eq.1 h1
      obtain ⟨i, h4, h5⟩ := seqO_eq.1 h3
      have hkd := (hc.ti t i h4).kind
      split at h5
      · rename_i hk
        rw [hk] at hkd
        simp only [KindOk] at hkd
        simp only [Option.some.injEq, Prod.mk.injEq] at h5
        obtain ⟨rfl, rfl⟩ := h5
        have ex := val_lit hi hgl ha hv
        refine goes_same (builtin_exec ho hb ?_) hi lit_rel
        simp only [hargs _ hx, builtin, Builtin.len_, h2, List.map_toArray, List.map_cons, List.map_nil]
        simp [ex, run_underlying hkd, goInt]
      · cases h5
    · exact slen x hx rfl h1
  · rename_i x y hx
    obtain ⟨t, h2, h3⟩ := seqO_eq.1 h1
    obtain ⟨t', h4, h5⟩ := seqO_eq.1 h3
    split at h5
    · rename_i ht
      subst ht
      obtain ⟨rb, hrb, h6⟩ := seqO_eq.1 h5
      have hz : NoZeros P c.argTypes := by
        have ⟨i, hti, h7⟩ := seqO_eq.1 h6
        have hkd := (hc.ti t i hti).kind
        split at h7
        · rename_i e hk
          rw [hk] at hkd
          exact ⟨t, h4, .inl ⟨e, hkd⟩⟩
        · cases h7
      obtain ⟨v, w1, g1, r1, i1, st1, rel⟩ := append_sound hc hi hgl ha h6 (appArg_rd hi (rd_sound hi hgl ha hrb)) h2 hz o.type
      refine goes_of_pend (.inl (builtin_exec ho hb ?_)) i1 st1 rel
      simp only [hargs _ hx, builtin, List.map_toArray, List.map_cons, List.map_nil, Sem.run_bind, r1, Result.andThen_ok, Sem.run_pure]
    · unfold aAppendS at h5
      split at h5
      · rename_i bs hv
        obtain ⟨i, hti, h6⟩ := seqO_eq.1 h5
        have hkd := (hc.ti t' i hti).kind
        split at h6
        · rename_i hk
          rw [hk] at hkd
          have ey := val_lit hi hgl ha hv
          obtain ⟨v, w1, g1, r1, i1, st1, rel⟩ := append_sound hc hi hgl ha h6 (by rw [ey]; exact appArg_str bs) h2 ⟨t', h4, .inr hkd⟩ o.type
          refine goes_of_pend (.inl (builtin_exec ho hb ?_)) i1 st1 rel
          simp only [hargs _ hx, builtin, List.map_toArray, List.map_cons, List.map_nil, Sem.run_bind, r1, Result.andThen_ok, Sem.run_pure]
        · cases h6
      · cases h5
  · rename_i x hx
    obtain ⟨v, r1, rfl, rel⟩ := sliceData_goes (P := P) hi ha h1 c.argTypes o.type
    refine goes_same (builtin_exec ho hb ?_) hi rel
    simp only [hargs _ hx, builtin, List.map_toArray, List.map_cons, List.map_nil, Sem.run_bind, r1, Result.andThen_ok, Sem.run_pure]
  · rename_i x y hx
    obtain ⟨pt, h2, h3⟩ := seqO_eq.1 h1
    split at h3
    · rename_i hcond
      obtain ⟨v, w1, g1, r1, i1, st1, rel⟩ := unsafeString_goes hc hi hgl ha h3 h2 hcond.1 o.type
      refine goes_of_pend (.inl (builtin_exec ho hb ?_)) i1 st1 rel
      simp only [hargs _ hx, builtin, List.map_toArray, List.map_cons, List.map_nil, Sem.run_bind, r1, Result.andThen_ok, Sem.run_pure]
    · cases h3
  · rename_i x y hx
    split at h1
    · rename_i k n k' n' hv hv'
      simp only [Option.some.injEq, Prod.mk.injEq] at h1
      obtain ⟨rfl, rfl⟩ := h1
      have e1 := val_lit hi hgl ha hv
      have e2 := val_lit hi hgl ha hv'
      refine goes_same (builtin_exec ho hb ?_) hi lit_rel
      simp only [hargs _ hx, builtin, Builtin.max_, List.map_toArray, List.map_cons, List.map_nil]
      simp [e1, e2, Builtin.max2]
    · cases h1
  · rename_i x y hx
    split at h1
    · rename_i k n k' n' hv hv'
      simp only [Option.some.injEq, Prod.mk.injEq] at h1
      obtain ⟨rfl, rfl⟩ := h1
      have e1 := val_lit hi hgl ha hv
      have e2 := val_lit hi hgl ha hv'
      refine goes_same (builtin_exec ho hb ?_) hi lit_rel
      simp only [hargs _ hx, builtin, Builtin.min_, List.map_toArray, List.map_cons, List.map_nil]
      simp [e1, e2, Builtin.min2]
    · cases h1
  · cases h1

theorem aop_sound (hc : CfgOk P cfg) (hi : Inv base w0 w g d s vals) (hgl : GlobOk cfg g) (ha : a.tmps = vals) {pol : Option Pol} {s' : St}
    (h : aop cfg pol o s = some s') : Goes P o a base w0 w g d s vals s' := by
  unfold aop at h
  split at h
  · rename_i ho
    split at h
    · rename_i q hq
      obtain rfl := Option.some.inj h
      exact moveT_sound hi ha ho hq
    · exact move_sound hi hgl ha (.inl ho) h
  · rename_i ho; exact move_sound hi hgl ha (.inr ho) h
  · rename_i ho; exact pick_sound hi hgl ha ho h
  · rename_i ho; exact alloc_sound hc hi ho h
  · rename_i ho; exact box_sound hi hgl ha ho h
  · rename_i ho; exact build_sound hc hi hgl ha ho h
  · rename_i ho; exact buildSlice_sound hc hi hgl ha ho h
  · rename_i ho; exact load_sound hc hi hgl ha ho h
  · rename_i ho; exact store_sound hc hi hgl ha ho h
  · rename_i ho; exact nilCheck_sound hi hgl ha ho h
  · rename_i ho; exact binOp_sound hc hi hgl ha ho h
  · rename_i ho; exact unOp_sound hi hgl ha ho h
  · rename_i ho; exact conv_sound hc hi hgl ha ho h
  · rename_i ho; exact range_sound hc hi hgl ha ho h
  · rename_i ho; exact next_sound hi ha ho h
  · rename_i ho; exact makeFunc_sound hi hgl ha ho h
  · rename_i ho; exact makeSlice_sound hc hi hgl ha ho h
  · rename_i ho; exact slice_sound hc hi hgl ha ho h
  · rename_i ho; exact fieldAddr_sound hc hi hgl ha ho h
  · rename_i ho; exact indexAddr_sound hc hi hgl ha ho h
  · rename_i ho; exact field_sound hc hi hgl ha ho h
  · rename_i ho; exact index_sound hc hi hgl ha ho h
  · rename_i ho; exact extract_sound hi ha ho h
  · rename_i c ho
    split at h
    · rename_i b hb; exact builtin_sound hc hi hgl ha ho hb h
    · cases h
  · cases h
end

end Go.Vx
namespace Go.Vx
open Go Go.RowKit

section
variable {P : Program} {cfg : Cfg} {base : Nat} {w0 w : World} {g : Gh} {d : Nat} {s : St} {vals : Array Value} {o : Oper} {a : Act}

/-- labels of what waits for a slot turn -/
theorem relab_res (hi : Inv base w0 w g d s vals) {f : Owner → Option Owner} (hb : f .box = some .box) (hc : ∀ b off, f (.cell b off) = some (.cell b off)) (ht : ∀ d' i j, d' ≤ d → f (.tmp d' i j) = some (.tmp d' i j))
    (hr : ∀ j d' i j', f (.res j) = some (.tmp d' i j') → d' ≤ d) : Inv base w0 w (g.relab f) d s vals ∧ Stp d s s w w g (g.relab f) := by
  refine ⟨⟨hi.low, hi.hb, hi.mem, fun b o h => ?_, fun b o h => ?_, fun b d' i j h => ?_, hi.blen, hi.nodup, hi.nbl, fun l b bx h1 h2 => (hi.boxes l b bx h1 h2).relab hb (hc b), hi.tl, fun i c v h1 h2 => ?_, hi.al⟩, ⟨grows_relab _ _, rfl, Nat.le_refl _, fun b d' i j h hd => kept_relab h (ht d' i j (Nat.le_of_lt hd)), fun _ h => h, fun l hl hlo => ⟨rfl, fun b h => ⟨?_, fun off b' h' => kept_relab h' (hc b off)⟩⟩, fun h => h, fun _ => kpl_same rfl⟩⟩
  · obtain ⟨o', h1, _⟩ := relab_own h; exact hi.own_ge b o' h1
  · obtain ⟨o', h1, _⟩ := relab_own h; exact hi.own_lt b o' h1
  · obtain ⟨o', h1, h2⟩ := relab_own h
    cases o' with
    | box => rw [hb] at h2; cases h2
    | cell b1 off => rw [hc] at h2; cases h2
    | tmp d1 i1 j1 =>
      have := hi.own_d b d1 i1 j1 h1
      rw [ht d1 i1 j1 this] at h2
      cases h2; exact this
    | res j1 => exact hr j1 d' i j h2
  · exact (hi.tmps i c v h1 h2).relab (fun j => ht d i j (Nat.le_refl _)) fun p hp => by cases p <;> rfl
  · have hl' : l < s.bx.length := Nat.lt_of_lt_of_le hl hi.nbl
    exact kept_relab (hi.boxes l b _ h (List.getElem?_eq_getElem hl')).1 hb

def resEval (tmps : Array Value) : ResultVar → Sem Value
  | .tmp t => pure (tmps.getD t undef)
  | .cell a t => do loadVar t (← asAddr (tmps.getD a undef))

theorem results_eq (fn : Func) (tmps : Array Value) : results fn tmps = (do let vs ← fn.results.mapM (resEval tmps); pure (if h : vs.size = 1 then vs[0] else .tuple vs)) := rfl

theorem relR_of_relP {c : PV} {u : Value} (hok : okRes c = true) (h : RelP w g vals s c u) : RelR w g (.res 0) c u := by
  cases c with
  | mp V es => first | exact hr.elim | exact h.elim | exact hr.1.elim | exact h.1.elim | exact trivial | rfl | assumption
  | «alias» => cases hok
  | eptr => cases hok
  | tup => cases hok
  | dead => cases hok
  | tnil => exact h
  | home => exact h
  | siter => exact h
  | dat => exact h
  | own => exact h
  | agg => exact h
  | ptr => exact h
  | iptr => exact h
  | clo => exact h

theorem relR_of_relA {c : PV} {u : Value} {ow : Owner} (h : RelA g c u) : RelR w g ow c u := by
  cases c with
  | mp V es => first | exact hr.elim | exact h.elim | exact hr.1.elim | exact h.1.elim | exact trivial | rfl | assumption
  | agg => exact h
  | dead => exact trivial
  | tnil => exact h.elim
  | home => exact h.elim
  | siter => exact h.elim
  | own => exact h.elim
  | «alias» => exact h.elim
  | eptr => exact h.elim
  | tup => exact h.elim
  | dat => exact h
  | ptr => exact h
  | iptr => exact h
  | clo => exact h

theorem ares_sound (hc : CfgOk P cfg) (hi : Inv base w0 w g d s vals) (hgl : GlobOk cfg g) {v : ResultVar} {pv : PV} {s1 : St} (h : ares cfg v s = some (pv, s1)) :
    ∃ u g1, (resEval vals v).run P w = .ok u w ∧ Inv base w0 w g1 d s1 vals ∧ Stp d s s1 w w g g1 ∧ RelR w g1 (.res 0) pv u := by
  have ha : ({ tmps := vals, defers := [] } : Act).tmps = vals := rfl
  cases v with
  | tmp t =>
    simp only [ares] at h
    obtain ⟨⟨c, s'⟩, h1, h2⟩ := seqO_eq.1 h
    split at h2
    · rename_i hok
      simp only [Option.some.injEq, Prod.mk.injEq] at h2
      obtain ⟨rfl, rfl⟩ := h2
      obtain ⟨g1, i1, st1, r1, _⟩ := fetch_sound hi hgl h1 ha
      exact ⟨_, g1, rfl, i1, st1, relR_of_relP hok r1⟩
    · cases h2
  | cell x t =>
    simp only [ares] at h
    obtain ⟨ad, u, g1, e1, r1, i1, st1, _, r2⟩ := aLoad_sound (x := .tmp x) hc hi hgl ha h
    refine ⟨u, g1, ?_, i1, st1, relR_of_relA (r2 rfl)⟩
    have e1' : vals.getD x undef = .pointer (some ad) := e1
    simp only [resEval, e1', asAddr, Sem.run_bind, Sem.run_pure, Result.andThen_ok, r1]

def valOf (r : Result Value) : Value :=
  match r with
  | .ok v _ => v
  | _ => undef

/-- labels of a call's results: they stand beyond the caller's slots -/
def toLab (d N j : Nat) : Owner → Option Owner := fun o => if o = .res 0 then some (.tmp d N (j + 1)) else some o

theorem aress_sound (hc : CfgOk P cfg) {N : Nat} : ∀ (vs : List ResultVar) {j : Nat} {g : Gh} {s s1 : St} {pvs : List PV}, Inv base w0 w g (d + 1) s vals → GlobOk cfg g → aress cfg vs s = some (pvs, s1) →
    ∃ g1, (∀ v ∈ vs, (resEval vals v).run P w = .ok (valOf ((resEval vals v).run P w)) w) ∧ Inv base w0 w g1 (d + 1) s1 vals ∧ Stp (d + 1) s s1 w w g g1 ∧ pvs.length = vs.length ∧
      ∀ (i : Nat) v c, vs[i]? = some v → pvs[i]? = some c → RelR w g1 (.tmp d N (j + i + 1)) c (valOf ((resEval vals v).run P w))
  | [], j, g, s, s1, pvs, hi, _, h => by
    simp only [aress, Option.some.injEq, Prod.mk.injEq] at h
    obtain ⟨rfl, rfl⟩ := h
    exact ⟨g, fun v h => (by cases h), hi, Stp.refl _ s w g, rfl, fun i v c h => by simp at h⟩
  | v :: vs, j, g, s, s1, pvs, hi, hgl, h => by
    simp only [aress] at h
    obtain ⟨⟨c, s'⟩, h1, h2⟩ := seqO_eq.1 h
    obtain ⟨⟨cs, s''⟩, h3, h4⟩ := seqO_eq.1 h2
    simp only [Option.some.injEq, Prod.mk.injEq] at h4
    obtain ⟨rfl, rfl⟩ := h4
    obtain ⟨u, g1, r1, i1, st1, rel1⟩ := ares_sound hc hi hgl h1
    obtain ⟨i2, st2⟩ := relab_res (f := toLab d N j) i1 (by simp [toLab]) (fun _ _ => by simp [toLab]) (fun _ _ _ _ => by simp [toLab]) (fun j' d' i j'' e => by
      unfold toLab at e
      split at e
      · cases e; exact Nat.le_succ d
      · cases e)
    have rel2 : RelR w (g1.relab (toLab d N j)) (.tmp d N (j + 1)) c u := rel1.relab (by simp [toLab])
    obtain ⟨g3, r3, i3, st3, l3, rel3⟩ := aress_sound hc (N := N) vs (j := j + 1) i2 ((hgl.grows st1.gr).grows st2.gr) h3
    have hu : valOf ((resEval vals v).run P w) = u := by rw [r1]; rfl
    refine ⟨g3, fun x hx => ?_, i3, (st1.trans st2).trans st3, by simp [l3], fun i x y hx hy => ?_⟩
    · rcases List.mem_cons.1 hx with hx | hx
      · subst hx; rw [hu]; exact r1
      · exact r3 x hx
    · cases i with
      | zero =>
        simp only [List.getElem?_cons_zero, Option.some.injEq] at hx hy
        subst hx; subst hy
        rw [hu]
        exact rel2.kept st3.gr fun b hb => st3.tmps b d N (j + 1) hb (Nat.lt_succ_self d)
      | succ i =>
        simp only [List.getElem?_cons_succ] at hx hy
        have := rel3 i x y hx hy
        rw [show j + (i + 1) + 1 = j + 1 + i + 1 by omega]
        exact this
end

end Go.Vx
