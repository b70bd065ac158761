/- PCall -/
import Derived.Test.YtldnpolfcickaaaDoorBase
set_option linter.unusedVariables false
set_option linter.unusedSimpArgs false
namespace Go.WH
open Go
/-! ### Whether a call may be -/
def mayP (c : CallS) : Bool :=
  bif decide (c.client ≥ 4) then false else bif c.inc == 0 then false else bif c.seq == 0 then false else bif wholeP c then
  bif hasKind c then (bif (readP (bareB c)).2.2 == 0 then sameP (readP (bareB c)).1 c else false) else false else false
def putP (c : CallS) : List UInt8 × Int := bif mayP c then (bareB c, 0) else ([], 2)
abbrev callZ : CallS := ⟨0, 0, 0, 0, 0, 0, ByteArray.empty, 0, 0, ByteArray.empty, 0, 0, []⟩
def getP (bs : List UInt8) : CallS × Int :=
  bif decide (((bs.length : Nat) : Int) > 4096) then (callZ, 3) else
  bif (readP bs).2.2 == 0 then (bif decide ((readP bs).2.1 ≥ 4) then (callZ, 5) else bif mayP (readP bs).1 then ((readP bs).1, 0) else (callZ, 5)) else (callZ, (readP bs).2.2)
theorem cond_ind {α : Type} {P : α → Prop} {b : Bool} {x y : α} (h1 : P x) (h2 : P y) : P (bif b then x else y) := by cases b <;> assumption
theorem num_wf (r : Rdr) : (0 ≤ (r.num 4).1 ∧ (r.num 4).1 ≤ 4294967295) ∧ (0 ≤ (r.num 8).1 ∧ (r.num 8).1 ≤ 18446744073709551615) := by
  have h4 := r.num_lt 4
  have h8 := r.num_lt 8
  simp only [Nat.reducePow] at h4 h8
  omega
theorem fieldsR_wf {c : CallS} (w : c.Wf) (r : Rdr) : (fieldsR c r).1.Wf := by
  have n := fun r : Rdr => (num_wf r).1
  obtain ⟨w1, w2, w3, w4, w5, w6, w7, w8, w9, w10⟩ := w
  unfold fieldsR
  refine cond_ind (P := fun p : CallS × Rdr => p.1.Wf) ⟨w1, w2, w3, w4, w5, w6, w7, w8, w9, w10⟩ (cond_ind (P := fun p : CallS × Rdr => p.1.Wf) ⟨w1, w2, w3, w4, w5, w6, w7, w8, w9, w10⟩ ?_)
  unfold fieldsR2
  repeat' (first | exact ⟨w1, w2, w3, w4, n _, n _, w7, w8, w9, w10⟩ | exact ⟨w1, w2, w3, w4, n _, n _, w7, w8, w9, n _⟩ | exact ⟨w1, w2, w3, w4, n _, n _, w7, w8, n _, n _⟩ | exact ⟨w1, w2, w3, w4, n _, n _, w7, w8, n _, w10⟩ | exact ⟨w1, w2, w3, w4, n _, n _, n _, n _, w9, w10⟩ | refine cond_ind (P := fun p : CallS × Rdr => p.1.Wf) ?_ ?_)
theorem readP_wf (bs : List UInt8) : (readP bs).1.Wf := by
  have n4 := fun r : Rdr => (num_wf r).1
  have n8 := fun r : Rdr => (num_wf r).2
  have z0 : (0 : Int) ≤ 0 ∧ (0 : Int) ≤ 4294967295 := by decide
  have w0 : ∀ (x : Int) (a b c : Rdr) (k : Int), 0 ≤ k ∧ k ≤ 255 → (CallS.mk (x % 256) (a.num 4).1 (b.num 8).1 k 0 0 ByteArray.empty 0 0 ByteArray.empty 0 0 []).Wf := fun x a b c k hk =>
    ⟨(show 0 ≤ x % 256 ∧ x % 256 ≤ 255 by omega), n4 _, n8 _, hk, z0, z0, z0, z0, z0, z0⟩
  unfold readP
  simp only []
  cases ((((Rdr.mk bs 0).num 4).2.num 4).2.num 8).2.num 4 |>.2.e == 0 <;> simp only [cond_true, cond_false]
  · exact w0 _ _ _ ⟨bs, 0⟩ 0 (by decide)
  · have hk : ∀ r : Rdr, 0 ≤ min (r.num 4).1 255 ∧ min (r.num 4).1 255 ≤ 255 := fun r => by have := n4 r; omega
    generalize hb : hasKind _ = b
    cases b <;> simp only [cond_true, cond_false]
    all_goals exact fieldsR_wf (w0 _ _ _ ⟨bs, 0⟩ _ (hk _)) _
/-- What a kind has no field for stays 0. -/
theorem fieldsR_kind (c : CallS) (r : Rdr) : (fieldsR c r).1.kind = c.kind ∧
    (c.kind ≠ 2 → c.kind ≠ 4 → (fieldsR c r).1.size = c.size) ∧ (c.kind ≠ 4 → c.kind ≠ 5 → (fieldsR c r).1.off = c.off) ∧
    (c.kind ≠ 3 → ¬ (7 ≤ c.kind ∧ c.kind ≤ 11) → (fieldsR c r).1.name = c.name) ∧ (c.kind ≠ 11 → (fieldsR c r).1.toIno = c.toIno ∧ (fieldsR c r).1.toName = c.toName) := by
  unfold fieldsR
  cases decide (c.kind < 1) <;> simp only [cond_true, cond_false]
  case true => simp
  cases decide (c.kind > 12) <;> simp only [cond_true, cond_false]
  case true => simp
  unfold fieldsR2
  by_cases h2 : c.kind = 2
  · simp [h2]
  by_cases h3 : c.kind = 3
  · simp [h3]
  by_cases h7 : c.kind = 7
  · simp [h7]
  by_cases h8 : c.kind = 8
  · simp [h8]
  by_cases h9 : c.kind = 9
  · simp [h9]
  by_cases h10 : c.kind = 10
  · simp [h10]
  by_cases h4 : c.kind = 4
  · simp [h4]
  by_cases h5 : c.kind = 5
  · simp [h5]
  by_cases h11 : c.kind = 11
  · simp [h11]
  have e : ∀ k : Int, c.kind ≠ k → (c.kind == k) = false := fun k h => by simpa using h
  simp only [e _ h2, e _ h3, e _ h7, e _ h8, e _ h9, e _ h10, e _ h4, e _ h5, e _ h11, cond_false]
  simp
theorem readP_kind (bs : List UInt8) : let c := (readP bs).1
    (c.kind ≠ 2 → c.kind ≠ 4 → c.size = 0) ∧ (c.kind ≠ 4 → c.kind ≠ 5 → c.off = 0) ∧
    (c.kind ≠ 3 → ¬ (7 ≤ c.kind ∧ c.kind ≤ 11) → c.name = ByteArray.empty) ∧ (c.kind ≠ 11 → c.toIno = 0 ∧ c.toName = ByteArray.empty) := by
  unfold readP
  simp only []
  cases ((((Rdr.mk bs 0).num 4).2.num 4).2.num 8).2.num 4 |>.2.e == 0 <;> simp only [cond_true, cond_false]
  · simp
  · generalize hb : hasKind _ = b
    cases b <;> simp only [cond_true, cond_false]
    all_goals
      obtain ⟨h1, h2, h3, h4, h5⟩ := fieldsR_kind (CallS.mk (((Rdr.mk bs 0).num 4).1 % 256) (((Rdr.mk bs 0).num 4).2.num 4).1 ((((Rdr.mk bs 0).num 4).2.num 4).2.num 8).1 (min (((((Rdr.mk bs 0).num 4).2.num 4).2.num 8).2.num 4).1 255) 0 0 ByteArray.empty 0 0 ByteArray.empty 0 0 []) (((((Rdr.mk bs 0).num 4).2.num 4).2.num 8).2.num 4).2
      rw [h1]
      exact ⟨h2, h3, h4, h5⟩
theorem mayP_same {c : CallS} (h : mayP c = true) : sameP (readP (bareB c)).1 c = true := by
  unfold mayP at h
  revert h
  generalize decide (c.client ≥ 4) = b1; generalize (c.inc == 0) = b2; generalize (c.seq == 0) = b3; generalize wholeP c = b4; generalize hasKind c = b5; generalize ((readP (bareB c)).2.2 == 0) = b6
  cases b1 <;> cases b2 <;> cases b3 <;> cases b4 <;> cases b5 <;> cases b6 <;> simp
theorem sameP_spec {x y : CallS} (h : sameP x y = true) : x.data = y.data ∧ x.client = y.client ∧ x.inc = y.inc ∧ x.seq = y.seq ∧ x.kind = y.kind ∧ x.ino = y.ino ∧ x.gen = y.gen ∧ x.toIno = y.toIno ∧ x.toGen = y.toGen ∧ x.name.toList = y.name.toList ∧ x.toName.toList = y.toName.toList ∧ x.off = y.off ∧ x.size = y.size := by
  unfold sameP at h
  cases hd : (x.data == y.data) with
  | false => rw [hd] at h; cases h
  | true =>
    rw [hd] at h
    simp only [cond_true, headEq, Bool.and_eq_true, beq_iff_eq, and_true] at h
    exact ⟨by simpa using hd, h.1, h.2.1, h.2.2.1, h.2.2.2.1, h.2.2.2.2.1.1, h.2.2.2.2.1.2, h.2.2.2.2.2.1.1, h.2.2.2.2.2.1.2, h.2.2.2.2.2.2.1, h.2.2.2.2.2.2.2.1, h.2.2.2.2.2.2.2.2.1, h.2.2.2.2.2.2.2.2.2⟩
theorem empty_toList : ByteArray.empty.toList = [] := by kernel_rfl
theorem one_size {c : CallS} (h : mayP c = true) (h2 : c.kind ≠ 2) (h4 : c.kind ≠ 4) : c.size = 0 := by
  have s := sameP_spec (mayP_same h)
  have k := (readP_kind (bareB c)).1
  rw [s.2.2.2.2.1] at k
  rw [← s.2.2.2.2.2.2.2.2.2.2.2.2]; exact k h2 h4
theorem one_off {c : CallS} (h : mayP c = true) (h4 : c.kind ≠ 4) (h5 : c.kind ≠ 5) : c.off = 0 := by
  have s := sameP_spec (mayP_same h)
  have k := (readP_kind (bareB c)).2.1
  rw [s.2.2.2.2.1] at k
  rw [← s.2.2.2.2.2.2.2.2.2.2.2.1]; exact k h4 h5
theorem one_name {c : CallS} (h : mayP c = true) (h3 : c.kind ≠ 3) (h7 : ¬ (7 ≤ c.kind ∧ c.kind ≤ 11)) : c.name.toList = [] := by
  have s := sameP_spec (mayP_same h)
  have k := (readP_kind (bareB c)).2.2.1
  rw [s.2.2.2.2.1] at k
  rw [← s.2.2.2.2.2.2.2.2.2.1, k h3 h7, empty_toList]
theorem one_to {c : CallS} (h : mayP c = true) (h11 : c.kind ≠ 11) : c.toIno = 0 ∧ c.toName.toList = [] := by
  have s := sameP_spec (mayP_same h)
  have k := (readP_kind (bareB c)).2.2.2
  rw [s.2.2.2.2.1] at k
  obtain ⟨k1, k2⟩ := k h11
  exact ⟨by rw [← s.2.2.2.2.2.2.2.1]; exact k1, by rw [← s.2.2.2.2.2.2.2.2.2.2.1, k2, empty_toList]⟩
theorem wholeP_names {c : CallS} (h : wholeP c = true) :
    (c.kind = 3 ∨ c.kind = 7 ∨ c.kind = 8 ∨ c.kind = 9 ∨ c.kind = 10 ∨ c.kind = 11 → c.name.size ≤ 1000000) ∧ (c.kind = 11 → c.toName.size ≤ 1000000) ∧ (c.kind = 5 → c.data.length ≤ 1000000) := by
  unfold wholeP at h
  refine ⟨fun hk => ?_, fun hk => ?_, fun hk => ?_⟩
  · rcases hk with hk | hk | hk | hk | hk | hk <;> simp [hk] at h
    all_goals first | exact Nat.le_trans (nameIs_size h) (by decide) | exact Nat.le_trans (nameIs_size h.1) (by decide)
  · simp [hk] at h; exact Nat.le_trans (nameIs_size h.2) (by decide)
  · simp [hk] at h; omega
theorem mayP_whole {c : CallS} (h : mayP c = true) : wholeP c = true := by
  unfold mayP at h
  revert h
  generalize decide (c.client ≥ 4) = b1; generalize (c.inc == 0) = b2; generalize (c.seq == 0) = b3; generalize wholeP c = b4
  cases b1 <;> cases b2 <;> cases b3 <;> cases b4 <;> simp
theorem bareB_le {c : CallS} (h : wholeP c = true) : (bareB c).length ≤ 4000000 := by
  have := fieldsB_length c (wholeP_names h).1 (wholeP_names h).2.1 (wholeP_names h).2.2
  simp only [bareB, List.length_append, be_length]; omega
def oneCall : CallS := ⟨0, 1, 1, 1, 1, 1, ByteArray.empty, 0, 0, ByteArray.empty, 0, 0, []⟩
def callAs (c : CallS) (cl inc q : Int) : CallS := ⟨cl, inc, q, c.kind, c.ino, c.gen, c.name, c.toIno, c.toGen, c.toName, c.off, c.size, c.data⟩
end Go.WH
