/- Open -/
import Derived.Test.YtldnpolfcickaaaDoorTabs
import Derived.ProofKit
import Derived.OpenShut
set_option linter.unusedVariables false
set_option linter.unusedSimpArgs false
namespace Go.WH
open Go
/-! ### What a law's arguments are when the call begins: all that stands is read alone -/
def R0 (W : World) : Hp := fun b => W.heap[b]?
theorem sat0 (W : World) : Sat W W (R0 W) [] := ⟨rfl, rfl, rfl, (fun b o h => h), Hp.no, (fun _ _ h => by cases h), Hp.dj_no _, rfl⟩
theorem below_of {W w' : World} {R : Hp} {L : List HP} (h : (R0 W).Le R) (S : Sat W w' R L) : RowKit.Below W.heap.size W w' := by
  refine ⟨S.os, S.tape, S.output, ?_, fun k hk => ?_⟩
  · rcases Nat.eq_zero_or_pos W.heap.size with h0 | h0
    · omega
    · have hl : W.heap[W.heap.size - 1]? = some (W.heap[W.heap.size - 1]'(by omega)) := Array.getElem?_eq_getElem _
      have := S.ro _ _ (h _ _ hl)
      have := (Array.getElem?_eq_some_iff.1 this).1
      omega
  · have hl : W.heap[k]? = some (W.heap[k]'hk) := Array.getElem?_eq_getElem _
    rw [hl]; exact S.ro _ _ (h _ _ hl)
def Tr (P : Program) (W : World) (t : TypeId) (cs : List Value) : Prop :=
  ∃ (H : Type) (enc : TypeId × Value → H) (fuel : Nat) (x : DataW H × List MemPlace), DataW.trod enc P W 0 (fun _ => true) true fuel t cs = some x
section
variable {P : Program} {W : World} {t e : TypeId} {cs : List Value}
theorem Tr.of {H : Type} {enc : TypeId × Value → H} {v : Value} {d : DataW H} {ps : List MemPlace} (h : DataW.Trod enc P W 0 (fun _ => true) true t v d ps) : Tr P W t v.cells.toList := let ⟨f, h⟩ := h; ⟨H, enc, f, _, h⟩
theorem Tr.int {k : IntKind} (h : Tr P W t cs) (hu : P.underlying t = some (.int k)) : ∃ n, cs = [.int k n] ∧ k.min ≤ n ∧ n ≤ k.max := by
  obtain ⟨H, enc, f, x, h⟩ := h
  obtain ⟨n, h1, _, h2⟩ := DataW.trod_int hu h
  simp only [Lit.wf, Bool.and_eq_true, decide_eq_true_eq] at h2
  exact ⟨n, h1, h2⟩
theorem Tr.u8 (h : Tr P W t cs) (hu : P.underlying t = some (.int .u8)) : ∃ n, cs = [.int .u8 n] ∧ 0 ≤ n ∧ n ≤ 255 := by
  obtain ⟨n, h1, h2, h3⟩ := h.int hu; exact ⟨n, h1, h2, h3⟩
theorem Tr.u16 (h : Tr P W t cs) (hu : P.underlying t = some (.int .u16)) : ∃ n, cs = [.int .u16 n] ∧ 0 ≤ n ∧ n ≤ 65535 := by
  obtain ⟨n, h1, h2, h3⟩ := h.int hu; exact ⟨n, h1, h2, h3⟩
theorem Tr.u32 (h : Tr P W t cs) (hu : P.underlying t = some (.int .u32)) : ∃ n, cs = [.int .u32 n] ∧ 0 ≤ n ∧ n ≤ 4294967295 := by
  obtain ⟨n, h1, h2, h3⟩ := h.int hu; exact ⟨n, h1, h2, h3⟩
theorem Tr.u64 (h : Tr P W t cs) (hu : P.underlying t = some (.int .u64)) : ∃ n, cs = [.int .u64 n] ∧ 0 ≤ n ∧ n ≤ 18446744073709551615 := by
  obtain ⟨n, h1, h2, h3⟩ := h.int hu; exact ⟨n, h1, h2, h3⟩
theorem Tr.i64 (h : Tr P W t cs) (hu : P.underlying t = some (.int .i64)) : ∃ n, cs = [.int .i64 n] ∧ -9223372036854775808 ≤ n ∧ n ≤ 9223372036854775807 := by
  obtain ⟨n, h1, h2, h3⟩ := h.int hu; exact ⟨n, h1, h2, h3⟩
theorem Tr.bool (h : Tr P W t cs) (hu : P.underlying t = some .bool) : ∃ b, cs = [.bool b] := by
  obtain ⟨H, enc, f, x, h⟩ := h
  obtain ⟨n, h1, _⟩ := DataW.trod_bool hu h
  exact ⟨n, h1⟩
theorem Tr.str (h : Tr P W t cs) (hu : P.underlying t = some .string) : ∃ s : ByteArray, cs = [.string s] ∧ s.size ≤ maxLen := by
  obtain ⟨H, enc, f, x, h⟩ := h
  obtain ⟨n, h1, _, h2⟩ := DataW.trod_string hu h
  exact ⟨n, h1, h2⟩
theorem Tr.struct {fs : Array Field} (h : Tr P W t cs) (hu : P.underlying t = some (.struct fs)) : cs.length = P.cellsOf t ∧ ∀ (i : Nat) (f : Field), fs[i]? = some f → Tr P W f.type ((cs.drop f.offset).take (P.cellsOf f.type)) := by
  obtain ⟨H, enc, fu, x, h⟩ := h
  obtain ⟨xs, n, _, _, h1, h2, h3⟩ := DataW.trod_struct hu h
  refine ⟨h1, fun i f hf => ?_⟩
  have hi : i < fs.size := (Array.getElem?_eq_some_iff.1 hf).1
  have h4 := h3 i f hf
  rw [List.getElem?_eq_getElem (by omega)] at h4
  exact ⟨H, enc, n, _, h4⟩
theorem Tr.array {n : Nat} (h : Tr P W t cs) (hu : P.underlying t = some (.array n e)) : cs.length = P.cellsOf t ∧ ∀ i, i < n → Tr P W e ((cs.drop (i * P.cellsOf e)).take (P.cellsOf e)) := by
  obtain ⟨H, enc, fu, x, h⟩ := h
  obtain ⟨xs, m, _, _, h1, h2, h3⟩ := DataW.trod_array hu h
  refine ⟨h1, fun i hi => ?_⟩
  have h4 := h3 i hi
  rw [List.getElem?_eq_getElem (by omega)] at h4
  exact ⟨H, enc, m, _, h4⟩
theorem cells_cell {w : World} {a : Addr} {n : Nat} {xs : List Value} (h : w.cells? 0 a n = some xs) : xs.length = n ∧ ∀ i, i < n → w.cell? (a.add i) = xs[i]? := by
  unfold World.cells? at h
  rw [if_pos (Nat.zero_le _)] at h
  have key : ∀ (l : List Nat) (ys : List Value), l.mapM (fun i => w.cell? (a.add i)) = some ys → ys.length = l.length ∧ ∀ j, j < l.length → w.cell? (a.add (l.getD j 0)) = ys[j]? := by
    intro l
    induction l with
    | nil => intro ys h; simp at h; subst h; simp
    | cons i l ih =>
      intro ys h
      simp only [List.mapM_cons, Option.bind_eq_bind, Option.bind_eq_some_iff, Option.pure_def, Option.some.injEq] at h
      obtain ⟨y, h1, ys', h2, rfl⟩ := h
      obtain ⟨h3, h4⟩ := ih ys' h2
      refine ⟨by simp [h3], fun j hj => ?_⟩
      cases j with
      | zero => simpa using h1
      | succ j => simpa using h4 j (by simpa using hj)
  obtain ⟨h1, h2⟩ := key _ _ h
  refine ⟨by simpa using h1, fun i hi => ?_⟩
  have := h2 i (by simpa using hi)
  rw [List.getD_eq_getElem?_getD, List.getElem?_range hi] at this
  exact this
theorem Tr.slice (h : Tr P W t cs) (hu : P.underlying t = some (.slice e)) (hs : 0 < P.cellsOf e) : ∃ A len cap xs, cs = [.slice A len cap] ∧ Rd (R0 W) (P.cellsOf e) A len cap xs ∧ (∀ i, i < len → Tr P W e ((xs.drop (i * P.cellsOf e)).take (P.cellsOf e))) ∧ (A = none → len = 0 ∧ cap = 0) := by
  obtain ⟨H, enc, fu, x, h⟩ := h
  rcases DataW.trod_slice hu h with ⟨h1, _⟩ | ⟨a, len, cap, el, rest, n, _, h1, _, _, h2, h3, h4, h5, _⟩
  · exact ⟨none, 0, 0, [], h1, Rd.nil _ _, fun i hi => by omega, fun _ => ⟨rfl, rfl⟩⟩
  · have hcap : cap ≤ 9223372036854775807 := by simp only [maxLen] at h3; omega
    rcases Nat.eq_zero_or_pos len with h0 | h0
    · subst h0
      exact ⟨some a, 0, cap, [], h1, ⟨by simp, by omega, hcap, fun h => by omega⟩, fun i hi => by omega, fun h => by cases h⟩
    · have row : ∀ i, i < len → ∃ ys, W.cells? 0 (a.add (i * P.cellsOf e)) (P.cellsOf e) = some ys ∧ ∃ x, DataW.trod enc P W 0 (fun _ => true) true n e ys = some x := by
        intro i hi
        have h6 := h5 i hi
        rw [List.getElem?_eq_getElem (by omega)] at h6
        rw [Option.bind_eq_some_iff] at h6
        obtain ⟨ys, h7, h8⟩ := h6
        exact ⟨ys, h7, _, h8⟩
      obtain ⟨y0, hy0, _⟩ := row 0 h0
      obtain ⟨l0, c0⟩ := cells_cell hy0
      have hc := c0 0 hs
      have ha : ∃ b off, a = ⟨b, off, none⟩ ∧ ∃ c T fr, W.heap[b]? = some (.cells c T fr) := by
        obtain ⟨b, off, sp⟩ := a
        have e1 : ((⟨b, off, sp⟩ : Addr).add (0 * P.cellsOf e)).add 0 = ⟨b, off, sp⟩ := by simp [Addr.add]
        rw [e1] at hc
        rw [List.getElem?_eq_getElem (by omega)] at hc
        unfold World.cell? at hc
        split at hc
        · rename_i c T fr hb
          split at hc
          · cases hc
          · rename_i hsp
            cases sp with
            | none => exact ⟨b, off, rfl, c, T, fr, hb⟩
            | some s => simp at hsp
        · cases hc
      obtain ⟨b, off, rfl, c, T, fr, hb⟩ := ha
      have cell : ∀ j, j < len * P.cellsOf e → off + j < c.size := by
        intro j hj
        have hi : j / P.cellsOf e < len := Nat.div_lt_of_lt_mul (by rw [Nat.mul_comm]; exact hj)
        obtain ⟨ys, hys, _⟩ := row _ hi
        obtain ⟨l1, c1⟩ := cells_cell hys
        have hr : j % P.cellsOf e < P.cellsOf e := Nat.mod_lt _ hs
        have hc1 := c1 _ hr
        rw [List.getElem?_eq_getElem (by omega), add_plain_, add_plain_] at hc1
        have hj2 : off + j / P.cellsOf e * P.cellsOf e + j % P.cellsOf e = off + j := by
          have := Nat.div_add_mod j (P.cellsOf e)
          rw [Nat.mul_comm] at this
          omega
        rw [hj2] at hc1
        simp only [World.cell?, hb, Option.isSome_none, Bool.false_eq_true, if_false] at hc1
        exact (Array.getElem?_eq_some_iff.1 hc1).1
      have hpos : 0 < len * P.cellsOf e := Nat.mul_pos h0 hs
      have hsz : off + len * P.cellsOf e ≤ c.size := by have := cell (len * P.cellsOf e - 1) (by omega); omega
      refine ⟨some ⟨b, off, none⟩, len, cap, (c.toList.drop off).take (len * P.cellsOf e), h1, ⟨by rw [List.length_take, List.length_drop, Array.length_toList]; omega, h2, hcap, fun _ => ⟨b, off, c, T, fr, rfl, hb, fun j u hj => ?_⟩⟩, fun i hi => ?_, fun h => by cases h⟩
      · rw [List.getElem?_take] at hj
        split at hj
        · rw [List.getElem?_drop, Array.getElem?_toList] at hj; exact hj
        · cases hj
      · obtain ⟨ys, hys, x, hx⟩ := row i hi
        obtain ⟨l1, c1⟩ := cells_cell hys
        have : (((c.toList.drop off).take (len * P.cellsOf e)).drop (i * P.cellsOf e)).take (P.cellsOf e) = ys := by
          have hm : i * P.cellsOf e + P.cellsOf e ≤ len * P.cellsOf e := by
            have := Nat.mul_le_mul_right (P.cellsOf e) (show i + 1 ≤ len from hi)
            rw [Nat.succ_mul] at this; exact this
          apply List.ext_getElem?
          intro j
          rw [List.getElem?_take, List.getElem?_drop, List.getElem?_take, List.getElem?_drop, Array.getElem?_toList]
          by_cases hj : j < P.cellsOf e
          · rw [if_pos hj, if_pos (by omega)]
            have := c1 j hj
            rw [add_plain_, add_plain_] at this
            simp only [World.cell?, hb, Option.isSome_none, Bool.false_eq_true, if_false] at this
            rw [← this, Nat.add_assoc]
          · rw [if_neg hj, List.getElem?_eq_none (by omega)]
        rw [this]
        exact ⟨H, enc, n, x, hx⟩
/-- Bytes. -/
theorem bytes_of : ∀ (xs : List Value), (∀ i, i < xs.length → ∃ n, xs[i]? = some (.int .u8 n) ∧ 0 ≤ n ∧ n ≤ 255) → ∃ bs : List UInt8, xs = bytesV bs
  | [], _ => ⟨[], rfl⟩
  | x :: xs, h => by
    obtain ⟨n, h1, h2, h3⟩ := h 0 (by simp)
    obtain ⟨bs, hbs⟩ := bytes_of xs (fun i hi => by have := h (i + 1) (by simpa using hi); simpa using this)
    simp at h1
    refine ⟨UInt8.ofNat n.toNat :: bs, ?_⟩
    rw [hbs, h1]
    simp only [bytesV, List.map_cons, byteV, UInt8.toNat_ofNat']
    congr 2
    omega
theorem Tr.bytes (h : Tr P W t cs) (hu : P.underlying t = some (.slice e)) (he : P.underlying e = some (.int .u8)) (hs : P.cellsOf e = 1) : ∃ A cap bs, cs = [.slice A (List.length bs) cap] ∧ RdB (R0 W) A cap bs ∧ (A = none → cap = 0) := by
  obtain ⟨A, len, cap, xs, h1, r, h2, h3⟩ := h.slice hu (by omega)
  rw [hs] at r h2
  have hl : xs.length = len := by simpa using r.len
  obtain ⟨bs, rfl⟩ := bytes_of xs (fun i hi => by
    obtain ⟨n, q1, q2, q3⟩ := (h2 i (by omega)).u8 he
    refine ⟨n, ?_, q2, q3⟩
    have := congrArg (·[0]?) q1
    simp only [Nat.mul_one] at this
    simpa [List.getElem?_take, List.getElem?_drop] using this)
  rw [bytesV_length] at hl
  subst hl
  exact ⟨A, cap, bs, h1, r, fun h => (h3 h).2⟩
end
/-- unicode/utf8's tables, out of what they read as. -/
theorem tabs_of {g3 g4 : Nat} {W : World} (h : Lib.Utf8Tabs g3 g4 W) : Tabs g3 g4 (R0 W) := by
  obtain ⟨h3, h4⟩ := h
  have blk : ∀ (g c : Nat) (v : Value), W.cell? ⟨g, c, none⟩ = some v → ∃ cs T fr, W.heap[g]? = some (.cells cs T fr) ∧ cs[c]? = some v := by
    intro g c v h
    unfold World.cell? at h
    split at h
    · rename_i cs T fr hb; exact ⟨cs, T, fr, hb, by simpa using h⟩
    · cases h
  obtain ⟨cs, T, fr, hb, _⟩ := blk _ _ _ (h3 0 (by omega))
  obtain ⟨cs4, T4, fr4, hb4, _⟩ := blk _ _ _ (h4 0 (by omega)).1
  refine ⟨⟨cs, T, fr, hb, fun c hc => ?_⟩, ⟨cs4, T4, fr4, hb4, fun i hi => ⟨?_, ?_⟩⟩⟩
  · obtain ⟨cs', T', fr', hb', hq⟩ := blk _ _ _ (h3 c hc)
    rw [hb] at hb'; injection hb' with hb'; injection hb' with e1; subst e1; exact hq
  · obtain ⟨cs', T', fr', hb', hq⟩ := blk _ _ _ (h4 i hi).1
    rw [hb4] at hb'; injection hb' with hb'; injection hb' with e1; subst e1; exact hq
  · obtain ⟨cs', T', fr', hb', hq⟩ := blk _ _ _ (h4 i hi).2
    rw [hb4] at hb'; injection hb' with hb'; injection hb' with e1; subst e1; exact hq
end Go.WH
