/- Numbers as bytes. -/
import Derived.Test.YtldnpolfcickaaaDoorCall6
set_option linter.unusedVariables false
set_option linter.unusedSimpArgs false
set_option maxRecDepth 100000
set_option maxHeartbeats 1000000
namespace Go.Proofs.YtldnpolfcickaaaDoor
open Go Go.WH

/-- bytes.Clone -/
theorem bclone_some {e w : World} {R : Hp} {L : List HP} (ad : Addr) (cap : Nat) (bs : List UInt8) (hr : RdB R (some ad) cap bs) (hb : bs.length ≤ 140737488355328) (X : Sat e w R (L)) :
    Calls Tryd.prog 58 #[.slice (some ad) bs.length cap] w (Ret fun v w' => ∃ A1 : Option Addr, ∃ c1 : Nat, v = .slice A1 bs.length c1 ∧ Sat e w' R (bytesO 5 A1 c1 bs :: L)) := by
  refine enter (n := 8) (args := [.slice (some ad) bs.length cap]) Tryd.func58 rfl rfl rfl X (fun a H => ?_)
  refine WK.seq ?_
  refine st_text 1 rfl ?_
  refine st_run 0 1 0 [(2, .slice none 0 0)] H (by kernel_rfl) fun a H => ?_
  refine ops_end _ ?_
  refine WK.seq ?_
  refine WK.seq ?_
  refine st_text 2 rfl ?_
  refine st_run 0 2 0 [(4, .bool false), (3, .slice (some ad) bs.length cap)] H (by kernel_rfl) fun a H => ?_
  refine ops_end _ ?_
  refine st_false H (by kernel_rfl) ?_
  refine WK.skip ?_
  refine WK.seq ?_
  refine st_text 4 rfl ?_
  refine st_op 0 3 (op_new (d := 5) (vf := fun b => .slice (some ⟨b, 0, none⟩) 0 0) (ob := .cells #[] 5) H (IsNew.of_run rfl fun w => (by kernel_rfl)) fun a w b1 H => ?_)
  refine st_run 1 1 2 [(6, .slice (some ad) bs.length cap)] H (by kernel_rfl) fun a H => ?_
  have H := H.with (Sat.arr_bytes (s := 0) (bs := []) H.sat rfl (by simp only [maxLen]; omega))
  refine st_op 2 1 (op_appendB (d := 7) (t := 26) (A1 := (some ⟨b1, 0, none⟩)) (c1 := 0) (bs := ([])) (z := .int .u8 0) (bytes := 1) H hr (by kernel_rfl) rfl rfl rfl rfl rfl (by simp; omega) fun a w A1 c1 H => ?_)
  have H : St _ _ _ _ _ ((7, .slice A1 (bs).length c1) :: _) (bytesO 5 A1 c1 (bs) :: _) := H
  refine st_run 3 1 0 [(2, .slice A1 ((bs).length) c1)] H (by kernel_rfl) fun a H => ?_
  refine ops_end _ ?_
  refine st_ret (vs := [.slice A1 ((bs).length) c1]) H Tryd.func58 rfl (.tmp (by kernel_rfl) (.nil)) ?_
  have X := H.sat
  exact ⟨_, _, rfl, X⟩

/-- bytes.Clone -/
theorem bclone_none {e w : World} {R : Hp} {L : List HP} (cap : Nat) (X : Sat e w R (L)) :
    Calls Tryd.prog 58 #[.slice none 0 cap] w (Ret fun v w' => ∃ A1 : Option Addr, ∃ c1 : Nat, v = .slice A1 (([] : List UInt8).length) c1 ∧ Sat e w' R (bytesO 5 A1 c1 ([] : List UInt8) :: L)) := by
  refine enter (n := 8) (args := [.slice none 0 cap]) Tryd.func58 rfl rfl rfl X (fun a H => ?_)
  refine WK.seq ?_
  refine st_text 1 rfl ?_
  refine st_run 0 1 0 [(2, .slice none 0 0)] H (by kernel_rfl) fun a H => ?_
  refine ops_end _ ?_
  refine WK.seq ?_
  refine WK.seq ?_
  refine st_text 2 rfl ?_
  refine st_run 0 2 0 [(4, .bool true), (3, .slice none 0 cap)] H (by kernel_rfl) fun a H => ?_
  refine ops_end _ ?_
  refine st_true H (by kernel_rfl) ?_
  refine WK.seq ?_
  refine st_text 1 rfl ?_
  refine st_run 0 1 0 [(2, .slice none 0 0)] H (by kernel_rfl) fun a H => ?_
  refine ops_end _ ?_
  refine st_ret (vs := [.slice none 0 0]) H Tryd.func58 rfl (.tmp (by kernel_rfl) (.nil)) ?_
  have X := H.sat
  have X := X.nil_bytes 5
  exact ⟨_, _, rfl, X⟩

theorem bclone_bytes {e w : World} {R : Hp} {L : List HP} (A : Option Addr) (cap : Nat) (bs : List UInt8) (hr : RdB R A cap bs) (hb : bs.length ≤ 140737488355328) (X : Sat e w R (L)) :
    Calls Tryd.prog 58 #[.slice A bs.length cap] w (Ret fun v w' => ∃ A1 : Option Addr, ∃ c1 : Nat, v = .slice A1 bs.length c1 ∧ Sat e w' R (bytesO 5 A1 c1 bs :: L)) := by
  cases A with
  | none =>
    have hn : bs = [] := by
      rcases Nat.eq_zero_or_pos bs.length with h | h
      · exact List.eq_nil_of_length_eq_zero h
      · obtain ⟨b, off, h⟩ := hr.addr h; cases h
    subst hn
    exact bclone_none cap X
  | some ad => exact bclone_some ad cap bs hr hb X

/-- (*wharfage/rpc.Line).none -/
theorem rpc_none_nil {e w : World} {R : Hp} {L : List HP}  (X : Sat e w R (L)) :
    Calls Tryd.prog 57 #[.pointer none] w (Ret fun v w' => v = .bool true ∧ Sat e w' R (L)) := by
  refine enter (n := 12) (args := [.pointer none]) Tryd.func57 rfl rfl rfl X (fun a H => ?_)
  refine WK.seq ?_
  refine st_text 1 rfl ?_
  refine st_run 0 1 0 [(2, .bool false)] H (by kernel_rfl) fun a H => ?_
  refine ops_end _ ?_
  refine WK.seq ?_
  refine st_text 10 rfl ?_
  refine st_run 0 10 0 [(2, .bool true), (11, .bool true), (10, undef), (9, undef), (8, undef), (7, undef), (6, undef), (5, .bool true), (4, .bool true), (3, .pointer none)] H (by kernel_rfl) fun a H => ?_
  refine ops_end _ ?_
  refine st_ret (vs := [.bool true]) H Tryd.func57 rfl (.tmp (by kernel_rfl) (.nil)) ?_
  have X := H.sat
  exact ⟨rfl, X⟩

/-- (*wharfage/rpc.Line).none -/
theorem rpc_none {e w : World} {R : Hp} {L : List HP} (b : Nat) (cl : Int) (inc : Int) (seq : Int) (A : Option Addr) (k : Nat) (cap : Nat) (X : Sat e w R (blk b (.cells #[.int .u8 cl, .int .u32 inc, .int .u64 seq, .slice A k cap] 68) :: L)) :
    Calls Tryd.prog 57 #[.pointer (some ⟨b, 0, none⟩)] w (Ret fun v w' => v = .bool ((inc : Int) == 0) ∧ Sat e w' R (blk b (.cells #[.int .u8 cl, .int .u32 inc, .int .u64 seq, .slice A k cap] 68) :: L)) := by
  refine enter (n := 12) (args := [.pointer (some ⟨b, 0, none⟩)]) Tryd.func57 rfl rfl rfl X (fun a H => ?_)
  refine WK.seq ?_
  refine st_text 1 rfl ?_
  refine st_run 0 1 0 [(2, .bool false)] H (by kernel_rfl) fun a H => ?_
  refine ops_end _ ?_
  refine WK.seq ?_
  refine st_text 10 rfl ?_
  refine st_run 0 6 4 [(8, .pointer (some ⟨b, 1, none⟩)), (7, .pointer (some ⟨b, 0, none⟩)), (6, .pointer (some ⟨b, 0, none⟩)), (5, .bool false), (4, .bool false), (3, .pointer (some ⟨b, 0, none⟩))] H (by kernel_rfl) fun a H => ?_
  refine st_op 6 3 (op_val (d := 9) (v := .int .u32 inc) H (val_ld (k := 0) (t := 22) (off := 1) rfl (by kernel_rfl) rfl (by kernel_rfl)) fun a H => ?_)
  refine st_run 7 3 0 [(2, .bool ((inc : Int) == 0)), (11, .bool ((inc : Int) == 0)), (10, .bool ((inc : Int) == 0))] H (by kernel_rfl) fun a H => ?_
  refine ops_end _ ?_
  refine st_ret (vs := [.bool ((inc : Int) == 0)]) H Tryd.func57 rfl (.tmp (by kernel_rfl) (.nil)) ?_
  have X := H.sat
  exact ⟨rfl, X⟩

/-- wharfage/rpc.New -/
theorem rpc_new_bad {e w : World} {R : Hp} {L : List HP} (cl : Int) (inc : Int) (hbad : cl ≥ 4 ∨ inc = 0) (X : Sat e w R (L)) :
    Calls Tryd.prog 20 #[.int .u8 cl, .int .u32 inc] w (Ret fun v w' => v = .tuple #[.pointer none, .int .i64 2] ∧ Sat e w' R (L)) := by
  refine enter (n := 16) (args := [.int .u8 cl, .int .u32 inc]) Tryd.func20 rfl rfl rfl X (fun a H => ?_)
  refine WK.seq ?_
  refine st_text 2 rfl ?_
  refine st_run 0 2 0 [(5, .int .i64 0), (4, .pointer none)] H (by kernel_rfl) fun a H => ?_
  refine ops_end _ ?_
  refine WK.seq ?_
  refine WK.seq ?_
  refine st_text 6 rfl ?_
  refine st_run 0 3 3 [(8, .bool (decide ((cl : Int) ≥ 4))), (7, .bool (decide ((cl : Int) ≥ 4))), (6, .int .u8 cl)] H (by kernel_rfl) fun a H => ?_
  rcases Bool.eq_false_or_eq_true (decide ((cl : Int) ≥ 4)) with hg1 | hg1
  · skip
    have H := H.also (d := 8) (u := .bool (decide ((cl : Int) ≥ 4))) (v := .bool true) (by kernel_rfl) (congrArg Value.bool (hg1))
    have hg1' := of_decide_eq_true hg1
    refine st_run 3 3 0 [(11, .bool true), (10, undef), (9, undef)] H (by kernel_rfl) fun a H => ?_
    refine ops_end _ ?_
    refine st_true H (by kernel_rfl) ?_
    refine WK.seq ?_
    refine st_text 2 rfl ?_
    refine st_run 0 2 0 [(5, .int .i64 2), (4, .pointer none)] H (by kernel_rfl) fun a H => ?_
    refine ops_end _ ?_
    refine st_ret (vs := [.pointer none, .int .i64 2]) H Tryd.func20 rfl (.tmp (by kernel_rfl) (.tmp (by kernel_rfl) (.nil))) ?_
    have X := H.sat
    exact ⟨rfl, X⟩
  · skip
    have H := H.also (d := 8) (u := .bool (decide ((cl : Int) ≥ 4))) (v := .bool false) (by kernel_rfl) (congrArg Value.bool (hg1))
    have hg1' := of_decide_eq_false hg1
    refine st_run 3 3 0 [(11, .bool ((inc : Int) == 0)), (10, .bool ((inc : Int) == 0)), (9, .int .u32 inc)] H (by kernel_rfl) fun a H => ?_
    refine ops_end _ ?_
    refine st_cond ((inc : Int) == 0) H (by kernel_rfl) ?_ ?_
    · intro hc1
      have hc1' := eq_of_beq hc1
      refine WK.seq ?_
      refine st_text 2 rfl ?_
      refine st_run 0 2 0 [(5, .int .i64 2), (4, .pointer none)] H (by kernel_rfl) fun a H => ?_
      refine ops_end _ ?_
      refine st_ret (vs := [.pointer none, .int .i64 2]) H Tryd.func20 rfl (.tmp (by kernel_rfl) (.tmp (by kernel_rfl) (.nil))) ?_
      have X := H.sat
      exact ⟨rfl, X⟩
    · intro hc1
      have hc1' := neB hc1
      refine WK.skip ?_
      refine WK.seq ?_
      refine st_text 6 rfl ?_
      refine st_run 0 3 3 [(14, .agg #[.int .u8 cl, .int .u32 inc, .int .u64 0, .slice none 0 0]), (13, .int .u32 inc), (12, .int .u8 cl)] H (by kernel_rfl) fun a H => ?_
      refine st_op 3 2 (op_new (d := 15) (vf := fun b => .pointer (some ⟨b, 0, none⟩)) (ob := .cells #[.int .u8 cl, .int .u32 inc, .int .u64 0, .slice none 0 0] 68) H (IsNew.of_run rfl fun w => (by kernel_rfl)) fun a w b1 H => ?_)
      refine st_run 4 2 0 [(5, .int .i64 0), (4, .pointer (some ⟨b1, 0, none⟩))] H (by kernel_rfl) fun a H => ?_
      refine ops_end _ ?_
      refine st_ret (vs := [.pointer (some ⟨b1, 0, none⟩), .int .i64 0]) H Tryd.func20 rfl (.tmp (by kernel_rfl) (.tmp (by kernel_rfl) (.nil))) ?_
      exfalso; omega

/-- wharfage/rpc.New -/
theorem rpc_new {e w : World} {R : Hp} {L : List HP} (cl : Int) (inc : Int) (h1 : cl < 4) (h2 : inc ≠ 0) (X : Sat e w R (L)) :
    Calls Tryd.prog 20 #[.int .u8 cl, .int .u32 inc] w (Ret fun v w' => ∃ b : Nat, v = .tuple #[.pointer (some ⟨b, 0, none⟩), .int .i64 0] ∧ Sat e w' R (blk b (.cells #[.int .u8 cl, .int .u32 inc, .int .u64 0, .slice none 0 0] 68) :: L)) := by
  refine enter (n := 16) (args := [.int .u8 cl, .int .u32 inc]) Tryd.func20 rfl rfl rfl X (fun a H => ?_)
  refine WK.seq ?_
  refine st_text 2 rfl ?_
  refine st_run 0 2 0 [(5, .int .i64 0), (4, .pointer none)] H (by kernel_rfl) fun a H => ?_
  refine ops_end _ ?_
  refine WK.seq ?_
  refine WK.seq ?_
  refine st_text 6 rfl ?_
  refine st_run 0 3 3 [(8, .bool (decide ((cl : Int) ≥ 4))), (7, .bool (decide ((cl : Int) ≥ 4))), (6, .int .u8 cl)] H (by kernel_rfl) fun a H => ?_
  rcases Bool.eq_false_or_eq_true (decide ((cl : Int) ≥ 4)) with hg1 | hg1
  · skip
    have H := H.also (d := 8) (u := .bool (decide ((cl : Int) ≥ 4))) (v := .bool true) (by kernel_rfl) (congrArg Value.bool (hg1))
    have hg1' := of_decide_eq_true hg1
    refine st_run 3 3 0 [(11, .bool true), (10, undef), (9, undef)] H (by kernel_rfl) fun a H => ?_
    refine ops_end _ ?_
    refine st_true H (by kernel_rfl) ?_
    refine WK.seq ?_
    refine st_text 2 rfl ?_
    refine st_run 0 2 0 [(5, .int .i64 2), (4, .pointer none)] H (by kernel_rfl) fun a H => ?_
    refine ops_end _ ?_
    refine st_ret (vs := [.pointer none, .int .i64 2]) H Tryd.func20 rfl (.tmp (by kernel_rfl) (.tmp (by kernel_rfl) (.nil))) ?_
    exfalso; omega
  · skip
    have H := H.also (d := 8) (u := .bool (decide ((cl : Int) ≥ 4))) (v := .bool false) (by kernel_rfl) (congrArg Value.bool (hg1))
    have hg1' := of_decide_eq_false hg1
    refine st_run 3 3 0 [(11, .bool ((inc : Int) == 0)), (10, .bool ((inc : Int) == 0)), (9, .int .u32 inc)] H (by kernel_rfl) fun a H => ?_
    refine ops_end _ ?_
    refine st_cond ((inc : Int) == 0) H (by kernel_rfl) ?_ ?_
    · intro hc1
      have hc1' := eq_of_beq hc1
      refine WK.seq ?_
      refine st_text 2 rfl ?_
      refine st_run 0 2 0 [(5, .int .i64 2), (4, .pointer none)] H (by kernel_rfl) fun a H => ?_
      refine ops_end _ ?_
      refine st_ret (vs := [.pointer none, .int .i64 2]) H Tryd.func20 rfl (.tmp (by kernel_rfl) (.tmp (by kernel_rfl) (.nil))) ?_
      exfalso; omega
    · intro hc1
      have hc1' := neB hc1
      refine WK.skip ?_
      refine WK.seq ?_
      refine st_text 6 rfl ?_
      refine st_run 0 3 3 [(14, .agg #[.int .u8 cl, .int .u32 inc, .int .u64 0, .slice none 0 0]), (13, .int .u32 inc), (12, .int .u8 cl)] H (by kernel_rfl) fun a H => ?_
      refine st_op 3 2 (op_new (d := 15) (vf := fun b => .pointer (some ⟨b, 0, none⟩)) (ob := .cells #[.int .u8 cl, .int .u32 inc, .int .u64 0, .slice none 0 0] 68) H (IsNew.of_run rfl fun w => (by kernel_rfl)) fun a w b1 H => ?_)
      refine st_run 4 2 0 [(5, .int .i64 0), (4, .pointer (some ⟨b1, 0, none⟩))] H (by kernel_rfl) fun a H => ?_
      refine ops_end _ ?_
      refine st_ret (vs := [.pointer (some ⟨b1, 0, none⟩), .int .i64 0]) H Tryd.func20 rfl (.tmp (by kernel_rfl) (.tmp (by kernel_rfl) (.nil))) ?_
      have X := H.sat
      exact ⟨_, rfl, X⟩

/-- (*wharfage/rpc.Line).Seq -/
theorem rpc_seq_nil {e w : World} {R : Hp} {L : List HP}  (X : Sat e w R (L)) :
    Calls Tryd.prog 28 #[.pointer none] w (Ret fun v w' => v = .int .u64 0 ∧ Sat e w' R (L)) := by
  refine enter (n := 9) (args := [.pointer none]) Tryd.func28 rfl rfl rfl X (fun a H => ?_)
  refine WK.seq ?_
  refine st_text 1 rfl ?_
  refine st_run 0 1 0 [(2, .int .u64 0)] H (by kernel_rfl) fun a H => ?_
  refine ops_end _ ?_
  refine WK.seq ?_
  refine WK.seq ?_
  refine st_text 2 rfl ?_
  refine st_run 0 1 1 [(3, .pointer none)] H (by kernel_rfl) fun a H => ?_
  refine st_op 1 0 (op_call (d := 4) H (by kernel_rfl) rfl (rpc_none_nil H.sat) fun a v w q F => ?_)
  obtain ⟨rfl, X⟩ := q
  have H := St.mk F X
  refine ops_end _ ?_
  refine st_true H (by kernel_rfl) ?_
  refine WK.seq ?_
  refine st_text 1 rfl ?_
  refine st_run 0 1 0 [(2, .int .u64 0)] H (by kernel_rfl) fun a H => ?_
  refine ops_end _ ?_
  refine st_ret (vs := [.int .u64 0]) H Tryd.func28 rfl (.tmp (by kernel_rfl) (.nil)) ?_
  have X := H.sat
  exact ⟨rfl, X⟩

/-- (*wharfage/rpc.Line).Seq -/
theorem rpc_seq_zero {e w : World} {R : Hp} {L : List HP} (b : Nat) (cl : Int) (seq : Int) (A : Option Addr) (k : Nat) (cap : Nat) (X : Sat e w R (blk b (.cells #[.int .u8 cl, .int .u32 0, .int .u64 seq, .slice A k cap] 68) :: L)) :
    Calls Tryd.prog 28 #[.pointer (some ⟨b, 0, none⟩)] w (Ret fun v w' => v = .int .u64 0 ∧ Sat e w' R (blk b (.cells #[.int .u8 cl, .int .u32 0, .int .u64 seq, .slice A k cap] 68) :: L)) := by
  refine enter (n := 9) (args := [.pointer (some ⟨b, 0, none⟩)]) Tryd.func28 rfl rfl rfl X (fun a H => ?_)
  refine WK.seq ?_
  refine st_text 1 rfl ?_
  refine st_run 0 1 0 [(2, .int .u64 0)] H (by kernel_rfl) fun a H => ?_
  refine ops_end _ ?_
  refine WK.seq ?_
  refine WK.seq ?_
  refine st_text 2 rfl ?_
  refine st_run 0 1 1 [(3, .pointer (some ⟨b, 0, none⟩))] H (by kernel_rfl) fun a H => ?_
  refine st_op 1 0 (op_call (d := 4) H (by kernel_rfl) rfl (rpc_none b cl 0 seq A k cap H.sat) fun a v w q F => ?_)
  obtain ⟨rfl, X⟩ := q
  have H := St.mk F X
  refine ops_end _ ?_
  have hk1 : ((0 : Int) == 0) = true := by kernel_rfl
  have H := H.also (d := 4) (u := .bool ((0 : Int) == 0)) (v := .bool true) (by kernel_rfl) (congrArg Value.bool (hk1))
  refine st_true H (by kernel_rfl) ?_
  refine WK.seq ?_
  refine st_text 1 rfl ?_
  refine st_run 0 1 0 [(2, .int .u64 0)] H (by kernel_rfl) fun a H => ?_
  refine ops_end _ ?_
  refine st_ret (vs := [.int .u64 0]) H Tryd.func28 rfl (.tmp (by kernel_rfl) (.nil)) ?_
  have X := H.sat
  exact ⟨rfl, X⟩

/-- (wharfage/rpc.due).Len -/
theorem due_len {e w : World} {R : Hp} {L : List HP} (A : Option Addr) (k : Nat) (cap : Nat) (X : Sat e w R (L)) :
    Calls Tryd.prog 216 #[.slice A k cap] w (Ret fun v w' => v = .int .i64 ((k : Nat) : Int) ∧ Sat e w' R (L)) := by
  refine enter (n := 5) (args := [.slice A k cap]) Tryd.func216 rfl rfl rfl X (fun a H => ?_)
  refine WK.seq ?_
  refine st_text 1 rfl ?_
  refine st_run 0 1 0 [(2, .int .i64 0)] H (by kernel_rfl) fun a H => ?_
  refine ops_end _ ?_
  refine WK.seq ?_
  refine st_text 3 rfl ?_
  refine st_run 0 3 0 [(2, .int .i64 ((k : Nat) : Int)), (4, .int .i64 ((k : Nat) : Int)), (3, .slice A k cap)] H (by kernel_rfl) fun a H => ?_
  refine ops_end _ ?_
  refine st_ret (vs := [.int .i64 ((k : Nat) : Int)]) H Tryd.func216 rfl (.tmp (by kernel_rfl) (.nil)) ?_
  have X := H.sat
  exact ⟨rfl, X⟩

/-- container/heap.up -/
theorem heap_up0 {e w : World} {R : Hp} {L : List HP} (b : Nat) (g0 : Nat) (cap : Nat) (cl : Int) (inc : Int) (seq : Int) (X : Sat e w R (blk b (.cells #[.int .u8 cl, .int .u32 inc, .int .u64 seq, .slice (some ⟨g0, 0, none⟩) 1 cap] 68) :: L)) :
    Calls Tryd.prog 113 #[.iface 124 (.pointer (some ⟨b, 3, none⟩)), .int .i64 0] w (Ret fun v w' => Sat e w' R (blk b (.cells #[.int .u8 cl, .int .u32 inc, .int .u64 seq, .slice (some ⟨g0, 0, none⟩) 1 cap] 68) :: L)) := by
  refine enter (n := 23) (args := [.iface 124 (.pointer (some ⟨b, 3, none⟩)), .int .i64 0]) Tryd.func113 rfl rfl rfl X (fun a H => ?_)
  refine WK.block ?_
  refine WK.loop (fun m a w => 0 = m ∧ St 23 e R a w [(0, .iface 124 (.pointer (some ⟨b, 3, none⟩))), (1, .int .i64 0)] (blk b (.cells #[.int .u8 cl, .int .u32 inc, .int .u64 seq, .slice (some ⟨g0, 0, none⟩) 1 cap] 68) :: L)) (0) ⟨rfl, H.sub' ⟨by kernel_rfl, by kernel_rfl, trivial⟩⟩ ?_
  clear H
  rintro m a w ⟨rfl, H⟩ hrec
  have hrec0 := hrec; clear hrec
  refine WK.block ?_
  refine WK.seq ?_
  refine st_text 4 rfl ?_
  refine st_run 0 4 0 [(4, .int .i64 0), (7, .int .i64 0), (6, .int .i64 (-1)), (5, .int .i64 0)] H (by kernel_rfl) fun a H => ?_
  refine ops_end _ ?_
  refine WK.seq ?_
  refine WK.seq ?_
  refine st_text 10 rfl ?_
  refine st_run 0 10 0 [(17, .bool true), (16, undef), (15, undef), (14, undef), (13, undef), (12, undef), (11, .bool true), (10, .bool true), (9, .int .i64 0), (8, .int .i64 0)] H (by kernel_rfl) fun a H => ?_
  refine ops_end _ ?_
  refine st_true H (by kernel_rfl) ?_
  refine WK.exit (k' := _) rfl ?_
  refine st_end (vs := []) H Tryd.func113 rfl (.nil) ?_
  have X := H.sat
  exact X

/-- container/heap.down -/
theorem heap_down {e w : World} {R : Hp} {L : List HP} (b : Nat) (g0 : Nat) (cap : Nat) (cl : Int) (inc : Int) (seq : Int) (n : Int) (hn : n ≤ 1) (X : Sat e w R (blk b (.cells #[.int .u8 cl, .int .u32 inc, .int .u64 seq, .slice (some ⟨g0, 0, none⟩) 1 cap] 68) :: L)) :
    Calls Tryd.prog 114 #[.iface 124 (.pointer (some ⟨b, 3, none⟩)), .int .i64 0, .int .i64 n] w (Ret fun v w' => v = .bool false ∧ Sat e w' R (blk b (.cells #[.int .u8 cl, .int .u32 inc, .int .u64 seq, .slice (some ⟨g0, 0, none⟩) 1 cap] 68) :: L)) := by
  refine enter (n := 48) (args := [.iface 124 (.pointer (some ⟨b, 3, none⟩)), .int .i64 0, .int .i64 n]) Tryd.func114 rfl rfl rfl X (fun a H => ?_)
  refine WK.seq ?_
  refine st_text 1 rfl ?_
  refine st_run 0 1 0 [(6, .bool false)] H (by kernel_rfl) fun a H => ?_
  refine ops_end _ ?_
  refine WK.seq ?_
  refine st_text 2 rfl ?_
  refine st_run 0 2 0 [(7, .int .i64 0), (11, .int .i64 0)] H (by kernel_rfl) fun a H => ?_
  refine ops_end _ ?_
  refine WK.seq ?_
  refine WK.block ?_
  refine WK.loop (fun m a w => 0 = m ∧ St 48 e R a w [(0, .iface 124 (.pointer (some ⟨b, 3, none⟩))), (1, .int .i64 0), (2, .int .i64 n), (7, .int .i64 0)] (blk b (.cells #[.int .u8 cl, .int .u32 inc, .int .u64 seq, .slice (some ⟨g0, 0, none⟩) 1 cap] 68) :: L)) (0) ⟨rfl, H.sub' ⟨by kernel_rfl, by kernel_rfl, by kernel_rfl, by kernel_rfl, trivial⟩⟩ ?_
  clear H
  rintro m a w ⟨rfl, H⟩ hrec
  have hrec0 := hrec; clear hrec
  refine WK.block ?_
  refine WK.seq ?_
  refine st_text 4 rfl ?_
  refine st_run 0 4 0 [(8, .int .i64 1), (14, .int .i64 1), (13, .int .i64 0), (12, .int .i64 0)] H (by kernel_rfl) fun a H => ?_
  refine ops_end _ ?_
  refine WK.seq ?_
  refine WK.seq ?_
  refine st_text 7 rfl ?_
  refine st_run 0 4 3 [(18, .bool (decide ((1 : Int) ≥ n))), (17, .bool (decide ((1 : Int) ≥ n))), (16, .int .i64 n), (15, .int .i64 1)] H (by kernel_rfl) fun a H => ?_
  rcases Bool.eq_false_or_eq_true (decide ((1 : Int) ≥ n)) with hg1 | hg1
  · skip
    have H := H.also (d := 18) (u := .bool (decide ((1 : Int) ≥ n))) (v := .bool true) (by kernel_rfl) (congrArg Value.bool (hg1))
    have hg1' := of_decide_eq_true hg1
    refine st_run 4 3 0 [(21, .bool true), (20, undef), (19, undef)] H (by kernel_rfl) fun a H => ?_
    refine ops_end _ ?_
    refine st_true H (by kernel_rfl) ?_
    refine WK.exit (k' := _) rfl ?_
    refine WK.seq ?_
    refine st_text 4 rfl ?_
    refine st_run 0 4 0 [(6, .bool false), (47, .bool false), (46, .int .i64 0), (45, .int .i64 0)] H (by kernel_rfl) fun a H => ?_
    refine ops_end _ ?_
    refine st_ret (vs := [.bool false]) H Tryd.func114 rfl (.tmp (by kernel_rfl) (.nil)) ?_
    have X := H.sat
    exact ⟨rfl, X⟩
  · skip
    have H := H.also (d := 18) (u := .bool (decide ((1 : Int) ≥ n))) (v := .bool false) (by kernel_rfl) (congrArg Value.bool (hg1))
    have hg1' := of_decide_eq_false hg1
    exfalso; omega

/-- (wharfage/rpc.due).Swap -/
theorem due_swap0 {e w : World} {R : Hp} {L : List HP} (g0 : Nat) (cap : Nat) (p : Nat) (cur : Array Value) (hcur : cur[0]? = some (.pointer (some ⟨p, 0, none⟩))) (X : Sat e w R (blkC g0 cur 125 :: L)) :
    Calls Tryd.prog 218 #[.slice (some ⟨g0, 0, none⟩) 1 cap, .int .i64 0, .int .i64 0] w (Ret fun v w' => ∃ cur' : Array Value, (cur'[0]? = some (.pointer (some ⟨p, 0, none⟩))) ∧ Sat e w' R (blkC g0 cur' 125 :: L)) := by
  refine enter (n := 20) (args := [.slice (some ⟨g0, 0, none⟩) 1 cap, .int .i64 0, .int .i64 0]) Tryd.func218 rfl rfl rfl X (fun a H => ?_)
  refine st_floatsM [true] [.mv 0, .mv 1, .mv 2, .mv 3, .mv 4, .mv 5, .mv 6, .tk 7, .mv 8, .mv 9, .mv 10, .tk 11, .mv 12, .op 13, .mv 14, .op 15] rfl (by kernel_rfl) (by kernel_rfl) (by kernel_rfl) H ?_
  refine z_mv 0 (d := 6) (.slice (some ⟨g0, 0, none⟩) 1 cap) (IsVal.of_run rfl fun w => (by kernel_rfl)) (by kernel_rfl) ?_
  refine z_mv 1 (d := 7) (.int .i64 0) (IsVal.of_run rfl fun w => (by kernel_rfl)) (by kernel_rfl) ?_
  refine z_mv 2 (d := 8) (.slice (some ⟨g0, 0, none⟩) 1 cap) (IsVal.of_run rfl fun w => (by kernel_rfl)) (by kernel_rfl) ?_
  refine z_mv 3 (d := 9) (.int .i64 0) (IsVal.of_run rfl fun w => (by kernel_rfl)) (by kernel_rfl) ?_
  refine z_mv 4 (d := 10) (.slice (some ⟨g0, 0, none⟩) 1 cap) (IsVal.of_run rfl fun w => (by kernel_rfl)) (by kernel_rfl) ?_
  refine z_mv 5 (d := 11) (.int .i64 0) (IsVal.of_run rfl fun w => (by kernel_rfl)) (by kernel_rfl) ?_
  refine z_mv 6 (d := 12) (.pointer (some ⟨g0, 0, none⟩)) (IsVal.of_run rfl fun w => (by kernel_rfl)) (by kernel_rfl) ?_
  refine z_tk 7 (d := 13) (.pointer (some ⟨p, 0, none⟩)) (val_ld (k := 0) (t := 125) (off := 0) rfl (by kernel_rfl) rfl (loadF_at rfl hcur)) (by kernel_rfl) ?_
  refine z_mv 8 (d := 14) (.slice (some ⟨g0, 0, none⟩) 1 cap) (IsVal.of_run rfl fun w => (by kernel_rfl)) (by kernel_rfl) ?_
  refine z_mv 9 (d := 15) (.int .i64 0) (IsVal.of_run rfl fun w => (by kernel_rfl)) (by kernel_rfl) ?_
  refine z_mv 10 (d := 16) (.pointer (some ⟨g0, 0, none⟩)) (IsVal.of_run rfl fun w => (by kernel_rfl)) (by kernel_rfl) ?_
  refine z_tk 11 (d := 17) (.pointer (some ⟨p, 0, none⟩)) (val_ld (k := 0) (t := 125) (off := 0) rfl (by kernel_rfl) rfl (loadF_at rfl hcur)) (by kernel_rfl) ?_
  refine z_mv 12 (d := 18) (.pointer (some ⟨g0, 0, none⟩)) (IsVal.of_run rfl fun w => (by kernel_rfl)) (by kernel_rfl) ?_
  refine z_op 13 rfl fun a w Z H => ?_
  refine op_storeC (k := 0) (t := 125) (off := 0) (v := .pointer (some ⟨p, 0, none⟩)) H rfl (by kernel_rfl) rfl rfl rfl (by first | exact get_lt hcur | simpa using get_lt hcur) fun a w H => ?_
  refine z_last (blkC g0 ((cur).setIfInBounds 0 (.pointer (some ⟨p, 0, none⟩))) 125 :: L) H (by kernel_rfl) ?_
  refine z_mv 14 (d := 19) (.pointer (some ⟨g0, 0, none⟩)) (IsVal.of_run rfl fun w => (by kernel_rfl)) (by kernel_rfl) ?_
  refine z_op 15 rfl fun a w Z H => ?_
  refine op_storeC (k := 0) (t := 125) (off := 0) (v := .pointer (some ⟨p, 0, none⟩)) H rfl (by kernel_rfl) rfl rfl rfl (by first | exact get_lt hcur | simpa using get_lt hcur) fun a w H => ?_
  refine z_last (blkC g0 (((cur).setIfInBounds 0 (.pointer (some ⟨p, 0, none⟩))).setIfInBounds 0 (.pointer (some ⟨p, 0, none⟩))) 125 :: L) H (by kernel_rfl) ?_
  refine z_end [] fun a w H => ?_
  refine st_end (vs := []) H Tryd.func218 rfl (.nil) ?_
  have X := H.sat
  exact ⟨_, by simp [Array.getElem?_setIfInBounds, get_lt hcur], X⟩

/-- (*wharfage/rpc.due).Push -/
theorem due_push {e w : World} {R : Hp} {L : List HP} (b : Nat) (p : Nat) (cl : Int) (inc : Int) (seq : Int) (X : Sat e w R (blk b (.cells #[.int .u8 cl, .int .u32 inc, .int .u64 seq, .slice none 0 0] 68) :: L)) :
    Calls Tryd.prog 220 #[.pointer (some ⟨b, 3, none⟩), .iface 125 (.pointer (some ⟨p, 0, none⟩))] w (Ret fun v w' => ∃ g0 : Nat, ∃ cap : Nat, ∃ cur : Array Value, (cur[0]? = some (.pointer (some ⟨p, 0, none⟩))) ∧ (1 ≤ cap) ∧ Sat e w' R (blk b (.cells #[.int .u8 cl, .int .u32 inc, .int .u64 seq, .slice (some ⟨g0, 0, none⟩) 1 cap] 68) :: blkC g0 cur 125 :: L)) := by
  refine enter (n := 13) (args := [.pointer (some ⟨b, 3, none⟩), .iface 125 (.pointer (some ⟨p, 0, none⟩))]) Tryd.func220 rfl rfl rfl X (fun a H => ?_)
  refine st_floatsM [true] [.mv 0, .mv 1, .mv 2, .tk 3, .mv 4, .tk 5, .op 6, .op 7, .mv 8, .op 9] rfl (by kernel_rfl) (by kernel_rfl) (by kernel_rfl) H ?_
  refine z_mv 0 (d := 4) (.pointer (some ⟨b, 3, none⟩)) (IsVal.of_run rfl fun w => (by kernel_rfl)) (by kernel_rfl) ?_
  refine z_mv 1 (d := 5) (.pointer (some ⟨b, 3, none⟩)) (IsVal.of_run rfl fun w => (by kernel_rfl)) (by kernel_rfl) ?_
  refine z_mv 2 (d := 6) (.pointer (some ⟨b, 3, none⟩)) (IsVal.of_run rfl fun w => (by kernel_rfl)) (by kernel_rfl) ?_
  refine z_tk 3 (d := 7) (.slice none 0 0) (val_ld (k := 0) (t := 66) (off := 3) rfl (by kernel_rfl) rfl (by kernel_rfl)) (by kernel_rfl) ?_
  refine z_mv 4 (d := 8) (.iface 125 (.pointer (some ⟨p, 0, none⟩))) (IsVal.of_run rfl fun w => (by kernel_rfl)) (by kernel_rfl) ?_
  refine z_tk 5 (d := 9) (.pointer (some ⟨p, 0, none⟩)) (IsVal.of_run rfl fun w => (by kernel_rfl)) (by kernel_rfl) ?_
  refine z_op 6 rfl fun a w Z H => ?_
  refine op_new (d := 10) (vf := fun b => .slice (some ⟨b, 0, none⟩) 1 1) (ob := .cells #[.pointer (some ⟨p, 0, none⟩)] 125) H (IsNew.of_run rfl fun w => (by kernel_rfl)) fun a w b1 H => ?_
  refine z_on (blk b1 (.cells #[.pointer (some ⟨p, 0, none⟩)] 125) :: blk b (.cells #[.int .u8 cl, .int .u32 inc, .int .u64 seq, .slice none 0 0] 68) :: L) H (fun w Z X => X.mskZ [false, true] (by kernel_rfl)) (by kernel_rfl) ?_
  refine z_op 7 rfl fun a w Z H => ?_
  have H := H.with (H.sat.nil_row 125 1)
  refine op_append (d := 11) (t := 66) (m := 0) (m2 := 1) (c2 := 1) (A := some ⟨b1, 0, none⟩) (xs := []) (ys := [.pointer (some ⟨p, 0, none⟩)]) (v := .slice none 0 0) (z := .pointer none) (sz := 1) (bytes := 8) H (by kernel_rfl) rfl rfl (by kernel_rfl) rfl (by decide) (by decide) rfl (Src.of_blk (k := 1) H.sat rfl rfl) (by intro u hu; rw [List.mem_singleton] at hu; subst hu; rfl) (by decide) fun a w v H => ?_
  obtain ⟨g1, cap1, cur1, rfl, hcap1, hcap2, hcur1, X⟩ := H.sat.row_blk (by decide)
  have hcur1 := hcur1 0 _ rfl
  have H := St.mk H.sl X
  refine z_on (blkC g1 cur1 125 :: blk b1 (.cells #[.pointer (some ⟨p, 0, none⟩)] 125) :: blk b (.cells #[.int .u8 cl, .int .u32 inc, .int .u64 seq, .slice none 0 0] 68) :: L) H (fun w Z X => X.mskZ [false, false, true] (by kernel_rfl)) (by kernel_rfl) ?_
  refine z_mv 8 (d := 12) (.pointer (some ⟨b, 3, none⟩)) (IsVal.of_run rfl fun w => (by kernel_rfl)) (by kernel_rfl) ?_
  refine z_op 9 rfl fun a w Z H => ?_
  refine op_storeZ (k := 2) (t := 66) (off := 3) (v := .slice (some ⟨g1, 0, none⟩) 1 cap1) H rfl (by kernel_rfl) (by kernel_rfl) fun a w H => ?_
  refine z_last _ H (by kernel_rfl) ?_
  refine z_end [] fun a w H => ?_
  refine st_end (vs := []) H Tryd.func220 rfl (.nil) ?_
  have X := ((H.sat.msk [true, false, true]).front 1 rfl)
  exact ⟨_, _, _, hcur1, by omega, X⟩

/-- container/heap.Push -/
theorem heap_push {e w : World} {R : Hp} {L : List HP} (b : Nat) (p : Nat) (cl : Int) (inc : Int) (seq : Int) (X : Sat e w R (blk b (.cells #[.int .u8 cl, .int .u32 inc, .int .u64 seq, .slice none 0 0] 68) :: L)) :
    Calls Tryd.prog 59 #[.iface 124 (.pointer (some ⟨b, 3, none⟩)), .iface 125 (.pointer (some ⟨p, 0, none⟩))] w (Ret fun v w' => ∃ g0 : Nat, ∃ cap : Nat, ∃ cur : Array Value, (cur[0]? = some (.pointer (some ⟨p, 0, none⟩))) ∧ (1 ≤ cap) ∧ Sat e w' R (blk b (.cells #[.int .u8 cl, .int .u32 inc, .int .u64 seq, .slice (some ⟨g0, 0, none⟩) 1 cap] 68) :: blkC g0 cur 125 :: L)) := by
  refine enter (n := 12) (args := [.iface 124 (.pointer (some ⟨b, 3, none⟩)), .iface 125 (.pointer (some ⟨p, 0, none⟩))]) Tryd.func59 rfl rfl rfl X (fun a H => ?_)
  refine WK.seq ?_
  refine st_text 3 rfl ?_
  refine st_run 0 2 1 [(5, .iface 125 (.pointer (some ⟨p, 0, none⟩))), (4, .iface 124 (.pointer (some ⟨b, 3, none⟩)))] H (by kernel_rfl) fun a H => ?_
  refine st_op 2 0 (op_call (d := 6) H (by kernel_rfl) rfl (due_push b p cl inc seq H.sat) fun a v w q F => ?_)
  obtain ⟨x_1, x_2, x_3, hf1, hf2, X⟩ := q
  have H := St.mk F X
  refine ops_end _ ?_
  refine st_text 5 rfl ?_
  refine st_run 0 2 3 [(8, .iface 124 (.pointer (some ⟨b, 3, none⟩))), (7, .iface 124 (.pointer (some ⟨b, 3, none⟩)))] H (by kernel_rfl) fun a H => ?_
  refine st_op 2 2 (op_invoke (d := 9) (t := 124) (f := 216) (el := 66) (b := b) (off := 3) (v := .slice (some ⟨x_1, 0, none⟩) 1 x_2) (name := "Len") (args := []) (k := 0) H (by kernel_rfl) rfl (by kernel_rfl) (by kernel_rfl) rfl (by kernel_rfl) (due_len (some ⟨x_1, 0, none⟩) 1 x_2 H.sat) fun a v w q F => ?_)
  obtain ⟨rfl, X⟩ := q
  have H := St.mk F X
  refine st_run 3 1 1 [(10, .int .i64 0)] H (by kernel_rfl) fun a H => ?_
  refine st_op 4 0 (op_call (d := 11) H (by kernel_rfl) rfl (heap_up0 b x_1 x_2 cl inc seq H.sat) fun a v w q F => ?_)
  have X := q
  have H := St.mk F X
  refine ops_end _ ?_
  refine st_end (vs := []) H Tryd.func59 rfl (.nil) ?_
  have X := ((H.sat.front 1 rfl).front 1 rfl)
  exact ⟨_, _, _, hf1, by omega, X⟩

/-- container/heap.Fix -/
theorem heap_fix {e w : World} {R : Hp} {L : List HP} (b : Nat) (g0 : Nat) (cap : Nat) (cl : Int) (inc : Int) (seq : Int) (X : Sat e w R (blk b (.cells #[.int .u8 cl, .int .u32 inc, .int .u64 seq, .slice (some ⟨g0, 0, none⟩) 1 cap] 68) :: L)) :
    Calls Tryd.prog 61 #[.iface 124 (.pointer (some ⟨b, 3, none⟩)), .int .i64 0] w (Ret fun v w' => Sat e w' R (blk b (.cells #[.int .u8 cl, .int .u32 inc, .int .u64 seq, .slice (some ⟨g0, 0, none⟩) 1 cap] 68) :: L)) := by
  refine enter (n := 13) (args := [.iface 124 (.pointer (some ⟨b, 3, none⟩)), .int .i64 0]) Tryd.func61 rfl rfl rfl X (fun a H => ?_)
  refine WK.seq ?_
  refine st_text 6 rfl ?_
  refine st_run 0 3 3 [(6, .iface 124 (.pointer (some ⟨b, 3, none⟩))), (5, .int .i64 0), (4, .iface 124 (.pointer (some ⟨b, 3, none⟩)))] H (by kernel_rfl) fun a H => ?_
  refine st_op 3 2 (op_invoke (d := 7) (t := 124) (f := 216) (el := 66) (b := b) (off := 3) (v := .slice (some ⟨g0, 0, none⟩) 1 cap) (name := "Len") (args := []) (k := 0) H (by kernel_rfl) rfl (by kernel_rfl) (by kernel_rfl) rfl (by kernel_rfl) (due_len (some ⟨g0, 0, none⟩) 1 cap H.sat) fun a v w q F => ?_)
  obtain ⟨rfl, X⟩ := q
  have H := St.mk F X
  refine st_op 4 1 (op_call (d := 8) H (by kernel_rfl) rfl (heap_down b g0 cap cl inc seq 1 (by first | assumption | omega) H.sat) fun a v w q F => ?_)
  obtain ⟨rfl, X⟩ := q
  have H := St.mk F X
  refine st_run 5 1 0 [(9, .bool true)] H (by kernel_rfl) fun a H => ?_
  refine ops_end _ ?_
  refine st_true H (by kernel_rfl) ?_
  refine st_text 3 rfl ?_
  refine st_run 0 2 1 [(11, .int .i64 0), (10, .iface 124 (.pointer (some ⟨b, 3, none⟩)))] H (by kernel_rfl) fun a H => ?_
  refine st_op 2 0 (op_call (d := 12) H (by kernel_rfl) rfl (heap_up0 b g0 cap cl inc seq H.sat) fun a v w q F => ?_)
  have X := q
  have H := St.mk F X
  refine ops_end _ ?_
  refine st_end (vs := []) H Tryd.func61 rfl (.nil) ?_
  have X := H.sat
  exact X

/-- (*wharfage/rpc.due).Pop -/
theorem due_pop {e w : World} {R : Hp} {L : List HP} (b : Nat) (g0 : Nat) (cap : Nat) (p : Nat) (cur : Array Value) (cl : Int) (inc : Int) (seq : Int) (hcur : cur[0]? = some (.pointer (some ⟨p, 0, none⟩))) (hcap : 1 ≤ cap) (X : Sat e w R (blk b (.cells #[.int .u8 cl, .int .u32 inc, .int .u64 seq, .slice (some ⟨g0, 0, none⟩) 1 cap] 68) :: blkC g0 cur 125 :: L)) :
    Calls Tryd.prog 219 #[.pointer (some ⟨b, 3, none⟩)] w (Ret fun v w' => ∃ A1 : Option Addr, v = .iface 125 (.pointer (some ⟨p, 0, none⟩)) ∧ Sat e w' R (blk b (.cells #[.int .u8 cl, .int .u32 inc, .int .u64 seq, .slice A1 0 cap] 68) :: L)) := by
  refine enter (n := 27) (args := [.pointer (some ⟨b, 3, none⟩)]) Tryd.func219 rfl rfl rfl X (fun a H => ?_)
  refine WK.seq ?_
  refine st_text 1 rfl ?_
  refine st_run 0 1 0 [(2, .nilIface)] H (by kernel_rfl) fun a H => ?_
  refine ops_end _ ?_
  refine WK.seq ?_
  refine st_floatsM [true, true] [.mv 0, .mv 1, .tk 2, .mv 3, .mv 4, .tk 5, .mv 6, .mv 7, .mv 8, .tk 9, .mv 10] rfl (by kernel_rfl) (by kernel_rfl) (by kernel_rfl) H ?_
  refine z_mv 0 (d := 4) (.pointer (some ⟨b, 3, none⟩)) (IsVal.of_run rfl fun w => (by kernel_rfl)) (by kernel_rfl) ?_
  refine z_mv 1 (d := 5) (.pointer (some ⟨b, 3, none⟩)) (IsVal.of_run rfl fun w => (by kernel_rfl)) (by kernel_rfl) ?_
  refine z_tk 2 (d := 6) (.slice (some ⟨g0, 0, none⟩) 1 cap) (val_ld (k := 0) (t := 66) (off := 3) rfl (by kernel_rfl) rfl (by kernel_rfl)) (by kernel_rfl) ?_
  refine z_mv 3 (d := 7) (.pointer (some ⟨b, 3, none⟩)) (IsVal.of_run rfl fun w => (by kernel_rfl)) (by kernel_rfl) ?_
  refine z_mv 4 (d := 8) (.pointer (some ⟨b, 3, none⟩)) (IsVal.of_run rfl fun w => (by kernel_rfl)) (by kernel_rfl) ?_
  refine z_tk 5 (d := 9) (.slice (some ⟨g0, 0, none⟩) 1 cap) (val_ld (k := 0) (t := 66) (off := 3) rfl (by kernel_rfl) rfl (by kernel_rfl)) (by kernel_rfl) ?_
  refine z_mv 6 (d := 10) (.int .i64 1) (IsVal.of_run rfl fun w => (by kernel_rfl)) (by kernel_rfl) ?_
  refine z_mv 7 (d := 11) (.int .i64 0) (IsVal.of_run rfl fun w => (by kernel_rfl)) (by kernel_rfl) ?_
  refine z_mv 8 (d := 12) (.pointer (some ⟨g0, 0, none⟩)) (IsVal.of_run rfl fun w => (by kernel_rfl)) (by kernel_rfl) ?_
  refine z_tk 9 (d := 13) (.pointer (some ⟨p, 0, none⟩)) (val_ld (k := 1) (t := 125) (off := 0) rfl (by kernel_rfl) rfl (loadF_at rfl hcur)) (by kernel_rfl) ?_
  refine z_mv 10 (d := 3) (.pointer (some ⟨p, 0, none⟩)) (IsVal.of_run rfl fun w => (by kernel_rfl)) (by kernel_rfl) ?_
  refine z_end [] fun a w H => ?_
  refine WK.seq ?_
  refine st_floatsM [true, false] [.mv 0, .mv 1, .mv 2, .tk 3, .mv 4, .mv 5, .tk 6, .mv 7, .mv 8, .mv 9, .mv 10, .op 11] rfl (by kernel_rfl) (by kernel_rfl) (by kernel_rfl) H ?_
  refine z_mv 0 (d := 14) (.pointer (some ⟨b, 3, none⟩)) (IsVal.of_run rfl fun w => (by kernel_rfl)) (by kernel_rfl) ?_
  refine z_mv 1 (d := 15) (.pointer (some ⟨b, 3, none⟩)) (IsVal.of_run rfl fun w => (by kernel_rfl)) (by kernel_rfl) ?_
  refine z_mv 2 (d := 16) (.pointer (some ⟨b, 3, none⟩)) (IsVal.of_run rfl fun w => (by kernel_rfl)) (by kernel_rfl) ?_
  refine z_tk 3 (d := 17) (.slice (some ⟨g0, 0, none⟩) 1 cap) (val_ld (k := 0) (t := 66) (off := 3) rfl (by kernel_rfl) rfl (by kernel_rfl)) (by kernel_rfl) ?_
  refine z_mv 4 (d := 18) (.pointer (some ⟨b, 3, none⟩)) (IsVal.of_run rfl fun w => (by kernel_rfl)) (by kernel_rfl) ?_
  refine z_mv 5 (d := 19) (.pointer (some ⟨b, 3, none⟩)) (IsVal.of_run rfl fun w => (by kernel_rfl)) (by kernel_rfl) ?_
  refine z_tk 6 (d := 20) (.slice (some ⟨g0, 0, none⟩) 1 cap) (val_ld (k := 0) (t := 66) (off := 3) rfl (by kernel_rfl) rfl (by kernel_rfl)) (by kernel_rfl) ?_
  refine z_mv 7 (d := 21) (.int .i64 1) (IsVal.of_run rfl fun w => (by kernel_rfl)) (by kernel_rfl) ?_
  refine z_mv 8 (d := 22) (.int .i64 0) (IsVal.of_run rfl fun w => (by kernel_rfl)) (by kernel_rfl) ?_
  refine z_mv 9 (d := 23) (.slice (subA (some ⟨g0, 0, none⟩) cap 0 1) 0 cap) (val_slice (t := 66) (A := some ⟨g0, 0, none⟩) (m := 1) (c := cap) none (some (.i64, 0, 0)) (by kernel_rfl) rfl rfl (trivial) (by first | rfl | (simp only [loOk]; omega)) (by simp only [loN]; omega) (by simp only [loN]; omega)) (by kernel_rfl) ?_
  refine z_mv 10 (d := 24) (.pointer (some ⟨b, 3, none⟩)) (IsVal.of_run rfl fun w => (by kernel_rfl)) (by kernel_rfl) ?_
  refine z_op 11 rfl fun a w Z H => ?_
  refine op_storeZ (k := 0) (t := 66) (off := 3) (v := .slice (subA (some ⟨g0, 0, none⟩) cap 0 1) 0 cap) H rfl (by kernel_rfl) (by kernel_rfl) fun a w H => ?_
  refine z_last _ H (by kernel_rfl) ?_
  refine z_end [] fun a w H => ?_
  refine WK.seq ?_
  refine st_text 3 rfl ?_
  refine st_run 0 3 0 [(2, .iface 125 (.pointer (some ⟨p, 0, none⟩))), (26, .iface 125 (.pointer (some ⟨p, 0, none⟩))), (25, .pointer (some ⟨p, 0, none⟩))] H (by kernel_rfl) fun a H => ?_
  refine ops_end _ ?_
  refine st_ret (vs := [.iface 125 (.pointer (some ⟨p, 0, none⟩))]) H Tryd.func219 rfl (.tmp (by kernel_rfl) (.nil)) ?_
  have X := (H.sat.msk [true, false])
  exact ⟨_, rfl, X⟩

/-- container/heap.Pop -/
theorem heap_pop {e w : World} {R : Hp} {L : List HP} (b : Nat) (g0 : Nat) (cap : Nat) (p : Nat) (cur : Array Value) (cl : Int) (inc : Int) (seq : Int) (hcur : cur[0]? = some (.pointer (some ⟨p, 0, none⟩))) (hcap : 1 ≤ cap) (X : Sat e w R (blk b (.cells #[.int .u8 cl, .int .u32 inc, .int .u64 seq, .slice (some ⟨g0, 0, none⟩) 1 cap] 68) :: blkC g0 cur 125 :: L)) :
    Calls Tryd.prog 68 #[.iface 124 (.pointer (some ⟨b, 3, none⟩))] w (Ret fun v w' => ∃ A1 : Option Addr, v = .iface 125 (.pointer (some ⟨p, 0, none⟩)) ∧ Sat e w' R (blk b (.cells #[.int .u8 cl, .int .u32 inc, .int .u64 seq, .slice A1 0 cap] 68) :: L)) := by
  refine enter (n := 15) (args := [.iface 124 (.pointer (some ⟨b, 3, none⟩))]) Tryd.func68 rfl rfl rfl X (fun a H => ?_)
  refine WK.seq ?_
  refine st_text 1 rfl ?_
  refine st_run 0 1 0 [(2, .nilIface)] H (by kernel_rfl) fun a H => ?_
  refine ops_end _ ?_
  refine WK.seq ?_
  refine st_text 4 rfl ?_
  refine st_run 0 1 3 [(4, .iface 124 (.pointer (some ⟨b, 3, none⟩)))] H (by kernel_rfl) fun a H => ?_
  refine st_op 1 2 (op_invoke (d := 5) (t := 124) (f := 216) (el := 66) (b := b) (off := 3) (v := .slice (some ⟨g0, 0, none⟩) 1 cap) (name := "Len") (args := []) (k := 0) H (by kernel_rfl) rfl (by kernel_rfl) (by kernel_rfl) rfl (by kernel_rfl) (due_len (some ⟨g0, 0, none⟩) 1 cap H.sat) fun a v w q F => ?_)
  obtain ⟨rfl, X⟩ := q
  have H := St.mk F X
  refine st_run 2 2 0 [(3, .int .i64 0), (6, .int .i64 0)] H (by kernel_rfl) fun a H => ?_
  refine ops_end _ ?_
  refine WK.seq ?_
  refine st_text 3 rfl ?_
  refine st_run 0 2 1 [(8, .int .i64 0), (7, .iface 124 (.pointer (some ⟨b, 3, none⟩)))] H (by kernel_rfl) fun a H => ?_
  refine st_op 2 0 (op_invoke (d := 9) (t := 124) (f := 218) (el := 66) (b := b) (off := 3) (v := .slice (some ⟨g0, 0, none⟩) 1 cap) (name := "Swap") (args := [.int .i64 0, .int .i64 0]) (k := 0) H (by kernel_rfl) rfl (by kernel_rfl) (by kernel_rfl) rfl (by kernel_rfl) (due_swap0 g0 cap p _ (by assumption) (H.sat.front 1 rfl)) fun a v w q F => ?_)
  obtain ⟨x_1, hf1, X⟩ := q
  have H := St.mk F X
  refine ops_end _ ?_
  refine WK.seq ?_
  refine st_text 3 rfl ?_
  refine st_run 0 2 1 [(11, .int .i64 0), (10, .iface 124 (.pointer (some ⟨b, 3, none⟩)))] H (by kernel_rfl) fun a H => ?_
  refine st_op 2 0 (op_call (d := 12) H (by kernel_rfl) rfl (heap_down b g0 cap cl inc seq 0 (by first | assumption | omega) (H.sat.front 1 rfl)) fun a v w q F => ?_)
  obtain ⟨rfl, X⟩ := q
  have H := St.mk F X
  refine ops_end _ ?_
  refine WK.seq ?_
  refine st_text 3 rfl ?_
  refine st_run 0 1 2 [(13, .iface 124 (.pointer (some ⟨b, 3, none⟩)))] H (by kernel_rfl) fun a H => ?_
  refine st_op 1 1 (op_call (d := 14) H (by kernel_rfl) rfl (due_pop b g0 cap p _ cl inc seq (by assumption) (by first | assumption | omega) ((H.sat.front 1 rfl).front 1 rfl)) fun a v w q F => ?_)
  obtain ⟨X_1, rfl, X⟩ := q
  have H := St.mk F X
  refine st_run 2 1 0 [(2, .iface 125 (.pointer (some ⟨p, 0, none⟩)))] H (by kernel_rfl) fun a H => ?_
  refine ops_end _ ?_
  refine st_ret (vs := [.iface 125 (.pointer (some ⟨p, 0, none⟩))]) H Tryd.func68 rfl (.tmp (by kernel_rfl) (.nil)) ?_
  have X := H.sat
  exact ⟨_, rfl, X⟩
end Go.Proofs.YtldnpolfcickaaaDoor
