/- Numbers as bytes. -/
import Derived.Test.YtldnpolfcickaaaDoorRpc1
set_option linter.unusedVariables false
set_option linter.unusedSimpArgs false
set_option maxRecDepth 100000
set_option maxHeartbeats 1000000
namespace Go.Proofs.YtldnpolfcickaaaDoor
open Go Go.WH

/-- (*wharfage/rpc.Line).Call -/
theorem rpc_call_nil {e w : World} {R : Hp} {L : List HP} (c : CallS) (A : Option Addr) (k : Nat) (now : Int) (X : Sat e w R (L)) :
    Calls Tryd.prog 21 #[.pointer none, .agg #[.int .u8 c.client, .int .u32 c.inc, .int .u64 c.seq, .int .u8 c.kind, .int .u32 c.ino, .int .u32 c.gen, .string c.name, .int .u32 c.toIno, .int .u32 c.toGen, .string c.toName, .int .u32 c.off, .int .u32 c.size, .slice A c.data.length k], .int .u64 now] w (Ret fun v w' => v = .int .i64 1 ∧ Sat e w' R (L)) := by
  refine enter (n := 61) (args := [.pointer none, .agg #[.int .u8 c.client, .int .u32 c.inc, .int .u64 c.seq, .int .u8 c.kind, .int .u32 c.ino, .int .u32 c.gen, .string c.name, .int .u32 c.toIno, .int .u32 c.toGen, .string c.toName, .int .u32 c.off, .int .u32 c.size, .slice A c.data.length k], .int .u64 now]) Tryd.func21 rfl rfl rfl X (fun a H => ?_)
  refine WK.seq ?_
  refine st_text 2 rfl ?_
  refine st_op 0 1 (op_new (d := 4) (vf := fun b => .pointer (some ⟨b, 0, none⟩)) (ob := .cells #[.int .u8 c.client, .int .u32 c.inc, .int .u64 c.seq, .int .u8 c.kind, .int .u32 c.ino, .int .u32 c.gen, .string c.name, .int .u32 c.toIno, .int .u32 c.toGen, .string c.toName, .int .u32 c.off, .int .u32 c.size, .slice A c.data.length k] 28) H (IsNew.of_run rfl fun w => (by kernel_rfl)) fun a w b1 H => ?_)
  refine st_run 1 1 0 [(6, .int .i64 0)] H (by kernel_rfl) fun a H => ?_
  refine ops_end _ ?_
  refine WK.seq ?_
  refine WK.seq ?_
  refine st_text 2 rfl ?_
  refine st_run 0 1 1 [(7, .pointer none)] H (by kernel_rfl) fun a H => ?_
  refine st_op 1 0 (op_call (d := 8) H (by kernel_rfl) rfl (rpc_none_nil H.sat) fun a v w q F => ?_)
  obtain ⟨rfl, X⟩ := q
  have H := St.mk F X
  refine ops_end _ ?_
  refine st_true H (by kernel_rfl) ?_
  refine WK.seq ?_
  refine st_text 1 rfl ?_
  refine st_run 0 1 0 [(6, .int .i64 1)] H (by kernel_rfl) fun a H => ?_
  refine ops_end _ ?_
  refine st_ret (vs := [.int .i64 1]) H Tryd.func21 rfl (.tmp (by kernel_rfl) (.nil)) ?_
  have X := (H.sat.msk [false])
  exact ⟨rfl, X⟩

/-- (*wharfage/rpc.Line).Call -/
theorem rpc_call_zero {e w : World} {R : Hp} {L : List HP} (c : CallS) (A : Option Addr) (k : Nat) (now : Int) (b : Nat) (cl : Int) (seq : Int) (X : Sat e w R (blk b (.cells #[.int .u8 cl, .int .u32 0, .int .u64 seq, .slice none 0 0] 68) :: L)) :
    Calls Tryd.prog 21 #[.pointer (some ⟨b, 0, none⟩), .agg #[.int .u8 c.client, .int .u32 c.inc, .int .u64 c.seq, .int .u8 c.kind, .int .u32 c.ino, .int .u32 c.gen, .string c.name, .int .u32 c.toIno, .int .u32 c.toGen, .string c.toName, .int .u32 c.off, .int .u32 c.size, .slice A c.data.length k], .int .u64 now] w (Ret fun v w' => v = .int .i64 1 ∧ Sat e w' R (blk b (.cells #[.int .u8 cl, .int .u32 0, .int .u64 seq, .slice none 0 0] 68) :: L)) := by
  refine enter (n := 61) (args := [.pointer (some ⟨b, 0, none⟩), .agg #[.int .u8 c.client, .int .u32 c.inc, .int .u64 c.seq, .int .u8 c.kind, .int .u32 c.ino, .int .u32 c.gen, .string c.name, .int .u32 c.toIno, .int .u32 c.toGen, .string c.toName, .int .u32 c.off, .int .u32 c.size, .slice A c.data.length k], .int .u64 now]) Tryd.func21 rfl rfl rfl X (fun a H => ?_)
  refine WK.seq ?_
  refine st_text 2 rfl ?_
  refine st_op 0 1 (op_new (d := 4) (vf := fun b => .pointer (some ⟨b, 0, none⟩)) (ob := .cells #[.int .u8 c.client, .int .u32 c.inc, .int .u64 c.seq, .int .u8 c.kind, .int .u32 c.ino, .int .u32 c.gen, .string c.name, .int .u32 c.toIno, .int .u32 c.toGen, .string c.toName, .int .u32 c.off, .int .u32 c.size, .slice A c.data.length k] 28) H (IsNew.of_run rfl fun w => (by kernel_rfl)) fun a w b1 H => ?_)
  refine st_run 1 1 0 [(6, .int .i64 0)] H (by kernel_rfl) fun a H => ?_
  refine ops_end _ ?_
  refine WK.seq ?_
  refine WK.seq ?_
  refine st_text 2 rfl ?_
  refine st_run 0 1 1 [(7, .pointer (some ⟨b, 0, none⟩))] H (by kernel_rfl) fun a H => ?_
  refine st_op 1 0 (op_call (d := 8) H (by kernel_rfl) rfl (rpc_none b cl 0 seq none 0 0 (H.sat.front 1 rfl)) fun a v w q F => ?_)
  obtain ⟨rfl, X⟩ := q
  have H := St.mk F X
  refine ops_end _ ?_
  have hk1 : ((0 : Int) == 0) = true := by kernel_rfl
  have H := H.also (d := 8) (u := .bool ((0 : Int) == 0)) (v := .bool true) (by kernel_rfl) (congrArg Value.bool (hk1))
  refine st_true H (by kernel_rfl) ?_
  refine WK.seq ?_
  refine st_text 1 rfl ?_
  refine st_run 0 1 0 [(6, .int .i64 1)] H (by kernel_rfl) fun a H => ?_
  refine ops_end _ ?_
  refine st_ret (vs := [.int .i64 1]) H Tryd.func21 rfl (.tmp (by kernel_rfl) (.nil)) ?_
  have X := (H.sat.msk [true, false])
  exact ⟨rfl, X⟩

/-- (*wharfage/rpc.Line).Call -/
theorem rpc_call {e w : World} {R : Hp} {L : List HP} (b : Nat) (cl : Int) (inc : Int) (seq : Int) (c : CallS) (A : Option Addr) (k : Nat) (now : Int) (wf : c.Wf) (hd : RdB R A k c.data) (hT : Tabs 0 1 R) (hb : c.data.length ≤ 140737488355328) (h1 : 0 ≤ cl ∧ cl ≤ 255) (h2 : 0 < inc ∧ inc ≤ 4294967295) (h3 : 0 ≤ seq ∧ seq ≤ 1000000) (h4 : 0 ≤ now ∧ now ≤ 18446744073709551615) (X : Sat e w R (blk b (.cells #[.int .u8 cl, .int .u32 inc, .int .u64 seq, .slice none 0 0] 68) :: L)) :
    Calls Tryd.prog 21 #[.pointer (some ⟨b, 0, none⟩), .agg #[.int .u8 c.client, .int .u32 c.inc, .int .u64 c.seq, .int .u8 c.kind, .int .u32 c.ino, .int .u32 c.gen, .string c.name, .int .u32 c.toIno, .int .u32 c.toGen, .string c.toName, .int .u32 c.off, .int .u32 c.size, .slice A c.data.length k], .int .u64 now] w (Ret fun v w' => (∃ R', R.Le R' ∧ (now ≤ 1099511627776 → mayP (callAs c cl inc (seq + 1)) = false) ∧ v = .int .i64 2 ∧ Sat e w' R' (blk b (.cells #[.int .u8 cl, .int .u32 inc, .int .u64 seq, .slice none 0 0] 68) :: L)) ∨ (∃ R', R.Le R' ∧ ∃ g0 : Nat, ∃ p : Nat, ∃ cap : Nat, ∃ cur : Array Value, ∃ A1 : Option Addr, ∃ k1 : Nat, (cur[0]? = some (.pointer (some ⟨p, 0, none⟩))) ∧ (mayP (callAs c cl inc (seq + 1)) = true) ∧ (RdB R' A1 k1 (callAs c cl inc (seq + 1)).data) ∧ (1 ≤ cap) ∧ v = .int .i64 0 ∧ Sat e w' R' (blk b (.cells #[.int .u8 cl, .int .u32 inc, .int .u64 (seq + 1), .slice (some ⟨g0, 0, none⟩) 1 cap] 68) :: blkC g0 cur 125 :: blk p (.cells #[.int .u8 ((callAs c cl inc (seq + 1)).client), .int .u32 ((callAs c cl inc (seq + 1)).inc), .int .u64 ((callAs c cl inc (seq + 1)).seq), .int .u8 ((callAs c cl inc (seq + 1)).kind), .int .u32 ((callAs c cl inc (seq + 1)).ino), .int .u32 ((callAs c cl inc (seq + 1)).gen), .string ((callAs c cl inc (seq + 1)).name), .int .u32 ((callAs c cl inc (seq + 1)).toIno), .int .u32 ((callAs c cl inc (seq + 1)).toGen), .string ((callAs c cl inc (seq + 1)).toName), .int .u32 ((callAs c cl inc (seq + 1)).off), .int .u32 ((callAs c cl inc (seq + 1)).size), .slice A1 ((callAs c cl inc (seq + 1)).data.length) k1, .int .u64 now, .int .u64 2, .int .i64 0] 70) :: L))) := by
  obtain ⟨w1, w2, w3, w4, w5, w6, w7, w8, w9, w10⟩ := wf
  refine enter (n := 61) (args := [.pointer (some ⟨b, 0, none⟩), .agg #[.int .u8 c.client, .int .u32 c.inc, .int .u64 c.seq, .int .u8 c.kind, .int .u32 c.ino, .int .u32 c.gen, .string c.name, .int .u32 c.toIno, .int .u32 c.toGen, .string c.toName, .int .u32 c.off, .int .u32 c.size, .slice A c.data.length k], .int .u64 now]) Tryd.func21 rfl rfl rfl X (fun a H => ?_)
  refine WK.seq ?_
  refine st_text 2 rfl ?_
  refine st_op 0 1 (op_new (d := 4) (vf := fun b => .pointer (some ⟨b, 0, none⟩)) (ob := .cells #[.int .u8 c.client, .int .u32 c.inc, .int .u64 c.seq, .int .u8 c.kind, .int .u32 c.ino, .int .u32 c.gen, .string c.name, .int .u32 c.toIno, .int .u32 c.toGen, .string c.toName, .int .u32 c.off, .int .u32 c.size, .slice A c.data.length k] 28) H (IsNew.of_run rfl fun w => (by kernel_rfl)) fun a w b1 H => ?_)
  refine st_run 1 1 0 [(6, .int .i64 0)] H (by kernel_rfl) fun a H => ?_
  refine ops_end _ ?_
  refine WK.seq ?_
  refine WK.seq ?_
  refine st_text 2 rfl ?_
  refine st_run 0 1 1 [(7, .pointer (some ⟨b, 0, none⟩))] H (by kernel_rfl) fun a H => ?_
  refine st_op 1 0 (op_call (d := 8) H (by kernel_rfl) rfl (rpc_none b cl inc seq none 0 0 (H.sat.front 1 rfl)) fun a v w q F => ?_)
  obtain ⟨rfl, X⟩ := q
  have H := St.mk F X
  refine ops_end _ ?_
  refine st_cond ((inc : Int) == 0) H (by kernel_rfl) ?_ ?_
  · intro hc1
    have hc1' := eq_of_beq hc1
    exfalso; omega
  · intro hc1
    have hc1' := neB hc1
    refine WK.skip ?_
    refine WK.seq ?_
    refine st_floatsM [true, false] [.mv 0, .mv 1, .mv 2, .tk 3, .mv 4, .mv 5, .mv 6, .tk 7, .mv 8, .mv 9, .mv 10, .tk 11, .mv 12, .mv 13, .op 14, .mv 16, .op 15, .op 17, .mv 18, .op 19, .mv 20, .op 21, .mv 22, .op 23] rfl (by kernel_rfl) (by kernel_rfl) (by kernel_rfl) H ?_
    refine z_mv 0 (d := 9) (.pointer (some ⟨b, 0, none⟩)) (IsVal.of_run rfl fun w => (by kernel_rfl)) (by kernel_rfl) ?_
    refine z_mv 1 (d := 10) (.pointer (some ⟨b, 0, none⟩)) (IsVal.of_run rfl fun w => (by kernel_rfl)) (by kernel_rfl) ?_
    refine z_mv 2 (d := 11) (.pointer (some ⟨b, 0, none⟩)) (IsVal.of_run rfl fun w => (by kernel_rfl)) (by kernel_rfl) ?_
    refine z_tk 3 (d := 12) (.int .u8 cl) (val_ld (k := 0) (t := 5) (off := 0) rfl (by kernel_rfl) rfl (by kernel_rfl)) (by kernel_rfl) ?_
    refine z_mv 4 (d := 13) (.pointer (some ⟨b, 0, none⟩)) (IsVal.of_run rfl fun w => (by kernel_rfl)) (by kernel_rfl) ?_
    refine z_mv 5 (d := 14) (.pointer (some ⟨b, 0, none⟩)) (IsVal.of_run rfl fun w => (by kernel_rfl)) (by kernel_rfl) ?_
    refine z_mv 6 (d := 15) (.pointer (some ⟨b, 1, none⟩)) (IsVal.of_run rfl fun w => (by kernel_rfl)) (by kernel_rfl) ?_
    refine z_tk 7 (d := 16) (.int .u32 inc) (val_ld (k := 0) (t := 22) (off := 1) rfl (by kernel_rfl) rfl (by kernel_rfl)) (by kernel_rfl) ?_
    refine z_mv 8 (d := 17) (.pointer (some ⟨b, 0, none⟩)) (IsVal.of_run rfl fun w => (by kernel_rfl)) (by kernel_rfl) ?_
    refine z_mv 9 (d := 18) (.pointer (some ⟨b, 0, none⟩)) (IsVal.of_run rfl fun w => (by kernel_rfl)) (by kernel_rfl) ?_
    refine z_mv 10 (d := 19) (.pointer (some ⟨b, 2, none⟩)) (IsVal.of_run rfl fun w => (by kernel_rfl)) (by kernel_rfl) ?_
    refine z_tk 11 (d := 20) (.int .u64 seq) (val_ld (k := 0) (t := 23) (off := 2) rfl (by kernel_rfl) rfl (by kernel_rfl)) (by kernel_rfl) ?_
    refine z_mv 12 (d := 21) (.int .u64 (IntKind.u64.wrap (seq + 1))) (IsVal.of_run rfl fun w => (by kernel_rfl)) (by kernel_rfl) ?_
    refine z_turn (.int .u64 (seq + 1)) (wU64 (by omega) (by omega)) ?_
    refine z_mv 13 (d := 22) (.pointer (some ⟨b1, 12, none⟩)) (IsVal.of_run rfl fun w => (by kernel_rfl)) (by kernel_rfl) ?_
    refine z_op 14 rfl fun a w Z H => ?_
    refine op_val (d := 23) (v := .slice A c.data.length k) H (val_ld (k := 1) (t := 26) (off := 12) rfl (by kernel_rfl) rfl (by kernel_rfl)) fun a H => ?_
    refine z_on _ H (fun w Z X => X.mskZ [true, false] (by kernel_rfl)) (by kernel_rfl) ?_
    refine z_mv 16 (d := 25) (.pointer (some ⟨b1, 0, none⟩)) (IsVal.of_run rfl fun w => (by kernel_rfl)) (by kernel_rfl) ?_
    refine z_op 15 rfl fun a w Z H => ?_
    refine op_call (d := 24) H (by kernel_rfl) rfl (bclone_bytes A k c.data (by first | assumption | omega) (by first | assumption | omega | (simp only [List.length_take, List.length_drop, List.length_append, be_length]; omega)) H.sat) fun a v w q F => ?_
    obtain ⟨X_1, x_1, rfl, X⟩ := q
    have H := St.mk F X
    refine z_on (bytesO 5 X_1 x_1 c.data :: blk b (.cells #[.int .u8 cl, .int .u32 inc, .int .u64 seq, .slice none 0 0] 68) :: blk b1 (.cells #[.int .u8 c.client, .int .u32 c.inc, .int .u64 c.seq, .int .u8 c.kind, .int .u32 c.ino, .int .u32 c.gen, .string c.name, .int .u32 c.toIno, .int .u32 c.toGen, .string c.toName, .int .u32 c.off, .int .u32 c.size, .slice A c.data.length k] 28) :: L) H (fun w Z X => X.mskZ [false, true, false] (by kernel_rfl)) (by kernel_rfl) ?_
    refine z_op 17 rfl fun a w Z H => ?_
    refine op_storeZ (k := 2) (t := 5) (off := 0) (v := .int .u8 cl) H rfl (by kernel_rfl) (by kernel_rfl) fun a w H => ?_
    refine z_on _ H (fun w Z X => X.mskZ [false, true, false] (by kernel_rfl)) (by kernel_rfl) ?_
    refine z_mv 18 (d := 26) (.pointer (some ⟨b1, 1, none⟩)) (IsVal.of_run rfl fun w => (by kernel_rfl)) (by kernel_rfl) ?_
    refine z_op 19 rfl fun a w Z H => ?_
    refine op_storeZ (k := 2) (t := 22) (off := 1) (v := .int .u32 inc) H rfl (by kernel_rfl) (by kernel_rfl) fun a w H => ?_
    refine z_on _ H (fun w Z X => X.mskZ [false, true, false] (by kernel_rfl)) (by kernel_rfl) ?_
    refine z_mv 20 (d := 27) (.pointer (some ⟨b1, 2, none⟩)) (IsVal.of_run rfl fun w => (by kernel_rfl)) (by kernel_rfl) ?_
    refine z_op 21 rfl fun a w Z H => ?_
    refine op_storeZ (k := 2) (t := 23) (off := 2) (v := .int .u64 (seq + 1)) H rfl (by kernel_rfl) (by kernel_rfl) fun a w H => ?_
    refine z_on _ H (fun w Z X => X.mskZ [false, true, false] (by kernel_rfl)) (by kernel_rfl) ?_
    refine z_mv 22 (d := 28) (.pointer (some ⟨b1, 12, none⟩)) (IsVal.of_run rfl fun w => (by kernel_rfl)) (by kernel_rfl) ?_
    refine z_op 23 rfl fun a w Z H => ?_
    refine op_storeZ (k := 2) (t := 26) (off := 12) (v := .slice X_1 c.data.length x_1) H rfl (by kernel_rfl) (by kernel_rfl) fun a w H => ?_
    refine z_on _ H (fun w Z X => X.mskZ [false, true, false] (by kernel_rfl)) (by kernel_rfl) ?_
    refine z_end [] fun a w H => ?_
    refine WK.seq ?_
    refine WK.block ?_
    refine WK.seq ?_
    refine st_text 8 rfl ?_
    refine st_run 0 3 5 [(32, .bool (decide ((now : Int) > 1099511627776))), (31, .bool (decide ((now : Int) > 1099511627776))), (30, .int .u64 now)] H (by kernel_rfl) fun a H => ?_
    rcases Bool.eq_false_or_eq_true (decide ((now : Int) > 1099511627776)) with hg1 | hg1
    · skip
      have H := H.also (d := 32) (u := .bool (decide ((now : Int) > 1099511627776))) (v := .bool true) (by kernel_rfl) (congrArg Value.bool (hg1))
      have hg1' := of_decide_eq_true hg1
      refine st_run 3 5 0 [(29, .bool true), (36, .bool true), (35, undef), (34, undef), (33, undef)] H (by kernel_rfl) fun a H => ?_
      refine ops_end _ ?_
      refine st_true H (by kernel_rfl) ?_
      refine WK.seq ?_
      refine st_text 1 rfl ?_
      refine st_run 0 1 0 [(6, .int .i64 2)] H (by kernel_rfl) fun a H => ?_
      refine ops_end _ ?_
      refine st_ret (vs := [.int .i64 2]) H Tryd.func21 rfl (.tmp (by kernel_rfl) (.nil)) ?_
      have X := (H.sat.msk [false, true, false])
      exact .inl (⟨R, Hp.Le.refl _, fun hle => by first | exact rfl | (exfalso; omega), rfl, X⟩)
    · skip
      have H := H.also (d := 32) (u := .bool (decide ((now : Int) > 1099511627776))) (v := .bool false) (by kernel_rfl) (congrArg Value.bool (hg1))
      have hg1' := of_decide_eq_false hg1
      refine st_op 3 4 (op_val (d := 33) (v := .agg #[.int .u8 cl, .int .u32 inc, .int .u64 (seq + 1), .int .u8 c.kind, .int .u32 c.ino, .int .u32 c.gen, .string c.name, .int .u32 c.toIno, .int .u32 c.toGen, .string c.toName, .int .u32 c.off, .int .u32 c.size, .slice X_1 c.data.length x_1]) H (val_ld (k := 2) (t := 28) (off := 0) rfl (by kernel_rfl) rfl (by kernel_rfl)) fun a H => ?_)
      obtain ⟨R1, hle, hr_1, X⟩ := (H.sat.front 0 rfl).bytesO_fix
      have H := St.mk H.sl X
      have hd := hd.grow hle
      have hT := hT.grow hle
      have hleR1 := hle
      refine st_op 4 3 (op_call (d := 34) H (by kernel_rfl) rfl (call_may (⟨cl, inc, seq + 1, c.kind, c.ino, c.gen, c.name, c.toIno, c.toGen, c.toName, c.off, c.size, c.data⟩ : CallS) X_1 x_1 (by exact ⟨h1, by constructor <;> simp only <;> omega, by constructor <;> simp only <;> omega, w4, w5, w6, w7, w8, w9, w10⟩) (by assumption) (by first | assumption | omega) H.sat) fun a v w q F => ?_)
      obtain ⟨R2, hle, rfl, X⟩ := q
      have H := St.mk F X
      have hd := hd.grow hle
      have hr_1 := hr_1.grow hle
      have hT := hT.grow hle
      have hleR2 := hleR1.trans hle
      refine st_run 5 3 0 [(29, .bool (!(mayP (⟨cl, inc, seq + 1, c.kind, c.ino, c.gen, c.name, c.toIno, c.toGen, c.toName, c.off, c.size, c.data⟩ : CallS)))), (36, .bool (!(mayP (⟨cl, inc, seq + 1, c.kind, c.ino, c.gen, c.name, c.toIno, c.toGen, c.toName, c.off, c.size, c.data⟩ : CallS)))), (35, .bool (!(mayP (⟨cl, inc, seq + 1, c.kind, c.ino, c.gen, c.name, c.toIno, c.toGen, c.toName, c.off, c.size, c.data⟩ : CallS))))] H (by kernel_rfl) fun a H => ?_
      refine ops_end _ ?_
      refine st_cond (!(mayP (⟨cl, inc, seq + 1, c.kind, c.ino, c.gen, c.name, c.toIno, c.toGen, c.toName, c.off, c.size, c.data⟩ : CallS))) H (by kernel_rfl) ?_ ?_
      · intro hc2
        have hc2n := notT hc2
        refine WK.seq ?_
        refine st_text 1 rfl ?_
        refine st_run 0 1 0 [(6, .int .i64 2)] H (by kernel_rfl) fun a H => ?_
        refine ops_end _ ?_
        refine st_ret (vs := [.int .i64 2]) H Tryd.func21 rfl (.tmp (by kernel_rfl) (.nil)) ?_
        have X := (H.sat.msk [true, false])
        exact .inl (⟨R2, hleR2, fun hle => by first | exact hc2n | (exfalso; omega), rfl, X⟩)
      · intro hc2
        have hc2n := notF hc2
        refine WK.seq ?_
        refine st_text 7 rfl ?_
        refine st_run 0 3 4 [(40, .pointer (some ⟨b, 3, none⟩)), (39, .pointer (some ⟨b, 0, none⟩)), (38, .pointer (some ⟨b, 0, none⟩))] H (by kernel_rfl) fun a H => ?_
        refine st_op 3 3 (op_val (d := 41) (v := .slice none 0 0) H (val_ld (k := 0) (t := 66) (off := 3) rfl (by kernel_rfl) rfl (by kernel_rfl)) fun a H => ?_)
        refine st_run 4 3 0 [(37, .bool false), (43, .bool false), (42, .int .i64 0)] H (by kernel_rfl) fun a H => ?_
        refine ops_end _ ?_
        refine st_false H (by kernel_rfl) ?_
        refine WK.skip ?_
        refine WK.inBlock ?_
        refine WK.seq ?_
        refine st_text 8 rfl ?_
        refine st_run 0 3 5 [(46, .pointer (some ⟨b, 2, none⟩)), (45, .pointer (some ⟨b, 0, none⟩)), (44, .pointer (some ⟨b, 0, none⟩))] H (by kernel_rfl) fun a H => ?_
        refine st_op 3 4 (op_val (d := 47) (v := .int .u64 seq) H (val_ld (k := 0) (t := 23) (off := 2) rfl (by kernel_rfl) rfl (by kernel_rfl)) fun a H => ?_)
        refine st_run 4 1 3 [(48, .int .u64 (IntKind.u64.wrap (seq + 1)))] H (by kernel_rfl) fun a H => ?_
        have H := H.turn (d := 48) (u := .int .u64 (IntKind.u64.wrap (seq + 1))) (v := .int .u64 (seq + 1)) (wU64 (by omega) (by omega))
        refine st_run 5 2 1 [(50, .pointer (some ⟨b, 2, none⟩)), (49, .pointer (some ⟨b, 0, none⟩))] H (by kernel_rfl) fun a H => ?_
        refine st_op 7 0 (op_store (k := 0) (t := 23) (off := 2) (v := .int .u64 (seq + 1)) H rfl (by kernel_rfl) (by kernel_rfl) fun a w H => ?_)
        refine ops_end _ ?_
        refine WK.seq ?_
        refine st_floatsM [false, true] [.mv 0, .mv 1, .mv 2, .mv 3, .tk 4, .mv 5, .mv 6, .op 7, .mv 8, .op 9] rfl (by kernel_rfl) (by kernel_rfl) (by kernel_rfl) H ?_
        refine z_mv 0 (d := 51) (.pointer (some ⟨b, 0, none⟩)) (IsVal.of_run rfl fun w => (by kernel_rfl)) (by kernel_rfl) ?_
        refine z_mv 1 (d := 52) (.pointer (some ⟨b, 0, none⟩)) (IsVal.of_run rfl fun w => (by kernel_rfl)) (by kernel_rfl) ?_
        refine z_mv 2 (d := 53) (.pointer (some ⟨b, 3, none⟩)) (IsVal.of_run rfl fun w => (by kernel_rfl)) (by kernel_rfl) ?_
        refine z_mv 3 (d := 54) (.iface 124 (.pointer (some ⟨b, 3, none⟩))) (IsVal.of_run rfl fun w => (by kernel_rfl)) (by kernel_rfl) ?_
        refine z_tk 4 (d := 55) (.agg #[.int .u8 cl, .int .u32 inc, .int .u64 (seq + 1), .int .u8 c.kind, .int .u32 c.ino, .int .u32 c.gen, .string c.name, .int .u32 c.toIno, .int .u32 c.toGen, .string c.toName, .int .u32 c.off, .int .u32 c.size, .slice X_1 c.data.length x_1]) (val_ld (k := 0) (t := 28) (off := 0) rfl (by kernel_rfl) rfl (by kernel_rfl)) (by kernel_rfl) ?_
        refine z_mv 5 (d := 56) (.int .u64 now) (IsVal.of_run rfl fun w => (by kernel_rfl)) (by kernel_rfl) ?_
        refine z_mv 6 (d := 57) (.agg #[.int .u8 cl, .int .u32 inc, .int .u64 (seq + 1), .int .u8 c.kind, .int .u32 c.ino, .int .u32 c.gen, .string c.name, .int .u32 c.toIno, .int .u32 c.toGen, .string c.toName, .int .u32 c.off, .int .u32 c.size, .slice X_1 c.data.length x_1, .int .u64 now, .int .u64 2, .int .i64 0]) (IsVal.of_run rfl fun w => (by kernel_rfl)) (by kernel_rfl) ?_
        refine z_op 7 rfl fun a w Z H => ?_
        refine op_new (d := 58) (vf := fun b => .pointer (some ⟨b, 0, none⟩)) (ob := .cells #[.int .u8 cl, .int .u32 inc, .int .u64 (seq + 1), .int .u8 c.kind, .int .u32 c.ino, .int .u32 c.gen, .string c.name, .int .u32 c.toIno, .int .u32 c.toGen, .string c.toName, .int .u32 c.off, .int .u32 c.size, .slice X_1 c.data.length x_1, .int .u64 now, .int .u64 2, .int .i64 0] 70) H (IsNew.of_run rfl fun w => (by kernel_rfl)) fun a w b2 H => ?_
        refine z_on (blk b2 (.cells #[.int .u8 cl, .int .u32 inc, .int .u64 (seq + 1), .int .u8 c.kind, .int .u32 c.ino, .int .u32 c.gen, .string c.name, .int .u32 c.toIno, .int .u32 c.toGen, .string c.toName, .int .u32 c.off, .int .u32 c.size, .slice X_1 c.data.length x_1, .int .u64 now, .int .u64 2, .int .i64 0] 70) :: blk b (.cells #[.int .u8 cl, .int .u32 inc, .int .u64 (seq + 1), .slice none 0 0] 68) :: blk b1 (.cells #[.int .u8 cl, .int .u32 inc, .int .u64 (seq + 1), .int .u8 c.kind, .int .u32 c.ino, .int .u32 c.gen, .string c.name, .int .u32 c.toIno, .int .u32 c.toGen, .string c.toName, .int .u32 c.off, .int .u32 c.size, .slice X_1 c.data.length x_1] 28) :: L) H (fun w Z X => X.mskZ [false, false, true] (by kernel_rfl)) (by kernel_rfl) ?_
        refine z_mv 8 (d := 59) (.iface 125 (.pointer (some ⟨b2, 0, none⟩))) (IsVal.of_run rfl fun w => (by kernel_rfl)) (by kernel_rfl) ?_
        refine z_op 9 rfl fun a w Z H => ?_
        refine op_call (d := 60) H (by kernel_rfl) rfl (heap_push b b2 cl inc (seq + 1) (H.sat.frontZ 1 rfl)) fun a v w q F => ?_
        obtain ⟨x_2, x_3, x_4, hf1, hf2, X⟩ := q
        have H := St.mk F X
        refine z_on (blk b (.cells #[.int .u8 cl, .int .u32 inc, .int .u64 (seq + 1), .slice (some ⟨x_2, 0, none⟩) 1 x_3] 68) :: blkC x_2 x_4 125 :: blk b2 (.cells #[.int .u8 cl, .int .u32 inc, .int .u64 (seq + 1), .int .u8 c.kind, .int .u32 c.ino, .int .u32 c.gen, .string c.name, .int .u32 c.toIno, .int .u32 c.toGen, .string c.toName, .int .u32 c.off, .int .u32 c.size, .slice X_1 c.data.length x_1, .int .u64 now, .int .u64 2, .int .i64 0] 70) :: blk b1 (.cells #[.int .u8 cl, .int .u32 inc, .int .u64 (seq + 1), .int .u8 c.kind, .int .u32 c.ino, .int .u32 c.gen, .string c.name, .int .u32 c.toIno, .int .u32 c.toGen, .string c.toName, .int .u32 c.off, .int .u32 c.size, .slice X_1 c.data.length x_1] 28) :: L) H (fun w Z X => X.mskZ [false, false, false, true] (by kernel_rfl)) (by kernel_rfl) ?_
        refine z_end [] fun a w H => ?_
        refine WK.seq ?_
        refine st_text 1 rfl ?_
        refine st_run 0 1 0 [(6, .int .i64 0)] H (by kernel_rfl) fun a H => ?_
        refine ops_end _ ?_
        refine st_ret (vs := [.int .i64 0]) H Tryd.func21 rfl (.tmp (by kernel_rfl) (.nil)) ?_
        exact .inr ⟨R2, hleR2, x_2, b2, _, _, X_1, x_1, hf1, hc2n, hr_1, by assumption, rfl, ((((H.sat.msk [true, true, true, false]).front 2 rfl).front 2 rfl).front 2 rfl)⟩
end Go.Proofs.YtldnpolfcickaaaDoor
