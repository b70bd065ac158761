/- Numbers as bytes. -/
import Derived.Test.YtldnpolfcickaaaDoorBack2
set_option linter.unusedVariables false
set_option linter.unusedSimpArgs false
set_option maxRecDepth 100000
set_option maxHeartbeats 1000000
namespace Go.Proofs.YtldnpolfcickaaaDoor
open Go Go.WH

/-- (*wharfage/rpc.Line).Take -/
theorem rpc_take_nil {e w : World} {R : Hp} {L : List HP} (X0 : Option Addr) (kx : Nat) (bs : List UInt8) (hr : RdB R X0 kx bs) (hT : Tabs 0 1 R) (X : Sat e w R (L)) :
    Calls Tryd.prog 25 #[.pointer none, .slice X0 bs.length kx] w (Ret fun v w' => ∃ R', R.Le R' ∧ v = .tuple #[.agg #[.int .u8 0, .int .u32 0, .int .u64 0, .int .u8 0, .int .u32 0, .int .u32 0, .string ByteArray.empty, .int .u32 0, .int .u32 0, .string ByteArray.empty, .int .u32 0, .int .u32 0, .slice none 0 0], .agg #[.int .u8 0, .int .u32 0, .int .u64 0, .int .u8 0, .int .u32 0, .int .u32 0, .bool false, .int .u32 0, .int .u64 0, .int .u64 0, .slice none 0 0, .slice none 0 0, .int .u32 0], .bool false] ∧ Sat e w' R' (L)) := by
  refine enter (n := 67) (args := [.pointer none, .slice X0 bs.length kx]) Tryd.func25 rfl rfl rfl X (fun a H => ?_)
  refine WK.seq ?_
  refine st_text 3 rfl ?_
  refine st_op 0 2 (op_new (d := 4) (vf := fun b => .pointer (some ⟨b, 0, none⟩)) (ob := .cells #[.int .u8 0, .int .u32 0, .int .u64 0, .int .u8 0, .int .u32 0, .int .u32 0, .string ByteArray.empty, .int .u32 0, .int .u32 0, .string ByteArray.empty, .int .u32 0, .int .u32 0, .slice none 0 0] 28) H (IsNew.of_run rfl fun w => (by kernel_rfl)) fun a w b1 H => ?_)
  refine st_op 1 1 (op_new (d := 5) (vf := fun b => .pointer (some ⟨b, 0, none⟩)) (ob := .cells #[.int .u8 0, .int .u32 0, .int .u64 0, .int .u8 0, .int .u32 0, .int .u32 0, .bool false, .int .u32 0, .int .u64 0, .int .u64 0, .slice none 0 0, .slice none 0 0, .int .u32 0] 61) H (IsNew.of_run rfl fun w => (by kernel_rfl)) fun a w b2 H => ?_)
  refine st_run 2 1 0 [(6, .bool false)] H (by kernel_rfl) fun a H => ?_
  refine ops_end _ ?_
  refine WK.seq ?_
  refine st_text 8 rfl ?_
  refine st_run 0 1 7 [(10, .slice X0 bs.length kx)] H (by kernel_rfl) fun a H => ?_
  refine st_op 1 6 (op_call (d := 11) H (by kernel_rfl) rfl (back_get X0 kx bs (by first | assumption | omega) (by first | assumption | omega) H.sat) fun a v w q F => ?_)
  obtain ⟨R1, hle, X_1, x_1, X_2, x_2, hf1, hf2, rfl, X⟩ := q
  have H := St.mk F X
  have hr := hr.grow hle
  have hT := hT.grow hle
  have hleR1 := hle
  refine st_run 2 3 3 [(13, .int .i64 ((getB bs).2)), (12, .agg #[.int .u8 ((getB bs).1.client), .int .u32 ((getB bs).1.inc), .int .u64 ((getB bs).1.seq), .int .u8 ((getB bs).1.status), .int .u32 ((getB bs).1.ino), .int .u32 ((getB bs).1.gen), .bool ((getB bs).1.dir), .int .u32 ((getB bs).1.size), .int .u64 ((getB bs).1.change), .int .u64 ((getB bs).1.before), .slice X_1 ((getB bs).1.data.length) x_1, .slice X_2 ((getB bs).1.names.length) x_2, .int .u32 ((getB bs).1.boot)]), (9, .tuple #[.agg #[.int .u8 ((getB bs).1.client), .int .u32 ((getB bs).1.inc), .int .u64 ((getB bs).1.seq), .int .u8 ((getB bs).1.status), .int .u32 ((getB bs).1.ino), .int .u32 ((getB bs).1.gen), .bool ((getB bs).1.dir), .int .u32 ((getB bs).1.size), .int .u64 ((getB bs).1.change), .int .u64 ((getB bs).1.before), .slice X_1 ((getB bs).1.data.length) x_1, .slice X_2 ((getB bs).1.names.length) x_2, .int .u32 ((getB bs).1.boot)], .int .i64 ((getB bs).2)])] H (by kernel_rfl) fun a H => ?_
  refine st_op 5 2 (op_new (d := 7) (vf := fun b => .pointer (some ⟨b, 0, none⟩)) (ob := .cells #[.int .u8 0, .int .u32 0, .int .u64 0, .int .u8 0, .int .u32 0, .int .u32 0, .bool false, .int .u32 0, .int .u64 0, .int .u64 0, .slice none 0 0, .slice none 0 0, .int .u32 0] 61) H (IsNew.of_run rfl fun w => (by kernel_rfl)) fun a w b3 H => ?_)
  refine st_op 6 1 (op_store (k := 0) (t := 61) (off := 0) (v := .agg #[.int .u8 ((getB bs).1.client), .int .u32 ((getB bs).1.inc), .int .u64 ((getB bs).1.seq), .int .u8 ((getB bs).1.status), .int .u32 ((getB bs).1.ino), .int .u32 ((getB bs).1.gen), .bool ((getB bs).1.dir), .int .u32 ((getB bs).1.size), .int .u64 ((getB bs).1.change), .int .u64 ((getB bs).1.before), .slice X_1 ((getB bs).1.data.length) x_1, .slice X_2 ((getB bs).1.names.length) x_2, .int .u32 ((getB bs).1.boot)]) H rfl (by kernel_rfl) (by kernel_rfl) fun a w H => ?_)
  refine st_run 7 1 0 [(8, .int .i64 ((getB bs).2))] H (by kernel_rfl) fun a H => ?_
  refine ops_end _ ?_
  have H := St.toL (M := blk b3 (.cells #[.int .u8 ((getB bs).1.client), .int .u32 ((getB bs).1.inc), .int .u64 ((getB bs).1.seq), .int .u8 ((getB bs).1.status), .int .u32 ((getB bs).1.ino), .int .u32 ((getB bs).1.gen), .bool ((getB bs).1.dir), .int .u32 ((getB bs).1.size), .int .u64 ((getB bs).1.change), .int .u64 ((getB bs).1.before), .slice X_1 ((getB bs).1.data.length) x_1, .slice X_2 ((getB bs).1.names.length) x_2, .int .u32 ((getB bs).1.boot)] 61) :: blk b2 (.cells #[.int .u8 0, .int .u32 0, .int .u64 0, .int .u8 0, .int .u32 0, .int .u32 0, .bool false, .int .u32 0, .int .u64 0, .int .u64 0, .slice none 0 0, .slice none 0 0, .int .u32 0] 61) :: blk b1 (.cells #[.int .u8 0, .int .u32 0, .int .u64 0, .int .u8 0, .int .u32 0, .int .u32 0, .string ByteArray.empty, .int .u32 0, .int .u32 0, .string ByteArray.empty, .int .u32 0, .int .u32 0, .slice none 0 0] 28) :: L) H (by kernel_rfl)
  refine WK.seq ?_
  refine WK.seq ?_
  refine st_floatsM [true, false, false] [.mv 0, .mv 1, .mv 2, .tk 3, .op 4, .mv 5, .mv 6, .tk 7, .tk 8, .tk 9, .tk 10, .tk 11, .tk 12, .mv 13, .mv 14, .tk 15, .tk 16, .tk 17, .tk 18, .tk 19, .tk 20, .tk 21, .mv 22, .mv 23, .tk 24, .tk 25, .tk 26, .tk 27, .tk 28, .tk 29, .tk 30, .mv 31, .mv 32, .tk 33, .tk 34, .tk 35, .tk 36, .tk 37, .tk 38, .tk 39, .mv 40] rfl (by kernel_rfl) (by kernel_rfl) (by kernel_rfl) H ?_
  refine z_mv 0 (d := 14) (.int .i64 ((getB bs).2)) (IsVal.of_run rfl fun w => (by kernel_rfl)) (by kernel_rfl) ?_
  refine z_mv 1 (d := 15) (.bool (!((((getB bs).2) : Int) == 0))) (IsVal.of_run rfl fun w => (by kernel_rfl)) (by kernel_rfl) ?_
  refine z_mv 2 (d := 16) (.bool (!((((getB bs).2) : Int) == 0))) (IsVal.of_run rfl fun w => (by kernel_rfl)) (by kernel_rfl) ?_
  rcases Bool.eq_false_or_eq_true (!((((getB bs).2) : Int) == 0)) with hg1 | hg1
  · skip
    refine z_also (d := 16) (u := .bool (!((((getB bs).2) : Int) == 0))) (.bool true) rfl (congrArg Value.bool (hg1)) ?_
    have hg1n := notT hg1
    have hg1' := neB (notT hg1)
    refine z_skip 3 rfl (by kernel_rfl) rfl (by kernel_rfl) ?_
    refine z_op 4 rfl fun a w Z H => ?_
    refine op_not (d := 18) H rfl (by kernel_rfl) rfl (by kernel_rfl) fun a H => ?_
    refine z_on _ H (fun w Z X => X.mskZ [true, false, false] (by kernel_rfl)) (by kernel_rfl) ?_
    refine z_mv 5 (d := 19) (.bool true) (IsVal.of_run rfl fun w => (by kernel_rfl)) (by kernel_rfl) ?_
    refine z_mv 6 (d := 20) (.bool true) (IsVal.of_run rfl fun w => (by kernel_rfl)) (by kernel_rfl) ?_
    refine z_skip 7 rfl (by kernel_rfl) rfl (by kernel_rfl) ?_
    refine z_skip 8 rfl (by kernel_rfl) rfl (by kernel_rfl) ?_
    refine z_skip 9 rfl (by kernel_rfl) rfl (by kernel_rfl) ?_
    refine z_skip 10 rfl (by kernel_rfl) rfl (by kernel_rfl) ?_
    refine z_skip 11 rfl (by kernel_rfl) rfl (by kernel_rfl) ?_
    refine z_skip 12 rfl (by kernel_rfl) rfl (by kernel_rfl) ?_
    refine z_mv 13 (d := 27) (.bool true) (IsVal.of_run rfl fun w => (by kernel_rfl)) (by kernel_rfl) ?_
    refine z_mv 14 (d := 28) (.bool true) (IsVal.of_run rfl fun w => (by kernel_rfl)) (by kernel_rfl) ?_
    refine z_skip 15 rfl (by kernel_rfl) rfl (by kernel_rfl) ?_
    refine z_skip 16 rfl (by kernel_rfl) rfl (by kernel_rfl) ?_
    refine z_skip 17 rfl (by kernel_rfl) rfl (by kernel_rfl) ?_
    refine z_skip 18 rfl (by kernel_rfl) rfl (by kernel_rfl) ?_
    refine z_skip 19 rfl (by kernel_rfl) rfl (by kernel_rfl) ?_
    refine z_skip 20 rfl (by kernel_rfl) rfl (by kernel_rfl) ?_
    refine z_skip 21 rfl (by kernel_rfl) rfl (by kernel_rfl) ?_
    refine z_mv 22 (d := 36) (.bool true) (IsVal.of_run rfl fun w => (by kernel_rfl)) (by kernel_rfl) ?_
    refine z_mv 23 (d := 37) (.bool true) (IsVal.of_run rfl fun w => (by kernel_rfl)) (by kernel_rfl) ?_
    refine z_skip 24 rfl (by kernel_rfl) rfl (by kernel_rfl) ?_
    refine z_skip 25 rfl (by kernel_rfl) rfl (by kernel_rfl) ?_
    refine z_skip 26 rfl (by kernel_rfl) rfl (by kernel_rfl) ?_
    refine z_skip 27 rfl (by kernel_rfl) rfl (by kernel_rfl) ?_
    refine z_skip 28 rfl (by kernel_rfl) rfl (by kernel_rfl) ?_
    refine z_skip 29 rfl (by kernel_rfl) rfl (by kernel_rfl) ?_
    refine z_skip 30 rfl (by kernel_rfl) rfl (by kernel_rfl) ?_
    refine z_mv 31 (d := 45) (.bool true) (IsVal.of_run rfl fun w => (by kernel_rfl)) (by kernel_rfl) ?_
    refine z_mv 32 (d := 46) (.bool true) (IsVal.of_run rfl fun w => (by kernel_rfl)) (by kernel_rfl) ?_
    refine z_skip 33 rfl (by kernel_rfl) rfl (by kernel_rfl) ?_
    refine z_skip 34 rfl (by kernel_rfl) rfl (by kernel_rfl) ?_
    refine z_skip 35 rfl (by kernel_rfl) rfl (by kernel_rfl) ?_
    refine z_skip 36 rfl (by kernel_rfl) rfl (by kernel_rfl) ?_
    refine z_skip 37 rfl (by kernel_rfl) rfl (by kernel_rfl) ?_
    refine z_skip 38 rfl (by kernel_rfl) rfl (by kernel_rfl) ?_
    refine z_skip 39 rfl (by kernel_rfl) rfl (by kernel_rfl) ?_
    refine z_mv 40 (d := 54) (.bool true) (IsVal.of_run rfl fun w => (by kernel_rfl)) (by kernel_rfl) ?_
    refine z_end [] fun a w H => ?_
    refine st_true H (by kernel_rfl) ?_
    refine WK.seq ?_
    refine st_floatsM [false, true, false] [.tk 1, .op 0, .op 2, .op 3, .mv 4] rfl (by kernel_rfl) (by kernel_rfl) (by kernel_rfl) H ?_
    refine z_tk 1 (d := 56) (.agg #[.int .u8 0, .int .u32 0, .int .u64 0, .int .u8 0, .int .u32 0, .int .u32 0, .bool false, .int .u32 0, .int .u64 0, .int .u64 0, .slice none 0 0, .slice none 0 0, .int .u32 0]) (val_ld (k := 0) (t := 61) (off := 0) rfl (by kernel_rfl) rfl (by kernel_rfl)) (by kernel_rfl) ?_
    refine z_op 0 rfl fun a w Z H => ?_
    refine op_val (d := 55) (v := .agg #[.int .u8 0, .int .u32 0, .int .u64 0, .int .u8 0, .int .u32 0, .int .u32 0, .string ByteArray.empty, .int .u32 0, .int .u32 0, .string ByteArray.empty, .int .u32 0, .int .u32 0, .slice none 0 0]) H (val_ld (k := 2) (t := 28) (off := 0) rfl (by kernel_rfl) rfl (by kernel_rfl)) fun a H => ?_
    refine z_on _ H (fun w Z X => X.mskZ [false, true, false] (by kernel_rfl)) (by kernel_rfl) ?_
    refine z_op 2 rfl fun a w Z H => ?_
    refine op_storeZ (k := 2) (t := 28) (off := 0) (v := .agg #[.int .u8 0, .int .u32 0, .int .u64 0, .int .u8 0, .int .u32 0, .int .u32 0, .string ByteArray.empty, .int .u32 0, .int .u32 0, .string ByteArray.empty, .int .u32 0, .int .u32 0, .slice none 0 0]) H rfl (by kernel_rfl) (by kernel_rfl) fun a w H => ?_
    refine z_on _ H (fun w Z X => X.mskZ [false, true, false] (by kernel_rfl)) (by kernel_rfl) ?_
    refine z_op 3 rfl fun a w Z H => ?_
    refine op_storeZ (k := 1) (t := 61) (off := 0) (v := .agg #[.int .u8 0, .int .u32 0, .int .u64 0, .int .u8 0, .int .u32 0, .int .u32 0, .bool false, .int .u32 0, .int .u64 0, .int .u64 0, .slice none 0 0, .slice none 0 0, .int .u32 0]) H rfl (by kernel_rfl) (by kernel_rfl) fun a w H => ?_
    refine z_on _ H (fun w Z X => X.mskZ [false, true, false] (by kernel_rfl)) (by kernel_rfl) ?_
    refine z_mv 4 (d := 6) (.bool false) (IsVal.of_run rfl fun w => (by kernel_rfl)) (by kernel_rfl) ?_
    refine z_end [] fun a w H => ?_
    have H := St.toL (M := blk b3 (.cells #[.int .u8 ((getB bs).1.client), .int .u32 ((getB bs).1.inc), .int .u64 ((getB bs).1.seq), .int .u8 ((getB bs).1.status), .int .u32 ((getB bs).1.ino), .int .u32 ((getB bs).1.gen), .bool ((getB bs).1.dir), .int .u32 ((getB bs).1.size), .int .u64 ((getB bs).1.change), .int .u64 ((getB bs).1.before), .slice X_1 ((getB bs).1.data.length) x_1, .slice X_2 ((getB bs).1.names.length) x_2, .int .u32 ((getB bs).1.boot)] 61) :: blk b2 (.cells #[.int .u8 0, .int .u32 0, .int .u64 0, .int .u8 0, .int .u32 0, .int .u32 0, .bool false, .int .u32 0, .int .u64 0, .int .u64 0, .slice none 0 0, .slice none 0 0, .int .u32 0] 61) :: blk b1 (.cells #[.int .u8 0, .int .u32 0, .int .u64 0, .int .u8 0, .int .u32 0, .int .u32 0, .string ByteArray.empty, .int .u32 0, .int .u32 0, .string ByteArray.empty, .int .u32 0, .int .u32 0, .slice none 0 0] 28) :: L) H (by kernel_rfl)
    refine st_ret (vs := [.agg #[.int .u8 0, .int .u32 0, .int .u64 0, .int .u8 0, .int .u32 0, .int .u32 0, .string ByteArray.empty, .int .u32 0, .int .u32 0, .string ByteArray.empty, .int .u32 0, .int .u32 0, .slice none 0 0], .agg #[.int .u8 0, .int .u32 0, .int .u64 0, .int .u8 0, .int .u32 0, .int .u32 0, .bool false, .int .u32 0, .int .u64 0, .int .u64 0, .slice none 0 0, .slice none 0 0, .int .u32 0], .bool false]) H Tryd.func25 rfl (.cell (by kernel_rfl) (H.sat.blk (k := 2) rfl) (by kernel_rfl) (.cell (by kernel_rfl) (H.sat.blk (k := 1) rfl) (by kernel_rfl) (.tmp (by kernel_rfl) (.nil)))) ?_
    have X := (H.sat.msk [false, false, false])
    exact ⟨R1, hleR1, rfl, X⟩
  · skip
    refine z_also (d := 16) (u := .bool (!((((getB bs).2) : Int) == 0))) (.bool false) rfl (congrArg Value.bool (hg1)) ?_
    have hg1n := notF hg1
    have hg1' := eq_of_beq (notF hg1)
    refine z_tk 3 (d := 17) (.pointer none) (IsVal.of_run rfl fun w => (by kernel_rfl)) (by kernel_rfl) ?_
    refine z_op 4 rfl fun a w Z H => ?_
    refine op_call (d := 18) H (by kernel_rfl) rfl (rpc_none_nil H.sat) fun a v w q F => ?_
    obtain ⟨rfl, X⟩ := q
    have H := St.mk F X
    refine z_on (blk b3 (.cells #[.int .u8 ((getB bs).1.client), .int .u32 ((getB bs).1.inc), .int .u64 ((getB bs).1.seq), .int .u8 ((getB bs).1.status), .int .u32 ((getB bs).1.ino), .int .u32 ((getB bs).1.gen), .bool ((getB bs).1.dir), .int .u32 ((getB bs).1.size), .int .u64 ((getB bs).1.change), .int .u64 ((getB bs).1.before), .slice X_1 ((getB bs).1.data.length) x_1, .slice X_2 ((getB bs).1.names.length) x_2, .int .u32 ((getB bs).1.boot)] 61) :: blk b2 (.cells #[.int .u8 0, .int .u32 0, .int .u64 0, .int .u8 0, .int .u32 0, .int .u32 0, .bool false, .int .u32 0, .int .u64 0, .int .u64 0, .slice none 0 0, .slice none 0 0, .int .u32 0] 61) :: blk b1 (.cells #[.int .u8 0, .int .u32 0, .int .u64 0, .int .u8 0, .int .u32 0, .int .u32 0, .string ByteArray.empty, .int .u32 0, .int .u32 0, .string ByteArray.empty, .int .u32 0, .int .u32 0, .slice none 0 0] 28) :: L) H (fun w Z X => X.mskZ [true, false, false] (by kernel_rfl)) (by kernel_rfl) ?_
    refine z_mv 5 (d := 19) (.bool true) (IsVal.of_run rfl fun w => (by kernel_rfl)) (by kernel_rfl) ?_
    refine z_mv 6 (d := 20) (.bool true) (IsVal.of_run rfl fun w => (by kernel_rfl)) (by kernel_rfl) ?_
    refine z_skip 7 rfl (by kernel_rfl) rfl (by kernel_rfl) ?_
    refine z_skip 8 rfl (by kernel_rfl) rfl (by kernel_rfl) ?_
    refine z_skip 9 rfl (by kernel_rfl) rfl (by kernel_rfl) ?_
    refine z_skip 10 rfl (by kernel_rfl) rfl (by kernel_rfl) ?_
    refine z_skip 11 rfl (by kernel_rfl) rfl (by kernel_rfl) ?_
    refine z_skip 12 rfl (by kernel_rfl) rfl (by kernel_rfl) ?_
    refine z_mv 13 (d := 27) (.bool true) (IsVal.of_run rfl fun w => (by kernel_rfl)) (by kernel_rfl) ?_
    refine z_mv 14 (d := 28) (.bool true) (IsVal.of_run rfl fun w => (by kernel_rfl)) (by kernel_rfl) ?_
    refine z_skip 15 rfl (by kernel_rfl) rfl (by kernel_rfl) ?_
    refine z_skip 16 rfl (by kernel_rfl) rfl (by kernel_rfl) ?_
    refine z_skip 17 rfl (by kernel_rfl) rfl (by kernel_rfl) ?_
    refine z_skip 18 rfl (by kernel_rfl) rfl (by kernel_rfl) ?_
    refine z_skip 19 rfl (by kernel_rfl) rfl (by kernel_rfl) ?_
    refine z_skip 20 rfl (by kernel_rfl) rfl (by kernel_rfl) ?_
    refine z_skip 21 rfl (by kernel_rfl) rfl (by kernel_rfl) ?_
    refine z_mv 22 (d := 36) (.bool true) (IsVal.of_run rfl fun w => (by kernel_rfl)) (by kernel_rfl) ?_
    refine z_mv 23 (d := 37) (.bool true) (IsVal.of_run rfl fun w => (by kernel_rfl)) (by kernel_rfl) ?_
    refine z_skip 24 rfl (by kernel_rfl) rfl (by kernel_rfl) ?_
    refine z_skip 25 rfl (by kernel_rfl) rfl (by kernel_rfl) ?_
    refine z_skip 26 rfl (by kernel_rfl) rfl (by kernel_rfl) ?_
    refine z_skip 27 rfl (by kernel_rfl) rfl (by kernel_rfl) ?_
    refine z_skip 28 rfl (by kernel_rfl) rfl (by kernel_rfl) ?_
    refine z_skip 29 rfl (by kernel_rfl) rfl (by kernel_rfl) ?_
    refine z_skip 30 rfl (by kernel_rfl) rfl (by kernel_rfl) ?_
    refine z_mv 31 (d := 45) (.bool true) (IsVal.of_run rfl fun w => (by kernel_rfl)) (by kernel_rfl) ?_
    refine z_mv 32 (d := 46) (.bool true) (IsVal.of_run rfl fun w => (by kernel_rfl)) (by kernel_rfl) ?_
    refine z_skip 33 rfl (by kernel_rfl) rfl (by kernel_rfl) ?_
    refine z_skip 34 rfl (by kernel_rfl) rfl (by kernel_rfl) ?_
    refine z_skip 35 rfl (by kernel_rfl) rfl (by kernel_rfl) ?_
    refine z_skip 36 rfl (by kernel_rfl) rfl (by kernel_rfl) ?_
    refine z_skip 37 rfl (by kernel_rfl) rfl (by kernel_rfl) ?_
    refine z_skip 38 rfl (by kernel_rfl) rfl (by kernel_rfl) ?_
    refine z_skip 39 rfl (by kernel_rfl) rfl (by kernel_rfl) ?_
    refine z_mv 40 (d := 54) (.bool true) (IsVal.of_run rfl fun w => (by kernel_rfl)) (by kernel_rfl) ?_
    refine z_end [] fun a w H => ?_
    refine st_true H (by kernel_rfl) ?_
    refine WK.seq ?_
    refine st_floatsM [false, true, false] [.tk 1, .op 0, .op 2, .op 3, .mv 4] rfl (by kernel_rfl) (by kernel_rfl) (by kernel_rfl) H ?_
    refine z_tk 1 (d := 56) (.agg #[.int .u8 0, .int .u32 0, .int .u64 0, .int .u8 0, .int .u32 0, .int .u32 0, .bool false, .int .u32 0, .int .u64 0, .int .u64 0, .slice none 0 0, .slice none 0 0, .int .u32 0]) (val_ld (k := 0) (t := 61) (off := 0) rfl (by kernel_rfl) rfl (by kernel_rfl)) (by kernel_rfl) ?_
    refine z_op 0 rfl fun a w Z H => ?_
    refine op_val (d := 55) (v := .agg #[.int .u8 0, .int .u32 0, .int .u64 0, .int .u8 0, .int .u32 0, .int .u32 0, .string ByteArray.empty, .int .u32 0, .int .u32 0, .string ByteArray.empty, .int .u32 0, .int .u32 0, .slice none 0 0]) H (val_ld (k := 2) (t := 28) (off := 0) rfl (by kernel_rfl) rfl (by kernel_rfl)) fun a H => ?_
    refine z_on _ H (fun w Z X => X.mskZ [false, true, false] (by kernel_rfl)) (by kernel_rfl) ?_
    refine z_op 2 rfl fun a w Z H => ?_
    refine op_storeZ (k := 2) (t := 28) (off := 0) (v := .agg #[.int .u8 0, .int .u32 0, .int .u64 0, .int .u8 0, .int .u32 0, .int .u32 0, .string ByteArray.empty, .int .u32 0, .int .u32 0, .string ByteArray.empty, .int .u32 0, .int .u32 0, .slice none 0 0]) H rfl (by kernel_rfl) (by kernel_rfl) fun a w H => ?_
    refine z_on _ H (fun w Z X => X.mskZ [false, true, false] (by kernel_rfl)) (by kernel_rfl) ?_
    refine z_op 3 rfl fun a w Z H => ?_
    refine op_storeZ (k := 1) (t := 61) (off := 0) (v := .agg #[.int .u8 0, .int .u32 0, .int .u64 0, .int .u8 0, .int .u32 0, .int .u32 0, .bool false, .int .u32 0, .int .u64 0, .int .u64 0, .slice none 0 0, .slice none 0 0, .int .u32 0]) H rfl (by kernel_rfl) (by kernel_rfl) fun a w H => ?_
    refine z_on _ H (fun w Z X => X.mskZ [false, true, false] (by kernel_rfl)) (by kernel_rfl) ?_
    refine z_mv 4 (d := 6) (.bool false) (IsVal.of_run rfl fun w => (by kernel_rfl)) (by kernel_rfl) ?_
    refine z_end [] fun a w H => ?_
    have H := St.toL (M := blk b3 (.cells #[.int .u8 ((getB bs).1.client), .int .u32 ((getB bs).1.inc), .int .u64 ((getB bs).1.seq), .int .u8 ((getB bs).1.status), .int .u32 ((getB bs).1.ino), .int .u32 ((getB bs).1.gen), .bool ((getB bs).1.dir), .int .u32 ((getB bs).1.size), .int .u64 ((getB bs).1.change), .int .u64 ((getB bs).1.before), .slice X_1 ((getB bs).1.data.length) x_1, .slice X_2 ((getB bs).1.names.length) x_2, .int .u32 ((getB bs).1.boot)] 61) :: blk b2 (.cells #[.int .u8 0, .int .u32 0, .int .u64 0, .int .u8 0, .int .u32 0, .int .u32 0, .bool false, .int .u32 0, .int .u64 0, .int .u64 0, .slice none 0 0, .slice none 0 0, .int .u32 0] 61) :: blk b1 (.cells #[.int .u8 0, .int .u32 0, .int .u64 0, .int .u8 0, .int .u32 0, .int .u32 0, .string ByteArray.empty, .int .u32 0, .int .u32 0, .string ByteArray.empty, .int .u32 0, .int .u32 0, .slice none 0 0] 28) :: L) H (by kernel_rfl)
    refine st_ret (vs := [.agg #[.int .u8 0, .int .u32 0, .int .u64 0, .int .u8 0, .int .u32 0, .int .u32 0, .string ByteArray.empty, .int .u32 0, .int .u32 0, .string ByteArray.empty, .int .u32 0, .int .u32 0, .slice none 0 0], .agg #[.int .u8 0, .int .u32 0, .int .u64 0, .int .u8 0, .int .u32 0, .int .u32 0, .bool false, .int .u32 0, .int .u64 0, .int .u64 0, .slice none 0 0, .slice none 0 0, .int .u32 0], .bool false]) H Tryd.func25 rfl (.cell (by kernel_rfl) (H.sat.blk (k := 2) rfl) (by kernel_rfl) (.cell (by kernel_rfl) (H.sat.blk (k := 1) rfl) (by kernel_rfl) (.tmp (by kernel_rfl) (.nil)))) ?_
    have X := (H.sat.msk [false, false, false])
    exact ⟨R1, hleR1, rfl, X⟩

/-- (*wharfage/rpc.Line).Take -/
theorem rpc_take_zero {e w : World} {R : Hp} {L : List HP} (b : Nat) (cl : Int) (seq : Int) (X0 : Option Addr) (kx : Nat) (bs : List UInt8) (hr : RdB R X0 kx bs) (hT : Tabs 0 1 R) (X : Sat e w R (blk b (.cells #[.int .u8 cl, .int .u32 0, .int .u64 seq, .slice none 0 0] 68) :: L)) :
    Calls Tryd.prog 25 #[.pointer (some ⟨b, 0, none⟩), .slice X0 bs.length kx] w (Ret fun v w' => ∃ R', R.Le R' ∧ v = .tuple #[.agg #[.int .u8 0, .int .u32 0, .int .u64 0, .int .u8 0, .int .u32 0, .int .u32 0, .string ByteArray.empty, .int .u32 0, .int .u32 0, .string ByteArray.empty, .int .u32 0, .int .u32 0, .slice none 0 0], .agg #[.int .u8 0, .int .u32 0, .int .u64 0, .int .u8 0, .int .u32 0, .int .u32 0, .bool false, .int .u32 0, .int .u64 0, .int .u64 0, .slice none 0 0, .slice none 0 0, .int .u32 0], .bool false] ∧ Sat e w' R' (blk b (.cells #[.int .u8 cl, .int .u32 0, .int .u64 seq, .slice none 0 0] 68) :: L)) := by
  refine enter (n := 67) (args := [.pointer (some ⟨b, 0, none⟩), .slice X0 bs.length kx]) Tryd.func25 rfl rfl rfl X (fun a H => ?_)
  refine WK.seq ?_
  refine st_text 3 rfl ?_
  refine st_op 0 2 (op_new (d := 4) (vf := fun b => .pointer (some ⟨b, 0, none⟩)) (ob := .cells #[.int .u8 0, .int .u32 0, .int .u64 0, .int .u8 0, .int .u32 0, .int .u32 0, .string ByteArray.empty, .int .u32 0, .int .u32 0, .string ByteArray.empty, .int .u32 0, .int .u32 0, .slice none 0 0] 28) H (IsNew.of_run rfl fun w => (by kernel_rfl)) fun a w b1 H => ?_)
  refine st_op 1 1 (op_new (d := 5) (vf := fun b => .pointer (some ⟨b, 0, none⟩)) (ob := .cells #[.int .u8 0, .int .u32 0, .int .u64 0, .int .u8 0, .int .u32 0, .int .u32 0, .bool false, .int .u32 0, .int .u64 0, .int .u64 0, .slice none 0 0, .slice none 0 0, .int .u32 0] 61) H (IsNew.of_run rfl fun w => (by kernel_rfl)) fun a w b2 H => ?_)
  refine st_run 2 1 0 [(6, .bool false)] H (by kernel_rfl) fun a H => ?_
  refine ops_end _ ?_
  refine WK.seq ?_
  refine st_text 8 rfl ?_
  refine st_run 0 1 7 [(10, .slice X0 bs.length kx)] H (by kernel_rfl) fun a H => ?_
  refine st_op 1 6 (op_call (d := 11) H (by kernel_rfl) rfl (back_get X0 kx bs (by first | assumption | omega) (by first | assumption | omega) H.sat) fun a v w q F => ?_)
  obtain ⟨R1, hle, X_1, x_1, X_2, x_2, hf1, hf2, rfl, X⟩ := q
  have H := St.mk F X
  have hr := hr.grow hle
  have hT := hT.grow hle
  have hleR1 := hle
  refine st_run 2 3 3 [(13, .int .i64 ((getB bs).2)), (12, .agg #[.int .u8 ((getB bs).1.client), .int .u32 ((getB bs).1.inc), .int .u64 ((getB bs).1.seq), .int .u8 ((getB bs).1.status), .int .u32 ((getB bs).1.ino), .int .u32 ((getB bs).1.gen), .bool ((getB bs).1.dir), .int .u32 ((getB bs).1.size), .int .u64 ((getB bs).1.change), .int .u64 ((getB bs).1.before), .slice X_1 ((getB bs).1.data.length) x_1, .slice X_2 ((getB bs).1.names.length) x_2, .int .u32 ((getB bs).1.boot)]), (9, .tuple #[.agg #[.int .u8 ((getB bs).1.client), .int .u32 ((getB bs).1.inc), .int .u64 ((getB bs).1.seq), .int .u8 ((getB bs).1.status), .int .u32 ((getB bs).1.ino), .int .u32 ((getB bs).1.gen), .bool ((getB bs).1.dir), .int .u32 ((getB bs).1.size), .int .u64 ((getB bs).1.change), .int .u64 ((getB bs).1.before), .slice X_1 ((getB bs).1.data.length) x_1, .slice X_2 ((getB bs).1.names.length) x_2, .int .u32 ((getB bs).1.boot)], .int .i64 ((getB bs).2)])] H (by kernel_rfl) fun a H => ?_
  refine st_op 5 2 (op_new (d := 7) (vf := fun b => .pointer (some ⟨b, 0, none⟩)) (ob := .cells #[.int .u8 0, .int .u32 0, .int .u64 0, .int .u8 0, .int .u32 0, .int .u32 0, .bool false, .int .u32 0, .int .u64 0, .int .u64 0, .slice none 0 0, .slice none 0 0, .int .u32 0] 61) H (IsNew.of_run rfl fun w => (by kernel_rfl)) fun a w b3 H => ?_)
  refine st_op 6 1 (op_store (k := 0) (t := 61) (off := 0) (v := .agg #[.int .u8 ((getB bs).1.client), .int .u32 ((getB bs).1.inc), .int .u64 ((getB bs).1.seq), .int .u8 ((getB bs).1.status), .int .u32 ((getB bs).1.ino), .int .u32 ((getB bs).1.gen), .bool ((getB bs).1.dir), .int .u32 ((getB bs).1.size), .int .u64 ((getB bs).1.change), .int .u64 ((getB bs).1.before), .slice X_1 ((getB bs).1.data.length) x_1, .slice X_2 ((getB bs).1.names.length) x_2, .int .u32 ((getB bs).1.boot)]) H rfl (by kernel_rfl) (by kernel_rfl) fun a w H => ?_)
  refine st_run 7 1 0 [(8, .int .i64 ((getB bs).2))] H (by kernel_rfl) fun a H => ?_
  refine ops_end _ ?_
  have H := St.toL (M := blk b3 (.cells #[.int .u8 ((getB bs).1.client), .int .u32 ((getB bs).1.inc), .int .u64 ((getB bs).1.seq), .int .u8 ((getB bs).1.status), .int .u32 ((getB bs).1.ino), .int .u32 ((getB bs).1.gen), .bool ((getB bs).1.dir), .int .u32 ((getB bs).1.size), .int .u64 ((getB bs).1.change), .int .u64 ((getB bs).1.before), .slice X_1 ((getB bs).1.data.length) x_1, .slice X_2 ((getB bs).1.names.length) x_2, .int .u32 ((getB bs).1.boot)] 61) :: blk b2 (.cells #[.int .u8 0, .int .u32 0, .int .u64 0, .int .u8 0, .int .u32 0, .int .u32 0, .bool false, .int .u32 0, .int .u64 0, .int .u64 0, .slice none 0 0, .slice none 0 0, .int .u32 0] 61) :: blk b1 (.cells #[.int .u8 0, .int .u32 0, .int .u64 0, .int .u8 0, .int .u32 0, .int .u32 0, .string ByteArray.empty, .int .u32 0, .int .u32 0, .string ByteArray.empty, .int .u32 0, .int .u32 0, .slice none 0 0] 28) :: blk b (.cells #[.int .u8 cl, .int .u32 0, .int .u64 seq, .slice none 0 0] 68) :: L) H (by kernel_rfl)
  refine WK.seq ?_
  refine WK.seq ?_
  refine st_floatsM [true, false, false, true] [.mv 0, .mv 1, .mv 2, .tk 3, .op 4, .mv 5, .mv 6, .tk 7, .tk 8, .tk 9, .tk 10, .tk 11, .tk 12, .mv 13, .mv 14, .tk 15, .tk 16, .tk 17, .tk 18, .tk 19, .tk 20, .tk 21, .mv 22, .mv 23, .tk 24, .tk 25, .tk 26, .tk 27, .tk 28, .tk 29, .tk 30, .mv 31, .mv 32, .tk 33, .tk 34, .tk 35, .tk 36, .tk 37, .tk 38, .tk 39, .mv 40] rfl (by kernel_rfl) (by kernel_rfl) (by kernel_rfl) H ?_
  refine z_mv 0 (d := 14) (.int .i64 ((getB bs).2)) (IsVal.of_run rfl fun w => (by kernel_rfl)) (by kernel_rfl) ?_
  refine z_mv 1 (d := 15) (.bool (!((((getB bs).2) : Int) == 0))) (IsVal.of_run rfl fun w => (by kernel_rfl)) (by kernel_rfl) ?_
  refine z_mv 2 (d := 16) (.bool (!((((getB bs).2) : Int) == 0))) (IsVal.of_run rfl fun w => (by kernel_rfl)) (by kernel_rfl) ?_
  rcases Bool.eq_false_or_eq_true (!((((getB bs).2) : Int) == 0)) with hg1 | hg1
  · skip
    refine z_also (d := 16) (u := .bool (!((((getB bs).2) : Int) == 0))) (.bool true) rfl (congrArg Value.bool (hg1)) ?_
    have hg1n := notT hg1
    have hg1' := neB (notT hg1)
    refine z_skip 3 rfl (by kernel_rfl) rfl (by kernel_rfl) ?_
    refine z_op 4 rfl fun a w Z H => ?_
    refine op_not (d := 18) H rfl (by kernel_rfl) rfl (by kernel_rfl) fun a H => ?_
    refine z_on _ H (fun w Z X => X.mskZ [true, false, false, true] (by kernel_rfl)) (by kernel_rfl) ?_
    refine z_mv 5 (d := 19) (.bool true) (IsVal.of_run rfl fun w => (by kernel_rfl)) (by kernel_rfl) ?_
    refine z_mv 6 (d := 20) (.bool true) (IsVal.of_run rfl fun w => (by kernel_rfl)) (by kernel_rfl) ?_
    refine z_skip 7 rfl (by kernel_rfl) rfl (by kernel_rfl) ?_
    refine z_skip 8 rfl (by kernel_rfl) rfl (by kernel_rfl) ?_
    refine z_skip 9 rfl (by kernel_rfl) rfl (by kernel_rfl) ?_
    refine z_skip 10 rfl (by kernel_rfl) rfl (by kernel_rfl) ?_
    refine z_skip 11 rfl (by kernel_rfl) rfl (by kernel_rfl) ?_
    refine z_skip 12 rfl (by kernel_rfl) rfl (by kernel_rfl) ?_
    refine z_mv 13 (d := 27) (.bool true) (IsVal.of_run rfl fun w => (by kernel_rfl)) (by kernel_rfl) ?_
    refine z_mv 14 (d := 28) (.bool true) (IsVal.of_run rfl fun w => (by kernel_rfl)) (by kernel_rfl) ?_
    refine z_skip 15 rfl (by kernel_rfl) rfl (by kernel_rfl) ?_
    refine z_skip 16 rfl (by kernel_rfl) rfl (by kernel_rfl) ?_
    refine z_skip 17 rfl (by kernel_rfl) rfl (by kernel_rfl) ?_
    refine z_skip 18 rfl (by kernel_rfl) rfl (by kernel_rfl) ?_
    refine z_skip 19 rfl (by kernel_rfl) rfl (by kernel_rfl) ?_
    refine z_skip 20 rfl (by kernel_rfl) rfl (by kernel_rfl) ?_
    refine z_skip 21 rfl (by kernel_rfl) rfl (by kernel_rfl) ?_
    refine z_mv 22 (d := 36) (.bool true) (IsVal.of_run rfl fun w => (by kernel_rfl)) (by kernel_rfl) ?_
    refine z_mv 23 (d := 37) (.bool true) (IsVal.of_run rfl fun w => (by kernel_rfl)) (by kernel_rfl) ?_
    refine z_skip 24 rfl (by kernel_rfl) rfl (by kernel_rfl) ?_
    refine z_skip 25 rfl (by kernel_rfl) rfl (by kernel_rfl) ?_
    refine z_skip 26 rfl (by kernel_rfl) rfl (by kernel_rfl) ?_
    refine z_skip 27 rfl (by kernel_rfl) rfl (by kernel_rfl) ?_
    refine z_skip 28 rfl (by kernel_rfl) rfl (by kernel_rfl) ?_
    refine z_skip 29 rfl (by kernel_rfl) rfl (by kernel_rfl) ?_
    refine z_skip 30 rfl (by kernel_rfl) rfl (by kernel_rfl) ?_
    refine z_mv 31 (d := 45) (.bool true) (IsVal.of_run rfl fun w => (by kernel_rfl)) (by kernel_rfl) ?_
    refine z_mv 32 (d := 46) (.bool true) (IsVal.of_run rfl fun w => (by kernel_rfl)) (by kernel_rfl) ?_
    refine z_skip 33 rfl (by kernel_rfl) rfl (by kernel_rfl) ?_
    refine z_skip 34 rfl (by kernel_rfl) rfl (by kernel_rfl) ?_
    refine z_skip 35 rfl (by kernel_rfl) rfl (by kernel_rfl) ?_
    refine z_skip 36 rfl (by kernel_rfl) rfl (by kernel_rfl) ?_
    refine z_skip 37 rfl (by kernel_rfl) rfl (by kernel_rfl) ?_
    refine z_skip 38 rfl (by kernel_rfl) rfl (by kernel_rfl) ?_
    refine z_skip 39 rfl (by kernel_rfl) rfl (by kernel_rfl) ?_
    refine z_mv 40 (d := 54) (.bool true) (IsVal.of_run rfl fun w => (by kernel_rfl)) (by kernel_rfl) ?_
    refine z_end [] fun a w H => ?_
    refine st_true H (by kernel_rfl) ?_
    refine WK.seq ?_
    refine st_floatsM [false, true, false, false] [.tk 1, .op 0, .op 2, .op 3, .mv 4] rfl (by kernel_rfl) (by kernel_rfl) (by kernel_rfl) H ?_
    refine z_tk 1 (d := 56) (.agg #[.int .u8 0, .int .u32 0, .int .u64 0, .int .u8 0, .int .u32 0, .int .u32 0, .bool false, .int .u32 0, .int .u64 0, .int .u64 0, .slice none 0 0, .slice none 0 0, .int .u32 0]) (val_ld (k := 0) (t := 61) (off := 0) rfl (by kernel_rfl) rfl (by kernel_rfl)) (by kernel_rfl) ?_
    refine z_op 0 rfl fun a w Z H => ?_
    refine op_val (d := 55) (v := .agg #[.int .u8 0, .int .u32 0, .int .u64 0, .int .u8 0, .int .u32 0, .int .u32 0, .string ByteArray.empty, .int .u32 0, .int .u32 0, .string ByteArray.empty, .int .u32 0, .int .u32 0, .slice none 0 0]) H (val_ld (k := 2) (t := 28) (off := 0) rfl (by kernel_rfl) rfl (by kernel_rfl)) fun a H => ?_
    refine z_on _ H (fun w Z X => X.mskZ [false, true, false, false] (by kernel_rfl)) (by kernel_rfl) ?_
    refine z_op 2 rfl fun a w Z H => ?_
    refine op_storeZ (k := 2) (t := 28) (off := 0) (v := .agg #[.int .u8 0, .int .u32 0, .int .u64 0, .int .u8 0, .int .u32 0, .int .u32 0, .string ByteArray.empty, .int .u32 0, .int .u32 0, .string ByteArray.empty, .int .u32 0, .int .u32 0, .slice none 0 0]) H rfl (by kernel_rfl) (by kernel_rfl) fun a w H => ?_
    refine z_on _ H (fun w Z X => X.mskZ [false, true, false, false] (by kernel_rfl)) (by kernel_rfl) ?_
    refine z_op 3 rfl fun a w Z H => ?_
    refine op_storeZ (k := 1) (t := 61) (off := 0) (v := .agg #[.int .u8 0, .int .u32 0, .int .u64 0, .int .u8 0, .int .u32 0, .int .u32 0, .bool false, .int .u32 0, .int .u64 0, .int .u64 0, .slice none 0 0, .slice none 0 0, .int .u32 0]) H rfl (by kernel_rfl) (by kernel_rfl) fun a w H => ?_
    refine z_on _ H (fun w Z X => X.mskZ [false, true, false, false] (by kernel_rfl)) (by kernel_rfl) ?_
    refine z_mv 4 (d := 6) (.bool false) (IsVal.of_run rfl fun w => (by kernel_rfl)) (by kernel_rfl) ?_
    refine z_end [] fun a w H => ?_
    have H := St.toL (M := blk b3 (.cells #[.int .u8 ((getB bs).1.client), .int .u32 ((getB bs).1.inc), .int .u64 ((getB bs).1.seq), .int .u8 ((getB bs).1.status), .int .u32 ((getB bs).1.ino), .int .u32 ((getB bs).1.gen), .bool ((getB bs).1.dir), .int .u32 ((getB bs).1.size), .int .u64 ((getB bs).1.change), .int .u64 ((getB bs).1.before), .slice X_1 ((getB bs).1.data.length) x_1, .slice X_2 ((getB bs).1.names.length) x_2, .int .u32 ((getB bs).1.boot)] 61) :: blk b2 (.cells #[.int .u8 0, .int .u32 0, .int .u64 0, .int .u8 0, .int .u32 0, .int .u32 0, .bool false, .int .u32 0, .int .u64 0, .int .u64 0, .slice none 0 0, .slice none 0 0, .int .u32 0] 61) :: blk b1 (.cells #[.int .u8 0, .int .u32 0, .int .u64 0, .int .u8 0, .int .u32 0, .int .u32 0, .string ByteArray.empty, .int .u32 0, .int .u32 0, .string ByteArray.empty, .int .u32 0, .int .u32 0, .slice none 0 0] 28) :: blk b (.cells #[.int .u8 cl, .int .u32 0, .int .u64 seq, .slice none 0 0] 68) :: L) H (by kernel_rfl)
    refine st_ret (vs := [.agg #[.int .u8 0, .int .u32 0, .int .u64 0, .int .u8 0, .int .u32 0, .int .u32 0, .string ByteArray.empty, .int .u32 0, .int .u32 0, .string ByteArray.empty, .int .u32 0, .int .u32 0, .slice none 0 0], .agg #[.int .u8 0, .int .u32 0, .int .u64 0, .int .u8 0, .int .u32 0, .int .u32 0, .bool false, .int .u32 0, .int .u64 0, .int .u64 0, .slice none 0 0, .slice none 0 0, .int .u32 0], .bool false]) H Tryd.func25 rfl (.cell (by kernel_rfl) (H.sat.blk (k := 2) rfl) (by kernel_rfl) (.cell (by kernel_rfl) (H.sat.blk (k := 1) rfl) (by kernel_rfl) (.tmp (by kernel_rfl) (.nil)))) ?_
    have X := (H.sat.msk [false, false, false, true])
    exact ⟨R1, hleR1, rfl, X⟩
  · skip
    refine z_also (d := 16) (u := .bool (!((((getB bs).2) : Int) == 0))) (.bool false) rfl (congrArg Value.bool (hg1)) ?_
    have hg1n := notF hg1
    have hg1' := eq_of_beq (notF hg1)
    refine z_tk 3 (d := 17) (.pointer (some ⟨b, 0, none⟩)) (IsVal.of_run rfl fun w => (by kernel_rfl)) (by kernel_rfl) ?_
    refine z_op 4 rfl fun a w Z H => ?_
    refine op_call (d := 18) H (by kernel_rfl) rfl (rpc_none b cl 0 seq none 0 0 (H.sat.frontZ 3 rfl)) fun a v w q F => ?_
    obtain ⟨rfl, X⟩ := q
    have H := St.mk F X
    have H : St _ _ _ _ _ _ ((blk b (.cells #[.int .u8 cl, .int .u32 0, .int .u64 seq, .slice none 0 0] 68) :: blk b3 (.cells #[.int .u8 ((getB bs).1.client), .int .u32 ((getB bs).1.inc), .int .u64 ((getB bs).1.seq), .int .u8 ((getB bs).1.status), .int .u32 ((getB bs).1.ino), .int .u32 ((getB bs).1.gen), .bool ((getB bs).1.dir), .int .u32 ((getB bs).1.size), .int .u64 ((getB bs).1.change), .int .u64 ((getB bs).1.before), .slice X_1 ((getB bs).1.data.length) x_1, .slice X_2 ((getB bs).1.names.length) x_2, .int .u32 ((getB bs).1.boot)] 61) :: blk b2 (.cells #[.int .u8 0, .int .u32 0, .int .u64 0, .int .u8 0, .int .u32 0, .int .u32 0, .bool false, .int .u32 0, .int .u64 0, .int .u64 0, .slice none 0 0, .slice none 0 0, .int .u32 0] 61) :: blk b1 (.cells #[.int .u8 0, .int .u32 0, .int .u64 0, .int .u8 0, .int .u32 0, .int .u32 0, .string ByteArray.empty, .int .u32 0, .int .u32 0, .string ByteArray.empty, .int .u32 0, .int .u32 0, .slice none 0 0] 28) :: L) ++ Z) := H
    have H := St.mk H.sl (H.sat.frontZ 1 rfl)
    refine z_on (blk b3 (.cells #[.int .u8 ((getB bs).1.client), .int .u32 ((getB bs).1.inc), .int .u64 ((getB bs).1.seq), .int .u8 ((getB bs).1.status), .int .u32 ((getB bs).1.ino), .int .u32 ((getB bs).1.gen), .bool ((getB bs).1.dir), .int .u32 ((getB bs).1.size), .int .u64 ((getB bs).1.change), .int .u64 ((getB bs).1.before), .slice X_1 ((getB bs).1.data.length) x_1, .slice X_2 ((getB bs).1.names.length) x_2, .int .u32 ((getB bs).1.boot)] 61) :: blk b (.cells #[.int .u8 cl, .int .u32 0, .int .u64 seq, .slice none 0 0] 68) :: blk b2 (.cells #[.int .u8 0, .int .u32 0, .int .u64 0, .int .u8 0, .int .u32 0, .int .u32 0, .bool false, .int .u32 0, .int .u64 0, .int .u64 0, .slice none 0 0, .slice none 0 0, .int .u32 0] 61) :: blk b1 (.cells #[.int .u8 0, .int .u32 0, .int .u64 0, .int .u8 0, .int .u32 0, .int .u32 0, .string ByteArray.empty, .int .u32 0, .int .u32 0, .string ByteArray.empty, .int .u32 0, .int .u32 0, .slice none 0 0] 28) :: L) H (fun w Z X => X.mskZ [true, true, false, false] (by kernel_rfl)) (by kernel_rfl) ?_
    refine z_mv 5 (d := 19) (.bool ((0 : Int) == 0)) (IsVal.of_run rfl fun w => (by kernel_rfl)) (by kernel_rfl) ?_
    refine z_mv 6 (d := 20) (.bool ((0 : Int) == 0)) (IsVal.of_run rfl fun w => (by kernel_rfl)) (by kernel_rfl) ?_
    have hk1 : ((0 : Int) == 0) = true := by kernel_rfl
    refine z_also (d := 20) (u := .bool ((0 : Int) == 0)) (.bool true) rfl (congrArg Value.bool (hk1)) ?_
    refine z_skip 7 rfl (by kernel_rfl) rfl (by kernel_rfl) ?_
    refine z_skip 8 rfl (by kernel_rfl) rfl (by kernel_rfl) ?_
    refine z_skip 9 rfl (by kernel_rfl) rfl (by kernel_rfl) ?_
    refine z_skip 10 rfl (by kernel_rfl) rfl (by kernel_rfl) ?_
    refine z_skip 11 rfl (by kernel_rfl) rfl (by kernel_rfl) ?_
    refine z_skip 12 rfl (by kernel_rfl) rfl (by kernel_rfl) ?_
    refine z_mv 13 (d := 27) (.bool true) (IsVal.of_run rfl fun w => (by kernel_rfl)) (by kernel_rfl) ?_
    refine z_mv 14 (d := 28) (.bool true) (IsVal.of_run rfl fun w => (by kernel_rfl)) (by kernel_rfl) ?_
    refine z_skip 15 rfl (by kernel_rfl) rfl (by kernel_rfl) ?_
    refine z_skip 16 rfl (by kernel_rfl) rfl (by kernel_rfl) ?_
    refine z_skip 17 rfl (by kernel_rfl) rfl (by kernel_rfl) ?_
    refine z_skip 18 rfl (by kernel_rfl) rfl (by kernel_rfl) ?_
    refine z_skip 19 rfl (by kernel_rfl) rfl (by kernel_rfl) ?_
    refine z_skip 20 rfl (by kernel_rfl) rfl (by kernel_rfl) ?_
    refine z_skip 21 rfl (by kernel_rfl) rfl (by kernel_rfl) ?_
    refine z_mv 22 (d := 36) (.bool true) (IsVal.of_run rfl fun w => (by kernel_rfl)) (by kernel_rfl) ?_
    refine z_mv 23 (d := 37) (.bool true) (IsVal.of_run rfl fun w => (by kernel_rfl)) (by kernel_rfl) ?_
    refine z_skip 24 rfl (by kernel_rfl) rfl (by kernel_rfl) ?_
    refine z_skip 25 rfl (by kernel_rfl) rfl (by kernel_rfl) ?_
    refine z_skip 26 rfl (by kernel_rfl) rfl (by kernel_rfl) ?_
    refine z_skip 27 rfl (by kernel_rfl) rfl (by kernel_rfl) ?_
    refine z_skip 28 rfl (by kernel_rfl) rfl (by kernel_rfl) ?_
    refine z_skip 29 rfl (by kernel_rfl) rfl (by kernel_rfl) ?_
    refine z_skip 30 rfl (by kernel_rfl) rfl (by kernel_rfl) ?_
    refine z_mv 31 (d := 45) (.bool true) (IsVal.of_run rfl fun w => (by kernel_rfl)) (by kernel_rfl) ?_
    refine z_mv 32 (d := 46) (.bool true) (IsVal.of_run rfl fun w => (by kernel_rfl)) (by kernel_rfl) ?_
    refine z_skip 33 rfl (by kernel_rfl) rfl (by kernel_rfl) ?_
    refine z_skip 34 rfl (by kernel_rfl) rfl (by kernel_rfl) ?_
    refine z_skip 35 rfl (by kernel_rfl) rfl (by kernel_rfl) ?_
    refine z_skip 36 rfl (by kernel_rfl) rfl (by kernel_rfl) ?_
    refine z_skip 37 rfl (by kernel_rfl) rfl (by kernel_rfl) ?_
    refine z_skip 38 rfl (by kernel_rfl) rfl (by kernel_rfl) ?_
    refine z_skip 39 rfl (by kernel_rfl) rfl (by kernel_rfl) ?_
    refine z_mv 40 (d := 54) (.bool true) (IsVal.of_run rfl fun w => (by kernel_rfl)) (by kernel_rfl) ?_
    refine z_end [] fun a w H => ?_
    refine st_true H (by kernel_rfl) ?_
    refine WK.seq ?_
    refine st_floatsM [false, false, true, false] [.tk 1, .op 0, .op 2, .op 3, .mv 4] rfl (by kernel_rfl) (by kernel_rfl) (by kernel_rfl) H ?_
    refine z_tk 1 (d := 56) (.agg #[.int .u8 0, .int .u32 0, .int .u64 0, .int .u8 0, .int .u32 0, .int .u32 0, .bool false, .int .u32 0, .int .u64 0, .int .u64 0, .slice none 0 0, .slice none 0 0, .int .u32 0]) (val_ld (k := 0) (t := 61) (off := 0) rfl (by kernel_rfl) rfl (by kernel_rfl)) (by kernel_rfl) ?_
    refine z_op 0 rfl fun a w Z H => ?_
    refine op_val (d := 55) (v := .agg #[.int .u8 0, .int .u32 0, .int .u64 0, .int .u8 0, .int .u32 0, .int .u32 0, .string ByteArray.empty, .int .u32 0, .int .u32 0, .string ByteArray.empty, .int .u32 0, .int .u32 0, .slice none 0 0]) H (val_ld (k := 3) (t := 28) (off := 0) rfl (by kernel_rfl) rfl (by kernel_rfl)) fun a H => ?_
    refine z_on _ H (fun w Z X => X.mskZ [false, false, true, false] (by kernel_rfl)) (by kernel_rfl) ?_
    refine z_op 2 rfl fun a w Z H => ?_
    refine op_storeZ (k := 3) (t := 28) (off := 0) (v := .agg #[.int .u8 0, .int .u32 0, .int .u64 0, .int .u8 0, .int .u32 0, .int .u32 0, .string ByteArray.empty, .int .u32 0, .int .u32 0, .string ByteArray.empty, .int .u32 0, .int .u32 0, .slice none 0 0]) H rfl (by kernel_rfl) (by kernel_rfl) fun a w H => ?_
    refine z_on _ H (fun w Z X => X.mskZ [false, false, true, false] (by kernel_rfl)) (by kernel_rfl) ?_
    refine z_op 3 rfl fun a w Z H => ?_
    refine op_storeZ (k := 2) (t := 61) (off := 0) (v := .agg #[.int .u8 0, .int .u32 0, .int .u64 0, .int .u8 0, .int .u32 0, .int .u32 0, .bool false, .int .u32 0, .int .u64 0, .int .u64 0, .slice none 0 0, .slice none 0 0, .int .u32 0]) H rfl (by kernel_rfl) (by kernel_rfl) fun a w H => ?_
    refine z_on _ H (fun w Z X => X.mskZ [false, false, true, false] (by kernel_rfl)) (by kernel_rfl) ?_
    refine z_mv 4 (d := 6) (.bool false) (IsVal.of_run rfl fun w => (by kernel_rfl)) (by kernel_rfl) ?_
    refine z_end [] fun a w H => ?_
    have H := St.toL (M := blk b3 (.cells #[.int .u8 ((getB bs).1.client), .int .u32 ((getB bs).1.inc), .int .u64 ((getB bs).1.seq), .int .u8 ((getB bs).1.status), .int .u32 ((getB bs).1.ino), .int .u32 ((getB bs).1.gen), .bool ((getB bs).1.dir), .int .u32 ((getB bs).1.size), .int .u64 ((getB bs).1.change), .int .u64 ((getB bs).1.before), .slice X_1 ((getB bs).1.data.length) x_1, .slice X_2 ((getB bs).1.names.length) x_2, .int .u32 ((getB bs).1.boot)] 61) :: blk b (.cells #[.int .u8 cl, .int .u32 0, .int .u64 seq, .slice none 0 0] 68) :: blk b2 (.cells #[.int .u8 0, .int .u32 0, .int .u64 0, .int .u8 0, .int .u32 0, .int .u32 0, .bool false, .int .u32 0, .int .u64 0, .int .u64 0, .slice none 0 0, .slice none 0 0, .int .u32 0] 61) :: blk b1 (.cells #[.int .u8 0, .int .u32 0, .int .u64 0, .int .u8 0, .int .u32 0, .int .u32 0, .string ByteArray.empty, .int .u32 0, .int .u32 0, .string ByteArray.empty, .int .u32 0, .int .u32 0, .slice none 0 0] 28) :: L) H (by kernel_rfl)
    refine st_ret (vs := [.agg #[.int .u8 0, .int .u32 0, .int .u64 0, .int .u8 0, .int .u32 0, .int .u32 0, .string ByteArray.empty, .int .u32 0, .int .u32 0, .string ByteArray.empty, .int .u32 0, .int .u32 0, .slice none 0 0], .agg #[.int .u8 0, .int .u32 0, .int .u64 0, .int .u8 0, .int .u32 0, .int .u32 0, .bool false, .int .u32 0, .int .u64 0, .int .u64 0, .slice none 0 0, .slice none 0 0, .int .u32 0], .bool false]) H Tryd.func25 rfl (.cell (by kernel_rfl) (H.sat.blk (k := 3) rfl) (by kernel_rfl) (.cell (by kernel_rfl) (H.sat.blk (k := 2) rfl) (by kernel_rfl) (.tmp (by kernel_rfl) (.nil)))) ?_
    have X := (H.sat.msk [false, true, false, false])
    exact ⟨R1, hleR1, rfl, X⟩

/-- (*wharfage/rpc.Line).Take -/
theorem rpc_take_none {e w : World} {R : Hp} {L : List HP} (b : Nat) (cl : Int) (inc : Int) (seq : Int) (A0 : Option Addr) (cap0 : Nat) (X0 : Option Addr) (kx : Nat) (bs : List UInt8) (hr : RdB R X0 kx bs) (hT : Tabs 0 1 R) (X : Sat e w R (blk b (.cells #[.int .u8 cl, .int .u32 inc, .int .u64 seq, .slice A0 0 cap0] 68) :: L)) :
    Calls Tryd.prog 25 #[.pointer (some ⟨b, 0, none⟩), .slice X0 bs.length kx] w (Ret fun v w' => ∃ R', R.Le R' ∧ v = .tuple #[.agg #[.int .u8 0, .int .u32 0, .int .u64 0, .int .u8 0, .int .u32 0, .int .u32 0, .string ByteArray.empty, .int .u32 0, .int .u32 0, .string ByteArray.empty, .int .u32 0, .int .u32 0, .slice none 0 0], .agg #[.int .u8 0, .int .u32 0, .int .u64 0, .int .u8 0, .int .u32 0, .int .u32 0, .bool false, .int .u32 0, .int .u64 0, .int .u64 0, .slice none 0 0, .slice none 0 0, .int .u32 0], .bool false] ∧ Sat e w' R' (blk b (.cells #[.int .u8 cl, .int .u32 inc, .int .u64 seq, .slice A0 0 cap0] 68) :: L)) := by
  refine enter (n := 67) (args := [.pointer (some ⟨b, 0, none⟩), .slice X0 bs.length kx]) Tryd.func25 rfl rfl rfl X (fun a H => ?_)
  refine WK.seq ?_
  refine st_text 3 rfl ?_
  refine st_op 0 2 (op_new (d := 4) (vf := fun b => .pointer (some ⟨b, 0, none⟩)) (ob := .cells #[.int .u8 0, .int .u32 0, .int .u64 0, .int .u8 0, .int .u32 0, .int .u32 0, .string ByteArray.empty, .int .u32 0, .int .u32 0, .string ByteArray.empty, .int .u32 0, .int .u32 0, .slice none 0 0] 28) H (IsNew.of_run rfl fun w => (by kernel_rfl)) fun a w b1 H => ?_)
  refine st_op 1 1 (op_new (d := 5) (vf := fun b => .pointer (some ⟨b, 0, none⟩)) (ob := .cells #[.int .u8 0, .int .u32 0, .int .u64 0, .int .u8 0, .int .u32 0, .int .u32 0, .bool false, .int .u32 0, .int .u64 0, .int .u64 0, .slice none 0 0, .slice none 0 0, .int .u32 0] 61) H (IsNew.of_run rfl fun w => (by kernel_rfl)) fun a w b2 H => ?_)
  refine st_run 2 1 0 [(6, .bool false)] H (by kernel_rfl) fun a H => ?_
  refine ops_end _ ?_
  refine WK.seq ?_
  refine st_text 8 rfl ?_
  refine st_run 0 1 7 [(10, .slice X0 bs.length kx)] H (by kernel_rfl) fun a H => ?_
  refine st_op 1 6 (op_call (d := 11) H (by kernel_rfl) rfl (back_get X0 kx bs (by first | assumption | omega) (by first | assumption | omega) H.sat) fun a v w q F => ?_)
  obtain ⟨R1, hle, X_1, x_1, X_2, x_2, hf1, hf2, rfl, X⟩ := q
  have H := St.mk F X
  have hr := hr.grow hle
  have hT := hT.grow hle
  have hleR1 := hle
  refine st_run 2 3 3 [(13, .int .i64 ((getB bs).2)), (12, .agg #[.int .u8 ((getB bs).1.client), .int .u32 ((getB bs).1.inc), .int .u64 ((getB bs).1.seq), .int .u8 ((getB bs).1.status), .int .u32 ((getB bs).1.ino), .int .u32 ((getB bs).1.gen), .bool ((getB bs).1.dir), .int .u32 ((getB bs).1.size), .int .u64 ((getB bs).1.change), .int .u64 ((getB bs).1.before), .slice X_1 ((getB bs).1.data.length) x_1, .slice X_2 ((getB bs).1.names.length) x_2, .int .u32 ((getB bs).1.boot)]), (9, .tuple #[.agg #[.int .u8 ((getB bs).1.client), .int .u32 ((getB bs).1.inc), .int .u64 ((getB bs).1.seq), .int .u8 ((getB bs).1.status), .int .u32 ((getB bs).1.ino), .int .u32 ((getB bs).1.gen), .bool ((getB bs).1.dir), .int .u32 ((getB bs).1.size), .int .u64 ((getB bs).1.change), .int .u64 ((getB bs).1.before), .slice X_1 ((getB bs).1.data.length) x_1, .slice X_2 ((getB bs).1.names.length) x_2, .int .u32 ((getB bs).1.boot)], .int .i64 ((getB bs).2)])] H (by kernel_rfl) fun a H => ?_
  refine st_op 5 2 (op_new (d := 7) (vf := fun b => .pointer (some ⟨b, 0, none⟩)) (ob := .cells #[.int .u8 0, .int .u32 0, .int .u64 0, .int .u8 0, .int .u32 0, .int .u32 0, .bool false, .int .u32 0, .int .u64 0, .int .u64 0, .slice none 0 0, .slice none 0 0, .int .u32 0] 61) H (IsNew.of_run rfl fun w => (by kernel_rfl)) fun a w b3 H => ?_)
  refine st_op 6 1 (op_store (k := 0) (t := 61) (off := 0) (v := .agg #[.int .u8 ((getB bs).1.client), .int .u32 ((getB bs).1.inc), .int .u64 ((getB bs).1.seq), .int .u8 ((getB bs).1.status), .int .u32 ((getB bs).1.ino), .int .u32 ((getB bs).1.gen), .bool ((getB bs).1.dir), .int .u32 ((getB bs).1.size), .int .u64 ((getB bs).1.change), .int .u64 ((getB bs).1.before), .slice X_1 ((getB bs).1.data.length) x_1, .slice X_2 ((getB bs).1.names.length) x_2, .int .u32 ((getB bs).1.boot)]) H rfl (by kernel_rfl) (by kernel_rfl) fun a w H => ?_)
  refine st_run 7 1 0 [(8, .int .i64 ((getB bs).2))] H (by kernel_rfl) fun a H => ?_
  refine ops_end _ ?_
  have H := St.toL (M := blk b3 (.cells #[.int .u8 ((getB bs).1.client), .int .u32 ((getB bs).1.inc), .int .u64 ((getB bs).1.seq), .int .u8 ((getB bs).1.status), .int .u32 ((getB bs).1.ino), .int .u32 ((getB bs).1.gen), .bool ((getB bs).1.dir), .int .u32 ((getB bs).1.size), .int .u64 ((getB bs).1.change), .int .u64 ((getB bs).1.before), .slice X_1 ((getB bs).1.data.length) x_1, .slice X_2 ((getB bs).1.names.length) x_2, .int .u32 ((getB bs).1.boot)] 61) :: blk b2 (.cells #[.int .u8 0, .int .u32 0, .int .u64 0, .int .u8 0, .int .u32 0, .int .u32 0, .bool false, .int .u32 0, .int .u64 0, .int .u64 0, .slice none 0 0, .slice none 0 0, .int .u32 0] 61) :: blk b1 (.cells #[.int .u8 0, .int .u32 0, .int .u64 0, .int .u8 0, .int .u32 0, .int .u32 0, .string ByteArray.empty, .int .u32 0, .int .u32 0, .string ByteArray.empty, .int .u32 0, .int .u32 0, .slice none 0 0] 28) :: blk b (.cells #[.int .u8 cl, .int .u32 inc, .int .u64 seq, .slice A0 0 cap0] 68) :: L) H (by kernel_rfl)
  refine WK.seq ?_
  refine WK.seq ?_
  refine st_floatsM [true, false, false, true] [.mv 0, .mv 1, .mv 2, .tk 3, .op 4, .mv 5, .mv 6, .tk 7, .tk 8, .tk 9, .tk 10, .tk 11, .tk 12, .mv 13, .mv 14, .tk 15, .tk 16, .tk 17, .tk 18, .tk 19, .tk 20, .tk 21, .mv 22, .mv 23, .tk 24, .tk 25, .tk 26, .tk 27, .tk 28, .tk 29, .tk 30, .mv 31, .mv 32, .tk 33, .tk 34, .tk 35, .tk 36, .tk 37, .tk 38, .tk 39, .mv 40] rfl (by kernel_rfl) (by kernel_rfl) (by kernel_rfl) H ?_
  refine z_mv 0 (d := 14) (.int .i64 ((getB bs).2)) (IsVal.of_run rfl fun w => (by kernel_rfl)) (by kernel_rfl) ?_
  refine z_mv 1 (d := 15) (.bool (!((((getB bs).2) : Int) == 0))) (IsVal.of_run rfl fun w => (by kernel_rfl)) (by kernel_rfl) ?_
  refine z_mv 2 (d := 16) (.bool (!((((getB bs).2) : Int) == 0))) (IsVal.of_run rfl fun w => (by kernel_rfl)) (by kernel_rfl) ?_
  rcases Bool.eq_false_or_eq_true (!((((getB bs).2) : Int) == 0)) with hg1 | hg1
  · skip
    refine z_also (d := 16) (u := .bool (!((((getB bs).2) : Int) == 0))) (.bool true) rfl (congrArg Value.bool (hg1)) ?_
    have hg1n := notT hg1
    have hg1' := neB (notT hg1)
    refine z_skip 3 rfl (by kernel_rfl) rfl (by kernel_rfl) ?_
    refine z_op 4 rfl fun a w Z H => ?_
    refine op_not (d := 18) H rfl (by kernel_rfl) rfl (by kernel_rfl) fun a H => ?_
    refine z_on _ H (fun w Z X => X.mskZ [true, false, false, true] (by kernel_rfl)) (by kernel_rfl) ?_
    refine z_mv 5 (d := 19) (.bool true) (IsVal.of_run rfl fun w => (by kernel_rfl)) (by kernel_rfl) ?_
    refine z_mv 6 (d := 20) (.bool true) (IsVal.of_run rfl fun w => (by kernel_rfl)) (by kernel_rfl) ?_
    refine z_skip 7 rfl (by kernel_rfl) rfl (by kernel_rfl) ?_
    refine z_skip 8 rfl (by kernel_rfl) rfl (by kernel_rfl) ?_
    refine z_skip 9 rfl (by kernel_rfl) rfl (by kernel_rfl) ?_
    refine z_skip 10 rfl (by kernel_rfl) rfl (by kernel_rfl) ?_
    refine z_skip 11 rfl (by kernel_rfl) rfl (by kernel_rfl) ?_
    refine z_skip 12 rfl (by kernel_rfl) rfl (by kernel_rfl) ?_
    refine z_mv 13 (d := 27) (.bool true) (IsVal.of_run rfl fun w => (by kernel_rfl)) (by kernel_rfl) ?_
    refine z_mv 14 (d := 28) (.bool true) (IsVal.of_run rfl fun w => (by kernel_rfl)) (by kernel_rfl) ?_
    refine z_skip 15 rfl (by kernel_rfl) rfl (by kernel_rfl) ?_
    refine z_skip 16 rfl (by kernel_rfl) rfl (by kernel_rfl) ?_
    refine z_skip 17 rfl (by kernel_rfl) rfl (by kernel_rfl) ?_
    refine z_skip 18 rfl (by kernel_rfl) rfl (by kernel_rfl) ?_
    refine z_skip 19 rfl (by kernel_rfl) rfl (by kernel_rfl) ?_
    refine z_skip 20 rfl (by kernel_rfl) rfl (by kernel_rfl) ?_
    refine z_skip 21 rfl (by kernel_rfl) rfl (by kernel_rfl) ?_
    refine z_mv 22 (d := 36) (.bool true) (IsVal.of_run rfl fun w => (by kernel_rfl)) (by kernel_rfl) ?_
    refine z_mv 23 (d := 37) (.bool true) (IsVal.of_run rfl fun w => (by kernel_rfl)) (by kernel_rfl) ?_
    refine z_skip 24 rfl (by kernel_rfl) rfl (by kernel_rfl) ?_
    refine z_skip 25 rfl (by kernel_rfl) rfl (by kernel_rfl) ?_
    refine z_skip 26 rfl (by kernel_rfl) rfl (by kernel_rfl) ?_
    refine z_skip 27 rfl (by kernel_rfl) rfl (by kernel_rfl) ?_
    refine z_skip 28 rfl (by kernel_rfl) rfl (by kernel_rfl) ?_
    refine z_skip 29 rfl (by kernel_rfl) rfl (by kernel_rfl) ?_
    refine z_skip 30 rfl (by kernel_rfl) rfl (by kernel_rfl) ?_
    refine z_mv 31 (d := 45) (.bool true) (IsVal.of_run rfl fun w => (by kernel_rfl)) (by kernel_rfl) ?_
    refine z_mv 32 (d := 46) (.bool true) (IsVal.of_run rfl fun w => (by kernel_rfl)) (by kernel_rfl) ?_
    refine z_skip 33 rfl (by kernel_rfl) rfl (by kernel_rfl) ?_
    refine z_skip 34 rfl (by kernel_rfl) rfl (by kernel_rfl) ?_
    refine z_skip 35 rfl (by kernel_rfl) rfl (by kernel_rfl) ?_
    refine z_skip 36 rfl (by kernel_rfl) rfl (by kernel_rfl) ?_
    refine z_skip 37 rfl (by kernel_rfl) rfl (by kernel_rfl) ?_
    refine z_skip 38 rfl (by kernel_rfl) rfl (by kernel_rfl) ?_
    refine z_skip 39 rfl (by kernel_rfl) rfl (by kernel_rfl) ?_
    refine z_mv 40 (d := 54) (.bool true) (IsVal.of_run rfl fun w => (by kernel_rfl)) (by kernel_rfl) ?_
    refine z_end [] fun a w H => ?_
    refine st_true H (by kernel_rfl) ?_
    refine WK.seq ?_
    refine st_floatsM [false, true, false, false] [.tk 1, .op 0, .op 2, .op 3, .mv 4] rfl (by kernel_rfl) (by kernel_rfl) (by kernel_rfl) H ?_
    refine z_tk 1 (d := 56) (.agg #[.int .u8 0, .int .u32 0, .int .u64 0, .int .u8 0, .int .u32 0, .int .u32 0, .bool false, .int .u32 0, .int .u64 0, .int .u64 0, .slice none 0 0, .slice none 0 0, .int .u32 0]) (val_ld (k := 0) (t := 61) (off := 0) rfl (by kernel_rfl) rfl (by kernel_rfl)) (by kernel_rfl) ?_
    refine z_op 0 rfl fun a w Z H => ?_
    refine op_val (d := 55) (v := .agg #[.int .u8 0, .int .u32 0, .int .u64 0, .int .u8 0, .int .u32 0, .int .u32 0, .string ByteArray.empty, .int .u32 0, .int .u32 0, .string ByteArray.empty, .int .u32 0, .int .u32 0, .slice none 0 0]) H (val_ld (k := 2) (t := 28) (off := 0) rfl (by kernel_rfl) rfl (by kernel_rfl)) fun a H => ?_
    refine z_on _ H (fun w Z X => X.mskZ [false, true, false, false] (by kernel_rfl)) (by kernel_rfl) ?_
    refine z_op 2 rfl fun a w Z H => ?_
    refine op_storeZ (k := 2) (t := 28) (off := 0) (v := .agg #[.int .u8 0, .int .u32 0, .int .u64 0, .int .u8 0, .int .u32 0, .int .u32 0, .string ByteArray.empty, .int .u32 0, .int .u32 0, .string ByteArray.empty, .int .u32 0, .int .u32 0, .slice none 0 0]) H rfl (by kernel_rfl) (by kernel_rfl) fun a w H => ?_
    refine z_on _ H (fun w Z X => X.mskZ [false, true, false, false] (by kernel_rfl)) (by kernel_rfl) ?_
    refine z_op 3 rfl fun a w Z H => ?_
    refine op_storeZ (k := 1) (t := 61) (off := 0) (v := .agg #[.int .u8 0, .int .u32 0, .int .u64 0, .int .u8 0, .int .u32 0, .int .u32 0, .bool false, .int .u32 0, .int .u64 0, .int .u64 0, .slice none 0 0, .slice none 0 0, .int .u32 0]) H rfl (by kernel_rfl) (by kernel_rfl) fun a w H => ?_
    refine z_on _ H (fun w Z X => X.mskZ [false, true, false, false] (by kernel_rfl)) (by kernel_rfl) ?_
    refine z_mv 4 (d := 6) (.bool false) (IsVal.of_run rfl fun w => (by kernel_rfl)) (by kernel_rfl) ?_
    refine z_end [] fun a w H => ?_
    have H := St.toL (M := blk b3 (.cells #[.int .u8 ((getB bs).1.client), .int .u32 ((getB bs).1.inc), .int .u64 ((getB bs).1.seq), .int .u8 ((getB bs).1.status), .int .u32 ((getB bs).1.ino), .int .u32 ((getB bs).1.gen), .bool ((getB bs).1.dir), .int .u32 ((getB bs).1.size), .int .u64 ((getB bs).1.change), .int .u64 ((getB bs).1.before), .slice X_1 ((getB bs).1.data.length) x_1, .slice X_2 ((getB bs).1.names.length) x_2, .int .u32 ((getB bs).1.boot)] 61) :: blk b2 (.cells #[.int .u8 0, .int .u32 0, .int .u64 0, .int .u8 0, .int .u32 0, .int .u32 0, .bool false, .int .u32 0, .int .u64 0, .int .u64 0, .slice none 0 0, .slice none 0 0, .int .u32 0] 61) :: blk b1 (.cells #[.int .u8 0, .int .u32 0, .int .u64 0, .int .u8 0, .int .u32 0, .int .u32 0, .string ByteArray.empty, .int .u32 0, .int .u32 0, .string ByteArray.empty, .int .u32 0, .int .u32 0, .slice none 0 0] 28) :: blk b (.cells #[.int .u8 cl, .int .u32 inc, .int .u64 seq, .slice A0 0 cap0] 68) :: L) H (by kernel_rfl)
    refine st_ret (vs := [.agg #[.int .u8 0, .int .u32 0, .int .u64 0, .int .u8 0, .int .u32 0, .int .u32 0, .string ByteArray.empty, .int .u32 0, .int .u32 0, .string ByteArray.empty, .int .u32 0, .int .u32 0, .slice none 0 0], .agg #[.int .u8 0, .int .u32 0, .int .u64 0, .int .u8 0, .int .u32 0, .int .u32 0, .bool false, .int .u32 0, .int .u64 0, .int .u64 0, .slice none 0 0, .slice none 0 0, .int .u32 0], .bool false]) H Tryd.func25 rfl (.cell (by kernel_rfl) (H.sat.blk (k := 2) rfl) (by kernel_rfl) (.cell (by kernel_rfl) (H.sat.blk (k := 1) rfl) (by kernel_rfl) (.tmp (by kernel_rfl) (.nil)))) ?_
    have X := (H.sat.msk [false, false, false, true])
    exact ⟨R1, hleR1, rfl, X⟩
  · skip
    refine z_also (d := 16) (u := .bool (!((((getB bs).2) : Int) == 0))) (.bool false) rfl (congrArg Value.bool (hg1)) ?_
    have hg1n := notF hg1
    have hg1' := eq_of_beq (notF hg1)
    refine z_tk 3 (d := 17) (.pointer (some ⟨b, 0, none⟩)) (IsVal.of_run rfl fun w => (by kernel_rfl)) (by kernel_rfl) ?_
    refine z_op 4 rfl fun a w Z H => ?_
    refine op_call (d := 18) H (by kernel_rfl) rfl (rpc_none b cl inc seq A0 0 cap0 (H.sat.frontZ 3 rfl)) fun a v w q F => ?_
    obtain ⟨rfl, X⟩ := q
    have H := St.mk F X
    have H : St _ _ _ _ _ _ ((blk b (.cells #[.int .u8 cl, .int .u32 inc, .int .u64 seq, .slice A0 0 cap0] 68) :: blk b3 (.cells #[.int .u8 ((getB bs).1.client), .int .u32 ((getB bs).1.inc), .int .u64 ((getB bs).1.seq), .int .u8 ((getB bs).1.status), .int .u32 ((getB bs).1.ino), .int .u32 ((getB bs).1.gen), .bool ((getB bs).1.dir), .int .u32 ((getB bs).1.size), .int .u64 ((getB bs).1.change), .int .u64 ((getB bs).1.before), .slice X_1 ((getB bs).1.data.length) x_1, .slice X_2 ((getB bs).1.names.length) x_2, .int .u32 ((getB bs).1.boot)] 61) :: blk b2 (.cells #[.int .u8 0, .int .u32 0, .int .u64 0, .int .u8 0, .int .u32 0, .int .u32 0, .bool false, .int .u32 0, .int .u64 0, .int .u64 0, .slice none 0 0, .slice none 0 0, .int .u32 0] 61) :: blk b1 (.cells #[.int .u8 0, .int .u32 0, .int .u64 0, .int .u8 0, .int .u32 0, .int .u32 0, .string ByteArray.empty, .int .u32 0, .int .u32 0, .string ByteArray.empty, .int .u32 0, .int .u32 0, .slice none 0 0] 28) :: L) ++ Z) := H
    have H := St.mk H.sl (H.sat.frontZ 1 rfl)
    refine z_on (blk b3 (.cells #[.int .u8 ((getB bs).1.client), .int .u32 ((getB bs).1.inc), .int .u64 ((getB bs).1.seq), .int .u8 ((getB bs).1.status), .int .u32 ((getB bs).1.ino), .int .u32 ((getB bs).1.gen), .bool ((getB bs).1.dir), .int .u32 ((getB bs).1.size), .int .u64 ((getB bs).1.change), .int .u64 ((getB bs).1.before), .slice X_1 ((getB bs).1.data.length) x_1, .slice X_2 ((getB bs).1.names.length) x_2, .int .u32 ((getB bs).1.boot)] 61) :: blk b (.cells #[.int .u8 cl, .int .u32 inc, .int .u64 seq, .slice A0 0 cap0] 68) :: blk b2 (.cells #[.int .u8 0, .int .u32 0, .int .u64 0, .int .u8 0, .int .u32 0, .int .u32 0, .bool false, .int .u32 0, .int .u64 0, .int .u64 0, .slice none 0 0, .slice none 0 0, .int .u32 0] 61) :: blk b1 (.cells #[.int .u8 0, .int .u32 0, .int .u64 0, .int .u8 0, .int .u32 0, .int .u32 0, .string ByteArray.empty, .int .u32 0, .int .u32 0, .string ByteArray.empty, .int .u32 0, .int .u32 0, .slice none 0 0] 28) :: L) H (fun w Z X => X.mskZ [true, true, false, false] (by kernel_rfl)) (by kernel_rfl) ?_
    refine z_mv 5 (d := 19) (.bool ((inc : Int) == 0)) (IsVal.of_run rfl fun w => (by kernel_rfl)) (by kernel_rfl) ?_
    refine z_mv 6 (d := 20) (.bool ((inc : Int) == 0)) (IsVal.of_run rfl fun w => (by kernel_rfl)) (by kernel_rfl) ?_
    rcases Bool.eq_false_or_eq_true ((inc : Int) == 0) with hg2 | hg2
    · skip
      refine z_also (d := 20) (u := .bool ((inc : Int) == 0)) (.bool true) rfl (congrArg Value.bool (hg2)) ?_
      have hg2' := eq_of_beq hg2
      refine z_skip 7 rfl (by kernel_rfl) rfl (by kernel_rfl) ?_
      refine z_skip 8 rfl (by kernel_rfl) rfl (by kernel_rfl) ?_
      refine z_skip 9 rfl (by kernel_rfl) rfl (by kernel_rfl) ?_
      refine z_skip 10 rfl (by kernel_rfl) rfl (by kernel_rfl) ?_
      refine z_skip 11 rfl (by kernel_rfl) rfl (by kernel_rfl) ?_
      refine z_skip 12 rfl (by kernel_rfl) rfl (by kernel_rfl) ?_
      refine z_mv 13 (d := 27) (.bool true) (IsVal.of_run rfl fun w => (by kernel_rfl)) (by kernel_rfl) ?_
      refine z_mv 14 (d := 28) (.bool true) (IsVal.of_run rfl fun w => (by kernel_rfl)) (by kernel_rfl) ?_
      refine z_skip 15 rfl (by kernel_rfl) rfl (by kernel_rfl) ?_
      refine z_skip 16 rfl (by kernel_rfl) rfl (by kernel_rfl) ?_
      refine z_skip 17 rfl (by kernel_rfl) rfl (by kernel_rfl) ?_
      refine z_skip 18 rfl (by kernel_rfl) rfl (by kernel_rfl) ?_
      refine z_skip 19 rfl (by kernel_rfl) rfl (by kernel_rfl) ?_
      refine z_skip 20 rfl (by kernel_rfl) rfl (by kernel_rfl) ?_
      refine z_skip 21 rfl (by kernel_rfl) rfl (by kernel_rfl) ?_
      refine z_mv 22 (d := 36) (.bool true) (IsVal.of_run rfl fun w => (by kernel_rfl)) (by kernel_rfl) ?_
      refine z_mv 23 (d := 37) (.bool true) (IsVal.of_run rfl fun w => (by kernel_rfl)) (by kernel_rfl) ?_
      refine z_skip 24 rfl (by kernel_rfl) rfl (by kernel_rfl) ?_
      refine z_skip 25 rfl (by kernel_rfl) rfl (by kernel_rfl) ?_
      refine z_skip 26 rfl (by kernel_rfl) rfl (by kernel_rfl) ?_
      refine z_skip 27 rfl (by kernel_rfl) rfl (by kernel_rfl) ?_
      refine z_skip 28 rfl (by kernel_rfl) rfl (by kernel_rfl) ?_
      refine z_skip 29 rfl (by kernel_rfl) rfl (by kernel_rfl) ?_
      refine z_skip 30 rfl (by kernel_rfl) rfl (by kernel_rfl) ?_
      refine z_mv 31 (d := 45) (.bool true) (IsVal.of_run rfl fun w => (by kernel_rfl)) (by kernel_rfl) ?_
      refine z_mv 32 (d := 46) (.bool true) (IsVal.of_run rfl fun w => (by kernel_rfl)) (by kernel_rfl) ?_
      refine z_skip 33 rfl (by kernel_rfl) rfl (by kernel_rfl) ?_
      refine z_skip 34 rfl (by kernel_rfl) rfl (by kernel_rfl) ?_
      refine z_skip 35 rfl (by kernel_rfl) rfl (by kernel_rfl) ?_
      refine z_skip 36 rfl (by kernel_rfl) rfl (by kernel_rfl) ?_
      refine z_skip 37 rfl (by kernel_rfl) rfl (by kernel_rfl) ?_
      refine z_skip 38 rfl (by kernel_rfl) rfl (by kernel_rfl) ?_
      refine z_skip 39 rfl (by kernel_rfl) rfl (by kernel_rfl) ?_
      refine z_mv 40 (d := 54) (.bool true) (IsVal.of_run rfl fun w => (by kernel_rfl)) (by kernel_rfl) ?_
      refine z_end [] fun a w H => ?_
      refine st_true H (by kernel_rfl) ?_
      refine WK.seq ?_
      refine st_floatsM [false, false, true, false] [.tk 1, .op 0, .op 2, .op 3, .mv 4] rfl (by kernel_rfl) (by kernel_rfl) (by kernel_rfl) H ?_
      refine z_tk 1 (d := 56) (.agg #[.int .u8 0, .int .u32 0, .int .u64 0, .int .u8 0, .int .u32 0, .int .u32 0, .bool false, .int .u32 0, .int .u64 0, .int .u64 0, .slice none 0 0, .slice none 0 0, .int .u32 0]) (val_ld (k := 0) (t := 61) (off := 0) rfl (by kernel_rfl) rfl (by kernel_rfl)) (by kernel_rfl) ?_
      refine z_op 0 rfl fun a w Z H => ?_
      refine op_val (d := 55) (v := .agg #[.int .u8 0, .int .u32 0, .int .u64 0, .int .u8 0, .int .u32 0, .int .u32 0, .string ByteArray.empty, .int .u32 0, .int .u32 0, .string ByteArray.empty, .int .u32 0, .int .u32 0, .slice none 0 0]) H (val_ld (k := 3) (t := 28) (off := 0) rfl (by kernel_rfl) rfl (by kernel_rfl)) fun a H => ?_
      refine z_on _ H (fun w Z X => X.mskZ [false, false, true, false] (by kernel_rfl)) (by kernel_rfl) ?_
      refine z_op 2 rfl fun a w Z H => ?_
      refine op_storeZ (k := 3) (t := 28) (off := 0) (v := .agg #[.int .u8 0, .int .u32 0, .int .u64 0, .int .u8 0, .int .u32 0, .int .u32 0, .string ByteArray.empty, .int .u32 0, .int .u32 0, .string ByteArray.empty, .int .u32 0, .int .u32 0, .slice none 0 0]) H rfl (by kernel_rfl) (by kernel_rfl) fun a w H => ?_
      refine z_on _ H (fun w Z X => X.mskZ [false, false, true, false] (by kernel_rfl)) (by kernel_rfl) ?_
      refine z_op 3 rfl fun a w Z H => ?_
      refine op_storeZ (k := 2) (t := 61) (off := 0) (v := .agg #[.int .u8 0, .int .u32 0, .int .u64 0, .int .u8 0, .int .u32 0, .int .u32 0, .bool false, .int .u32 0, .int .u64 0, .int .u64 0, .slice none 0 0, .slice none 0 0, .int .u32 0]) H rfl (by kernel_rfl) (by kernel_rfl) fun a w H => ?_
      refine z_on _ H (fun w Z X => X.mskZ [false, false, true, false] (by kernel_rfl)) (by kernel_rfl) ?_
      refine z_mv 4 (d := 6) (.bool false) (IsVal.of_run rfl fun w => (by kernel_rfl)) (by kernel_rfl) ?_
      refine z_end [] fun a w H => ?_
      have H := St.toL (M := blk b3 (.cells #[.int .u8 ((getB bs).1.client), .int .u32 ((getB bs).1.inc), .int .u64 ((getB bs).1.seq), .int .u8 ((getB bs).1.status), .int .u32 ((getB bs).1.ino), .int .u32 ((getB bs).1.gen), .bool ((getB bs).1.dir), .int .u32 ((getB bs).1.size), .int .u64 ((getB bs).1.change), .int .u64 ((getB bs).1.before), .slice X_1 ((getB bs).1.data.length) x_1, .slice X_2 ((getB bs).1.names.length) x_2, .int .u32 ((getB bs).1.boot)] 61) :: blk b (.cells #[.int .u8 cl, .int .u32 inc, .int .u64 seq, .slice A0 0 cap0] 68) :: blk b2 (.cells #[.int .u8 0, .int .u32 0, .int .u64 0, .int .u8 0, .int .u32 0, .int .u32 0, .bool false, .int .u32 0, .int .u64 0, .int .u64 0, .slice none 0 0, .slice none 0 0, .int .u32 0] 61) :: blk b1 (.cells #[.int .u8 0, .int .u32 0, .int .u64 0, .int .u8 0, .int .u32 0, .int .u32 0, .string ByteArray.empty, .int .u32 0, .int .u32 0, .string ByteArray.empty, .int .u32 0, .int .u32 0, .slice none 0 0] 28) :: L) H (by kernel_rfl)
      refine st_ret (vs := [.agg #[.int .u8 0, .int .u32 0, .int .u64 0, .int .u8 0, .int .u32 0, .int .u32 0, .string ByteArray.empty, .int .u32 0, .int .u32 0, .string ByteArray.empty, .int .u32 0, .int .u32 0, .slice none 0 0], .agg #[.int .u8 0, .int .u32 0, .int .u64 0, .int .u8 0, .int .u32 0, .int .u32 0, .bool false, .int .u32 0, .int .u64 0, .int .u64 0, .slice none 0 0, .slice none 0 0, .int .u32 0], .bool false]) H Tryd.func25 rfl (.cell (by kernel_rfl) (H.sat.blk (k := 3) rfl) (by kernel_rfl) (.cell (by kernel_rfl) (H.sat.blk (k := 2) rfl) (by kernel_rfl) (.tmp (by kernel_rfl) (.nil)))) ?_
      have X := (H.sat.msk [false, true, false, false])
      exact ⟨R1, hleR1, rfl, X⟩
    · skip
      refine z_also (d := 20) (u := .bool ((inc : Int) == 0)) (.bool false) rfl (congrArg Value.bool (hg2)) ?_
      have hg2' := neB hg2
      refine z_tk 7 (d := 21) (.pointer (some ⟨b, 0, none⟩)) (IsVal.of_run rfl fun w => (by kernel_rfl)) (by kernel_rfl) ?_
      refine z_tk 8 (d := 22) (.pointer (some ⟨b, 0, none⟩)) (IsVal.of_run rfl fun w => (by kernel_rfl)) (by kernel_rfl) ?_
      refine z_tk 9 (d := 23) (.pointer (some ⟨b, 3, none⟩)) (IsVal.of_run rfl fun w => (by kernel_rfl)) (by kernel_rfl) ?_
      refine z_tk 10 (d := 24) (.slice A0 0 cap0) (val_ld (k := 1) (t := 66) (off := 3) rfl (by kernel_rfl) rfl (by kernel_rfl)) (by kernel_rfl) ?_
      refine z_tk 11 (d := 25) (.int .i64 ((0 : Nat) : Int)) (IsVal.of_run rfl fun w => (by kernel_rfl)) (by kernel_rfl) ?_
      refine z_tk 12 (d := 26) (.bool ((((0 : Nat) : Int) : Int) == 0)) (IsVal.of_run rfl fun w => (by kernel_rfl)) (by kernel_rfl) ?_
      refine z_mv 13 (d := 27) (.bool ((((0 : Nat) : Int) : Int) == 0)) (IsVal.of_run rfl fun w => (by kernel_rfl)) (by kernel_rfl) ?_
      refine z_mv 14 (d := 28) (.bool ((((0 : Nat) : Int) : Int) == 0)) (IsVal.of_run rfl fun w => (by kernel_rfl)) (by kernel_rfl) ?_
      have hk1 : ((((0 : Nat) : Int) : Int) == 0) = true := by kernel_rfl
      refine z_also (d := 28) (u := .bool ((((0 : Nat) : Int) : Int) == 0)) (.bool true) rfl (congrArg Value.bool (hk1)) ?_
      refine z_skip 15 rfl (by kernel_rfl) rfl (by kernel_rfl) ?_
      refine z_skip 16 rfl (by kernel_rfl) rfl (by kernel_rfl) ?_
      refine z_skip 17 rfl (by kernel_rfl) rfl (by kernel_rfl) ?_
      refine z_skip 18 rfl (by kernel_rfl) rfl (by kernel_rfl) ?_
      refine z_skip 19 rfl (by kernel_rfl) rfl (by kernel_rfl) ?_
      refine z_skip 20 rfl (by kernel_rfl) rfl (by kernel_rfl) ?_
      refine z_skip 21 rfl (by kernel_rfl) rfl (by kernel_rfl) ?_
      refine z_mv 22 (d := 36) (.bool true) (IsVal.of_run rfl fun w => (by kernel_rfl)) (by kernel_rfl) ?_
      refine z_mv 23 (d := 37) (.bool true) (IsVal.of_run rfl fun w => (by kernel_rfl)) (by kernel_rfl) ?_
      refine z_skip 24 rfl (by kernel_rfl) rfl (by kernel_rfl) ?_
      refine z_skip 25 rfl (by kernel_rfl) rfl (by kernel_rfl) ?_
      refine z_skip 26 rfl (by kernel_rfl) rfl (by kernel_rfl) ?_
      refine z_skip 27 rfl (by kernel_rfl) rfl (by kernel_rfl) ?_
      refine z_skip 28 rfl (by kernel_rfl) rfl (by kernel_rfl) ?_
      refine z_skip 29 rfl (by kernel_rfl) rfl (by kernel_rfl) ?_
      refine z_skip 30 rfl (by kernel_rfl) rfl (by kernel_rfl) ?_
      refine z_mv 31 (d := 45) (.bool true) (IsVal.of_run rfl fun w => (by kernel_rfl)) (by kernel_rfl) ?_
      refine z_mv 32 (d := 46) (.bool true) (IsVal.of_run rfl fun w => (by kernel_rfl)) (by kernel_rfl) ?_
      refine z_skip 33 rfl (by kernel_rfl) rfl (by kernel_rfl) ?_
      refine z_skip 34 rfl (by kernel_rfl) rfl (by kernel_rfl) ?_
      refine z_skip 35 rfl (by kernel_rfl) rfl (by kernel_rfl) ?_
      refine z_skip 36 rfl (by kernel_rfl) rfl (by kernel_rfl) ?_
      refine z_skip 37 rfl (by kernel_rfl) rfl (by kernel_rfl) ?_
      refine z_skip 38 rfl (by kernel_rfl) rfl (by kernel_rfl) ?_
      refine z_skip 39 rfl (by kernel_rfl) rfl (by kernel_rfl) ?_
      refine z_mv 40 (d := 54) (.bool true) (IsVal.of_run rfl fun w => (by kernel_rfl)) (by kernel_rfl) ?_
      refine z_end [] fun a w H => ?_
      refine st_true H (by kernel_rfl) ?_
      refine WK.seq ?_
      refine st_floatsM [false, false, true, false] [.tk 1, .op 0, .op 2, .op 3, .mv 4] rfl (by kernel_rfl) (by kernel_rfl) (by kernel_rfl) H ?_
      refine z_tk 1 (d := 56) (.agg #[.int .u8 0, .int .u32 0, .int .u64 0, .int .u8 0, .int .u32 0, .int .u32 0, .bool false, .int .u32 0, .int .u64 0, .int .u64 0, .slice none 0 0, .slice none 0 0, .int .u32 0]) (val_ld (k := 0) (t := 61) (off := 0) rfl (by kernel_rfl) rfl (by kernel_rfl)) (by kernel_rfl) ?_
      refine z_op 0 rfl fun a w Z H => ?_
      refine op_val (d := 55) (v := .agg #[.int .u8 0, .int .u32 0, .int .u64 0, .int .u8 0, .int .u32 0, .int .u32 0, .string ByteArray.empty, .int .u32 0, .int .u32 0, .string ByteArray.empty, .int .u32 0, .int .u32 0, .slice none 0 0]) H (val_ld (k := 3) (t := 28) (off := 0) rfl (by kernel_rfl) rfl (by kernel_rfl)) fun a H => ?_
      refine z_on _ H (fun w Z X => X.mskZ [false, false, true, false] (by kernel_rfl)) (by kernel_rfl) ?_
      refine z_op 2 rfl fun a w Z H => ?_
      refine op_storeZ (k := 3) (t := 28) (off := 0) (v := .agg #[.int .u8 0, .int .u32 0, .int .u64 0, .int .u8 0, .int .u32 0, .int .u32 0, .string ByteArray.empty, .int .u32 0, .int .u32 0, .string ByteArray.empty, .int .u32 0, .int .u32 0, .slice none 0 0]) H rfl (by kernel_rfl) (by kernel_rfl) fun a w H => ?_
      refine z_on _ H (fun w Z X => X.mskZ [false, false, true, false] (by kernel_rfl)) (by kernel_rfl) ?_
      refine z_op 3 rfl fun a w Z H => ?_
      refine op_storeZ (k := 2) (t := 61) (off := 0) (v := .agg #[.int .u8 0, .int .u32 0, .int .u64 0, .int .u8 0, .int .u32 0, .int .u32 0, .bool false, .int .u32 0, .int .u64 0, .int .u64 0, .slice none 0 0, .slice none 0 0, .int .u32 0]) H rfl (by kernel_rfl) (by kernel_rfl) fun a w H => ?_
      refine z_on _ H (fun w Z X => X.mskZ [false, false, true, false] (by kernel_rfl)) (by kernel_rfl) ?_
      refine z_mv 4 (d := 6) (.bool false) (IsVal.of_run rfl fun w => (by kernel_rfl)) (by kernel_rfl) ?_
      refine z_end [] fun a w H => ?_
      have H := St.toL (M := blk b3 (.cells #[.int .u8 ((getB bs).1.client), .int .u32 ((getB bs).1.inc), .int .u64 ((getB bs).1.seq), .int .u8 ((getB bs).1.status), .int .u32 ((getB bs).1.ino), .int .u32 ((getB bs).1.gen), .bool ((getB bs).1.dir), .int .u32 ((getB bs).1.size), .int .u64 ((getB bs).1.change), .int .u64 ((getB bs).1.before), .slice X_1 ((getB bs).1.data.length) x_1, .slice X_2 ((getB bs).1.names.length) x_2, .int .u32 ((getB bs).1.boot)] 61) :: blk b (.cells #[.int .u8 cl, .int .u32 inc, .int .u64 seq, .slice A0 0 cap0] 68) :: blk b2 (.cells #[.int .u8 0, .int .u32 0, .int .u64 0, .int .u8 0, .int .u32 0, .int .u32 0, .bool false, .int .u32 0, .int .u64 0, .int .u64 0, .slice none 0 0, .slice none 0 0, .int .u32 0] 61) :: blk b1 (.cells #[.int .u8 0, .int .u32 0, .int .u64 0, .int .u8 0, .int .u32 0, .int .u32 0, .string ByteArray.empty, .int .u32 0, .int .u32 0, .string ByteArray.empty, .int .u32 0, .int .u32 0, .slice none 0 0] 28) :: L) H (by kernel_rfl)
      refine st_ret (vs := [.agg #[.int .u8 0, .int .u32 0, .int .u64 0, .int .u8 0, .int .u32 0, .int .u32 0, .string ByteArray.empty, .int .u32 0, .int .u32 0, .string ByteArray.empty, .int .u32 0, .int .u32 0, .slice none 0 0], .agg #[.int .u8 0, .int .u32 0, .int .u64 0, .int .u8 0, .int .u32 0, .int .u32 0, .bool false, .int .u32 0, .int .u64 0, .int .u64 0, .slice none 0 0, .slice none 0 0, .int .u32 0], .bool false]) H Tryd.func25 rfl (.cell (by kernel_rfl) (H.sat.blk (k := 3) rfl) (by kernel_rfl) (.cell (by kernel_rfl) (H.sat.blk (k := 2) rfl) (by kernel_rfl) (.tmp (by kernel_rfl) (.nil)))) ?_
      have X := (H.sat.msk [false, true, false, false])
      exact ⟨R1, hleR1, rfl, X⟩

/-- (*wharfage/rpc.Line).Take -/
theorem rpc_take {e w : World} {R : Hp} {L : List HP} (b : Nat) (g0 : Nat) (cap : Nat) (p : Nat) (cur : Array Value) (cl : Int) (inc : Int) (seq : Int) (c : CallS) (A : Option Addr) (k : Nat) (at_ : Int) (wait : Int) (sent : Int) (X0 : Option Addr) (kx : Nat) (bs : List UInt8) (hcur : cur[0]? = some (.pointer (some ⟨p, 0, none⟩))) (h2 : 0 < inc ∧ inc ≤ 4294967295) (hcap : 1 ≤ cap) (hd : RdB R A k c.data) (hr : RdB R X0 kx bs) (hT : Tabs 0 1 R) (X : Sat e w R (blk b (.cells #[.int .u8 cl, .int .u32 inc, .int .u64 seq, .slice (some ⟨g0, 0, none⟩) 1 cap] 68) :: blkC g0 cur 125 :: blk p (.cells #[.int .u8 c.client, .int .u32 c.inc, .int .u64 c.seq, .int .u8 c.kind, .int .u32 c.ino, .int .u32 c.gen, .string c.name, .int .u32 c.toIno, .int .u32 c.toGen, .string c.toName, .int .u32 c.off, .int .u32 c.size, .slice A c.data.length k, .int .u64 at_, .int .u64 wait, .int .i64 sent] 70) :: L)) :
    Calls Tryd.prog 25 #[.pointer (some ⟨b, 0, none⟩), .slice X0 bs.length kx] w (Ret fun v w' => (∃ R', R.Le R' ∧ (takeB (getB bs) cl inc seq = false) ∧ v = .tuple #[.agg #[.int .u8 0, .int .u32 0, .int .u64 0, .int .u8 0, .int .u32 0, .int .u32 0, .string ByteArray.empty, .int .u32 0, .int .u32 0, .string ByteArray.empty, .int .u32 0, .int .u32 0, .slice none 0 0], .agg #[.int .u8 0, .int .u32 0, .int .u64 0, .int .u8 0, .int .u32 0, .int .u32 0, .bool false, .int .u32 0, .int .u64 0, .int .u64 0, .slice none 0 0, .slice none 0 0, .int .u32 0], .bool false] ∧ Sat e w' R' (blk b (.cells #[.int .u8 cl, .int .u32 inc, .int .u64 seq, .slice (some ⟨g0, 0, none⟩) 1 cap] 68) :: blkC g0 cur 125 :: blk p (.cells #[.int .u8 c.client, .int .u32 c.inc, .int .u64 c.seq, .int .u8 c.kind, .int .u32 c.ino, .int .u32 c.gen, .string c.name, .int .u32 c.toIno, .int .u32 c.toGen, .string c.toName, .int .u32 c.off, .int .u32 c.size, .slice A c.data.length k, .int .u64 at_, .int .u64 wait, .int .i64 sent] 70) :: L)) ∨ (∃ R', R.Le R' ∧ ∃ A2 : Option Addr, ∃ k2 : Nat, ∃ N2 : Option Addr, ∃ n2 : Nat, ∃ A1 : Option Addr, (takeB (getB bs) cl inc seq = true) ∧ v = .tuple #[.agg #[.int .u8 c.client, .int .u32 c.inc, .int .u64 c.seq, .int .u8 c.kind, .int .u32 c.ino, .int .u32 c.gen, .string c.name, .int .u32 c.toIno, .int .u32 c.toGen, .string c.toName, .int .u32 c.off, .int .u32 c.size, .slice A c.data.length k], .agg #[.int .u8 ((getB bs).1.client), .int .u32 ((getB bs).1.inc), .int .u64 ((getB bs).1.seq), .int .u8 ((getB bs).1.status), .int .u32 ((getB bs).1.ino), .int .u32 ((getB bs).1.gen), .bool ((getB bs).1.dir), .int .u32 ((getB bs).1.size), .int .u64 ((getB bs).1.change), .int .u64 ((getB bs).1.before), .slice A2 ((getB bs).1.data.length) k2, .slice N2 ((getB bs).1.names.length) n2, .int .u32 ((getB bs).1.boot)], .bool true] ∧ Sat e w' R' (blk b (.cells #[.int .u8 cl, .int .u32 inc, .int .u64 seq, .slice A1 0 cap] 68) :: L))) := by
  refine enter (n := 67) (args := [.pointer (some ⟨b, 0, none⟩), .slice X0 bs.length kx]) Tryd.func25 rfl rfl rfl X (fun a H => ?_)
  refine WK.seq ?_
  refine st_text 3 rfl ?_
  refine st_op 0 2 (op_new (d := 4) (vf := fun b => .pointer (some ⟨b, 0, none⟩)) (ob := .cells #[.int .u8 0, .int .u32 0, .int .u64 0, .int .u8 0, .int .u32 0, .int .u32 0, .string ByteArray.empty, .int .u32 0, .int .u32 0, .string ByteArray.empty, .int .u32 0, .int .u32 0, .slice none 0 0] 28) H (IsNew.of_run rfl fun w => (by kernel_rfl)) fun a w b1 H => ?_)
  refine st_op 1 1 (op_new (d := 5) (vf := fun b => .pointer (some ⟨b, 0, none⟩)) (ob := .cells #[.int .u8 0, .int .u32 0, .int .u64 0, .int .u8 0, .int .u32 0, .int .u32 0, .bool false, .int .u32 0, .int .u64 0, .int .u64 0, .slice none 0 0, .slice none 0 0, .int .u32 0] 61) H (IsNew.of_run rfl fun w => (by kernel_rfl)) fun a w b2 H => ?_)
  refine st_run 2 1 0 [(6, .bool false)] H (by kernel_rfl) fun a H => ?_
  refine ops_end _ ?_
  refine WK.seq ?_
  refine st_text 8 rfl ?_
  refine st_run 0 1 7 [(10, .slice X0 bs.length kx)] H (by kernel_rfl) fun a H => ?_
  refine st_op 1 6 (op_call (d := 11) H (by kernel_rfl) rfl (back_get X0 kx bs (by first | assumption | omega) (by first | assumption | omega) H.sat) fun a v w q F => ?_)
  obtain ⟨R1, hle, X_1, x_1, X_2, x_2, hf1, hf2, rfl, X⟩ := q
  have H := St.mk F X
  have hr := hr.grow hle
  have hd := hd.grow hle
  have hT := hT.grow hle
  have hleR1 := hle
  refine st_run 2 3 3 [(13, .int .i64 ((getB bs).2)), (12, .agg #[.int .u8 ((getB bs).1.client), .int .u32 ((getB bs).1.inc), .int .u64 ((getB bs).1.seq), .int .u8 ((getB bs).1.status), .int .u32 ((getB bs).1.ino), .int .u32 ((getB bs).1.gen), .bool ((getB bs).1.dir), .int .u32 ((getB bs).1.size), .int .u64 ((getB bs).1.change), .int .u64 ((getB bs).1.before), .slice X_1 ((getB bs).1.data.length) x_1, .slice X_2 ((getB bs).1.names.length) x_2, .int .u32 ((getB bs).1.boot)]), (9, .tuple #[.agg #[.int .u8 ((getB bs).1.client), .int .u32 ((getB bs).1.inc), .int .u64 ((getB bs).1.seq), .int .u8 ((getB bs).1.status), .int .u32 ((getB bs).1.ino), .int .u32 ((getB bs).1.gen), .bool ((getB bs).1.dir), .int .u32 ((getB bs).1.size), .int .u64 ((getB bs).1.change), .int .u64 ((getB bs).1.before), .slice X_1 ((getB bs).1.data.length) x_1, .slice X_2 ((getB bs).1.names.length) x_2, .int .u32 ((getB bs).1.boot)], .int .i64 ((getB bs).2)])] H (by kernel_rfl) fun a H => ?_
  refine st_op 5 2 (op_new (d := 7) (vf := fun b => .pointer (some ⟨b, 0, none⟩)) (ob := .cells #[.int .u8 0, .int .u32 0, .int .u64 0, .int .u8 0, .int .u32 0, .int .u32 0, .bool false, .int .u32 0, .int .u64 0, .int .u64 0, .slice none 0 0, .slice none 0 0, .int .u32 0] 61) H (IsNew.of_run rfl fun w => (by kernel_rfl)) fun a w b3 H => ?_)
  refine st_op 6 1 (op_store (k := 0) (t := 61) (off := 0) (v := .agg #[.int .u8 ((getB bs).1.client), .int .u32 ((getB bs).1.inc), .int .u64 ((getB bs).1.seq), .int .u8 ((getB bs).1.status), .int .u32 ((getB bs).1.ino), .int .u32 ((getB bs).1.gen), .bool ((getB bs).1.dir), .int .u32 ((getB bs).1.size), .int .u64 ((getB bs).1.change), .int .u64 ((getB bs).1.before), .slice X_1 ((getB bs).1.data.length) x_1, .slice X_2 ((getB bs).1.names.length) x_2, .int .u32 ((getB bs).1.boot)]) H rfl (by kernel_rfl) (by kernel_rfl) fun a w H => ?_)
  refine st_run 7 1 0 [(8, .int .i64 ((getB bs).2))] H (by kernel_rfl) fun a H => ?_
  refine ops_end _ ?_
  have H := St.toL (M := blk b3 (.cells #[.int .u8 ((getB bs).1.client), .int .u32 ((getB bs).1.inc), .int .u64 ((getB bs).1.seq), .int .u8 ((getB bs).1.status), .int .u32 ((getB bs).1.ino), .int .u32 ((getB bs).1.gen), .bool ((getB bs).1.dir), .int .u32 ((getB bs).1.size), .int .u64 ((getB bs).1.change), .int .u64 ((getB bs).1.before), .slice X_1 ((getB bs).1.data.length) x_1, .slice X_2 ((getB bs).1.names.length) x_2, .int .u32 ((getB bs).1.boot)] 61) :: blk b2 (.cells #[.int .u8 0, .int .u32 0, .int .u64 0, .int .u8 0, .int .u32 0, .int .u32 0, .bool false, .int .u32 0, .int .u64 0, .int .u64 0, .slice none 0 0, .slice none 0 0, .int .u32 0] 61) :: blk b1 (.cells #[.int .u8 0, .int .u32 0, .int .u64 0, .int .u8 0, .int .u32 0, .int .u32 0, .string ByteArray.empty, .int .u32 0, .int .u32 0, .string ByteArray.empty, .int .u32 0, .int .u32 0, .slice none 0 0] 28) :: blk b (.cells #[.int .u8 cl, .int .u32 inc, .int .u64 seq, .slice (some ⟨g0, 0, none⟩) 1 cap] 68) :: blkC g0 cur 125 :: blk p (.cells #[.int .u8 c.client, .int .u32 c.inc, .int .u64 c.seq, .int .u8 c.kind, .int .u32 c.ino, .int .u32 c.gen, .string c.name, .int .u32 c.toIno, .int .u32 c.toGen, .string c.toName, .int .u32 c.off, .int .u32 c.size, .slice A c.data.length k, .int .u64 at_, .int .u64 wait, .int .i64 sent] 70) :: L) H (by kernel_rfl)
  refine WK.seq ?_
  refine WK.seq ?_
  refine st_floatsM [true, false, false, true, false, false] [.mv 0, .mv 1, .mv 2, .tk 3, .op 4, .mv 5, .mv 6, .tk 7, .tk 8, .tk 9, .tk 10, .tk 11, .tk 12, .mv 13, .mv 14, .tk 15, .tk 16, .tk 17, .tk 18, .tk 19, .tk 20, .tk 21, .mv 22, .mv 23, .tk 24, .tk 25, .tk 26, .tk 27, .tk 28, .tk 29, .tk 30, .mv 31, .mv 32, .tk 33, .tk 34, .tk 35, .tk 36, .tk 37, .tk 38, .tk 39, .mv 40] rfl (by kernel_rfl) (by kernel_rfl) (by kernel_rfl) H ?_
  refine z_mv 0 (d := 14) (.int .i64 ((getB bs).2)) (IsVal.of_run rfl fun w => (by kernel_rfl)) (by kernel_rfl) ?_
  refine z_mv 1 (d := 15) (.bool (!((((getB bs).2) : Int) == 0))) (IsVal.of_run rfl fun w => (by kernel_rfl)) (by kernel_rfl) ?_
  refine z_mv 2 (d := 16) (.bool (!((((getB bs).2) : Int) == 0))) (IsVal.of_run rfl fun w => (by kernel_rfl)) (by kernel_rfl) ?_
  rcases Bool.eq_false_or_eq_true (!((((getB bs).2) : Int) == 0)) with hg1 | hg1
  · skip
    refine z_also (d := 16) (u := .bool (!((((getB bs).2) : Int) == 0))) (.bool true) rfl (congrArg Value.bool (hg1)) ?_
    have hg1n := notT hg1
    have hg1' := neB (notT hg1)
    refine z_skip 3 rfl (by kernel_rfl) rfl (by kernel_rfl) ?_
    refine z_op 4 rfl fun a w Z H => ?_
    refine op_not (d := 18) H rfl (by kernel_rfl) rfl (by kernel_rfl) fun a H => ?_
    refine z_on _ H (fun w Z X => X.mskZ [true, false, false, true, false, false] (by kernel_rfl)) (by kernel_rfl) ?_
    refine z_mv 5 (d := 19) (.bool true) (IsVal.of_run rfl fun w => (by kernel_rfl)) (by kernel_rfl) ?_
    refine z_mv 6 (d := 20) (.bool true) (IsVal.of_run rfl fun w => (by kernel_rfl)) (by kernel_rfl) ?_
    refine z_skip 7 rfl (by kernel_rfl) rfl (by kernel_rfl) ?_
    refine z_skip 8 rfl (by kernel_rfl) rfl (by kernel_rfl) ?_
    refine z_skip 9 rfl (by kernel_rfl) rfl (by kernel_rfl) ?_
    refine z_skip 10 rfl (by kernel_rfl) rfl (by kernel_rfl) ?_
    refine z_skip 11 rfl (by kernel_rfl) rfl (by kernel_rfl) ?_
    refine z_skip 12 rfl (by kernel_rfl) rfl (by kernel_rfl) ?_
    refine z_mv 13 (d := 27) (.bool true) (IsVal.of_run rfl fun w => (by kernel_rfl)) (by kernel_rfl) ?_
    refine z_mv 14 (d := 28) (.bool true) (IsVal.of_run rfl fun w => (by kernel_rfl)) (by kernel_rfl) ?_
    refine z_skip 15 rfl (by kernel_rfl) rfl (by kernel_rfl) ?_
    refine z_skip 16 rfl (by kernel_rfl) rfl (by kernel_rfl) ?_
    refine z_skip 17 rfl (by kernel_rfl) rfl (by kernel_rfl) ?_
    refine z_skip 18 rfl (by kernel_rfl) rfl (by kernel_rfl) ?_
    refine z_skip 19 rfl (by kernel_rfl) rfl (by kernel_rfl) ?_
    refine z_skip 20 rfl (by kernel_rfl) rfl (by kernel_rfl) ?_
    refine z_skip 21 rfl (by kernel_rfl) rfl (by kernel_rfl) ?_
    refine z_mv 22 (d := 36) (.bool true) (IsVal.of_run rfl fun w => (by kernel_rfl)) (by kernel_rfl) ?_
    refine z_mv 23 (d := 37) (.bool true) (IsVal.of_run rfl fun w => (by kernel_rfl)) (by kernel_rfl) ?_
    refine z_skip 24 rfl (by kernel_rfl) rfl (by kernel_rfl) ?_
    refine z_skip 25 rfl (by kernel_rfl) rfl (by kernel_rfl) ?_
    refine z_skip 26 rfl (by kernel_rfl) rfl (by kernel_rfl) ?_
    refine z_skip 27 rfl (by kernel_rfl) rfl (by kernel_rfl) ?_
    refine z_skip 28 rfl (by kernel_rfl) rfl (by kernel_rfl) ?_
    refine z_skip 29 rfl (by kernel_rfl) rfl (by kernel_rfl) ?_
    refine z_skip 30 rfl (by kernel_rfl) rfl (by kernel_rfl) ?_
    refine z_mv 31 (d := 45) (.bool true) (IsVal.of_run rfl fun w => (by kernel_rfl)) (by kernel_rfl) ?_
    refine z_mv 32 (d := 46) (.bool true) (IsVal.of_run rfl fun w => (by kernel_rfl)) (by kernel_rfl) ?_
    refine z_skip 33 rfl (by kernel_rfl) rfl (by kernel_rfl) ?_
    refine z_skip 34 rfl (by kernel_rfl) rfl (by kernel_rfl) ?_
    refine z_skip 35 rfl (by kernel_rfl) rfl (by kernel_rfl) ?_
    refine z_skip 36 rfl (by kernel_rfl) rfl (by kernel_rfl) ?_
    refine z_skip 37 rfl (by kernel_rfl) rfl (by kernel_rfl) ?_
    refine z_skip 38 rfl (by kernel_rfl) rfl (by kernel_rfl) ?_
    refine z_skip 39 rfl (by kernel_rfl) rfl (by kernel_rfl) ?_
    refine z_mv 40 (d := 54) (.bool true) (IsVal.of_run rfl fun w => (by kernel_rfl)) (by kernel_rfl) ?_
    refine z_end [] fun a w H => ?_
    refine st_true H (by kernel_rfl) ?_
    refine WK.seq ?_
    refine st_floatsM [false, true, false, false, false, false] [.tk 1, .op 0, .op 2, .op 3, .mv 4] rfl (by kernel_rfl) (by kernel_rfl) (by kernel_rfl) H ?_
    refine z_tk 1 (d := 56) (.agg #[.int .u8 0, .int .u32 0, .int .u64 0, .int .u8 0, .int .u32 0, .int .u32 0, .bool false, .int .u32 0, .int .u64 0, .int .u64 0, .slice none 0 0, .slice none 0 0, .int .u32 0]) (val_ld (k := 0) (t := 61) (off := 0) rfl (by kernel_rfl) rfl (by kernel_rfl)) (by kernel_rfl) ?_
    refine z_op 0 rfl fun a w Z H => ?_
    refine op_val (d := 55) (v := .agg #[.int .u8 0, .int .u32 0, .int .u64 0, .int .u8 0, .int .u32 0, .int .u32 0, .string ByteArray.empty, .int .u32 0, .int .u32 0, .string ByteArray.empty, .int .u32 0, .int .u32 0, .slice none 0 0]) H (val_ld (k := 2) (t := 28) (off := 0) rfl (by kernel_rfl) rfl (by kernel_rfl)) fun a H => ?_
    refine z_on _ H (fun w Z X => X.mskZ [false, true, false, false, false, false] (by kernel_rfl)) (by kernel_rfl) ?_
    refine z_op 2 rfl fun a w Z H => ?_
    refine op_storeZ (k := 2) (t := 28) (off := 0) (v := .agg #[.int .u8 0, .int .u32 0, .int .u64 0, .int .u8 0, .int .u32 0, .int .u32 0, .string ByteArray.empty, .int .u32 0, .int .u32 0, .string ByteArray.empty, .int .u32 0, .int .u32 0, .slice none 0 0]) H rfl (by kernel_rfl) (by kernel_rfl) fun a w H => ?_
    refine z_on _ H (fun w Z X => X.mskZ [false, true, false, false, false, false] (by kernel_rfl)) (by kernel_rfl) ?_
    refine z_op 3 rfl fun a w Z H => ?_
    refine op_storeZ (k := 1) (t := 61) (off := 0) (v := .agg #[.int .u8 0, .int .u32 0, .int .u64 0, .int .u8 0, .int .u32 0, .int .u32 0, .bool false, .int .u32 0, .int .u64 0, .int .u64 0, .slice none 0 0, .slice none 0 0, .int .u32 0]) H rfl (by kernel_rfl) (by kernel_rfl) fun a w H => ?_
    refine z_on _ H (fun w Z X => X.mskZ [false, true, false, false, false, false] (by kernel_rfl)) (by kernel_rfl) ?_
    refine z_mv 4 (d := 6) (.bool false) (IsVal.of_run rfl fun w => (by kernel_rfl)) (by kernel_rfl) ?_
    refine z_end [] fun a w H => ?_
    have H := St.toL (M := blk b3 (.cells #[.int .u8 ((getB bs).1.client), .int .u32 ((getB bs).1.inc), .int .u64 ((getB bs).1.seq), .int .u8 ((getB bs).1.status), .int .u32 ((getB bs).1.ino), .int .u32 ((getB bs).1.gen), .bool ((getB bs).1.dir), .int .u32 ((getB bs).1.size), .int .u64 ((getB bs).1.change), .int .u64 ((getB bs).1.before), .slice X_1 ((getB bs).1.data.length) x_1, .slice X_2 ((getB bs).1.names.length) x_2, .int .u32 ((getB bs).1.boot)] 61) :: blk b2 (.cells #[.int .u8 0, .int .u32 0, .int .u64 0, .int .u8 0, .int .u32 0, .int .u32 0, .bool false, .int .u32 0, .int .u64 0, .int .u64 0, .slice none 0 0, .slice none 0 0, .int .u32 0] 61) :: blk b1 (.cells #[.int .u8 0, .int .u32 0, .int .u64 0, .int .u8 0, .int .u32 0, .int .u32 0, .string ByteArray.empty, .int .u32 0, .int .u32 0, .string ByteArray.empty, .int .u32 0, .int .u32 0, .slice none 0 0] 28) :: blk b (.cells #[.int .u8 cl, .int .u32 inc, .int .u64 seq, .slice (some ⟨g0, 0, none⟩) 1 cap] 68) :: blkC g0 cur 125 :: blk p (.cells #[.int .u8 c.client, .int .u32 c.inc, .int .u64 c.seq, .int .u8 c.kind, .int .u32 c.ino, .int .u32 c.gen, .string c.name, .int .u32 c.toIno, .int .u32 c.toGen, .string c.toName, .int .u32 c.off, .int .u32 c.size, .slice A c.data.length k, .int .u64 at_, .int .u64 wait, .int .i64 sent] 70) :: L) H (by kernel_rfl)
    refine st_ret (vs := [.agg #[.int .u8 0, .int .u32 0, .int .u64 0, .int .u8 0, .int .u32 0, .int .u32 0, .string ByteArray.empty, .int .u32 0, .int .u32 0, .string ByteArray.empty, .int .u32 0, .int .u32 0, .slice none 0 0], .agg #[.int .u8 0, .int .u32 0, .int .u64 0, .int .u8 0, .int .u32 0, .int .u32 0, .bool false, .int .u32 0, .int .u64 0, .int .u64 0, .slice none 0 0, .slice none 0 0, .int .u32 0], .bool false]) H Tryd.func25 rfl (.cell (by kernel_rfl) (H.sat.blk (k := 2) rfl) (by kernel_rfl) (.cell (by kernel_rfl) (H.sat.blk (k := 1) rfl) (by kernel_rfl) (.tmp (by kernel_rfl) (.nil)))) ?_
    have X := ((((H.sat.msk [false, false, false, true, true, true]).front 2 rfl).front 2 rfl).front 2 rfl)
    exact .inl (⟨R1, hleR1, by simp only [takeB, hg1n, cond_true, cond_false]; try rfl, rfl, X⟩)
  · skip
    refine z_also (d := 16) (u := .bool (!((((getB bs).2) : Int) == 0))) (.bool false) rfl (congrArg Value.bool (hg1)) ?_
    have hg1n := notF hg1
    have hg1' := eq_of_beq (notF hg1)
    refine z_tk 3 (d := 17) (.pointer (some ⟨b, 0, none⟩)) (IsVal.of_run rfl fun w => (by kernel_rfl)) (by kernel_rfl) ?_
    refine z_op 4 rfl fun a w Z H => ?_
    refine op_call (d := 18) H (by kernel_rfl) rfl (rpc_none b cl inc seq (some ⟨g0, 0, none⟩) 1 cap (H.sat.frontZ 3 rfl)) fun a v w q F => ?_
    obtain ⟨rfl, X⟩ := q
    have H := St.mk F X
    have H : St _ _ _ _ _ _ ((blk b (.cells #[.int .u8 cl, .int .u32 inc, .int .u64 seq, .slice (some ⟨g0, 0, none⟩) 1 cap] 68) :: blk b3 (.cells #[.int .u8 ((getB bs).1.client), .int .u32 ((getB bs).1.inc), .int .u64 ((getB bs).1.seq), .int .u8 ((getB bs).1.status), .int .u32 ((getB bs).1.ino), .int .u32 ((getB bs).1.gen), .bool ((getB bs).1.dir), .int .u32 ((getB bs).1.size), .int .u64 ((getB bs).1.change), .int .u64 ((getB bs).1.before), .slice X_1 ((getB bs).1.data.length) x_1, .slice X_2 ((getB bs).1.names.length) x_2, .int .u32 ((getB bs).1.boot)] 61) :: blk b2 (.cells #[.int .u8 0, .int .u32 0, .int .u64 0, .int .u8 0, .int .u32 0, .int .u32 0, .bool false, .int .u32 0, .int .u64 0, .int .u64 0, .slice none 0 0, .slice none 0 0, .int .u32 0] 61) :: blk b1 (.cells #[.int .u8 0, .int .u32 0, .int .u64 0, .int .u8 0, .int .u32 0, .int .u32 0, .string ByteArray.empty, .int .u32 0, .int .u32 0, .string ByteArray.empty, .int .u32 0, .int .u32 0, .slice none 0 0] 28) :: blkC g0 cur 125 :: blk p (.cells #[.int .u8 c.client, .int .u32 c.inc, .int .u64 c.seq, .int .u8 c.kind, .int .u32 c.ino, .int .u32 c.gen, .string c.name, .int .u32 c.toIno, .int .u32 c.toGen, .string c.toName, .int .u32 c.off, .int .u32 c.size, .slice A c.data.length k, .int .u64 at_, .int .u64 wait, .int .i64 sent] 70) :: L) ++ Z) := H
    have H := St.mk H.sl (H.sat.frontZ 1 rfl)
    refine z_on (blk b3 (.cells #[.int .u8 ((getB bs).1.client), .int .u32 ((getB bs).1.inc), .int .u64 ((getB bs).1.seq), .int .u8 ((getB bs).1.status), .int .u32 ((getB bs).1.ino), .int .u32 ((getB bs).1.gen), .bool ((getB bs).1.dir), .int .u32 ((getB bs).1.size), .int .u64 ((getB bs).1.change), .int .u64 ((getB bs).1.before), .slice X_1 ((getB bs).1.data.length) x_1, .slice X_2 ((getB bs).1.names.length) x_2, .int .u32 ((getB bs).1.boot)] 61) :: blk b (.cells #[.int .u8 cl, .int .u32 inc, .int .u64 seq, .slice (some ⟨g0, 0, none⟩) 1 cap] 68) :: blk b2 (.cells #[.int .u8 0, .int .u32 0, .int .u64 0, .int .u8 0, .int .u32 0, .int .u32 0, .bool false, .int .u32 0, .int .u64 0, .int .u64 0, .slice none 0 0, .slice none 0 0, .int .u32 0] 61) :: blk b1 (.cells #[.int .u8 0, .int .u32 0, .int .u64 0, .int .u8 0, .int .u32 0, .int .u32 0, .string ByteArray.empty, .int .u32 0, .int .u32 0, .string ByteArray.empty, .int .u32 0, .int .u32 0, .slice none 0 0] 28) :: blkC g0 cur 125 :: blk p (.cells #[.int .u8 c.client, .int .u32 c.inc, .int .u64 c.seq, .int .u8 c.kind, .int .u32 c.ino, .int .u32 c.gen, .string c.name, .int .u32 c.toIno, .int .u32 c.toGen, .string c.toName, .int .u32 c.off, .int .u32 c.size, .slice A c.data.length k, .int .u64 at_, .int .u64 wait, .int .i64 sent] 70) :: L) H (fun w Z X => X.mskZ [true, true, false, false, false, false] (by kernel_rfl)) (by kernel_rfl) ?_
    refine z_mv 5 (d := 19) (.bool ((inc : Int) == 0)) (IsVal.of_run rfl fun w => (by kernel_rfl)) (by kernel_rfl) ?_
    refine z_mv 6 (d := 20) (.bool ((inc : Int) == 0)) (IsVal.of_run rfl fun w => (by kernel_rfl)) (by kernel_rfl) ?_
    rcases Bool.eq_false_or_eq_true ((inc : Int) == 0) with hg2 | hg2
    · skip
      refine z_also (d := 20) (u := .bool ((inc : Int) == 0)) (.bool true) rfl (congrArg Value.bool (hg2)) ?_
      have hg2' := eq_of_beq hg2
      exfalso; omega
    · skip
      refine z_also (d := 20) (u := .bool ((inc : Int) == 0)) (.bool false) rfl (congrArg Value.bool (hg2)) ?_
      have hg2' := neB hg2
      refine z_tk 7 (d := 21) (.pointer (some ⟨b, 0, none⟩)) (IsVal.of_run rfl fun w => (by kernel_rfl)) (by kernel_rfl) ?_
      refine z_tk 8 (d := 22) (.pointer (some ⟨b, 0, none⟩)) (IsVal.of_run rfl fun w => (by kernel_rfl)) (by kernel_rfl) ?_
      refine z_tk 9 (d := 23) (.pointer (some ⟨b, 3, none⟩)) (IsVal.of_run rfl fun w => (by kernel_rfl)) (by kernel_rfl) ?_
      refine z_tk 10 (d := 24) (.slice (some ⟨g0, 0, none⟩) 1 cap) (val_ld (k := 1) (t := 66) (off := 3) rfl (by kernel_rfl) rfl (by kernel_rfl)) (by kernel_rfl) ?_
      refine z_tk 11 (d := 25) (.int .i64 1) (IsVal.of_run rfl fun w => (by kernel_rfl)) (by kernel_rfl) ?_
      refine z_tk 12 (d := 26) (.bool false) (IsVal.of_run rfl fun w => (by kernel_rfl)) (by kernel_rfl) ?_
      refine z_mv 13 (d := 27) (.bool false) (IsVal.of_run rfl fun w => (by kernel_rfl)) (by kernel_rfl) ?_
      refine z_mv 14 (d := 28) (.bool false) (IsVal.of_run rfl fun w => (by kernel_rfl)) (by kernel_rfl) ?_
      refine z_tk 15 (d := 29) (.pointer (some ⟨b3, 0, none⟩)) (IsVal.of_run rfl fun w => (by kernel_rfl)) (by kernel_rfl) ?_
      refine z_tk 16 (d := 30) (.int .u8 ((getB bs).1.client)) (val_ld (k := 0) (t := 5) (off := 0) rfl (by kernel_rfl) rfl (by kernel_rfl)) (by kernel_rfl) ?_
      refine z_tk 17 (d := 31) (.pointer (some ⟨b, 0, none⟩)) (IsVal.of_run rfl fun w => (by kernel_rfl)) (by kernel_rfl) ?_
      refine z_tk 18 (d := 32) (.pointer (some ⟨b, 0, none⟩)) (IsVal.of_run rfl fun w => (by kernel_rfl)) (by kernel_rfl) ?_
      refine z_tk 19 (d := 33) (.pointer (some ⟨b, 0, none⟩)) (IsVal.of_run rfl fun w => (by kernel_rfl)) (by kernel_rfl) ?_
      refine z_tk 20 (d := 34) (.int .u8 cl) (val_ld (k := 1) (t := 5) (off := 0) rfl (by kernel_rfl) rfl (by kernel_rfl)) (by kernel_rfl) ?_
      refine z_tk 21 (d := 35) (.bool (!((((getB bs).1.client) : Int) == cl))) (IsVal.of_run rfl fun w => (by kernel_rfl)) (by kernel_rfl) ?_
      refine z_mv 22 (d := 36) (.bool (!((((getB bs).1.client) : Int) == cl))) (IsVal.of_run rfl fun w => (by kernel_rfl)) (by kernel_rfl) ?_
      refine z_mv 23 (d := 37) (.bool (!((((getB bs).1.client) : Int) == cl))) (IsVal.of_run rfl fun w => (by kernel_rfl)) (by kernel_rfl) ?_
      rcases Bool.eq_false_or_eq_true (!((((getB bs).1.client) : Int) == cl)) with hg3 | hg3
      · skip
        refine z_also (d := 37) (u := .bool (!((((getB bs).1.client) : Int) == cl))) (.bool true) rfl (congrArg Value.bool (hg3)) ?_
        have hg3n := notT hg3
        have hg3' := neB (notT hg3)
        refine z_skip 24 rfl (by kernel_rfl) rfl (by kernel_rfl) ?_
        refine z_skip 25 rfl (by kernel_rfl) rfl (by kernel_rfl) ?_
        refine z_skip 26 rfl (by kernel_rfl) rfl (by kernel_rfl) ?_
        refine z_skip 27 rfl (by kernel_rfl) rfl (by kernel_rfl) ?_
        refine z_skip 28 rfl (by kernel_rfl) rfl (by kernel_rfl) ?_
        refine z_skip 29 rfl (by kernel_rfl) rfl (by kernel_rfl) ?_
        refine z_skip 30 rfl (by kernel_rfl) rfl (by kernel_rfl) ?_
        refine z_mv 31 (d := 45) (.bool true) (IsVal.of_run rfl fun w => (by kernel_rfl)) (by kernel_rfl) ?_
        refine z_mv 32 (d := 46) (.bool true) (IsVal.of_run rfl fun w => (by kernel_rfl)) (by kernel_rfl) ?_
        refine z_skip 33 rfl (by kernel_rfl) rfl (by kernel_rfl) ?_
        refine z_skip 34 rfl (by kernel_rfl) rfl (by kernel_rfl) ?_
        refine z_skip 35 rfl (by kernel_rfl) rfl (by kernel_rfl) ?_
        refine z_skip 36 rfl (by kernel_rfl) rfl (by kernel_rfl) ?_
        refine z_skip 37 rfl (by kernel_rfl) rfl (by kernel_rfl) ?_
        refine z_skip 38 rfl (by kernel_rfl) rfl (by kernel_rfl) ?_
        refine z_skip 39 rfl (by kernel_rfl) rfl (by kernel_rfl) ?_
        refine z_mv 40 (d := 54) (.bool true) (IsVal.of_run rfl fun w => (by kernel_rfl)) (by kernel_rfl) ?_
        refine z_end [] fun a w H => ?_
        refine st_true H (by kernel_rfl) ?_
        refine WK.seq ?_
        refine st_floatsM [false, false, true, false, false, false] [.tk 1, .op 0, .op 2, .op 3, .mv 4] rfl (by kernel_rfl) (by kernel_rfl) (by kernel_rfl) H ?_
        refine z_tk 1 (d := 56) (.agg #[.int .u8 0, .int .u32 0, .int .u64 0, .int .u8 0, .int .u32 0, .int .u32 0, .bool false, .int .u32 0, .int .u64 0, .int .u64 0, .slice none 0 0, .slice none 0 0, .int .u32 0]) (val_ld (k := 0) (t := 61) (off := 0) rfl (by kernel_rfl) rfl (by kernel_rfl)) (by kernel_rfl) ?_
        refine z_op 0 rfl fun a w Z H => ?_
        refine op_val (d := 55) (v := .agg #[.int .u8 0, .int .u32 0, .int .u64 0, .int .u8 0, .int .u32 0, .int .u32 0, .string ByteArray.empty, .int .u32 0, .int .u32 0, .string ByteArray.empty, .int .u32 0, .int .u32 0, .slice none 0 0]) H (val_ld (k := 3) (t := 28) (off := 0) rfl (by kernel_rfl) rfl (by kernel_rfl)) fun a H => ?_
        refine z_on _ H (fun w Z X => X.mskZ [false, false, true, false, false, false] (by kernel_rfl)) (by kernel_rfl) ?_
        refine z_op 2 rfl fun a w Z H => ?_
        refine op_storeZ (k := 3) (t := 28) (off := 0) (v := .agg #[.int .u8 0, .int .u32 0, .int .u64 0, .int .u8 0, .int .u32 0, .int .u32 0, .string ByteArray.empty, .int .u32 0, .int .u32 0, .string ByteArray.empty, .int .u32 0, .int .u32 0, .slice none 0 0]) H rfl (by kernel_rfl) (by kernel_rfl) fun a w H => ?_
        refine z_on _ H (fun w Z X => X.mskZ [false, false, true, false, false, false] (by kernel_rfl)) (by kernel_rfl) ?_
        refine z_op 3 rfl fun a w Z H => ?_
        refine op_storeZ (k := 2) (t := 61) (off := 0) (v := .agg #[.int .u8 0, .int .u32 0, .int .u64 0, .int .u8 0, .int .u32 0, .int .u32 0, .bool false, .int .u32 0, .int .u64 0, .int .u64 0, .slice none 0 0, .slice none 0 0, .int .u32 0]) H rfl (by kernel_rfl) (by kernel_rfl) fun a w H => ?_
        refine z_on _ H (fun w Z X => X.mskZ [false, false, true, false, false, false] (by kernel_rfl)) (by kernel_rfl) ?_
        refine z_mv 4 (d := 6) (.bool false) (IsVal.of_run rfl fun w => (by kernel_rfl)) (by kernel_rfl) ?_
        refine z_end [] fun a w H => ?_
        have H := St.toL (M := blk b3 (.cells #[.int .u8 ((getB bs).1.client), .int .u32 ((getB bs).1.inc), .int .u64 ((getB bs).1.seq), .int .u8 ((getB bs).1.status), .int .u32 ((getB bs).1.ino), .int .u32 ((getB bs).1.gen), .bool ((getB bs).1.dir), .int .u32 ((getB bs).1.size), .int .u64 ((getB bs).1.change), .int .u64 ((getB bs).1.before), .slice X_1 ((getB bs).1.data.length) x_1, .slice X_2 ((getB bs).1.names.length) x_2, .int .u32 ((getB bs).1.boot)] 61) :: blk b (.cells #[.int .u8 cl, .int .u32 inc, .int .u64 seq, .slice (some ⟨g0, 0, none⟩) 1 cap] 68) :: blk b2 (.cells #[.int .u8 0, .int .u32 0, .int .u64 0, .int .u8 0, .int .u32 0, .int .u32 0, .bool false, .int .u32 0, .int .u64 0, .int .u64 0, .slice none 0 0, .slice none 0 0, .int .u32 0] 61) :: blk b1 (.cells #[.int .u8 0, .int .u32 0, .int .u64 0, .int .u8 0, .int .u32 0, .int .u32 0, .string ByteArray.empty, .int .u32 0, .int .u32 0, .string ByteArray.empty, .int .u32 0, .int .u32 0, .slice none 0 0] 28) :: blkC g0 cur 125 :: blk p (.cells #[.int .u8 c.client, .int .u32 c.inc, .int .u64 c.seq, .int .u8 c.kind, .int .u32 c.ino, .int .u32 c.gen, .string c.name, .int .u32 c.toIno, .int .u32 c.toGen, .string c.toName, .int .u32 c.off, .int .u32 c.size, .slice A c.data.length k, .int .u64 at_, .int .u64 wait, .int .i64 sent] 70) :: L) H (by kernel_rfl)
        refine st_ret (vs := [.agg #[.int .u8 0, .int .u32 0, .int .u64 0, .int .u8 0, .int .u32 0, .int .u32 0, .string ByteArray.empty, .int .u32 0, .int .u32 0, .string ByteArray.empty, .int .u32 0, .int .u32 0, .slice none 0 0], .agg #[.int .u8 0, .int .u32 0, .int .u64 0, .int .u8 0, .int .u32 0, .int .u32 0, .bool false, .int .u32 0, .int .u64 0, .int .u64 0, .slice none 0 0, .slice none 0 0, .int .u32 0], .bool false]) H Tryd.func25 rfl (.cell (by kernel_rfl) (H.sat.blk (k := 3) rfl) (by kernel_rfl) (.cell (by kernel_rfl) (H.sat.blk (k := 2) rfl) (by kernel_rfl) (.tmp (by kernel_rfl) (.nil)))) ?_
        have X := ((((H.sat.msk [false, true, false, false, true, true]).front 2 rfl).front 2 rfl).front 2 rfl)
        exact .inl (⟨R1, hleR1, by simp only [takeB, hg1n, hg2, hg3n, cond_true, cond_false]; try rfl, rfl, X⟩)
      · skip
        refine z_also (d := 37) (u := .bool (!((((getB bs).1.client) : Int) == cl))) (.bool false) rfl (congrArg Value.bool (hg3)) ?_
        have hg3n := notF hg3
        have hg3' := eq_of_beq (notF hg3)
        refine z_tk 24 (d := 38) (.pointer (some ⟨b3, 1, none⟩)) (IsVal.of_run rfl fun w => (by kernel_rfl)) (by kernel_rfl) ?_
        refine z_tk 25 (d := 39) (.int .u32 ((getB bs).1.inc)) (val_ld (k := 0) (t := 22) (off := 1) rfl (by kernel_rfl) rfl (by kernel_rfl)) (by kernel_rfl) ?_
        refine z_tk 26 (d := 40) (.pointer (some ⟨b, 0, none⟩)) (IsVal.of_run rfl fun w => (by kernel_rfl)) (by kernel_rfl) ?_
        refine z_tk 27 (d := 41) (.pointer (some ⟨b, 0, none⟩)) (IsVal.of_run rfl fun w => (by kernel_rfl)) (by kernel_rfl) ?_
        refine z_tk 28 (d := 42) (.pointer (some ⟨b, 1, none⟩)) (IsVal.of_run rfl fun w => (by kernel_rfl)) (by kernel_rfl) ?_
        refine z_tk 29 (d := 43) (.int .u32 inc) (val_ld (k := 1) (t := 22) (off := 1) rfl (by kernel_rfl) rfl (by kernel_rfl)) (by kernel_rfl) ?_
        refine z_tk 30 (d := 44) (.bool (!((((getB bs).1.inc) : Int) == inc))) (IsVal.of_run rfl fun w => (by kernel_rfl)) (by kernel_rfl) ?_
        refine z_mv 31 (d := 45) (.bool (!((((getB bs).1.inc) : Int) == inc))) (IsVal.of_run rfl fun w => (by kernel_rfl)) (by kernel_rfl) ?_
        refine z_mv 32 (d := 46) (.bool (!((((getB bs).1.inc) : Int) == inc))) (IsVal.of_run rfl fun w => (by kernel_rfl)) (by kernel_rfl) ?_
        rcases Bool.eq_false_or_eq_true (!((((getB bs).1.inc) : Int) == inc)) with hg4 | hg4
        · skip
          refine z_also (d := 46) (u := .bool (!((((getB bs).1.inc) : Int) == inc))) (.bool true) rfl (congrArg Value.bool (hg4)) ?_
          have hg4n := notT hg4
          have hg4' := neB (notT hg4)
          refine z_skip 33 rfl (by kernel_rfl) rfl (by kernel_rfl) ?_
          refine z_skip 34 rfl (by kernel_rfl) rfl (by kernel_rfl) ?_
          refine z_skip 35 rfl (by kernel_rfl) rfl (by kernel_rfl) ?_
          refine z_skip 36 rfl (by kernel_rfl) rfl (by kernel_rfl) ?_
          refine z_skip 37 rfl (by kernel_rfl) rfl (by kernel_rfl) ?_
          refine z_skip 38 rfl (by kernel_rfl) rfl (by kernel_rfl) ?_
          refine z_skip 39 rfl (by kernel_rfl) rfl (by kernel_rfl) ?_
          refine z_mv 40 (d := 54) (.bool true) (IsVal.of_run rfl fun w => (by kernel_rfl)) (by kernel_rfl) ?_
          refine z_end [] fun a w H => ?_
          refine st_true H (by kernel_rfl) ?_
          refine WK.seq ?_
          refine st_floatsM [false, false, true, false, false, false] [.tk 1, .op 0, .op 2, .op 3, .mv 4] rfl (by kernel_rfl) (by kernel_rfl) (by kernel_rfl) H ?_
          refine z_tk 1 (d := 56) (.agg #[.int .u8 0, .int .u32 0, .int .u64 0, .int .u8 0, .int .u32 0, .int .u32 0, .bool false, .int .u32 0, .int .u64 0, .int .u64 0, .slice none 0 0, .slice none 0 0, .int .u32 0]) (val_ld (k := 0) (t := 61) (off := 0) rfl (by kernel_rfl) rfl (by kernel_rfl)) (by kernel_rfl) ?_
          refine z_op 0 rfl fun a w Z H => ?_
          refine op_val (d := 55) (v := .agg #[.int .u8 0, .int .u32 0, .int .u64 0, .int .u8 0, .int .u32 0, .int .u32 0, .string ByteArray.empty, .int .u32 0, .int .u32 0, .string ByteArray.empty, .int .u32 0, .int .u32 0, .slice none 0 0]) H (val_ld (k := 3) (t := 28) (off := 0) rfl (by kernel_rfl) rfl (by kernel_rfl)) fun a H => ?_
          refine z_on _ H (fun w Z X => X.mskZ [false, false, true, false, false, false] (by kernel_rfl)) (by kernel_rfl) ?_
          refine z_op 2 rfl fun a w Z H => ?_
          refine op_storeZ (k := 3) (t := 28) (off := 0) (v := .agg #[.int .u8 0, .int .u32 0, .int .u64 0, .int .u8 0, .int .u32 0, .int .u32 0, .string ByteArray.empty, .int .u32 0, .int .u32 0, .string ByteArray.empty, .int .u32 0, .int .u32 0, .slice none 0 0]) H rfl (by kernel_rfl) (by kernel_rfl) fun a w H => ?_
          refine z_on _ H (fun w Z X => X.mskZ [false, false, true, false, false, false] (by kernel_rfl)) (by kernel_rfl) ?_
          refine z_op 3 rfl fun a w Z H => ?_
          refine op_storeZ (k := 2) (t := 61) (off := 0) (v := .agg #[.int .u8 0, .int .u32 0, .int .u64 0, .int .u8 0, .int .u32 0, .int .u32 0, .bool false, .int .u32 0, .int .u64 0, .int .u64 0, .slice none 0 0, .slice none 0 0, .int .u32 0]) H rfl (by kernel_rfl) (by kernel_rfl) fun a w H => ?_
          refine z_on _ H (fun w Z X => X.mskZ [false, false, true, false, false, false] (by kernel_rfl)) (by kernel_rfl) ?_
          refine z_mv 4 (d := 6) (.bool false) (IsVal.of_run rfl fun w => (by kernel_rfl)) (by kernel_rfl) ?_
          refine z_end [] fun a w H => ?_
          have H := St.toL (M := blk b3 (.cells #[.int .u8 ((getB bs).1.client), .int .u32 ((getB bs).1.inc), .int .u64 ((getB bs).1.seq), .int .u8 ((getB bs).1.status), .int .u32 ((getB bs).1.ino), .int .u32 ((getB bs).1.gen), .bool ((getB bs).1.dir), .int .u32 ((getB bs).1.size), .int .u64 ((getB bs).1.change), .int .u64 ((getB bs).1.before), .slice X_1 ((getB bs).1.data.length) x_1, .slice X_2 ((getB bs).1.names.length) x_2, .int .u32 ((getB bs).1.boot)] 61) :: blk b (.cells #[.int .u8 cl, .int .u32 inc, .int .u64 seq, .slice (some ⟨g0, 0, none⟩) 1 cap] 68) :: blk b2 (.cells #[.int .u8 0, .int .u32 0, .int .u64 0, .int .u8 0, .int .u32 0, .int .u32 0, .bool false, .int .u32 0, .int .u64 0, .int .u64 0, .slice none 0 0, .slice none 0 0, .int .u32 0] 61) :: blk b1 (.cells #[.int .u8 0, .int .u32 0, .int .u64 0, .int .u8 0, .int .u32 0, .int .u32 0, .string ByteArray.empty, .int .u32 0, .int .u32 0, .string ByteArray.empty, .int .u32 0, .int .u32 0, .slice none 0 0] 28) :: blkC g0 cur 125 :: blk p (.cells #[.int .u8 c.client, .int .u32 c.inc, .int .u64 c.seq, .int .u8 c.kind, .int .u32 c.ino, .int .u32 c.gen, .string c.name, .int .u32 c.toIno, .int .u32 c.toGen, .string c.toName, .int .u32 c.off, .int .u32 c.size, .slice A c.data.length k, .int .u64 at_, .int .u64 wait, .int .i64 sent] 70) :: L) H (by kernel_rfl)
          refine st_ret (vs := [.agg #[.int .u8 0, .int .u32 0, .int .u64 0, .int .u8 0, .int .u32 0, .int .u32 0, .string ByteArray.empty, .int .u32 0, .int .u32 0, .string ByteArray.empty, .int .u32 0, .int .u32 0, .slice none 0 0], .agg #[.int .u8 0, .int .u32 0, .int .u64 0, .int .u8 0, .int .u32 0, .int .u32 0, .bool false, .int .u32 0, .int .u64 0, .int .u64 0, .slice none 0 0, .slice none 0 0, .int .u32 0], .bool false]) H Tryd.func25 rfl (.cell (by kernel_rfl) (H.sat.blk (k := 3) rfl) (by kernel_rfl) (.cell (by kernel_rfl) (H.sat.blk (k := 2) rfl) (by kernel_rfl) (.tmp (by kernel_rfl) (.nil)))) ?_
          have X := ((((H.sat.msk [false, true, false, false, true, true]).front 2 rfl).front 2 rfl).front 2 rfl)
          exact .inl (⟨R1, hleR1, by simp only [takeB, hg1n, hg2, hg3n, hg4n, cond_true, cond_false]; try rfl, rfl, X⟩)
        · skip
          refine z_also (d := 46) (u := .bool (!((((getB bs).1.inc) : Int) == inc))) (.bool false) rfl (congrArg Value.bool (hg4)) ?_
          have hg4n := notF hg4
          have hg4' := eq_of_beq (notF hg4)
          refine z_tk 33 (d := 47) (.pointer (some ⟨b3, 2, none⟩)) (IsVal.of_run rfl fun w => (by kernel_rfl)) (by kernel_rfl) ?_
          refine z_tk 34 (d := 48) (.int .u64 ((getB bs).1.seq)) (val_ld (k := 0) (t := 23) (off := 2) rfl (by kernel_rfl) rfl (by kernel_rfl)) (by kernel_rfl) ?_
          refine z_tk 35 (d := 49) (.pointer (some ⟨b, 0, none⟩)) (IsVal.of_run rfl fun w => (by kernel_rfl)) (by kernel_rfl) ?_
          refine z_tk 36 (d := 50) (.pointer (some ⟨b, 0, none⟩)) (IsVal.of_run rfl fun w => (by kernel_rfl)) (by kernel_rfl) ?_
          refine z_tk 37 (d := 51) (.pointer (some ⟨b, 2, none⟩)) (IsVal.of_run rfl fun w => (by kernel_rfl)) (by kernel_rfl) ?_
          refine z_tk 38 (d := 52) (.int .u64 seq) (val_ld (k := 1) (t := 23) (off := 2) rfl (by kernel_rfl) rfl (by kernel_rfl)) (by kernel_rfl) ?_
          refine z_tk 39 (d := 53) (.bool (!((((getB bs).1.seq) : Int) == seq))) (IsVal.of_run rfl fun w => (by kernel_rfl)) (by kernel_rfl) ?_
          refine z_mv 40 (d := 54) (.bool (!((((getB bs).1.seq) : Int) == seq))) (IsVal.of_run rfl fun w => (by kernel_rfl)) (by kernel_rfl) ?_
          refine z_end [] fun a w H => ?_
          refine st_cond (!((((getB bs).1.seq) : Int) == seq)) H (by kernel_rfl) ?_ ?_
          · intro hc1
            have hc1n := notT hc1
            have hc1' := neB (notT hc1)
            refine WK.seq ?_
            refine st_floatsM [false, false, true, false, false, false] [.tk 1, .op 0, .op 2, .op 3, .mv 4] rfl (by kernel_rfl) (by kernel_rfl) (by kernel_rfl) H ?_
            refine z_tk 1 (d := 56) (.agg #[.int .u8 0, .int .u32 0, .int .u64 0, .int .u8 0, .int .u32 0, .int .u32 0, .bool false, .int .u32 0, .int .u64 0, .int .u64 0, .slice none 0 0, .slice none 0 0, .int .u32 0]) (val_ld (k := 0) (t := 61) (off := 0) rfl (by kernel_rfl) rfl (by kernel_rfl)) (by kernel_rfl) ?_
            refine z_op 0 rfl fun a w Z H => ?_
            refine op_val (d := 55) (v := .agg #[.int .u8 0, .int .u32 0, .int .u64 0, .int .u8 0, .int .u32 0, .int .u32 0, .string ByteArray.empty, .int .u32 0, .int .u32 0, .string ByteArray.empty, .int .u32 0, .int .u32 0, .slice none 0 0]) H (val_ld (k := 3) (t := 28) (off := 0) rfl (by kernel_rfl) rfl (by kernel_rfl)) fun a H => ?_
            refine z_on _ H (fun w Z X => X.mskZ [false, false, true, false, false, false] (by kernel_rfl)) (by kernel_rfl) ?_
            refine z_op 2 rfl fun a w Z H => ?_
            refine op_storeZ (k := 3) (t := 28) (off := 0) (v := .agg #[.int .u8 0, .int .u32 0, .int .u64 0, .int .u8 0, .int .u32 0, .int .u32 0, .string ByteArray.empty, .int .u32 0, .int .u32 0, .string ByteArray.empty, .int .u32 0, .int .u32 0, .slice none 0 0]) H rfl (by kernel_rfl) (by kernel_rfl) fun a w H => ?_
            refine z_on _ H (fun w Z X => X.mskZ [false, false, true, false, false, false] (by kernel_rfl)) (by kernel_rfl) ?_
            refine z_op 3 rfl fun a w Z H => ?_
            refine op_storeZ (k := 2) (t := 61) (off := 0) (v := .agg #[.int .u8 0, .int .u32 0, .int .u64 0, .int .u8 0, .int .u32 0, .int .u32 0, .bool false, .int .u32 0, .int .u64 0, .int .u64 0, .slice none 0 0, .slice none 0 0, .int .u32 0]) H rfl (by kernel_rfl) (by kernel_rfl) fun a w H => ?_
            refine z_on _ H (fun w Z X => X.mskZ [false, false, true, false, false, false] (by kernel_rfl)) (by kernel_rfl) ?_
            refine z_mv 4 (d := 6) (.bool false) (IsVal.of_run rfl fun w => (by kernel_rfl)) (by kernel_rfl) ?_
            refine z_end [] fun a w H => ?_
            have H := St.toL (M := blk b3 (.cells #[.int .u8 ((getB bs).1.client), .int .u32 ((getB bs).1.inc), .int .u64 ((getB bs).1.seq), .int .u8 ((getB bs).1.status), .int .u32 ((getB bs).1.ino), .int .u32 ((getB bs).1.gen), .bool ((getB bs).1.dir), .int .u32 ((getB bs).1.size), .int .u64 ((getB bs).1.change), .int .u64 ((getB bs).1.before), .slice X_1 ((getB bs).1.data.length) x_1, .slice X_2 ((getB bs).1.names.length) x_2, .int .u32 ((getB bs).1.boot)] 61) :: blk b (.cells #[.int .u8 cl, .int .u32 inc, .int .u64 seq, .slice (some ⟨g0, 0, none⟩) 1 cap] 68) :: blk b2 (.cells #[.int .u8 0, .int .u32 0, .int .u64 0, .int .u8 0, .int .u32 0, .int .u32 0, .bool false, .int .u32 0, .int .u64 0, .int .u64 0, .slice none 0 0, .slice none 0 0, .int .u32 0] 61) :: blk b1 (.cells #[.int .u8 0, .int .u32 0, .int .u64 0, .int .u8 0, .int .u32 0, .int .u32 0, .string ByteArray.empty, .int .u32 0, .int .u32 0, .string ByteArray.empty, .int .u32 0, .int .u32 0, .slice none 0 0] 28) :: blkC g0 cur 125 :: blk p (.cells #[.int .u8 c.client, .int .u32 c.inc, .int .u64 c.seq, .int .u8 c.kind, .int .u32 c.ino, .int .u32 c.gen, .string c.name, .int .u32 c.toIno, .int .u32 c.toGen, .string c.toName, .int .u32 c.off, .int .u32 c.size, .slice A c.data.length k, .int .u64 at_, .int .u64 wait, .int .i64 sent] 70) :: L) H (by kernel_rfl)
            refine st_ret (vs := [.agg #[.int .u8 0, .int .u32 0, .int .u64 0, .int .u8 0, .int .u32 0, .int .u32 0, .string ByteArray.empty, .int .u32 0, .int .u32 0, .string ByteArray.empty, .int .u32 0, .int .u32 0, .slice none 0 0], .agg #[.int .u8 0, .int .u32 0, .int .u64 0, .int .u8 0, .int .u32 0, .int .u32 0, .bool false, .int .u32 0, .int .u64 0, .int .u64 0, .slice none 0 0, .slice none 0 0, .int .u32 0], .bool false]) H Tryd.func25 rfl (.cell (by kernel_rfl) (H.sat.blk (k := 3) rfl) (by kernel_rfl) (.cell (by kernel_rfl) (H.sat.blk (k := 2) rfl) (by kernel_rfl) (.tmp (by kernel_rfl) (.nil)))) ?_
            have X := ((((H.sat.msk [false, true, false, false, true, true]).front 2 rfl).front 2 rfl).front 2 rfl)
            exact .inl (⟨R1, hleR1, by simp only [takeB, hg1n, hg2, hg3n, hg4n, hc1n, cond_true, cond_false]; try rfl, rfl, X⟩)
          · intro hc1
            have hc1n := notF hc1
            have hc1' := eq_of_beq (notF hc1)
            refine WK.skip ?_
            refine WK.seq ?_
            refine st_floatsM [true, false, false, false, false, false] [.mv 0, .mv 1, .mv 2, .mv 3, .tk 9, .op 4, .tk 5, .mv 6, .mv 7, .op 8, .op 10, .op 11, .mv 12] rfl (by kernel_rfl) (by kernel_rfl) (by kernel_rfl) H ?_
            refine z_mv 0 (d := 57) (.pointer (some ⟨b, 0, none⟩)) (IsVal.of_run rfl fun w => (by kernel_rfl)) (by kernel_rfl) ?_
            refine z_mv 1 (d := 58) (.pointer (some ⟨b, 0, none⟩)) (IsVal.of_run rfl fun w => (by kernel_rfl)) (by kernel_rfl) ?_
            refine z_mv 2 (d := 59) (.pointer (some ⟨b, 3, none⟩)) (IsVal.of_run rfl fun w => (by kernel_rfl)) (by kernel_rfl) ?_
            refine z_mv 3 (d := 60) (.iface 124 (.pointer (some ⟨b, 3, none⟩))) (IsVal.of_run rfl fun w => (by kernel_rfl)) (by kernel_rfl) ?_
            refine z_tk 9 (d := 66) (.agg #[.int .u8 ((getB bs).1.client), .int .u32 ((getB bs).1.inc), .int .u64 ((getB bs).1.seq), .int .u8 ((getB bs).1.status), .int .u32 ((getB bs).1.ino), .int .u32 ((getB bs).1.gen), .bool ((getB bs).1.dir), .int .u32 ((getB bs).1.size), .int .u64 ((getB bs).1.change), .int .u64 ((getB bs).1.before), .slice X_1 ((getB bs).1.data.length) x_1, .slice X_2 ((getB bs).1.names.length) x_2, .int .u32 ((getB bs).1.boot)]) (val_ld (k := 0) (t := 61) (off := 0) rfl (by kernel_rfl) rfl (by kernel_rfl)) (by kernel_rfl) ?_
            refine z_op 4 rfl fun a w Z H => ?_
            refine op_call (d := 61) H (by kernel_rfl) rfl (heap_pop b g0 cap p _ cl inc seq (by assumption) (by first | assumption | omega) ((H.sat.frontZ 4 rfl).frontZ 2 rfl)) fun a v w q F => ?_
            obtain ⟨X_3, rfl, X⟩ := q
            have H := St.mk F X
            refine z_on (blk b (.cells #[.int .u8 cl, .int .u32 inc, .int .u64 seq, .slice X_3 0 cap] 68) :: blk b3 (.cells #[.int .u8 ((getB bs).1.client), .int .u32 ((getB bs).1.inc), .int .u64 ((getB bs).1.seq), .int .u8 ((getB bs).1.status), .int .u32 ((getB bs).1.ino), .int .u32 ((getB bs).1.gen), .bool ((getB bs).1.dir), .int .u32 ((getB bs).1.size), .int .u64 ((getB bs).1.change), .int .u64 ((getB bs).1.before), .slice X_1 ((getB bs).1.data.length) x_1, .slice X_2 ((getB bs).1.names.length) x_2, .int .u32 ((getB bs).1.boot)] 61) :: blk b2 (.cells #[.int .u8 0, .int .u32 0, .int .u64 0, .int .u8 0, .int .u32 0, .int .u32 0, .bool false, .int .u32 0, .int .u64 0, .int .u64 0, .slice none 0 0, .slice none 0 0, .int .u32 0] 61) :: blk b1 (.cells #[.int .u8 0, .int .u32 0, .int .u64 0, .int .u8 0, .int .u32 0, .int .u32 0, .string ByteArray.empty, .int .u32 0, .int .u32 0, .string ByteArray.empty, .int .u32 0, .int .u32 0, .slice none 0 0] 28) :: blk p (.cells #[.int .u8 c.client, .int .u32 c.inc, .int .u64 c.seq, .int .u8 c.kind, .int .u32 c.ino, .int .u32 c.gen, .string c.name, .int .u32 c.toIno, .int .u32 c.toGen, .string c.toName, .int .u32 c.off, .int .u32 c.size, .slice A c.data.length k, .int .u64 at_, .int .u64 wait, .int .i64 sent] 70) :: L) H (fun w Z X => X.mskZ [false, true, false, false, false] (by kernel_rfl)) (by kernel_rfl) ?_
            refine z_tk 5 (d := 62) (.pointer (some ⟨p, 0, none⟩)) (IsVal.of_run rfl fun w => (by kernel_rfl)) (by kernel_rfl) ?_
            refine z_mv 6 (d := 63) (.pointer (some ⟨p, 0, none⟩)) (IsVal.of_run rfl fun w => (by kernel_rfl)) (by kernel_rfl) ?_
            refine z_mv 7 (d := 64) (.pointer (some ⟨p, 0, none⟩)) (IsVal.of_run rfl fun w => (by kernel_rfl)) (by kernel_rfl) ?_
            refine z_op 8 rfl fun a w Z H => ?_
            refine op_val (d := 65) (v := .agg #[.int .u8 c.client, .int .u32 c.inc, .int .u64 c.seq, .int .u8 c.kind, .int .u32 c.ino, .int .u32 c.gen, .string c.name, .int .u32 c.toIno, .int .u32 c.toGen, .string c.toName, .int .u32 c.off, .int .u32 c.size, .slice A c.data.length k]) H (val_ld (k := 4) (t := 28) (off := 0) rfl (by kernel_rfl) rfl (by kernel_rfl)) fun a H => ?_
            refine z_on _ H (fun w Z X => X.mskZ [false, true, false, false, false] (by kernel_rfl)) (by kernel_rfl) ?_
            refine z_op 10 rfl fun a w Z H => ?_
            refine op_storeZ (k := 3) (t := 28) (off := 0) (v := .agg #[.int .u8 c.client, .int .u32 c.inc, .int .u64 c.seq, .int .u8 c.kind, .int .u32 c.ino, .int .u32 c.gen, .string c.name, .int .u32 c.toIno, .int .u32 c.toGen, .string c.toName, .int .u32 c.off, .int .u32 c.size, .slice A c.data.length k]) H rfl (by kernel_rfl) (by kernel_rfl) fun a w H => ?_
            refine z_on _ H (fun w Z X => X.mskZ [false, true, false, false, false] (by kernel_rfl)) (by kernel_rfl) ?_
            refine z_op 11 rfl fun a w Z H => ?_
            refine op_storeZ (k := 2) (t := 61) (off := 0) (v := .agg #[.int .u8 ((getB bs).1.client), .int .u32 ((getB bs).1.inc), .int .u64 ((getB bs).1.seq), .int .u8 ((getB bs).1.status), .int .u32 ((getB bs).1.ino), .int .u32 ((getB bs).1.gen), .bool ((getB bs).1.dir), .int .u32 ((getB bs).1.size), .int .u64 ((getB bs).1.change), .int .u64 ((getB bs).1.before), .slice X_1 ((getB bs).1.data.length) x_1, .slice X_2 ((getB bs).1.names.length) x_2, .int .u32 ((getB bs).1.boot)]) H rfl (by kernel_rfl) (by kernel_rfl) fun a w H => ?_
            refine z_on _ H (fun w Z X => X.mskZ [false, true, false, false, false] (by kernel_rfl)) (by kernel_rfl) ?_
            refine z_mv 12 (d := 6) (.bool true) (IsVal.of_run rfl fun w => (by kernel_rfl)) (by kernel_rfl) ?_
            refine z_end [] fun a w H => ?_
            have H := St.toL (M := blk b (.cells #[.int .u8 cl, .int .u32 inc, .int .u64 seq, .slice X_3 0 cap] 68) :: blk b3 (.cells #[.int .u8 ((getB bs).1.client), .int .u32 ((getB bs).1.inc), .int .u64 ((getB bs).1.seq), .int .u8 ((getB bs).1.status), .int .u32 ((getB bs).1.ino), .int .u32 ((getB bs).1.gen), .bool ((getB bs).1.dir), .int .u32 ((getB bs).1.size), .int .u64 ((getB bs).1.change), .int .u64 ((getB bs).1.before), .slice X_1 ((getB bs).1.data.length) x_1, .slice X_2 ((getB bs).1.names.length) x_2, .int .u32 ((getB bs).1.boot)] 61) :: blk b2 (.cells #[.int .u8 ((getB bs).1.client), .int .u32 ((getB bs).1.inc), .int .u64 ((getB bs).1.seq), .int .u8 ((getB bs).1.status), .int .u32 ((getB bs).1.ino), .int .u32 ((getB bs).1.gen), .bool ((getB bs).1.dir), .int .u32 ((getB bs).1.size), .int .u64 ((getB bs).1.change), .int .u64 ((getB bs).1.before), .slice X_1 ((getB bs).1.data.length) x_1, .slice X_2 ((getB bs).1.names.length) x_2, .int .u32 ((getB bs).1.boot)] 61) :: blk b1 (.cells #[.int .u8 c.client, .int .u32 c.inc, .int .u64 c.seq, .int .u8 c.kind, .int .u32 c.ino, .int .u32 c.gen, .string c.name, .int .u32 c.toIno, .int .u32 c.toGen, .string c.toName, .int .u32 c.off, .int .u32 c.size, .slice A c.data.length k] 28) :: blk p (.cells #[.int .u8 c.client, .int .u32 c.inc, .int .u64 c.seq, .int .u8 c.kind, .int .u32 c.ino, .int .u32 c.gen, .string c.name, .int .u32 c.toIno, .int .u32 c.toGen, .string c.toName, .int .u32 c.off, .int .u32 c.size, .slice A c.data.length k, .int .u64 at_, .int .u64 wait, .int .i64 sent] 70) :: L) H (by kernel_rfl)
            refine st_ret (vs := [.agg #[.int .u8 c.client, .int .u32 c.inc, .int .u64 c.seq, .int .u8 c.kind, .int .u32 c.ino, .int .u32 c.gen, .string c.name, .int .u32 c.toIno, .int .u32 c.toGen, .string c.toName, .int .u32 c.off, .int .u32 c.size, .slice A c.data.length k], .agg #[.int .u8 ((getB bs).1.client), .int .u32 ((getB bs).1.inc), .int .u64 ((getB bs).1.seq), .int .u8 ((getB bs).1.status), .int .u32 ((getB bs).1.ino), .int .u32 ((getB bs).1.gen), .bool ((getB bs).1.dir), .int .u32 ((getB bs).1.size), .int .u64 ((getB bs).1.change), .int .u64 ((getB bs).1.before), .slice X_1 ((getB bs).1.data.length) x_1, .slice X_2 ((getB bs).1.names.length) x_2, .int .u32 ((getB bs).1.boot)], .bool true]) H Tryd.func25 rfl (.cell (by kernel_rfl) (H.sat.blk (k := 3) rfl) (by kernel_rfl) (.cell (by kernel_rfl) (H.sat.blk (k := 2) rfl) (by kernel_rfl) (.tmp (by kernel_rfl) (.nil)))) ?_
            have X := (H.sat.msk [true, false, false, false, false])
            exact .inr (⟨R1, hleR1, _, _, _, _, _, by simp only [takeB, hg1n, hg2, hg3n, hg4n, hc1n, cond_true, cond_false]; try rfl, rfl, X⟩)
end Go.Proofs.YtldnpolfcickaaaDoor
