/- Numbers as bytes. -/
import Derived.Test.YtldnpolfcickaaaDoorCall3
set_option linter.unusedVariables false
set_option linter.unusedSimpArgs false
set_option maxRecDepth 100000
set_option maxHeartbeats 1000000
namespace Go.Proofs.YtldnpolfcickaaaDoor
open Go Go.WH

/-- wharfage/call.read -/
theorem call_read {e w : World} {R : Hp} {L : List HP} (A : Option Addr) (cap : Nat) (bs : List UInt8) (hr : RdB R A cap bs) (hb : bs.length ≤ 140737488355328) (X : Sat e w R (L)) :
    Calls Tryd.prog 41 #[.slice A bs.length cap] w (Ret fun v w' => ∃ R', R.Le R' ∧ ∃ A1 : Option Addr, ∃ c1 : Nat, (RdB R' A1 c1 (readP bs).1.data) ∧ v = .tuple #[.agg #[.int .u8 ((readP bs).1.client), .int .u32 ((readP bs).1.inc), .int .u64 ((readP bs).1.seq), .int .u8 ((readP bs).1.kind), .int .u32 ((readP bs).1.ino), .int .u32 ((readP bs).1.gen), .string ((readP bs).1.name), .int .u32 ((readP bs).1.toIno), .int .u32 ((readP bs).1.toGen), .string ((readP bs).1.toName), .int .u32 ((readP bs).1.off), .int .u32 ((readP bs).1.size), .slice A1 ((readP bs).1.data.length) c1], .int .u32 ((readP bs).2.1), .int .i64 ((readP bs).2.2)] ∧ Sat e w' R' (L)) := by
  have hnil := RdB.nil R
  generalize hP : readP bs = P
  refine enter (n := 46) (args := [.slice A bs.length cap]) Tryd.func41 rfl rfl rfl X (fun a H => ?_)
  refine WK.seq ?_
  refine st_text 3 rfl ?_
  refine st_op 0 2 (op_new (d := 2) (vf := fun b => .pointer (some ⟨b, 0, none⟩)) (ob := .cells #[.int .u8 0, .int .u32 0, .int .u64 0, .int .u8 0, .int .u32 0, .int .u32 0, .string ByteArray.empty, .int .u32 0, .int .u32 0, .string ByteArray.empty, .int .u32 0, .int .u32 0, .slice none 0 0] 28) H (IsNew.of_run rfl fun w => (by kernel_rfl)) fun a w b1 H => ?_)
  refine st_run 1 2 0 [(4, .int .i64 0), (3, .int .u32 0)] H (by kernel_rfl) fun a H => ?_
  refine ops_end _ ?_
  refine WK.seq ?_
  refine st_text 3 rfl ?_
  refine st_run 0 1 2 [(7, .slice A bs.length cap)] H (by kernel_rfl) fun a H => ?_
  refine st_op 1 1 (op_call (d := 8) H (by kernel_rfl) rfl (rd_new A cap bs (by first | assumption | omega) (by first | assumption | omega) H.sat) fun a v w q F => ?_)
  obtain ⟨R1, hle, x_1, rfl, X⟩ := q
  have H := St.mk F X
  have hr := hr.grow hle
  have hleR1 := hle
  refine st_run 2 1 0 [(5, .pointer (some ⟨x_1, 0, none⟩))] H (by kernel_rfl) fun a H => ?_
  refine ops_end _ ?_
  refine WK.seq ?_
  refine st_text 3 rfl ?_
  refine st_run 0 1 2 [(9, .pointer (some ⟨x_1, 0, none⟩))] H (by kernel_rfl) fun a H => ?_
  refine st_op 1 1 (op_call (d := 10) H (by kernel_rfl) rfl (rd_number x_1 (Rdr.mk bs 0) H.sat) fun a v w q F => ?_)
  obtain ⟨x_2, x_3, hf1, hf2, rfl, X⟩ := q
  have H := St.mk F X
  refine st_run 2 1 0 [(3, .int .u32 x_2)] H (by kernel_rfl) fun a H => ?_
  refine ops_end _ ?_
  refine WK.seq ?_
  refine st_text 4 rfl ?_
  refine st_run 0 2 2 [(12, .int .u8 (IntKind.u8.wrap (x_2))), (11, .int .u32 x_2)] H (by kernel_rfl) fun a H => ?_
  have H := H.turn (d := 12) (u := .int .u8 (IntKind.u8.wrap (x_2))) (v := .int .u8 (x_2 % 256)) (wU8m _)
  refine st_run 2 1 1 [(13, .pointer (some ⟨b1, 0, none⟩))] H (by kernel_rfl) fun a H => ?_
  refine st_op 3 0 (op_store (k := 1) (t := 5) (off := 0) (v := .int .u8 (x_2 % 256)) H rfl (by kernel_rfl) (by kernel_rfl) fun a w H => ?_)
  refine ops_end _ ?_
  refine WK.seq ?_
  refine st_text 4 rfl ?_
  refine st_run 0 1 3 [(14, .pointer (some ⟨x_1, 0, none⟩))] H (by kernel_rfl) fun a H => ?_
  refine st_op 1 2 (op_call (d := 15) H (by kernel_rfl) rfl (rd_number x_1 x_3 H.sat) fun a v w q F => ?_)
  obtain ⟨x_4, x_5, hf3, hf4, rfl, X⟩ := q
  have H := St.mk F X
  refine st_run 2 1 1 [(16, .pointer (some ⟨b1, 1, none⟩))] H (by kernel_rfl) fun a H => ?_
  refine st_op 3 0 (op_store (k := 1) (t := 22) (off := 1) (v := .int .u32 x_4) H rfl (by kernel_rfl) (by kernel_rfl) fun a w H => ?_)
  refine ops_end _ ?_
  refine WK.seq ?_
  refine st_text 5 rfl ?_
  refine st_run 0 4 1 [(20, .pointer (some ⟨b1, 2, none⟩)), (19, .iface 186 (.agg #[.pointer (some ⟨x_1, 0, none⟩)])), (18, .agg #[.pointer (some ⟨x_1, 0, none⟩)]), (17, .pointer (some ⟨x_1, 0, none⟩))] H (by kernel_rfl) fun a H => ?_
  refine st_op 4 0 (op_call (d := 21) H (by kernel_rfl) rfl (in_great x_1 x_5 b1 _ _ 2 (by exact of_decide_eq_true rfl) ((H.sat.front 1 rfl).front 1 rfl)) fun a v w q F => ?_)
  obtain ⟨x_6, x_7, hf5, hf6, X⟩ := q
  have H := St.mk F X
  refine ops_end _ ?_
  refine WK.seq ?_
  refine st_text 3 rfl ?_
  refine st_run 0 1 2 [(22, .pointer (some ⟨x_1, 0, none⟩))] H (by kernel_rfl) fun a H => ?_
  refine st_op 1 1 (op_call (d := 23) H (by kernel_rfl) rfl (rd_number x_1 x_7 H.sat) fun a v w q F => ?_)
  obtain ⟨x_8, x_9, hf7, hf8, rfl, X⟩ := q
  have H := St.mk F X
  refine st_run 2 1 0 [(6, .int .u32 x_8)] H (by kernel_rfl) fun a H => ?_
  refine ops_end _ ?_
  refine WK.seq ?_
  refine WK.seq ?_
  refine st_text 3 rfl ?_
  refine st_run 0 1 2 [(24, .pointer (some ⟨x_1, 0, none⟩))] H (by kernel_rfl) fun a H => ?_
  refine st_op 1 1 (op_call (d := 25) H (by kernel_rfl) rfl (rd_error x_1 x_9 H.sat) fun a v w q F => ?_)
  obtain ⟨rfl, X⟩ := q
  have H := St.mk F X
  refine st_run 2 1 0 [(4, .int .i64 x_9.e)] H (by kernel_rfl) fun a H => ?_
  refine ops_end _ ?_
  refine WK.seq ?_
  refine st_text 2 rfl ?_
  refine st_run 0 2 0 [(27, .bool (!((x_9.e : Int) == 0))), (26, .int .i64 x_9.e)] H (by kernel_rfl) fun a H => ?_
  refine ops_end _ ?_
  refine st_cond (!((x_9.e : Int) == 0)) H (by kernel_rfl) ?_ ?_
  · intro hc1
    have hc1n := notT hc1
    have hc1' := neB (notT hc1)
    refine WK.seq ?_
    refine st_text 6 rfl ?_
    refine st_op 0 5 (op_val (d := 28) (v := .agg #[.int .u8 (x_2 % 256), .int .u32 x_4, .int .u64 x_6, .int .u8 0, .int .u32 0, .int .u32 0, .string ByteArray.empty, .int .u32 0, .int .u32 0, .string ByteArray.empty, .int .u32 0, .int .u32 0, .slice none 0 0]) H (val_ld (k := 1) (t := 28) (off := 0) rfl (by kernel_rfl) rfl (by kernel_rfl)) fun a H => ?_)
    refine st_run 1 2 3 [(30, .int .i64 x_9.e), (29, .int .u32 x_2)] H (by kernel_rfl) fun a H => ?_
    refine st_op 3 2 (op_store (k := 1) (t := 28) (off := 0) (v := .agg #[.int .u8 (x_2 % 256), .int .u32 x_4, .int .u64 x_6, .int .u8 0, .int .u32 0, .int .u32 0, .string ByteArray.empty, .int .u32 0, .int .u32 0, .string ByteArray.empty, .int .u32 0, .int .u32 0, .slice none 0 0]) H rfl (by kernel_rfl) (by kernel_rfl) fun a w H => ?_)
    refine st_run 4 2 0 [(4, .int .i64 x_9.e), (3, .int .u32 x_2)] H (by kernel_rfl) fun a H => ?_
    refine ops_end _ ?_
    refine st_ret (vs := [.agg #[.int .u8 (x_2 % 256), .int .u32 x_4, .int .u64 x_6, .int .u8 0, .int .u32 0, .int .u32 0, .string ByteArray.empty, .int .u32 0, .int .u32 0, .string ByteArray.empty, .int .u32 0, .int .u32 0, .slice none 0 0], .int .u32 x_2, .int .i64 x_9.e]) H Tryd.func41 rfl (.cell (by kernel_rfl) (H.sat.blk (k := 1) rfl) (by kernel_rfl) (.tmp (by kernel_rfl) (.tmp (by kernel_rfl) (.nil)))) ?_
    have hz0 : readP bs = ((⟨x_2 % 256, x_4, x_6, 0, 0, 0, ByteArray.empty, 0, 0, ByteArray.empty, 0, 0, []⟩ : CallS), x_2, x_9.e) := by first | simp only [readP, hc1n, hf1, hf3, hf5, hf7, List.length_nil, cond_true, cond_false, Bool.not_true, Bool.not_false, Bool.and_true, Bool.and_false, Bool.true_and, Bool.false_and] | rfl
    have X := (H.sat.msk [false, false])
    have hP := hP.symm.trans hz0
    clear hz0
    subst hP
    exact ⟨R1, hleR1, none, 0, RdB.nil _, rfl, X⟩
  · intro hc1
    have hc1n := notF hc1
    have hc1' := eq_of_beq (notF hc1)
    refine WK.skip ?_
    refine WK.seq ?_
    refine WK.seq ?_
    refine st_text 5 rfl ?_
    refine st_run 0 2 3 [(32, .int .u32 (if 255 < x_8 then 255 else x_8)), (31, .int .u32 x_8)] H (by kernel_rfl) fun a H => ?_
    have H := H.turn (d := 32) (u := .int .u32 (if 255 < x_8 then 255 else x_8)) (v := .int .u32 (min x_8 255)) (min_val _ _ _)
    refine st_run 2 1 2 [(33, .int .u8 (IntKind.u8.wrap (min x_8 255)))] H (by kernel_rfl) fun a H => ?_
    have H := H.turn (d := 33) (u := .int .u8 (IntKind.u8.wrap (min x_8 255))) (v := .int .u8 (min x_8 255)) (wU8 (by omega) (by omega))
    refine st_run 3 1 1 [(34, .pointer (some ⟨b1, 3, none⟩))] H (by kernel_rfl) fun a H => ?_
    refine st_op 4 0 (op_store (k := 1) (t := 5) (off := 3) (v := .int .u8 (min x_8 255)) H rfl (by kernel_rfl) (by kernel_rfl) fun a w H => ?_)
    refine ops_end _ ?_
    refine WK.seq ?_
    refine st_text 5 rfl ?_
    refine st_run 0 3 2 [(37, .iface 186 (.agg #[.pointer (some ⟨x_1, 0, none⟩)])), (36, .agg #[.pointer (some ⟨x_1, 0, none⟩)]), (35, .pointer (some ⟨x_1, 0, none⟩))] H (by kernel_rfl) fun a H => ?_
    refine st_op 3 1 (op_call (d := 38) H (by kernel_rfl) rfl (in_fields x_1 x_9 b1 (⟨x_2 % 256, x_4, x_6, min x_8 255, 0, 0, ByteArray.empty, 0, 0, ByteArray.empty, 0, 0, []⟩ : CallS) none 0 (by exact RdB.nil _) (by exact (show ByteArray.empty.size ≤ 1000000 by decide)) (by exact (show ByteArray.empty.size ≤ 1000000 by decide)) ((H.sat.front 1 rfl).front 1 rfl)) fun a v w q F => ?_)
    obtain ⟨R2, hle, x_10, x_11, X_1, x_12, hf9, hf10, rfl, X⟩ := q
    have H := St.mk F X
    have hr := hr.grow hle
    have hleR2 := hleR1.trans hle
    refine st_run 4 1 0 [(39, .bool (!(hasKind (⟨x_2 % 256, x_4, x_6, min x_8 255, 0, 0, ByteArray.empty, 0, 0, ByteArray.empty, 0, 0, []⟩ : CallS))))] H (by kernel_rfl) fun a H => ?_
    refine ops_end _ ?_
    refine st_cond (!(hasKind (⟨x_2 % 256, x_4, x_6, min x_8 255, 0, 0, ByteArray.empty, 0, 0, ByteArray.empty, 0, 0, []⟩ : CallS))) H (by kernel_rfl) ?_ ?_
    · intro hc2
      have hc2n := notT hc2
      refine WK.seq ?_
      refine st_text 5 rfl ?_
      refine st_op 0 4 (op_val (d := 40) (v := .agg #[.int .u8 x_10.client, .int .u32 x_10.inc, .int .u64 x_10.seq, .int .u8 x_10.kind, .int .u32 x_10.ino, .int .u32 x_10.gen, .string x_10.name, .int .u32 x_10.toIno, .int .u32 x_10.toGen, .string x_10.toName, .int .u32 x_10.off, .int .u32 x_10.size, .slice X_1 x_10.data.length x_12]) H (val_ld (k := 1) (t := 28) (off := 0) rfl (by kernel_rfl) rfl (by kernel_rfl)) fun a H => ?_)
      refine st_run 1 1 3 [(41, .int .u32 x_2)] H (by kernel_rfl) fun a H => ?_
      refine st_op 2 2 (op_store (k := 1) (t := 28) (off := 0) (v := .agg #[.int .u8 x_10.client, .int .u32 x_10.inc, .int .u64 x_10.seq, .int .u8 x_10.kind, .int .u32 x_10.ino, .int .u32 x_10.gen, .string x_10.name, .int .u32 x_10.toIno, .int .u32 x_10.toGen, .string x_10.toName, .int .u32 x_10.off, .int .u32 x_10.size, .slice X_1 x_10.data.length x_12]) H rfl (by kernel_rfl) (by kernel_rfl) fun a w H => ?_)
      refine st_run 3 2 0 [(4, .int .i64 5), (3, .int .u32 x_2)] H (by kernel_rfl) fun a H => ?_
      refine ops_end _ ?_
      refine st_ret (vs := [.agg #[.int .u8 x_10.client, .int .u32 x_10.inc, .int .u64 x_10.seq, .int .u8 x_10.kind, .int .u32 x_10.ino, .int .u32 x_10.gen, .string x_10.name, .int .u32 x_10.toIno, .int .u32 x_10.toGen, .string x_10.toName, .int .u32 x_10.off, .int .u32 x_10.size, .slice X_1 x_10.data.length x_12], .int .u32 x_2, .int .i64 5]) H Tryd.func41 rfl (.cell (by kernel_rfl) (H.sat.blk (k := 1) rfl) (by kernel_rfl) (.tmp (by kernel_rfl) (.tmp (by kernel_rfl) (.nil)))) ?_
      have hz0 : readP bs = (x_10, x_2, 5) := by first | simp only [readP, hc1n, hc2n, hf1, hf3, hf5, hf7, hf9, List.length_nil, cond_true, cond_false, Bool.not_true, Bool.not_false, Bool.and_true, Bool.and_false, Bool.true_and, Bool.false_and] | rfl
      have X := (H.sat.msk [false, false])
      have hP := hP.symm.trans hz0
      clear hz0
      subst hP
      exact ⟨R2, hleR2, X_1, x_12, hf10, rfl, X⟩
    · intro hc2
      have hc2n := notF hc2
      refine WK.skip ?_
      refine WK.seq ?_
      refine st_floatsM [false, true] [.tk 0, .mv 1, .mv 2, .op 3, .op 4, .mv 5, .mv 6] rfl (by kernel_rfl) (by kernel_rfl) (by kernel_rfl) H ?_
      refine z_tk 0 (d := 42) (.agg #[.int .u8 x_10.client, .int .u32 x_10.inc, .int .u64 x_10.seq, .int .u8 x_10.kind, .int .u32 x_10.ino, .int .u32 x_10.gen, .string x_10.name, .int .u32 x_10.toIno, .int .u32 x_10.toGen, .string x_10.toName, .int .u32 x_10.off, .int .u32 x_10.size, .slice X_1 x_10.data.length x_12]) (val_ld (k := 0) (t := 28) (off := 0) rfl (by kernel_rfl) rfl (by kernel_rfl)) (by kernel_rfl) ?_
      refine z_mv 1 (d := 43) (.int .u32 x_2) (IsVal.of_run rfl fun w => (by kernel_rfl)) (by kernel_rfl) ?_
      refine z_mv 2 (d := 44) (.pointer (some ⟨x_1, 0, none⟩)) (IsVal.of_run rfl fun w => (by kernel_rfl)) (by kernel_rfl) ?_
      refine z_op 3 rfl fun a w Z H => ?_
      refine op_call (d := 45) H (by kernel_rfl) rfl (rd_end x_1 x_11 H.sat) fun a v w q F => ?_
      obtain ⟨rfl, X⟩ := q
      have H := St.mk F X
      refine z_on (rdrR R2 x_1 x_11 :: blk b1 (.cells #[.int .u8 x_10.client, .int .u32 x_10.inc, .int .u64 x_10.seq, .int .u8 x_10.kind, .int .u32 x_10.ino, .int .u32 x_10.gen, .string x_10.name, .int .u32 x_10.toIno, .int .u32 x_10.toGen, .string x_10.toName, .int .u32 x_10.off, .int .u32 x_10.size, .slice X_1 x_10.data.length x_12] 28) :: L) H (fun w Z X => X.mskZ [false, true] (by kernel_rfl)) (by kernel_rfl) ?_
      refine z_op 4 rfl fun a w Z H => ?_
      refine op_storeZ (k := 1) (t := 28) (off := 0) (v := .agg #[.int .u8 x_10.client, .int .u32 x_10.inc, .int .u64 x_10.seq, .int .u8 x_10.kind, .int .u32 x_10.ino, .int .u32 x_10.gen, .string x_10.name, .int .u32 x_10.toIno, .int .u32 x_10.toGen, .string x_10.toName, .int .u32 x_10.off, .int .u32 x_10.size, .slice X_1 x_10.data.length x_12]) H rfl (by kernel_rfl) (by kernel_rfl) fun a w H => ?_
      refine z_on _ H (fun w Z X => X.mskZ [false, true] (by kernel_rfl)) (by kernel_rfl) ?_
      refine z_mv 5 (d := 3) (.int .u32 x_2) (IsVal.of_run rfl fun w => (by kernel_rfl)) (by kernel_rfl) ?_
      refine z_mv 6 (d := 4) (.int .i64 x_11.err) (IsVal.of_run rfl fun w => (by kernel_rfl)) (by kernel_rfl) ?_
      refine z_end [] fun a w H => ?_
      refine st_ret (vs := [.agg #[.int .u8 x_10.client, .int .u32 x_10.inc, .int .u64 x_10.seq, .int .u8 x_10.kind, .int .u32 x_10.ino, .int .u32 x_10.gen, .string x_10.name, .int .u32 x_10.toIno, .int .u32 x_10.toGen, .string x_10.toName, .int .u32 x_10.off, .int .u32 x_10.size, .slice X_1 x_10.data.length x_12], .int .u32 x_2, .int .i64 x_11.err]) H Tryd.func41 rfl (.cell (by kernel_rfl) (H.sat.blk (k := 1) rfl) (by kernel_rfl) (.tmp (by kernel_rfl) (.tmp (by kernel_rfl) (.nil)))) ?_
      have hz0 : readP bs = (x_10, x_2, x_11.err) := by first | simp only [readP, hc1n, hc2n, hf1, hf3, hf5, hf7, hf9, List.length_nil, cond_true, cond_false, Bool.not_true, Bool.not_false, Bool.and_true, Bool.and_false, Bool.true_and, Bool.false_and] | rfl
      have X := (H.sat.msk [false, false])
      have hP := hP.symm.trans hz0
      clear hz0
      subst hP
      exact ⟨R2, hleR2, X_1, x_12, hf10, rfl, X⟩
end Go.Proofs.YtldnpolfcickaaaDoor
