/- Numbers as bytes. -/
import Derived.Test.YtldnpolfcickaaaDoorBack1
set_option linter.unusedVariables false
set_option linter.unusedSimpArgs false
set_option maxRecDepth 100000
set_option maxHeartbeats 1000000
namespace Go.Proofs.YtldnpolfcickaaaDoor
open Go Go.WH

set_option maxHeartbeats 8000000 in
/-- wharfage/back.Get -/
theorem back_get {e w : World} {R : Hp} {L : List HP} (A : Option Addr) (cap : Nat) (bs : List UInt8) (hr : RdB R A cap bs) (hT : Tabs 0 1 R) (X : Sat e w R (L)) :
    Calls Tryd.prog 67 #[.slice A bs.length cap] w (Ret fun v w' => ∃ R', R.Le R' ∧ ∃ A1 : Option Addr, ∃ k1 : Nat, ∃ N1 : Option Addr, ∃ n1 : Nat, (RdB R' A1 k1 (getB bs).1.data) ∧ (RdS R' N1 n1 (getB bs).1.names) ∧ v = .tuple #[.agg #[.int .u8 ((getB bs).1.client), .int .u32 ((getB bs).1.inc), .int .u64 ((getB bs).1.seq), .int .u8 ((getB bs).1.status), .int .u32 ((getB bs).1.ino), .int .u32 ((getB bs).1.gen), .bool ((getB bs).1.dir), .int .u32 ((getB bs).1.size), .int .u64 ((getB bs).1.change), .int .u64 ((getB bs).1.before), .slice A1 ((getB bs).1.data.length) k1, .slice N1 ((getB bs).1.names.length) n1, .int .u32 ((getB bs).1.boot)], .int .i64 ((getB bs).2)] ∧ Sat e w' R' (L)) := by
  refine enter (n := 79) (args := [.slice A bs.length cap]) Tryd.func67 rfl rfl rfl X (fun a H => ?_)
  refine WK.seq ?_
  refine st_text 2 rfl ?_
  refine st_op 0 1 (op_new (d := 2) (vf := fun b => .pointer (some ⟨b, 0, none⟩)) (ob := .cells #[.int .u8 0, .int .u32 0, .int .u64 0, .int .u8 0, .int .u32 0, .int .u32 0, .bool false, .int .u32 0, .int .u64 0, .int .u64 0, .slice none 0 0, .slice none 0 0, .int .u32 0] 61) H (IsNew.of_run rfl fun w => (by kernel_rfl)) fun a w b1 H => ?_)
  refine st_run 1 1 0 [(3, .int .i64 0)] H (by kernel_rfl) fun a H => ?_
  refine ops_end _ ?_
  refine WK.seq ?_
  refine WK.seq ?_
  refine st_text 3 rfl ?_
  refine st_run 0 3 0 [(10, .bool (decide ((((bs.length : Nat) : Int) : Int) > 4096))), (9, .int .i64 ((bs.length : Nat) : Int)), (8, .slice A bs.length cap)] H (by kernel_rfl) fun a H => ?_
  refine ops_end _ ?_
  refine st_cond (decide ((((bs.length : Nat) : Int) : Int) > 4096)) H (by kernel_rfl) ?_ ?_
  · intro hc1
    have hc1' := of_decide_eq_true hc1
    refine WK.seq ?_
    refine st_text 3 rfl ?_
    refine st_run 0 1 2 [(11, .agg #[.int .u8 0, .int .u32 0, .int .u64 0, .int .u8 0, .int .u32 0, .int .u32 0, .bool false, .int .u32 0, .int .u64 0, .int .u64 0, .slice none 0 0, .slice none 0 0, .int .u32 0])] H (by kernel_rfl) fun a H => ?_
    refine st_op 1 1 (op_store (k := 0) (t := 61) (off := 0) (v := .agg #[.int .u8 0, .int .u32 0, .int .u64 0, .int .u8 0, .int .u32 0, .int .u32 0, .bool false, .int .u32 0, .int .u64 0, .int .u64 0, .slice none 0 0, .slice none 0 0, .int .u32 0]) H rfl (by kernel_rfl) (by kernel_rfl) fun a w H => ?_)
    refine st_run 2 1 0 [(3, .int .i64 3)] H (by kernel_rfl) fun a H => ?_
    refine ops_end _ ?_
    have H := St.toL (M := blk b1 (.cells #[.int .u8 0, .int .u32 0, .int .u64 0, .int .u8 0, .int .u32 0, .int .u32 0, .bool false, .int .u32 0, .int .u64 0, .int .u64 0, .slice none 0 0, .slice none 0 0, .int .u32 0] 61) :: L) H (by kernel_rfl)
    refine st_ret (vs := [.agg #[.int .u8 0, .int .u32 0, .int .u64 0, .int .u8 0, .int .u32 0, .int .u32 0, .bool false, .int .u32 0, .int .u64 0, .int .u64 0, .slice none 0 0, .slice none 0 0, .int .u32 0], .int .i64 3]) H Tryd.func67 rfl (.cell (by kernel_rfl) (H.sat.blk (k := 0) rfl) (by kernel_rfl) (.tmp (by kernel_rfl) (.nil))) ?_
    have hz0 : getB bs = ((⟨0, 0, 0, 0, 0, 0, false, 0, 0, 0, [], [], 0⟩ : BackS), 3) := by first | simp only [getB, getB1, getB2, backR, withNames, hc1, List.length_nil, cond_true, cond_false, Bool.not_true, Bool.not_false, Bool.and_true, Bool.and_false, Bool.true_and, Bool.false_and] | rfl
    have X := (H.sat.msk [false])
    rewrite [hz0]
    exact ⟨R, Hp.Le.refl _, none, 0, none, 0, RdB.nil _, RdS.nil _, rfl, X⟩
  · intro hc1
    have hc1' := of_decide_eq_false hc1
    refine WK.skip ?_
    refine WK.seq ?_
    refine st_text 3 rfl ?_
    refine st_run 0 1 2 [(12, .slice A bs.length cap)] H (by kernel_rfl) fun a H => ?_
    refine st_op 1 1 (op_call (d := 13) H (by kernel_rfl) rfl (rd_new A cap bs (by first | assumption | omega) (by first | assumption | omega) H.sat) fun a v w q F => ?_)
    obtain ⟨R1, hle, x_1, rfl, X⟩ := q
    have H := St.mk F X
    have hr := hr.grow hle
    have hT := hT.grow hle
    have hleR1 := hle
    refine st_run 2 1 0 [(4, .pointer (some ⟨x_1, 0, none⟩))] H (by kernel_rfl) fun a H => ?_
    refine ops_end _ ?_
    refine WK.seq ?_
    refine st_text 15 rfl ?_
    refine st_run 0 1 14 [(14, .pointer (some ⟨x_1, 0, none⟩))] H (by kernel_rfl) fun a H => ?_
    refine st_op 1 13 (op_call (d := 15) H (by kernel_rfl) rfl (rd_number x_1 (Rdr.mk bs 0) H.sat) fun a v w q F => ?_)
    obtain ⟨x_2, x_3, hf1, hf2, rfl, X⟩ := q
    have H := St.mk F X
    refine st_op 2 12 (op_call (d := 16) H (by kernel_rfl) rfl (back_small x_2 (by first | assumption | omega) H.sat) fun a v w q F => ?_)
    obtain ⟨rfl, X⟩ := q
    have H := St.mk F X
    refine st_run 3 1 11 [(17, .pointer (some ⟨x_1, 0, none⟩))] H (by kernel_rfl) fun a H => ?_
    refine st_op 4 10 (op_call (d := 18) H (by kernel_rfl) rfl (rd_number x_1 x_3 H.sat) fun a v w q F => ?_)
    obtain ⟨x_4, x_5, hf3, hf4, rfl, X⟩ := q
    have H := St.mk F X
    refine st_run 5 1 9 [(19, .pointer (some ⟨x_1, 0, none⟩))] H (by kernel_rfl) fun a H => ?_
    refine st_op 6 8 (op_call (d := 20) H (by kernel_rfl) rfl (rd_great x_1 x_5 H.sat) fun a v w q F => ?_)
    obtain ⟨x_6, x_7, hf5, hf6, rfl, X⟩ := q
    have H := St.mk F X
    refine st_run 7 1 7 [(21, .pointer (some ⟨x_1, 0, none⟩))] H (by kernel_rfl) fun a H => ?_
    refine st_op 8 6 (op_call (d := 22) H (by kernel_rfl) rfl (rd_number x_1 x_7 H.sat) fun a v w q F => ?_)
    obtain ⟨x_8, x_9, hf7, hf8, rfl, X⟩ := q
    have H := St.mk F X
    refine st_op 9 5 (op_call (d := 23) H (by kernel_rfl) rfl (back_small x_8 (by first | assumption | omega) H.sat) fun a v w q F => ?_)
    obtain ⟨rfl, X⟩ := q
    have H := St.mk F X
    refine st_run 10 1 4 [(24, .pointer (some ⟨x_1, 0, none⟩))] H (by kernel_rfl) fun a H => ?_
    refine st_op 11 3 (op_call (d := 25) H (by kernel_rfl) rfl (rd_number x_1 x_9 H.sat) fun a v w q F => ?_)
    obtain ⟨x_10, x_11, hf9, hf10, rfl, X⟩ := q
    have H := St.mk F X
    refine st_run 12 1 2 [(26, .agg #[.int .u8 (min x_2 255), .int .u32 x_4, .int .u64 x_6, .int .u8 (min x_8 255), .int .u32 0, .int .u32 0, .bool false, .int .u32 0, .int .u64 0, .int .u64 0, .slice none 0 0, .slice none 0 0, .int .u32 x_10])] H (by kernel_rfl) fun a H => ?_
    refine st_op 13 1 (op_new (d := 5) (vf := fun b => .pointer (some ⟨b, 0, none⟩)) (ob := .cells #[.int .u8 0, .int .u32 0, .int .u64 0, .int .u8 0, .int .u32 0, .int .u32 0, .bool false, .int .u32 0, .int .u64 0, .int .u64 0, .slice none 0 0, .slice none 0 0, .int .u32 0] 61) H (IsNew.of_run rfl fun w => (by kernel_rfl)) fun a w b2 H => ?_)
    refine st_op 14 0 (op_store (k := 0) (t := 61) (off := 0) (v := .agg #[.int .u8 (min x_2 255), .int .u32 x_4, .int .u64 x_6, .int .u8 (min x_8 255), .int .u32 0, .int .u32 0, .bool false, .int .u32 0, .int .u64 0, .int .u64 0, .slice none 0 0, .slice none 0 0, .int .u32 x_10]) H rfl (by kernel_rfl) (by kernel_rfl) fun a w H => ?_)
    refine ops_end _ ?_
    have H := St.toL (M := blk b2 (.cells #[.int .u8 (min x_2 255), .int .u32 x_4, .int .u64 x_6, .int .u8 (min x_8 255), .int .u32 0, .int .u32 0, .bool false, .int .u32 0, .int .u64 0, .int .u64 0, .slice none 0 0, .slice none 0 0, .int .u32 x_10] 61) :: rdrR R1 x_1 x_11 :: blk b1 (.cells #[.int .u8 0, .int .u32 0, .int .u64 0, .int .u8 0, .int .u32 0, .int .u32 0, .bool false, .int .u32 0, .int .u64 0, .int .u64 0, .slice none 0 0, .slice none 0 0, .int .u32 0] 61) :: L) H (by kernel_rfl)
    refine WK.seq ?_
    refine st_text 14 rfl ?_
    refine st_run 0 1 13 [(27, .pointer (some ⟨x_1, 0, none⟩))] H (by kernel_rfl) fun a H => ?_
    refine st_op 1 12 (op_call (d := 28) H (by kernel_rfl) rfl (rd_number x_1 x_11 (H.sat.front 1 rfl)) fun a v w q F => ?_)
    obtain ⟨x_12, x_13, hf11, hf12, rfl, X⟩ := q
    have H := St.mk F X
    refine st_run 2 1 11 [(29, .pointer (some ⟨x_1, 0, none⟩))] H (by kernel_rfl) fun a H => ?_
    refine st_op 3 10 (op_call (d := 30) H (by kernel_rfl) rfl (rd_number x_1 x_13 H.sat) fun a v w q F => ?_)
    obtain ⟨x_14, x_15, hf13, hf14, rfl, X⟩ := q
    have H := St.mk F X
    refine st_run 4 2 8 [(32, .pointer (some ⟨x_1, 0, none⟩)), (31, .agg #[.int .u32 x_12, .int .u32 x_14])] H (by kernel_rfl) fun a H => ?_
    refine st_op 6 7 (op_call (d := 33) H (by kernel_rfl) rfl (rd_truth x_1 x_15 H.sat) fun a v w q F => ?_)
    obtain ⟨x_16, x_17, hf15, hf16, rfl, X⟩ := q
    have H := St.mk F X
    refine st_run 7 1 6 [(34, .pointer (some ⟨x_1, 0, none⟩))] H (by kernel_rfl) fun a H => ?_
    refine st_op 8 5 (op_call (d := 35) H (by kernel_rfl) rfl (rd_number x_1 (x_17.fail (decide ((x_16 : Int) > 1)) 5) H.sat) fun a v w q F => ?_)
    obtain ⟨x_18, x_19, hf17, hf18, rfl, X⟩ := q
    have H := St.mk F X
    refine st_run 9 1 4 [(36, .pointer (some ⟨x_1, 0, none⟩))] H (by kernel_rfl) fun a H => ?_
    refine st_op 10 3 (op_call (d := 37) H (by kernel_rfl) rfl (rd_great x_1 x_19 H.sat) fun a v w q F => ?_)
    obtain ⟨x_20, x_21, hf19, hf20, rfl, X⟩ := q
    have H := St.mk F X
    refine st_run 11 2 1 [(39, .pointer (some ⟨b2, 4, none⟩)), (38, .agg #[.int .u32 x_12, .int .u32 x_14, .bool ((x_16 : Int) == 1), .int .u32 x_18, .int .u64 x_20])] H (by kernel_rfl) fun a H => ?_
    refine st_op 13 0 (op_store (k := 1) (t := 58) (off := 4) (v := .agg #[.int .u32 x_12, .int .u32 x_14, .bool ((x_16 : Int) == 1), .int .u32 x_18, .int .u64 x_20]) H rfl (by kernel_rfl) (by kernel_rfl) fun a w H => ?_)
    refine ops_end _ ?_
    have H := St.toL (M := rdrR R1 x_1 x_21 :: blk b2 (.cells #[.int .u8 (min x_2 255), .int .u32 x_4, .int .u64 x_6, .int .u8 (min x_8 255), .int .u32 x_12, .int .u32 x_14, .bool ((x_16 : Int) == 1), .int .u32 x_18, .int .u64 x_20, .int .u64 0, .slice none 0 0, .slice none 0 0, .int .u32 x_10] 61) :: blk b1 (.cells #[.int .u8 0, .int .u32 0, .int .u64 0, .int .u8 0, .int .u32 0, .int .u32 0, .bool false, .int .u32 0, .int .u64 0, .int .u64 0, .slice none 0 0, .slice none 0 0, .int .u32 0] 61) :: L) H (by kernel_rfl)
    refine WK.seq ?_
    refine st_text 4 rfl ?_
    refine st_run 0 1 3 [(40, .pointer (some ⟨x_1, 0, none⟩))] H (by kernel_rfl) fun a H => ?_
    refine st_op 1 2 (op_call (d := 41) H (by kernel_rfl) rfl (rd_great x_1 x_21 H.sat) fun a v w q F => ?_)
    obtain ⟨x_22, x_23, hf21, hf22, rfl, X⟩ := q
    have H := St.mk F X
    refine st_run 2 1 1 [(42, .pointer (some ⟨b2, 9, none⟩))] H (by kernel_rfl) fun a H => ?_
    refine st_op 3 0 (op_store (k := 1) (t := 23) (off := 9) (v := .int .u64 x_22) H rfl (by kernel_rfl) (by kernel_rfl) fun a w H => ?_)
    refine ops_end _ ?_
    have H := St.toL (M := rdrR R1 x_1 x_23 :: blk b2 (.cells #[.int .u8 (min x_2 255), .int .u32 x_4, .int .u64 x_6, .int .u8 (min x_8 255), .int .u32 x_12, .int .u32 x_14, .bool ((x_16 : Int) == 1), .int .u32 x_18, .int .u64 x_20, .int .u64 x_22, .slice none 0 0, .slice none 0 0, .int .u32 x_10] 61) :: blk b1 (.cells #[.int .u8 0, .int .u32 0, .int .u64 0, .int .u8 0, .int .u32 0, .int .u32 0, .bool false, .int .u32 0, .int .u64 0, .int .u64 0, .slice none 0 0, .slice none 0 0, .int .u32 0] 61) :: L) H (by kernel_rfl)
    refine WK.seq ?_
    refine st_text 4 rfl ?_
    refine st_run 0 1 3 [(43, .pointer (some ⟨x_1, 0, none⟩))] H (by kernel_rfl) fun a H => ?_
    refine st_op 1 2 (op_call (d := 44) H (by kernel_rfl) rfl (rd_bytes x_1 x_23 4096 (by first | assumption | omega) H.sat) fun a v w q F => ?_)
    obtain ⟨R2, hle, x_24, x_25, X_1, x_26, hf23, hf24, rfl, X⟩ := q
    have H := St.mk F X
    have hr := hr.grow hle
    have hT := hT.grow hle
    have hleR2 := hleR1.trans hle
    refine st_run 2 1 1 [(45, .pointer (some ⟨b2, 10, none⟩))] H (by kernel_rfl) fun a H => ?_
    refine st_op 3 0 (op_store (k := 1) (t := 26) (off := 10) (v := .slice X_1 x_24.length x_26) H rfl (by kernel_rfl) (by kernel_rfl) fun a w H => ?_)
    refine ops_end _ ?_
    have H := St.toL (M := rdrR R2 x_1 x_25 :: blk b2 (.cells #[.int .u8 (min x_2 255), .int .u32 x_4, .int .u64 x_6, .int .u8 (min x_8 255), .int .u32 x_12, .int .u32 x_14, .bool ((x_16 : Int) == 1), .int .u32 x_18, .int .u64 x_20, .int .u64 x_22, .slice X_1 x_24.length x_26, .slice none 0 0, .int .u32 x_10] 61) :: blk b1 (.cells #[.int .u8 0, .int .u32 0, .int .u64 0, .int .u8 0, .int .u32 0, .int .u32 0, .bool false, .int .u32 0, .int .u64 0, .int .u64 0, .slice none 0 0, .slice none 0 0, .int .u32 0] 61) :: L) H (by kernel_rfl)
    refine WK.seq ?_
    refine st_text 3 rfl ?_
    refine st_run 0 1 2 [(46, .pointer (some ⟨x_1, 0, none⟩))] H (by kernel_rfl) fun a H => ?_
    refine st_op 1 1 (op_call (d := 47) H (by kernel_rfl) rfl (rd_number x_1 x_25 H.sat) fun a v w q F => ?_)
    obtain ⟨x_27, x_28, hf25, hf26, rfl, X⟩ := q
    have H := St.mk F X
    refine st_run 2 1 0 [(6, .int .u32 x_27)] H (by kernel_rfl) fun a H => ?_
    refine ops_end _ ?_
    refine WK.seq ?_
    refine WK.seq ?_
    refine st_text 7 rfl ?_
    refine st_run 0 3 4 [(50, .bool (decide ((x_27 : Int) > 32))), (49, .bool (decide ((x_27 : Int) > 32))), (48, .int .u32 x_27)] H (by kernel_rfl) fun a H => ?_
    rcases Bool.eq_false_or_eq_true (decide ((x_27 : Int) > 32)) with hg1 | hg1
    · skip
      have H := H.also (d := 50) (u := .bool (decide ((x_27 : Int) > 32))) (v := .bool true) (by kernel_rfl) (congrArg Value.bool (hg1))
      have hg1' := of_decide_eq_true hg1
      refine st_run 3 1 3 [(51, .pointer (some ⟨x_1, 0, none⟩))] H (by kernel_rfl) fun a H => ?_
      refine st_op 4 2 (op_call (d := 52) H (by kernel_rfl) rfl (rd_error x_1 x_28 H.sat) fun a v w q F => ?_)
      obtain ⟨rfl, X⟩ := q
      have H := St.mk F X
      refine st_run 5 2 0 [(54, .bool ((x_28.e : Int) == 0)), (53, .bool ((x_28.e : Int) == 0))] H (by kernel_rfl) fun a H => ?_
      refine ops_end _ ?_
      refine st_cond ((x_28.e : Int) == 0) H (by kernel_rfl) ?_ ?_
      · intro hc2
        have hc2' := eq_of_beq hc2
        refine WK.seq ?_
        refine st_text 3 rfl ?_
        refine st_run 0 1 2 [(55, .agg #[.int .u8 0, .int .u32 0, .int .u64 0, .int .u8 0, .int .u32 0, .int .u32 0, .bool false, .int .u32 0, .int .u64 0, .int .u64 0, .slice none 0 0, .slice none 0 0, .int .u32 0])] H (by kernel_rfl) fun a H => ?_
        refine st_op 1 1 (op_store (k := 2) (t := 61) (off := 0) (v := .agg #[.int .u8 0, .int .u32 0, .int .u64 0, .int .u8 0, .int .u32 0, .int .u32 0, .bool false, .int .u32 0, .int .u64 0, .int .u64 0, .slice none 0 0, .slice none 0 0, .int .u32 0]) H rfl (by kernel_rfl) (by kernel_rfl) fun a w H => ?_)
        refine st_run 2 1 0 [(3, .int .i64 3)] H (by kernel_rfl) fun a H => ?_
        refine ops_end _ ?_
        have H := St.toL (M := rdrR R2 x_1 x_28 :: blk b2 (.cells #[.int .u8 (min x_2 255), .int .u32 x_4, .int .u64 x_6, .int .u8 (min x_8 255), .int .u32 x_12, .int .u32 x_14, .bool ((x_16 : Int) == 1), .int .u32 x_18, .int .u64 x_20, .int .u64 x_22, .slice X_1 x_24.length x_26, .slice none 0 0, .int .u32 x_10] 61) :: blk b1 (.cells #[.int .u8 0, .int .u32 0, .int .u64 0, .int .u8 0, .int .u32 0, .int .u32 0, .bool false, .int .u32 0, .int .u64 0, .int .u64 0, .slice none 0 0, .slice none 0 0, .int .u32 0] 61) :: L) H (by kernel_rfl)
        refine st_ret (vs := [.agg #[.int .u8 0, .int .u32 0, .int .u64 0, .int .u8 0, .int .u32 0, .int .u32 0, .bool false, .int .u32 0, .int .u64 0, .int .u64 0, .slice none 0 0, .slice none 0 0, .int .u32 0], .int .i64 3]) H Tryd.func67 rfl (.cell (by kernel_rfl) (H.sat.blk (k := 2) rfl) (by kernel_rfl) (.tmp (by kernel_rfl) (.nil))) ?_
        have hz0 : getB bs = ((⟨0, 0, 0, 0, 0, 0, false, 0, 0, 0, [], [], 0⟩ : BackS), 3) := by first | simp only [getB, getB1, getB2, backR, withNames, hc1, hg1, hc2, hf1, hf3, hf5, hf7, hf9, hf11, hf13, hf15, hf17, hf19, hf21, hf23, hf25, List.length_nil, cond_true, cond_false, Bool.not_true, Bool.not_false, Bool.and_true, Bool.and_false, Bool.true_and, Bool.false_and] | rfl
        have X := (H.sat.msk [false, false, false])
        rewrite [hz0]
        exact ⟨R2, hleR2, none, 0, none, 0, RdB.nil _, RdS.nil _, rfl, X⟩
      · intro hc2
        have hc2' := neB hc2
        refine WK.skip ?_
        refine WK.seq ?_
        refine WK.seq ?_
        refine st_text 2 rfl ?_
        refine st_run 0 2 0 [(57, .int .u32 0), (56, .int .u32 x_27)] H (by kernel_rfl) fun a H => ?_
        refine ops_end _ ?_
        refine WK.block ?_
        have H := H.with (H.sat.nil_row 9 1)
        have H := St.toL (M := strsO 9 none 0 ([]) :: rdrR R2 x_1 x_28 :: blk b2 (.cells #[.int .u8 (min x_2 255), .int .u32 x_4, .int .u64 x_6, .int .u8 (min x_8 255), .int .u32 x_12, .int .u32 x_14, .bool ((x_16 : Int) == 1), .int .u32 x_18, .int .u64 x_20, .int .u64 x_22, .slice X_1 x_24.length x_26, .slice none 0 0, .int .u32 x_10] 61) :: blk b1 (.cells #[.int .u8 0, .int .u32 0, .int .u64 0, .int .u8 0, .int .u32 0, .int .u32 0, .bool false, .int .u32 0, .int .u64 0, .int .u64 0, .slice none 0 0, .slice none 0 0, .int .u32 0] 61) :: L) H (by kernel_rfl)
        refine WK.loop (fun m a w => ∃ Rl : Hp, ∃ j : Nat, ∃ An : Option Addr, ∃ cn : Nat, ((x_27).toNat - j) = m ∧ (R2.Le Rl) ∧ (j ≤ (x_27).toNat) ∧ St 79 e Rl a w [(2, .pointer (some ⟨b1, 0, none⟩)), (3, .int .i64 0), (4, .pointer (some ⟨x_1, 0, none⟩)), (5, .pointer (some ⟨b2, 0, none⟩)), (56, .int .u32 x_27), (57, .int .u32 (j : Int))] (strsO 9 An cn ((namesR j x_28).1) :: rdrR Rl x_1 ((namesR j x_28).2) :: blk b2 (.cells #[.int .u8 (min x_2 255), .int .u32 x_4, .int .u64 x_6, .int .u8 (min x_8 255), .int .u32 x_12, .int .u32 x_14, .bool ((x_16 : Int) == 1), .int .u32 x_18, .int .u64 x_20, .int .u64 x_22, .slice X_1 x_24.length x_26, .slice An ((namesR j x_28).1.length) cn, .int .u32 x_10] 61) :: blk b1 (.cells #[.int .u8 0, .int .u32 0, .int .u64 0, .int .u8 0, .int .u32 0, .int .u32 0, .bool false, .int .u32 0, .int .u64 0, .int .u64 0, .slice none 0 0, .slice none 0 0, .int .u32 0] 61) :: L)) ((x_27).toNat - 0) ⟨R2, 0, none, 0, rfl, Hp.Le.refl _, by omega, H.sub' ⟨by kernel_rfl, by kernel_rfl, by kernel_rfl, by kernel_rfl, by kernel_rfl, by kernel_rfl, trivial⟩⟩ ?_
        clear H
        rintro m a w ⟨Rl, j, An, cn, rfl, hl0_0, hl0_1, H⟩ hrec
        have hle := hl0_0
        have hr := hr.grow hle
        have hf24 := hf24.grow hle
        have hT := hT.grow hle
        have hleRl := hleR2.trans hle
        have hrec0 := hrec; clear hrec
        refine WK.seq ?_
        refine st_text 1 rfl ?_
        refine st_run 0 1 0 [(58, .bool (decide (((j : Int) : Int) < x_27)))] H (by kernel_rfl) fun a H => ?_
        refine ops_end _ ?_
        refine WK.seq ?_
        refine st_cond (decide (((j : Int) : Int) < x_27)) H (by kernel_rfl) ?_ ?_
        · intro hc3
          have hc3' := of_decide_eq_true hc3
          
          refine WK.skip ?_
          refine WK.seq ?_
          refine WK.block ?_
          refine st_floatsM [false, false, true, false] [.mv 0, .tk 1, .mv 2, .op 3, .op 4, .op 5, .op 6, .mv 7, .op 8] rfl (by kernel_rfl) (by kernel_rfl) (by kernel_rfl) H ?_
          refine z_mv 0 (d := 59) (.pointer (some ⟨b2, 11, none⟩)) (IsVal.of_run rfl fun w => (by kernel_rfl)) (by kernel_rfl) ?_
          refine z_tk 1 (d := 60) (.slice An ((namesR j x_28).1.length) cn) (val_ld (k := 0) (t := 59) (off := 11) rfl (by kernel_rfl) rfl (by kernel_rfl)) (by kernel_rfl) ?_
          refine z_mv 2 (d := 61) (.pointer (some ⟨x_1, 0, none⟩)) (IsVal.of_run rfl fun w => (by kernel_rfl)) (by kernel_rfl) ?_
          refine z_op 3 rfl fun a w Z H => ?_
          refine op_call (d := 62) H (by kernel_rfl) rfl (rd_bytes x_1 ((namesR j x_28).2) 4096 (by first | assumption | omega) (H.sat.frontZ 1 rfl)) fun a v w q F => ?_
          obtain ⟨R3, hle, x_29, x_30, X_2, x_31, hf27, hf28, rfl, X⟩ := q
          have H := St.mk F X
          have hr := hr.grow hle
          have hf24 := hf24.grow hle
          have hT := hT.grow hle
          have hleR3 := hleRl.trans hle
          have hz1 := hle
          have H := St.mk H.sl (Sat.fz hz1 H.sat)
          refine z_on (grown Rl R3 :: rdrR R3 x_1 x_30 :: strsO 9 An cn ((namesR j x_28).1) :: blk b2 (.cells #[.int .u8 (min x_2 255), .int .u32 x_4, .int .u64 x_6, .int .u8 (min x_8 255), .int .u32 x_12, .int .u32 x_14, .bool ((x_16 : Int) == 1), .int .u32 x_18, .int .u64 x_20, .int .u64 x_22, .slice X_1 x_24.length x_26, .slice An ((namesR j x_28).1.length) cn, .int .u32 x_10] 61) :: blk b1 (.cells #[.int .u8 0, .int .u32 0, .int .u64 0, .int .u8 0, .int .u32 0, .int .u32 0, .bool false, .int .u32 0, .int .u64 0, .int .u64 0, .slice none 0 0, .slice none 0 0, .int .u32 0] 61) :: L) H (fun w Z X => X.mskZ [false, false, false, true, false] (by kernel_rfl)) (by kernel_rfl) ?_
          refine z_op 4 rfl fun a w Z H => ?_
          have H := St.mk H.sl (Sat.unfz hz1 H.sat)
          refine op_val (d := 63) (v := .string (strB x_29)) H (val_str hf28 (src := 26) (dst := 9) (by kernel_rfl) rfl rfl rfl rfl) fun a H => ?_
          have H := St.mk H.sl (Sat.fz hz1 H.sat)
          refine z_on (grown Rl R3 :: rdrR R3 x_1 x_30 :: strsO 9 An cn ((namesR j x_28).1) :: blk b2 (.cells #[.int .u8 (min x_2 255), .int .u32 x_4, .int .u64 x_6, .int .u8 (min x_8 255), .int .u32 x_12, .int .u32 x_14, .bool ((x_16 : Int) == 1), .int .u32 x_18, .int .u64 x_20, .int .u64 x_22, .slice X_1 x_24.length x_26, .slice An ((namesR j x_28).1.length) cn, .int .u32 x_10] 61) :: blk b1 (.cells #[.int .u8 0, .int .u32 0, .int .u64 0, .int .u8 0, .int .u32 0, .int .u32 0, .bool false, .int .u32 0, .int .u64 0, .int .u64 0, .slice none 0 0, .slice none 0 0, .int .u32 0] 61) :: L) H (fun w Z X => X.mskZ [false, false, false, true, false] (by kernel_rfl)) (by kernel_rfl) ?_
          refine z_op 5 rfl fun a w Z H => ?_
          have H := St.mk H.sl (Sat.unfz hz1 H.sat)
          refine op_new (d := 64) (vf := fun b => .slice (some ⟨b, 0, none⟩) 1 1) (ob := .cells #[.string (strB x_29)] 9) H (IsNew.of_run rfl fun w => (by kernel_rfl)) fun a w b3 H => ?_
          have H := St.mk H.sl (Sat.fz hz1 H.sat)
          refine z_on (grown Rl R3 :: blk b3 (.cells #[.string (strB x_29)] 9) :: rdrR R3 x_1 x_30 :: strsO 9 An cn ((namesR j x_28).1) :: blk b2 (.cells #[.int .u8 (min x_2 255), .int .u32 x_4, .int .u64 x_6, .int .u8 (min x_8 255), .int .u32 x_12, .int .u32 x_14, .bool ((x_16 : Int) == 1), .int .u32 x_18, .int .u64 x_20, .int .u64 x_22, .slice X_1 x_24.length x_26, .slice An ((namesR j x_28).1.length) cn, .int .u32 x_10] 61) :: blk b1 (.cells #[.int .u8 0, .int .u32 0, .int .u64 0, .int .u8 0, .int .u32 0, .int .u32 0, .bool false, .int .u32 0, .int .u64 0, .int .u64 0, .slice none 0 0, .slice none 0 0, .int .u32 0] 61) :: L) H (fun w Z X => X.mskZ [false, false, false, false, true, false] (by kernel_rfl)) (by kernel_rfl) ?_
          refine z_op 6 rfl fun a w Z H => ?_
          have H := St.mk H.sl (Sat.unfz hz1 H.sat)
          have H := H.with (H.sat.front 2 rfl)
          refine op_appendS (d := 65) (t := 59) (A1 := An) (c1 := cn) (xs := ((namesR j x_28).1)) (s := (strB x_29)) (A := some ⟨b3, 0, none⟩) (c2 := 1) (z := .string ByteArray.empty) H (by kernel_rfl) (by kernel_rfl) rfl rfl rfl (Src.of_blk (k := 1) H.sat rfl rfl) (by rw [namesR_length]; omega) fun a w A1 c1 H => ?_
          have H := St.mk H.sl (Sat.fz hz1 H.sat)
          refine z_on (grown Rl R3 :: strsO 9 A1 c1 (((namesR j x_28).1) ++ [strB x_29]) :: blk b3 (.cells #[.string (strB x_29)] 9) :: rdrR R3 x_1 x_30 :: blk b2 (.cells #[.int .u8 (min x_2 255), .int .u32 x_4, .int .u64 x_6, .int .u8 (min x_8 255), .int .u32 x_12, .int .u32 x_14, .bool ((x_16 : Int) == 1), .int .u32 x_18, .int .u64 x_20, .int .u64 x_22, .slice X_1 x_24.length x_26, .slice An ((namesR j x_28).1.length) cn, .int .u32 x_10] 61) :: blk b1 (.cells #[.int .u8 0, .int .u32 0, .int .u64 0, .int .u8 0, .int .u32 0, .int .u32 0, .bool false, .int .u32 0, .int .u64 0, .int .u64 0, .slice none 0 0, .slice none 0 0, .int .u32 0] 61) :: L) H (fun w Z X => X.mskZ [false, false, false, false, true, false] (by kernel_rfl)) (by kernel_rfl) ?_
          refine z_mv 7 (d := 66) (.pointer (some ⟨b2, 11, none⟩)) (IsVal.of_run rfl fun w => (by kernel_rfl)) (by kernel_rfl) ?_
          refine z_op 8 rfl fun a w Z H => ?_
          have H := St.mk H.sl (Sat.unfz hz1 H.sat)
          refine op_storeZ (k := 3) (t := 59) (off := 11) (v := .slice A1 ((((namesR j x_28).1) ++ [strB x_29]).length) c1) H rfl (by kernel_rfl) (by kernel_rfl) fun a w H => ?_
          have H := St.mk H.sl (Sat.fz hz1 H.sat)
          refine z_last (grown Rl R3 :: strsO 9 A1 c1 (((namesR j x_28).1) ++ [strB x_29]) :: blk b3 (.cells #[.string (strB x_29)] 9) :: rdrR R3 x_1 x_30 :: blk b2 (.cells #[.int .u8 (min x_2 255), .int .u32 x_4, .int .u64 x_6, .int .u8 (min x_8 255), .int .u32 x_12, .int .u32 x_14, .bool ((x_16 : Int) == 1), .int .u32 x_18, .int .u64 x_20, .int .u64 x_22, .slice X_1 x_24.length x_26, .slice A1 ((((namesR j x_28).1) ++ [strB x_29]).length) c1, .int .u32 x_10] 61) :: blk b1 (.cells #[.int .u8 0, .int .u32 0, .int .u64 0, .int .u8 0, .int .u32 0, .int .u32 0, .bool false, .int .u32 0, .int .u64 0, .int .u64 0, .slice none 0 0, .slice none 0 0, .int .u32 0] 61) :: L) H (by kernel_rfl) ?_
          refine z_end [] fun a w H => ?_
          have H := St.mk H.sl (Sat.unfz hz1 H.sat)
          have H := St.toL (M := strsO 9 A1 c1 (((namesR j x_28).1) ++ [strB x_29]) :: blk b3 (.cells #[.string (strB x_29)] 9) :: rdrR R3 x_1 x_30 :: blk b2 (.cells #[.int .u8 (min x_2 255), .int .u32 x_4, .int .u64 x_6, .int .u8 (min x_8 255), .int .u32 x_12, .int .u32 x_14, .bool ((x_16 : Int) == 1), .int .u32 x_18, .int .u64 x_20, .int .u64 x_22, .slice X_1 x_24.length x_26, .slice A1 ((((namesR j x_28).1) ++ [strB x_29]).length) c1, .int .u32 x_10] 61) :: blk b1 (.cells #[.int .u8 0, .int .u32 0, .int .u64 0, .int .u8 0, .int .u32 0, .int .u32 0, .bool false, .int .u32 0, .int .u64 0, .int .u64 0, .slice none 0 0, .slice none 0 0, .int .u32 0] 61) :: L) H (by kernel_rfl)
          refine WK.inBlock ?_
          refine st_text 2 rfl ?_
          refine st_run 0 1 1 [(67, .int .u32 (IntKind.u32.wrap ((j : Int) + 1)))] H (by kernel_rfl) fun a H => ?_
          have H := H.turn (d := 67) (u := .int .u32 (IntKind.u32.wrap ((j : Int) + 1))) (v := .int .u32 ((j : Int) + 1)) (wU32 (by omega) (by omega))
          refine st_run 1 1 0 [(57, .int .u32 ((j : Int) + 1))] H (by kernel_rfl) fun a H => ?_
          refine ops_end _ ?_
          have hnr : (namesR (j + 1) x_28) = (((namesR j x_28).1) ++ [strB x_29], x_30) := by simp only [namesR, hf27]
          have H := H.with (((((H.sat.msk [true, false, true, true, true]).front 3 rfl).front 3 rfl).front 3 rfl).front 3 rfl)
          exact hrec0 _ _ _ (by omega) ⟨R3, j + 1, A1, c1, rfl, hl0_0.trans hle, by omega, by rw [hnr]; exact H.sub' ⟨by kernel_rfl, by kernel_rfl, by kernel_rfl, by kernel_rfl, by kernel_rfl, by kernel_rfl, trivial⟩⟩
        · intro hc3
          have hc3' := of_decide_eq_false hc3
          have hmj : (x_27).toNat = j := by omega
          
          refine WK.exit (k' := _) rfl ?_
          refine WK.seq ?_
          refine WK.seq ?_
          refine st_text 3 rfl ?_
          refine st_run 0 1 2 [(68, .pointer (some ⟨x_1, 0, none⟩))] H (by kernel_rfl) fun a H => ?_
          refine st_op 1 1 (op_call (d := 69) H (by kernel_rfl) rfl (rd_end x_1 ((namesR j x_28).2) (H.sat.front 1 rfl)) fun a v w q F => ?_)
          obtain ⟨rfl, X⟩ := q
          have H := St.mk F X
          refine st_run 2 1 0 [(7, .int .i64 (((namesR j x_28).2).err))] H (by kernel_rfl) fun a H => ?_
          refine ops_end _ ?_
          refine WK.seq ?_
          refine st_text 2 rfl ?_
          refine st_run 0 2 0 [(71, .bool (!(((((namesR j x_28).2).err) : Int) == 0))), (70, .int .i64 (((namesR j x_28).2).err))] H (by kernel_rfl) fun a H => ?_
          refine ops_end _ ?_
          refine st_cond (!(((((namesR j x_28).2).err) : Int) == 0)) H (by kernel_rfl) ?_ ?_
          · intro hc4
            have hc4n := notT hc4
            have hc4' := neB (notT hc4)
            refine WK.seq ?_
            refine st_text 4 rfl ?_
            refine st_run 0 2 2 [(73, .int .i64 (((namesR j x_28).2).err)), (72, .agg #[.int .u8 0, .int .u32 0, .int .u64 0, .int .u8 0, .int .u32 0, .int .u32 0, .bool false, .int .u32 0, .int .u64 0, .int .u64 0, .slice none 0 0, .slice none 0 0, .int .u32 0])] H (by kernel_rfl) fun a H => ?_
            refine st_op 2 1 (op_store (k := 3) (t := 61) (off := 0) (v := .agg #[.int .u8 0, .int .u32 0, .int .u64 0, .int .u8 0, .int .u32 0, .int .u32 0, .bool false, .int .u32 0, .int .u64 0, .int .u64 0, .slice none 0 0, .slice none 0 0, .int .u32 0]) H rfl (by kernel_rfl) (by kernel_rfl) fun a w H => ?_)
            refine st_run 3 1 0 [(3, .int .i64 (((namesR j x_28).2).err))] H (by kernel_rfl) fun a H => ?_
            refine ops_end _ ?_
            have H := St.toL (M := rdrR Rl x_1 ((namesR j x_28).2) :: strsO 9 An cn ((namesR j x_28).1) :: blk b2 (.cells #[.int .u8 (min x_2 255), .int .u32 x_4, .int .u64 x_6, .int .u8 (min x_8 255), .int .u32 x_12, .int .u32 x_14, .bool ((x_16 : Int) == 1), .int .u32 x_18, .int .u64 x_20, .int .u64 x_22, .slice X_1 x_24.length x_26, .slice An ((namesR j x_28).1.length) cn, .int .u32 x_10] 61) :: blk b1 (.cells #[.int .u8 0, .int .u32 0, .int .u64 0, .int .u8 0, .int .u32 0, .int .u32 0, .bool false, .int .u32 0, .int .u64 0, .int .u64 0, .slice none 0 0, .slice none 0 0, .int .u32 0] 61) :: L) H (by kernel_rfl)
            refine st_ret (vs := [.agg #[.int .u8 0, .int .u32 0, .int .u64 0, .int .u8 0, .int .u32 0, .int .u32 0, .bool false, .int .u32 0, .int .u64 0, .int .u64 0, .slice none 0 0, .slice none 0 0, .int .u32 0], .int .i64 (((namesR j x_28).2).err)]) H Tryd.func67 rfl (.cell (by kernel_rfl) (H.sat.blk (k := 3) rfl) (by kernel_rfl) (.tmp (by kernel_rfl) (.nil))) ?_
            have hz0 : getB bs = ((⟨0, 0, 0, 0, 0, 0, false, 0, 0, 0, [], [], 0⟩ : BackS), ((namesR j x_28).2).err) := by first | simp only [getB, getB1, getB2, backR, withNames, hc1, hg1, hc2, hc3, hc4n, hf1, hf3, hf5, hf7, hf9, hf11, hf13, hf15, hf17, hf19, hf21, hf23, hf25, hmj, List.length_nil, cond_true, cond_false, Bool.not_true, Bool.not_false, Bool.and_true, Bool.and_false, Bool.true_and, Bool.false_and] | rfl
            have X := (H.sat.msk [false, false, false, false])
            rewrite [hz0]
            exact ⟨Rl, hleRl, none, 0, none, 0, RdB.nil _, RdS.nil _, rfl, X⟩
          · intro hc4
            have hc4n := notF hc4
            have hc4' := eq_of_beq (notF hc4)
            refine WK.skip ?_
            refine WK.seq ?_
            refine WK.seq ?_
            refine st_text 3 rfl ?_
            refine st_op 0 2 (op_val (d := 74) (v := .agg #[.int .u8 (min x_2 255), .int .u32 x_4, .int .u64 x_6, .int .u8 (min x_8 255), .int .u32 x_12, .int .u32 x_14, .bool ((x_16 : Int) == 1), .int .u32 x_18, .int .u64 x_20, .int .u64 x_22, .slice X_1 x_24.length x_26, .slice An ((namesR j x_28).1.length) cn, .int .u32 x_10]) H (val_ld (k := 2) (t := 61) (off := 0) rfl (by kernel_rfl) rfl (by kernel_rfl)) fun a H => ?_)
            obtain ⟨R4, hle, hr_1, X⟩ := (H.sat.front 1 rfl).strsO_fix
            have H := St.mk H.sl X
            have hr := hr.grow hle
            have hf24 := hf24.grow hle
            have hT := hT.grow hle
            have H := St.mk H.sl ((H.sat).head (rdrR_grow hle))
            have hleR4 := hleRl.trans hle
            refine st_op 1 1 (op_call (d := 75) H (by kernel_rfl) rfl (back_may (⟨min x_2 255, x_4, x_6, min x_8 255, x_12, x_14, (x_16 : Int) == 1, x_18, x_20, x_22, x_24, (namesR j x_28).1, x_10⟩ : BackS) X_1 x_26 An cn (by first | assumption | omega) (by first | assumption | omega) H.sat) fun a v w q F => ?_)
            obtain ⟨rfl, X⟩ := q
            have H := St.mk F X
            refine st_run 2 1 0 [(76, .bool (!(mayB (⟨min x_2 255, x_4, x_6, min x_8 255, x_12, x_14, (x_16 : Int) == 1, x_18, x_20, x_22, x_24, (namesR j x_28).1, x_10⟩ : BackS))))] H (by kernel_rfl) fun a H => ?_
            refine ops_end _ ?_
            refine st_cond (!(mayB (⟨min x_2 255, x_4, x_6, min x_8 255, x_12, x_14, (x_16 : Int) == 1, x_18, x_20, x_22, x_24, (namesR j x_28).1, x_10⟩ : BackS))) H (by kernel_rfl) ?_ ?_
            · intro hc5
              have hc5n := notT hc5
              refine WK.seq ?_
              refine st_text 3 rfl ?_
              refine st_run 0 1 2 [(77, .agg #[.int .u8 0, .int .u32 0, .int .u64 0, .int .u8 0, .int .u32 0, .int .u32 0, .bool false, .int .u32 0, .int .u64 0, .int .u64 0, .slice none 0 0, .slice none 0 0, .int .u32 0])] H (by kernel_rfl) fun a H => ?_
              refine st_op 1 1 (op_store (k := 2) (t := 61) (off := 0) (v := .agg #[.int .u8 0, .int .u32 0, .int .u64 0, .int .u8 0, .int .u32 0, .int .u32 0, .bool false, .int .u32 0, .int .u64 0, .int .u64 0, .slice none 0 0, .slice none 0 0, .int .u32 0]) H rfl (by kernel_rfl) (by kernel_rfl) fun a w H => ?_)
              refine st_run 2 1 0 [(3, .int .i64 5)] H (by kernel_rfl) fun a H => ?_
              refine ops_end _ ?_
              have H := St.toL (M := rdrR R4 x_1 ((namesR j x_28).2) :: blk b2 (.cells #[.int .u8 (min x_2 255), .int .u32 x_4, .int .u64 x_6, .int .u8 (min x_8 255), .int .u32 x_12, .int .u32 x_14, .bool ((x_16 : Int) == 1), .int .u32 x_18, .int .u64 x_20, .int .u64 x_22, .slice X_1 x_24.length x_26, .slice An ((namesR j x_28).1.length) cn, .int .u32 x_10] 61) :: blk b1 (.cells #[.int .u8 0, .int .u32 0, .int .u64 0, .int .u8 0, .int .u32 0, .int .u32 0, .bool false, .int .u32 0, .int .u64 0, .int .u64 0, .slice none 0 0, .slice none 0 0, .int .u32 0] 61) :: L) H (by kernel_rfl)
              refine st_ret (vs := [.agg #[.int .u8 0, .int .u32 0, .int .u64 0, .int .u8 0, .int .u32 0, .int .u32 0, .bool false, .int .u32 0, .int .u64 0, .int .u64 0, .slice none 0 0, .slice none 0 0, .int .u32 0], .int .i64 5]) H Tryd.func67 rfl (.cell (by kernel_rfl) (H.sat.blk (k := 2) rfl) (by kernel_rfl) (.tmp (by kernel_rfl) (.nil))) ?_
              have hz0 : getB bs = ((⟨0, 0, 0, 0, 0, 0, false, 0, 0, 0, [], [], 0⟩ : BackS), 5) := by first | simp only [getB, getB1, getB2, backR, withNames, hc1, hg1, hc2, hc3, hc4n, hc5n, hf1, hf3, hf5, hf7, hf9, hf11, hf13, hf15, hf17, hf19, hf21, hf23, hf25, hmj, List.length_nil, cond_true, cond_false, Bool.not_true, Bool.not_false, Bool.and_true, Bool.and_false, Bool.true_and, Bool.false_and] | rfl
              have X := (H.sat.msk [false, false, false])
              rewrite [hz0]
              exact ⟨R4, hleR4, none, 0, none, 0, RdB.nil _, RdS.nil _, rfl, X⟩
            · intro hc5
              have hc5n := notF hc5
              refine WK.skip ?_
              refine WK.seq ?_
              refine st_text 3 rfl ?_
              refine st_op 0 2 (op_val (d := 78) (v := .agg #[.int .u8 (min x_2 255), .int .u32 x_4, .int .u64 x_6, .int .u8 (min x_8 255), .int .u32 x_12, .int .u32 x_14, .bool ((x_16 : Int) == 1), .int .u32 x_18, .int .u64 x_20, .int .u64 x_22, .slice X_1 x_24.length x_26, .slice An ((namesR j x_28).1.length) cn, .int .u32 x_10]) H (val_ld (k := 1) (t := 61) (off := 0) rfl (by kernel_rfl) rfl (by kernel_rfl)) fun a H => ?_)
              refine st_op 1 1 (op_store (k := 2) (t := 61) (off := 0) (v := .agg #[.int .u8 (min x_2 255), .int .u32 x_4, .int .u64 x_6, .int .u8 (min x_8 255), .int .u32 x_12, .int .u32 x_14, .bool ((x_16 : Int) == 1), .int .u32 x_18, .int .u64 x_20, .int .u64 x_22, .slice X_1 x_24.length x_26, .slice An ((namesR j x_28).1.length) cn, .int .u32 x_10]) H rfl (by kernel_rfl) (by kernel_rfl) fun a w H => ?_)
              refine st_run 2 1 0 [(3, .int .i64 0)] H (by kernel_rfl) fun a H => ?_
              refine ops_end _ ?_
              have H := St.toL (M := rdrR R4 x_1 ((namesR j x_28).2) :: blk b2 (.cells #[.int .u8 (min x_2 255), .int .u32 x_4, .int .u64 x_6, .int .u8 (min x_8 255), .int .u32 x_12, .int .u32 x_14, .bool ((x_16 : Int) == 1), .int .u32 x_18, .int .u64 x_20, .int .u64 x_22, .slice X_1 x_24.length x_26, .slice An ((namesR j x_28).1.length) cn, .int .u32 x_10] 61) :: blk b1 (.cells #[.int .u8 (min x_2 255), .int .u32 x_4, .int .u64 x_6, .int .u8 (min x_8 255), .int .u32 x_12, .int .u32 x_14, .bool ((x_16 : Int) == 1), .int .u32 x_18, .int .u64 x_20, .int .u64 x_22, .slice X_1 x_24.length x_26, .slice An ((namesR j x_28).1.length) cn, .int .u32 x_10] 61) :: L) H (by kernel_rfl)
              refine st_ret (vs := [.agg #[.int .u8 (min x_2 255), .int .u32 x_4, .int .u64 x_6, .int .u8 (min x_8 255), .int .u32 x_12, .int .u32 x_14, .bool ((x_16 : Int) == 1), .int .u32 x_18, .int .u64 x_20, .int .u64 x_22, .slice X_1 x_24.length x_26, .slice An ((namesR j x_28).1.length) cn, .int .u32 x_10], .int .i64 0]) H Tryd.func67 rfl (.cell (by kernel_rfl) (H.sat.blk (k := 2) rfl) (by kernel_rfl) (.tmp (by kernel_rfl) (.nil))) ?_
              have hz0 : getB bs = ((⟨min x_2 255, x_4, x_6, min x_8 255, x_12, x_14, (x_16 : Int) == 1, x_18, x_20, x_22, x_24, (namesR j x_28).1, x_10⟩ : BackS), 0) := by first | simp only [getB, getB1, getB2, backR, withNames, hc1, hg1, hc2, hc3, hc4n, hc5n, hf1, hf3, hf5, hf7, hf9, hf11, hf13, hf15, hf17, hf19, hf21, hf23, hf25, hmj, List.length_nil, cond_true, cond_false, Bool.not_true, Bool.not_false, Bool.and_true, Bool.and_false, Bool.true_and, Bool.false_and] | rfl
              have X := (H.sat.msk [false, false, false])
              rewrite [hz0]
              exact ⟨R4, hleR4, X_1, x_26, An, cn, hf24, hr_1, rfl, X⟩
    · skip
      have H := H.also (d := 50) (u := .bool (decide ((x_27 : Int) > 32))) (v := .bool false) (by kernel_rfl) (congrArg Value.bool (hg1))
      have hg1' := of_decide_eq_false hg1
      refine st_run 3 4 0 [(54, .bool false), (53, undef), (52, undef), (51, undef)] H (by kernel_rfl) fun a H => ?_
      refine ops_end _ ?_
      refine st_false H (by kernel_rfl) ?_
      refine WK.skip ?_
      refine WK.seq ?_
      refine WK.seq ?_
      refine st_text 2 rfl ?_
      refine st_run 0 2 0 [(57, .int .u32 0), (56, .int .u32 x_27)] H (by kernel_rfl) fun a H => ?_
      refine ops_end _ ?_
      refine WK.block ?_
      have H := H.with (H.sat.nil_row 9 1)
      have H := St.toL (M := strsO 9 none 0 ([]) :: rdrR R2 x_1 x_28 :: blk b2 (.cells #[.int .u8 (min x_2 255), .int .u32 x_4, .int .u64 x_6, .int .u8 (min x_8 255), .int .u32 x_12, .int .u32 x_14, .bool ((x_16 : Int) == 1), .int .u32 x_18, .int .u64 x_20, .int .u64 x_22, .slice X_1 x_24.length x_26, .slice none 0 0, .int .u32 x_10] 61) :: blk b1 (.cells #[.int .u8 0, .int .u32 0, .int .u64 0, .int .u8 0, .int .u32 0, .int .u32 0, .bool false, .int .u32 0, .int .u64 0, .int .u64 0, .slice none 0 0, .slice none 0 0, .int .u32 0] 61) :: L) H (by kernel_rfl)
      refine WK.loop (fun m a w => ∃ Rl : Hp, ∃ j : Nat, ∃ An : Option Addr, ∃ cn : Nat, ((x_27).toNat - j) = m ∧ (R2.Le Rl) ∧ (j ≤ (x_27).toNat) ∧ St 79 e Rl a w [(2, .pointer (some ⟨b1, 0, none⟩)), (3, .int .i64 0), (4, .pointer (some ⟨x_1, 0, none⟩)), (5, .pointer (some ⟨b2, 0, none⟩)), (56, .int .u32 x_27), (57, .int .u32 (j : Int))] (strsO 9 An cn ((namesR j x_28).1) :: rdrR Rl x_1 ((namesR j x_28).2) :: blk b2 (.cells #[.int .u8 (min x_2 255), .int .u32 x_4, .int .u64 x_6, .int .u8 (min x_8 255), .int .u32 x_12, .int .u32 x_14, .bool ((x_16 : Int) == 1), .int .u32 x_18, .int .u64 x_20, .int .u64 x_22, .slice X_1 x_24.length x_26, .slice An ((namesR j x_28).1.length) cn, .int .u32 x_10] 61) :: blk b1 (.cells #[.int .u8 0, .int .u32 0, .int .u64 0, .int .u8 0, .int .u32 0, .int .u32 0, .bool false, .int .u32 0, .int .u64 0, .int .u64 0, .slice none 0 0, .slice none 0 0, .int .u32 0] 61) :: L)) ((x_27).toNat - 0) ⟨R2, 0, none, 0, rfl, Hp.Le.refl _, by omega, H.sub' ⟨by kernel_rfl, by kernel_rfl, by kernel_rfl, by kernel_rfl, by kernel_rfl, by kernel_rfl, trivial⟩⟩ ?_
      clear H
      rintro m a w ⟨Rl, j, An, cn, rfl, hl1_0, hl1_1, H⟩ hrec
      have hle := hl1_0
      have hr := hr.grow hle
      have hf24 := hf24.grow hle
      have hT := hT.grow hle
      have hleRl := hleR2.trans hle
      have hrec1 := hrec; clear hrec
      refine WK.seq ?_
      refine st_text 1 rfl ?_
      refine st_run 0 1 0 [(58, .bool (decide (((j : Int) : Int) < x_27)))] H (by kernel_rfl) fun a H => ?_
      refine ops_end _ ?_
      refine WK.seq ?_
      refine st_cond (decide (((j : Int) : Int) < x_27)) H (by kernel_rfl) ?_ ?_
      · intro hc6
        have hc6' := of_decide_eq_true hc6
        
        refine WK.skip ?_
        refine WK.seq ?_
        refine WK.block ?_
        refine st_floatsM [false, false, true, false] [.mv 0, .tk 1, .mv 2, .op 3, .op 4, .op 5, .op 6, .mv 7, .op 8] rfl (by kernel_rfl) (by kernel_rfl) (by kernel_rfl) H ?_
        refine z_mv 0 (d := 59) (.pointer (some ⟨b2, 11, none⟩)) (IsVal.of_run rfl fun w => (by kernel_rfl)) (by kernel_rfl) ?_
        refine z_tk 1 (d := 60) (.slice An ((namesR j x_28).1.length) cn) (val_ld (k := 0) (t := 59) (off := 11) rfl (by kernel_rfl) rfl (by kernel_rfl)) (by kernel_rfl) ?_
        refine z_mv 2 (d := 61) (.pointer (some ⟨x_1, 0, none⟩)) (IsVal.of_run rfl fun w => (by kernel_rfl)) (by kernel_rfl) ?_
        refine z_op 3 rfl fun a w Z H => ?_
        refine op_call (d := 62) H (by kernel_rfl) rfl (rd_bytes x_1 ((namesR j x_28).2) 4096 (by first | assumption | omega) (H.sat.frontZ 1 rfl)) fun a v w q F => ?_
        obtain ⟨R5, hle, x_32, x_33, X_3, x_34, hf29, hf30, rfl, X⟩ := q
        have H := St.mk F X
        have hr := hr.grow hle
        have hf24 := hf24.grow hle
        have hT := hT.grow hle
        have hleR5 := hleRl.trans hle
        have hz2 := hle
        have H := St.mk H.sl (Sat.fz hz2 H.sat)
        refine z_on (grown Rl R5 :: rdrR R5 x_1 x_33 :: strsO 9 An cn ((namesR j x_28).1) :: blk b2 (.cells #[.int .u8 (min x_2 255), .int .u32 x_4, .int .u64 x_6, .int .u8 (min x_8 255), .int .u32 x_12, .int .u32 x_14, .bool ((x_16 : Int) == 1), .int .u32 x_18, .int .u64 x_20, .int .u64 x_22, .slice X_1 x_24.length x_26, .slice An ((namesR j x_28).1.length) cn, .int .u32 x_10] 61) :: blk b1 (.cells #[.int .u8 0, .int .u32 0, .int .u64 0, .int .u8 0, .int .u32 0, .int .u32 0, .bool false, .int .u32 0, .int .u64 0, .int .u64 0, .slice none 0 0, .slice none 0 0, .int .u32 0] 61) :: L) H (fun w Z X => X.mskZ [false, false, false, true, false] (by kernel_rfl)) (by kernel_rfl) ?_
        refine z_op 4 rfl fun a w Z H => ?_
        have H := St.mk H.sl (Sat.unfz hz2 H.sat)
        refine op_val (d := 63) (v := .string (strB x_32)) H (val_str hf30 (src := 26) (dst := 9) (by kernel_rfl) rfl rfl rfl rfl) fun a H => ?_
        have H := St.mk H.sl (Sat.fz hz2 H.sat)
        refine z_on (grown Rl R5 :: rdrR R5 x_1 x_33 :: strsO 9 An cn ((namesR j x_28).1) :: blk b2 (.cells #[.int .u8 (min x_2 255), .int .u32 x_4, .int .u64 x_6, .int .u8 (min x_8 255), .int .u32 x_12, .int .u32 x_14, .bool ((x_16 : Int) == 1), .int .u32 x_18, .int .u64 x_20, .int .u64 x_22, .slice X_1 x_24.length x_26, .slice An ((namesR j x_28).1.length) cn, .int .u32 x_10] 61) :: blk b1 (.cells #[.int .u8 0, .int .u32 0, .int .u64 0, .int .u8 0, .int .u32 0, .int .u32 0, .bool false, .int .u32 0, .int .u64 0, .int .u64 0, .slice none 0 0, .slice none 0 0, .int .u32 0] 61) :: L) H (fun w Z X => X.mskZ [false, false, false, true, false] (by kernel_rfl)) (by kernel_rfl) ?_
        refine z_op 5 rfl fun a w Z H => ?_
        have H := St.mk H.sl (Sat.unfz hz2 H.sat)
        refine op_new (d := 64) (vf := fun b => .slice (some ⟨b, 0, none⟩) 1 1) (ob := .cells #[.string (strB x_32)] 9) H (IsNew.of_run rfl fun w => (by kernel_rfl)) fun a w b4 H => ?_
        have H := St.mk H.sl (Sat.fz hz2 H.sat)
        refine z_on (grown Rl R5 :: blk b4 (.cells #[.string (strB x_32)] 9) :: rdrR R5 x_1 x_33 :: strsO 9 An cn ((namesR j x_28).1) :: blk b2 (.cells #[.int .u8 (min x_2 255), .int .u32 x_4, .int .u64 x_6, .int .u8 (min x_8 255), .int .u32 x_12, .int .u32 x_14, .bool ((x_16 : Int) == 1), .int .u32 x_18, .int .u64 x_20, .int .u64 x_22, .slice X_1 x_24.length x_26, .slice An ((namesR j x_28).1.length) cn, .int .u32 x_10] 61) :: blk b1 (.cells #[.int .u8 0, .int .u32 0, .int .u64 0, .int .u8 0, .int .u32 0, .int .u32 0, .bool false, .int .u32 0, .int .u64 0, .int .u64 0, .slice none 0 0, .slice none 0 0, .int .u32 0] 61) :: L) H (fun w Z X => X.mskZ [false, false, false, false, true, false] (by kernel_rfl)) (by kernel_rfl) ?_
        refine z_op 6 rfl fun a w Z H => ?_
        have H := St.mk H.sl (Sat.unfz hz2 H.sat)
        have H := H.with (H.sat.front 2 rfl)
        refine op_appendS (d := 65) (t := 59) (A1 := An) (c1 := cn) (xs := ((namesR j x_28).1)) (s := (strB x_32)) (A := some ⟨b4, 0, none⟩) (c2 := 1) (z := .string ByteArray.empty) H (by kernel_rfl) (by kernel_rfl) rfl rfl rfl (Src.of_blk (k := 1) H.sat rfl rfl) (by rw [namesR_length]; omega) fun a w A2 c2 H => ?_
        have H := St.mk H.sl (Sat.fz hz2 H.sat)
        refine z_on (grown Rl R5 :: strsO 9 A2 c2 (((namesR j x_28).1) ++ [strB x_32]) :: blk b4 (.cells #[.string (strB x_32)] 9) :: rdrR R5 x_1 x_33 :: blk b2 (.cells #[.int .u8 (min x_2 255), .int .u32 x_4, .int .u64 x_6, .int .u8 (min x_8 255), .int .u32 x_12, .int .u32 x_14, .bool ((x_16 : Int) == 1), .int .u32 x_18, .int .u64 x_20, .int .u64 x_22, .slice X_1 x_24.length x_26, .slice An ((namesR j x_28).1.length) cn, .int .u32 x_10] 61) :: blk b1 (.cells #[.int .u8 0, .int .u32 0, .int .u64 0, .int .u8 0, .int .u32 0, .int .u32 0, .bool false, .int .u32 0, .int .u64 0, .int .u64 0, .slice none 0 0, .slice none 0 0, .int .u32 0] 61) :: L) H (fun w Z X => X.mskZ [false, false, false, false, true, false] (by kernel_rfl)) (by kernel_rfl) ?_
        refine z_mv 7 (d := 66) (.pointer (some ⟨b2, 11, none⟩)) (IsVal.of_run rfl fun w => (by kernel_rfl)) (by kernel_rfl) ?_
        refine z_op 8 rfl fun a w Z H => ?_
        have H := St.mk H.sl (Sat.unfz hz2 H.sat)
        refine op_storeZ (k := 3) (t := 59) (off := 11) (v := .slice A2 ((((namesR j x_28).1) ++ [strB x_32]).length) c2) H rfl (by kernel_rfl) (by kernel_rfl) fun a w H => ?_
        have H := St.mk H.sl (Sat.fz hz2 H.sat)
        refine z_last (grown Rl R5 :: strsO 9 A2 c2 (((namesR j x_28).1) ++ [strB x_32]) :: blk b4 (.cells #[.string (strB x_32)] 9) :: rdrR R5 x_1 x_33 :: blk b2 (.cells #[.int .u8 (min x_2 255), .int .u32 x_4, .int .u64 x_6, .int .u8 (min x_8 255), .int .u32 x_12, .int .u32 x_14, .bool ((x_16 : Int) == 1), .int .u32 x_18, .int .u64 x_20, .int .u64 x_22, .slice X_1 x_24.length x_26, .slice A2 ((((namesR j x_28).1) ++ [strB x_32]).length) c2, .int .u32 x_10] 61) :: blk b1 (.cells #[.int .u8 0, .int .u32 0, .int .u64 0, .int .u8 0, .int .u32 0, .int .u32 0, .bool false, .int .u32 0, .int .u64 0, .int .u64 0, .slice none 0 0, .slice none 0 0, .int .u32 0] 61) :: L) H (by kernel_rfl) ?_
        refine z_end [] fun a w H => ?_
        have H := St.mk H.sl (Sat.unfz hz2 H.sat)
        have H := St.toL (M := strsO 9 A2 c2 (((namesR j x_28).1) ++ [strB x_32]) :: blk b4 (.cells #[.string (strB x_32)] 9) :: rdrR R5 x_1 x_33 :: blk b2 (.cells #[.int .u8 (min x_2 255), .int .u32 x_4, .int .u64 x_6, .int .u8 (min x_8 255), .int .u32 x_12, .int .u32 x_14, .bool ((x_16 : Int) == 1), .int .u32 x_18, .int .u64 x_20, .int .u64 x_22, .slice X_1 x_24.length x_26, .slice A2 ((((namesR j x_28).1) ++ [strB x_32]).length) c2, .int .u32 x_10] 61) :: blk b1 (.cells #[.int .u8 0, .int .u32 0, .int .u64 0, .int .u8 0, .int .u32 0, .int .u32 0, .bool false, .int .u32 0, .int .u64 0, .int .u64 0, .slice none 0 0, .slice none 0 0, .int .u32 0] 61) :: L) H (by kernel_rfl)
        refine WK.inBlock ?_
        refine st_text 2 rfl ?_
        refine st_run 0 1 1 [(67, .int .u32 (IntKind.u32.wrap ((j : Int) + 1)))] H (by kernel_rfl) fun a H => ?_
        have H := H.turn (d := 67) (u := .int .u32 (IntKind.u32.wrap ((j : Int) + 1))) (v := .int .u32 ((j : Int) + 1)) (wU32 (by omega) (by omega))
        refine st_run 1 1 0 [(57, .int .u32 ((j : Int) + 1))] H (by kernel_rfl) fun a H => ?_
        refine ops_end _ ?_
        have hnr : (namesR (j + 1) x_28) = (((namesR j x_28).1) ++ [strB x_32], x_33) := by simp only [namesR, hf29]
        have H := H.with (((((H.sat.msk [true, false, true, true, true]).front 3 rfl).front 3 rfl).front 3 rfl).front 3 rfl)
        exact hrec1 _ _ _ (by omega) ⟨R5, j + 1, A2, c2, rfl, hl1_0.trans hle, by omega, by rw [hnr]; exact H.sub' ⟨by kernel_rfl, by kernel_rfl, by kernel_rfl, by kernel_rfl, by kernel_rfl, by kernel_rfl, trivial⟩⟩
      · intro hc6
        have hc6' := of_decide_eq_false hc6
        have hmj : (x_27).toNat = j := by omega
        
        refine WK.exit (k' := _) rfl ?_
        refine WK.seq ?_
        refine WK.seq ?_
        refine st_text 3 rfl ?_
        refine st_run 0 1 2 [(68, .pointer (some ⟨x_1, 0, none⟩))] H (by kernel_rfl) fun a H => ?_
        refine st_op 1 1 (op_call (d := 69) H (by kernel_rfl) rfl (rd_end x_1 ((namesR j x_28).2) (H.sat.front 1 rfl)) fun a v w q F => ?_)
        obtain ⟨rfl, X⟩ := q
        have H := St.mk F X
        refine st_run 2 1 0 [(7, .int .i64 (((namesR j x_28).2).err))] H (by kernel_rfl) fun a H => ?_
        refine ops_end _ ?_
        refine WK.seq ?_
        refine st_text 2 rfl ?_
        refine st_run 0 2 0 [(71, .bool (!(((((namesR j x_28).2).err) : Int) == 0))), (70, .int .i64 (((namesR j x_28).2).err))] H (by kernel_rfl) fun a H => ?_
        refine ops_end _ ?_
        refine st_cond (!(((((namesR j x_28).2).err) : Int) == 0)) H (by kernel_rfl) ?_ ?_
        · intro hc7
          have hc7n := notT hc7
          have hc7' := neB (notT hc7)
          refine WK.seq ?_
          refine st_text 4 rfl ?_
          refine st_run 0 2 2 [(73, .int .i64 (((namesR j x_28).2).err)), (72, .agg #[.int .u8 0, .int .u32 0, .int .u64 0, .int .u8 0, .int .u32 0, .int .u32 0, .bool false, .int .u32 0, .int .u64 0, .int .u64 0, .slice none 0 0, .slice none 0 0, .int .u32 0])] H (by kernel_rfl) fun a H => ?_
          refine st_op 2 1 (op_store (k := 3) (t := 61) (off := 0) (v := .agg #[.int .u8 0, .int .u32 0, .int .u64 0, .int .u8 0, .int .u32 0, .int .u32 0, .bool false, .int .u32 0, .int .u64 0, .int .u64 0, .slice none 0 0, .slice none 0 0, .int .u32 0]) H rfl (by kernel_rfl) (by kernel_rfl) fun a w H => ?_)
          refine st_run 3 1 0 [(3, .int .i64 (((namesR j x_28).2).err))] H (by kernel_rfl) fun a H => ?_
          refine ops_end _ ?_
          have H := St.toL (M := rdrR Rl x_1 ((namesR j x_28).2) :: strsO 9 An cn ((namesR j x_28).1) :: blk b2 (.cells #[.int .u8 (min x_2 255), .int .u32 x_4, .int .u64 x_6, .int .u8 (min x_8 255), .int .u32 x_12, .int .u32 x_14, .bool ((x_16 : Int) == 1), .int .u32 x_18, .int .u64 x_20, .int .u64 x_22, .slice X_1 x_24.length x_26, .slice An ((namesR j x_28).1.length) cn, .int .u32 x_10] 61) :: blk b1 (.cells #[.int .u8 0, .int .u32 0, .int .u64 0, .int .u8 0, .int .u32 0, .int .u32 0, .bool false, .int .u32 0, .int .u64 0, .int .u64 0, .slice none 0 0, .slice none 0 0, .int .u32 0] 61) :: L) H (by kernel_rfl)
          refine st_ret (vs := [.agg #[.int .u8 0, .int .u32 0, .int .u64 0, .int .u8 0, .int .u32 0, .int .u32 0, .bool false, .int .u32 0, .int .u64 0, .int .u64 0, .slice none 0 0, .slice none 0 0, .int .u32 0], .int .i64 (((namesR j x_28).2).err)]) H Tryd.func67 rfl (.cell (by kernel_rfl) (H.sat.blk (k := 3) rfl) (by kernel_rfl) (.tmp (by kernel_rfl) (.nil))) ?_
          have hz0 : getB bs = ((⟨0, 0, 0, 0, 0, 0, false, 0, 0, 0, [], [], 0⟩ : BackS), ((namesR j x_28).2).err) := by first | simp only [getB, getB1, getB2, backR, withNames, hc1, hg1, hc6, hc7n, hf1, hf3, hf5, hf7, hf9, hf11, hf13, hf15, hf17, hf19, hf21, hf23, hf25, hmj, List.length_nil, cond_true, cond_false, Bool.not_true, Bool.not_false, Bool.and_true, Bool.and_false, Bool.true_and, Bool.false_and] | rfl
          have X := (H.sat.msk [false, false, false, false])
          rewrite [hz0]
          exact ⟨Rl, hleRl, none, 0, none, 0, RdB.nil _, RdS.nil _, rfl, X⟩
        · intro hc7
          have hc7n := notF hc7
          have hc7' := eq_of_beq (notF hc7)
          refine WK.skip ?_
          refine WK.seq ?_
          refine WK.seq ?_
          refine st_text 3 rfl ?_
          refine st_op 0 2 (op_val (d := 74) (v := .agg #[.int .u8 (min x_2 255), .int .u32 x_4, .int .u64 x_6, .int .u8 (min x_8 255), .int .u32 x_12, .int .u32 x_14, .bool ((x_16 : Int) == 1), .int .u32 x_18, .int .u64 x_20, .int .u64 x_22, .slice X_1 x_24.length x_26, .slice An ((namesR j x_28).1.length) cn, .int .u32 x_10]) H (val_ld (k := 2) (t := 61) (off := 0) rfl (by kernel_rfl) rfl (by kernel_rfl)) fun a H => ?_)
          obtain ⟨R6, hle, hr_2, X⟩ := (H.sat.front 1 rfl).strsO_fix
          have H := St.mk H.sl X
          have hr := hr.grow hle
          have hf24 := hf24.grow hle
          have hT := hT.grow hle
          have H := St.mk H.sl ((H.sat).head (rdrR_grow hle))
          have hleR6 := hleRl.trans hle
          refine st_op 1 1 (op_call (d := 75) H (by kernel_rfl) rfl (back_may (⟨min x_2 255, x_4, x_6, min x_8 255, x_12, x_14, (x_16 : Int) == 1, x_18, x_20, x_22, x_24, (namesR j x_28).1, x_10⟩ : BackS) X_1 x_26 An cn (by first | assumption | omega) (by first | assumption | omega) H.sat) fun a v w q F => ?_)
          obtain ⟨rfl, X⟩ := q
          have H := St.mk F X
          refine st_run 2 1 0 [(76, .bool (!(mayB (⟨min x_2 255, x_4, x_6, min x_8 255, x_12, x_14, (x_16 : Int) == 1, x_18, x_20, x_22, x_24, (namesR j x_28).1, x_10⟩ : BackS))))] H (by kernel_rfl) fun a H => ?_
          refine ops_end _ ?_
          refine st_cond (!(mayB (⟨min x_2 255, x_4, x_6, min x_8 255, x_12, x_14, (x_16 : Int) == 1, x_18, x_20, x_22, x_24, (namesR j x_28).1, x_10⟩ : BackS))) H (by kernel_rfl) ?_ ?_
          · intro hc8
            have hc8n := notT hc8
            refine WK.seq ?_
            refine st_text 3 rfl ?_
            refine st_run 0 1 2 [(77, .agg #[.int .u8 0, .int .u32 0, .int .u64 0, .int .u8 0, .int .u32 0, .int .u32 0, .bool false, .int .u32 0, .int .u64 0, .int .u64 0, .slice none 0 0, .slice none 0 0, .int .u32 0])] H (by kernel_rfl) fun a H => ?_
            refine st_op 1 1 (op_store (k := 2) (t := 61) (off := 0) (v := .agg #[.int .u8 0, .int .u32 0, .int .u64 0, .int .u8 0, .int .u32 0, .int .u32 0, .bool false, .int .u32 0, .int .u64 0, .int .u64 0, .slice none 0 0, .slice none 0 0, .int .u32 0]) H rfl (by kernel_rfl) (by kernel_rfl) fun a w H => ?_)
            refine st_run 2 1 0 [(3, .int .i64 5)] H (by kernel_rfl) fun a H => ?_
            refine ops_end _ ?_
            have H := St.toL (M := rdrR R6 x_1 ((namesR j x_28).2) :: blk b2 (.cells #[.int .u8 (min x_2 255), .int .u32 x_4, .int .u64 x_6, .int .u8 (min x_8 255), .int .u32 x_12, .int .u32 x_14, .bool ((x_16 : Int) == 1), .int .u32 x_18, .int .u64 x_20, .int .u64 x_22, .slice X_1 x_24.length x_26, .slice An ((namesR j x_28).1.length) cn, .int .u32 x_10] 61) :: blk b1 (.cells #[.int .u8 0, .int .u32 0, .int .u64 0, .int .u8 0, .int .u32 0, .int .u32 0, .bool false, .int .u32 0, .int .u64 0, .int .u64 0, .slice none 0 0, .slice none 0 0, .int .u32 0] 61) :: L) H (by kernel_rfl)
            refine st_ret (vs := [.agg #[.int .u8 0, .int .u32 0, .int .u64 0, .int .u8 0, .int .u32 0, .int .u32 0, .bool false, .int .u32 0, .int .u64 0, .int .u64 0, .slice none 0 0, .slice none 0 0, .int .u32 0], .int .i64 5]) H Tryd.func67 rfl (.cell (by kernel_rfl) (H.sat.blk (k := 2) rfl) (by kernel_rfl) (.tmp (by kernel_rfl) (.nil))) ?_
            have hz0 : getB bs = ((⟨0, 0, 0, 0, 0, 0, false, 0, 0, 0, [], [], 0⟩ : BackS), 5) := by first | simp only [getB, getB1, getB2, backR, withNames, hc1, hg1, hc6, hc7n, hc8n, hf1, hf3, hf5, hf7, hf9, hf11, hf13, hf15, hf17, hf19, hf21, hf23, hf25, hmj, List.length_nil, cond_true, cond_false, Bool.not_true, Bool.not_false, Bool.and_true, Bool.and_false, Bool.true_and, Bool.false_and] | rfl
            have X := (H.sat.msk [false, false, false])
            rewrite [hz0]
            exact ⟨R6, hleR6, none, 0, none, 0, RdB.nil _, RdS.nil _, rfl, X⟩
          · intro hc8
            have hc8n := notF hc8
            refine WK.skip ?_
            refine WK.seq ?_
            refine st_text 3 rfl ?_
            refine st_op 0 2 (op_val (d := 78) (v := .agg #[.int .u8 (min x_2 255), .int .u32 x_4, .int .u64 x_6, .int .u8 (min x_8 255), .int .u32 x_12, .int .u32 x_14, .bool ((x_16 : Int) == 1), .int .u32 x_18, .int .u64 x_20, .int .u64 x_22, .slice X_1 x_24.length x_26, .slice An ((namesR j x_28).1.length) cn, .int .u32 x_10]) H (val_ld (k := 1) (t := 61) (off := 0) rfl (by kernel_rfl) rfl (by kernel_rfl)) fun a H => ?_)
            refine st_op 1 1 (op_store (k := 2) (t := 61) (off := 0) (v := .agg #[.int .u8 (min x_2 255), .int .u32 x_4, .int .u64 x_6, .int .u8 (min x_8 255), .int .u32 x_12, .int .u32 x_14, .bool ((x_16 : Int) == 1), .int .u32 x_18, .int .u64 x_20, .int .u64 x_22, .slice X_1 x_24.length x_26, .slice An ((namesR j x_28).1.length) cn, .int .u32 x_10]) H rfl (by kernel_rfl) (by kernel_rfl) fun a w H => ?_)
            refine st_run 2 1 0 [(3, .int .i64 0)] H (by kernel_rfl) fun a H => ?_
            refine ops_end _ ?_
            have H := St.toL (M := rdrR R6 x_1 ((namesR j x_28).2) :: blk b2 (.cells #[.int .u8 (min x_2 255), .int .u32 x_4, .int .u64 x_6, .int .u8 (min x_8 255), .int .u32 x_12, .int .u32 x_14, .bool ((x_16 : Int) == 1), .int .u32 x_18, .int .u64 x_20, .int .u64 x_22, .slice X_1 x_24.length x_26, .slice An ((namesR j x_28).1.length) cn, .int .u32 x_10] 61) :: blk b1 (.cells #[.int .u8 (min x_2 255), .int .u32 x_4, .int .u64 x_6, .int .u8 (min x_8 255), .int .u32 x_12, .int .u32 x_14, .bool ((x_16 : Int) == 1), .int .u32 x_18, .int .u64 x_20, .int .u64 x_22, .slice X_1 x_24.length x_26, .slice An ((namesR j x_28).1.length) cn, .int .u32 x_10] 61) :: L) H (by kernel_rfl)
            refine st_ret (vs := [.agg #[.int .u8 (min x_2 255), .int .u32 x_4, .int .u64 x_6, .int .u8 (min x_8 255), .int .u32 x_12, .int .u32 x_14, .bool ((x_16 : Int) == 1), .int .u32 x_18, .int .u64 x_20, .int .u64 x_22, .slice X_1 x_24.length x_26, .slice An ((namesR j x_28).1.length) cn, .int .u32 x_10], .int .i64 0]) H Tryd.func67 rfl (.cell (by kernel_rfl) (H.sat.blk (k := 2) rfl) (by kernel_rfl) (.tmp (by kernel_rfl) (.nil))) ?_
            have hz0 : getB bs = ((⟨min x_2 255, x_4, x_6, min x_8 255, x_12, x_14, (x_16 : Int) == 1, x_18, x_20, x_22, x_24, (namesR j x_28).1, x_10⟩ : BackS), 0) := by first | simp only [getB, getB1, getB2, backR, withNames, hc1, hg1, hc6, hc7n, hc8n, hf1, hf3, hf5, hf7, hf9, hf11, hf13, hf15, hf17, hf19, hf21, hf23, hf25, hmj, List.length_nil, cond_true, cond_false, Bool.not_true, Bool.not_false, Bool.and_true, Bool.and_false, Bool.true_and, Bool.false_and] | rfl
            have X := (H.sat.msk [false, false, false])
            rewrite [hz0]
            exact ⟨R6, hleR6, X_1, x_26, An, cn, hf24, hr_2, rfl, X⟩
end Go.Proofs.YtldnpolfcickaaaDoor
