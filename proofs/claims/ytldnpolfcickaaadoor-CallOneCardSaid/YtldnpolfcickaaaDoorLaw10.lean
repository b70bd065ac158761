/- Numbers as bytes. -/
import Derived.Test.YtldnpolfcickaaaDoorCall6
set_option linter.unusedVariables false
set_option linter.unusedSimpArgs false
set_option maxRecDepth 100000
set_option maxHeartbeats 1000000
namespace Go.Proofs.YtldnpolfcickaaaDoor
open Go Go.WH

/-- wharfage/wharfagelaw10.lives -/
theorem law10_lives {e w : World} {R : Hp} {L : List HP} (hT : Tabs 0 1 R) (X : Sat e w R (L)) :
    Calls Tryd.prog 10 #[] w (Ret fun v w' => ∃ R', R.Le R' ∧ v = .bool true ∧ Sat e w' R' (L)) := by
  have hp1 : (putP (⟨0, 1, 1, 1, 1, 1, ByteArray.empty, 0, 0, ByteArray.empty, 0, 0, []⟩ : CallS)).1.length = 28 := by kernel_rfl
  refine enter (n := 66) (args := []) Tryd.func10 rfl rfl rfl X (fun a H => ?_)
  refine WK.seq ?_
  refine st_text 1 rfl ?_
  refine st_run 0 1 0 [(0, .bool false)] H (by kernel_rfl) fun a H => ?_
  refine ops_end _ ?_
  refine WK.seq ?_
  refine st_text 7 rfl ?_
  refine st_run 0 1 6 [(10, .agg #[.int .u8 0, .int .u32 0, .int .u64 0, .int .u8 0, .int .u32 0, .int .u32 0, .string ByteArray.empty, .int .u32 0, .int .u32 0, .string ByteArray.empty, .int .u32 0, .int .u32 0, .slice none 0 0])] H (by kernel_rfl) fun a H => ?_
  refine st_op 1 5 (op_call (d := 11) H (by kernel_rfl) rfl (call_put (⟨0, 0, 0, 0, 0, 0, ByteArray.empty, 0, 0, ByteArray.empty, 0, 0, []⟩ : CallS) none 0 (by exact ⟨by decide, by decide, by decide, by decide, by decide, by decide, by decide, by decide, by decide, by decide⟩) (by exact RdB.nil _) (by first | assumption | omega) H.sat) fun a v w q F => ?_)
  obtain ⟨R1, hle, X_1, x_1, rfl, X⟩ := q
  have H := St.mk F X
  have hT := hT.grow hle
  have hleR1 := hle
  refine st_run 2 5 0 [(2, .int .i64 ((putP (⟨0, 0, 0, 0, 0, 0, ByteArray.empty, 0, 0, ByteArray.empty, 0, 0, []⟩ : CallS)).2)), (1, .slice X_1 ((putP (⟨0, 0, 0, 0, 0, 0, ByteArray.empty, 0, 0, ByteArray.empty, 0, 0, []⟩ : CallS)).1.length) x_1), (13, .int .i64 ((putP (⟨0, 0, 0, 0, 0, 0, ByteArray.empty, 0, 0, ByteArray.empty, 0, 0, []⟩ : CallS)).2)), (12, .slice X_1 ((putP (⟨0, 0, 0, 0, 0, 0, ByteArray.empty, 0, 0, ByteArray.empty, 0, 0, []⟩ : CallS)).1.length) x_1), (9, .tuple #[.slice X_1 ((putP (⟨0, 0, 0, 0, 0, 0, ByteArray.empty, 0, 0, ByteArray.empty, 0, 0, []⟩ : CallS)).1.length) x_1, .int .i64 ((putP (⟨0, 0, 0, 0, 0, 0, ByteArray.empty, 0, 0, ByteArray.empty, 0, 0, []⟩ : CallS)).2)])] H (by kernel_rfl) fun a H => ?_
  refine ops_end _ ?_
  refine WK.seq ?_
  refine st_text 8 rfl ?_
  refine st_run 0 2 6 [(16, .agg #[.int .u8 0, .int .u32 1, .int .u64 1, .int .u8 1, .int .u32 1, .int .u32 1, .string ByteArray.empty, .int .u32 0, .int .u32 0, .string ByteArray.empty, .int .u32 0, .int .u32 0, .slice none 0 0]), (15, .agg #[.int .u32 1, .int .u32 1])] H (by kernel_rfl) fun a H => ?_
  refine st_op 2 5 (op_call (d := 17) H (by kernel_rfl) rfl (call_put (⟨0, 1, 1, 1, 1, 1, ByteArray.empty, 0, 0, ByteArray.empty, 0, 0, []⟩ : CallS) none 0 (by exact ⟨by decide, by decide, by decide, by decide, by decide, by decide, by decide, by decide, by decide, by decide⟩) (by exact RdB.nil _) (by first | assumption | omega) H.sat) fun a v w q F => ?_)
  obtain ⟨R2, hle, X_2, x_2, rfl, X⟩ := q
  have H := St.mk F X
  have hT := hT.grow hle
  have hleR2 := hleR1.trans hle
  refine st_run 3 5 0 [(4, .int .i64 ((putP (⟨0, 1, 1, 1, 1, 1, ByteArray.empty, 0, 0, ByteArray.empty, 0, 0, []⟩ : CallS)).2)), (3, .slice X_2 ((putP (⟨0, 1, 1, 1, 1, 1, ByteArray.empty, 0, 0, ByteArray.empty, 0, 0, []⟩ : CallS)).1.length) x_2), (19, .int .i64 ((putP (⟨0, 1, 1, 1, 1, 1, ByteArray.empty, 0, 0, ByteArray.empty, 0, 0, []⟩ : CallS)).2)), (18, .slice X_2 ((putP (⟨0, 1, 1, 1, 1, 1, ByteArray.empty, 0, 0, ByteArray.empty, 0, 0, []⟩ : CallS)).1.length) x_2), (14, .tuple #[.slice X_2 ((putP (⟨0, 1, 1, 1, 1, 1, ByteArray.empty, 0, 0, ByteArray.empty, 0, 0, []⟩ : CallS)).1.length) x_2, .int .i64 ((putP (⟨0, 1, 1, 1, 1, 1, ByteArray.empty, 0, 0, ByteArray.empty, 0, 0, []⟩ : CallS)).2)])] H (by kernel_rfl) fun a H => ?_
  refine ops_end _ ?_
  refine WK.seq ?_
  refine WK.seq ?_
  refine st_text 11 rfl ?_
  refine st_run 0 3 8 [(22, .bool (!((((putP (⟨0, 0, 0, 0, 0, 0, ByteArray.empty, 0, 0, ByteArray.empty, 0, 0, []⟩ : CallS)).2) : Int) == 2))), (21, .bool (!((((putP (⟨0, 0, 0, 0, 0, 0, ByteArray.empty, 0, 0, ByteArray.empty, 0, 0, []⟩ : CallS)).2) : Int) == 2))), (20, .int .i64 ((putP (⟨0, 0, 0, 0, 0, 0, ByteArray.empty, 0, 0, ByteArray.empty, 0, 0, []⟩ : CallS)).2))] H (by kernel_rfl) fun a H => ?_
  have hk1 : ((((putP (⟨0, 0, 0, 0, 0, 0, ByteArray.empty, 0, 0, ByteArray.empty, 0, 0, []⟩ : CallS)).2) : Int) == 2) = true := by kernel_rfl
  have H := H.also (d := 22) (u := .bool (!((((putP (⟨0, 0, 0, 0, 0, 0, ByteArray.empty, 0, 0, ByteArray.empty, 0, 0, []⟩ : CallS)).2) : Int) == 2))) (v := .bool false) (by kernel_rfl) (congrArg Value.bool (by simp only [hk1]; rfl))
  refine st_run 3 4 4 [(26, .bool (!((((putP (⟨0, 1, 1, 1, 1, 1, ByteArray.empty, 0, 0, ByteArray.empty, 0, 0, []⟩ : CallS)).2) : Int) == 0))), (25, .bool (!((((putP (⟨0, 1, 1, 1, 1, 1, ByteArray.empty, 0, 0, ByteArray.empty, 0, 0, []⟩ : CallS)).2) : Int) == 0))), (24, .bool (!((((putP (⟨0, 1, 1, 1, 1, 1, ByteArray.empty, 0, 0, ByteArray.empty, 0, 0, []⟩ : CallS)).2) : Int) == 0))), (23, .int .i64 ((putP (⟨0, 1, 1, 1, 1, 1, ByteArray.empty, 0, 0, ByteArray.empty, 0, 0, []⟩ : CallS)).2))] H (by kernel_rfl) fun a H => ?_
  have hk2 : ((((putP (⟨0, 1, 1, 1, 1, 1, ByteArray.empty, 0, 0, ByteArray.empty, 0, 0, []⟩ : CallS)).2) : Int) == 0) = true := by kernel_rfl
  have H := H.also (d := 26) (u := .bool (!((((putP (⟨0, 1, 1, 1, 1, 1, ByteArray.empty, 0, 0, ByteArray.empty, 0, 0, []⟩ : CallS)).2) : Int) == 0))) (v := .bool false) (by kernel_rfl) (congrArg Value.bool (by simp only [hk2]; rfl))
  refine st_run 7 4 0 [(30, .bool (!(((((putP (⟨0, 1, 1, 1, 1, 1, ByteArray.empty, 0, 0, ByteArray.empty, 0, 0, []⟩ : CallS)).1.length : Nat) : Int) : Int) == 28))), (29, .bool (!(((((putP (⟨0, 1, 1, 1, 1, 1, ByteArray.empty, 0, 0, ByteArray.empty, 0, 0, []⟩ : CallS)).1.length : Nat) : Int) : Int) == 28))), (28, .int .i64 (((putP (⟨0, 1, 1, 1, 1, 1, ByteArray.empty, 0, 0, ByteArray.empty, 0, 0, []⟩ : CallS)).1.length : Nat) : Int)), (27, .slice X_2 ((putP (⟨0, 1, 1, 1, 1, 1, ByteArray.empty, 0, 0, ByteArray.empty, 0, 0, []⟩ : CallS)).1.length) x_2)] H (by kernel_rfl) fun a H => ?_
  refine ops_end _ ?_
  have hk3 : (((((putP (⟨0, 1, 1, 1, 1, 1, ByteArray.empty, 0, 0, ByteArray.empty, 0, 0, []⟩ : CallS)).1.length : Nat) : Int) : Int) == 28) = true := by kernel_rfl
  have H := H.also (d := 30) (u := .bool (!(((((putP (⟨0, 1, 1, 1, 1, 1, ByteArray.empty, 0, 0, ByteArray.empty, 0, 0, []⟩ : CallS)).1.length : Nat) : Int) : Int) == 28))) (v := .bool false) (by kernel_rfl) (congrArg Value.bool (by simp only [hk3]; rfl))
  refine st_false H (by kernel_rfl) ?_
  refine WK.skip ?_
  refine WK.seq ?_
  refine st_text 9 rfl ?_
  refine st_run 0 1 8 [(32, .slice X_2 ((putP (⟨0, 1, 1, 1, 1, 1, ByteArray.empty, 0, 0, ByteArray.empty, 0, 0, []⟩ : CallS)).1.length) x_2)] H (by kernel_rfl) fun a H => ?_
  obtain ⟨R3, hle, hr_1, X⟩ := (H.sat.front 0 rfl).bytesO_fix
  have H := St.mk H.sl X
  have hT := hT.grow hle
  have hleR3 := hleR2.trans hle
  have hr_2 := RdB.sub0 hr_1 (h := 27) (by omega)
  refine st_op 1 7 (op_val (d := 33) (v := .slice (subA X_2 x_2 0 1) (27 - 0) (x_2 - 0)) H (val_slice (t := 26) (A := X_2) (m := ((putP (⟨0, 1, 1, 1, 1, 1, ByteArray.empty, 0, 0, ByteArray.empty, 0, 0, []⟩ : CallS)).1.length)) (c := x_2) none (some (.i64, 27, 27)) (by kernel_rfl) rfl rfl (trivial) (by first | rfl | (simp only [loOk]; omega)) (by simp only [loN]; omega) (by have hx := hr_1.le; simp only [loN]; omega)) fun a H => ?_)
  have H := H.turn (d := 33) (v := .slice (subA X_2 x_2 0 1) ((((putP (⟨0, 1, 1, 1, 1, 1, ByteArray.empty, 0, 0, ByteArray.empty, 0, 0, []⟩ : CallS)).1).take 27).length) (x_2 - 0)) (by first | rfl | (simp only [List.length_take, List.length_drop]; done) | (simp only [List.length_take, List.length_drop]; congr 1 <;> omega))
  refine st_op 2 6 (op_call (d := 34) H (by kernel_rfl) rfl (call_get (subA X_2 x_2 0 1) (x_2 - 0) (((putP (⟨0, 1, 1, 1, 1, 1, ByteArray.empty, 0, 0, ByteArray.empty, 0, 0, []⟩ : CallS)).1).take 27) (by first | assumption | omega) (by first | assumption | omega) (by first | omega | (simp only [List.length_take]; omega)) H.sat) fun a v w q F => ?_)
  obtain ⟨R4, hle, X_3, x_3, hf1, rfl, X⟩ := q
  have H := St.mk F X
  have hr_1 := hr_1.grow hle
  have hr_2 := hr_2.grow hle
  have hT := hT.grow hle
  have hleR4 := hleR3.trans hle
  refine st_run 3 3 3 [(36, .int .i64 ((getP (((putP (⟨0, 1, 1, 1, 1, 1, ByteArray.empty, 0, 0, ByteArray.empty, 0, 0, []⟩ : CallS)).1).take 27)).2)), (35, .agg #[.int .u8 ((getP (((putP (⟨0, 1, 1, 1, 1, 1, ByteArray.empty, 0, 0, ByteArray.empty, 0, 0, []⟩ : CallS)).1).take 27)).1.client), .int .u32 ((getP (((putP (⟨0, 1, 1, 1, 1, 1, ByteArray.empty, 0, 0, ByteArray.empty, 0, 0, []⟩ : CallS)).1).take 27)).1.inc), .int .u64 ((getP (((putP (⟨0, 1, 1, 1, 1, 1, ByteArray.empty, 0, 0, ByteArray.empty, 0, 0, []⟩ : CallS)).1).take 27)).1.seq), .int .u8 ((getP (((putP (⟨0, 1, 1, 1, 1, 1, ByteArray.empty, 0, 0, ByteArray.empty, 0, 0, []⟩ : CallS)).1).take 27)).1.kind), .int .u32 ((getP (((putP (⟨0, 1, 1, 1, 1, 1, ByteArray.empty, 0, 0, ByteArray.empty, 0, 0, []⟩ : CallS)).1).take 27)).1.ino), .int .u32 ((getP (((putP (⟨0, 1, 1, 1, 1, 1, ByteArray.empty, 0, 0, ByteArray.empty, 0, 0, []⟩ : CallS)).1).take 27)).1.gen), .string ((getP (((putP (⟨0, 1, 1, 1, 1, 1, ByteArray.empty, 0, 0, ByteArray.empty, 0, 0, []⟩ : CallS)).1).take 27)).1.name), .int .u32 ((getP (((putP (⟨0, 1, 1, 1, 1, 1, ByteArray.empty, 0, 0, ByteArray.empty, 0, 0, []⟩ : CallS)).1).take 27)).1.toIno), .int .u32 ((getP (((putP (⟨0, 1, 1, 1, 1, 1, ByteArray.empty, 0, 0, ByteArray.empty, 0, 0, []⟩ : CallS)).1).take 27)).1.toGen), .string ((getP (((putP (⟨0, 1, 1, 1, 1, 1, ByteArray.empty, 0, 0, ByteArray.empty, 0, 0, []⟩ : CallS)).1).take 27)).1.toName), .int .u32 ((getP (((putP (⟨0, 1, 1, 1, 1, 1, ByteArray.empty, 0, 0, ByteArray.empty, 0, 0, []⟩ : CallS)).1).take 27)).1.off), .int .u32 ((getP (((putP (⟨0, 1, 1, 1, 1, 1, ByteArray.empty, 0, 0, ByteArray.empty, 0, 0, []⟩ : CallS)).1).take 27)).1.size), .slice X_3 ((getP (((putP (⟨0, 1, 1, 1, 1, 1, ByteArray.empty, 0, 0, ByteArray.empty, 0, 0, []⟩ : CallS)).1).take 27)).1.data.length) x_3]), (31, .tuple #[.agg #[.int .u8 ((getP (((putP (⟨0, 1, 1, 1, 1, 1, ByteArray.empty, 0, 0, ByteArray.empty, 0, 0, []⟩ : CallS)).1).take 27)).1.client), .int .u32 ((getP (((putP (⟨0, 1, 1, 1, 1, 1, ByteArray.empty, 0, 0, ByteArray.empty, 0, 0, []⟩ : CallS)).1).take 27)).1.inc), .int .u64 ((getP (((putP (⟨0, 1, 1, 1, 1, 1, ByteArray.empty, 0, 0, ByteArray.empty, 0, 0, []⟩ : CallS)).1).take 27)).1.seq), .int .u8 ((getP (((putP (⟨0, 1, 1, 1, 1, 1, ByteArray.empty, 0, 0, ByteArray.empty, 0, 0, []⟩ : CallS)).1).take 27)).1.kind), .int .u32 ((getP (((putP (⟨0, 1, 1, 1, 1, 1, ByteArray.empty, 0, 0, ByteArray.empty, 0, 0, []⟩ : CallS)).1).take 27)).1.ino), .int .u32 ((getP (((putP (⟨0, 1, 1, 1, 1, 1, ByteArray.empty, 0, 0, ByteArray.empty, 0, 0, []⟩ : CallS)).1).take 27)).1.gen), .string ((getP (((putP (⟨0, 1, 1, 1, 1, 1, ByteArray.empty, 0, 0, ByteArray.empty, 0, 0, []⟩ : CallS)).1).take 27)).1.name), .int .u32 ((getP (((putP (⟨0, 1, 1, 1, 1, 1, ByteArray.empty, 0, 0, ByteArray.empty, 0, 0, []⟩ : CallS)).1).take 27)).1.toIno), .int .u32 ((getP (((putP (⟨0, 1, 1, 1, 1, 1, ByteArray.empty, 0, 0, ByteArray.empty, 0, 0, []⟩ : CallS)).1).take 27)).1.toGen), .string ((getP (((putP (⟨0, 1, 1, 1, 1, 1, ByteArray.empty, 0, 0, ByteArray.empty, 0, 0, []⟩ : CallS)).1).take 27)).1.toName), .int .u32 ((getP (((putP (⟨0, 1, 1, 1, 1, 1, ByteArray.empty, 0, 0, ByteArray.empty, 0, 0, []⟩ : CallS)).1).take 27)).1.off), .int .u32 ((getP (((putP (⟨0, 1, 1, 1, 1, 1, ByteArray.empty, 0, 0, ByteArray.empty, 0, 0, []⟩ : CallS)).1).take 27)).1.size), .slice X_3 ((getP (((putP (⟨0, 1, 1, 1, 1, 1, ByteArray.empty, 0, 0, ByteArray.empty, 0, 0, []⟩ : CallS)).1).take 27)).1.data.length) x_3], .int .i64 ((getP (((putP (⟨0, 1, 1, 1, 1, 1, ByteArray.empty, 0, 0, ByteArray.empty, 0, 0, []⟩ : CallS)).1).take 27)).2)])] H (by kernel_rfl) fun a H => ?_
  refine st_op 6 2 (op_new (d := 5) (vf := fun b => .pointer (some ⟨b, 0, none⟩)) (ob := .cells #[.int .u8 0, .int .u32 0, .int .u64 0, .int .u8 0, .int .u32 0, .int .u32 0, .string ByteArray.empty, .int .u32 0, .int .u32 0, .string ByteArray.empty, .int .u32 0, .int .u32 0, .slice none 0 0] 28) H (IsNew.of_run rfl fun w => (by kernel_rfl)) fun a w b1 H => ?_)
  refine st_op 7 1 (op_store (k := 0) (t := 28) (off := 0) (v := .agg #[.int .u8 ((getP (((putP (⟨0, 1, 1, 1, 1, 1, ByteArray.empty, 0, 0, ByteArray.empty, 0, 0, []⟩ : CallS)).1).take 27)).1.client), .int .u32 ((getP (((putP (⟨0, 1, 1, 1, 1, 1, ByteArray.empty, 0, 0, ByteArray.empty, 0, 0, []⟩ : CallS)).1).take 27)).1.inc), .int .u64 ((getP (((putP (⟨0, 1, 1, 1, 1, 1, ByteArray.empty, 0, 0, ByteArray.empty, 0, 0, []⟩ : CallS)).1).take 27)).1.seq), .int .u8 ((getP (((putP (⟨0, 1, 1, 1, 1, 1, ByteArray.empty, 0, 0, ByteArray.empty, 0, 0, []⟩ : CallS)).1).take 27)).1.kind), .int .u32 ((getP (((putP (⟨0, 1, 1, 1, 1, 1, ByteArray.empty, 0, 0, ByteArray.empty, 0, 0, []⟩ : CallS)).1).take 27)).1.ino), .int .u32 ((getP (((putP (⟨0, 1, 1, 1, 1, 1, ByteArray.empty, 0, 0, ByteArray.empty, 0, 0, []⟩ : CallS)).1).take 27)).1.gen), .string ((getP (((putP (⟨0, 1, 1, 1, 1, 1, ByteArray.empty, 0, 0, ByteArray.empty, 0, 0, []⟩ : CallS)).1).take 27)).1.name), .int .u32 ((getP (((putP (⟨0, 1, 1, 1, 1, 1, ByteArray.empty, 0, 0, ByteArray.empty, 0, 0, []⟩ : CallS)).1).take 27)).1.toIno), .int .u32 ((getP (((putP (⟨0, 1, 1, 1, 1, 1, ByteArray.empty, 0, 0, ByteArray.empty, 0, 0, []⟩ : CallS)).1).take 27)).1.toGen), .string ((getP (((putP (⟨0, 1, 1, 1, 1, 1, ByteArray.empty, 0, 0, ByteArray.empty, 0, 0, []⟩ : CallS)).1).take 27)).1.toName), .int .u32 ((getP (((putP (⟨0, 1, 1, 1, 1, 1, ByteArray.empty, 0, 0, ByteArray.empty, 0, 0, []⟩ : CallS)).1).take 27)).1.off), .int .u32 ((getP (((putP (⟨0, 1, 1, 1, 1, 1, ByteArray.empty, 0, 0, ByteArray.empty, 0, 0, []⟩ : CallS)).1).take 27)).1.size), .slice X_3 ((getP (((putP (⟨0, 1, 1, 1, 1, 1, ByteArray.empty, 0, 0, ByteArray.empty, 0, 0, []⟩ : CallS)).1).take 27)).1.data.length) x_3]) H rfl (by kernel_rfl) (by kernel_rfl) fun a w H => ?_)
  refine st_run 8 1 0 [(6, .int .i64 ((getP (((putP (⟨0, 1, 1, 1, 1, 1, ByteArray.empty, 0, 0, ByteArray.empty, 0, 0, []⟩ : CallS)).1).take 27)).2))] H (by kernel_rfl) fun a H => ?_
  refine ops_end _ ?_
  refine WK.seq ?_
  refine st_text 8 rfl ?_
  refine st_run 0 1 7 [(38, .slice X_2 ((putP (⟨0, 1, 1, 1, 1, 1, ByteArray.empty, 0, 0, ByteArray.empty, 0, 0, []⟩ : CallS)).1.length) x_2)] H (by kernel_rfl) fun a H => ?_
  refine st_op 1 6 (op_call (d := 39) H (by kernel_rfl) rfl (call_get X_2 x_2 ((putP (⟨0, 1, 1, 1, 1, 1, ByteArray.empty, 0, 0, ByteArray.empty, 0, 0, []⟩ : CallS)).1) (by first | assumption | omega) (by first | assumption | omega) (by first | omega | (simp only [List.length_take]; omega)) H.sat) fun a v w q F => ?_)
  obtain ⟨R5, hle, X_4, x_4, hf2, rfl, X⟩ := q
  have H := St.mk F X
  have hr_1 := hr_1.grow hle
  have hr_2 := hr_2.grow hle
  have hf1 := hf1.grow hle
  have hT := hT.grow hle
  have hleR5 := hleR4.trans hle
  refine st_run 2 3 3 [(41, .int .i64 ((getP ((putP (⟨0, 1, 1, 1, 1, 1, ByteArray.empty, 0, 0, ByteArray.empty, 0, 0, []⟩ : CallS)).1)).2)), (40, .agg #[.int .u8 ((getP ((putP (⟨0, 1, 1, 1, 1, 1, ByteArray.empty, 0, 0, ByteArray.empty, 0, 0, []⟩ : CallS)).1)).1.client), .int .u32 ((getP ((putP (⟨0, 1, 1, 1, 1, 1, ByteArray.empty, 0, 0, ByteArray.empty, 0, 0, []⟩ : CallS)).1)).1.inc), .int .u64 ((getP ((putP (⟨0, 1, 1, 1, 1, 1, ByteArray.empty, 0, 0, ByteArray.empty, 0, 0, []⟩ : CallS)).1)).1.seq), .int .u8 ((getP ((putP (⟨0, 1, 1, 1, 1, 1, ByteArray.empty, 0, 0, ByteArray.empty, 0, 0, []⟩ : CallS)).1)).1.kind), .int .u32 ((getP ((putP (⟨0, 1, 1, 1, 1, 1, ByteArray.empty, 0, 0, ByteArray.empty, 0, 0, []⟩ : CallS)).1)).1.ino), .int .u32 ((getP ((putP (⟨0, 1, 1, 1, 1, 1, ByteArray.empty, 0, 0, ByteArray.empty, 0, 0, []⟩ : CallS)).1)).1.gen), .string ((getP ((putP (⟨0, 1, 1, 1, 1, 1, ByteArray.empty, 0, 0, ByteArray.empty, 0, 0, []⟩ : CallS)).1)).1.name), .int .u32 ((getP ((putP (⟨0, 1, 1, 1, 1, 1, ByteArray.empty, 0, 0, ByteArray.empty, 0, 0, []⟩ : CallS)).1)).1.toIno), .int .u32 ((getP ((putP (⟨0, 1, 1, 1, 1, 1, ByteArray.empty, 0, 0, ByteArray.empty, 0, 0, []⟩ : CallS)).1)).1.toGen), .string ((getP ((putP (⟨0, 1, 1, 1, 1, 1, ByteArray.empty, 0, 0, ByteArray.empty, 0, 0, []⟩ : CallS)).1)).1.toName), .int .u32 ((getP ((putP (⟨0, 1, 1, 1, 1, 1, ByteArray.empty, 0, 0, ByteArray.empty, 0, 0, []⟩ : CallS)).1)).1.off), .int .u32 ((getP ((putP (⟨0, 1, 1, 1, 1, 1, ByteArray.empty, 0, 0, ByteArray.empty, 0, 0, []⟩ : CallS)).1)).1.size), .slice X_4 ((getP ((putP (⟨0, 1, 1, 1, 1, 1, ByteArray.empty, 0, 0, ByteArray.empty, 0, 0, []⟩ : CallS)).1)).1.data.length) x_4]), (37, .tuple #[.agg #[.int .u8 ((getP ((putP (⟨0, 1, 1, 1, 1, 1, ByteArray.empty, 0, 0, ByteArray.empty, 0, 0, []⟩ : CallS)).1)).1.client), .int .u32 ((getP ((putP (⟨0, 1, 1, 1, 1, 1, ByteArray.empty, 0, 0, ByteArray.empty, 0, 0, []⟩ : CallS)).1)).1.inc), .int .u64 ((getP ((putP (⟨0, 1, 1, 1, 1, 1, ByteArray.empty, 0, 0, ByteArray.empty, 0, 0, []⟩ : CallS)).1)).1.seq), .int .u8 ((getP ((putP (⟨0, 1, 1, 1, 1, 1, ByteArray.empty, 0, 0, ByteArray.empty, 0, 0, []⟩ : CallS)).1)).1.kind), .int .u32 ((getP ((putP (⟨0, 1, 1, 1, 1, 1, ByteArray.empty, 0, 0, ByteArray.empty, 0, 0, []⟩ : CallS)).1)).1.ino), .int .u32 ((getP ((putP (⟨0, 1, 1, 1, 1, 1, ByteArray.empty, 0, 0, ByteArray.empty, 0, 0, []⟩ : CallS)).1)).1.gen), .string ((getP ((putP (⟨0, 1, 1, 1, 1, 1, ByteArray.empty, 0, 0, ByteArray.empty, 0, 0, []⟩ : CallS)).1)).1.name), .int .u32 ((getP ((putP (⟨0, 1, 1, 1, 1, 1, ByteArray.empty, 0, 0, ByteArray.empty, 0, 0, []⟩ : CallS)).1)).1.toIno), .int .u32 ((getP ((putP (⟨0, 1, 1, 1, 1, 1, ByteArray.empty, 0, 0, ByteArray.empty, 0, 0, []⟩ : CallS)).1)).1.toGen), .string ((getP ((putP (⟨0, 1, 1, 1, 1, 1, ByteArray.empty, 0, 0, ByteArray.empty, 0, 0, []⟩ : CallS)).1)).1.toName), .int .u32 ((getP ((putP (⟨0, 1, 1, 1, 1, 1, ByteArray.empty, 0, 0, ByteArray.empty, 0, 0, []⟩ : CallS)).1)).1.off), .int .u32 ((getP ((putP (⟨0, 1, 1, 1, 1, 1, ByteArray.empty, 0, 0, ByteArray.empty, 0, 0, []⟩ : CallS)).1)).1.size), .slice X_4 ((getP ((putP (⟨0, 1, 1, 1, 1, 1, ByteArray.empty, 0, 0, ByteArray.empty, 0, 0, []⟩ : CallS)).1)).1.data.length) x_4], .int .i64 ((getP ((putP (⟨0, 1, 1, 1, 1, 1, ByteArray.empty, 0, 0, ByteArray.empty, 0, 0, []⟩ : CallS)).1)).2)])] H (by kernel_rfl) fun a H => ?_
  refine st_op 5 2 (op_new (d := 7) (vf := fun b => .pointer (some ⟨b, 0, none⟩)) (ob := .cells #[.int .u8 0, .int .u32 0, .int .u64 0, .int .u8 0, .int .u32 0, .int .u32 0, .string ByteArray.empty, .int .u32 0, .int .u32 0, .string ByteArray.empty, .int .u32 0, .int .u32 0, .slice none 0 0] 28) H (IsNew.of_run rfl fun w => (by kernel_rfl)) fun a w b2 H => ?_)
  refine st_op 6 1 (op_store (k := 0) (t := 28) (off := 0) (v := .agg #[.int .u8 ((getP ((putP (⟨0, 1, 1, 1, 1, 1, ByteArray.empty, 0, 0, ByteArray.empty, 0, 0, []⟩ : CallS)).1)).1.client), .int .u32 ((getP ((putP (⟨0, 1, 1, 1, 1, 1, ByteArray.empty, 0, 0, ByteArray.empty, 0, 0, []⟩ : CallS)).1)).1.inc), .int .u64 ((getP ((putP (⟨0, 1, 1, 1, 1, 1, ByteArray.empty, 0, 0, ByteArray.empty, 0, 0, []⟩ : CallS)).1)).1.seq), .int .u8 ((getP ((putP (⟨0, 1, 1, 1, 1, 1, ByteArray.empty, 0, 0, ByteArray.empty, 0, 0, []⟩ : CallS)).1)).1.kind), .int .u32 ((getP ((putP (⟨0, 1, 1, 1, 1, 1, ByteArray.empty, 0, 0, ByteArray.empty, 0, 0, []⟩ : CallS)).1)).1.ino), .int .u32 ((getP ((putP (⟨0, 1, 1, 1, 1, 1, ByteArray.empty, 0, 0, ByteArray.empty, 0, 0, []⟩ : CallS)).1)).1.gen), .string ((getP ((putP (⟨0, 1, 1, 1, 1, 1, ByteArray.empty, 0, 0, ByteArray.empty, 0, 0, []⟩ : CallS)).1)).1.name), .int .u32 ((getP ((putP (⟨0, 1, 1, 1, 1, 1, ByteArray.empty, 0, 0, ByteArray.empty, 0, 0, []⟩ : CallS)).1)).1.toIno), .int .u32 ((getP ((putP (⟨0, 1, 1, 1, 1, 1, ByteArray.empty, 0, 0, ByteArray.empty, 0, 0, []⟩ : CallS)).1)).1.toGen), .string ((getP ((putP (⟨0, 1, 1, 1, 1, 1, ByteArray.empty, 0, 0, ByteArray.empty, 0, 0, []⟩ : CallS)).1)).1.toName), .int .u32 ((getP ((putP (⟨0, 1, 1, 1, 1, 1, ByteArray.empty, 0, 0, ByteArray.empty, 0, 0, []⟩ : CallS)).1)).1.off), .int .u32 ((getP ((putP (⟨0, 1, 1, 1, 1, 1, ByteArray.empty, 0, 0, ByteArray.empty, 0, 0, []⟩ : CallS)).1)).1.size), .slice X_4 ((getP ((putP (⟨0, 1, 1, 1, 1, 1, ByteArray.empty, 0, 0, ByteArray.empty, 0, 0, []⟩ : CallS)).1)).1.data.length) x_4]) H rfl (by kernel_rfl) (by kernel_rfl) fun a w H => ?_)
  refine st_run 7 1 0 [(8, .int .i64 ((getP ((putP (⟨0, 1, 1, 1, 1, 1, ByteArray.empty, 0, 0, ByteArray.empty, 0, 0, []⟩ : CallS)).1)).2))] H (by kernel_rfl) fun a H => ?_
  refine ops_end _ ?_
  refine WK.seq ?_
  refine st_text 25 rfl ?_
  refine st_run 0 3 22 [(44, .bool ((((getP (((putP (⟨0, 1, 1, 1, 1, 1, ByteArray.empty, 0, 0, ByteArray.empty, 0, 0, []⟩ : CallS)).1).take 27)).2) : Int) == 4)), (43, .bool ((((getP (((putP (⟨0, 1, 1, 1, 1, 1, ByteArray.empty, 0, 0, ByteArray.empty, 0, 0, []⟩ : CallS)).1).take 27)).2) : Int) == 4)), (42, .int .i64 ((getP (((putP (⟨0, 1, 1, 1, 1, 1, ByteArray.empty, 0, 0, ByteArray.empty, 0, 0, []⟩ : CallS)).1).take 27)).2))] H (by kernel_rfl) fun a H => ?_
  have hk4 : ((((getP (((putP (⟨0, 1, 1, 1, 1, 1, ByteArray.empty, 0, 0, ByteArray.empty, 0, 0, []⟩ : CallS)).1).take 27)).2) : Int) == 4) = true := by kernel_rfl
  have H := H.also (d := 44) (u := .bool ((((getP (((putP (⟨0, 1, 1, 1, 1, 1, ByteArray.empty, 0, 0, ByteArray.empty, 0, 0, []⟩ : CallS)).1).take 27)).2) : Int) == 4)) (v := .bool true) (by kernel_rfl) (congrArg Value.bool (hk4))
  refine st_run 3 4 18 [(48, .bool ((((getP ((putP (⟨0, 1, 1, 1, 1, 1, ByteArray.empty, 0, 0, ByteArray.empty, 0, 0, []⟩ : CallS)).1)).2) : Int) == 0)), (47, .bool ((((getP ((putP (⟨0, 1, 1, 1, 1, 1, ByteArray.empty, 0, 0, ByteArray.empty, 0, 0, []⟩ : CallS)).1)).2) : Int) == 0)), (46, .bool ((((getP ((putP (⟨0, 1, 1, 1, 1, 1, ByteArray.empty, 0, 0, ByteArray.empty, 0, 0, []⟩ : CallS)).1)).2) : Int) == 0)), (45, .int .i64 ((getP ((putP (⟨0, 1, 1, 1, 1, 1, ByteArray.empty, 0, 0, ByteArray.empty, 0, 0, []⟩ : CallS)).1)).2))] H (by kernel_rfl) fun a H => ?_
  have hk5 : ((((getP ((putP (⟨0, 1, 1, 1, 1, 1, ByteArray.empty, 0, 0, ByteArray.empty, 0, 0, []⟩ : CallS)).1)).2) : Int) == 0) = true := by kernel_rfl
  have H := H.also (d := 48) (u := .bool ((((getP ((putP (⟨0, 1, 1, 1, 1, 1, ByteArray.empty, 0, 0, ByteArray.empty, 0, 0, []⟩ : CallS)).1)).2) : Int) == 0)) (v := .bool true) (by kernel_rfl) (congrArg Value.bool (hk5))
  refine st_run 7 1 17 [(49, .pointer (some ⟨b2, 3, none⟩))] H (by kernel_rfl) fun a H => ?_
  refine st_op 8 16 (op_val (d := 50) (v := .int .u8 ((getP ((putP (⟨0, 1, 1, 1, 1, 1, ByteArray.empty, 0, 0, ByteArray.empty, 0, 0, []⟩ : CallS)).1)).1.kind)) H (val_ld (k := 0) (t := 5) (off := 3) rfl (by kernel_rfl) rfl (by kernel_rfl)) fun a H => ?_)
  refine st_run 9 3 13 [(53, .bool ((((getP ((putP (⟨0, 1, 1, 1, 1, 1, ByteArray.empty, 0, 0, ByteArray.empty, 0, 0, []⟩ : CallS)).1)).1.kind) : Int) == 1)), (52, .bool ((((getP ((putP (⟨0, 1, 1, 1, 1, 1, ByteArray.empty, 0, 0, ByteArray.empty, 0, 0, []⟩ : CallS)).1)).1.kind) : Int) == 1)), (51, .bool ((((getP ((putP (⟨0, 1, 1, 1, 1, 1, ByteArray.empty, 0, 0, ByteArray.empty, 0, 0, []⟩ : CallS)).1)).1.kind) : Int) == 1))] H (by kernel_rfl) fun a H => ?_
  have hk6 : ((((getP ((putP (⟨0, 1, 1, 1, 1, 1, ByteArray.empty, 0, 0, ByteArray.empty, 0, 0, []⟩ : CallS)).1)).1.kind) : Int) == 1) = true := by kernel_rfl
  have H := H.also (d := 53) (u := .bool ((((getP ((putP (⟨0, 1, 1, 1, 1, 1, ByteArray.empty, 0, 0, ByteArray.empty, 0, 0, []⟩ : CallS)).1)).1.kind) : Int) == 1)) (v := .bool true) (by kernel_rfl) (congrArg Value.bool (hk6))
  refine st_run 12 2 11 [(55, .pointer (some ⟨b2, 5, none⟩)), (54, .pointer (some ⟨b2, 4, none⟩))] H (by kernel_rfl) fun a H => ?_
  refine st_op 14 10 (op_val (d := 56) (v := .int .u32 ((getP ((putP (⟨0, 1, 1, 1, 1, 1, ByteArray.empty, 0, 0, ByteArray.empty, 0, 0, []⟩ : CallS)).1)).1.gen)) H (val_ld (k := 0) (t := 22) (off := 5) rfl (by kernel_rfl) rfl (by kernel_rfl)) fun a H => ?_)
  refine st_run 15 3 7 [(59, .bool ((((getP ((putP (⟨0, 1, 1, 1, 1, 1, ByteArray.empty, 0, 0, ByteArray.empty, 0, 0, []⟩ : CallS)).1)).1.gen) : Int) == 1)), (58, .bool ((((getP ((putP (⟨0, 1, 1, 1, 1, 1, ByteArray.empty, 0, 0, ByteArray.empty, 0, 0, []⟩ : CallS)).1)).1.gen) : Int) == 1)), (57, .bool ((((getP ((putP (⟨0, 1, 1, 1, 1, 1, ByteArray.empty, 0, 0, ByteArray.empty, 0, 0, []⟩ : CallS)).1)).1.gen) : Int) == 1))] H (by kernel_rfl) fun a H => ?_
  have hk7 : ((((getP ((putP (⟨0, 1, 1, 1, 1, 1, ByteArray.empty, 0, 0, ByteArray.empty, 0, 0, []⟩ : CallS)).1)).1.gen) : Int) == 1) = true := by kernel_rfl
  have H := H.also (d := 59) (u := .bool ((((getP ((putP (⟨0, 1, 1, 1, 1, 1, ByteArray.empty, 0, 0, ByteArray.empty, 0, 0, []⟩ : CallS)).1)).1.gen) : Int) == 1)) (v := .bool true) (by kernel_rfl) (congrArg Value.bool (hk7))
  refine st_op 18 6 (op_call (d := 60) H (by kernel_rfl) rfl (call_changes 6 H.sat) fun a v w q F => ?_)
  obtain ⟨rfl, X⟩ := q
  have H := St.mk F X
  refine st_run 19 2 4 [(62, .bool (changesP 6)), (61, .bool (changesP 6))] H (by kernel_rfl) fun a H => ?_
  have hk8 : (changesP 6) = true := by kernel_rfl
  have H := H.also (d := 62) (u := .bool (changesP 6)) (v := .bool true) (by kernel_rfl) (congrArg Value.bool (hk8))
  refine st_op 21 3 (op_call (d := 63) H (by kernel_rfl) rfl (call_changes 4 H.sat) fun a v w q F => ?_)
  obtain ⟨rfl, X⟩ := q
  have H := St.mk F X
  refine st_run 22 3 0 [(0, .bool (!(changesP 4))), (65, .bool (!(changesP 4))), (64, .bool (!(changesP 4)))] H (by kernel_rfl) fun a H => ?_
  refine ops_end _ ?_
  refine st_ret (vs := [.bool (!(changesP 4))]) H Tryd.func10 rfl (.tmp (by kernel_rfl) (.nil)) ?_
  have X := (H.sat.msk [false, false, false])
  exact ⟨R5, hleR5, rfl, X⟩

/-- wharfage/wharfagelaw10.CallOne -/
theorem call_one {e w : World} {R : Hp} {L : List HP} (c : CallS) (A : Option Addr) (k : Nat) (n : Int) (s : ByteArray) (wf : c.Wf) (hd : RdB R A k c.data) (hT : Tabs 0 1 R) (hn : 0 ≤ n ∧ n ≤ 4294967295) (X : Sat e w R (L)) :
    Calls Tryd.prog 3 #[.agg #[.int .u8 c.client, .int .u32 c.inc, .int .u64 c.seq, .int .u8 c.kind, .int .u32 c.ino, .int .u32 c.gen, .string c.name, .int .u32 c.toIno, .int .u32 c.toGen, .string c.toName, .int .u32 c.off, .int .u32 c.size, .slice A c.data.length k], .int .u32 n, .string s] w (Ret fun v w' => ∃ R', R.Le R' ∧ v = .bool true ∧ Sat e w' R' (L)) := by
  have wf' := wf
  obtain ⟨w1, w2, w3, w4, w5, w6, w7, w8, w9, w10⟩ := wf
  refine enter (n := 110) (args := [.agg #[.int .u8 c.client, .int .u32 c.inc, .int .u64 c.seq, .int .u8 c.kind, .int .u32 c.ino, .int .u32 c.gen, .string c.name, .int .u32 c.toIno, .int .u32 c.toGen, .string c.toName, .int .u32 c.off, .int .u32 c.size, .slice A c.data.length k], .int .u32 n, .string s]) Tryd.func3 rfl rfl rfl X (fun a H => ?_)
  refine WK.seq ?_
  refine st_text 2 rfl ?_
  refine st_op 0 1 (op_new (d := 3) (vf := fun b => .pointer (some ⟨b, 0, none⟩)) (ob := .cells #[.int .u8 c.client, .int .u32 c.inc, .int .u64 c.seq, .int .u8 c.kind, .int .u32 c.ino, .int .u32 c.gen, .string c.name, .int .u32 c.toIno, .int .u32 c.toGen, .string c.toName, .int .u32 c.off, .int .u32 c.size, .slice A c.data.length k] 28) H (IsNew.of_run rfl fun w => (by kernel_rfl)) fun a w b1 H => ?_)
  refine st_run 1 1 0 [(6, .bool false)] H (by kernel_rfl) fun a H => ?_
  refine ops_end _ ?_
  refine WK.seq ?_
  refine WK.seq ?_
  refine st_text 11 rfl ?_
  refine st_op 0 10 (op_val (d := 15) (v := .agg #[.int .u8 c.client, .int .u32 c.inc, .int .u64 c.seq, .int .u8 c.kind, .int .u32 c.ino, .int .u32 c.gen, .string c.name, .int .u32 c.toIno, .int .u32 c.toGen, .string c.toName, .int .u32 c.off, .int .u32 c.size, .slice A c.data.length k]) H (val_ld (k := 0) (t := 28) (off := 0) rfl (by kernel_rfl) rfl (by kernel_rfl)) fun a H => ?_)
  refine st_op 1 9 (op_call (d := 16) H (by kernel_rfl) rfl (call_may c A k (by first | assumption | exact ⟨w1, w2, w3, w4, w5, w6, w7, w8, w9, w10⟩ | exact ⟨w1, w2, w3, w4, w5, w6, hn, w8, w9, w10⟩ | exact ⟨w1, w2, w3, w4, w5, w6, w7, w8, hn, w10⟩ | exact ⟨w1, w2, w3, w4, w5, w6, w7, w8, w9, hn⟩) (by first | assumption | omega) (by first | assumption | omega) H.sat) fun a v w q F => ?_)
  obtain ⟨R1, hle, rfl, X⟩ := q
  have H := St.mk F X
  have hd := hd.grow hle
  have hT := hT.grow hle
  have hleR1 := hle
  refine st_run 2 2 7 [(18, .bool (!(mayP c))), (17, .bool (!(mayP c)))] H (by kernel_rfl) fun a H => ?_
  rcases Bool.eq_false_or_eq_true (!(mayP c)) with hg1 | hg1
  · skip
    have H := H.also (d := 18) (u := .bool (!(mayP c))) (v := .bool true) (by kernel_rfl) (congrArg Value.bool (hg1))
    have hg1n := notT hg1
    refine st_run 4 7 0 [(25, .bool true), (24, undef), (23, undef), (22, .bool true), (21, .bool true), (20, undef), (19, undef)] H (by kernel_rfl) fun a H => ?_
    refine ops_end _ ?_
    refine st_true H (by kernel_rfl) ?_
    refine WK.seq ?_
    refine st_text 2 rfl ?_
    refine st_op 0 1 (op_call (d := 26) H (by kernel_rfl) rfl (law10_lives (by first | assumption | omega) H.sat) fun a v w q F => ?_)
    obtain ⟨R2, hle, rfl, X⟩ := q
    have H := St.mk F X
    have hd := hd.grow hle
    have hT := hT.grow hle
    have hleR2 := hleR1.trans hle
    refine st_run 1 1 0 [(6, .bool true)] H (by kernel_rfl) fun a H => ?_
    refine ops_end _ ?_
    refine st_ret (vs := [.bool true]) H Tryd.func3 rfl (.tmp (by kernel_rfl) (.nil)) ?_
    have X := (H.sat.msk [false])
    exact ⟨R2, hleR2, rfl, X⟩
  · skip
    have H := H.also (d := 18) (u := .bool (!(mayP c))) (v := .bool false) (by kernel_rfl) (congrArg Value.bool (hg1))
    have hg1n := notF hg1
    refine st_run 4 4 3 [(22, .bool ((n : Int) == 0)), (21, .bool ((n : Int) == 0)), (20, .bool ((n : Int) == 0)), (19, .int .u32 n)] H (by kernel_rfl) fun a H => ?_
    rcases Bool.eq_false_or_eq_true ((n : Int) == 0) with hg2 | hg2
    · skip
      have H := H.also (d := 22) (u := .bool ((n : Int) == 0)) (v := .bool true) (by kernel_rfl) (congrArg Value.bool (hg2))
      have hg2' := eq_of_beq hg2
      refine st_run 8 3 0 [(25, .bool true), (24, undef), (23, undef)] H (by kernel_rfl) fun a H => ?_
      refine ops_end _ ?_
      refine st_true H (by kernel_rfl) ?_
      refine WK.seq ?_
      refine st_text 2 rfl ?_
      refine st_op 0 1 (op_call (d := 26) H (by kernel_rfl) rfl (law10_lives (by first | assumption | omega) H.sat) fun a v w q F => ?_)
      obtain ⟨R3, hle, rfl, X⟩ := q
      have H := St.mk F X
      have hd := hd.grow hle
      have hT := hT.grow hle
      have hleR3 := hleR1.trans hle
      refine st_run 1 1 0 [(6, .bool true)] H (by kernel_rfl) fun a H => ?_
      refine ops_end _ ?_
      refine st_ret (vs := [.bool true]) H Tryd.func3 rfl (.tmp (by kernel_rfl) (.nil)) ?_
      have X := (H.sat.msk [false])
      exact ⟨R3, hleR3, rfl, X⟩
    · skip
      have H := H.also (d := 22) (u := .bool ((n : Int) == 0)) (v := .bool false) (by kernel_rfl) (congrArg Value.bool (hg2))
      have hg2' := neB hg2
      refine st_run 8 3 0 [(25, .bool (s.toList == (⟨#[]⟩ : ByteArray).toList)), (24, .bool (s.toList == (⟨#[]⟩ : ByteArray).toList)), (23, .string s)] H (by kernel_rfl) fun a H => ?_
      refine ops_end _ ?_
      refine st_cond ((s.toList == (⟨#[]⟩ : ByteArray).toList)) H (by kernel_rfl) ?_ ?_
      · intro hc1
        refine WK.seq ?_
        refine st_text 2 rfl ?_
        refine st_op 0 1 (op_call (d := 26) H (by kernel_rfl) rfl (law10_lives (by first | assumption | omega) H.sat) fun a v w q F => ?_)
        obtain ⟨R4, hle, rfl, X⟩ := q
        have H := St.mk F X
        have hd := hd.grow hle
        have hT := hT.grow hle
        have hleR4 := hleR1.trans hle
        refine st_run 1 1 0 [(6, .bool true)] H (by kernel_rfl) fun a H => ?_
        refine ops_end _ ?_
        refine st_ret (vs := [.bool true]) H Tryd.func3 rfl (.tmp (by kernel_rfl) (.nil)) ?_
        have X := (H.sat.msk [false])
        exact ⟨R4, hleR4, rfl, X⟩
      · intro hc1
        refine WK.skip ?_
        refine WK.seq ?_
        refine st_text 9 rfl ?_
        refine st_run 0 1 8 [(27, .pointer (some ⟨b1, 3, none⟩))] H (by kernel_rfl) fun a H => ?_
        refine st_op 1 7 (op_val (d := 28) (v := .int .u8 c.kind) H (val_ld (k := 0) (t := 5) (off := 3) rfl (by kernel_rfl) rfl (by kernel_rfl)) fun a H => ?_)
        refine st_run 2 2 5 [(30, .bool ((c.kind : Int) == 2)), (29, .bool ((c.kind : Int) == 2))] H (by kernel_rfl) fun a H => ?_
        rcases Bool.eq_false_or_eq_true ((c.kind : Int) == 2) with hg3 | hg3
        · skip
          have H := H.also (d := 30) (u := .bool ((c.kind : Int) == 2)) (v := .bool true) (by kernel_rfl) (congrArg Value.bool (hg3))
          have hg3' := eq_of_beq hg3
          refine st_run 4 5 0 [(7, .bool true), (34, .bool true), (33, undef), (32, undef), (31, undef)] H (by kernel_rfl) fun a H => ?_
          refine ops_end _ ?_
          refine WK.seq ?_
          refine st_text 9 rfl ?_
          refine st_run 0 1 8 [(35, .pointer (some ⟨b1, 3, none⟩))] H (by kernel_rfl) fun a H => ?_
          refine st_op 1 7 (op_val (d := 36) (v := .int .u8 c.kind) H (val_ld (k := 0) (t := 5) (off := 3) rfl (by kernel_rfl) rfl (by kernel_rfl)) fun a H => ?_)
          refine st_run 2 2 5 [(38, .bool ((c.kind : Int) == 4)), (37, .bool ((c.kind : Int) == 4))] H (by kernel_rfl) fun a H => ?_
          have hk1 : ((c.kind : Int) == 4) = false := by rw [eq_of_beq hg3]; rfl
          have H := H.also (d := 38) (u := .bool ((c.kind : Int) == 4)) (v := .bool false) (by kernel_rfl) (congrArg Value.bool (hk1))
          refine st_run 4 1 4 [(39, .pointer (some ⟨b1, 3, none⟩))] H (by kernel_rfl) fun a H => ?_
          refine st_op 5 3 (op_val (d := 40) (v := .int .u8 c.kind) H (val_ld (k := 0) (t := 5) (off := 3) rfl (by kernel_rfl) rfl (by kernel_rfl)) fun a H => ?_)
          refine st_run 6 3 0 [(8, .bool ((c.kind : Int) == 5)), (42, .bool ((c.kind : Int) == 5)), (41, .bool ((c.kind : Int) == 5))] H (by kernel_rfl) fun a H => ?_
          refine ops_end _ ?_
          refine WK.seq ?_
          refine st_text 14 rfl ?_
          refine st_run 0 1 13 [(43, .pointer (some ⟨b1, 3, none⟩))] H (by kernel_rfl) fun a H => ?_
          refine st_op 1 12 (op_val (d := 44) (v := .int .u8 c.kind) H (val_ld (k := 0) (t := 5) (off := 3) rfl (by kernel_rfl) rfl (by kernel_rfl)) fun a H => ?_)
          refine st_run 2 2 10 [(46, .bool ((c.kind : Int) == 3)), (45, .bool ((c.kind : Int) == 3))] H (by kernel_rfl) fun a H => ?_
          have hk2 : ((c.kind : Int) == 3) = false := by rw [eq_of_beq hg3]; rfl
          have H := H.also (d := 46) (u := .bool ((c.kind : Int) == 3)) (v := .bool false) (by kernel_rfl) (congrArg Value.bool (hk2))
          refine st_run 4 1 9 [(47, .pointer (some ⟨b1, 3, none⟩))] H (by kernel_rfl) fun a H => ?_
          refine st_op 5 8 (op_val (d := 48) (v := .int .u8 c.kind) H (val_ld (k := 0) (t := 5) (off := 3) rfl (by kernel_rfl) rfl (by kernel_rfl)) fun a H => ?_)
          refine st_run 6 2 6 [(50, .bool (decide ((c.kind : Int) ≥ 7))), (49, .bool (decide ((c.kind : Int) ≥ 7)))] H (by kernel_rfl) fun a H => ?_
          have hk3 : (decide ((c.kind : Int) ≥ 7)) = false := by rw [eq_of_beq hg3]; rfl
          have H := H.also (d := 50) (u := .bool (decide ((c.kind : Int) ≥ 7))) (v := .bool false) (by kernel_rfl) (congrArg Value.bool (hk3))
          refine st_run 8 6 0 [(9, .bool false), (55, .bool false), (54, .bool false), (53, undef), (52, undef), (51, undef)] H (by kernel_rfl) fun a H => ?_
          refine ops_end _ ?_
          refine WK.seq ?_
          refine st_floatsM [true] [.tk 0, .tk 1, .tk 2, .tk 3, .tk 4, .dc 5, .dc 6, .dc 7, .dc 8, .dc 9, .fl 5 4, .fl 6 3, .fl 7 2, .fl 8 1, .fl 9 0, .op 10, .op 11, .op 12, .op 13, .op 14] rfl (by kernel_rfl) (by kernel_rfl) (by kernel_rfl) H ?_
          refine z_tk 0 (d := 56) (.agg #[.int .u8 c.client, .int .u32 c.inc, .int .u64 c.seq, .int .u8 c.kind, .int .u32 c.ino, .int .u32 c.gen, .string c.name, .int .u32 c.toIno, .int .u32 c.toGen, .string c.toName, .int .u32 c.off, .int .u32 c.size, .slice A c.data.length k]) (val_ld (k := 0) (t := 28) (off := 0) rfl (by kernel_rfl) rfl (by kernel_rfl)) (by kernel_rfl) ?_
          refine z_tk 1 (d := 57) (.agg #[.int .u8 c.client, .int .u32 c.inc, .int .u64 c.seq, .int .u8 c.kind, .int .u32 c.ino, .int .u32 c.gen, .string c.name, .int .u32 c.toIno, .int .u32 c.toGen, .string c.toName, .int .u32 c.off, .int .u32 c.size, .slice A c.data.length k]) (val_ld (k := 0) (t := 28) (off := 0) rfl (by kernel_rfl) rfl (by kernel_rfl)) (by kernel_rfl) ?_
          refine z_tk 2 (d := 58) (.agg #[.int .u8 c.client, .int .u32 c.inc, .int .u64 c.seq, .int .u8 c.kind, .int .u32 c.ino, .int .u32 c.gen, .string c.name, .int .u32 c.toIno, .int .u32 c.toGen, .string c.toName, .int .u32 c.off, .int .u32 c.size, .slice A c.data.length k]) (val_ld (k := 0) (t := 28) (off := 0) rfl (by kernel_rfl) rfl (by kernel_rfl)) (by kernel_rfl) ?_
          refine z_tk 3 (d := 59) (.agg #[.int .u8 c.client, .int .u32 c.inc, .int .u64 c.seq, .int .u8 c.kind, .int .u32 c.ino, .int .u32 c.gen, .string c.name, .int .u32 c.toIno, .int .u32 c.toGen, .string c.toName, .int .u32 c.off, .int .u32 c.size, .slice A c.data.length k]) (val_ld (k := 0) (t := 28) (off := 0) rfl (by kernel_rfl) rfl (by kernel_rfl)) (by kernel_rfl) ?_
          refine z_tk 4 (d := 60) (.agg #[.int .u8 c.client, .int .u32 c.inc, .int .u64 c.seq, .int .u8 c.kind, .int .u32 c.ino, .int .u32 c.gen, .string c.name, .int .u32 c.toIno, .int .u32 c.toGen, .string c.toName, .int .u32 c.off, .int .u32 c.size, .slice A c.data.length k]) (val_ld (k := 0) (t := 28) (off := 0) rfl (by kernel_rfl) rfl (by kernel_rfl)) (by kernel_rfl) ?_
          refine z_dc 5 (d := 10) (fun b => .pointer (some ⟨b, 0, none⟩)) (.cells #[.int .u8 0, .int .u32 0, .int .u64 0, .int .u8 0, .int .u32 0, .int .u32 0, .string ByteArray.empty, .int .u32 0, .int .u32 0, .string ByteArray.empty, .int .u32 0, .int .u32 0, .slice none 0 0] 28) (IsNew.of_run rfl fun w => (by kernel_rfl)) (by kernel_rfl) ?_
          refine z_dc 6 (d := 11) (fun b => .pointer (some ⟨b, 0, none⟩)) (.cells #[.int .u8 0, .int .u32 0, .int .u64 0, .int .u8 0, .int .u32 0, .int .u32 0, .string ByteArray.empty, .int .u32 0, .int .u32 0, .string ByteArray.empty, .int .u32 0, .int .u32 0, .slice none 0 0] 28) (IsNew.of_run rfl fun w => (by kernel_rfl)) (by kernel_rfl) ?_
          refine z_dc 7 (d := 12) (fun b => .pointer (some ⟨b, 0, none⟩)) (.cells #[.int .u8 0, .int .u32 0, .int .u64 0, .int .u8 0, .int .u32 0, .int .u32 0, .string ByteArray.empty, .int .u32 0, .int .u32 0, .string ByteArray.empty, .int .u32 0, .int .u32 0, .slice none 0 0] 28) (IsNew.of_run rfl fun w => (by kernel_rfl)) (by kernel_rfl) ?_
          refine z_dc 8 (d := 13) (fun b => .pointer (some ⟨b, 0, none⟩)) (.cells #[.int .u8 0, .int .u32 0, .int .u64 0, .int .u8 0, .int .u32 0, .int .u32 0, .string ByteArray.empty, .int .u32 0, .int .u32 0, .string ByteArray.empty, .int .u32 0, .int .u32 0, .slice none 0 0] 28) (IsNew.of_run rfl fun w => (by kernel_rfl)) (by kernel_rfl) ?_
          refine z_dc 9 (d := 14) (fun b => .pointer (some ⟨b, 0, none⟩)) (.cells #[.int .u8 0, .int .u32 0, .int .u64 0, .int .u8 0, .int .u32 0, .int .u32 0, .string ByteArray.empty, .int .u32 0, .int .u32 0, .string ByteArray.empty, .int .u32 0, .int .u32 0, .slice none 0 0] 28) (IsNew.of_run rfl fun w => (by kernel_rfl)) (by kernel_rfl) ?_
          refine z_fl 4 rfl fun b2 => ⟨(by kernel_rfl), ?_⟩
          refine z_fl 3 rfl fun b3 => ⟨(by kernel_rfl), ?_⟩
          refine z_fl 2 rfl fun b4 => ⟨(by kernel_rfl), ?_⟩
          refine z_fl 1 rfl fun b5 => ⟨(by kernel_rfl), ?_⟩
          refine z_fl 0 rfl fun b6 => ⟨(by kernel_rfl), ?_⟩
          refine z_op 10 rfl fun a w Z H => ?_
          refine op_storeZ (k := 4) (t := 28) (off := 0) (v := .agg #[.int .u8 c.client, .int .u32 c.inc, .int .u64 c.seq, .int .u8 c.kind, .int .u32 c.ino, .int .u32 c.gen, .string c.name, .int .u32 c.toIno, .int .u32 c.toGen, .string c.toName, .int .u32 c.off, .int .u32 c.size, .slice A c.data.length k]) H rfl (by kernel_rfl) (by kernel_rfl) fun a w H => ?_
          refine z_on _ H (fun w Z X => X.mskZ [false, false, false, false, false, true] (by kernel_rfl)) (by kernel_rfl) ?_
          refine z_op 11 rfl fun a w Z H => ?_
          refine op_storeZ (k := 3) (t := 28) (off := 0) (v := .agg #[.int .u8 c.client, .int .u32 c.inc, .int .u64 c.seq, .int .u8 c.kind, .int .u32 c.ino, .int .u32 c.gen, .string c.name, .int .u32 c.toIno, .int .u32 c.toGen, .string c.toName, .int .u32 c.off, .int .u32 c.size, .slice A c.data.length k]) H rfl (by kernel_rfl) (by kernel_rfl) fun a w H => ?_
          refine z_on _ H (fun w Z X => X.mskZ [false, false, false, false, false, true] (by kernel_rfl)) (by kernel_rfl) ?_
          refine z_op 12 rfl fun a w Z H => ?_
          refine op_storeZ (k := 2) (t := 28) (off := 0) (v := .agg #[.int .u8 c.client, .int .u32 c.inc, .int .u64 c.seq, .int .u8 c.kind, .int .u32 c.ino, .int .u32 c.gen, .string c.name, .int .u32 c.toIno, .int .u32 c.toGen, .string c.toName, .int .u32 c.off, .int .u32 c.size, .slice A c.data.length k]) H rfl (by kernel_rfl) (by kernel_rfl) fun a w H => ?_
          refine z_on _ H (fun w Z X => X.mskZ [false, false, false, false, false, true] (by kernel_rfl)) (by kernel_rfl) ?_
          refine z_op 13 rfl fun a w Z H => ?_
          refine op_storeZ (k := 1) (t := 28) (off := 0) (v := .agg #[.int .u8 c.client, .int .u32 c.inc, .int .u64 c.seq, .int .u8 c.kind, .int .u32 c.ino, .int .u32 c.gen, .string c.name, .int .u32 c.toIno, .int .u32 c.toGen, .string c.toName, .int .u32 c.off, .int .u32 c.size, .slice A c.data.length k]) H rfl (by kernel_rfl) (by kernel_rfl) fun a w H => ?_
          refine z_on _ H (fun w Z X => X.mskZ [false, false, false, false, false, true] (by kernel_rfl)) (by kernel_rfl) ?_
          refine z_op 14 rfl fun a w Z H => ?_
          refine op_storeZ (k := 0) (t := 28) (off := 0) (v := .agg #[.int .u8 c.client, .int .u32 c.inc, .int .u64 c.seq, .int .u8 c.kind, .int .u32 c.ino, .int .u32 c.gen, .string c.name, .int .u32 c.toIno, .int .u32 c.toGen, .string c.toName, .int .u32 c.off, .int .u32 c.size, .slice A c.data.length k]) H rfl (by kernel_rfl) (by kernel_rfl) fun a w H => ?_
          refine z_last _ H (by kernel_rfl) ?_
          refine z_end [] fun a w H => ?_
          refine WK.seq ?_
          refine st_text 3 rfl ?_
          refine st_run 0 2 1 [(62, .pointer (some ⟨b2, 11, none⟩)), (61, .int .u32 n)] H (by kernel_rfl) fun a H => ?_
          refine st_op 2 0 (op_store (k := 4) (t := 22) (off := 11) (v := .int .u32 n) H rfl (by kernel_rfl) (by kernel_rfl) fun a w H => ?_)
          refine ops_end _ ?_
          refine WK.seq ?_
          refine st_text 3 rfl ?_
          refine st_run 0 2 1 [(64, .pointer (some ⟨b3, 10, none⟩)), (63, .int .u32 n)] H (by kernel_rfl) fun a H => ?_
          refine st_op 2 0 (op_store (k := 3) (t := 22) (off := 10) (v := .int .u32 n) H rfl (by kernel_rfl) (by kernel_rfl) fun a w H => ?_)
          refine ops_end _ ?_
          refine WK.seq ?_
          refine st_text 3 rfl ?_
          refine st_run 0 2 1 [(66, .pointer (some ⟨b4, 6, none⟩)), (65, .string s)] H (by kernel_rfl) fun a H => ?_
          refine st_op 2 0 (op_store (k := 2) (t := 9) (off := 6) (v := .string s) H rfl (by kernel_rfl) (by kernel_rfl) fun a w H => ?_)
          refine ops_end _ ?_
          refine WK.seq ?_
          refine st_text 4 rfl ?_
          refine st_run 0 3 1 [(69, .pointer (some ⟨b5, 7, none⟩)), (68, .pointer (some ⟨b5, 7, none⟩)), (67, .int .u32 n)] H (by kernel_rfl) fun a H => ?_
          refine st_op 3 0 (op_store (k := 1) (t := 22) (off := 7) (v := .int .u32 n) H rfl (by kernel_rfl) (by kernel_rfl) fun a w H => ?_)
          refine ops_end _ ?_
          refine WK.seq ?_
          refine st_text 3 rfl ?_
          refine st_run 0 2 1 [(71, .pointer (some ⟨b6, 9, none⟩)), (70, .string s)] H (by kernel_rfl) fun a H => ?_
          refine st_op 2 0 (op_store (k := 0) (t := 9) (off := 9) (v := .string s) H rfl (by kernel_rfl) (by kernel_rfl) fun a w H => ?_)
          refine ops_end _ ?_
          refine WK.seq ?_
          refine WK.seq ?_
          refine st_text 22 rfl ?_
          refine st_run 0 10 12 [(81, .bool (!((c.kind : Int) == 5))), (80, .bool (!((c.kind : Int) == 5))), (79, .bool ((c.kind : Int) == 5)), (78, .bool false), (77, .bool false), (76, undef), (75, undef), (74, .bool false), (73, .bool false), (72, .bool true)] H (by kernel_rfl) fun a H => ?_
          have hk4 : ((c.kind : Int) == 5) = false := by rw [eq_of_beq hg3]; rfl
          have H := H.also (d := 81) (u := .bool (!((c.kind : Int) == 5))) (v := .bool true) (by kernel_rfl) (congrArg Value.bool (by simp only [hk4]; rfl))
          refine st_op 10 11 (op_val (d := 82) (v := .agg #[.int .u8 c.client, .int .u32 c.inc, .int .u64 c.seq, .int .u8 c.kind, .int .u32 c.ino, .int .u32 c.gen, .string c.name, .int .u32 c.toIno, .int .u32 c.toGen, .string c.toName, .int .u32 n, .int .u32 c.size, .slice A c.data.length k]) H (val_ld (k := 3) (t := 28) (off := 0) rfl (by kernel_rfl) rfl (by kernel_rfl)) fun a H => ?_)
          refine st_op 11 10 (op_call (d := 83) H (by kernel_rfl) rfl (call_may (⟨c.client, c.inc, c.seq, c.kind, c.ino, c.gen, c.name, c.toIno, c.toGen, c.toName, n, c.size, c.data⟩ : CallS) A k (by first | assumption | exact ⟨w1, w2, w3, w4, w5, w6, w7, w8, w9, w10⟩ | exact ⟨w1, w2, w3, w4, w5, w6, hn, w8, w9, w10⟩ | exact ⟨w1, w2, w3, w4, w5, w6, w7, w8, hn, w10⟩ | exact ⟨w1, w2, w3, w4, w5, w6, w7, w8, w9, hn⟩) (by first | assumption | omega) (by first | assumption | omega) H.sat) fun a v w q F => ?_)
          obtain ⟨R5, hle, rfl, X⟩ := q
          have H := St.mk F X
          have hd := hd.grow hle
          have hT := hT.grow hle
          have hleR5 := hleR1.trans hle
          refine st_run 12 3 7 [(86, .bool (mayP (⟨c.client, c.inc, c.seq, c.kind, c.ino, c.gen, c.name, c.toIno, c.toGen, c.toName, n, c.size, c.data⟩ : CallS))), (85, .bool (mayP (⟨c.client, c.inc, c.seq, c.kind, c.ino, c.gen, c.name, c.toIno, c.toGen, c.toName, n, c.size, c.data⟩ : CallS))), (84, .bool (mayP (⟨c.client, c.inc, c.seq, c.kind, c.ino, c.gen, c.name, c.toIno, c.toGen, c.toName, n, c.size, c.data⟩ : CallS)))] H (by kernel_rfl) fun a H => ?_
          rcases Bool.eq_false_or_eq_true (mayP (⟨c.client, c.inc, c.seq, c.kind, c.ino, c.gen, c.name, c.toIno, c.toGen, c.toName, n, c.size, c.data⟩ : CallS)) with hg4 | hg4
          · skip
            have H := H.also (d := 86) (u := .bool (mayP (⟨c.client, c.inc, c.seq, c.kind, c.ino, c.gen, c.name, c.toIno, c.toGen, c.toName, n, c.size, c.data⟩ : CallS))) (v := .bool true) (by kernel_rfl) (congrArg Value.bool (hg4))
            refine st_run 15 7 0 [(93, .bool true), (92, undef), (91, undef), (90, undef), (89, undef), (88, undef), (87, undef)] H (by kernel_rfl) fun a H => ?_
            refine ops_end _ ?_
            refine st_true H (by kernel_rfl) ?_
            refine WK.seq ?_
            refine st_text 1 rfl ?_
            refine st_run 0 1 0 [(6, .bool false)] H (by kernel_rfl) fun a H => ?_
            refine ops_end _ ?_
            refine st_ret (vs := [.bool false]) H Tryd.func3 rfl (.tmp (by kernel_rfl) (.nil)) ?_
            have hp_hg3 := eq_of_beq hg3
            have hp_hk1 := neB hk1
            have hp_hk2 := neB hk2
            have hp_hk3 := of_decide_eq_false hk3
            have hp_hk4 := neB hk4
            have hn0 : n ≠ 0 := neB hg2
            have hs0 := neB hc1
            exfalso
            have hx := one_off hg4 (by simp only; omega) (by simp only; omega)
            exact hn0 hx
          · skip
            have H := H.also (d := 86) (u := .bool (mayP (⟨c.client, c.inc, c.seq, c.kind, c.ino, c.gen, c.name, c.toIno, c.toGen, c.toName, n, c.size, c.data⟩ : CallS))) (v := .bool false) (by kernel_rfl) (congrArg Value.bool (hg4))
            refine st_run 15 3 4 [(89, .bool true), (88, .bool true), (87, .bool false)] H (by kernel_rfl) fun a H => ?_
            refine st_op 18 3 (op_val (d := 90) (v := .agg #[.int .u8 c.client, .int .u32 c.inc, .int .u64 c.seq, .int .u8 c.kind, .int .u32 c.ino, .int .u32 c.gen, .string s, .int .u32 c.toIno, .int .u32 c.toGen, .string c.toName, .int .u32 c.off, .int .u32 c.size, .slice A c.data.length k]) H (val_ld (k := 2) (t := 28) (off := 0) rfl (by kernel_rfl) rfl (by kernel_rfl)) fun a H => ?_)
            refine st_op 19 2 (op_call (d := 91) H (by kernel_rfl) rfl (call_may (⟨c.client, c.inc, c.seq, c.kind, c.ino, c.gen, s, c.toIno, c.toGen, c.toName, c.off, c.size, c.data⟩ : CallS) A k (by first | assumption | exact ⟨w1, w2, w3, w4, w5, w6, w7, w8, w9, w10⟩ | exact ⟨w1, w2, w3, w4, w5, w6, hn, w8, w9, w10⟩ | exact ⟨w1, w2, w3, w4, w5, w6, w7, w8, hn, w10⟩ | exact ⟨w1, w2, w3, w4, w5, w6, w7, w8, w9, hn⟩) (by first | assumption | omega) (by first | assumption | omega) H.sat) fun a v w q F => ?_)
            obtain ⟨R6, hle, rfl, X⟩ := q
            have H := St.mk F X
            have hd := hd.grow hle
            have hT := hT.grow hle
            have hleR6 := hleR5.trans hle
            refine st_run 20 2 0 [(93, .bool (mayP (⟨c.client, c.inc, c.seq, c.kind, c.ino, c.gen, s, c.toIno, c.toGen, c.toName, c.off, c.size, c.data⟩ : CallS))), (92, .bool (mayP (⟨c.client, c.inc, c.seq, c.kind, c.ino, c.gen, s, c.toIno, c.toGen, c.toName, c.off, c.size, c.data⟩ : CallS)))] H (by kernel_rfl) fun a H => ?_
            refine ops_end _ ?_
            refine st_cond (mayP (⟨c.client, c.inc, c.seq, c.kind, c.ino, c.gen, s, c.toIno, c.toGen, c.toName, c.off, c.size, c.data⟩ : CallS)) H (by kernel_rfl) ?_ ?_
            · intro hc2
              refine WK.seq ?_
              refine st_text 1 rfl ?_
              refine st_run 0 1 0 [(6, .bool false)] H (by kernel_rfl) fun a H => ?_
              refine ops_end _ ?_
              refine st_ret (vs := [.bool false]) H Tryd.func3 rfl (.tmp (by kernel_rfl) (.nil)) ?_
              have hp_hg3 := eq_of_beq hg3
              have hp_hk1 := neB hk1
              have hp_hk2 := neB hk2
              have hp_hk3 := of_decide_eq_false hk3
              have hp_hk4 := neB hk4
              have hn0 : n ≠ 0 := neB hg2
              have hs0 := neB hc1
              exfalso
              have hx := one_name hc2 (by simp only; omega) (by simp only; omega)
              exact hs0 (hx.trans (by kernel_rfl))
            · intro hc2
              refine WK.skip ?_
              refine WK.seq ?_
              refine st_text 17 rfl ?_
              refine st_run 0 1 16 [(94, .pointer (some ⟨b1, 3, none⟩))] H (by kernel_rfl) fun a H => ?_
              refine st_op 1 15 (op_val (d := 95) (v := .int .u8 c.kind) H (val_ld (k := 5) (t := 5) (off := 3) rfl (by kernel_rfl) rfl (by kernel_rfl)) fun a H => ?_)
              refine st_run 2 2 13 [(97, .bool ((c.kind : Int) == 11)), (96, .bool ((c.kind : Int) == 11))] H (by kernel_rfl) fun a H => ?_
              have hk5 : ((c.kind : Int) == 11) = false := by rw [eq_of_beq hg3]; rfl
              have H := H.also (d := 97) (u := .bool ((c.kind : Int) == 11)) (v := .bool false) (by kernel_rfl) (congrArg Value.bool (hk5))
              refine st_op 4 12 (op_val (d := 98) (v := .agg #[.int .u8 c.client, .int .u32 c.inc, .int .u64 c.seq, .int .u8 c.kind, .int .u32 c.ino, .int .u32 c.gen, .string c.name, .int .u32 n, .int .u32 c.toGen, .string c.toName, .int .u32 c.off, .int .u32 c.size, .slice A c.data.length k]) H (val_ld (k := 1) (t := 28) (off := 0) rfl (by kernel_rfl) rfl (by kernel_rfl)) fun a H => ?_)
              refine st_op 5 11 (op_call (d := 99) H (by kernel_rfl) rfl (call_may (⟨c.client, c.inc, c.seq, c.kind, c.ino, c.gen, c.name, n, c.toGen, c.toName, c.off, c.size, c.data⟩ : CallS) A k (by first | assumption | exact ⟨w1, w2, w3, w4, w5, w6, w7, w8, w9, w10⟩ | exact ⟨w1, w2, w3, w4, w5, w6, hn, w8, w9, w10⟩ | exact ⟨w1, w2, w3, w4, w5, w6, w7, w8, hn, w10⟩ | exact ⟨w1, w2, w3, w4, w5, w6, w7, w8, w9, hn⟩) (by first | assumption | omega) (by first | assumption | omega) H.sat) fun a v w q F => ?_)
              obtain ⟨R7, hle, rfl, X⟩ := q
              have H := St.mk F X
              have hd := hd.grow hle
              have hT := hT.grow hle
              have hleR7 := hleR6.trans hle
              refine st_run 6 2 9 [(101, .bool (!(mayP (⟨c.client, c.inc, c.seq, c.kind, c.ino, c.gen, c.name, n, c.toGen, c.toName, c.off, c.size, c.data⟩ : CallS)))), (100, .bool (!(mayP (⟨c.client, c.inc, c.seq, c.kind, c.ino, c.gen, c.name, n, c.toGen, c.toName, c.off, c.size, c.data⟩ : CallS))))] H (by kernel_rfl) fun a H => ?_
              rcases Bool.eq_false_or_eq_true (!(mayP (⟨c.client, c.inc, c.seq, c.kind, c.ino, c.gen, c.name, n, c.toGen, c.toName, c.off, c.size, c.data⟩ : CallS))) with hg5 | hg5
              · skip
                have H := H.also (d := 101) (u := .bool (!(mayP (⟨c.client, c.inc, c.seq, c.kind, c.ino, c.gen, c.name, n, c.toGen, c.toName, c.off, c.size, c.data⟩ : CallS)))) (v := .bool true) (by kernel_rfl) (congrArg Value.bool (hg5))
                have hg5n := notT hg5
                refine st_op 8 8 (op_val (d := 102) (v := .agg #[.int .u8 c.client, .int .u32 c.inc, .int .u64 c.seq, .int .u8 c.kind, .int .u32 c.ino, .int .u32 c.gen, .string c.name, .int .u32 c.toIno, .int .u32 c.toGen, .string s, .int .u32 c.off, .int .u32 c.size, .slice A c.data.length k]) H (val_ld (k := 0) (t := 28) (off := 0) rfl (by kernel_rfl) rfl (by kernel_rfl)) fun a H => ?_)
                refine st_op 9 7 (op_call (d := 103) H (by kernel_rfl) rfl (call_may (⟨c.client, c.inc, c.seq, c.kind, c.ino, c.gen, c.name, c.toIno, c.toGen, s, c.off, c.size, c.data⟩ : CallS) A k (by first | assumption | exact ⟨w1, w2, w3, w4, w5, w6, w7, w8, w9, w10⟩ | exact ⟨w1, w2, w3, w4, w5, w6, hn, w8, w9, w10⟩ | exact ⟨w1, w2, w3, w4, w5, w6, w7, w8, hn, w10⟩ | exact ⟨w1, w2, w3, w4, w5, w6, w7, w8, w9, hn⟩) (by first | assumption | omega) (by first | assumption | omega) H.sat) fun a v w q F => ?_)
                obtain ⟨R8, hle, rfl, X⟩ := q
                have H := St.mk F X
                have hd := hd.grow hle
                have hT := hT.grow hle
                have hleR8 := hleR7.trans hle
                refine st_run 10 4 3 [(107, .bool (!(mayP (⟨c.client, c.inc, c.seq, c.kind, c.ino, c.gen, c.name, c.toIno, c.toGen, s, c.off, c.size, c.data⟩ : CallS)))), (106, .bool (!(mayP (⟨c.client, c.inc, c.seq, c.kind, c.ino, c.gen, c.name, c.toIno, c.toGen, s, c.off, c.size, c.data⟩ : CallS)))), (105, .bool (!(mayP (⟨c.client, c.inc, c.seq, c.kind, c.ino, c.gen, c.name, c.toIno, c.toGen, s, c.off, c.size, c.data⟩ : CallS)))), (104, .bool (!(mayP (⟨c.client, c.inc, c.seq, c.kind, c.ino, c.gen, c.name, c.toIno, c.toGen, s, c.off, c.size, c.data⟩ : CallS))))] H (by kernel_rfl) fun a H => ?_
                rcases Bool.eq_false_or_eq_true (!(mayP (⟨c.client, c.inc, c.seq, c.kind, c.ino, c.gen, c.name, c.toIno, c.toGen, s, c.off, c.size, c.data⟩ : CallS))) with hg6 | hg6
                · skip
                  have H := H.also (d := 107) (u := .bool (!(mayP (⟨c.client, c.inc, c.seq, c.kind, c.ino, c.gen, c.name, c.toIno, c.toGen, s, c.off, c.size, c.data⟩ : CallS)))) (v := .bool true) (by kernel_rfl) (congrArg Value.bool (hg6))
                  have hg6n := notT hg6
                  refine st_op 14 2 (op_call (d := 108) H (by kernel_rfl) rfl (law10_lives (by first | assumption | omega) H.sat) fun a v w q F => ?_)
                  obtain ⟨R9, hle, rfl, X⟩ := q
                  have H := St.mk F X
                  have hd := hd.grow hle
                  have hT := hT.grow hle
                  have hleR9 := hleR8.trans hle
                  refine st_run 15 2 0 [(6, .bool true), (109, .bool true)] H (by kernel_rfl) fun a H => ?_
                  refine ops_end _ ?_
                  refine st_ret (vs := [.bool true]) H Tryd.func3 rfl (.tmp (by kernel_rfl) (.nil)) ?_
                  have X := (H.sat.msk [false, false, false, false, false, false])
                  exact ⟨R9, hleR9, rfl, X⟩
                · skip
                  have H := H.also (d := 107) (u := .bool (!(mayP (⟨c.client, c.inc, c.seq, c.kind, c.ino, c.gen, c.name, c.toIno, c.toGen, s, c.off, c.size, c.data⟩ : CallS)))) (v := .bool false) (by kernel_rfl) (congrArg Value.bool (hg6))
                  have hg6n := notF hg6
                  refine st_run 14 3 0 [(6, .bool false), (109, .bool false), (108, undef)] H (by kernel_rfl) fun a H => ?_
                  refine ops_end _ ?_
                  refine st_ret (vs := [.bool false]) H Tryd.func3 rfl (.tmp (by kernel_rfl) (.nil)) ?_
                  have hp_hg3 := eq_of_beq hg3
                  have hp_hk1 := neB hk1
                  have hp_hk2 := neB hk2
                  have hp_hk3 := of_decide_eq_false hk3
                  have hp_hk4 := neB hk4
                  have hp_hk5 := neB hk5
                  have hn0 : n ≠ 0 := neB hg2
                  have hs0 := neB hc1
                  exfalso
                  have hx := one_to hg6n (by simp only; omega)
                  exact hs0 (hx.2.trans (by kernel_rfl))
              · skip
                have H := H.also (d := 101) (u := .bool (!(mayP (⟨c.client, c.inc, c.seq, c.kind, c.ino, c.gen, c.name, n, c.toGen, c.toName, c.off, c.size, c.data⟩ : CallS)))) (v := .bool false) (by kernel_rfl) (congrArg Value.bool (hg5))
                have hg5n := notF hg5
                refine st_run 8 9 0 [(6, .bool false), (109, .bool false), (108, undef), (107, .bool false), (106, .bool false), (105, .bool false), (104, undef), (103, undef), (102, undef)] H (by kernel_rfl) fun a H => ?_
                refine ops_end _ ?_
                refine st_ret (vs := [.bool false]) H Tryd.func3 rfl (.tmp (by kernel_rfl) (.nil)) ?_
                have hp_hg3 := eq_of_beq hg3
                have hp_hk1 := neB hk1
                have hp_hk2 := neB hk2
                have hp_hk3 := of_decide_eq_false hk3
                have hp_hk4 := neB hk4
                have hp_hk5 := neB hk5
                have hn0 : n ≠ 0 := neB hg2
                have hs0 := neB hc1
                exfalso
                have hx := one_to hg5n (by simp only; omega)
                exact hn0 hx.1
        · skip
          have H := H.also (d := 30) (u := .bool ((c.kind : Int) == 2)) (v := .bool false) (by kernel_rfl) (congrArg Value.bool (hg3))
          have hg3' := neB hg3
          refine st_run 4 1 4 [(31, .pointer (some ⟨b1, 3, none⟩))] H (by kernel_rfl) fun a H => ?_
          refine st_op 5 3 (op_val (d := 32) (v := .int .u8 c.kind) H (val_ld (k := 0) (t := 5) (off := 3) rfl (by kernel_rfl) rfl (by kernel_rfl)) fun a H => ?_)
          refine st_run 6 3 0 [(7, .bool ((c.kind : Int) == 4)), (34, .bool ((c.kind : Int) == 4)), (33, .bool ((c.kind : Int) == 4))] H (by kernel_rfl) fun a H => ?_
          refine ops_end _ ?_
          refine WK.seq ?_
          refine st_text 9 rfl ?_
          refine st_run 0 1 8 [(35, .pointer (some ⟨b1, 3, none⟩))] H (by kernel_rfl) fun a H => ?_
          refine st_op 1 7 (op_val (d := 36) (v := .int .u8 c.kind) H (val_ld (k := 0) (t := 5) (off := 3) rfl (by kernel_rfl) rfl (by kernel_rfl)) fun a H => ?_)
          refine st_run 2 2 5 [(38, .bool ((c.kind : Int) == 4)), (37, .bool ((c.kind : Int) == 4))] H (by kernel_rfl) fun a H => ?_
          rcases Bool.eq_false_or_eq_true ((c.kind : Int) == 4) with hg7 | hg7
          · skip
            have H := H.also (d := 38) (u := .bool ((c.kind : Int) == 4)) (v := .bool true) (by kernel_rfl) (congrArg Value.bool (hg7))
            have hg7' := eq_of_beq hg7
            refine st_run 4 5 0 [(8, .bool true), (42, .bool true), (41, undef), (40, undef), (39, undef)] H (by kernel_rfl) fun a H => ?_
            refine ops_end _ ?_
            refine WK.seq ?_
            refine st_text 14 rfl ?_
            refine st_run 0 1 13 [(43, .pointer (some ⟨b1, 3, none⟩))] H (by kernel_rfl) fun a H => ?_
            refine st_op 1 12 (op_val (d := 44) (v := .int .u8 c.kind) H (val_ld (k := 0) (t := 5) (off := 3) rfl (by kernel_rfl) rfl (by kernel_rfl)) fun a H => ?_)
            refine st_run 2 2 10 [(46, .bool ((c.kind : Int) == 3)), (45, .bool ((c.kind : Int) == 3))] H (by kernel_rfl) fun a H => ?_
            have hk6 : ((c.kind : Int) == 3) = false := by rw [eq_of_beq hg7]; rfl
            have H := H.also (d := 46) (u := .bool ((c.kind : Int) == 3)) (v := .bool false) (by kernel_rfl) (congrArg Value.bool (hk6))
            refine st_run 4 1 9 [(47, .pointer (some ⟨b1, 3, none⟩))] H (by kernel_rfl) fun a H => ?_
            refine st_op 5 8 (op_val (d := 48) (v := .int .u8 c.kind) H (val_ld (k := 0) (t := 5) (off := 3) rfl (by kernel_rfl) rfl (by kernel_rfl)) fun a H => ?_)
            refine st_run 6 2 6 [(50, .bool (decide ((c.kind : Int) ≥ 7))), (49, .bool (decide ((c.kind : Int) ≥ 7)))] H (by kernel_rfl) fun a H => ?_
            have hk7 : (decide ((c.kind : Int) ≥ 7)) = false := by rw [eq_of_beq hg7]; rfl
            have H := H.also (d := 50) (u := .bool (decide ((c.kind : Int) ≥ 7))) (v := .bool false) (by kernel_rfl) (congrArg Value.bool (hk7))
            refine st_run 8 6 0 [(9, .bool false), (55, .bool false), (54, .bool false), (53, undef), (52, undef), (51, undef)] H (by kernel_rfl) fun a H => ?_
            refine ops_end _ ?_
            refine WK.seq ?_
            refine st_floatsM [true] [.tk 0, .tk 1, .tk 2, .tk 3, .tk 4, .dc 5, .dc 6, .dc 7, .dc 8, .dc 9, .fl 5 4, .fl 6 3, .fl 7 2, .fl 8 1, .fl 9 0, .op 10, .op 11, .op 12, .op 13, .op 14] rfl (by kernel_rfl) (by kernel_rfl) (by kernel_rfl) H ?_
            refine z_tk 0 (d := 56) (.agg #[.int .u8 c.client, .int .u32 c.inc, .int .u64 c.seq, .int .u8 c.kind, .int .u32 c.ino, .int .u32 c.gen, .string c.name, .int .u32 c.toIno, .int .u32 c.toGen, .string c.toName, .int .u32 c.off, .int .u32 c.size, .slice A c.data.length k]) (val_ld (k := 0) (t := 28) (off := 0) rfl (by kernel_rfl) rfl (by kernel_rfl)) (by kernel_rfl) ?_
            refine z_tk 1 (d := 57) (.agg #[.int .u8 c.client, .int .u32 c.inc, .int .u64 c.seq, .int .u8 c.kind, .int .u32 c.ino, .int .u32 c.gen, .string c.name, .int .u32 c.toIno, .int .u32 c.toGen, .string c.toName, .int .u32 c.off, .int .u32 c.size, .slice A c.data.length k]) (val_ld (k := 0) (t := 28) (off := 0) rfl (by kernel_rfl) rfl (by kernel_rfl)) (by kernel_rfl) ?_
            refine z_tk 2 (d := 58) (.agg #[.int .u8 c.client, .int .u32 c.inc, .int .u64 c.seq, .int .u8 c.kind, .int .u32 c.ino, .int .u32 c.gen, .string c.name, .int .u32 c.toIno, .int .u32 c.toGen, .string c.toName, .int .u32 c.off, .int .u32 c.size, .slice A c.data.length k]) (val_ld (k := 0) (t := 28) (off := 0) rfl (by kernel_rfl) rfl (by kernel_rfl)) (by kernel_rfl) ?_
            refine z_tk 3 (d := 59) (.agg #[.int .u8 c.client, .int .u32 c.inc, .int .u64 c.seq, .int .u8 c.kind, .int .u32 c.ino, .int .u32 c.gen, .string c.name, .int .u32 c.toIno, .int .u32 c.toGen, .string c.toName, .int .u32 c.off, .int .u32 c.size, .slice A c.data.length k]) (val_ld (k := 0) (t := 28) (off := 0) rfl (by kernel_rfl) rfl (by kernel_rfl)) (by kernel_rfl) ?_
            refine z_tk 4 (d := 60) (.agg #[.int .u8 c.client, .int .u32 c.inc, .int .u64 c.seq, .int .u8 c.kind, .int .u32 c.ino, .int .u32 c.gen, .string c.name, .int .u32 c.toIno, .int .u32 c.toGen, .string c.toName, .int .u32 c.off, .int .u32 c.size, .slice A c.data.length k]) (val_ld (k := 0) (t := 28) (off := 0) rfl (by kernel_rfl) rfl (by kernel_rfl)) (by kernel_rfl) ?_
            refine z_dc 5 (d := 10) (fun b => .pointer (some ⟨b, 0, none⟩)) (.cells #[.int .u8 0, .int .u32 0, .int .u64 0, .int .u8 0, .int .u32 0, .int .u32 0, .string ByteArray.empty, .int .u32 0, .int .u32 0, .string ByteArray.empty, .int .u32 0, .int .u32 0, .slice none 0 0] 28) (IsNew.of_run rfl fun w => (by kernel_rfl)) (by kernel_rfl) ?_
            refine z_dc 6 (d := 11) (fun b => .pointer (some ⟨b, 0, none⟩)) (.cells #[.int .u8 0, .int .u32 0, .int .u64 0, .int .u8 0, .int .u32 0, .int .u32 0, .string ByteArray.empty, .int .u32 0, .int .u32 0, .string ByteArray.empty, .int .u32 0, .int .u32 0, .slice none 0 0] 28) (IsNew.of_run rfl fun w => (by kernel_rfl)) (by kernel_rfl) ?_
            refine z_dc 7 (d := 12) (fun b => .pointer (some ⟨b, 0, none⟩)) (.cells #[.int .u8 0, .int .u32 0, .int .u64 0, .int .u8 0, .int .u32 0, .int .u32 0, .string ByteArray.empty, .int .u32 0, .int .u32 0, .string ByteArray.empty, .int .u32 0, .int .u32 0, .slice none 0 0] 28) (IsNew.of_run rfl fun w => (by kernel_rfl)) (by kernel_rfl) ?_
            refine z_dc 8 (d := 13) (fun b => .pointer (some ⟨b, 0, none⟩)) (.cells #[.int .u8 0, .int .u32 0, .int .u64 0, .int .u8 0, .int .u32 0, .int .u32 0, .string ByteArray.empty, .int .u32 0, .int .u32 0, .string ByteArray.empty, .int .u32 0, .int .u32 0, .slice none 0 0] 28) (IsNew.of_run rfl fun w => (by kernel_rfl)) (by kernel_rfl) ?_
            refine z_dc 9 (d := 14) (fun b => .pointer (some ⟨b, 0, none⟩)) (.cells #[.int .u8 0, .int .u32 0, .int .u64 0, .int .u8 0, .int .u32 0, .int .u32 0, .string ByteArray.empty, .int .u32 0, .int .u32 0, .string ByteArray.empty, .int .u32 0, .int .u32 0, .slice none 0 0] 28) (IsNew.of_run rfl fun w => (by kernel_rfl)) (by kernel_rfl) ?_
            refine z_fl 4 rfl fun b7 => ⟨(by kernel_rfl), ?_⟩
            refine z_fl 3 rfl fun b8 => ⟨(by kernel_rfl), ?_⟩
            refine z_fl 2 rfl fun b9 => ⟨(by kernel_rfl), ?_⟩
            refine z_fl 1 rfl fun b10 => ⟨(by kernel_rfl), ?_⟩
            refine z_fl 0 rfl fun b11 => ⟨(by kernel_rfl), ?_⟩
            refine z_op 10 rfl fun a w Z H => ?_
            refine op_storeZ (k := 4) (t := 28) (off := 0) (v := .agg #[.int .u8 c.client, .int .u32 c.inc, .int .u64 c.seq, .int .u8 c.kind, .int .u32 c.ino, .int .u32 c.gen, .string c.name, .int .u32 c.toIno, .int .u32 c.toGen, .string c.toName, .int .u32 c.off, .int .u32 c.size, .slice A c.data.length k]) H rfl (by kernel_rfl) (by kernel_rfl) fun a w H => ?_
            refine z_on _ H (fun w Z X => X.mskZ [false, false, false, false, false, true] (by kernel_rfl)) (by kernel_rfl) ?_
            refine z_op 11 rfl fun a w Z H => ?_
            refine op_storeZ (k := 3) (t := 28) (off := 0) (v := .agg #[.int .u8 c.client, .int .u32 c.inc, .int .u64 c.seq, .int .u8 c.kind, .int .u32 c.ino, .int .u32 c.gen, .string c.name, .int .u32 c.toIno, .int .u32 c.toGen, .string c.toName, .int .u32 c.off, .int .u32 c.size, .slice A c.data.length k]) H rfl (by kernel_rfl) (by kernel_rfl) fun a w H => ?_
            refine z_on _ H (fun w Z X => X.mskZ [false, false, false, false, false, true] (by kernel_rfl)) (by kernel_rfl) ?_
            refine z_op 12 rfl fun a w Z H => ?_
            refine op_storeZ (k := 2) (t := 28) (off := 0) (v := .agg #[.int .u8 c.client, .int .u32 c.inc, .int .u64 c.seq, .int .u8 c.kind, .int .u32 c.ino, .int .u32 c.gen, .string c.name, .int .u32 c.toIno, .int .u32 c.toGen, .string c.toName, .int .u32 c.off, .int .u32 c.size, .slice A c.data.length k]) H rfl (by kernel_rfl) (by kernel_rfl) fun a w H => ?_
            refine z_on _ H (fun w Z X => X.mskZ [false, false, false, false, false, true] (by kernel_rfl)) (by kernel_rfl) ?_
            refine z_op 13 rfl fun a w Z H => ?_
            refine op_storeZ (k := 1) (t := 28) (off := 0) (v := .agg #[.int .u8 c.client, .int .u32 c.inc, .int .u64 c.seq, .int .u8 c.kind, .int .u32 c.ino, .int .u32 c.gen, .string c.name, .int .u32 c.toIno, .int .u32 c.toGen, .string c.toName, .int .u32 c.off, .int .u32 c.size, .slice A c.data.length k]) H rfl (by kernel_rfl) (by kernel_rfl) fun a w H => ?_
            refine z_on _ H (fun w Z X => X.mskZ [false, false, false, false, false, true] (by kernel_rfl)) (by kernel_rfl) ?_
            refine z_op 14 rfl fun a w Z H => ?_
            refine op_storeZ (k := 0) (t := 28) (off := 0) (v := .agg #[.int .u8 c.client, .int .u32 c.inc, .int .u64 c.seq, .int .u8 c.kind, .int .u32 c.ino, .int .u32 c.gen, .string c.name, .int .u32 c.toIno, .int .u32 c.toGen, .string c.toName, .int .u32 c.off, .int .u32 c.size, .slice A c.data.length k]) H rfl (by kernel_rfl) (by kernel_rfl) fun a w H => ?_
            refine z_last _ H (by kernel_rfl) ?_
            refine z_end [] fun a w H => ?_
            refine WK.seq ?_
            refine st_text 3 rfl ?_
            refine st_run 0 2 1 [(62, .pointer (some ⟨b7, 11, none⟩)), (61, .int .u32 n)] H (by kernel_rfl) fun a H => ?_
            refine st_op 2 0 (op_store (k := 4) (t := 22) (off := 11) (v := .int .u32 n) H rfl (by kernel_rfl) (by kernel_rfl) fun a w H => ?_)
            refine ops_end _ ?_
            refine WK.seq ?_
            refine st_text 3 rfl ?_
            refine st_run 0 2 1 [(64, .pointer (some ⟨b8, 10, none⟩)), (63, .int .u32 n)] H (by kernel_rfl) fun a H => ?_
            refine st_op 2 0 (op_store (k := 3) (t := 22) (off := 10) (v := .int .u32 n) H rfl (by kernel_rfl) (by kernel_rfl) fun a w H => ?_)
            refine ops_end _ ?_
            refine WK.seq ?_
            refine st_text 3 rfl ?_
            refine st_run 0 2 1 [(66, .pointer (some ⟨b9, 6, none⟩)), (65, .string s)] H (by kernel_rfl) fun a H => ?_
            refine st_op 2 0 (op_store (k := 2) (t := 9) (off := 6) (v := .string s) H rfl (by kernel_rfl) (by kernel_rfl) fun a w H => ?_)
            refine ops_end _ ?_
            refine WK.seq ?_
            refine st_text 4 rfl ?_
            refine st_run 0 3 1 [(69, .pointer (some ⟨b10, 7, none⟩)), (68, .pointer (some ⟨b10, 7, none⟩)), (67, .int .u32 n)] H (by kernel_rfl) fun a H => ?_
            refine st_op 3 0 (op_store (k := 1) (t := 22) (off := 7) (v := .int .u32 n) H rfl (by kernel_rfl) (by kernel_rfl) fun a w H => ?_)
            refine ops_end _ ?_
            refine WK.seq ?_
            refine st_text 3 rfl ?_
            refine st_run 0 2 1 [(71, .pointer (some ⟨b11, 9, none⟩)), (70, .string s)] H (by kernel_rfl) fun a H => ?_
            refine st_op 2 0 (op_store (k := 0) (t := 9) (off := 9) (v := .string s) H rfl (by kernel_rfl) (by kernel_rfl) fun a w H => ?_)
            refine ops_end _ ?_
            refine WK.seq ?_
            refine WK.seq ?_
            refine st_text 22 rfl ?_
            refine st_run 0 3 19 [(74, .bool (!((c.kind : Int) == 4))), (73, .bool (!((c.kind : Int) == 4))), (72, .bool ((c.kind : Int) == 4))] H (by kernel_rfl) fun a H => ?_
            have H := H.also (d := 74) (u := .bool (!((c.kind : Int) == 4))) (v := .bool false) (by kernel_rfl) (congrArg Value.bool (by simp only [hg7]; rfl))
            refine st_run 3 15 4 [(89, .bool true), (88, .bool true), (87, .bool false), (86, .bool false), (85, .bool false), (84, .bool false), (83, undef), (82, undef), (81, .bool false), (80, .bool false), (79, .bool true), (78, .bool false), (77, .bool false), (76, undef), (75, undef)] H (by kernel_rfl) fun a H => ?_
            refine st_op 18 3 (op_val (d := 90) (v := .agg #[.int .u8 c.client, .int .u32 c.inc, .int .u64 c.seq, .int .u8 c.kind, .int .u32 c.ino, .int .u32 c.gen, .string s, .int .u32 c.toIno, .int .u32 c.toGen, .string c.toName, .int .u32 c.off, .int .u32 c.size, .slice A c.data.length k]) H (val_ld (k := 2) (t := 28) (off := 0) rfl (by kernel_rfl) rfl (by kernel_rfl)) fun a H => ?_)
            refine st_op 19 2 (op_call (d := 91) H (by kernel_rfl) rfl (call_may (⟨c.client, c.inc, c.seq, c.kind, c.ino, c.gen, s, c.toIno, c.toGen, c.toName, c.off, c.size, c.data⟩ : CallS) A k (by first | assumption | exact ⟨w1, w2, w3, w4, w5, w6, w7, w8, w9, w10⟩ | exact ⟨w1, w2, w3, w4, w5, w6, hn, w8, w9, w10⟩ | exact ⟨w1, w2, w3, w4, w5, w6, w7, w8, hn, w10⟩ | exact ⟨w1, w2, w3, w4, w5, w6, w7, w8, w9, hn⟩) (by first | assumption | omega) (by first | assumption | omega) H.sat) fun a v w q F => ?_)
            obtain ⟨R10, hle, rfl, X⟩ := q
            have H := St.mk F X
            have hd := hd.grow hle
            have hT := hT.grow hle
            have hleR10 := hleR1.trans hle
            refine st_run 20 2 0 [(93, .bool (mayP (⟨c.client, c.inc, c.seq, c.kind, c.ino, c.gen, s, c.toIno, c.toGen, c.toName, c.off, c.size, c.data⟩ : CallS))), (92, .bool (mayP (⟨c.client, c.inc, c.seq, c.kind, c.ino, c.gen, s, c.toIno, c.toGen, c.toName, c.off, c.size, c.data⟩ : CallS)))] H (by kernel_rfl) fun a H => ?_
            refine ops_end _ ?_
            refine st_cond (mayP (⟨c.client, c.inc, c.seq, c.kind, c.ino, c.gen, s, c.toIno, c.toGen, c.toName, c.off, c.size, c.data⟩ : CallS)) H (by kernel_rfl) ?_ ?_
            · intro hc3
              refine WK.seq ?_
              refine st_text 1 rfl ?_
              refine st_run 0 1 0 [(6, .bool false)] H (by kernel_rfl) fun a H => ?_
              refine ops_end _ ?_
              refine st_ret (vs := [.bool false]) H Tryd.func3 rfl (.tmp (by kernel_rfl) (.nil)) ?_
              have hp_hg3 := neB hg3
              have hp_hg7 := eq_of_beq hg7
              have hp_hk6 := neB hk6
              have hp_hk7 := of_decide_eq_false hk7
              have hn0 : n ≠ 0 := neB hg2
              have hs0 := neB hc1
              exfalso
              have hx := one_name hc3 (by simp only; omega) (by simp only; omega)
              exact hs0 (hx.trans (by kernel_rfl))
            · intro hc3
              refine WK.skip ?_
              refine WK.seq ?_
              refine st_text 17 rfl ?_
              refine st_run 0 1 16 [(94, .pointer (some ⟨b1, 3, none⟩))] H (by kernel_rfl) fun a H => ?_
              refine st_op 1 15 (op_val (d := 95) (v := .int .u8 c.kind) H (val_ld (k := 5) (t := 5) (off := 3) rfl (by kernel_rfl) rfl (by kernel_rfl)) fun a H => ?_)
              refine st_run 2 2 13 [(97, .bool ((c.kind : Int) == 11)), (96, .bool ((c.kind : Int) == 11))] H (by kernel_rfl) fun a H => ?_
              have hk8 : ((c.kind : Int) == 11) = false := by rw [eq_of_beq hg7]; rfl
              have H := H.also (d := 97) (u := .bool ((c.kind : Int) == 11)) (v := .bool false) (by kernel_rfl) (congrArg Value.bool (hk8))
              refine st_op 4 12 (op_val (d := 98) (v := .agg #[.int .u8 c.client, .int .u32 c.inc, .int .u64 c.seq, .int .u8 c.kind, .int .u32 c.ino, .int .u32 c.gen, .string c.name, .int .u32 n, .int .u32 c.toGen, .string c.toName, .int .u32 c.off, .int .u32 c.size, .slice A c.data.length k]) H (val_ld (k := 1) (t := 28) (off := 0) rfl (by kernel_rfl) rfl (by kernel_rfl)) fun a H => ?_)
              refine st_op 5 11 (op_call (d := 99) H (by kernel_rfl) rfl (call_may (⟨c.client, c.inc, c.seq, c.kind, c.ino, c.gen, c.name, n, c.toGen, c.toName, c.off, c.size, c.data⟩ : CallS) A k (by first | assumption | exact ⟨w1, w2, w3, w4, w5, w6, w7, w8, w9, w10⟩ | exact ⟨w1, w2, w3, w4, w5, w6, hn, w8, w9, w10⟩ | exact ⟨w1, w2, w3, w4, w5, w6, w7, w8, hn, w10⟩ | exact ⟨w1, w2, w3, w4, w5, w6, w7, w8, w9, hn⟩) (by first | assumption | omega) (by first | assumption | omega) H.sat) fun a v w q F => ?_)
              obtain ⟨R11, hle, rfl, X⟩ := q
              have H := St.mk F X
              have hd := hd.grow hle
              have hT := hT.grow hle
              have hleR11 := hleR10.trans hle
              refine st_run 6 2 9 [(101, .bool (!(mayP (⟨c.client, c.inc, c.seq, c.kind, c.ino, c.gen, c.name, n, c.toGen, c.toName, c.off, c.size, c.data⟩ : CallS)))), (100, .bool (!(mayP (⟨c.client, c.inc, c.seq, c.kind, c.ino, c.gen, c.name, n, c.toGen, c.toName, c.off, c.size, c.data⟩ : CallS))))] H (by kernel_rfl) fun a H => ?_
              rcases Bool.eq_false_or_eq_true (!(mayP (⟨c.client, c.inc, c.seq, c.kind, c.ino, c.gen, c.name, n, c.toGen, c.toName, c.off, c.size, c.data⟩ : CallS))) with hg8 | hg8
              · skip
                have H := H.also (d := 101) (u := .bool (!(mayP (⟨c.client, c.inc, c.seq, c.kind, c.ino, c.gen, c.name, n, c.toGen, c.toName, c.off, c.size, c.data⟩ : CallS)))) (v := .bool true) (by kernel_rfl) (congrArg Value.bool (hg8))
                have hg8n := notT hg8
                refine st_op 8 8 (op_val (d := 102) (v := .agg #[.int .u8 c.client, .int .u32 c.inc, .int .u64 c.seq, .int .u8 c.kind, .int .u32 c.ino, .int .u32 c.gen, .string c.name, .int .u32 c.toIno, .int .u32 c.toGen, .string s, .int .u32 c.off, .int .u32 c.size, .slice A c.data.length k]) H (val_ld (k := 0) (t := 28) (off := 0) rfl (by kernel_rfl) rfl (by kernel_rfl)) fun a H => ?_)
                refine st_op 9 7 (op_call (d := 103) H (by kernel_rfl) rfl (call_may (⟨c.client, c.inc, c.seq, c.kind, c.ino, c.gen, c.name, c.toIno, c.toGen, s, c.off, c.size, c.data⟩ : CallS) A k (by first | assumption | exact ⟨w1, w2, w3, w4, w5, w6, w7, w8, w9, w10⟩ | exact ⟨w1, w2, w3, w4, w5, w6, hn, w8, w9, w10⟩ | exact ⟨w1, w2, w3, w4, w5, w6, w7, w8, hn, w10⟩ | exact ⟨w1, w2, w3, w4, w5, w6, w7, w8, w9, hn⟩) (by first | assumption | omega) (by first | assumption | omega) H.sat) fun a v w q F => ?_)
                obtain ⟨R12, hle, rfl, X⟩ := q
                have H := St.mk F X
                have hd := hd.grow hle
                have hT := hT.grow hle
                have hleR12 := hleR11.trans hle
                refine st_run 10 4 3 [(107, .bool (!(mayP (⟨c.client, c.inc, c.seq, c.kind, c.ino, c.gen, c.name, c.toIno, c.toGen, s, c.off, c.size, c.data⟩ : CallS)))), (106, .bool (!(mayP (⟨c.client, c.inc, c.seq, c.kind, c.ino, c.gen, c.name, c.toIno, c.toGen, s, c.off, c.size, c.data⟩ : CallS)))), (105, .bool (!(mayP (⟨c.client, c.inc, c.seq, c.kind, c.ino, c.gen, c.name, c.toIno, c.toGen, s, c.off, c.size, c.data⟩ : CallS)))), (104, .bool (!(mayP (⟨c.client, c.inc, c.seq, c.kind, c.ino, c.gen, c.name, c.toIno, c.toGen, s, c.off, c.size, c.data⟩ : CallS))))] H (by kernel_rfl) fun a H => ?_
                rcases Bool.eq_false_or_eq_true (!(mayP (⟨c.client, c.inc, c.seq, c.kind, c.ino, c.gen, c.name, c.toIno, c.toGen, s, c.off, c.size, c.data⟩ : CallS))) with hg9 | hg9
                · skip
                  have H := H.also (d := 107) (u := .bool (!(mayP (⟨c.client, c.inc, c.seq, c.kind, c.ino, c.gen, c.name, c.toIno, c.toGen, s, c.off, c.size, c.data⟩ : CallS)))) (v := .bool true) (by kernel_rfl) (congrArg Value.bool (hg9))
                  have hg9n := notT hg9
                  refine st_op 14 2 (op_call (d := 108) H (by kernel_rfl) rfl (law10_lives (by first | assumption | omega) H.sat) fun a v w q F => ?_)
                  obtain ⟨R13, hle, rfl, X⟩ := q
                  have H := St.mk F X
                  have hd := hd.grow hle
                  have hT := hT.grow hle
                  have hleR13 := hleR12.trans hle
                  refine st_run 15 2 0 [(6, .bool true), (109, .bool true)] H (by kernel_rfl) fun a H => ?_
                  refine ops_end _ ?_
                  refine st_ret (vs := [.bool true]) H Tryd.func3 rfl (.tmp (by kernel_rfl) (.nil)) ?_
                  have X := (H.sat.msk [false, false, false, false, false, false])
                  exact ⟨R13, hleR13, rfl, X⟩
                · skip
                  have H := H.also (d := 107) (u := .bool (!(mayP (⟨c.client, c.inc, c.seq, c.kind, c.ino, c.gen, c.name, c.toIno, c.toGen, s, c.off, c.size, c.data⟩ : CallS)))) (v := .bool false) (by kernel_rfl) (congrArg Value.bool (hg9))
                  have hg9n := notF hg9
                  refine st_run 14 3 0 [(6, .bool false), (109, .bool false), (108, undef)] H (by kernel_rfl) fun a H => ?_
                  refine ops_end _ ?_
                  refine st_ret (vs := [.bool false]) H Tryd.func3 rfl (.tmp (by kernel_rfl) (.nil)) ?_
                  have hp_hg3 := neB hg3
                  have hp_hg7 := eq_of_beq hg7
                  have hp_hk6 := neB hk6
                  have hp_hk7 := of_decide_eq_false hk7
                  have hp_hk8 := neB hk8
                  have hn0 : n ≠ 0 := neB hg2
                  have hs0 := neB hc1
                  exfalso
                  have hx := one_to hg9n (by simp only; omega)
                  exact hs0 (hx.2.trans (by kernel_rfl))
              · skip
                have H := H.also (d := 101) (u := .bool (!(mayP (⟨c.client, c.inc, c.seq, c.kind, c.ino, c.gen, c.name, n, c.toGen, c.toName, c.off, c.size, c.data⟩ : CallS)))) (v := .bool false) (by kernel_rfl) (congrArg Value.bool (hg8))
                have hg8n := notF hg8
                refine st_run 8 9 0 [(6, .bool false), (109, .bool false), (108, undef), (107, .bool false), (106, .bool false), (105, .bool false), (104, undef), (103, undef), (102, undef)] H (by kernel_rfl) fun a H => ?_
                refine ops_end _ ?_
                refine st_ret (vs := [.bool false]) H Tryd.func3 rfl (.tmp (by kernel_rfl) (.nil)) ?_
                have hp_hg3 := neB hg3
                have hp_hg7 := eq_of_beq hg7
                have hp_hk6 := neB hk6
                have hp_hk7 := of_decide_eq_false hk7
                have hp_hk8 := neB hk8
                have hn0 : n ≠ 0 := neB hg2
                have hs0 := neB hc1
                exfalso
                have hx := one_to hg8n (by simp only; omega)
                exact hn0 hx.1
          · skip
            have H := H.also (d := 38) (u := .bool ((c.kind : Int) == 4)) (v := .bool false) (by kernel_rfl) (congrArg Value.bool (hg7))
            have hg7' := neB hg7
            refine st_run 4 1 4 [(39, .pointer (some ⟨b1, 3, none⟩))] H (by kernel_rfl) fun a H => ?_
            refine st_op 5 3 (op_val (d := 40) (v := .int .u8 c.kind) H (val_ld (k := 0) (t := 5) (off := 3) rfl (by kernel_rfl) rfl (by kernel_rfl)) fun a H => ?_)
            refine st_run 6 3 0 [(8, .bool ((c.kind : Int) == 5)), (42, .bool ((c.kind : Int) == 5)), (41, .bool ((c.kind : Int) == 5))] H (by kernel_rfl) fun a H => ?_
            refine ops_end _ ?_
            refine WK.seq ?_
            refine st_text 14 rfl ?_
            refine st_run 0 1 13 [(43, .pointer (some ⟨b1, 3, none⟩))] H (by kernel_rfl) fun a H => ?_
            refine st_op 1 12 (op_val (d := 44) (v := .int .u8 c.kind) H (val_ld (k := 0) (t := 5) (off := 3) rfl (by kernel_rfl) rfl (by kernel_rfl)) fun a H => ?_)
            refine st_run 2 2 10 [(46, .bool ((c.kind : Int) == 3)), (45, .bool ((c.kind : Int) == 3))] H (by kernel_rfl) fun a H => ?_
            rcases Bool.eq_false_or_eq_true ((c.kind : Int) == 3) with hg10 | hg10
            · skip
              have H := H.also (d := 46) (u := .bool ((c.kind : Int) == 3)) (v := .bool true) (by kernel_rfl) (congrArg Value.bool (hg10))
              have hg10' := eq_of_beq hg10
              refine st_run 4 10 0 [(9, .bool true), (55, .bool true), (54, undef), (53, undef), (52, undef), (51, undef), (50, undef), (49, undef), (48, undef), (47, undef)] H (by kernel_rfl) fun a H => ?_
              refine ops_end _ ?_
              refine WK.seq ?_
              refine st_floatsM [true] [.tk 0, .tk 1, .tk 2, .tk 3, .tk 4, .dc 5, .dc 6, .dc 7, .dc 8, .dc 9, .fl 5 4, .fl 6 3, .fl 7 2, .fl 8 1, .fl 9 0, .op 10, .op 11, .op 12, .op 13, .op 14] rfl (by kernel_rfl) (by kernel_rfl) (by kernel_rfl) H ?_
              refine z_tk 0 (d := 56) (.agg #[.int .u8 c.client, .int .u32 c.inc, .int .u64 c.seq, .int .u8 c.kind, .int .u32 c.ino, .int .u32 c.gen, .string c.name, .int .u32 c.toIno, .int .u32 c.toGen, .string c.toName, .int .u32 c.off, .int .u32 c.size, .slice A c.data.length k]) (val_ld (k := 0) (t := 28) (off := 0) rfl (by kernel_rfl) rfl (by kernel_rfl)) (by kernel_rfl) ?_
              refine z_tk 1 (d := 57) (.agg #[.int .u8 c.client, .int .u32 c.inc, .int .u64 c.seq, .int .u8 c.kind, .int .u32 c.ino, .int .u32 c.gen, .string c.name, .int .u32 c.toIno, .int .u32 c.toGen, .string c.toName, .int .u32 c.off, .int .u32 c.size, .slice A c.data.length k]) (val_ld (k := 0) (t := 28) (off := 0) rfl (by kernel_rfl) rfl (by kernel_rfl)) (by kernel_rfl) ?_
              refine z_tk 2 (d := 58) (.agg #[.int .u8 c.client, .int .u32 c.inc, .int .u64 c.seq, .int .u8 c.kind, .int .u32 c.ino, .int .u32 c.gen, .string c.name, .int .u32 c.toIno, .int .u32 c.toGen, .string c.toName, .int .u32 c.off, .int .u32 c.size, .slice A c.data.length k]) (val_ld (k := 0) (t := 28) (off := 0) rfl (by kernel_rfl) rfl (by kernel_rfl)) (by kernel_rfl) ?_
              refine z_tk 3 (d := 59) (.agg #[.int .u8 c.client, .int .u32 c.inc, .int .u64 c.seq, .int .u8 c.kind, .int .u32 c.ino, .int .u32 c.gen, .string c.name, .int .u32 c.toIno, .int .u32 c.toGen, .string c.toName, .int .u32 c.off, .int .u32 c.size, .slice A c.data.length k]) (val_ld (k := 0) (t := 28) (off := 0) rfl (by kernel_rfl) rfl (by kernel_rfl)) (by kernel_rfl) ?_
              refine z_tk 4 (d := 60) (.agg #[.int .u8 c.client, .int .u32 c.inc, .int .u64 c.seq, .int .u8 c.kind, .int .u32 c.ino, .int .u32 c.gen, .string c.name, .int .u32 c.toIno, .int .u32 c.toGen, .string c.toName, .int .u32 c.off, .int .u32 c.size, .slice A c.data.length k]) (val_ld (k := 0) (t := 28) (off := 0) rfl (by kernel_rfl) rfl (by kernel_rfl)) (by kernel_rfl) ?_
              refine z_dc 5 (d := 10) (fun b => .pointer (some ⟨b, 0, none⟩)) (.cells #[.int .u8 0, .int .u32 0, .int .u64 0, .int .u8 0, .int .u32 0, .int .u32 0, .string ByteArray.empty, .int .u32 0, .int .u32 0, .string ByteArray.empty, .int .u32 0, .int .u32 0, .slice none 0 0] 28) (IsNew.of_run rfl fun w => (by kernel_rfl)) (by kernel_rfl) ?_
              refine z_dc 6 (d := 11) (fun b => .pointer (some ⟨b, 0, none⟩)) (.cells #[.int .u8 0, .int .u32 0, .int .u64 0, .int .u8 0, .int .u32 0, .int .u32 0, .string ByteArray.empty, .int .u32 0, .int .u32 0, .string ByteArray.empty, .int .u32 0, .int .u32 0, .slice none 0 0] 28) (IsNew.of_run rfl fun w => (by kernel_rfl)) (by kernel_rfl) ?_
              refine z_dc 7 (d := 12) (fun b => .pointer (some ⟨b, 0, none⟩)) (.cells #[.int .u8 0, .int .u32 0, .int .u64 0, .int .u8 0, .int .u32 0, .int .u32 0, .string ByteArray.empty, .int .u32 0, .int .u32 0, .string ByteArray.empty, .int .u32 0, .int .u32 0, .slice none 0 0] 28) (IsNew.of_run rfl fun w => (by kernel_rfl)) (by kernel_rfl) ?_
              refine z_dc 8 (d := 13) (fun b => .pointer (some ⟨b, 0, none⟩)) (.cells #[.int .u8 0, .int .u32 0, .int .u64 0, .int .u8 0, .int .u32 0, .int .u32 0, .string ByteArray.empty, .int .u32 0, .int .u32 0, .string ByteArray.empty, .int .u32 0, .int .u32 0, .slice none 0 0] 28) (IsNew.of_run rfl fun w => (by kernel_rfl)) (by kernel_rfl) ?_
              refine z_dc 9 (d := 14) (fun b => .pointer (some ⟨b, 0, none⟩)) (.cells #[.int .u8 0, .int .u32 0, .int .u64 0, .int .u8 0, .int .u32 0, .int .u32 0, .string ByteArray.empty, .int .u32 0, .int .u32 0, .string ByteArray.empty, .int .u32 0, .int .u32 0, .slice none 0 0] 28) (IsNew.of_run rfl fun w => (by kernel_rfl)) (by kernel_rfl) ?_
              refine z_fl 4 rfl fun b12 => ⟨(by kernel_rfl), ?_⟩
              refine z_fl 3 rfl fun b13 => ⟨(by kernel_rfl), ?_⟩
              refine z_fl 2 rfl fun b14 => ⟨(by kernel_rfl), ?_⟩
              refine z_fl 1 rfl fun b15 => ⟨(by kernel_rfl), ?_⟩
              refine z_fl 0 rfl fun b16 => ⟨(by kernel_rfl), ?_⟩
              refine z_op 10 rfl fun a w Z H => ?_
              refine op_storeZ (k := 4) (t := 28) (off := 0) (v := .agg #[.int .u8 c.client, .int .u32 c.inc, .int .u64 c.seq, .int .u8 c.kind, .int .u32 c.ino, .int .u32 c.gen, .string c.name, .int .u32 c.toIno, .int .u32 c.toGen, .string c.toName, .int .u32 c.off, .int .u32 c.size, .slice A c.data.length k]) H rfl (by kernel_rfl) (by kernel_rfl) fun a w H => ?_
              refine z_on _ H (fun w Z X => X.mskZ [false, false, false, false, false, true] (by kernel_rfl)) (by kernel_rfl) ?_
              refine z_op 11 rfl fun a w Z H => ?_
              refine op_storeZ (k := 3) (t := 28) (off := 0) (v := .agg #[.int .u8 c.client, .int .u32 c.inc, .int .u64 c.seq, .int .u8 c.kind, .int .u32 c.ino, .int .u32 c.gen, .string c.name, .int .u32 c.toIno, .int .u32 c.toGen, .string c.toName, .int .u32 c.off, .int .u32 c.size, .slice A c.data.length k]) H rfl (by kernel_rfl) (by kernel_rfl) fun a w H => ?_
              refine z_on _ H (fun w Z X => X.mskZ [false, false, false, false, false, true] (by kernel_rfl)) (by kernel_rfl) ?_
              refine z_op 12 rfl fun a w Z H => ?_
              refine op_storeZ (k := 2) (t := 28) (off := 0) (v := .agg #[.int .u8 c.client, .int .u32 c.inc, .int .u64 c.seq, .int .u8 c.kind, .int .u32 c.ino, .int .u32 c.gen, .string c.name, .int .u32 c.toIno, .int .u32 c.toGen, .string c.toName, .int .u32 c.off, .int .u32 c.size, .slice A c.data.length k]) H rfl (by kernel_rfl) (by kernel_rfl) fun a w H => ?_
              refine z_on _ H (fun w Z X => X.mskZ [false, false, false, false, false, true] (by kernel_rfl)) (by kernel_rfl) ?_
              refine z_op 13 rfl fun a w Z H => ?_
              refine op_storeZ (k := 1) (t := 28) (off := 0) (v := .agg #[.int .u8 c.client, .int .u32 c.inc, .int .u64 c.seq, .int .u8 c.kind, .int .u32 c.ino, .int .u32 c.gen, .string c.name, .int .u32 c.toIno, .int .u32 c.toGen, .string c.toName, .int .u32 c.off, .int .u32 c.size, .slice A c.data.length k]) H rfl (by kernel_rfl) (by kernel_rfl) fun a w H => ?_
              refine z_on _ H (fun w Z X => X.mskZ [false, false, false, false, false, true] (by kernel_rfl)) (by kernel_rfl) ?_
              refine z_op 14 rfl fun a w Z H => ?_
              refine op_storeZ (k := 0) (t := 28) (off := 0) (v := .agg #[.int .u8 c.client, .int .u32 c.inc, .int .u64 c.seq, .int .u8 c.kind, .int .u32 c.ino, .int .u32 c.gen, .string c.name, .int .u32 c.toIno, .int .u32 c.toGen, .string c.toName, .int .u32 c.off, .int .u32 c.size, .slice A c.data.length k]) H rfl (by kernel_rfl) (by kernel_rfl) fun a w H => ?_
              refine z_last _ H (by kernel_rfl) ?_
              refine z_end [] fun a w H => ?_
              refine WK.seq ?_
              refine st_text 3 rfl ?_
              refine st_run 0 2 1 [(62, .pointer (some ⟨b12, 11, none⟩)), (61, .int .u32 n)] H (by kernel_rfl) fun a H => ?_
              refine st_op 2 0 (op_store (k := 4) (t := 22) (off := 11) (v := .int .u32 n) H rfl (by kernel_rfl) (by kernel_rfl) fun a w H => ?_)
              refine ops_end _ ?_
              refine WK.seq ?_
              refine st_text 3 rfl ?_
              refine st_run 0 2 1 [(64, .pointer (some ⟨b13, 10, none⟩)), (63, .int .u32 n)] H (by kernel_rfl) fun a H => ?_
              refine st_op 2 0 (op_store (k := 3) (t := 22) (off := 10) (v := .int .u32 n) H rfl (by kernel_rfl) (by kernel_rfl) fun a w H => ?_)
              refine ops_end _ ?_
              refine WK.seq ?_
              refine st_text 3 rfl ?_
              refine st_run 0 2 1 [(66, .pointer (some ⟨b14, 6, none⟩)), (65, .string s)] H (by kernel_rfl) fun a H => ?_
              refine st_op 2 0 (op_store (k := 2) (t := 9) (off := 6) (v := .string s) H rfl (by kernel_rfl) (by kernel_rfl) fun a w H => ?_)
              refine ops_end _ ?_
              refine WK.seq ?_
              refine st_text 4 rfl ?_
              refine st_run 0 3 1 [(69, .pointer (some ⟨b15, 7, none⟩)), (68, .pointer (some ⟨b15, 7, none⟩)), (67, .int .u32 n)] H (by kernel_rfl) fun a H => ?_
              refine st_op 3 0 (op_store (k := 1) (t := 22) (off := 7) (v := .int .u32 n) H rfl (by kernel_rfl) (by kernel_rfl) fun a w H => ?_)
              refine ops_end _ ?_
              refine WK.seq ?_
              refine st_text 3 rfl ?_
              refine st_run 0 2 1 [(71, .pointer (some ⟨b16, 9, none⟩)), (70, .string s)] H (by kernel_rfl) fun a H => ?_
              refine st_op 2 0 (op_store (k := 0) (t := 9) (off := 9) (v := .string s) H rfl (by kernel_rfl) (by kernel_rfl) fun a w H => ?_)
              refine ops_end _ ?_
              refine WK.seq ?_
              refine WK.seq ?_
              refine st_text 22 rfl ?_
              refine st_run 0 3 19 [(74, .bool (!((c.kind : Int) == 4))), (73, .bool (!((c.kind : Int) == 4))), (72, .bool ((c.kind : Int) == 4))] H (by kernel_rfl) fun a H => ?_
              have H := H.also (d := 74) (u := .bool (!((c.kind : Int) == 4))) (v := .bool true) (by kernel_rfl) (congrArg Value.bool (by simp only [hg7]; rfl))
              refine st_op 3 18 (op_val (d := 75) (v := .agg #[.int .u8 c.client, .int .u32 c.inc, .int .u64 c.seq, .int .u8 c.kind, .int .u32 c.ino, .int .u32 c.gen, .string c.name, .int .u32 c.toIno, .int .u32 c.toGen, .string c.toName, .int .u32 c.off, .int .u32 n, .slice A c.data.length k]) H (val_ld (k := 4) (t := 28) (off := 0) rfl (by kernel_rfl) rfl (by kernel_rfl)) fun a H => ?_)
              refine st_op 4 17 (op_call (d := 76) H (by kernel_rfl) rfl (call_may (⟨c.client, c.inc, c.seq, c.kind, c.ino, c.gen, c.name, c.toIno, c.toGen, c.toName, c.off, n, c.data⟩ : CallS) A k (by first | assumption | exact ⟨w1, w2, w3, w4, w5, w6, w7, w8, w9, w10⟩ | exact ⟨w1, w2, w3, w4, w5, w6, hn, w8, w9, w10⟩ | exact ⟨w1, w2, w3, w4, w5, w6, w7, w8, hn, w10⟩ | exact ⟨w1, w2, w3, w4, w5, w6, w7, w8, w9, hn⟩) (by first | assumption | omega) (by first | assumption | omega) H.sat) fun a v w q F => ?_)
              obtain ⟨R14, hle, rfl, X⟩ := q
              have H := St.mk F X
              have hd := hd.grow hle
              have hT := hT.grow hle
              have hleR14 := hleR1.trans hle
              refine st_run 5 2 15 [(78, .bool (mayP (⟨c.client, c.inc, c.seq, c.kind, c.ino, c.gen, c.name, c.toIno, c.toGen, c.toName, c.off, n, c.data⟩ : CallS))), (77, .bool (mayP (⟨c.client, c.inc, c.seq, c.kind, c.ino, c.gen, c.name, c.toIno, c.toGen, c.toName, c.off, n, c.data⟩ : CallS)))] H (by kernel_rfl) fun a H => ?_
              rcases Bool.eq_false_or_eq_true (mayP (⟨c.client, c.inc, c.seq, c.kind, c.ino, c.gen, c.name, c.toIno, c.toGen, c.toName, c.off, n, c.data⟩ : CallS)) with hg11 | hg11
              · skip
                have H := H.also (d := 78) (u := .bool (mayP (⟨c.client, c.inc, c.seq, c.kind, c.ino, c.gen, c.name, c.toIno, c.toGen, c.toName, c.off, n, c.data⟩ : CallS))) (v := .bool true) (by kernel_rfl) (congrArg Value.bool (hg11))
                refine st_run 7 15 0 [(93, .bool true), (92, undef), (91, undef), (90, undef), (89, undef), (88, undef), (87, undef), (86, .bool true), (85, .bool true), (84, undef), (83, undef), (82, undef), (81, undef), (80, undef), (79, undef)] H (by kernel_rfl) fun a H => ?_
                refine ops_end _ ?_
                refine st_true H (by kernel_rfl) ?_
                refine WK.seq ?_
                refine st_text 1 rfl ?_
                refine st_run 0 1 0 [(6, .bool false)] H (by kernel_rfl) fun a H => ?_
                refine ops_end _ ?_
                refine st_ret (vs := [.bool false]) H Tryd.func3 rfl (.tmp (by kernel_rfl) (.nil)) ?_
                have hp_hg3 := neB hg3
                have hp_hg7 := neB hg7
                have hp_hg10 := eq_of_beq hg10
                have hn0 : n ≠ 0 := neB hg2
                have hs0 := neB hc1
                exfalso
                have hx := one_size hg11 (by simp only; omega) (by simp only; omega)
                exact hn0 hx
              · skip
                have H := H.also (d := 78) (u := .bool (mayP (⟨c.client, c.inc, c.seq, c.kind, c.ino, c.gen, c.name, c.toIno, c.toGen, c.toName, c.off, n, c.data⟩ : CallS))) (v := .bool false) (by kernel_rfl) (congrArg Value.bool (hg11))
                refine st_run 7 3 12 [(81, .bool (!((c.kind : Int) == 5))), (80, .bool (!((c.kind : Int) == 5))), (79, .bool ((c.kind : Int) == 5))] H (by kernel_rfl) fun a H => ?_
                have hk9 : ((c.kind : Int) == 5) = false := by rw [eq_of_beq hg10]; rfl
                have H := H.also (d := 81) (u := .bool (!((c.kind : Int) == 5))) (v := .bool true) (by kernel_rfl) (congrArg Value.bool (by simp only [hk9]; rfl))
                refine st_op 10 11 (op_val (d := 82) (v := .agg #[.int .u8 c.client, .int .u32 c.inc, .int .u64 c.seq, .int .u8 c.kind, .int .u32 c.ino, .int .u32 c.gen, .string c.name, .int .u32 c.toIno, .int .u32 c.toGen, .string c.toName, .int .u32 n, .int .u32 c.size, .slice A c.data.length k]) H (val_ld (k := 3) (t := 28) (off := 0) rfl (by kernel_rfl) rfl (by kernel_rfl)) fun a H => ?_)
                refine st_op 11 10 (op_call (d := 83) H (by kernel_rfl) rfl (call_may (⟨c.client, c.inc, c.seq, c.kind, c.ino, c.gen, c.name, c.toIno, c.toGen, c.toName, n, c.size, c.data⟩ : CallS) A k (by first | assumption | exact ⟨w1, w2, w3, w4, w5, w6, w7, w8, w9, w10⟩ | exact ⟨w1, w2, w3, w4, w5, w6, hn, w8, w9, w10⟩ | exact ⟨w1, w2, w3, w4, w5, w6, w7, w8, hn, w10⟩ | exact ⟨w1, w2, w3, w4, w5, w6, w7, w8, w9, hn⟩) (by first | assumption | omega) (by first | assumption | omega) H.sat) fun a v w q F => ?_)
                obtain ⟨R15, hle, rfl, X⟩ := q
                have H := St.mk F X
                have hd := hd.grow hle
                have hT := hT.grow hle
                have hleR15 := hleR14.trans hle
                refine st_run 12 3 7 [(86, .bool (mayP (⟨c.client, c.inc, c.seq, c.kind, c.ino, c.gen, c.name, c.toIno, c.toGen, c.toName, n, c.size, c.data⟩ : CallS))), (85, .bool (mayP (⟨c.client, c.inc, c.seq, c.kind, c.ino, c.gen, c.name, c.toIno, c.toGen, c.toName, n, c.size, c.data⟩ : CallS))), (84, .bool (mayP (⟨c.client, c.inc, c.seq, c.kind, c.ino, c.gen, c.name, c.toIno, c.toGen, c.toName, n, c.size, c.data⟩ : CallS)))] H (by kernel_rfl) fun a H => ?_
                rcases Bool.eq_false_or_eq_true (mayP (⟨c.client, c.inc, c.seq, c.kind, c.ino, c.gen, c.name, c.toIno, c.toGen, c.toName, n, c.size, c.data⟩ : CallS)) with hg12 | hg12
                · skip
                  have H := H.also (d := 86) (u := .bool (mayP (⟨c.client, c.inc, c.seq, c.kind, c.ino, c.gen, c.name, c.toIno, c.toGen, c.toName, n, c.size, c.data⟩ : CallS))) (v := .bool true) (by kernel_rfl) (congrArg Value.bool (hg12))
                  refine st_run 15 7 0 [(93, .bool true), (92, undef), (91, undef), (90, undef), (89, undef), (88, undef), (87, undef)] H (by kernel_rfl) fun a H => ?_
                  refine ops_end _ ?_
                  refine st_true H (by kernel_rfl) ?_
                  refine WK.seq ?_
                  refine st_text 1 rfl ?_
                  refine st_run 0 1 0 [(6, .bool false)] H (by kernel_rfl) fun a H => ?_
                  refine ops_end _ ?_
                  refine st_ret (vs := [.bool false]) H Tryd.func3 rfl (.tmp (by kernel_rfl) (.nil)) ?_
                  have hp_hg3 := neB hg3
                  have hp_hg7 := neB hg7
                  have hp_hg10 := eq_of_beq hg10
                  have hp_hk9 := neB hk9
                  have hn0 : n ≠ 0 := neB hg2
                  have hs0 := neB hc1
                  exfalso
                  have hx := one_off hg12 (by simp only; omega) (by simp only; omega)
                  exact hn0 hx
                · skip
                  have H := H.also (d := 86) (u := .bool (mayP (⟨c.client, c.inc, c.seq, c.kind, c.ino, c.gen, c.name, c.toIno, c.toGen, c.toName, n, c.size, c.data⟩ : CallS))) (v := .bool false) (by kernel_rfl) (congrArg Value.bool (hg12))
                  refine st_run 15 7 0 [(93, .bool false), (92, .bool false), (91, undef), (90, undef), (89, .bool false), (88, .bool false), (87, .bool true)] H (by kernel_rfl) fun a H => ?_
                  refine ops_end _ ?_
                  refine st_false H (by kernel_rfl) ?_
                  refine WK.skip ?_
                  refine WK.seq ?_
                  refine st_text 17 rfl ?_
                  refine st_run 0 1 16 [(94, .pointer (some ⟨b1, 3, none⟩))] H (by kernel_rfl) fun a H => ?_
                  refine st_op 1 15 (op_val (d := 95) (v := .int .u8 c.kind) H (val_ld (k := 5) (t := 5) (off := 3) rfl (by kernel_rfl) rfl (by kernel_rfl)) fun a H => ?_)
                  refine st_run 2 2 13 [(97, .bool ((c.kind : Int) == 11)), (96, .bool ((c.kind : Int) == 11))] H (by kernel_rfl) fun a H => ?_
                  have hk10 : ((c.kind : Int) == 11) = false := by rw [eq_of_beq hg10]; rfl
                  have H := H.also (d := 97) (u := .bool ((c.kind : Int) == 11)) (v := .bool false) (by kernel_rfl) (congrArg Value.bool (hk10))
                  refine st_op 4 12 (op_val (d := 98) (v := .agg #[.int .u8 c.client, .int .u32 c.inc, .int .u64 c.seq, .int .u8 c.kind, .int .u32 c.ino, .int .u32 c.gen, .string c.name, .int .u32 n, .int .u32 c.toGen, .string c.toName, .int .u32 c.off, .int .u32 c.size, .slice A c.data.length k]) H (val_ld (k := 1) (t := 28) (off := 0) rfl (by kernel_rfl) rfl (by kernel_rfl)) fun a H => ?_)
                  refine st_op 5 11 (op_call (d := 99) H (by kernel_rfl) rfl (call_may (⟨c.client, c.inc, c.seq, c.kind, c.ino, c.gen, c.name, n, c.toGen, c.toName, c.off, c.size, c.data⟩ : CallS) A k (by first | assumption | exact ⟨w1, w2, w3, w4, w5, w6, w7, w8, w9, w10⟩ | exact ⟨w1, w2, w3, w4, w5, w6, hn, w8, w9, w10⟩ | exact ⟨w1, w2, w3, w4, w5, w6, w7, w8, hn, w10⟩ | exact ⟨w1, w2, w3, w4, w5, w6, w7, w8, w9, hn⟩) (by first | assumption | omega) (by first | assumption | omega) H.sat) fun a v w q F => ?_)
                  obtain ⟨R16, hle, rfl, X⟩ := q
                  have H := St.mk F X
                  have hd := hd.grow hle
                  have hT := hT.grow hle
                  have hleR16 := hleR15.trans hle
                  refine st_run 6 2 9 [(101, .bool (!(mayP (⟨c.client, c.inc, c.seq, c.kind, c.ino, c.gen, c.name, n, c.toGen, c.toName, c.off, c.size, c.data⟩ : CallS)))), (100, .bool (!(mayP (⟨c.client, c.inc, c.seq, c.kind, c.ino, c.gen, c.name, n, c.toGen, c.toName, c.off, c.size, c.data⟩ : CallS))))] H (by kernel_rfl) fun a H => ?_
                  rcases Bool.eq_false_or_eq_true (!(mayP (⟨c.client, c.inc, c.seq, c.kind, c.ino, c.gen, c.name, n, c.toGen, c.toName, c.off, c.size, c.data⟩ : CallS))) with hg13 | hg13
                  · skip
                    have H := H.also (d := 101) (u := .bool (!(mayP (⟨c.client, c.inc, c.seq, c.kind, c.ino, c.gen, c.name, n, c.toGen, c.toName, c.off, c.size, c.data⟩ : CallS)))) (v := .bool true) (by kernel_rfl) (congrArg Value.bool (hg13))
                    have hg13n := notT hg13
                    refine st_op 8 8 (op_val (d := 102) (v := .agg #[.int .u8 c.client, .int .u32 c.inc, .int .u64 c.seq, .int .u8 c.kind, .int .u32 c.ino, .int .u32 c.gen, .string c.name, .int .u32 c.toIno, .int .u32 c.toGen, .string s, .int .u32 c.off, .int .u32 c.size, .slice A c.data.length k]) H (val_ld (k := 0) (t := 28) (off := 0) rfl (by kernel_rfl) rfl (by kernel_rfl)) fun a H => ?_)
                    refine st_op 9 7 (op_call (d := 103) H (by kernel_rfl) rfl (call_may (⟨c.client, c.inc, c.seq, c.kind, c.ino, c.gen, c.name, c.toIno, c.toGen, s, c.off, c.size, c.data⟩ : CallS) A k (by first | assumption | exact ⟨w1, w2, w3, w4, w5, w6, w7, w8, w9, w10⟩ | exact ⟨w1, w2, w3, w4, w5, w6, hn, w8, w9, w10⟩ | exact ⟨w1, w2, w3, w4, w5, w6, w7, w8, hn, w10⟩ | exact ⟨w1, w2, w3, w4, w5, w6, w7, w8, w9, hn⟩) (by first | assumption | omega) (by first | assumption | omega) H.sat) fun a v w q F => ?_)
                    obtain ⟨R17, hle, rfl, X⟩ := q
                    have H := St.mk F X
                    have hd := hd.grow hle
                    have hT := hT.grow hle
                    have hleR17 := hleR16.trans hle
                    refine st_run 10 4 3 [(107, .bool (!(mayP (⟨c.client, c.inc, c.seq, c.kind, c.ino, c.gen, c.name, c.toIno, c.toGen, s, c.off, c.size, c.data⟩ : CallS)))), (106, .bool (!(mayP (⟨c.client, c.inc, c.seq, c.kind, c.ino, c.gen, c.name, c.toIno, c.toGen, s, c.off, c.size, c.data⟩ : CallS)))), (105, .bool (!(mayP (⟨c.client, c.inc, c.seq, c.kind, c.ino, c.gen, c.name, c.toIno, c.toGen, s, c.off, c.size, c.data⟩ : CallS)))), (104, .bool (!(mayP (⟨c.client, c.inc, c.seq, c.kind, c.ino, c.gen, c.name, c.toIno, c.toGen, s, c.off, c.size, c.data⟩ : CallS))))] H (by kernel_rfl) fun a H => ?_
                    rcases Bool.eq_false_or_eq_true (!(mayP (⟨c.client, c.inc, c.seq, c.kind, c.ino, c.gen, c.name, c.toIno, c.toGen, s, c.off, c.size, c.data⟩ : CallS))) with hg14 | hg14
                    · skip
                      have H := H.also (d := 107) (u := .bool (!(mayP (⟨c.client, c.inc, c.seq, c.kind, c.ino, c.gen, c.name, c.toIno, c.toGen, s, c.off, c.size, c.data⟩ : CallS)))) (v := .bool true) (by kernel_rfl) (congrArg Value.bool (hg14))
                      have hg14n := notT hg14
                      refine st_op 14 2 (op_call (d := 108) H (by kernel_rfl) rfl (law10_lives (by first | assumption | omega) H.sat) fun a v w q F => ?_)
                      obtain ⟨R18, hle, rfl, X⟩ := q
                      have H := St.mk F X
                      have hd := hd.grow hle
                      have hT := hT.grow hle
                      have hleR18 := hleR17.trans hle
                      refine st_run 15 2 0 [(6, .bool true), (109, .bool true)] H (by kernel_rfl) fun a H => ?_
                      refine ops_end _ ?_
                      refine st_ret (vs := [.bool true]) H Tryd.func3 rfl (.tmp (by kernel_rfl) (.nil)) ?_
                      have X := (H.sat.msk [false, false, false, false, false, false])
                      exact ⟨R18, hleR18, rfl, X⟩
                    · skip
                      have H := H.also (d := 107) (u := .bool (!(mayP (⟨c.client, c.inc, c.seq, c.kind, c.ino, c.gen, c.name, c.toIno, c.toGen, s, c.off, c.size, c.data⟩ : CallS)))) (v := .bool false) (by kernel_rfl) (congrArg Value.bool (hg14))
                      have hg14n := notF hg14
                      refine st_run 14 3 0 [(6, .bool false), (109, .bool false), (108, undef)] H (by kernel_rfl) fun a H => ?_
                      refine ops_end _ ?_
                      refine st_ret (vs := [.bool false]) H Tryd.func3 rfl (.tmp (by kernel_rfl) (.nil)) ?_
                      have hp_hg3 := neB hg3
                      have hp_hg7 := neB hg7
                      have hp_hg10 := eq_of_beq hg10
                      have hp_hk9 := neB hk9
                      have hp_hk10 := neB hk10
                      have hn0 : n ≠ 0 := neB hg2
                      have hs0 := neB hc1
                      exfalso
                      have hx := one_to hg14n (by simp only; omega)
                      exact hs0 (hx.2.trans (by kernel_rfl))
                  · skip
                    have H := H.also (d := 101) (u := .bool (!(mayP (⟨c.client, c.inc, c.seq, c.kind, c.ino, c.gen, c.name, n, c.toGen, c.toName, c.off, c.size, c.data⟩ : CallS)))) (v := .bool false) (by kernel_rfl) (congrArg Value.bool (hg13))
                    have hg13n := notF hg13
                    refine st_run 8 9 0 [(6, .bool false), (109, .bool false), (108, undef), (107, .bool false), (106, .bool false), (105, .bool false), (104, undef), (103, undef), (102, undef)] H (by kernel_rfl) fun a H => ?_
                    refine ops_end _ ?_
                    refine st_ret (vs := [.bool false]) H Tryd.func3 rfl (.tmp (by kernel_rfl) (.nil)) ?_
                    have hp_hg3 := neB hg3
                    have hp_hg7 := neB hg7
                    have hp_hg10 := eq_of_beq hg10
                    have hp_hk9 := neB hk9
                    have hp_hk10 := neB hk10
                    have hn0 : n ≠ 0 := neB hg2
                    have hs0 := neB hc1
                    exfalso
                    have hx := one_to hg13n (by simp only; omega)
                    exact hn0 hx.1
            · skip
              have H := H.also (d := 46) (u := .bool ((c.kind : Int) == 3)) (v := .bool false) (by kernel_rfl) (congrArg Value.bool (hg10))
              have hg10' := neB hg10
              refine st_run 4 1 9 [(47, .pointer (some ⟨b1, 3, none⟩))] H (by kernel_rfl) fun a H => ?_
              refine st_op 5 8 (op_val (d := 48) (v := .int .u8 c.kind) H (val_ld (k := 0) (t := 5) (off := 3) rfl (by kernel_rfl) rfl (by kernel_rfl)) fun a H => ?_)
              refine st_run 6 2 6 [(50, .bool (decide ((c.kind : Int) ≥ 7))), (49, .bool (decide ((c.kind : Int) ≥ 7)))] H (by kernel_rfl) fun a H => ?_
              rcases Bool.eq_false_or_eq_true (decide ((c.kind : Int) ≥ 7)) with hg15 | hg15
              · skip
                have H := H.also (d := 50) (u := .bool (decide ((c.kind : Int) ≥ 7))) (v := .bool true) (by kernel_rfl) (congrArg Value.bool (hg15))
                have hg15' := of_decide_eq_true hg15
                refine st_run 8 1 5 [(51, .pointer (some ⟨b1, 3, none⟩))] H (by kernel_rfl) fun a H => ?_
                refine st_op 9 4 (op_val (d := 52) (v := .int .u8 c.kind) H (val_ld (k := 0) (t := 5) (off := 3) rfl (by kernel_rfl) rfl (by kernel_rfl)) fun a H => ?_)
                refine st_run 10 4 0 [(9, .bool (decide ((c.kind : Int) ≤ 11))), (55, .bool (decide ((c.kind : Int) ≤ 11))), (54, .bool (decide ((c.kind : Int) ≤ 11))), (53, .bool (decide ((c.kind : Int) ≤ 11)))] H (by kernel_rfl) fun a H => ?_
                refine ops_end _ ?_
                refine WK.seq ?_
                refine st_floatsM [true] [.tk 0, .tk 1, .tk 2, .tk 3, .tk 4, .dc 5, .dc 6, .dc 7, .dc 8, .dc 9, .fl 5 4, .fl 6 3, .fl 7 2, .fl 8 1, .fl 9 0, .op 10, .op 11, .op 12, .op 13, .op 14] rfl (by kernel_rfl) (by kernel_rfl) (by kernel_rfl) H ?_
                refine z_tk 0 (d := 56) (.agg #[.int .u8 c.client, .int .u32 c.inc, .int .u64 c.seq, .int .u8 c.kind, .int .u32 c.ino, .int .u32 c.gen, .string c.name, .int .u32 c.toIno, .int .u32 c.toGen, .string c.toName, .int .u32 c.off, .int .u32 c.size, .slice A c.data.length k]) (val_ld (k := 0) (t := 28) (off := 0) rfl (by kernel_rfl) rfl (by kernel_rfl)) (by kernel_rfl) ?_
                refine z_tk 1 (d := 57) (.agg #[.int .u8 c.client, .int .u32 c.inc, .int .u64 c.seq, .int .u8 c.kind, .int .u32 c.ino, .int .u32 c.gen, .string c.name, .int .u32 c.toIno, .int .u32 c.toGen, .string c.toName, .int .u32 c.off, .int .u32 c.size, .slice A c.data.length k]) (val_ld (k := 0) (t := 28) (off := 0) rfl (by kernel_rfl) rfl (by kernel_rfl)) (by kernel_rfl) ?_
                refine z_tk 2 (d := 58) (.agg #[.int .u8 c.client, .int .u32 c.inc, .int .u64 c.seq, .int .u8 c.kind, .int .u32 c.ino, .int .u32 c.gen, .string c.name, .int .u32 c.toIno, .int .u32 c.toGen, .string c.toName, .int .u32 c.off, .int .u32 c.size, .slice A c.data.length k]) (val_ld (k := 0) (t := 28) (off := 0) rfl (by kernel_rfl) rfl (by kernel_rfl)) (by kernel_rfl) ?_
                refine z_tk 3 (d := 59) (.agg #[.int .u8 c.client, .int .u32 c.inc, .int .u64 c.seq, .int .u8 c.kind, .int .u32 c.ino, .int .u32 c.gen, .string c.name, .int .u32 c.toIno, .int .u32 c.toGen, .string c.toName, .int .u32 c.off, .int .u32 c.size, .slice A c.data.length k]) (val_ld (k := 0) (t := 28) (off := 0) rfl (by kernel_rfl) rfl (by kernel_rfl)) (by kernel_rfl) ?_
                refine z_tk 4 (d := 60) (.agg #[.int .u8 c.client, .int .u32 c.inc, .int .u64 c.seq, .int .u8 c.kind, .int .u32 c.ino, .int .u32 c.gen, .string c.name, .int .u32 c.toIno, .int .u32 c.toGen, .string c.toName, .int .u32 c.off, .int .u32 c.size, .slice A c.data.length k]) (val_ld (k := 0) (t := 28) (off := 0) rfl (by kernel_rfl) rfl (by kernel_rfl)) (by kernel_rfl) ?_
                refine z_dc 5 (d := 10) (fun b => .pointer (some ⟨b, 0, none⟩)) (.cells #[.int .u8 0, .int .u32 0, .int .u64 0, .int .u8 0, .int .u32 0, .int .u32 0, .string ByteArray.empty, .int .u32 0, .int .u32 0, .string ByteArray.empty, .int .u32 0, .int .u32 0, .slice none 0 0] 28) (IsNew.of_run rfl fun w => (by kernel_rfl)) (by kernel_rfl) ?_
                refine z_dc 6 (d := 11) (fun b => .pointer (some ⟨b, 0, none⟩)) (.cells #[.int .u8 0, .int .u32 0, .int .u64 0, .int .u8 0, .int .u32 0, .int .u32 0, .string ByteArray.empty, .int .u32 0, .int .u32 0, .string ByteArray.empty, .int .u32 0, .int .u32 0, .slice none 0 0] 28) (IsNew.of_run rfl fun w => (by kernel_rfl)) (by kernel_rfl) ?_
                refine z_dc 7 (d := 12) (fun b => .pointer (some ⟨b, 0, none⟩)) (.cells #[.int .u8 0, .int .u32 0, .int .u64 0, .int .u8 0, .int .u32 0, .int .u32 0, .string ByteArray.empty, .int .u32 0, .int .u32 0, .string ByteArray.empty, .int .u32 0, .int .u32 0, .slice none 0 0] 28) (IsNew.of_run rfl fun w => (by kernel_rfl)) (by kernel_rfl) ?_
                refine z_dc 8 (d := 13) (fun b => .pointer (some ⟨b, 0, none⟩)) (.cells #[.int .u8 0, .int .u32 0, .int .u64 0, .int .u8 0, .int .u32 0, .int .u32 0, .string ByteArray.empty, .int .u32 0, .int .u32 0, .string ByteArray.empty, .int .u32 0, .int .u32 0, .slice none 0 0] 28) (IsNew.of_run rfl fun w => (by kernel_rfl)) (by kernel_rfl) ?_
                refine z_dc 9 (d := 14) (fun b => .pointer (some ⟨b, 0, none⟩)) (.cells #[.int .u8 0, .int .u32 0, .int .u64 0, .int .u8 0, .int .u32 0, .int .u32 0, .string ByteArray.empty, .int .u32 0, .int .u32 0, .string ByteArray.empty, .int .u32 0, .int .u32 0, .slice none 0 0] 28) (IsNew.of_run rfl fun w => (by kernel_rfl)) (by kernel_rfl) ?_
                refine z_fl 4 rfl fun b17 => ⟨(by kernel_rfl), ?_⟩
                refine z_fl 3 rfl fun b18 => ⟨(by kernel_rfl), ?_⟩
                refine z_fl 2 rfl fun b19 => ⟨(by kernel_rfl), ?_⟩
                refine z_fl 1 rfl fun b20 => ⟨(by kernel_rfl), ?_⟩
                refine z_fl 0 rfl fun b21 => ⟨(by kernel_rfl), ?_⟩
                refine z_op 10 rfl fun a w Z H => ?_
                refine op_storeZ (k := 4) (t := 28) (off := 0) (v := .agg #[.int .u8 c.client, .int .u32 c.inc, .int .u64 c.seq, .int .u8 c.kind, .int .u32 c.ino, .int .u32 c.gen, .string c.name, .int .u32 c.toIno, .int .u32 c.toGen, .string c.toName, .int .u32 c.off, .int .u32 c.size, .slice A c.data.length k]) H rfl (by kernel_rfl) (by kernel_rfl) fun a w H => ?_
                refine z_on _ H (fun w Z X => X.mskZ [false, false, false, false, false, true] (by kernel_rfl)) (by kernel_rfl) ?_
                refine z_op 11 rfl fun a w Z H => ?_
                refine op_storeZ (k := 3) (t := 28) (off := 0) (v := .agg #[.int .u8 c.client, .int .u32 c.inc, .int .u64 c.seq, .int .u8 c.kind, .int .u32 c.ino, .int .u32 c.gen, .string c.name, .int .u32 c.toIno, .int .u32 c.toGen, .string c.toName, .int .u32 c.off, .int .u32 c.size, .slice A c.data.length k]) H rfl (by kernel_rfl) (by kernel_rfl) fun a w H => ?_
                refine z_on _ H (fun w Z X => X.mskZ [false, false, false, false, false, true] (by kernel_rfl)) (by kernel_rfl) ?_
                refine z_op 12 rfl fun a w Z H => ?_
                refine op_storeZ (k := 2) (t := 28) (off := 0) (v := .agg #[.int .u8 c.client, .int .u32 c.inc, .int .u64 c.seq, .int .u8 c.kind, .int .u32 c.ino, .int .u32 c.gen, .string c.name, .int .u32 c.toIno, .int .u32 c.toGen, .string c.toName, .int .u32 c.off, .int .u32 c.size, .slice A c.data.length k]) H rfl (by kernel_rfl) (by kernel_rfl) fun a w H => ?_
                refine z_on _ H (fun w Z X => X.mskZ [false, false, false, false, false, true] (by kernel_rfl)) (by kernel_rfl) ?_
                refine z_op 13 rfl fun a w Z H => ?_
                refine op_storeZ (k := 1) (t := 28) (off := 0) (v := .agg #[.int .u8 c.client, .int .u32 c.inc, .int .u64 c.seq, .int .u8 c.kind, .int .u32 c.ino, .int .u32 c.gen, .string c.name, .int .u32 c.toIno, .int .u32 c.toGen, .string c.toName, .int .u32 c.off, .int .u32 c.size, .slice A c.data.length k]) H rfl (by kernel_rfl) (by kernel_rfl) fun a w H => ?_
                refine z_on _ H (fun w Z X => X.mskZ [false, false, false, false, false, true] (by kernel_rfl)) (by kernel_rfl) ?_
                refine z_op 14 rfl fun a w Z H => ?_
                refine op_storeZ (k := 0) (t := 28) (off := 0) (v := .agg #[.int .u8 c.client, .int .u32 c.inc, .int .u64 c.seq, .int .u8 c.kind, .int .u32 c.ino, .int .u32 c.gen, .string c.name, .int .u32 c.toIno, .int .u32 c.toGen, .string c.toName, .int .u32 c.off, .int .u32 c.size, .slice A c.data.length k]) H rfl (by kernel_rfl) (by kernel_rfl) fun a w H => ?_
                refine z_last _ H (by kernel_rfl) ?_
                refine z_end [] fun a w H => ?_
                refine WK.seq ?_
                refine st_text 3 rfl ?_
                refine st_run 0 2 1 [(62, .pointer (some ⟨b17, 11, none⟩)), (61, .int .u32 n)] H (by kernel_rfl) fun a H => ?_
                refine st_op 2 0 (op_store (k := 4) (t := 22) (off := 11) (v := .int .u32 n) H rfl (by kernel_rfl) (by kernel_rfl) fun a w H => ?_)
                refine ops_end _ ?_
                refine WK.seq ?_
                refine st_text 3 rfl ?_
                refine st_run 0 2 1 [(64, .pointer (some ⟨b18, 10, none⟩)), (63, .int .u32 n)] H (by kernel_rfl) fun a H => ?_
                refine st_op 2 0 (op_store (k := 3) (t := 22) (off := 10) (v := .int .u32 n) H rfl (by kernel_rfl) (by kernel_rfl) fun a w H => ?_)
                refine ops_end _ ?_
                refine WK.seq ?_
                refine st_text 3 rfl ?_
                refine st_run 0 2 1 [(66, .pointer (some ⟨b19, 6, none⟩)), (65, .string s)] H (by kernel_rfl) fun a H => ?_
                refine st_op 2 0 (op_store (k := 2) (t := 9) (off := 6) (v := .string s) H rfl (by kernel_rfl) (by kernel_rfl) fun a w H => ?_)
                refine ops_end _ ?_
                refine WK.seq ?_
                refine st_text 4 rfl ?_
                refine st_run 0 3 1 [(69, .pointer (some ⟨b20, 7, none⟩)), (68, .pointer (some ⟨b20, 7, none⟩)), (67, .int .u32 n)] H (by kernel_rfl) fun a H => ?_
                refine st_op 3 0 (op_store (k := 1) (t := 22) (off := 7) (v := .int .u32 n) H rfl (by kernel_rfl) (by kernel_rfl) fun a w H => ?_)
                refine ops_end _ ?_
                refine WK.seq ?_
                refine st_text 3 rfl ?_
                refine st_run 0 2 1 [(71, .pointer (some ⟨b21, 9, none⟩)), (70, .string s)] H (by kernel_rfl) fun a H => ?_
                refine st_op 2 0 (op_store (k := 0) (t := 9) (off := 9) (v := .string s) H rfl (by kernel_rfl) (by kernel_rfl) fun a w H => ?_)
                refine ops_end _ ?_
                refine WK.seq ?_
                refine WK.seq ?_
                refine st_text 22 rfl ?_
                refine st_run 0 3 19 [(74, .bool (!((c.kind : Int) == 4))), (73, .bool (!((c.kind : Int) == 4))), (72, .bool ((c.kind : Int) == 4))] H (by kernel_rfl) fun a H => ?_
                have H := H.also (d := 74) (u := .bool (!((c.kind : Int) == 4))) (v := .bool true) (by kernel_rfl) (congrArg Value.bool (by simp only [hg7]; rfl))
                refine st_op 3 18 (op_val (d := 75) (v := .agg #[.int .u8 c.client, .int .u32 c.inc, .int .u64 c.seq, .int .u8 c.kind, .int .u32 c.ino, .int .u32 c.gen, .string c.name, .int .u32 c.toIno, .int .u32 c.toGen, .string c.toName, .int .u32 c.off, .int .u32 n, .slice A c.data.length k]) H (val_ld (k := 4) (t := 28) (off := 0) rfl (by kernel_rfl) rfl (by kernel_rfl)) fun a H => ?_)
                refine st_op 4 17 (op_call (d := 76) H (by kernel_rfl) rfl (call_may (⟨c.client, c.inc, c.seq, c.kind, c.ino, c.gen, c.name, c.toIno, c.toGen, c.toName, c.off, n, c.data⟩ : CallS) A k (by first | assumption | exact ⟨w1, w2, w3, w4, w5, w6, w7, w8, w9, w10⟩ | exact ⟨w1, w2, w3, w4, w5, w6, hn, w8, w9, w10⟩ | exact ⟨w1, w2, w3, w4, w5, w6, w7, w8, hn, w10⟩ | exact ⟨w1, w2, w3, w4, w5, w6, w7, w8, w9, hn⟩) (by first | assumption | omega) (by first | assumption | omega) H.sat) fun a v w q F => ?_)
                obtain ⟨R19, hle, rfl, X⟩ := q
                have H := St.mk F X
                have hd := hd.grow hle
                have hT := hT.grow hle
                have hleR19 := hleR1.trans hle
                refine st_run 5 2 15 [(78, .bool (mayP (⟨c.client, c.inc, c.seq, c.kind, c.ino, c.gen, c.name, c.toIno, c.toGen, c.toName, c.off, n, c.data⟩ : CallS))), (77, .bool (mayP (⟨c.client, c.inc, c.seq, c.kind, c.ino, c.gen, c.name, c.toIno, c.toGen, c.toName, c.off, n, c.data⟩ : CallS)))] H (by kernel_rfl) fun a H => ?_
                rcases Bool.eq_false_or_eq_true (mayP (⟨c.client, c.inc, c.seq, c.kind, c.ino, c.gen, c.name, c.toIno, c.toGen, c.toName, c.off, n, c.data⟩ : CallS)) with hg16 | hg16
                · skip
                  have H := H.also (d := 78) (u := .bool (mayP (⟨c.client, c.inc, c.seq, c.kind, c.ino, c.gen, c.name, c.toIno, c.toGen, c.toName, c.off, n, c.data⟩ : CallS))) (v := .bool true) (by kernel_rfl) (congrArg Value.bool (hg16))
                  refine st_run 7 15 0 [(93, .bool true), (92, undef), (91, undef), (90, undef), (89, undef), (88, undef), (87, undef), (86, .bool true), (85, .bool true), (84, undef), (83, undef), (82, undef), (81, undef), (80, undef), (79, undef)] H (by kernel_rfl) fun a H => ?_
                  refine ops_end _ ?_
                  refine st_true H (by kernel_rfl) ?_
                  refine WK.seq ?_
                  refine st_text 1 rfl ?_
                  refine st_run 0 1 0 [(6, .bool false)] H (by kernel_rfl) fun a H => ?_
                  refine ops_end _ ?_
                  refine st_ret (vs := [.bool false]) H Tryd.func3 rfl (.tmp (by kernel_rfl) (.nil)) ?_
                  have hp_hg3 := neB hg3
                  have hp_hg7 := neB hg7
                  have hp_hg10 := neB hg10
                  have hp_hg15 := of_decide_eq_true hg15
                  have hn0 : n ≠ 0 := neB hg2
                  have hs0 := neB hc1
                  exfalso
                  have hx := one_size hg16 (by simp only; omega) (by simp only; omega)
                  exact hn0 hx
                · skip
                  have H := H.also (d := 78) (u := .bool (mayP (⟨c.client, c.inc, c.seq, c.kind, c.ino, c.gen, c.name, c.toIno, c.toGen, c.toName, c.off, n, c.data⟩ : CallS))) (v := .bool false) (by kernel_rfl) (congrArg Value.bool (hg16))
                  refine st_run 7 3 12 [(81, .bool (!((c.kind : Int) == 5))), (80, .bool (!((c.kind : Int) == 5))), (79, .bool ((c.kind : Int) == 5))] H (by kernel_rfl) fun a H => ?_
                  rcases Bool.eq_false_or_eq_true (!((c.kind : Int) == 5)) with hg17 | hg17
                  · skip
                    have H := H.also (d := 81) (u := .bool (!((c.kind : Int) == 5))) (v := .bool true) (by kernel_rfl) (congrArg Value.bool (hg17))
                    have hg17n := notT hg17
                    have hg17' := neB (notT hg17)
                    refine st_op 10 11 (op_val (d := 82) (v := .agg #[.int .u8 c.client, .int .u32 c.inc, .int .u64 c.seq, .int .u8 c.kind, .int .u32 c.ino, .int .u32 c.gen, .string c.name, .int .u32 c.toIno, .int .u32 c.toGen, .string c.toName, .int .u32 n, .int .u32 c.size, .slice A c.data.length k]) H (val_ld (k := 3) (t := 28) (off := 0) rfl (by kernel_rfl) rfl (by kernel_rfl)) fun a H => ?_)
                    refine st_op 11 10 (op_call (d := 83) H (by kernel_rfl) rfl (call_may (⟨c.client, c.inc, c.seq, c.kind, c.ino, c.gen, c.name, c.toIno, c.toGen, c.toName, n, c.size, c.data⟩ : CallS) A k (by first | assumption | exact ⟨w1, w2, w3, w4, w5, w6, w7, w8, w9, w10⟩ | exact ⟨w1, w2, w3, w4, w5, w6, hn, w8, w9, w10⟩ | exact ⟨w1, w2, w3, w4, w5, w6, w7, w8, hn, w10⟩ | exact ⟨w1, w2, w3, w4, w5, w6, w7, w8, w9, hn⟩) (by first | assumption | omega) (by first | assumption | omega) H.sat) fun a v w q F => ?_)
                    obtain ⟨R20, hle, rfl, X⟩ := q
                    have H := St.mk F X
                    have hd := hd.grow hle
                    have hT := hT.grow hle
                    have hleR20 := hleR19.trans hle
                    refine st_run 12 3 7 [(86, .bool (mayP (⟨c.client, c.inc, c.seq, c.kind, c.ino, c.gen, c.name, c.toIno, c.toGen, c.toName, n, c.size, c.data⟩ : CallS))), (85, .bool (mayP (⟨c.client, c.inc, c.seq, c.kind, c.ino, c.gen, c.name, c.toIno, c.toGen, c.toName, n, c.size, c.data⟩ : CallS))), (84, .bool (mayP (⟨c.client, c.inc, c.seq, c.kind, c.ino, c.gen, c.name, c.toIno, c.toGen, c.toName, n, c.size, c.data⟩ : CallS)))] H (by kernel_rfl) fun a H => ?_
                    rcases Bool.eq_false_or_eq_true (mayP (⟨c.client, c.inc, c.seq, c.kind, c.ino, c.gen, c.name, c.toIno, c.toGen, c.toName, n, c.size, c.data⟩ : CallS)) with hg18 | hg18
                    · skip
                      have H := H.also (d := 86) (u := .bool (mayP (⟨c.client, c.inc, c.seq, c.kind, c.ino, c.gen, c.name, c.toIno, c.toGen, c.toName, n, c.size, c.data⟩ : CallS))) (v := .bool true) (by kernel_rfl) (congrArg Value.bool (hg18))
                      refine st_run 15 7 0 [(93, .bool true), (92, undef), (91, undef), (90, undef), (89, undef), (88, undef), (87, undef)] H (by kernel_rfl) fun a H => ?_
                      refine ops_end _ ?_
                      refine st_true H (by kernel_rfl) ?_
                      refine WK.seq ?_
                      refine st_text 1 rfl ?_
                      refine st_run 0 1 0 [(6, .bool false)] H (by kernel_rfl) fun a H => ?_
                      refine ops_end _ ?_
                      refine st_ret (vs := [.bool false]) H Tryd.func3 rfl (.tmp (by kernel_rfl) (.nil)) ?_
                      have hp_hg3 := neB hg3
                      have hp_hg7 := neB hg7
                      have hp_hg10 := neB hg10
                      have hp_hg15 := of_decide_eq_true hg15
                      have hp_hg17n := neB hg17n
                      have hn0 : n ≠ 0 := neB hg2
                      have hs0 := neB hc1
                      exfalso
                      have hx := one_off hg18 (by simp only; omega) (by simp only; omega)
                      exact hn0 hx
                    · skip
                      have H := H.also (d := 86) (u := .bool (mayP (⟨c.client, c.inc, c.seq, c.kind, c.ino, c.gen, c.name, c.toIno, c.toGen, c.toName, n, c.size, c.data⟩ : CallS))) (v := .bool false) (by kernel_rfl) (congrArg Value.bool (hg18))
                      refine st_run 15 3 4 [(89, .bool (!(decide ((c.kind : Int) ≤ 11)))), (88, .bool (!(decide ((c.kind : Int) ≤ 11)))), (87, .bool (decide ((c.kind : Int) ≤ 11)))] H (by kernel_rfl) fun a H => ?_
                      rcases Bool.eq_false_or_eq_true (!(decide ((c.kind : Int) ≤ 11))) with hg19 | hg19
                      · skip
                        have H := H.also (d := 89) (u := .bool (!(decide ((c.kind : Int) ≤ 11)))) (v := .bool true) (by kernel_rfl) (congrArg Value.bool (hg19))
                        have hg19n := notT hg19
                        have hg19' := of_decide_eq_false (notT hg19)
                        refine st_op 18 3 (op_val (d := 90) (v := .agg #[.int .u8 c.client, .int .u32 c.inc, .int .u64 c.seq, .int .u8 c.kind, .int .u32 c.ino, .int .u32 c.gen, .string s, .int .u32 c.toIno, .int .u32 c.toGen, .string c.toName, .int .u32 c.off, .int .u32 c.size, .slice A c.data.length k]) H (val_ld (k := 2) (t := 28) (off := 0) rfl (by kernel_rfl) rfl (by kernel_rfl)) fun a H => ?_)
                        refine st_op 19 2 (op_call (d := 91) H (by kernel_rfl) rfl (call_may (⟨c.client, c.inc, c.seq, c.kind, c.ino, c.gen, s, c.toIno, c.toGen, c.toName, c.off, c.size, c.data⟩ : CallS) A k (by first | assumption | exact ⟨w1, w2, w3, w4, w5, w6, w7, w8, w9, w10⟩ | exact ⟨w1, w2, w3, w4, w5, w6, hn, w8, w9, w10⟩ | exact ⟨w1, w2, w3, w4, w5, w6, w7, w8, hn, w10⟩ | exact ⟨w1, w2, w3, w4, w5, w6, w7, w8, w9, hn⟩) (by first | assumption | omega) (by first | assumption | omega) H.sat) fun a v w q F => ?_)
                        obtain ⟨R21, hle, rfl, X⟩ := q
                        have H := St.mk F X
                        have hd := hd.grow hle
                        have hT := hT.grow hle
                        have hleR21 := hleR20.trans hle
                        refine st_run 20 2 0 [(93, .bool (mayP (⟨c.client, c.inc, c.seq, c.kind, c.ino, c.gen, s, c.toIno, c.toGen, c.toName, c.off, c.size, c.data⟩ : CallS))), (92, .bool (mayP (⟨c.client, c.inc, c.seq, c.kind, c.ino, c.gen, s, c.toIno, c.toGen, c.toName, c.off, c.size, c.data⟩ : CallS)))] H (by kernel_rfl) fun a H => ?_
                        refine ops_end _ ?_
                        refine st_cond (mayP (⟨c.client, c.inc, c.seq, c.kind, c.ino, c.gen, s, c.toIno, c.toGen, c.toName, c.off, c.size, c.data⟩ : CallS)) H (by kernel_rfl) ?_ ?_
                        · intro hc4
                          refine WK.seq ?_
                          refine st_text 1 rfl ?_
                          refine st_run 0 1 0 [(6, .bool false)] H (by kernel_rfl) fun a H => ?_
                          refine ops_end _ ?_
                          refine st_ret (vs := [.bool false]) H Tryd.func3 rfl (.tmp (by kernel_rfl) (.nil)) ?_
                          have hp_hg3 := neB hg3
                          have hp_hg7 := neB hg7
                          have hp_hg10 := neB hg10
                          have hp_hg15 := of_decide_eq_true hg15
                          have hp_hg17n := neB hg17n
                          have hp_hg19n := of_decide_eq_false hg19n
                          have hn0 : n ≠ 0 := neB hg2
                          have hs0 := neB hc1
                          exfalso
                          have hx := one_name hc4 (by simp only; omega) (by simp only; omega)
                          exact hs0 (hx.trans (by kernel_rfl))
                        · intro hc4
                          refine WK.skip ?_
                          refine WK.seq ?_
                          refine st_text 17 rfl ?_
                          refine st_run 0 1 16 [(94, .pointer (some ⟨b1, 3, none⟩))] H (by kernel_rfl) fun a H => ?_
                          refine st_op 1 15 (op_val (d := 95) (v := .int .u8 c.kind) H (val_ld (k := 5) (t := 5) (off := 3) rfl (by kernel_rfl) rfl (by kernel_rfl)) fun a H => ?_)
                          refine st_run 2 2 13 [(97, .bool ((c.kind : Int) == 11)), (96, .bool ((c.kind : Int) == 11))] H (by kernel_rfl) fun a H => ?_
                          rcases Bool.eq_false_or_eq_true ((c.kind : Int) == 11) with hg20 | hg20
                          · skip
                            have H := H.also (d := 97) (u := .bool ((c.kind : Int) == 11)) (v := .bool true) (by kernel_rfl) (congrArg Value.bool (hg20))
                            have hg20' := eq_of_beq hg20
                            refine st_run 4 10 3 [(107, .bool true), (106, .bool true), (105, undef), (104, undef), (103, undef), (102, undef), (101, undef), (100, undef), (99, undef), (98, undef)] H (by kernel_rfl) fun a H => ?_
                            refine st_op 14 2 (op_call (d := 108) H (by kernel_rfl) rfl (law10_lives (by first | assumption | omega) H.sat) fun a v w q F => ?_)
                            obtain ⟨R22, hle, rfl, X⟩ := q
                            have H := St.mk F X
                            have hd := hd.grow hle
                            have hT := hT.grow hle
                            have hleR22 := hleR21.trans hle
                            refine st_run 15 2 0 [(6, .bool true), (109, .bool true)] H (by kernel_rfl) fun a H => ?_
                            refine ops_end _ ?_
                            refine st_ret (vs := [.bool true]) H Tryd.func3 rfl (.tmp (by kernel_rfl) (.nil)) ?_
                            have X := (H.sat.msk [false, false, false, false, false, false])
                            exact ⟨R22, hleR22, rfl, X⟩
                          · skip
                            have H := H.also (d := 97) (u := .bool ((c.kind : Int) == 11)) (v := .bool false) (by kernel_rfl) (congrArg Value.bool (hg20))
                            have hg20' := neB hg20
                            refine st_op 4 12 (op_val (d := 98) (v := .agg #[.int .u8 c.client, .int .u32 c.inc, .int .u64 c.seq, .int .u8 c.kind, .int .u32 c.ino, .int .u32 c.gen, .string c.name, .int .u32 n, .int .u32 c.toGen, .string c.toName, .int .u32 c.off, .int .u32 c.size, .slice A c.data.length k]) H (val_ld (k := 1) (t := 28) (off := 0) rfl (by kernel_rfl) rfl (by kernel_rfl)) fun a H => ?_)
                            refine st_op 5 11 (op_call (d := 99) H (by kernel_rfl) rfl (call_may (⟨c.client, c.inc, c.seq, c.kind, c.ino, c.gen, c.name, n, c.toGen, c.toName, c.off, c.size, c.data⟩ : CallS) A k (by first | assumption | exact ⟨w1, w2, w3, w4, w5, w6, w7, w8, w9, w10⟩ | exact ⟨w1, w2, w3, w4, w5, w6, hn, w8, w9, w10⟩ | exact ⟨w1, w2, w3, w4, w5, w6, w7, w8, hn, w10⟩ | exact ⟨w1, w2, w3, w4, w5, w6, w7, w8, w9, hn⟩) (by first | assumption | omega) (by first | assumption | omega) H.sat) fun a v w q F => ?_)
                            obtain ⟨R23, hle, rfl, X⟩ := q
                            have H := St.mk F X
                            have hd := hd.grow hle
                            have hT := hT.grow hle
                            have hleR23 := hleR21.trans hle
                            refine st_run 6 2 9 [(101, .bool (!(mayP (⟨c.client, c.inc, c.seq, c.kind, c.ino, c.gen, c.name, n, c.toGen, c.toName, c.off, c.size, c.data⟩ : CallS)))), (100, .bool (!(mayP (⟨c.client, c.inc, c.seq, c.kind, c.ino, c.gen, c.name, n, c.toGen, c.toName, c.off, c.size, c.data⟩ : CallS))))] H (by kernel_rfl) fun a H => ?_
                            rcases Bool.eq_false_or_eq_true (!(mayP (⟨c.client, c.inc, c.seq, c.kind, c.ino, c.gen, c.name, n, c.toGen, c.toName, c.off, c.size, c.data⟩ : CallS))) with hg21 | hg21
                            · skip
                              have H := H.also (d := 101) (u := .bool (!(mayP (⟨c.client, c.inc, c.seq, c.kind, c.ino, c.gen, c.name, n, c.toGen, c.toName, c.off, c.size, c.data⟩ : CallS)))) (v := .bool true) (by kernel_rfl) (congrArg Value.bool (hg21))
                              have hg21n := notT hg21
                              refine st_op 8 8 (op_val (d := 102) (v := .agg #[.int .u8 c.client, .int .u32 c.inc, .int .u64 c.seq, .int .u8 c.kind, .int .u32 c.ino, .int .u32 c.gen, .string c.name, .int .u32 c.toIno, .int .u32 c.toGen, .string s, .int .u32 c.off, .int .u32 c.size, .slice A c.data.length k]) H (val_ld (k := 0) (t := 28) (off := 0) rfl (by kernel_rfl) rfl (by kernel_rfl)) fun a H => ?_)
                              refine st_op 9 7 (op_call (d := 103) H (by kernel_rfl) rfl (call_may (⟨c.client, c.inc, c.seq, c.kind, c.ino, c.gen, c.name, c.toIno, c.toGen, s, c.off, c.size, c.data⟩ : CallS) A k (by first | assumption | exact ⟨w1, w2, w3, w4, w5, w6, w7, w8, w9, w10⟩ | exact ⟨w1, w2, w3, w4, w5, w6, hn, w8, w9, w10⟩ | exact ⟨w1, w2, w3, w4, w5, w6, w7, w8, hn, w10⟩ | exact ⟨w1, w2, w3, w4, w5, w6, w7, w8, w9, hn⟩) (by first | assumption | omega) (by first | assumption | omega) H.sat) fun a v w q F => ?_)
                              obtain ⟨R24, hle, rfl, X⟩ := q
                              have H := St.mk F X
                              have hd := hd.grow hle
                              have hT := hT.grow hle
                              have hleR24 := hleR23.trans hle
                              refine st_run 10 4 3 [(107, .bool (!(mayP (⟨c.client, c.inc, c.seq, c.kind, c.ino, c.gen, c.name, c.toIno, c.toGen, s, c.off, c.size, c.data⟩ : CallS)))), (106, .bool (!(mayP (⟨c.client, c.inc, c.seq, c.kind, c.ino, c.gen, c.name, c.toIno, c.toGen, s, c.off, c.size, c.data⟩ : CallS)))), (105, .bool (!(mayP (⟨c.client, c.inc, c.seq, c.kind, c.ino, c.gen, c.name, c.toIno, c.toGen, s, c.off, c.size, c.data⟩ : CallS)))), (104, .bool (!(mayP (⟨c.client, c.inc, c.seq, c.kind, c.ino, c.gen, c.name, c.toIno, c.toGen, s, c.off, c.size, c.data⟩ : CallS))))] H (by kernel_rfl) fun a H => ?_
                              rcases Bool.eq_false_or_eq_true (!(mayP (⟨c.client, c.inc, c.seq, c.kind, c.ino, c.gen, c.name, c.toIno, c.toGen, s, c.off, c.size, c.data⟩ : CallS))) with hg22 | hg22
                              · skip
                                have H := H.also (d := 107) (u := .bool (!(mayP (⟨c.client, c.inc, c.seq, c.kind, c.ino, c.gen, c.name, c.toIno, c.toGen, s, c.off, c.size, c.data⟩ : CallS)))) (v := .bool true) (by kernel_rfl) (congrArg Value.bool (hg22))
                                have hg22n := notT hg22
                                refine st_op 14 2 (op_call (d := 108) H (by kernel_rfl) rfl (law10_lives (by first | assumption | omega) H.sat) fun a v w q F => ?_)
                                obtain ⟨R25, hle, rfl, X⟩ := q
                                have H := St.mk F X
                                have hd := hd.grow hle
                                have hT := hT.grow hle
                                have hleR25 := hleR24.trans hle
                                refine st_run 15 2 0 [(6, .bool true), (109, .bool true)] H (by kernel_rfl) fun a H => ?_
                                refine ops_end _ ?_
                                refine st_ret (vs := [.bool true]) H Tryd.func3 rfl (.tmp (by kernel_rfl) (.nil)) ?_
                                have X := (H.sat.msk [false, false, false, false, false, false])
                                exact ⟨R25, hleR25, rfl, X⟩
                              · skip
                                have H := H.also (d := 107) (u := .bool (!(mayP (⟨c.client, c.inc, c.seq, c.kind, c.ino, c.gen, c.name, c.toIno, c.toGen, s, c.off, c.size, c.data⟩ : CallS)))) (v := .bool false) (by kernel_rfl) (congrArg Value.bool (hg22))
                                have hg22n := notF hg22
                                refine st_run 14 3 0 [(6, .bool false), (109, .bool false), (108, undef)] H (by kernel_rfl) fun a H => ?_
                                refine ops_end _ ?_
                                refine st_ret (vs := [.bool false]) H Tryd.func3 rfl (.tmp (by kernel_rfl) (.nil)) ?_
                                have hp_hg3 := neB hg3
                                have hp_hg7 := neB hg7
                                have hp_hg10 := neB hg10
                                have hp_hg15 := of_decide_eq_true hg15
                                have hp_hg17n := neB hg17n
                                have hp_hg19n := of_decide_eq_false hg19n
                                have hp_hg20 := neB hg20
                                have hn0 : n ≠ 0 := neB hg2
                                have hs0 := neB hc1
                                exfalso
                                have hx := one_to hg22n (by simp only; omega)
                                exact hs0 (hx.2.trans (by kernel_rfl))
                            · skip
                              have H := H.also (d := 101) (u := .bool (!(mayP (⟨c.client, c.inc, c.seq, c.kind, c.ino, c.gen, c.name, n, c.toGen, c.toName, c.off, c.size, c.data⟩ : CallS)))) (v := .bool false) (by kernel_rfl) (congrArg Value.bool (hg21))
                              have hg21n := notF hg21
                              refine st_run 8 9 0 [(6, .bool false), (109, .bool false), (108, undef), (107, .bool false), (106, .bool false), (105, .bool false), (104, undef), (103, undef), (102, undef)] H (by kernel_rfl) fun a H => ?_
                              refine ops_end _ ?_
                              refine st_ret (vs := [.bool false]) H Tryd.func3 rfl (.tmp (by kernel_rfl) (.nil)) ?_
                              have hp_hg3 := neB hg3
                              have hp_hg7 := neB hg7
                              have hp_hg10 := neB hg10
                              have hp_hg15 := of_decide_eq_true hg15
                              have hp_hg17n := neB hg17n
                              have hp_hg19n := of_decide_eq_false hg19n
                              have hp_hg20 := neB hg20
                              have hn0 : n ≠ 0 := neB hg2
                              have hs0 := neB hc1
                              exfalso
                              have hx := one_to hg21n (by simp only; omega)
                              exact hn0 hx.1
                      · skip
                        have H := H.also (d := 89) (u := .bool (!(decide ((c.kind : Int) ≤ 11)))) (v := .bool false) (by kernel_rfl) (congrArg Value.bool (hg19))
                        have hg19n := notF hg19
                        have hg19' := of_decide_eq_true (notF hg19)
                        refine st_run 18 4 0 [(93, .bool false), (92, .bool false), (91, undef), (90, undef)] H (by kernel_rfl) fun a H => ?_
                        refine ops_end _ ?_
                        refine st_false H (by kernel_rfl) ?_
                        refine WK.skip ?_
                        refine WK.seq ?_
                        refine st_text 17 rfl ?_
                        refine st_run 0 1 16 [(94, .pointer (some ⟨b1, 3, none⟩))] H (by kernel_rfl) fun a H => ?_
                        refine st_op 1 15 (op_val (d := 95) (v := .int .u8 c.kind) H (val_ld (k := 5) (t := 5) (off := 3) rfl (by kernel_rfl) rfl (by kernel_rfl)) fun a H => ?_)
                        refine st_run 2 2 13 [(97, .bool ((c.kind : Int) == 11)), (96, .bool ((c.kind : Int) == 11))] H (by kernel_rfl) fun a H => ?_
                        rcases Bool.eq_false_or_eq_true ((c.kind : Int) == 11) with hg23 | hg23
                        · skip
                          have H := H.also (d := 97) (u := .bool ((c.kind : Int) == 11)) (v := .bool true) (by kernel_rfl) (congrArg Value.bool (hg23))
                          have hg23' := eq_of_beq hg23
                          refine st_run 4 10 3 [(107, .bool true), (106, .bool true), (105, undef), (104, undef), (103, undef), (102, undef), (101, undef), (100, undef), (99, undef), (98, undef)] H (by kernel_rfl) fun a H => ?_
                          refine st_op 14 2 (op_call (d := 108) H (by kernel_rfl) rfl (law10_lives (by first | assumption | omega) H.sat) fun a v w q F => ?_)
                          obtain ⟨R26, hle, rfl, X⟩ := q
                          have H := St.mk F X
                          have hd := hd.grow hle
                          have hT := hT.grow hle
                          have hleR26 := hleR20.trans hle
                          refine st_run 15 2 0 [(6, .bool true), (109, .bool true)] H (by kernel_rfl) fun a H => ?_
                          refine ops_end _ ?_
                          refine st_ret (vs := [.bool true]) H Tryd.func3 rfl (.tmp (by kernel_rfl) (.nil)) ?_
                          have X := (H.sat.msk [false, false, false, false, false, false])
                          exact ⟨R26, hleR26, rfl, X⟩
                        · skip
                          have H := H.also (d := 97) (u := .bool ((c.kind : Int) == 11)) (v := .bool false) (by kernel_rfl) (congrArg Value.bool (hg23))
                          have hg23' := neB hg23
                          refine st_op 4 12 (op_val (d := 98) (v := .agg #[.int .u8 c.client, .int .u32 c.inc, .int .u64 c.seq, .int .u8 c.kind, .int .u32 c.ino, .int .u32 c.gen, .string c.name, .int .u32 n, .int .u32 c.toGen, .string c.toName, .int .u32 c.off, .int .u32 c.size, .slice A c.data.length k]) H (val_ld (k := 1) (t := 28) (off := 0) rfl (by kernel_rfl) rfl (by kernel_rfl)) fun a H => ?_)
                          refine st_op 5 11 (op_call (d := 99) H (by kernel_rfl) rfl (call_may (⟨c.client, c.inc, c.seq, c.kind, c.ino, c.gen, c.name, n, c.toGen, c.toName, c.off, c.size, c.data⟩ : CallS) A k (by first | assumption | exact ⟨w1, w2, w3, w4, w5, w6, w7, w8, w9, w10⟩ | exact ⟨w1, w2, w3, w4, w5, w6, hn, w8, w9, w10⟩ | exact ⟨w1, w2, w3, w4, w5, w6, w7, w8, hn, w10⟩ | exact ⟨w1, w2, w3, w4, w5, w6, w7, w8, w9, hn⟩) (by first | assumption | omega) (by first | assumption | omega) H.sat) fun a v w q F => ?_)
                          obtain ⟨R27, hle, rfl, X⟩ := q
                          have H := St.mk F X
                          have hd := hd.grow hle
                          have hT := hT.grow hle
                          have hleR27 := hleR20.trans hle
                          refine st_run 6 2 9 [(101, .bool (!(mayP (⟨c.client, c.inc, c.seq, c.kind, c.ino, c.gen, c.name, n, c.toGen, c.toName, c.off, c.size, c.data⟩ : CallS)))), (100, .bool (!(mayP (⟨c.client, c.inc, c.seq, c.kind, c.ino, c.gen, c.name, n, c.toGen, c.toName, c.off, c.size, c.data⟩ : CallS))))] H (by kernel_rfl) fun a H => ?_
                          rcases Bool.eq_false_or_eq_true (!(mayP (⟨c.client, c.inc, c.seq, c.kind, c.ino, c.gen, c.name, n, c.toGen, c.toName, c.off, c.size, c.data⟩ : CallS))) with hg24 | hg24
                          · skip
                            have H := H.also (d := 101) (u := .bool (!(mayP (⟨c.client, c.inc, c.seq, c.kind, c.ino, c.gen, c.name, n, c.toGen, c.toName, c.off, c.size, c.data⟩ : CallS)))) (v := .bool true) (by kernel_rfl) (congrArg Value.bool (hg24))
                            have hg24n := notT hg24
                            refine st_op 8 8 (op_val (d := 102) (v := .agg #[.int .u8 c.client, .int .u32 c.inc, .int .u64 c.seq, .int .u8 c.kind, .int .u32 c.ino, .int .u32 c.gen, .string c.name, .int .u32 c.toIno, .int .u32 c.toGen, .string s, .int .u32 c.off, .int .u32 c.size, .slice A c.data.length k]) H (val_ld (k := 0) (t := 28) (off := 0) rfl (by kernel_rfl) rfl (by kernel_rfl)) fun a H => ?_)
                            refine st_op 9 7 (op_call (d := 103) H (by kernel_rfl) rfl (call_may (⟨c.client, c.inc, c.seq, c.kind, c.ino, c.gen, c.name, c.toIno, c.toGen, s, c.off, c.size, c.data⟩ : CallS) A k (by first | assumption | exact ⟨w1, w2, w3, w4, w5, w6, w7, w8, w9, w10⟩ | exact ⟨w1, w2, w3, w4, w5, w6, hn, w8, w9, w10⟩ | exact ⟨w1, w2, w3, w4, w5, w6, w7, w8, hn, w10⟩ | exact ⟨w1, w2, w3, w4, w5, w6, w7, w8, w9, hn⟩) (by first | assumption | omega) (by first | assumption | omega) H.sat) fun a v w q F => ?_)
                            obtain ⟨R28, hle, rfl, X⟩ := q
                            have H := St.mk F X
                            have hd := hd.grow hle
                            have hT := hT.grow hle
                            have hleR28 := hleR27.trans hle
                            refine st_run 10 4 3 [(107, .bool (!(mayP (⟨c.client, c.inc, c.seq, c.kind, c.ino, c.gen, c.name, c.toIno, c.toGen, s, c.off, c.size, c.data⟩ : CallS)))), (106, .bool (!(mayP (⟨c.client, c.inc, c.seq, c.kind, c.ino, c.gen, c.name, c.toIno, c.toGen, s, c.off, c.size, c.data⟩ : CallS)))), (105, .bool (!(mayP (⟨c.client, c.inc, c.seq, c.kind, c.ino, c.gen, c.name, c.toIno, c.toGen, s, c.off, c.size, c.data⟩ : CallS)))), (104, .bool (!(mayP (⟨c.client, c.inc, c.seq, c.kind, c.ino, c.gen, c.name, c.toIno, c.toGen, s, c.off, c.size, c.data⟩ : CallS))))] H (by kernel_rfl) fun a H => ?_
                            rcases Bool.eq_false_or_eq_true (!(mayP (⟨c.client, c.inc, c.seq, c.kind, c.ino, c.gen, c.name, c.toIno, c.toGen, s, c.off, c.size, c.data⟩ : CallS))) with hg25 | hg25
                            · skip
                              have H := H.also (d := 107) (u := .bool (!(mayP (⟨c.client, c.inc, c.seq, c.kind, c.ino, c.gen, c.name, c.toIno, c.toGen, s, c.off, c.size, c.data⟩ : CallS)))) (v := .bool true) (by kernel_rfl) (congrArg Value.bool (hg25))
                              have hg25n := notT hg25
                              refine st_op 14 2 (op_call (d := 108) H (by kernel_rfl) rfl (law10_lives (by first | assumption | omega) H.sat) fun a v w q F => ?_)
                              obtain ⟨R29, hle, rfl, X⟩ := q
                              have H := St.mk F X
                              have hd := hd.grow hle
                              have hT := hT.grow hle
                              have hleR29 := hleR28.trans hle
                              refine st_run 15 2 0 [(6, .bool true), (109, .bool true)] H (by kernel_rfl) fun a H => ?_
                              refine ops_end _ ?_
                              refine st_ret (vs := [.bool true]) H Tryd.func3 rfl (.tmp (by kernel_rfl) (.nil)) ?_
                              have X := (H.sat.msk [false, false, false, false, false, false])
                              exact ⟨R29, hleR29, rfl, X⟩
                            · skip
                              have H := H.also (d := 107) (u := .bool (!(mayP (⟨c.client, c.inc, c.seq, c.kind, c.ino, c.gen, c.name, c.toIno, c.toGen, s, c.off, c.size, c.data⟩ : CallS)))) (v := .bool false) (by kernel_rfl) (congrArg Value.bool (hg25))
                              have hg25n := notF hg25
                              refine st_run 14 3 0 [(6, .bool false), (109, .bool false), (108, undef)] H (by kernel_rfl) fun a H => ?_
                              refine ops_end _ ?_
                              refine st_ret (vs := [.bool false]) H Tryd.func3 rfl (.tmp (by kernel_rfl) (.nil)) ?_
                              have hp_hg3 := neB hg3
                              have hp_hg7 := neB hg7
                              have hp_hg10 := neB hg10
                              have hp_hg15 := of_decide_eq_true hg15
                              have hp_hg17n := neB hg17n
                              have hp_hg19n := of_decide_eq_true hg19n
                              have hp_hg23 := neB hg23
                              have hn0 : n ≠ 0 := neB hg2
                              have hs0 := neB hc1
                              exfalso
                              have hx := one_to hg25n (by simp only; omega)
                              exact hs0 (hx.2.trans (by kernel_rfl))
                          · skip
                            have H := H.also (d := 101) (u := .bool (!(mayP (⟨c.client, c.inc, c.seq, c.kind, c.ino, c.gen, c.name, n, c.toGen, c.toName, c.off, c.size, c.data⟩ : CallS)))) (v := .bool false) (by kernel_rfl) (congrArg Value.bool (hg24))
                            have hg24n := notF hg24
                            refine st_run 8 9 0 [(6, .bool false), (109, .bool false), (108, undef), (107, .bool false), (106, .bool false), (105, .bool false), (104, undef), (103, undef), (102, undef)] H (by kernel_rfl) fun a H => ?_
                            refine ops_end _ ?_
                            refine st_ret (vs := [.bool false]) H Tryd.func3 rfl (.tmp (by kernel_rfl) (.nil)) ?_
                            have hp_hg3 := neB hg3
                            have hp_hg7 := neB hg7
                            have hp_hg10 := neB hg10
                            have hp_hg15 := of_decide_eq_true hg15
                            have hp_hg17n := neB hg17n
                            have hp_hg19n := of_decide_eq_true hg19n
                            have hp_hg23 := neB hg23
                            have hn0 : n ≠ 0 := neB hg2
                            have hs0 := neB hc1
                            exfalso
                            have hx := one_to hg24n (by simp only; omega)
                            exact hn0 hx.1
                  · skip
                    have H := H.also (d := 81) (u := .bool (!((c.kind : Int) == 5))) (v := .bool false) (by kernel_rfl) (congrArg Value.bool (hg17))
                    have hg17n := notF hg17
                    have hg17' := eq_of_beq (notF hg17)
                    refine st_run 10 8 4 [(89, .bool (!(decide ((c.kind : Int) ≤ 11)))), (88, .bool (!(decide ((c.kind : Int) ≤ 11)))), (87, .bool (decide ((c.kind : Int) ≤ 11))), (86, .bool false), (85, .bool false), (84, .bool false), (83, undef), (82, undef)] H (by kernel_rfl) fun a H => ?_
                    have hk11 : (decide ((c.kind : Int) ≤ 11)) = true := by rw [eq_of_beq hg17n]; rfl
                    have H := H.also (d := 89) (u := .bool (!(decide ((c.kind : Int) ≤ 11)))) (v := .bool false) (by kernel_rfl) (congrArg Value.bool (by simp only [hk11]; rfl))
                    refine st_run 18 4 0 [(93, .bool false), (92, .bool false), (91, undef), (90, undef)] H (by kernel_rfl) fun a H => ?_
                    refine ops_end _ ?_
                    refine st_false H (by kernel_rfl) ?_
                    refine WK.skip ?_
                    refine WK.seq ?_
                    refine st_text 17 rfl ?_
                    refine st_run 0 1 16 [(94, .pointer (some ⟨b1, 3, none⟩))] H (by kernel_rfl) fun a H => ?_
                    refine st_op 1 15 (op_val (d := 95) (v := .int .u8 c.kind) H (val_ld (k := 5) (t := 5) (off := 3) rfl (by kernel_rfl) rfl (by kernel_rfl)) fun a H => ?_)
                    refine st_run 2 2 13 [(97, .bool ((c.kind : Int) == 11)), (96, .bool ((c.kind : Int) == 11))] H (by kernel_rfl) fun a H => ?_
                    have hk12 : ((c.kind : Int) == 11) = false := by rw [eq_of_beq hg17n]; rfl
                    have H := H.also (d := 97) (u := .bool ((c.kind : Int) == 11)) (v := .bool false) (by kernel_rfl) (congrArg Value.bool (hk12))
                    refine st_op 4 12 (op_val (d := 98) (v := .agg #[.int .u8 c.client, .int .u32 c.inc, .int .u64 c.seq, .int .u8 c.kind, .int .u32 c.ino, .int .u32 c.gen, .string c.name, .int .u32 n, .int .u32 c.toGen, .string c.toName, .int .u32 c.off, .int .u32 c.size, .slice A c.data.length k]) H (val_ld (k := 1) (t := 28) (off := 0) rfl (by kernel_rfl) rfl (by kernel_rfl)) fun a H => ?_)
                    refine st_op 5 11 (op_call (d := 99) H (by kernel_rfl) rfl (call_may (⟨c.client, c.inc, c.seq, c.kind, c.ino, c.gen, c.name, n, c.toGen, c.toName, c.off, c.size, c.data⟩ : CallS) A k (by first | assumption | exact ⟨w1, w2, w3, w4, w5, w6, w7, w8, w9, w10⟩ | exact ⟨w1, w2, w3, w4, w5, w6, hn, w8, w9, w10⟩ | exact ⟨w1, w2, w3, w4, w5, w6, w7, w8, hn, w10⟩ | exact ⟨w1, w2, w3, w4, w5, w6, w7, w8, w9, hn⟩) (by first | assumption | omega) (by first | assumption | omega) H.sat) fun a v w q F => ?_)
                    obtain ⟨R30, hle, rfl, X⟩ := q
                    have H := St.mk F X
                    have hd := hd.grow hle
                    have hT := hT.grow hle
                    have hleR30 := hleR19.trans hle
                    refine st_run 6 2 9 [(101, .bool (!(mayP (⟨c.client, c.inc, c.seq, c.kind, c.ino, c.gen, c.name, n, c.toGen, c.toName, c.off, c.size, c.data⟩ : CallS)))), (100, .bool (!(mayP (⟨c.client, c.inc, c.seq, c.kind, c.ino, c.gen, c.name, n, c.toGen, c.toName, c.off, c.size, c.data⟩ : CallS))))] H (by kernel_rfl) fun a H => ?_
                    rcases Bool.eq_false_or_eq_true (!(mayP (⟨c.client, c.inc, c.seq, c.kind, c.ino, c.gen, c.name, n, c.toGen, c.toName, c.off, c.size, c.data⟩ : CallS))) with hg26 | hg26
                    · skip
                      have H := H.also (d := 101) (u := .bool (!(mayP (⟨c.client, c.inc, c.seq, c.kind, c.ino, c.gen, c.name, n, c.toGen, c.toName, c.off, c.size, c.data⟩ : CallS)))) (v := .bool true) (by kernel_rfl) (congrArg Value.bool (hg26))
                      have hg26n := notT hg26
                      refine st_op 8 8 (op_val (d := 102) (v := .agg #[.int .u8 c.client, .int .u32 c.inc, .int .u64 c.seq, .int .u8 c.kind, .int .u32 c.ino, .int .u32 c.gen, .string c.name, .int .u32 c.toIno, .int .u32 c.toGen, .string s, .int .u32 c.off, .int .u32 c.size, .slice A c.data.length k]) H (val_ld (k := 0) (t := 28) (off := 0) rfl (by kernel_rfl) rfl (by kernel_rfl)) fun a H => ?_)
                      refine st_op 9 7 (op_call (d := 103) H (by kernel_rfl) rfl (call_may (⟨c.client, c.inc, c.seq, c.kind, c.ino, c.gen, c.name, c.toIno, c.toGen, s, c.off, c.size, c.data⟩ : CallS) A k (by first | assumption | exact ⟨w1, w2, w3, w4, w5, w6, w7, w8, w9, w10⟩ | exact ⟨w1, w2, w3, w4, w5, w6, hn, w8, w9, w10⟩ | exact ⟨w1, w2, w3, w4, w5, w6, w7, w8, hn, w10⟩ | exact ⟨w1, w2, w3, w4, w5, w6, w7, w8, w9, hn⟩) (by first | assumption | omega) (by first | assumption | omega) H.sat) fun a v w q F => ?_)
                      obtain ⟨R31, hle, rfl, X⟩ := q
                      have H := St.mk F X
                      have hd := hd.grow hle
                      have hT := hT.grow hle
                      have hleR31 := hleR30.trans hle
                      refine st_run 10 4 3 [(107, .bool (!(mayP (⟨c.client, c.inc, c.seq, c.kind, c.ino, c.gen, c.name, c.toIno, c.toGen, s, c.off, c.size, c.data⟩ : CallS)))), (106, .bool (!(mayP (⟨c.client, c.inc, c.seq, c.kind, c.ino, c.gen, c.name, c.toIno, c.toGen, s, c.off, c.size, c.data⟩ : CallS)))), (105, .bool (!(mayP (⟨c.client, c.inc, c.seq, c.kind, c.ino, c.gen, c.name, c.toIno, c.toGen, s, c.off, c.size, c.data⟩ : CallS)))), (104, .bool (!(mayP (⟨c.client, c.inc, c.seq, c.kind, c.ino, c.gen, c.name, c.toIno, c.toGen, s, c.off, c.size, c.data⟩ : CallS))))] H (by kernel_rfl) fun a H => ?_
                      rcases Bool.eq_false_or_eq_true (!(mayP (⟨c.client, c.inc, c.seq, c.kind, c.ino, c.gen, c.name, c.toIno, c.toGen, s, c.off, c.size, c.data⟩ : CallS))) with hg27 | hg27
                      · skip
                        have H := H.also (d := 107) (u := .bool (!(mayP (⟨c.client, c.inc, c.seq, c.kind, c.ino, c.gen, c.name, c.toIno, c.toGen, s, c.off, c.size, c.data⟩ : CallS)))) (v := .bool true) (by kernel_rfl) (congrArg Value.bool (hg27))
                        have hg27n := notT hg27
                        refine st_op 14 2 (op_call (d := 108) H (by kernel_rfl) rfl (law10_lives (by first | assumption | omega) H.sat) fun a v w q F => ?_)
                        obtain ⟨R32, hle, rfl, X⟩ := q
                        have H := St.mk F X
                        have hd := hd.grow hle
                        have hT := hT.grow hle
                        have hleR32 := hleR31.trans hle
                        refine st_run 15 2 0 [(6, .bool true), (109, .bool true)] H (by kernel_rfl) fun a H => ?_
                        refine ops_end _ ?_
                        refine st_ret (vs := [.bool true]) H Tryd.func3 rfl (.tmp (by kernel_rfl) (.nil)) ?_
                        have X := (H.sat.msk [false, false, false, false, false, false])
                        exact ⟨R32, hleR32, rfl, X⟩
                      · skip
                        have H := H.also (d := 107) (u := .bool (!(mayP (⟨c.client, c.inc, c.seq, c.kind, c.ino, c.gen, c.name, c.toIno, c.toGen, s, c.off, c.size, c.data⟩ : CallS)))) (v := .bool false) (by kernel_rfl) (congrArg Value.bool (hg27))
                        have hg27n := notF hg27
                        refine st_run 14 3 0 [(6, .bool false), (109, .bool false), (108, undef)] H (by kernel_rfl) fun a H => ?_
                        refine ops_end _ ?_
                        refine st_ret (vs := [.bool false]) H Tryd.func3 rfl (.tmp (by kernel_rfl) (.nil)) ?_
                        have hp_hg3 := neB hg3
                        have hp_hg7 := neB hg7
                        have hp_hg10 := neB hg10
                        have hp_hg15 := of_decide_eq_true hg15
                        have hp_hg17n := eq_of_beq hg17n
                        have hp_hk11 := of_decide_eq_true hk11
                        have hp_hk12 := neB hk12
                        have hn0 : n ≠ 0 := neB hg2
                        have hs0 := neB hc1
                        exfalso
                        have hx := one_to hg27n (by simp only; omega)
                        exact hs0 (hx.2.trans (by kernel_rfl))
                    · skip
                      have H := H.also (d := 101) (u := .bool (!(mayP (⟨c.client, c.inc, c.seq, c.kind, c.ino, c.gen, c.name, n, c.toGen, c.toName, c.off, c.size, c.data⟩ : CallS)))) (v := .bool false) (by kernel_rfl) (congrArg Value.bool (hg26))
                      have hg26n := notF hg26
                      refine st_run 8 9 0 [(6, .bool false), (109, .bool false), (108, undef), (107, .bool false), (106, .bool false), (105, .bool false), (104, undef), (103, undef), (102, undef)] H (by kernel_rfl) fun a H => ?_
                      refine ops_end _ ?_
                      refine st_ret (vs := [.bool false]) H Tryd.func3 rfl (.tmp (by kernel_rfl) (.nil)) ?_
                      have hp_hg3 := neB hg3
                      have hp_hg7 := neB hg7
                      have hp_hg10 := neB hg10
                      have hp_hg15 := of_decide_eq_true hg15
                      have hp_hg17n := eq_of_beq hg17n
                      have hp_hk11 := of_decide_eq_true hk11
                      have hp_hk12 := neB hk12
                      have hn0 : n ≠ 0 := neB hg2
                      have hs0 := neB hc1
                      exfalso
                      have hx := one_to hg26n (by simp only; omega)
                      exact hn0 hx.1
              · skip
                have H := H.also (d := 50) (u := .bool (decide ((c.kind : Int) ≥ 7))) (v := .bool false) (by kernel_rfl) (congrArg Value.bool (hg15))
                have hg15' := of_decide_eq_false hg15
                refine st_run 8 6 0 [(9, .bool false), (55, .bool false), (54, .bool false), (53, undef), (52, undef), (51, undef)] H (by kernel_rfl) fun a H => ?_
                refine ops_end _ ?_
                refine WK.seq ?_
                refine st_floatsM [true] [.tk 0, .tk 1, .tk 2, .tk 3, .tk 4, .dc 5, .dc 6, .dc 7, .dc 8, .dc 9, .fl 5 4, .fl 6 3, .fl 7 2, .fl 8 1, .fl 9 0, .op 10, .op 11, .op 12, .op 13, .op 14] rfl (by kernel_rfl) (by kernel_rfl) (by kernel_rfl) H ?_
                refine z_tk 0 (d := 56) (.agg #[.int .u8 c.client, .int .u32 c.inc, .int .u64 c.seq, .int .u8 c.kind, .int .u32 c.ino, .int .u32 c.gen, .string c.name, .int .u32 c.toIno, .int .u32 c.toGen, .string c.toName, .int .u32 c.off, .int .u32 c.size, .slice A c.data.length k]) (val_ld (k := 0) (t := 28) (off := 0) rfl (by kernel_rfl) rfl (by kernel_rfl)) (by kernel_rfl) ?_
                refine z_tk 1 (d := 57) (.agg #[.int .u8 c.client, .int .u32 c.inc, .int .u64 c.seq, .int .u8 c.kind, .int .u32 c.ino, .int .u32 c.gen, .string c.name, .int .u32 c.toIno, .int .u32 c.toGen, .string c.toName, .int .u32 c.off, .int .u32 c.size, .slice A c.data.length k]) (val_ld (k := 0) (t := 28) (off := 0) rfl (by kernel_rfl) rfl (by kernel_rfl)) (by kernel_rfl) ?_
                refine z_tk 2 (d := 58) (.agg #[.int .u8 c.client, .int .u32 c.inc, .int .u64 c.seq, .int .u8 c.kind, .int .u32 c.ino, .int .u32 c.gen, .string c.name, .int .u32 c.toIno, .int .u32 c.toGen, .string c.toName, .int .u32 c.off, .int .u32 c.size, .slice A c.data.length k]) (val_ld (k := 0) (t := 28) (off := 0) rfl (by kernel_rfl) rfl (by kernel_rfl)) (by kernel_rfl) ?_
                refine z_tk 3 (d := 59) (.agg #[.int .u8 c.client, .int .u32 c.inc, .int .u64 c.seq, .int .u8 c.kind, .int .u32 c.ino, .int .u32 c.gen, .string c.name, .int .u32 c.toIno, .int .u32 c.toGen, .string c.toName, .int .u32 c.off, .int .u32 c.size, .slice A c.data.length k]) (val_ld (k := 0) (t := 28) (off := 0) rfl (by kernel_rfl) rfl (by kernel_rfl)) (by kernel_rfl) ?_
                refine z_tk 4 (d := 60) (.agg #[.int .u8 c.client, .int .u32 c.inc, .int .u64 c.seq, .int .u8 c.kind, .int .u32 c.ino, .int .u32 c.gen, .string c.name, .int .u32 c.toIno, .int .u32 c.toGen, .string c.toName, .int .u32 c.off, .int .u32 c.size, .slice A c.data.length k]) (val_ld (k := 0) (t := 28) (off := 0) rfl (by kernel_rfl) rfl (by kernel_rfl)) (by kernel_rfl) ?_
                refine z_dc 5 (d := 10) (fun b => .pointer (some ⟨b, 0, none⟩)) (.cells #[.int .u8 0, .int .u32 0, .int .u64 0, .int .u8 0, .int .u32 0, .int .u32 0, .string ByteArray.empty, .int .u32 0, .int .u32 0, .string ByteArray.empty, .int .u32 0, .int .u32 0, .slice none 0 0] 28) (IsNew.of_run rfl fun w => (by kernel_rfl)) (by kernel_rfl) ?_
                refine z_dc 6 (d := 11) (fun b => .pointer (some ⟨b, 0, none⟩)) (.cells #[.int .u8 0, .int .u32 0, .int .u64 0, .int .u8 0, .int .u32 0, .int .u32 0, .string ByteArray.empty, .int .u32 0, .int .u32 0, .string ByteArray.empty, .int .u32 0, .int .u32 0, .slice none 0 0] 28) (IsNew.of_run rfl fun w => (by kernel_rfl)) (by kernel_rfl) ?_
                refine z_dc 7 (d := 12) (fun b => .pointer (some ⟨b, 0, none⟩)) (.cells #[.int .u8 0, .int .u32 0, .int .u64 0, .int .u8 0, .int .u32 0, .int .u32 0, .string ByteArray.empty, .int .u32 0, .int .u32 0, .string ByteArray.empty, .int .u32 0, .int .u32 0, .slice none 0 0] 28) (IsNew.of_run rfl fun w => (by kernel_rfl)) (by kernel_rfl) ?_
                refine z_dc 8 (d := 13) (fun b => .pointer (some ⟨b, 0, none⟩)) (.cells #[.int .u8 0, .int .u32 0, .int .u64 0, .int .u8 0, .int .u32 0, .int .u32 0, .string ByteArray.empty, .int .u32 0, .int .u32 0, .string ByteArray.empty, .int .u32 0, .int .u32 0, .slice none 0 0] 28) (IsNew.of_run rfl fun w => (by kernel_rfl)) (by kernel_rfl) ?_
                refine z_dc 9 (d := 14) (fun b => .pointer (some ⟨b, 0, none⟩)) (.cells #[.int .u8 0, .int .u32 0, .int .u64 0, .int .u8 0, .int .u32 0, .int .u32 0, .string ByteArray.empty, .int .u32 0, .int .u32 0, .string ByteArray.empty, .int .u32 0, .int .u32 0, .slice none 0 0] 28) (IsNew.of_run rfl fun w => (by kernel_rfl)) (by kernel_rfl) ?_
                refine z_fl 4 rfl fun b22 => ⟨(by kernel_rfl), ?_⟩
                refine z_fl 3 rfl fun b23 => ⟨(by kernel_rfl), ?_⟩
                refine z_fl 2 rfl fun b24 => ⟨(by kernel_rfl), ?_⟩
                refine z_fl 1 rfl fun b25 => ⟨(by kernel_rfl), ?_⟩
                refine z_fl 0 rfl fun b26 => ⟨(by kernel_rfl), ?_⟩
                refine z_op 10 rfl fun a w Z H => ?_
                refine op_storeZ (k := 4) (t := 28) (off := 0) (v := .agg #[.int .u8 c.client, .int .u32 c.inc, .int .u64 c.seq, .int .u8 c.kind, .int .u32 c.ino, .int .u32 c.gen, .string c.name, .int .u32 c.toIno, .int .u32 c.toGen, .string c.toName, .int .u32 c.off, .int .u32 c.size, .slice A c.data.length k]) H rfl (by kernel_rfl) (by kernel_rfl) fun a w H => ?_
                refine z_on _ H (fun w Z X => X.mskZ [false, false, false, false, false, true] (by kernel_rfl)) (by kernel_rfl) ?_
                refine z_op 11 rfl fun a w Z H => ?_
                refine op_storeZ (k := 3) (t := 28) (off := 0) (v := .agg #[.int .u8 c.client, .int .u32 c.inc, .int .u64 c.seq, .int .u8 c.kind, .int .u32 c.ino, .int .u32 c.gen, .string c.name, .int .u32 c.toIno, .int .u32 c.toGen, .string c.toName, .int .u32 c.off, .int .u32 c.size, .slice A c.data.length k]) H rfl (by kernel_rfl) (by kernel_rfl) fun a w H => ?_
                refine z_on _ H (fun w Z X => X.mskZ [false, false, false, false, false, true] (by kernel_rfl)) (by kernel_rfl) ?_
                refine z_op 12 rfl fun a w Z H => ?_
                refine op_storeZ (k := 2) (t := 28) (off := 0) (v := .agg #[.int .u8 c.client, .int .u32 c.inc, .int .u64 c.seq, .int .u8 c.kind, .int .u32 c.ino, .int .u32 c.gen, .string c.name, .int .u32 c.toIno, .int .u32 c.toGen, .string c.toName, .int .u32 c.off, .int .u32 c.size, .slice A c.data.length k]) H rfl (by kernel_rfl) (by kernel_rfl) fun a w H => ?_
                refine z_on _ H (fun w Z X => X.mskZ [false, false, false, false, false, true] (by kernel_rfl)) (by kernel_rfl) ?_
                refine z_op 13 rfl fun a w Z H => ?_
                refine op_storeZ (k := 1) (t := 28) (off := 0) (v := .agg #[.int .u8 c.client, .int .u32 c.inc, .int .u64 c.seq, .int .u8 c.kind, .int .u32 c.ino, .int .u32 c.gen, .string c.name, .int .u32 c.toIno, .int .u32 c.toGen, .string c.toName, .int .u32 c.off, .int .u32 c.size, .slice A c.data.length k]) H rfl (by kernel_rfl) (by kernel_rfl) fun a w H => ?_
                refine z_on _ H (fun w Z X => X.mskZ [false, false, false, false, false, true] (by kernel_rfl)) (by kernel_rfl) ?_
                refine z_op 14 rfl fun a w Z H => ?_
                refine op_storeZ (k := 0) (t := 28) (off := 0) (v := .agg #[.int .u8 c.client, .int .u32 c.inc, .int .u64 c.seq, .int .u8 c.kind, .int .u32 c.ino, .int .u32 c.gen, .string c.name, .int .u32 c.toIno, .int .u32 c.toGen, .string c.toName, .int .u32 c.off, .int .u32 c.size, .slice A c.data.length k]) H rfl (by kernel_rfl) (by kernel_rfl) fun a w H => ?_
                refine z_last _ H (by kernel_rfl) ?_
                refine z_end [] fun a w H => ?_
                refine WK.seq ?_
                refine st_text 3 rfl ?_
                refine st_run 0 2 1 [(62, .pointer (some ⟨b22, 11, none⟩)), (61, .int .u32 n)] H (by kernel_rfl) fun a H => ?_
                refine st_op 2 0 (op_store (k := 4) (t := 22) (off := 11) (v := .int .u32 n) H rfl (by kernel_rfl) (by kernel_rfl) fun a w H => ?_)
                refine ops_end _ ?_
                refine WK.seq ?_
                refine st_text 3 rfl ?_
                refine st_run 0 2 1 [(64, .pointer (some ⟨b23, 10, none⟩)), (63, .int .u32 n)] H (by kernel_rfl) fun a H => ?_
                refine st_op 2 0 (op_store (k := 3) (t := 22) (off := 10) (v := .int .u32 n) H rfl (by kernel_rfl) (by kernel_rfl) fun a w H => ?_)
                refine ops_end _ ?_
                refine WK.seq ?_
                refine st_text 3 rfl ?_
                refine st_run 0 2 1 [(66, .pointer (some ⟨b24, 6, none⟩)), (65, .string s)] H (by kernel_rfl) fun a H => ?_
                refine st_op 2 0 (op_store (k := 2) (t := 9) (off := 6) (v := .string s) H rfl (by kernel_rfl) (by kernel_rfl) fun a w H => ?_)
                refine ops_end _ ?_
                refine WK.seq ?_
                refine st_text 4 rfl ?_
                refine st_run 0 3 1 [(69, .pointer (some ⟨b25, 7, none⟩)), (68, .pointer (some ⟨b25, 7, none⟩)), (67, .int .u32 n)] H (by kernel_rfl) fun a H => ?_
                refine st_op 3 0 (op_store (k := 1) (t := 22) (off := 7) (v := .int .u32 n) H rfl (by kernel_rfl) (by kernel_rfl) fun a w H => ?_)
                refine ops_end _ ?_
                refine WK.seq ?_
                refine st_text 3 rfl ?_
                refine st_run 0 2 1 [(71, .pointer (some ⟨b26, 9, none⟩)), (70, .string s)] H (by kernel_rfl) fun a H => ?_
                refine st_op 2 0 (op_store (k := 0) (t := 9) (off := 9) (v := .string s) H rfl (by kernel_rfl) (by kernel_rfl) fun a w H => ?_)
                refine ops_end _ ?_
                refine WK.seq ?_
                refine WK.seq ?_
                refine st_text 22 rfl ?_
                refine st_run 0 3 19 [(74, .bool (!((c.kind : Int) == 4))), (73, .bool (!((c.kind : Int) == 4))), (72, .bool ((c.kind : Int) == 4))] H (by kernel_rfl) fun a H => ?_
                have H := H.also (d := 74) (u := .bool (!((c.kind : Int) == 4))) (v := .bool true) (by kernel_rfl) (congrArg Value.bool (by simp only [hg7]; rfl))
                refine st_op 3 18 (op_val (d := 75) (v := .agg #[.int .u8 c.client, .int .u32 c.inc, .int .u64 c.seq, .int .u8 c.kind, .int .u32 c.ino, .int .u32 c.gen, .string c.name, .int .u32 c.toIno, .int .u32 c.toGen, .string c.toName, .int .u32 c.off, .int .u32 n, .slice A c.data.length k]) H (val_ld (k := 4) (t := 28) (off := 0) rfl (by kernel_rfl) rfl (by kernel_rfl)) fun a H => ?_)
                refine st_op 4 17 (op_call (d := 76) H (by kernel_rfl) rfl (call_may (⟨c.client, c.inc, c.seq, c.kind, c.ino, c.gen, c.name, c.toIno, c.toGen, c.toName, c.off, n, c.data⟩ : CallS) A k (by first | assumption | exact ⟨w1, w2, w3, w4, w5, w6, w7, w8, w9, w10⟩ | exact ⟨w1, w2, w3, w4, w5, w6, hn, w8, w9, w10⟩ | exact ⟨w1, w2, w3, w4, w5, w6, w7, w8, hn, w10⟩ | exact ⟨w1, w2, w3, w4, w5, w6, w7, w8, w9, hn⟩) (by first | assumption | omega) (by first | assumption | omega) H.sat) fun a v w q F => ?_)
                obtain ⟨R33, hle, rfl, X⟩ := q
                have H := St.mk F X
                have hd := hd.grow hle
                have hT := hT.grow hle
                have hleR33 := hleR1.trans hle
                refine st_run 5 2 15 [(78, .bool (mayP (⟨c.client, c.inc, c.seq, c.kind, c.ino, c.gen, c.name, c.toIno, c.toGen, c.toName, c.off, n, c.data⟩ : CallS))), (77, .bool (mayP (⟨c.client, c.inc, c.seq, c.kind, c.ino, c.gen, c.name, c.toIno, c.toGen, c.toName, c.off, n, c.data⟩ : CallS)))] H (by kernel_rfl) fun a H => ?_
                rcases Bool.eq_false_or_eq_true (mayP (⟨c.client, c.inc, c.seq, c.kind, c.ino, c.gen, c.name, c.toIno, c.toGen, c.toName, c.off, n, c.data⟩ : CallS)) with hg28 | hg28
                · skip
                  have H := H.also (d := 78) (u := .bool (mayP (⟨c.client, c.inc, c.seq, c.kind, c.ino, c.gen, c.name, c.toIno, c.toGen, c.toName, c.off, n, c.data⟩ : CallS))) (v := .bool true) (by kernel_rfl) (congrArg Value.bool (hg28))
                  refine st_run 7 15 0 [(93, .bool true), (92, undef), (91, undef), (90, undef), (89, undef), (88, undef), (87, undef), (86, .bool true), (85, .bool true), (84, undef), (83, undef), (82, undef), (81, undef), (80, undef), (79, undef)] H (by kernel_rfl) fun a H => ?_
                  refine ops_end _ ?_
                  refine st_true H (by kernel_rfl) ?_
                  refine WK.seq ?_
                  refine st_text 1 rfl ?_
                  refine st_run 0 1 0 [(6, .bool false)] H (by kernel_rfl) fun a H => ?_
                  refine ops_end _ ?_
                  refine st_ret (vs := [.bool false]) H Tryd.func3 rfl (.tmp (by kernel_rfl) (.nil)) ?_
                  have hp_hg3 := neB hg3
                  have hp_hg7 := neB hg7
                  have hp_hg10 := neB hg10
                  have hp_hg15 := of_decide_eq_false hg15
                  have hn0 : n ≠ 0 := neB hg2
                  have hs0 := neB hc1
                  exfalso
                  have hx := one_size hg28 (by simp only; omega) (by simp only; omega)
                  exact hn0 hx
                · skip
                  have H := H.also (d := 78) (u := .bool (mayP (⟨c.client, c.inc, c.seq, c.kind, c.ino, c.gen, c.name, c.toIno, c.toGen, c.toName, c.off, n, c.data⟩ : CallS))) (v := .bool false) (by kernel_rfl) (congrArg Value.bool (hg28))
                  refine st_run 7 3 12 [(81, .bool (!((c.kind : Int) == 5))), (80, .bool (!((c.kind : Int) == 5))), (79, .bool ((c.kind : Int) == 5))] H (by kernel_rfl) fun a H => ?_
                  rcases Bool.eq_false_or_eq_true (!((c.kind : Int) == 5)) with hg29 | hg29
                  · skip
                    have H := H.also (d := 81) (u := .bool (!((c.kind : Int) == 5))) (v := .bool true) (by kernel_rfl) (congrArg Value.bool (hg29))
                    have hg29n := notT hg29
                    have hg29' := neB (notT hg29)
                    refine st_op 10 11 (op_val (d := 82) (v := .agg #[.int .u8 c.client, .int .u32 c.inc, .int .u64 c.seq, .int .u8 c.kind, .int .u32 c.ino, .int .u32 c.gen, .string c.name, .int .u32 c.toIno, .int .u32 c.toGen, .string c.toName, .int .u32 n, .int .u32 c.size, .slice A c.data.length k]) H (val_ld (k := 3) (t := 28) (off := 0) rfl (by kernel_rfl) rfl (by kernel_rfl)) fun a H => ?_)
                    refine st_op 11 10 (op_call (d := 83) H (by kernel_rfl) rfl (call_may (⟨c.client, c.inc, c.seq, c.kind, c.ino, c.gen, c.name, c.toIno, c.toGen, c.toName, n, c.size, c.data⟩ : CallS) A k (by first | assumption | exact ⟨w1, w2, w3, w4, w5, w6, w7, w8, w9, w10⟩ | exact ⟨w1, w2, w3, w4, w5, w6, hn, w8, w9, w10⟩ | exact ⟨w1, w2, w3, w4, w5, w6, w7, w8, hn, w10⟩ | exact ⟨w1, w2, w3, w4, w5, w6, w7, w8, w9, hn⟩) (by first | assumption | omega) (by first | assumption | omega) H.sat) fun a v w q F => ?_)
                    obtain ⟨R34, hle, rfl, X⟩ := q
                    have H := St.mk F X
                    have hd := hd.grow hle
                    have hT := hT.grow hle
                    have hleR34 := hleR33.trans hle
                    refine st_run 12 3 7 [(86, .bool (mayP (⟨c.client, c.inc, c.seq, c.kind, c.ino, c.gen, c.name, c.toIno, c.toGen, c.toName, n, c.size, c.data⟩ : CallS))), (85, .bool (mayP (⟨c.client, c.inc, c.seq, c.kind, c.ino, c.gen, c.name, c.toIno, c.toGen, c.toName, n, c.size, c.data⟩ : CallS))), (84, .bool (mayP (⟨c.client, c.inc, c.seq, c.kind, c.ino, c.gen, c.name, c.toIno, c.toGen, c.toName, n, c.size, c.data⟩ : CallS)))] H (by kernel_rfl) fun a H => ?_
                    rcases Bool.eq_false_or_eq_true (mayP (⟨c.client, c.inc, c.seq, c.kind, c.ino, c.gen, c.name, c.toIno, c.toGen, c.toName, n, c.size, c.data⟩ : CallS)) with hg30 | hg30
                    · skip
                      have H := H.also (d := 86) (u := .bool (mayP (⟨c.client, c.inc, c.seq, c.kind, c.ino, c.gen, c.name, c.toIno, c.toGen, c.toName, n, c.size, c.data⟩ : CallS))) (v := .bool true) (by kernel_rfl) (congrArg Value.bool (hg30))
                      refine st_run 15 7 0 [(93, .bool true), (92, undef), (91, undef), (90, undef), (89, undef), (88, undef), (87, undef)] H (by kernel_rfl) fun a H => ?_
                      refine ops_end _ ?_
                      refine st_true H (by kernel_rfl) ?_
                      refine WK.seq ?_
                      refine st_text 1 rfl ?_
                      refine st_run 0 1 0 [(6, .bool false)] H (by kernel_rfl) fun a H => ?_
                      refine ops_end _ ?_
                      refine st_ret (vs := [.bool false]) H Tryd.func3 rfl (.tmp (by kernel_rfl) (.nil)) ?_
                      have hp_hg3 := neB hg3
                      have hp_hg7 := neB hg7
                      have hp_hg10 := neB hg10
                      have hp_hg15 := of_decide_eq_false hg15
                      have hp_hg29n := neB hg29n
                      have hn0 : n ≠ 0 := neB hg2
                      have hs0 := neB hc1
                      exfalso
                      have hx := one_off hg30 (by simp only; omega) (by simp only; omega)
                      exact hn0 hx
                    · skip
                      have H := H.also (d := 86) (u := .bool (mayP (⟨c.client, c.inc, c.seq, c.kind, c.ino, c.gen, c.name, c.toIno, c.toGen, c.toName, n, c.size, c.data⟩ : CallS))) (v := .bool false) (by kernel_rfl) (congrArg Value.bool (hg30))
                      refine st_run 15 3 4 [(89, .bool true), (88, .bool true), (87, .bool false)] H (by kernel_rfl) fun a H => ?_
                      refine st_op 18 3 (op_val (d := 90) (v := .agg #[.int .u8 c.client, .int .u32 c.inc, .int .u64 c.seq, .int .u8 c.kind, .int .u32 c.ino, .int .u32 c.gen, .string s, .int .u32 c.toIno, .int .u32 c.toGen, .string c.toName, .int .u32 c.off, .int .u32 c.size, .slice A c.data.length k]) H (val_ld (k := 2) (t := 28) (off := 0) rfl (by kernel_rfl) rfl (by kernel_rfl)) fun a H => ?_)
                      refine st_op 19 2 (op_call (d := 91) H (by kernel_rfl) rfl (call_may (⟨c.client, c.inc, c.seq, c.kind, c.ino, c.gen, s, c.toIno, c.toGen, c.toName, c.off, c.size, c.data⟩ : CallS) A k (by first | assumption | exact ⟨w1, w2, w3, w4, w5, w6, w7, w8, w9, w10⟩ | exact ⟨w1, w2, w3, w4, w5, w6, hn, w8, w9, w10⟩ | exact ⟨w1, w2, w3, w4, w5, w6, w7, w8, hn, w10⟩ | exact ⟨w1, w2, w3, w4, w5, w6, w7, w8, w9, hn⟩) (by first | assumption | omega) (by first | assumption | omega) H.sat) fun a v w q F => ?_)
                      obtain ⟨R35, hle, rfl, X⟩ := q
                      have H := St.mk F X
                      have hd := hd.grow hle
                      have hT := hT.grow hle
                      have hleR35 := hleR34.trans hle
                      refine st_run 20 2 0 [(93, .bool (mayP (⟨c.client, c.inc, c.seq, c.kind, c.ino, c.gen, s, c.toIno, c.toGen, c.toName, c.off, c.size, c.data⟩ : CallS))), (92, .bool (mayP (⟨c.client, c.inc, c.seq, c.kind, c.ino, c.gen, s, c.toIno, c.toGen, c.toName, c.off, c.size, c.data⟩ : CallS)))] H (by kernel_rfl) fun a H => ?_
                      refine ops_end _ ?_
                      refine st_cond (mayP (⟨c.client, c.inc, c.seq, c.kind, c.ino, c.gen, s, c.toIno, c.toGen, c.toName, c.off, c.size, c.data⟩ : CallS)) H (by kernel_rfl) ?_ ?_
                      · intro hc5
                        refine WK.seq ?_
                        refine st_text 1 rfl ?_
                        refine st_run 0 1 0 [(6, .bool false)] H (by kernel_rfl) fun a H => ?_
                        refine ops_end _ ?_
                        refine st_ret (vs := [.bool false]) H Tryd.func3 rfl (.tmp (by kernel_rfl) (.nil)) ?_
                        have hp_hg3 := neB hg3
                        have hp_hg7 := neB hg7
                        have hp_hg10 := neB hg10
                        have hp_hg15 := of_decide_eq_false hg15
                        have hp_hg29n := neB hg29n
                        have hn0 : n ≠ 0 := neB hg2
                        have hs0 := neB hc1
                        exfalso
                        have hx := one_name hc5 (by simp only; omega) (by simp only; omega)
                        exact hs0 (hx.trans (by kernel_rfl))
                      · intro hc5
                        refine WK.skip ?_
                        refine WK.seq ?_
                        refine st_text 17 rfl ?_
                        refine st_run 0 1 16 [(94, .pointer (some ⟨b1, 3, none⟩))] H (by kernel_rfl) fun a H => ?_
                        refine st_op 1 15 (op_val (d := 95) (v := .int .u8 c.kind) H (val_ld (k := 5) (t := 5) (off := 3) rfl (by kernel_rfl) rfl (by kernel_rfl)) fun a H => ?_)
                        refine st_run 2 2 13 [(97, .bool ((c.kind : Int) == 11)), (96, .bool ((c.kind : Int) == 11))] H (by kernel_rfl) fun a H => ?_
                        rcases Bool.eq_false_or_eq_true ((c.kind : Int) == 11) with hg31 | hg31
                        · skip
                          have H := H.also (d := 97) (u := .bool ((c.kind : Int) == 11)) (v := .bool true) (by kernel_rfl) (congrArg Value.bool (hg31))
                          have hg31' := eq_of_beq hg31
                          refine st_run 4 10 3 [(107, .bool true), (106, .bool true), (105, undef), (104, undef), (103, undef), (102, undef), (101, undef), (100, undef), (99, undef), (98, undef)] H (by kernel_rfl) fun a H => ?_
                          refine st_op 14 2 (op_call (d := 108) H (by kernel_rfl) rfl (law10_lives (by first | assumption | omega) H.sat) fun a v w q F => ?_)
                          obtain ⟨R36, hle, rfl, X⟩ := q
                          have H := St.mk F X
                          have hd := hd.grow hle
                          have hT := hT.grow hle
                          have hleR36 := hleR35.trans hle
                          refine st_run 15 2 0 [(6, .bool true), (109, .bool true)] H (by kernel_rfl) fun a H => ?_
                          refine ops_end _ ?_
                          refine st_ret (vs := [.bool true]) H Tryd.func3 rfl (.tmp (by kernel_rfl) (.nil)) ?_
                          have X := (H.sat.msk [false, false, false, false, false, false])
                          exact ⟨R36, hleR36, rfl, X⟩
                        · skip
                          have H := H.also (d := 97) (u := .bool ((c.kind : Int) == 11)) (v := .bool false) (by kernel_rfl) (congrArg Value.bool (hg31))
                          have hg31' := neB hg31
                          refine st_op 4 12 (op_val (d := 98) (v := .agg #[.int .u8 c.client, .int .u32 c.inc, .int .u64 c.seq, .int .u8 c.kind, .int .u32 c.ino, .int .u32 c.gen, .string c.name, .int .u32 n, .int .u32 c.toGen, .string c.toName, .int .u32 c.off, .int .u32 c.size, .slice A c.data.length k]) H (val_ld (k := 1) (t := 28) (off := 0) rfl (by kernel_rfl) rfl (by kernel_rfl)) fun a H => ?_)
                          refine st_op 5 11 (op_call (d := 99) H (by kernel_rfl) rfl (call_may (⟨c.client, c.inc, c.seq, c.kind, c.ino, c.gen, c.name, n, c.toGen, c.toName, c.off, c.size, c.data⟩ : CallS) A k (by first | assumption | exact ⟨w1, w2, w3, w4, w5, w6, w7, w8, w9, w10⟩ | exact ⟨w1, w2, w3, w4, w5, w6, hn, w8, w9, w10⟩ | exact ⟨w1, w2, w3, w4, w5, w6, w7, w8, hn, w10⟩ | exact ⟨w1, w2, w3, w4, w5, w6, w7, w8, w9, hn⟩) (by first | assumption | omega) (by first | assumption | omega) H.sat) fun a v w q F => ?_)
                          obtain ⟨R37, hle, rfl, X⟩ := q
                          have H := St.mk F X
                          have hd := hd.grow hle
                          have hT := hT.grow hle
                          have hleR37 := hleR35.trans hle
                          refine st_run 6 2 9 [(101, .bool (!(mayP (⟨c.client, c.inc, c.seq, c.kind, c.ino, c.gen, c.name, n, c.toGen, c.toName, c.off, c.size, c.data⟩ : CallS)))), (100, .bool (!(mayP (⟨c.client, c.inc, c.seq, c.kind, c.ino, c.gen, c.name, n, c.toGen, c.toName, c.off, c.size, c.data⟩ : CallS))))] H (by kernel_rfl) fun a H => ?_
                          rcases Bool.eq_false_or_eq_true (!(mayP (⟨c.client, c.inc, c.seq, c.kind, c.ino, c.gen, c.name, n, c.toGen, c.toName, c.off, c.size, c.data⟩ : CallS))) with hg32 | hg32
                          · skip
                            have H := H.also (d := 101) (u := .bool (!(mayP (⟨c.client, c.inc, c.seq, c.kind, c.ino, c.gen, c.name, n, c.toGen, c.toName, c.off, c.size, c.data⟩ : CallS)))) (v := .bool true) (by kernel_rfl) (congrArg Value.bool (hg32))
                            have hg32n := notT hg32
                            refine st_op 8 8 (op_val (d := 102) (v := .agg #[.int .u8 c.client, .int .u32 c.inc, .int .u64 c.seq, .int .u8 c.kind, .int .u32 c.ino, .int .u32 c.gen, .string c.name, .int .u32 c.toIno, .int .u32 c.toGen, .string s, .int .u32 c.off, .int .u32 c.size, .slice A c.data.length k]) H (val_ld (k := 0) (t := 28) (off := 0) rfl (by kernel_rfl) rfl (by kernel_rfl)) fun a H => ?_)
                            refine st_op 9 7 (op_call (d := 103) H (by kernel_rfl) rfl (call_may (⟨c.client, c.inc, c.seq, c.kind, c.ino, c.gen, c.name, c.toIno, c.toGen, s, c.off, c.size, c.data⟩ : CallS) A k (by first | assumption | exact ⟨w1, w2, w3, w4, w5, w6, w7, w8, w9, w10⟩ | exact ⟨w1, w2, w3, w4, w5, w6, hn, w8, w9, w10⟩ | exact ⟨w1, w2, w3, w4, w5, w6, w7, w8, hn, w10⟩ | exact ⟨w1, w2, w3, w4, w5, w6, w7, w8, w9, hn⟩) (by first | assumption | omega) (by first | assumption | omega) H.sat) fun a v w q F => ?_)
                            obtain ⟨R38, hle, rfl, X⟩ := q
                            have H := St.mk F X
                            have hd := hd.grow hle
                            have hT := hT.grow hle
                            have hleR38 := hleR37.trans hle
                            refine st_run 10 4 3 [(107, .bool (!(mayP (⟨c.client, c.inc, c.seq, c.kind, c.ino, c.gen, c.name, c.toIno, c.toGen, s, c.off, c.size, c.data⟩ : CallS)))), (106, .bool (!(mayP (⟨c.client, c.inc, c.seq, c.kind, c.ino, c.gen, c.name, c.toIno, c.toGen, s, c.off, c.size, c.data⟩ : CallS)))), (105, .bool (!(mayP (⟨c.client, c.inc, c.seq, c.kind, c.ino, c.gen, c.name, c.toIno, c.toGen, s, c.off, c.size, c.data⟩ : CallS)))), (104, .bool (!(mayP (⟨c.client, c.inc, c.seq, c.kind, c.ino, c.gen, c.name, c.toIno, c.toGen, s, c.off, c.size, c.data⟩ : CallS))))] H (by kernel_rfl) fun a H => ?_
                            rcases Bool.eq_false_or_eq_true (!(mayP (⟨c.client, c.inc, c.seq, c.kind, c.ino, c.gen, c.name, c.toIno, c.toGen, s, c.off, c.size, c.data⟩ : CallS))) with hg33 | hg33
                            · skip
                              have H := H.also (d := 107) (u := .bool (!(mayP (⟨c.client, c.inc, c.seq, c.kind, c.ino, c.gen, c.name, c.toIno, c.toGen, s, c.off, c.size, c.data⟩ : CallS)))) (v := .bool true) (by kernel_rfl) (congrArg Value.bool (hg33))
                              have hg33n := notT hg33
                              refine st_op 14 2 (op_call (d := 108) H (by kernel_rfl) rfl (law10_lives (by first | assumption | omega) H.sat) fun a v w q F => ?_)
                              obtain ⟨R39, hle, rfl, X⟩ := q
                              have H := St.mk F X
                              have hd := hd.grow hle
                              have hT := hT.grow hle
                              have hleR39 := hleR38.trans hle
                              refine st_run 15 2 0 [(6, .bool true), (109, .bool true)] H (by kernel_rfl) fun a H => ?_
                              refine ops_end _ ?_
                              refine st_ret (vs := [.bool true]) H Tryd.func3 rfl (.tmp (by kernel_rfl) (.nil)) ?_
                              have X := (H.sat.msk [false, false, false, false, false, false])
                              exact ⟨R39, hleR39, rfl, X⟩
                            · skip
                              have H := H.also (d := 107) (u := .bool (!(mayP (⟨c.client, c.inc, c.seq, c.kind, c.ino, c.gen, c.name, c.toIno, c.toGen, s, c.off, c.size, c.data⟩ : CallS)))) (v := .bool false) (by kernel_rfl) (congrArg Value.bool (hg33))
                              have hg33n := notF hg33
                              refine st_run 14 3 0 [(6, .bool false), (109, .bool false), (108, undef)] H (by kernel_rfl) fun a H => ?_
                              refine ops_end _ ?_
                              refine st_ret (vs := [.bool false]) H Tryd.func3 rfl (.tmp (by kernel_rfl) (.nil)) ?_
                              have hp_hg3 := neB hg3
                              have hp_hg7 := neB hg7
                              have hp_hg10 := neB hg10
                              have hp_hg15 := of_decide_eq_false hg15
                              have hp_hg29n := neB hg29n
                              have hp_hg31 := neB hg31
                              have hn0 : n ≠ 0 := neB hg2
                              have hs0 := neB hc1
                              exfalso
                              have hx := one_to hg33n (by simp only; omega)
                              exact hs0 (hx.2.trans (by kernel_rfl))
                          · skip
                            have H := H.also (d := 101) (u := .bool (!(mayP (⟨c.client, c.inc, c.seq, c.kind, c.ino, c.gen, c.name, n, c.toGen, c.toName, c.off, c.size, c.data⟩ : CallS)))) (v := .bool false) (by kernel_rfl) (congrArg Value.bool (hg32))
                            have hg32n := notF hg32
                            refine st_run 8 9 0 [(6, .bool false), (109, .bool false), (108, undef), (107, .bool false), (106, .bool false), (105, .bool false), (104, undef), (103, undef), (102, undef)] H (by kernel_rfl) fun a H => ?_
                            refine ops_end _ ?_
                            refine st_ret (vs := [.bool false]) H Tryd.func3 rfl (.tmp (by kernel_rfl) (.nil)) ?_
                            have hp_hg3 := neB hg3
                            have hp_hg7 := neB hg7
                            have hp_hg10 := neB hg10
                            have hp_hg15 := of_decide_eq_false hg15
                            have hp_hg29n := neB hg29n
                            have hp_hg31 := neB hg31
                            have hn0 : n ≠ 0 := neB hg2
                            have hs0 := neB hc1
                            exfalso
                            have hx := one_to hg32n (by simp only; omega)
                            exact hn0 hx.1
                  · skip
                    have H := H.also (d := 81) (u := .bool (!((c.kind : Int) == 5))) (v := .bool false) (by kernel_rfl) (congrArg Value.bool (hg29))
                    have hg29n := notF hg29
                    have hg29' := eq_of_beq (notF hg29)
                    refine st_run 10 8 4 [(89, .bool true), (88, .bool true), (87, .bool false), (86, .bool false), (85, .bool false), (84, .bool false), (83, undef), (82, undef)] H (by kernel_rfl) fun a H => ?_
                    refine st_op 18 3 (op_val (d := 90) (v := .agg #[.int .u8 c.client, .int .u32 c.inc, .int .u64 c.seq, .int .u8 c.kind, .int .u32 c.ino, .int .u32 c.gen, .string s, .int .u32 c.toIno, .int .u32 c.toGen, .string c.toName, .int .u32 c.off, .int .u32 c.size, .slice A c.data.length k]) H (val_ld (k := 2) (t := 28) (off := 0) rfl (by kernel_rfl) rfl (by kernel_rfl)) fun a H => ?_)
                    refine st_op 19 2 (op_call (d := 91) H (by kernel_rfl) rfl (call_may (⟨c.client, c.inc, c.seq, c.kind, c.ino, c.gen, s, c.toIno, c.toGen, c.toName, c.off, c.size, c.data⟩ : CallS) A k (by first | assumption | exact ⟨w1, w2, w3, w4, w5, w6, w7, w8, w9, w10⟩ | exact ⟨w1, w2, w3, w4, w5, w6, hn, w8, w9, w10⟩ | exact ⟨w1, w2, w3, w4, w5, w6, w7, w8, hn, w10⟩ | exact ⟨w1, w2, w3, w4, w5, w6, w7, w8, w9, hn⟩) (by first | assumption | omega) (by first | assumption | omega) H.sat) fun a v w q F => ?_)
                    obtain ⟨R40, hle, rfl, X⟩ := q
                    have H := St.mk F X
                    have hd := hd.grow hle
                    have hT := hT.grow hle
                    have hleR40 := hleR33.trans hle
                    refine st_run 20 2 0 [(93, .bool (mayP (⟨c.client, c.inc, c.seq, c.kind, c.ino, c.gen, s, c.toIno, c.toGen, c.toName, c.off, c.size, c.data⟩ : CallS))), (92, .bool (mayP (⟨c.client, c.inc, c.seq, c.kind, c.ino, c.gen, s, c.toIno, c.toGen, c.toName, c.off, c.size, c.data⟩ : CallS)))] H (by kernel_rfl) fun a H => ?_
                    refine ops_end _ ?_
                    refine st_cond (mayP (⟨c.client, c.inc, c.seq, c.kind, c.ino, c.gen, s, c.toIno, c.toGen, c.toName, c.off, c.size, c.data⟩ : CallS)) H (by kernel_rfl) ?_ ?_
                    · intro hc6
                      refine WK.seq ?_
                      refine st_text 1 rfl ?_
                      refine st_run 0 1 0 [(6, .bool false)] H (by kernel_rfl) fun a H => ?_
                      refine ops_end _ ?_
                      refine st_ret (vs := [.bool false]) H Tryd.func3 rfl (.tmp (by kernel_rfl) (.nil)) ?_
                      have hp_hg3 := neB hg3
                      have hp_hg7 := neB hg7
                      have hp_hg10 := neB hg10
                      have hp_hg15 := of_decide_eq_false hg15
                      have hp_hg29n := eq_of_beq hg29n
                      have hn0 : n ≠ 0 := neB hg2
                      have hs0 := neB hc1
                      exfalso
                      have hx := one_name hc6 (by simp only; omega) (by simp only; omega)
                      exact hs0 (hx.trans (by kernel_rfl))
                    · intro hc6
                      refine WK.skip ?_
                      refine WK.seq ?_
                      refine st_text 17 rfl ?_
                      refine st_run 0 1 16 [(94, .pointer (some ⟨b1, 3, none⟩))] H (by kernel_rfl) fun a H => ?_
                      refine st_op 1 15 (op_val (d := 95) (v := .int .u8 c.kind) H (val_ld (k := 5) (t := 5) (off := 3) rfl (by kernel_rfl) rfl (by kernel_rfl)) fun a H => ?_)
                      refine st_run 2 2 13 [(97, .bool ((c.kind : Int) == 11)), (96, .bool ((c.kind : Int) == 11))] H (by kernel_rfl) fun a H => ?_
                      have hk13 : ((c.kind : Int) == 11) = false := by rw [eq_of_beq hg29n]; rfl
                      have H := H.also (d := 97) (u := .bool ((c.kind : Int) == 11)) (v := .bool false) (by kernel_rfl) (congrArg Value.bool (hk13))
                      refine st_op 4 12 (op_val (d := 98) (v := .agg #[.int .u8 c.client, .int .u32 c.inc, .int .u64 c.seq, .int .u8 c.kind, .int .u32 c.ino, .int .u32 c.gen, .string c.name, .int .u32 n, .int .u32 c.toGen, .string c.toName, .int .u32 c.off, .int .u32 c.size, .slice A c.data.length k]) H (val_ld (k := 1) (t := 28) (off := 0) rfl (by kernel_rfl) rfl (by kernel_rfl)) fun a H => ?_)
                      refine st_op 5 11 (op_call (d := 99) H (by kernel_rfl) rfl (call_may (⟨c.client, c.inc, c.seq, c.kind, c.ino, c.gen, c.name, n, c.toGen, c.toName, c.off, c.size, c.data⟩ : CallS) A k (by first | assumption | exact ⟨w1, w2, w3, w4, w5, w6, w7, w8, w9, w10⟩ | exact ⟨w1, w2, w3, w4, w5, w6, hn, w8, w9, w10⟩ | exact ⟨w1, w2, w3, w4, w5, w6, w7, w8, hn, w10⟩ | exact ⟨w1, w2, w3, w4, w5, w6, w7, w8, w9, hn⟩) (by first | assumption | omega) (by first | assumption | omega) H.sat) fun a v w q F => ?_)
                      obtain ⟨R41, hle, rfl, X⟩ := q
                      have H := St.mk F X
                      have hd := hd.grow hle
                      have hT := hT.grow hle
                      have hleR41 := hleR40.trans hle
                      refine st_run 6 2 9 [(101, .bool (!(mayP (⟨c.client, c.inc, c.seq, c.kind, c.ino, c.gen, c.name, n, c.toGen, c.toName, c.off, c.size, c.data⟩ : CallS)))), (100, .bool (!(mayP (⟨c.client, c.inc, c.seq, c.kind, c.ino, c.gen, c.name, n, c.toGen, c.toName, c.off, c.size, c.data⟩ : CallS))))] H (by kernel_rfl) fun a H => ?_
                      rcases Bool.eq_false_or_eq_true (!(mayP (⟨c.client, c.inc, c.seq, c.kind, c.ino, c.gen, c.name, n, c.toGen, c.toName, c.off, c.size, c.data⟩ : CallS))) with hg34 | hg34
                      · skip
                        have H := H.also (d := 101) (u := .bool (!(mayP (⟨c.client, c.inc, c.seq, c.kind, c.ino, c.gen, c.name, n, c.toGen, c.toName, c.off, c.size, c.data⟩ : CallS)))) (v := .bool true) (by kernel_rfl) (congrArg Value.bool (hg34))
                        have hg34n := notT hg34
                        refine st_op 8 8 (op_val (d := 102) (v := .agg #[.int .u8 c.client, .int .u32 c.inc, .int .u64 c.seq, .int .u8 c.kind, .int .u32 c.ino, .int .u32 c.gen, .string c.name, .int .u32 c.toIno, .int .u32 c.toGen, .string s, .int .u32 c.off, .int .u32 c.size, .slice A c.data.length k]) H (val_ld (k := 0) (t := 28) (off := 0) rfl (by kernel_rfl) rfl (by kernel_rfl)) fun a H => ?_)
                        refine st_op 9 7 (op_call (d := 103) H (by kernel_rfl) rfl (call_may (⟨c.client, c.inc, c.seq, c.kind, c.ino, c.gen, c.name, c.toIno, c.toGen, s, c.off, c.size, c.data⟩ : CallS) A k (by first | assumption | exact ⟨w1, w2, w3, w4, w5, w6, w7, w8, w9, w10⟩ | exact ⟨w1, w2, w3, w4, w5, w6, hn, w8, w9, w10⟩ | exact ⟨w1, w2, w3, w4, w5, w6, w7, w8, hn, w10⟩ | exact ⟨w1, w2, w3, w4, w5, w6, w7, w8, w9, hn⟩) (by first | assumption | omega) (by first | assumption | omega) H.sat) fun a v w q F => ?_)
                        obtain ⟨R42, hle, rfl, X⟩ := q
                        have H := St.mk F X
                        have hd := hd.grow hle
                        have hT := hT.grow hle
                        have hleR42 := hleR41.trans hle
                        refine st_run 10 4 3 [(107, .bool (!(mayP (⟨c.client, c.inc, c.seq, c.kind, c.ino, c.gen, c.name, c.toIno, c.toGen, s, c.off, c.size, c.data⟩ : CallS)))), (106, .bool (!(mayP (⟨c.client, c.inc, c.seq, c.kind, c.ino, c.gen, c.name, c.toIno, c.toGen, s, c.off, c.size, c.data⟩ : CallS)))), (105, .bool (!(mayP (⟨c.client, c.inc, c.seq, c.kind, c.ino, c.gen, c.name, c.toIno, c.toGen, s, c.off, c.size, c.data⟩ : CallS)))), (104, .bool (!(mayP (⟨c.client, c.inc, c.seq, c.kind, c.ino, c.gen, c.name, c.toIno, c.toGen, s, c.off, c.size, c.data⟩ : CallS))))] H (by kernel_rfl) fun a H => ?_
                        rcases Bool.eq_false_or_eq_true (!(mayP (⟨c.client, c.inc, c.seq, c.kind, c.ino, c.gen, c.name, c.toIno, c.toGen, s, c.off, c.size, c.data⟩ : CallS))) with hg35 | hg35
                        · skip
                          have H := H.also (d := 107) (u := .bool (!(mayP (⟨c.client, c.inc, c.seq, c.kind, c.ino, c.gen, c.name, c.toIno, c.toGen, s, c.off, c.size, c.data⟩ : CallS)))) (v := .bool true) (by kernel_rfl) (congrArg Value.bool (hg35))
                          have hg35n := notT hg35
                          refine st_op 14 2 (op_call (d := 108) H (by kernel_rfl) rfl (law10_lives (by first | assumption | omega) H.sat) fun a v w q F => ?_)
                          obtain ⟨R43, hle, rfl, X⟩ := q
                          have H := St.mk F X
                          have hd := hd.grow hle
                          have hT := hT.grow hle
                          have hleR43 := hleR42.trans hle
                          refine st_run 15 2 0 [(6, .bool true), (109, .bool true)] H (by kernel_rfl) fun a H => ?_
                          refine ops_end _ ?_
                          refine st_ret (vs := [.bool true]) H Tryd.func3 rfl (.tmp (by kernel_rfl) (.nil)) ?_
                          have X := (H.sat.msk [false, false, false, false, false, false])
                          exact ⟨R43, hleR43, rfl, X⟩
                        · skip
                          have H := H.also (d := 107) (u := .bool (!(mayP (⟨c.client, c.inc, c.seq, c.kind, c.ino, c.gen, c.name, c.toIno, c.toGen, s, c.off, c.size, c.data⟩ : CallS)))) (v := .bool false) (by kernel_rfl) (congrArg Value.bool (hg35))
                          have hg35n := notF hg35
                          refine st_run 14 3 0 [(6, .bool false), (109, .bool false), (108, undef)] H (by kernel_rfl) fun a H => ?_
                          refine ops_end _ ?_
                          refine st_ret (vs := [.bool false]) H Tryd.func3 rfl (.tmp (by kernel_rfl) (.nil)) ?_
                          have hp_hg3 := neB hg3
                          have hp_hg7 := neB hg7
                          have hp_hg10 := neB hg10
                          have hp_hg15 := of_decide_eq_false hg15
                          have hp_hg29n := eq_of_beq hg29n
                          have hp_hk13 := neB hk13
                          have hn0 : n ≠ 0 := neB hg2
                          have hs0 := neB hc1
                          exfalso
                          have hx := one_to hg35n (by simp only; omega)
                          exact hs0 (hx.2.trans (by kernel_rfl))
                      · skip
                        have H := H.also (d := 101) (u := .bool (!(mayP (⟨c.client, c.inc, c.seq, c.kind, c.ino, c.gen, c.name, n, c.toGen, c.toName, c.off, c.size, c.data⟩ : CallS)))) (v := .bool false) (by kernel_rfl) (congrArg Value.bool (hg34))
                        have hg34n := notF hg34
                        refine st_run 8 9 0 [(6, .bool false), (109, .bool false), (108, undef), (107, .bool false), (106, .bool false), (105, .bool false), (104, undef), (103, undef), (102, undef)] H (by kernel_rfl) fun a H => ?_
                        refine ops_end _ ?_
                        refine st_ret (vs := [.bool false]) H Tryd.func3 rfl (.tmp (by kernel_rfl) (.nil)) ?_
                        have hp_hg3 := neB hg3
                        have hp_hg7 := neB hg7
                        have hp_hg10 := neB hg10
                        have hp_hg15 := of_decide_eq_false hg15
                        have hp_hg29n := eq_of_beq hg29n
                        have hp_hk13 := neB hk13
                        have hn0 : n ≠ 0 := neB hg2
                        have hs0 := neB hc1
                        exfalso
                        have hx := one_to hg34n (by simp only; omega)
                        exact hn0 hx.1
end Go.Proofs.YtldnpolfcickaaaDoor
