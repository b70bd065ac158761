/- Numbers as bytes. -/
import Derived.Test.YtldnpolfcickaaaDoorRef1
set_option linter.unusedVariables false
set_option linter.unusedSimpArgs false
set_option maxRecDepth 100000
set_option maxHeartbeats 1000000
namespace Go.Proofs.YtldnpolfcickaaaDoor
open Go Go.WH

/-- wharfage/wharfageref01.Pad -/
theorem ref01_pad0 {e w : World} {R : Hp} {L : List HP}  (X : Sat e w R (L)) :
    Calls Tryd.prog 117 #[.int .i64 0] w (Ret fun v w' => v = .int .i64 0 ∧ Sat e w' R (L)) := by
  refine enter (n := 13) (args := [.int .i64 0]) Tryd.func117 rfl rfl rfl X (fun a H => ?_)
  refine WK.seq ?_
  refine st_text 1 rfl ?_
  refine st_run 0 1 0 [(2, .int .i64 0)] H (by kernel_rfl) fun a H => ?_
  refine ops_end _ ?_
  refine WK.seq ?_
  refine WK.seq ?_
  refine st_text 7 rfl ?_
  refine st_run 0 7 0 [(9, .bool true), (8, .bool true), (7, .int .i64 0), (6, .int .i64 0), (5, .bool false), (4, .bool false), (3, .int .i64 0)] H (by kernel_rfl) fun a H => ?_
  refine ops_end _ ?_
  refine st_true H (by kernel_rfl) ?_
  refine WK.seq ?_
  refine st_text 1 rfl ?_
  refine st_run 0 1 0 [(2, .int .i64 0)] H (by kernel_rfl) fun a H => ?_
  refine ops_end _ ?_
  refine st_ret (vs := [.int .i64 0]) H Tryd.func117 rfl (.tmp (by kernel_rfl) (.nil)) ?_
  have X := H.sat
  exact ⟨rfl, X⟩

/-- wharfage/wharfageref09.Bytes -/
theorem ref09_bytes_nil {e w : World} {R : Hp} {L : List HP}  (X : Sat e w R (L)) :
    Calls Tryd.prog 66 #[.slice none 0 0] w (Ret fun v w' => ∃ A1 : Option Addr, ∃ c1 : Nat, v = .slice A1 ((be 4 (0 : Int).toNat ++ []).length) c1 ∧ Sat e w' R (bytesO 5 A1 c1 (be 4 (0 : Int).toNat ++ []) :: L)) := by
  refine enter (n := 23) (args := [.slice none 0 0]) Tryd.func66 rfl rfl rfl X (fun a H => ?_)
  refine WK.seq ?_
  refine st_text 1 rfl ?_
  refine st_run 0 1 0 [(2, .slice none 0 0)] H (by kernel_rfl) fun a H => ?_
  refine ops_end _ ?_
  refine WK.seq ?_
  refine st_text 5 rfl ?_
  refine st_run 0 3 2 [(7, .int .u32 0), (6, .int .i64 0), (5, .slice none 0 0)] H (by kernel_rfl) fun a H => ?_
  refine st_op 3 1 (op_call (d := 8) H (by kernel_rfl) rfl (ref09_number 0 (by first | assumption | omega) (by first | assumption | omega) H.sat) fun a v w q F => ?_)
  obtain ⟨X_1, x_1, rfl, X⟩ := q
  have H := St.mk F X
  refine st_run 4 1 0 [(3, .slice X_1 ((be 4 (0 : Int).toNat).length) x_1)] H (by kernel_rfl) fun a H => ?_
  refine ops_end _ ?_
  refine WK.seq ?_
  refine st_text 4 rfl ?_
  refine st_run 0 2 2 [(10, .slice none 0 0), (9, .slice X_1 ((be 4 (0 : Int).toNat).length) x_1)] H (by kernel_rfl) fun a H => ?_
  refine st_op 2 1 (op_appendB (d := 11) (t := 26) (A1 := X_1) (c1 := x_1) (bs := (be 4 (0 : Int).toNat)) (z := .int .u8 0) (bytes := 1) H (RdB.nil _) (by kernel_rfl) rfl rfl rfl rfl rfl (by simp only [List.length_append, be_length, List.length_nil]; omega) fun a w A1 c1 H => ?_)
  refine st_run 3 1 0 [(3, .slice A1 (((be 4 (0 : Int).toNat) ++ []).length) c1)] H (by kernel_rfl) fun a H => ?_
  refine ops_end _ ?_
  refine WK.seq ?_
  refine WK.seq ?_
  refine st_text 1 rfl ?_
  refine st_run 0 1 0 [(4, .int .i64 0)] H (by kernel_rfl) fun a H => ?_
  refine ops_end _ ?_
  refine WK.block ?_
  refine WK.loop (fun m a w => 0 = m ∧ St 23 e R a w [(0, .slice none 0 0), (3, .slice A1 (((be 4 (0 : Int).toNat) ++ []).length) c1), (4, .int .i64 0)] (bytesO 5 A1 c1 ((be 4 (0 : Int).toNat) ++ []) :: L)) (0) ⟨rfl, H.sub' ⟨by kernel_rfl, by kernel_rfl, by kernel_rfl, trivial⟩⟩ ?_
  clear H
  rintro m a w ⟨rfl, H⟩ hrec
  have hrec0 := hrec; clear hrec
  refine WK.seq ?_
  refine WK.seq ?_
  refine st_text 5 rfl ?_
  refine st_run 0 3 2 [(14, .int .i64 0), (13, .slice none 0 0), (12, .int .i64 0)] H (by kernel_rfl) fun a H => ?_
  refine st_op 3 1 (op_call (d := 15) H (by kernel_rfl) rfl (ref01_pad0 H.sat) fun a v w q F => ?_)
  obtain ⟨rfl, X⟩ := q
  have H := St.mk F X
  refine st_run 4 1 0 [(16, .bool false)] H (by kernel_rfl) fun a H => ?_
  refine ops_end _ ?_
  refine st_false H (by kernel_rfl) ?_
  refine WK.exit (k' := _) rfl ?_
  refine WK.seq ?_
  refine st_text 2 rfl ?_
  refine st_run 0 2 0 [(2, .slice A1 (((be 4 (0 : Int).toNat) ++ []).length) c1), (22, .slice A1 (((be 4 (0 : Int).toNat) ++ []).length) c1)] H (by kernel_rfl) fun a H => ?_
  refine ops_end _ ?_
  refine st_ret (vs := [.slice A1 (((be 4 (0 : Int).toNat) ++ []).length) c1]) H Tryd.func66 rfl (.tmp (by kernel_rfl) (.nil)) ?_
  have X := H.sat
  exact ⟨_, _, rfl, X⟩

/-- wharfage/wharfageref11.May -/
theorem ref11_may {e w : World} {R : Hp} {L : List HP} (q : Int) (hq : 1 ≤ q ∧ q ≤ 2) (X : Sat e w R (L)) :
    Calls Tryd.prog 62 #[.agg #[.int .u8 1, .int .u32 7, .int .u64 q, .int .u8 0, .int .u32 0, .int .u32 0, .bool false, .int .u32 0, .int .u64 0, .int .u64 0, .slice none 0 0, .slice none 0 0, .int .u32 1]] w (Ret fun v w' => v = .bool true ∧ Sat e w' R (L)) := by
  refine enter (n := 72) (args := [.agg #[.int .u8 1, .int .u32 7, .int .u64 q, .int .u8 0, .int .u32 0, .int .u32 0, .bool false, .int .u32 0, .int .u64 0, .int .u64 0, .slice none 0 0, .slice none 0 0, .int .u32 1]]) Tryd.func62 rfl rfl rfl X (fun a H => ?_)
  refine WK.seq ?_
  refine st_text 2 rfl ?_
  refine st_op 0 1 (op_new (d := 1) (vf := fun b => .pointer (some ⟨b, 0, none⟩)) (ob := .cells #[.int .u8 1, .int .u32 7, .int .u64 q, .int .u8 0, .int .u32 0, .int .u32 0, .bool false, .int .u32 0, .int .u64 0, .int .u64 0, .slice none 0 0, .slice none 0 0, .int .u32 1] 61) H (IsNew.of_run rfl fun w => (by kernel_rfl)) fun a w b1 H => ?_)
  refine st_run 1 1 0 [(2, .bool false)] H (by kernel_rfl) fun a H => ?_
  refine ops_end _ ?_
  refine WK.seq ?_
  refine WK.seq ?_
  refine st_text 36 rfl ?_
  refine st_run 0 1 35 [(4, .pointer (some ⟨b1, 0, none⟩))] H (by kernel_rfl) fun a H => ?_
  refine st_op 1 34 (op_val (d := 5) (v := .int .u8 1) H (val_ld (k := 0) (t := 5) (off := 0) rfl (by kernel_rfl) rfl (by kernel_rfl)) fun a H => ?_)
  refine st_run 2 3 31 [(8, .pointer (some ⟨b1, 1, none⟩)), (7, .bool false), (6, .bool false)] H (by kernel_rfl) fun a H => ?_
  refine st_op 5 30 (op_val (d := 9) (v := .int .u32 7) H (val_ld (k := 0) (t := 22) (off := 1) rfl (by kernel_rfl) rfl (by kernel_rfl)) fun a H => ?_)
  refine st_run 6 4 26 [(13, .pointer (some ⟨b1, 2, none⟩)), (12, .bool false), (11, .bool false), (10, .bool false)] H (by kernel_rfl) fun a H => ?_
  refine st_op 10 25 (op_val (d := 14) (v := .int .u64 q) H (val_ld (k := 0) (t := 23) (off := 2) rfl (by kernel_rfl) rfl (by kernel_rfl)) fun a H => ?_)
  refine st_run 11 3 22 [(17, .bool (decide ((q : Int) < 1))), (16, .bool (decide ((q : Int) < 1))), (15, .bool (decide ((q : Int) < 1)))] H (by kernel_rfl) fun a H => ?_
  rcases Bool.eq_false_or_eq_true (decide ((q : Int) < 1)) with hg1 | hg1
  · skip
    have H := H.also (d := 17) (u := .bool (decide ((q : Int) < 1))) (v := .bool true) (by kernel_rfl) (congrArg Value.bool (hg1))
    have hg1' := of_decide_eq_true hg1
    exfalso; omega
  · skip
    have H := H.also (d := 17) (u := .bool (decide ((q : Int) < 1))) (v := .bool false) (by kernel_rfl) (congrArg Value.bool (hg1))
    have hg1' := of_decide_eq_false hg1
    refine st_run 14 1 21 [(18, .pointer (some ⟨b1, 3, none⟩))] H (by kernel_rfl) fun a H => ?_
    refine st_op 15 20 (op_val (d := 19) (v := .int .u8 0) H (val_ld (k := 0) (t := 5) (off := 3) rfl (by kernel_rfl) rfl (by kernel_rfl)) fun a H => ?_)
    refine st_run 16 5 15 [(24, .pointer (some ⟨b1, 7, none⟩)), (23, .pointer (some ⟨b1, 4, none⟩)), (22, .bool false), (21, .bool false), (20, .bool false)] H (by kernel_rfl) fun a H => ?_
    refine st_op 21 14 (op_val (d := 25) (v := .int .u32 0) H (val_ld (k := 0) (t := 22) (off := 7) rfl (by kernel_rfl) rfl (by kernel_rfl)) fun a H => ?_)
    refine st_run 22 4 10 [(29, .pointer (some ⟨b1, 10, none⟩)), (28, .bool false), (27, .bool false), (26, .bool false)] H (by kernel_rfl) fun a H => ?_
    refine st_op 26 9 (op_val (d := 30) (v := .slice none 0 0) H (val_ld (k := 0) (t := 26) (off := 10) rfl (by kernel_rfl) rfl (by kernel_rfl)) fun a H => ?_)
    refine st_run 27 5 4 [(35, .pointer (some ⟨b1, 11, none⟩)), (34, .bool false), (33, .bool false), (32, .bool false), (31, .int .i64 0)] H (by kernel_rfl) fun a H => ?_
    refine st_op 32 3 (op_val (d := 36) (v := .slice none 0 0) H (val_ld (k := 0) (t := 59) (off := 11) rfl (by kernel_rfl) rfl (by kernel_rfl)) fun a H => ?_)
    refine st_run 33 3 0 [(39, .bool false), (38, .bool false), (37, .int .i64 0)] H (by kernel_rfl) fun a H => ?_
    refine ops_end _ ?_
    refine st_false H (by kernel_rfl) ?_
    refine WK.skip ?_
    refine WK.seq ?_
    refine WK.seq ?_
    refine st_text 1 rfl ?_
    refine st_run 0 1 0 [(3, .int .i64 0)] H (by kernel_rfl) fun a H => ?_
    refine ops_end _ ?_
    refine WK.block ?_
    refine WK.loop (fun m a w => 0 = m ∧ St 72 e R a w [(1, .pointer (some ⟨b1, 0, none⟩)), (3, .int .i64 0)] (blk b1 (.cells #[.int .u8 1, .int .u32 7, .int .u64 q, .int .u8 0, .int .u32 0, .int .u32 0, .bool false, .int .u32 0, .int .u64 0, .int .u64 0, .slice none 0 0, .slice none 0 0, .int .u32 1] 61) :: L)) (0) ⟨rfl, H.sub' ⟨by kernel_rfl, by kernel_rfl, trivial⟩⟩ ?_
    clear H
    rintro m a w ⟨rfl, H⟩ hrec
    have hrec0 := hrec; clear hrec
    refine WK.seq ?_
    refine WK.seq ?_
    refine st_text 5 rfl ?_
    refine st_run 0 2 3 [(41, .pointer (some ⟨b1, 11, none⟩)), (40, .int .i64 0)] H (by kernel_rfl) fun a H => ?_
    refine st_op 2 2 (op_val (d := 42) (v := .slice none 0 0) H (val_ld (k := 0) (t := 59) (off := 11) rfl (by kernel_rfl) rfl (by kernel_rfl)) fun a H => ?_)
    refine st_run 3 2 0 [(44, .bool false), (43, .int .i64 0)] H (by kernel_rfl) fun a H => ?_
    refine ops_end _ ?_
    refine st_false H (by kernel_rfl) ?_
    refine WK.exit (k' := _) rfl ?_
    refine WK.seq ?_
    refine st_text 1 rfl ?_
    refine st_run 0 1 0 [(2, .bool true)] H (by kernel_rfl) fun a H => ?_
    refine ops_end _ ?_
    refine st_ret (vs := [.bool true]) H Tryd.func62 rfl (.tmp (by kernel_rfl) (.nil)) ?_
    have X := (H.sat.msk [false])
    exact ⟨rfl, X⟩

/-- wharfage/wharfageref11.Put -/
theorem ref11_put {e w : World} {R : Hp} {L : List HP} (q : Int) (hq : 1 ≤ q ∧ q ≤ 2) (X : Sat e w R (L)) :
    Calls Tryd.prog 24 #[.agg #[.int .u8 1, .int .u32 7, .int .u64 q, .int .u8 0, .int .u32 0, .int .u32 0, .bool false, .int .u32 0, .int .u64 0, .int .u64 0, .slice none 0 0, .slice none 0 0, .int .u32 1]] w (Ret fun v w' => ∃ R', R.Le R' ∧ ∃ A1 : Option Addr, ∃ c1 : Nat, v = .tuple #[.slice A1 ((putBk q).length) c1, .int .i64 0] ∧ Sat e w' R' (bytesO 5 A1 c1 (putBk q) :: L)) := by
  refine enter (n := 100) (args := [.agg #[.int .u8 1, .int .u32 7, .int .u64 q, .int .u8 0, .int .u32 0, .int .u32 0, .bool false, .int .u32 0, .int .u64 0, .int .u64 0, .slice none 0 0, .slice none 0 0, .int .u32 1]]) Tryd.func24 rfl rfl rfl X (fun a H => ?_)
  refine WK.seq ?_
  refine st_text 3 rfl ?_
  refine st_op 0 2 (op_new (d := 1) (vf := fun b => .pointer (some ⟨b, 0, none⟩)) (ob := .cells #[.int .u8 1, .int .u32 7, .int .u64 q, .int .u8 0, .int .u32 0, .int .u32 0, .bool false, .int .u32 0, .int .u64 0, .int .u64 0, .slice none 0 0, .slice none 0 0, .int .u32 1] 61) H (IsNew.of_run rfl fun w => (by kernel_rfl)) fun a w b1 H => ?_)
  refine st_run 1 2 0 [(3, .int .i64 0), (2, .slice none 0 0)] H (by kernel_rfl) fun a H => ?_
  refine ops_end _ ?_
  refine WK.seq ?_
  refine WK.seq ?_
  refine st_text 3 rfl ?_
  refine st_op 0 2 (op_val (d := 6) (v := .agg #[.int .u8 1, .int .u32 7, .int .u64 q, .int .u8 0, .int .u32 0, .int .u32 0, .bool false, .int .u32 0, .int .u64 0, .int .u64 0, .slice none 0 0, .slice none 0 0, .int .u32 1]) H (val_ld (k := 0) (t := 61) (off := 0) rfl (by kernel_rfl) rfl (by kernel_rfl)) fun a H => ?_)
  refine st_op 1 1 (op_call (d := 7) H (by kernel_rfl) rfl (ref11_may q (by first | assumption | omega) H.sat) fun a v w q F => ?_)
  obtain ⟨rfl, X⟩ := q
  have H := St.mk F X
  refine st_run 2 1 0 [(8, .bool false)] H (by kernel_rfl) fun a H => ?_
  refine ops_end _ ?_
  refine st_false H (by kernel_rfl) ?_
  refine WK.skip ?_
  refine WK.seq ?_
  refine st_text 5 rfl ?_
  refine st_run 0 1 4 [(9, .pointer (some ⟨b1, 0, none⟩))] H (by kernel_rfl) fun a H => ?_
  refine st_op 1 3 (op_val (d := 10) (v := .int .u8 1) H (val_ld (k := 0) (t := 5) (off := 0) rfl (by kernel_rfl) rfl (by kernel_rfl)) fun a H => ?_)
  refine st_run 2 1 2 [(11, .int .u32 1)] H (by kernel_rfl) fun a H => ?_
  refine st_op 3 1 (op_call (d := 12) H (by kernel_rfl) rfl (ref09_number 1 (by first | assumption | omega) (by first | assumption | omega) H.sat) fun a v w q F => ?_)
  obtain ⟨X_1, x_1, rfl, X⟩ := q
  have H := St.mk F X
  refine st_run 4 1 0 [(4, .slice X_1 ((be 4 (1 : Int).toNat).length) x_1)] H (by kernel_rfl) fun a H => ?_
  refine ops_end _ ?_
  refine WK.seq ?_
  refine st_text 6 rfl ?_
  refine st_run 0 2 4 [(14, .pointer (some ⟨b1, 1, none⟩)), (13, .slice X_1 ((be 4 (1 : Int).toNat).length) x_1)] H (by kernel_rfl) fun a H => ?_
  refine st_op 2 3 (op_val (d := 15) (v := .int .u32 7) H (val_ld (k := 1) (t := 22) (off := 1) rfl (by kernel_rfl) rfl (by kernel_rfl)) fun a H => ?_)
  refine st_op 3 2 (op_call (d := 16) H (by kernel_rfl) rfl (ref09_number 7 (by first | assumption | omega) (by first | assumption | omega) H.sat) fun a v w q F => ?_)
  obtain ⟨X_2, x_2, rfl, X⟩ := q
  have H := St.mk F X
  obtain ⟨R1, hle, hr_1, X⟩ := (H.sat.front 0 rfl).bytesO_fix
  have H := St.mk H.sl X
  have hleR1 := hle
  refine st_op 4 1 (op_appendB (d := 17) (t := 26) (A1 := X_1) (c1 := x_1) (bs := (be 4 (1 : Int).toNat)) (z := .int .u8 0) (bytes := 1) H hr_1 (by kernel_rfl) rfl rfl rfl rfl rfl (by simp only [List.length_append, be_length, List.length_nil]; omega) fun a w A1 c1 H => ?_)
  refine st_run 5 1 0 [(4, .slice A1 (((be 4 (1 : Int).toNat) ++ (be 4 (7 : Int).toNat)).length) c1)] H (by kernel_rfl) fun a H => ?_
  refine ops_end _ ?_
  refine WK.seq ?_
  refine st_text 6 rfl ?_
  refine st_run 0 2 4 [(19, .pointer (some ⟨b1, 2, none⟩)), (18, .slice A1 (((be 4 (1 : Int).toNat) ++ (be 4 (7 : Int).toNat)).length) c1)] H (by kernel_rfl) fun a H => ?_
  refine st_op 2 3 (op_val (d := 20) (v := .int .u64 q) H (val_ld (k := 1) (t := 23) (off := 2) rfl (by kernel_rfl) rfl (by kernel_rfl)) fun a H => ?_)
  refine st_op 3 2 (op_call (d := 21) H (by kernel_rfl) rfl (ref09_great q (by first | assumption | omega) (by first | assumption | omega) H.sat) fun a v w q F => ?_)
  obtain ⟨X_3, x_3, rfl, X⟩ := q
  have H := St.mk F X
  obtain ⟨R2, hle, hr_2, X⟩ := (H.sat.front 0 rfl).bytesO_fix
  have H := St.mk H.sl X
  have hr_1 := hr_1.grow hle
  have hleR2 := hleR1.trans hle
  refine st_op 4 1 (op_appendB (d := 22) (t := 26) (A1 := A1) (c1 := c1) (bs := ((be 4 (1 : Int).toNat) ++ (be 4 (7 : Int).toNat))) (z := .int .u8 0) (bytes := 1) H hr_2 (by kernel_rfl) rfl rfl rfl rfl rfl (by simp only [List.length_append, be_length, List.length_nil]; omega) fun a w A2 c2 H => ?_)
  refine st_run 5 1 0 [(4, .slice A2 ((((be 4 (1 : Int).toNat) ++ (be 4 (7 : Int).toNat)) ++ (be 8 q.toNat)).length) c2)] H (by kernel_rfl) fun a H => ?_
  refine ops_end _ ?_
  refine WK.seq ?_
  refine st_text 7 rfl ?_
  refine st_run 0 2 5 [(24, .pointer (some ⟨b1, 3, none⟩)), (23, .slice A2 ((((be 4 (1 : Int).toNat) ++ (be 4 (7 : Int).toNat)) ++ (be 8 q.toNat)).length) c2)] H (by kernel_rfl) fun a H => ?_
  refine st_op 2 4 (op_val (d := 25) (v := .int .u8 0) H (val_ld (k := 1) (t := 5) (off := 3) rfl (by kernel_rfl) rfl (by kernel_rfl)) fun a H => ?_)
  refine st_run 3 1 3 [(26, .int .u32 0)] H (by kernel_rfl) fun a H => ?_
  refine st_op 4 2 (op_call (d := 27) H (by kernel_rfl) rfl (ref09_number 0 (by first | assumption | omega) (by first | assumption | omega) H.sat) fun a v w q F => ?_)
  obtain ⟨X_4, x_4, rfl, X⟩ := q
  have H := St.mk F X
  obtain ⟨R3, hle, hr_3, X⟩ := (H.sat.front 0 rfl).bytesO_fix
  have H := St.mk H.sl X
  have hr_1 := hr_1.grow hle
  have hr_2 := hr_2.grow hle
  have hleR3 := hleR2.trans hle
  refine st_op 5 1 (op_appendB (d := 28) (t := 26) (A1 := A2) (c1 := c2) (bs := (((be 4 (1 : Int).toNat) ++ (be 4 (7 : Int).toNat)) ++ (be 8 q.toNat))) (z := .int .u8 0) (bytes := 1) H hr_3 (by kernel_rfl) rfl rfl rfl rfl rfl (by simp only [List.length_append, be_length, List.length_nil]; omega) fun a w A3 c3 H => ?_)
  refine st_run 6 1 0 [(4, .slice A3 (((((be 4 (1 : Int).toNat) ++ (be 4 (7 : Int).toNat)) ++ (be 8 q.toNat)) ++ (be 4 (0 : Int).toNat)).length) c3)] H (by kernel_rfl) fun a H => ?_
  refine ops_end _ ?_
  refine WK.seq ?_
  refine st_text 6 rfl ?_
  refine st_run 0 2 4 [(30, .pointer (some ⟨b1, 12, none⟩)), (29, .slice A3 (((((be 4 (1 : Int).toNat) ++ (be 4 (7 : Int).toNat)) ++ (be 8 q.toNat)) ++ (be 4 (0 : Int).toNat)).length) c3)] H (by kernel_rfl) fun a H => ?_
  refine st_op 2 3 (op_val (d := 31) (v := .int .u32 1) H (val_ld (k := 1) (t := 22) (off := 12) rfl (by kernel_rfl) rfl (by kernel_rfl)) fun a H => ?_)
  refine st_op 3 2 (op_call (d := 32) H (by kernel_rfl) rfl (ref09_number 1 (by first | assumption | omega) (by first | assumption | omega) H.sat) fun a v w q F => ?_)
  obtain ⟨X_5, x_5, rfl, X⟩ := q
  have H := St.mk F X
  obtain ⟨R4, hle, hr_4, X⟩ := (H.sat.front 0 rfl).bytesO_fix
  have H := St.mk H.sl X
  have hr_1 := hr_1.grow hle
  have hr_2 := hr_2.grow hle
  have hr_3 := hr_3.grow hle
  have hleR4 := hleR3.trans hle
  refine st_op 4 1 (op_appendB (d := 33) (t := 26) (A1 := A3) (c1 := c3) (bs := ((((be 4 (1 : Int).toNat) ++ (be 4 (7 : Int).toNat)) ++ (be 8 q.toNat)) ++ (be 4 (0 : Int).toNat))) (z := .int .u8 0) (bytes := 1) H hr_4 (by kernel_rfl) rfl rfl rfl rfl rfl (by simp only [List.length_append, be_length, List.length_nil]; omega) fun a w A4 c4 H => ?_)
  refine st_run 5 1 0 [(4, .slice A4 ((((((be 4 (1 : Int).toNat) ++ (be 4 (7 : Int).toNat)) ++ (be 8 q.toNat)) ++ (be 4 (0 : Int).toNat)) ++ (be 4 (1 : Int).toNat)).length) c4)] H (by kernel_rfl) fun a H => ?_
  refine ops_end _ ?_
  refine WK.seq ?_
  refine st_text 8 rfl ?_
  refine st_run 0 4 4 [(37, .pointer (some ⟨b1, 4, none⟩)), (36, .pointer (some ⟨b1, 4, none⟩)), (35, .pointer (some ⟨b1, 4, none⟩)), (34, .slice A4 ((((((be 4 (1 : Int).toNat) ++ (be 4 (7 : Int).toNat)) ++ (be 8 q.toNat)) ++ (be 4 (0 : Int).toNat)) ++ (be 4 (1 : Int).toNat)).length) c4)] H (by kernel_rfl) fun a H => ?_
  refine st_op 4 3 (op_val (d := 38) (v := .int .u32 0) H (val_ld (k := 1) (t := 22) (off := 4) rfl (by kernel_rfl) rfl (by kernel_rfl)) fun a H => ?_)
  refine st_op 5 2 (op_call (d := 39) H (by kernel_rfl) rfl (ref09_number 0 (by first | assumption | omega) (by first | assumption | omega) H.sat) fun a v w q F => ?_)
  obtain ⟨X_6, x_6, rfl, X⟩ := q
  have H := St.mk F X
  obtain ⟨R5, hle, hr_5, X⟩ := (H.sat.front 0 rfl).bytesO_fix
  have H := St.mk H.sl X
  have hr_1 := hr_1.grow hle
  have hr_2 := hr_2.grow hle
  have hr_3 := hr_3.grow hle
  have hr_4 := hr_4.grow hle
  have hleR5 := hleR4.trans hle
  refine st_op 6 1 (op_appendB (d := 40) (t := 26) (A1 := A4) (c1 := c4) (bs := (((((be 4 (1 : Int).toNat) ++ (be 4 (7 : Int).toNat)) ++ (be 8 q.toNat)) ++ (be 4 (0 : Int).toNat)) ++ (be 4 (1 : Int).toNat))) (z := .int .u8 0) (bytes := 1) H hr_5 (by kernel_rfl) rfl rfl rfl rfl rfl (by simp only [List.length_append, be_length, List.length_nil]; omega) fun a w A5 c5 H => ?_)
  refine st_run 7 1 0 [(4, .slice A5 (((((((be 4 (1 : Int).toNat) ++ (be 4 (7 : Int).toNat)) ++ (be 8 q.toNat)) ++ (be 4 (0 : Int).toNat)) ++ (be 4 (1 : Int).toNat)) ++ (be 4 (0 : Int).toNat)).length) c5)] H (by kernel_rfl) fun a H => ?_
  refine ops_end _ ?_
  refine WK.seq ?_
  refine st_text 8 rfl ?_
  refine st_run 0 4 4 [(44, .pointer (some ⟨b1, 5, none⟩)), (43, .pointer (some ⟨b1, 4, none⟩)), (42, .pointer (some ⟨b1, 4, none⟩)), (41, .slice A5 (((((((be 4 (1 : Int).toNat) ++ (be 4 (7 : Int).toNat)) ++ (be 8 q.toNat)) ++ (be 4 (0 : Int).toNat)) ++ (be 4 (1 : Int).toNat)) ++ (be 4 (0 : Int).toNat)).length) c5)] H (by kernel_rfl) fun a H => ?_
  refine st_op 4 3 (op_val (d := 45) (v := .int .u32 0) H (val_ld (k := 1) (t := 22) (off := 5) rfl (by kernel_rfl) rfl (by kernel_rfl)) fun a H => ?_)
  refine st_op 5 2 (op_call (d := 46) H (by kernel_rfl) rfl (ref09_number 0 (by first | assumption | omega) (by first | assumption | omega) H.sat) fun a v w q F => ?_)
  obtain ⟨X_7, x_7, rfl, X⟩ := q
  have H := St.mk F X
  obtain ⟨R6, hle, hr_6, X⟩ := (H.sat.front 0 rfl).bytesO_fix
  have H := St.mk H.sl X
  have hr_1 := hr_1.grow hle
  have hr_2 := hr_2.grow hle
  have hr_3 := hr_3.grow hle
  have hr_4 := hr_4.grow hle
  have hr_5 := hr_5.grow hle
  have hleR6 := hleR5.trans hle
  refine st_op 6 1 (op_appendB (d := 47) (t := 26) (A1 := A5) (c1 := c5) (bs := ((((((be 4 (1 : Int).toNat) ++ (be 4 (7 : Int).toNat)) ++ (be 8 q.toNat)) ++ (be 4 (0 : Int).toNat)) ++ (be 4 (1 : Int).toNat)) ++ (be 4 (0 : Int).toNat))) (z := .int .u8 0) (bytes := 1) H hr_6 (by kernel_rfl) rfl rfl rfl rfl rfl (by simp only [List.length_append, be_length, List.length_nil]; omega) fun a w A6 c6 H => ?_)
  refine st_run 7 1 0 [(4, .slice A6 ((((((((be 4 (1 : Int).toNat) ++ (be 4 (7 : Int).toNat)) ++ (be 8 q.toNat)) ++ (be 4 (0 : Int).toNat)) ++ (be 4 (1 : Int).toNat)) ++ (be 4 (0 : Int).toNat)) ++ (be 4 (0 : Int).toNat)).length) c6)] H (by kernel_rfl) fun a H => ?_
  refine ops_end _ ?_
  refine WK.seq ?_
  refine st_text 7 rfl ?_
  refine st_run 0 3 4 [(50, .pointer (some ⟨b1, 6, none⟩)), (49, .pointer (some ⟨b1, 4, none⟩)), (48, .slice A6 ((((((((be 4 (1 : Int).toNat) ++ (be 4 (7 : Int).toNat)) ++ (be 8 q.toNat)) ++ (be 4 (0 : Int).toNat)) ++ (be 4 (1 : Int).toNat)) ++ (be 4 (0 : Int).toNat)) ++ (be 4 (0 : Int).toNat)).length) c6)] H (by kernel_rfl) fun a H => ?_
  refine st_op 3 3 (op_val (d := 51) (v := .bool false) H (val_ld (k := 1) (t := 4) (off := 6) rfl (by kernel_rfl) rfl (by kernel_rfl)) fun a H => ?_)
  refine st_op 4 2 (op_call (d := 52) H (by kernel_rfl) rfl (ref09_truth0 H.sat) fun a v w q F => ?_)
  obtain ⟨X_8, x_8, rfl, X⟩ := q
  have H := St.mk F X
  obtain ⟨R7, hle, hr_7, X⟩ := (H.sat.front 0 rfl).bytesO_fix
  have H := St.mk H.sl X
  have hr_1 := hr_1.grow hle
  have hr_2 := hr_2.grow hle
  have hr_3 := hr_3.grow hle
  have hr_4 := hr_4.grow hle
  have hr_5 := hr_5.grow hle
  have hr_6 := hr_6.grow hle
  have hleR7 := hleR6.trans hle
  refine st_op 5 1 (op_appendB (d := 53) (t := 26) (A1 := A6) (c1 := c6) (bs := (((((((be 4 (1 : Int).toNat) ++ (be 4 (7 : Int).toNat)) ++ (be 8 q.toNat)) ++ (be 4 (0 : Int).toNat)) ++ (be 4 (1 : Int).toNat)) ++ (be 4 (0 : Int).toNat)) ++ (be 4 (0 : Int).toNat))) (z := .int .u8 0) (bytes := 1) H hr_7 (by kernel_rfl) rfl rfl rfl rfl rfl (by simp only [List.length_append, be_length, List.length_nil]; omega) fun a w A7 c7 H => ?_)
  refine st_run 6 1 0 [(4, .slice A7 (((((((((be 4 (1 : Int).toNat) ++ (be 4 (7 : Int).toNat)) ++ (be 8 q.toNat)) ++ (be 4 (0 : Int).toNat)) ++ (be 4 (1 : Int).toNat)) ++ (be 4 (0 : Int).toNat)) ++ (be 4 (0 : Int).toNat)) ++ (be 4 (0 : Int).toNat)).length) c7)] H (by kernel_rfl) fun a H => ?_
  refine ops_end _ ?_
  refine WK.seq ?_
  refine st_text 7 rfl ?_
  refine st_run 0 3 4 [(56, .pointer (some ⟨b1, 7, none⟩)), (55, .pointer (some ⟨b1, 4, none⟩)), (54, .slice A7 (((((((((be 4 (1 : Int).toNat) ++ (be 4 (7 : Int).toNat)) ++ (be 8 q.toNat)) ++ (be 4 (0 : Int).toNat)) ++ (be 4 (1 : Int).toNat)) ++ (be 4 (0 : Int).toNat)) ++ (be 4 (0 : Int).toNat)) ++ (be 4 (0 : Int).toNat)).length) c7)] H (by kernel_rfl) fun a H => ?_
  refine st_op 3 3 (op_val (d := 57) (v := .int .u32 0) H (val_ld (k := 1) (t := 22) (off := 7) rfl (by kernel_rfl) rfl (by kernel_rfl)) fun a H => ?_)
  refine st_op 4 2 (op_call (d := 58) H (by kernel_rfl) rfl (ref09_number 0 (by first | assumption | omega) (by first | assumption | omega) H.sat) fun a v w q F => ?_)
  obtain ⟨X_9, x_9, rfl, X⟩ := q
  have H := St.mk F X
  obtain ⟨R8, hle, hr_8, X⟩ := (H.sat.front 0 rfl).bytesO_fix
  have H := St.mk H.sl X
  have hr_1 := hr_1.grow hle
  have hr_2 := hr_2.grow hle
  have hr_3 := hr_3.grow hle
  have hr_4 := hr_4.grow hle
  have hr_5 := hr_5.grow hle
  have hr_6 := hr_6.grow hle
  have hr_7 := hr_7.grow hle
  have hleR8 := hleR7.trans hle
  refine st_op 5 1 (op_appendB (d := 59) (t := 26) (A1 := A7) (c1 := c7) (bs := ((((((((be 4 (1 : Int).toNat) ++ (be 4 (7 : Int).toNat)) ++ (be 8 q.toNat)) ++ (be 4 (0 : Int).toNat)) ++ (be 4 (1 : Int).toNat)) ++ (be 4 (0 : Int).toNat)) ++ (be 4 (0 : Int).toNat)) ++ (be 4 (0 : Int).toNat))) (z := .int .u8 0) (bytes := 1) H hr_8 (by kernel_rfl) rfl rfl rfl rfl rfl (by simp only [List.length_append, be_length, List.length_nil]; omega) fun a w A8 c8 H => ?_)
  refine st_run 6 1 0 [(4, .slice A8 ((((((((((be 4 (1 : Int).toNat) ++ (be 4 (7 : Int).toNat)) ++ (be 8 q.toNat)) ++ (be 4 (0 : Int).toNat)) ++ (be 4 (1 : Int).toNat)) ++ (be 4 (0 : Int).toNat)) ++ (be 4 (0 : Int).toNat)) ++ (be 4 (0 : Int).toNat)) ++ (be 4 (0 : Int).toNat)).length) c8)] H (by kernel_rfl) fun a H => ?_
  refine ops_end _ ?_
  refine WK.seq ?_
  refine st_text 7 rfl ?_
  refine st_run 0 3 4 [(62, .pointer (some ⟨b1, 8, none⟩)), (61, .pointer (some ⟨b1, 4, none⟩)), (60, .slice A8 ((((((((((be 4 (1 : Int).toNat) ++ (be 4 (7 : Int).toNat)) ++ (be 8 q.toNat)) ++ (be 4 (0 : Int).toNat)) ++ (be 4 (1 : Int).toNat)) ++ (be 4 (0 : Int).toNat)) ++ (be 4 (0 : Int).toNat)) ++ (be 4 (0 : Int).toNat)) ++ (be 4 (0 : Int).toNat)).length) c8)] H (by kernel_rfl) fun a H => ?_
  refine st_op 3 3 (op_val (d := 63) (v := .int .u64 0) H (val_ld (k := 1) (t := 23) (off := 8) rfl (by kernel_rfl) rfl (by kernel_rfl)) fun a H => ?_)
  refine st_op 4 2 (op_call (d := 64) H (by kernel_rfl) rfl (ref09_great 0 (by first | assumption | omega) (by first | assumption | omega) H.sat) fun a v w q F => ?_)
  obtain ⟨X_10, x_10, rfl, X⟩ := q
  have H := St.mk F X
  obtain ⟨R9, hle, hr_9, X⟩ := (H.sat.front 0 rfl).bytesO_fix
  have H := St.mk H.sl X
  have hr_1 := hr_1.grow hle
  have hr_2 := hr_2.grow hle
  have hr_3 := hr_3.grow hle
  have hr_4 := hr_4.grow hle
  have hr_5 := hr_5.grow hle
  have hr_6 := hr_6.grow hle
  have hr_7 := hr_7.grow hle
  have hr_8 := hr_8.grow hle
  have hleR9 := hleR8.trans hle
  refine st_op 5 1 (op_appendB (d := 65) (t := 26) (A1 := A8) (c1 := c8) (bs := (((((((((be 4 (1 : Int).toNat) ++ (be 4 (7 : Int).toNat)) ++ (be 8 q.toNat)) ++ (be 4 (0 : Int).toNat)) ++ (be 4 (1 : Int).toNat)) ++ (be 4 (0 : Int).toNat)) ++ (be 4 (0 : Int).toNat)) ++ (be 4 (0 : Int).toNat)) ++ (be 4 (0 : Int).toNat))) (z := .int .u8 0) (bytes := 1) H hr_9 (by kernel_rfl) rfl rfl rfl rfl rfl (by simp only [List.length_append, be_length, List.length_nil]; omega) fun a w A9 c9 H => ?_)
  refine st_run 6 1 0 [(4, .slice A9 (((((((((((be 4 (1 : Int).toNat) ++ (be 4 (7 : Int).toNat)) ++ (be 8 q.toNat)) ++ (be 4 (0 : Int).toNat)) ++ (be 4 (1 : Int).toNat)) ++ (be 4 (0 : Int).toNat)) ++ (be 4 (0 : Int).toNat)) ++ (be 4 (0 : Int).toNat)) ++ (be 4 (0 : Int).toNat)) ++ (be 8 (0 : Int).toNat)).length) c9)] H (by kernel_rfl) fun a H => ?_
  refine ops_end _ ?_
  refine WK.seq ?_
  refine st_text 6 rfl ?_
  refine st_run 0 2 4 [(67, .pointer (some ⟨b1, 9, none⟩)), (66, .slice A9 (((((((((((be 4 (1 : Int).toNat) ++ (be 4 (7 : Int).toNat)) ++ (be 8 q.toNat)) ++ (be 4 (0 : Int).toNat)) ++ (be 4 (1 : Int).toNat)) ++ (be 4 (0 : Int).toNat)) ++ (be 4 (0 : Int).toNat)) ++ (be 4 (0 : Int).toNat)) ++ (be 4 (0 : Int).toNat)) ++ (be 8 (0 : Int).toNat)).length) c9)] H (by kernel_rfl) fun a H => ?_
  refine st_op 2 3 (op_val (d := 68) (v := .int .u64 0) H (val_ld (k := 1) (t := 23) (off := 9) rfl (by kernel_rfl) rfl (by kernel_rfl)) fun a H => ?_)
  refine st_op 3 2 (op_call (d := 69) H (by kernel_rfl) rfl (ref09_great 0 (by first | assumption | omega) (by first | assumption | omega) H.sat) fun a v w q F => ?_)
  obtain ⟨X_11, x_11, rfl, X⟩ := q
  have H := St.mk F X
  obtain ⟨R10, hle, hr_10, X⟩ := (H.sat.front 0 rfl).bytesO_fix
  have H := St.mk H.sl X
  have hr_1 := hr_1.grow hle
  have hr_2 := hr_2.grow hle
  have hr_3 := hr_3.grow hle
  have hr_4 := hr_4.grow hle
  have hr_5 := hr_5.grow hle
  have hr_6 := hr_6.grow hle
  have hr_7 := hr_7.grow hle
  have hr_8 := hr_8.grow hle
  have hr_9 := hr_9.grow hle
  have hleR10 := hleR9.trans hle
  refine st_op 4 1 (op_appendB (d := 70) (t := 26) (A1 := A9) (c1 := c9) (bs := ((((((((((be 4 (1 : Int).toNat) ++ (be 4 (7 : Int).toNat)) ++ (be 8 q.toNat)) ++ (be 4 (0 : Int).toNat)) ++ (be 4 (1 : Int).toNat)) ++ (be 4 (0 : Int).toNat)) ++ (be 4 (0 : Int).toNat)) ++ (be 4 (0 : Int).toNat)) ++ (be 4 (0 : Int).toNat)) ++ (be 8 (0 : Int).toNat))) (z := .int .u8 0) (bytes := 1) H hr_10 (by kernel_rfl) rfl rfl rfl rfl rfl (by simp only [List.length_append, be_length, List.length_nil]; omega) fun a w A10 c10 H => ?_)
  refine st_run 5 1 0 [(4, .slice A10 ((((((((((((be 4 (1 : Int).toNat) ++ (be 4 (7 : Int).toNat)) ++ (be 8 q.toNat)) ++ (be 4 (0 : Int).toNat)) ++ (be 4 (1 : Int).toNat)) ++ (be 4 (0 : Int).toNat)) ++ (be 4 (0 : Int).toNat)) ++ (be 4 (0 : Int).toNat)) ++ (be 4 (0 : Int).toNat)) ++ (be 8 (0 : Int).toNat)) ++ (be 8 (0 : Int).toNat)).length) c10)] H (by kernel_rfl) fun a H => ?_
  refine ops_end _ ?_
  refine WK.seq ?_
  refine st_text 6 rfl ?_
  refine st_run 0 2 4 [(72, .pointer (some ⟨b1, 10, none⟩)), (71, .slice A10 ((((((((((((be 4 (1 : Int).toNat) ++ (be 4 (7 : Int).toNat)) ++ (be 8 q.toNat)) ++ (be 4 (0 : Int).toNat)) ++ (be 4 (1 : Int).toNat)) ++ (be 4 (0 : Int).toNat)) ++ (be 4 (0 : Int).toNat)) ++ (be 4 (0 : Int).toNat)) ++ (be 4 (0 : Int).toNat)) ++ (be 8 (0 : Int).toNat)) ++ (be 8 (0 : Int).toNat)).length) c10)] H (by kernel_rfl) fun a H => ?_
  refine st_op 2 3 (op_val (d := 73) (v := .slice none 0 0) H (val_ld (k := 1) (t := 26) (off := 10) rfl (by kernel_rfl) rfl (by kernel_rfl)) fun a H => ?_)
  refine st_op 3 2 (op_call (d := 74) H (by kernel_rfl) rfl (ref09_bytes_nil H.sat) fun a v w q F => ?_)
  obtain ⟨X_12, x_12, rfl, X⟩ := q
  have H := St.mk F X
  obtain ⟨R11, hle, hr_11, X⟩ := (H.sat.front 0 rfl).bytesO_fix
  have H := St.mk H.sl X
  have hr_1 := hr_1.grow hle
  have hr_2 := hr_2.grow hle
  have hr_3 := hr_3.grow hle
  have hr_4 := hr_4.grow hle
  have hr_5 := hr_5.grow hle
  have hr_6 := hr_6.grow hle
  have hr_7 := hr_7.grow hle
  have hr_8 := hr_8.grow hle
  have hr_9 := hr_9.grow hle
  have hr_10 := hr_10.grow hle
  have hleR11 := hleR10.trans hle
  refine st_op 4 1 (op_appendB (d := 75) (t := 26) (A1 := A10) (c1 := c10) (bs := (((((((((((be 4 (1 : Int).toNat) ++ (be 4 (7 : Int).toNat)) ++ (be 8 q.toNat)) ++ (be 4 (0 : Int).toNat)) ++ (be 4 (1 : Int).toNat)) ++ (be 4 (0 : Int).toNat)) ++ (be 4 (0 : Int).toNat)) ++ (be 4 (0 : Int).toNat)) ++ (be 4 (0 : Int).toNat)) ++ (be 8 (0 : Int).toNat)) ++ (be 8 (0 : Int).toNat))) (z := .int .u8 0) (bytes := 1) H hr_11 (by kernel_rfl) rfl rfl rfl rfl rfl (by simp only [List.length_append, be_length, List.length_nil]; omega) fun a w A11 c11 H => ?_)
  refine st_run 5 1 0 [(4, .slice A11 (((((((((((((be 4 (1 : Int).toNat) ++ (be 4 (7 : Int).toNat)) ++ (be 8 q.toNat)) ++ (be 4 (0 : Int).toNat)) ++ (be 4 (1 : Int).toNat)) ++ (be 4 (0 : Int).toNat)) ++ (be 4 (0 : Int).toNat)) ++ (be 4 (0 : Int).toNat)) ++ (be 4 (0 : Int).toNat)) ++ (be 8 (0 : Int).toNat)) ++ (be 8 (0 : Int).toNat)) ++ (be 4 (0 : Int).toNat ++ [])).length) c11)] H (by kernel_rfl) fun a H => ?_
  refine ops_end _ ?_
  refine WK.seq ?_
  refine st_text 8 rfl ?_
  refine st_run 0 2 6 [(77, .pointer (some ⟨b1, 11, none⟩)), (76, .slice A11 (((((((((((((be 4 (1 : Int).toNat) ++ (be 4 (7 : Int).toNat)) ++ (be 8 q.toNat)) ++ (be 4 (0 : Int).toNat)) ++ (be 4 (1 : Int).toNat)) ++ (be 4 (0 : Int).toNat)) ++ (be 4 (0 : Int).toNat)) ++ (be 4 (0 : Int).toNat)) ++ (be 4 (0 : Int).toNat)) ++ (be 8 (0 : Int).toNat)) ++ (be 8 (0 : Int).toNat)) ++ (be 4 (0 : Int).toNat ++ [])).length) c11)] H (by kernel_rfl) fun a H => ?_
  refine st_op 2 5 (op_val (d := 78) (v := .slice none 0 0) H (val_ld (k := 1) (t := 59) (off := 11) rfl (by kernel_rfl) rfl (by kernel_rfl)) fun a H => ?_)
  refine st_run 3 2 3 [(80, .int .u32 0), (79, .int .i64 0)] H (by kernel_rfl) fun a H => ?_
  refine st_op 5 2 (op_call (d := 81) H (by kernel_rfl) rfl (ref09_number 0 (by first | assumption | omega) (by first | assumption | omega) H.sat) fun a v w q F => ?_)
  obtain ⟨X_13, x_13, rfl, X⟩ := q
  have H := St.mk F X
  obtain ⟨R12, hle, hr_12, X⟩ := (H.sat.front 0 rfl).bytesO_fix
  have H := St.mk H.sl X
  have hr_1 := hr_1.grow hle
  have hr_2 := hr_2.grow hle
  have hr_3 := hr_3.grow hle
  have hr_4 := hr_4.grow hle
  have hr_5 := hr_5.grow hle
  have hr_6 := hr_6.grow hle
  have hr_7 := hr_7.grow hle
  have hr_8 := hr_8.grow hle
  have hr_9 := hr_9.grow hle
  have hr_10 := hr_10.grow hle
  have hr_11 := hr_11.grow hle
  have hleR12 := hleR11.trans hle
  refine st_op 6 1 (op_appendB (d := 82) (t := 26) (A1 := A11) (c1 := c11) (bs := ((((((((((((be 4 (1 : Int).toNat) ++ (be 4 (7 : Int).toNat)) ++ (be 8 q.toNat)) ++ (be 4 (0 : Int).toNat)) ++ (be 4 (1 : Int).toNat)) ++ (be 4 (0 : Int).toNat)) ++ (be 4 (0 : Int).toNat)) ++ (be 4 (0 : Int).toNat)) ++ (be 4 (0 : Int).toNat)) ++ (be 8 (0 : Int).toNat)) ++ (be 8 (0 : Int).toNat)) ++ (be 4 (0 : Int).toNat ++ []))) (z := .int .u8 0) (bytes := 1) H hr_12 (by kernel_rfl) rfl rfl rfl rfl rfl (by simp only [List.length_append, be_length, List.length_nil]; omega) fun a w A12 c12 H => ?_)
  refine st_run 7 1 0 [(4, .slice A12 ((((((((((((((be 4 (1 : Int).toNat) ++ (be 4 (7 : Int).toNat)) ++ (be 8 q.toNat)) ++ (be 4 (0 : Int).toNat)) ++ (be 4 (1 : Int).toNat)) ++ (be 4 (0 : Int).toNat)) ++ (be 4 (0 : Int).toNat)) ++ (be 4 (0 : Int).toNat)) ++ (be 4 (0 : Int).toNat)) ++ (be 8 (0 : Int).toNat)) ++ (be 8 (0 : Int).toNat)) ++ (be 4 (0 : Int).toNat ++ [])) ++ (be 4 (0 : Int).toNat)).length) c12)] H (by kernel_rfl) fun a H => ?_
  refine ops_end _ ?_
  refine WK.seq ?_
  refine WK.seq ?_
  refine st_text 1 rfl ?_
  refine st_run 0 1 0 [(5, .int .i64 0)] H (by kernel_rfl) fun a H => ?_
  refine ops_end _ ?_
  refine WK.block ?_
  refine WK.loop (fun m a w => 0 = m ∧ St 100 e R12 a w [(1, .pointer (some ⟨b1, 0, none⟩)), (4, .slice A12 ((((((((((((((be 4 (1 : Int).toNat) ++ (be 4 (7 : Int).toNat)) ++ (be 8 q.toNat)) ++ (be 4 (0 : Int).toNat)) ++ (be 4 (1 : Int).toNat)) ++ (be 4 (0 : Int).toNat)) ++ (be 4 (0 : Int).toNat)) ++ (be 4 (0 : Int).toNat)) ++ (be 4 (0 : Int).toNat)) ++ (be 8 (0 : Int).toNat)) ++ (be 8 (0 : Int).toNat)) ++ (be 4 (0 : Int).toNat ++ [])) ++ (be 4 (0 : Int).toNat)).length) c12), (5, .int .i64 0)] (bytesO 5 A12 c12 (((((((((((((be 4 (1 : Int).toNat) ++ (be 4 (7 : Int).toNat)) ++ (be 8 q.toNat)) ++ (be 4 (0 : Int).toNat)) ++ (be 4 (1 : Int).toNat)) ++ (be 4 (0 : Int).toNat)) ++ (be 4 (0 : Int).toNat)) ++ (be 4 (0 : Int).toNat)) ++ (be 4 (0 : Int).toNat)) ++ (be 8 (0 : Int).toNat)) ++ (be 8 (0 : Int).toNat)) ++ (be 4 (0 : Int).toNat ++ [])) ++ (be 4 (0 : Int).toNat)) :: blk b1 (.cells #[.int .u8 1, .int .u32 7, .int .u64 q, .int .u8 0, .int .u32 0, .int .u32 0, .bool false, .int .u32 0, .int .u64 0, .int .u64 0, .slice none 0 0, .slice none 0 0, .int .u32 1] 61) :: L)) (0) ⟨rfl, H.sub' ⟨by kernel_rfl, by kernel_rfl, by kernel_rfl, trivial⟩⟩ ?_
  clear H
  rintro m a w ⟨rfl, H⟩ hrec
  have hrec0 := hrec; clear hrec
  refine WK.seq ?_
  refine WK.seq ?_
  refine st_text 5 rfl ?_
  refine st_run 0 2 3 [(84, .pointer (some ⟨b1, 11, none⟩)), (83, .int .i64 0)] H (by kernel_rfl) fun a H => ?_
  refine st_op 2 2 (op_val (d := 85) (v := .slice none 0 0) H (val_ld (k := 1) (t := 59) (off := 11) rfl (by kernel_rfl) rfl (by kernel_rfl)) fun a H => ?_)
  refine st_run 3 2 0 [(87, .bool false), (86, .int .i64 0)] H (by kernel_rfl) fun a H => ?_
  refine ops_end _ ?_
  refine st_false H (by kernel_rfl) ?_
  refine WK.exit (k' := _) rfl ?_
  refine WK.seq ?_
  refine st_text 3 rfl ?_
  refine st_run 0 3 0 [(3, .int .i64 0), (2, .slice A12 ((((((((((((((be 4 (1 : Int).toNat) ++ (be 4 (7 : Int).toNat)) ++ (be 8 q.toNat)) ++ (be 4 (0 : Int).toNat)) ++ (be 4 (1 : Int).toNat)) ++ (be 4 (0 : Int).toNat)) ++ (be 4 (0 : Int).toNat)) ++ (be 4 (0 : Int).toNat)) ++ (be 4 (0 : Int).toNat)) ++ (be 8 (0 : Int).toNat)) ++ (be 8 (0 : Int).toNat)) ++ (be 4 (0 : Int).toNat ++ [])) ++ (be 4 (0 : Int).toNat)).length) c12), (99, .slice A12 ((((((((((((((be 4 (1 : Int).toNat) ++ (be 4 (7 : Int).toNat)) ++ (be 8 q.toNat)) ++ (be 4 (0 : Int).toNat)) ++ (be 4 (1 : Int).toNat)) ++ (be 4 (0 : Int).toNat)) ++ (be 4 (0 : Int).toNat)) ++ (be 4 (0 : Int).toNat)) ++ (be 4 (0 : Int).toNat)) ++ (be 8 (0 : Int).toNat)) ++ (be 8 (0 : Int).toNat)) ++ (be 4 (0 : Int).toNat ++ [])) ++ (be 4 (0 : Int).toNat)).length) c12)] H (by kernel_rfl) fun a H => ?_
  refine ops_end _ ?_
  refine st_ret (vs := [.slice A12 ((((((((((((((be 4 (1 : Int).toNat) ++ (be 4 (7 : Int).toNat)) ++ (be 8 q.toNat)) ++ (be 4 (0 : Int).toNat)) ++ (be 4 (1 : Int).toNat)) ++ (be 4 (0 : Int).toNat)) ++ (be 4 (0 : Int).toNat)) ++ (be 4 (0 : Int).toNat)) ++ (be 4 (0 : Int).toNat)) ++ (be 8 (0 : Int).toNat)) ++ (be 8 (0 : Int).toNat)) ++ (be 4 (0 : Int).toNat ++ [])) ++ (be 4 (0 : Int).toNat)).length) c12, .int .i64 0]) H Tryd.func24 rfl (.tmp (by kernel_rfl) (.tmp (by kernel_rfl) (.nil))) ?_
  have X := (H.sat.msk [true, false])
  exact ⟨R12, hleR12, _, _, rfl, X⟩
end Go.Proofs.YtldnpolfcickaaaDoor
