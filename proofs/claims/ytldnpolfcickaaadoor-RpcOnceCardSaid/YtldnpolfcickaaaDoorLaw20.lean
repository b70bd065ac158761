/- Numbers as bytes. -/
import Derived.Test.YtldnpolfcickaaaDoorRpc4
set_option linter.unusedVariables false
set_option linter.unusedSimpArgs false
set_option maxRecDepth 100000
set_option maxHeartbeats 1000000
namespace Go.Proofs.YtldnpolfcickaaaDoor
open Go Go.WH

/-- wharfage/wharfagelaw20.asks -/
theorem law20_asks {e w : World} {R : Hp} {L : List HP}  (X : Sat e w R (L)) :
    Calls Tryd.prog 60 #[] w (Ret fun v w' => v = .agg #[.int .u8 0, .int .u32 0, .int .u64 0, .int .u8 1, .int .u32 1, .int .u32 1, .string ByteArray.empty, .int .u32 0, .int .u32 0, .string ByteArray.empty, .int .u32 0, .int .u32 0, .slice none 0 0] ∧ Sat e w' R (L)) := by
  refine enter (n := 3) (args := []) Tryd.func60 rfl rfl rfl X (fun a H => ?_)
  refine WK.seq ?_
  refine st_text 1 rfl ?_
  refine st_op 0 0 (op_new (d := 0) (vf := fun b => .pointer (some ⟨b, 0, none⟩)) (ob := .cells #[.int .u8 0, .int .u32 0, .int .u64 0, .int .u8 0, .int .u32 0, .int .u32 0, .string ByteArray.empty, .int .u32 0, .int .u32 0, .string ByteArray.empty, .int .u32 0, .int .u32 0, .slice none 0 0] 28) H (IsNew.of_run rfl fun w => (by kernel_rfl)) fun a w b1 H => ?_)
  refine ops_end _ ?_
  refine WK.seq ?_
  refine st_text 3 rfl ?_
  refine st_run 0 2 1 [(2, .agg #[.int .u8 0, .int .u32 0, .int .u64 0, .int .u8 1, .int .u32 1, .int .u32 1, .string ByteArray.empty, .int .u32 0, .int .u32 0, .string ByteArray.empty, .int .u32 0, .int .u32 0, .slice none 0 0]), (1, .agg #[.int .u32 1, .int .u32 1])] H (by kernel_rfl) fun a H => ?_
  refine st_op 2 0 (op_store (k := 0) (t := 28) (off := 0) (v := .agg #[.int .u8 0, .int .u32 0, .int .u64 0, .int .u8 1, .int .u32 1, .int .u32 1, .string ByteArray.empty, .int .u32 0, .int .u32 0, .string ByteArray.empty, .int .u32 0, .int .u32 0, .slice none 0 0]) H rfl (by kernel_rfl) (by kernel_rfl) fun a w H => ?_)
  refine ops_end _ ?_
  refine st_ret (vs := [.agg #[.int .u8 0, .int .u32 0, .int .u64 0, .int .u8 1, .int .u32 1, .int .u32 1, .string ByteArray.empty, .int .u32 0, .int .u32 0, .string ByteArray.empty, .int .u32 0, .int .u32 0, .slice none 0 0]]) H Tryd.func60 rfl (.cell (by kernel_rfl) (H.sat.blk (k := 0) rfl) (by kernel_rfl) (.nil)) ?_
  have X := (H.sat.msk [false])
  exact ⟨rfl, X⟩

/-- wharfage/wharfageref00.Same -/
theorem ref00_same {e w : World} {R : Hp} {L : List HP} (A : Option Addr) (B : Option Addr) (ca : Nat) (cb : Nat) (xs : List UInt8) (ys : List UInt8) (hx : RdB R A ca xs) (hy : RdB R B cb ys) (X : Sat e w R (L)) :
    Calls Tryd.prog 34 #[.slice A xs.length ca, .slice B ys.length cb] w (Ret fun v w' => v = .bool (xs == ys) ∧ Sat e w' R (L)) := by
  refine enter (n := 10) (args := [.slice A xs.length ca, .slice B ys.length cb]) Tryd.func34 rfl rfl rfl X (fun a H => ?_)
  refine WK.seq ?_
  refine st_text 1 rfl ?_
  refine st_run 0 1 0 [(4, .bool false)] H (by kernel_rfl) fun a H => ?_
  refine ops_end _ ?_
  refine WK.seq ?_
  refine st_text 6 rfl ?_
  refine st_run 0 1 5 [(5, .slice A xs.length ca)] H (by kernel_rfl) fun a H => ?_
  refine st_op 1 4 (op_val (d := 6) (v := .string (strB xs)) H (val_str hx (src := 26) (dst := 9) (by kernel_rfl) rfl rfl rfl rfl) fun a H => ?_)
  refine st_run 2 1 3 [(7, .slice B ys.length cb)] H (by kernel_rfl) fun a H => ?_
  refine st_op 3 2 (op_val (d := 8) (v := .string (strB ys)) H (val_str hy (src := 26) (dst := 9) (by kernel_rfl) rfl rfl rfl rfl) fun a H => ?_)
  refine st_run 4 2 0 [(4, .bool ((strB xs).toList == (strB ys).toList)), (9, .bool ((strB xs).toList == (strB ys).toList))] H (by kernel_rfl) fun a H => ?_
  refine ops_end _ ?_
  refine st_ret (vs := [.bool ((strB xs).toList == (strB ys).toList)]) H Tryd.func34 rfl (.tmp (by kernel_rfl) (.nil)) ?_
  have X := H.sat
  exact ⟨(congrArg Value.bool (strB_beq xs ys)), X⟩

/-- wharfage/wharfagelaw20.lives -/
theorem law20_lives {e w : World} {R : Hp} {L : List HP} (hT : Tabs 0 1 R) (X : Sat e w R (L)) :
    Calls Tryd.prog 22 #[] w (Ret fun v w' => ∃ R', R.Le R' ∧ v = .bool true ∧ Sat e w' R' (L)) := by
  refine enter (n := 100) (args := []) Tryd.func22 rfl rfl rfl X (fun a H => ?_)
  refine WK.seq ?_
  refine st_text 1 rfl ?_
  refine st_run 0 1 0 [(0, .bool false)] H (by kernel_rfl) fun a H => ?_
  refine ops_end _ ?_
  refine WK.seq ?_
  refine st_text 6 rfl ?_
  refine st_op 0 5 (op_call (d := 17) H (by kernel_rfl) rfl (rpc_new_bad 4 1 (by first | assumption | omega) H.sat) fun a v w q F => ?_)
  obtain ⟨rfl, X⟩ := q
  have H := St.mk F X
  refine st_run 1 5 0 [(2, .int .i64 2), (1, .pointer none), (19, .int .i64 2), (18, .pointer none), (16, .tuple #[.pointer none, .int .i64 2])] H (by kernel_rfl) fun a H => ?_
  refine ops_end _ ?_
  refine WK.seq ?_
  refine st_text 6 rfl ?_
  refine st_op 0 5 (op_call (d := 21) H (by kernel_rfl) rfl (rpc_new 0 1 (by first | assumption | omega) (by first | assumption | omega) H.sat) fun a v w q F => ?_)
  obtain ⟨x_1, rfl, X⟩ := q
  have H := St.mk F X
  refine st_run 1 5 0 [(4, .int .i64 0), (3, .pointer (some ⟨x_1, 0, none⟩)), (23, .int .i64 0), (22, .pointer (some ⟨x_1, 0, none⟩)), (20, .tuple #[.pointer (some ⟨x_1, 0, none⟩), .int .i64 0])] H (by kernel_rfl) fun a H => ?_
  refine ops_end _ ?_
  refine WK.seq ?_
  refine WK.seq ?_
  refine st_text 10 rfl ?_
  refine st_run 0 10 0 [(33, .bool false), (32, .bool false), (31, .pointer (some ⟨x_1, 0, none⟩)), (30, .bool false), (29, .bool false), (28, .bool false), (27, .int .i64 0), (26, .bool false), (25, .bool false), (24, .int .i64 2)] H (by kernel_rfl) fun a H => ?_
  refine ops_end _ ?_
  refine st_false H (by kernel_rfl) ?_
  refine WK.skip ?_
  refine WK.seq ?_
  refine st_text 4 rfl ?_
  refine st_run 0 1 3 [(34, .pointer (some ⟨x_1, 0, none⟩))] H (by kernel_rfl) fun a H => ?_
  refine st_op 1 2 (op_call (d := 35) H (by kernel_rfl) rfl (law20_asks H.sat) fun a v w q F => ?_)
  obtain ⟨rfl, X⟩ := q
  have H := St.mk F X
  refine st_op 2 1 (op_call (d := 36) H (by kernel_rfl) rfl (rpc_call x_1 0 1 0 (⟨0, 0, 0, 1, 1, 1, ByteArray.empty, 0, 0, ByteArray.empty, 0, 0, []⟩ : CallS) none 0 0 (by exact ⟨by decide, by decide, by decide, by decide, by decide, by decide, by decide, by decide, by decide, by decide⟩) (by exact RdB.nil _) (by first | assumption | omega) (by exact Nat.zero_le _) (by first | assumption | omega) (by first | assumption | omega) (by first | assumption | omega) (by first | assumption | omega) H.sat) fun a v w q F => ?_)
  rcases q with ⟨R1, hle, hf1, rfl, X⟩ | ⟨R2, hle, x_2, x_3, x_4, x_5, X_1, x_6, hf2, hf3, hf4, hf5, rfl, X⟩
  · exact absurd ((hf1 (by decide)).symm.trans (by kernel_rfl)) Bool.false_ne_true
  · skip
    have H := St.mk F X
    have hT := hT.grow hle
    have hleR2 := hle
    refine st_run 3 1 0 [(5, .int .i64 0)] H (by kernel_rfl) fun a H => ?_
    refine ops_end _ ?_
    refine WK.seq ?_
    refine st_text 3 rfl ?_
    refine st_run 0 1 2 [(37, .pointer (some ⟨x_1, 0, none⟩))] H (by kernel_rfl) fun a H => ?_
    refine st_op 1 1 (op_call (d := 38) H (by kernel_rfl) rfl (rpc_tick x_1 x_2 x_4 x_3 _ 0 1 1 (callAs (⟨0, 0, 0, 1, 1, 1, ByteArray.empty, 0, 0, ByteArray.empty, 0, 0, []⟩ : CallS) 0 1 (0 + 1)) X_1 x_6 0 2 0 0 (by assumption) (by first | assumption | omega) (by first | assumption | omega) (by first | assumption | omega) (by first | assumption | omega) (by first | assumption | omega) (by exact ⟨by decide, by decide, by decide, by decide, by decide, by decide, by decide, by decide, by decide, by decide⟩) (by first | assumption | omega) (by first | assumption | omega) (by exact Nat.zero_le _) (by first | assumption | omega) (((H.sat.front 2 rfl).front 2 rfl).front 2 rfl)) fun a v w q F => ?_)
    rcases q with ⟨hf6, rfl, X⟩ | ⟨R3, hle, X_2, x_7, hf7, rfl, X⟩
    · exfalso; omega
    · skip
      have H := St.mk F X
      have hf4 := hf4.grow hle
      have hT := hT.grow hle
      have hleR3 := hleR2.trans hle
      refine st_run 2 1 0 [(6, .slice X_2 ((bareB (callAs (⟨0, 0, 0, 1, 1, 1, ByteArray.empty, 0, 0, ByteArray.empty, 0, 0, []⟩ : CallS) 0 1 (0 + 1))).length) x_7)] H (by kernel_rfl) fun a H => ?_
      refine ops_end _ ?_
      refine WK.seq ?_
      refine st_text 3 rfl ?_
      refine st_run 0 1 2 [(39, .pointer (some ⟨x_1, 0, none⟩))] H (by kernel_rfl) fun a H => ?_
      refine st_op 1 1 (op_call (d := 40) H (by kernel_rfl) rfl (rpc_tick x_1 x_2 x_4 x_3 _ 0 1 1 (callAs (⟨0, 0, 0, 1, 1, 1, ByteArray.empty, 0, 0, ByteArray.empty, 0, 0, []⟩ : CallS) 0 1 (0 + 1)) X_1 x_6 2 4 1 1 (by assumption) (by first | assumption | omega) (by first | assumption | omega) (by first | assumption | omega) (by first | assumption | omega) (by first | assumption | omega) (by exact ⟨by decide, by decide, by decide, by decide, by decide, by decide, by decide, by decide, by decide, by decide⟩) (by first | assumption | omega) (by first | assumption | omega) (by exact Nat.zero_le _) (by first | assumption | omega) (((H.sat.front 2 rfl).front 2 rfl).front 2 rfl)) fun a v w q F => ?_)
      rcases q with ⟨hf8, rfl, X⟩ | ⟨R4, hle, X_3, x_8, hf9, rfl, X⟩
      · skip
        have H := St.mk F X
        refine st_run 2 1 0 [(7, .slice none 0 0)] H (by kernel_rfl) fun a H => ?_
        refine ops_end _ ?_
        refine WK.seq ?_
        refine st_text 7 rfl ?_
        refine st_run 0 1 6 [(42, .pointer (some ⟨x_1, 0, none⟩))] H (by kernel_rfl) fun a H => ?_
        refine st_op 1 5 (op_call (d := 43) H (by kernel_rfl) rfl (rpc_due x_1 x_2 x_4 x_3 _ 0 1 1 (callAs (⟨0, 0, 0, 1, 1, 1, ByteArray.empty, 0, 0, ByteArray.empty, 0, 0, []⟩ : CallS) 0 1 (0 + 1)) X_1 x_6 2 4 1 (by assumption) (by first | assumption | omega) (by first | assumption | omega) (by exact Nat.zero_le _) (((H.sat.front 2 rfl).front 2 rfl).front 2 rfl)) fun a v w q F => ?_)
        obtain ⟨rfl, X⟩ := q
        have H := St.mk F X
        refine st_run 2 5 0 [(9, .bool true), (8, .int .u64 2), (45, .bool true), (44, .int .u64 2), (41, .tuple #[.int .u64 2, .bool true])] H (by kernel_rfl) fun a H => ?_
        refine ops_end _ ?_
        refine WK.seq ?_
        refine st_text 3 rfl ?_
        refine st_run 0 1 2 [(46, .pointer (some ⟨x_1, 0, none⟩))] H (by kernel_rfl) fun a H => ?_
        refine st_op 1 1 (op_call (d := 47) H (by kernel_rfl) rfl (rpc_tick x_1 x_2 x_4 x_3 _ 0 1 1 (callAs (⟨0, 0, 0, 1, 1, 1, ByteArray.empty, 0, 0, ByteArray.empty, 0, 0, []⟩ : CallS) 0 1 (0 + 1)) X_1 x_6 2 4 1 2 (by assumption) (by first | assumption | omega) (by first | assumption | omega) (by first | assumption | omega) (by first | assumption | omega) (by first | assumption | omega) (by exact ⟨by decide, by decide, by decide, by decide, by decide, by decide, by decide, by decide, by decide, by decide⟩) (by first | assumption | omega) (by first | assumption | omega) (by exact Nat.zero_le _) (by first | assumption | omega) (((H.sat.front 2 rfl).front 2 rfl).front 2 rfl)) fun a v w q F => ?_)
        rcases q with ⟨hf10, rfl, X⟩ | ⟨R5, hle, X_4, x_9, hf11, rfl, X⟩
        · exfalso; omega
        · skip
          have H := St.mk F X
          have hf4 := hf4.grow hle
          have hT := hT.grow hle
          have hleR5 := hleR3.trans hle
          refine st_run 2 1 0 [(10, .slice X_4 ((bareB (callAs (⟨0, 0, 0, 1, 1, 1, ByteArray.empty, 0, 0, ByteArray.empty, 0, 0, []⟩ : CallS) 0 1 (0 + 1))).length) x_9)] H (by kernel_rfl) fun a H => ?_
          refine ops_end _ ?_
          refine WK.seq ?_
          refine st_text 7 rfl ?_
          refine st_run 0 1 6 [(49, .pointer (some ⟨x_1, 0, none⟩))] H (by kernel_rfl) fun a H => ?_
          refine st_op 1 5 (op_call (d := 50) H (by kernel_rfl) rfl (rpc_due x_1 x_2 x_4 x_3 _ 0 1 1 (callAs (⟨0, 0, 0, 1, 1, 1, ByteArray.empty, 0, 0, ByteArray.empty, 0, 0, []⟩ : CallS) 0 1 (0 + 1)) X_1 x_6 6 8 2 (by assumption) (by first | assumption | omega) (by first | assumption | omega) (by exact Nat.zero_le _) (((H.sat.front 2 rfl).front 2 rfl).front 2 rfl)) fun a v w q F => ?_)
          obtain ⟨rfl, X⟩ := q
          have H := St.mk F X
          refine st_run 2 5 0 [(12, .bool true), (11, .int .u64 6), (52, .bool true), (51, .int .u64 6), (48, .tuple #[.int .u64 6, .bool true])] H (by kernel_rfl) fun a H => ?_
          refine ops_end _ ?_
          refine WK.seq ?_
          refine st_text 11 rfl ?_
          refine st_run 0 1 10 [(54, .pointer (some ⟨x_1, 0, none⟩))] H (by kernel_rfl) fun a H => ?_
          refine st_op 1 9 (op_call (d := 55) H (by kernel_rfl) rfl (rpc_take x_1 x_2 x_4 x_3 _ 0 1 1 (callAs (⟨0, 0, 0, 1, 1, 1, ByteArray.empty, 0, 0, ByteArray.empty, 0, 0, []⟩ : CallS) 0 1 (0 + 1)) X_1 x_6 6 8 2 none 0 ([]) (by assumption) (by first | assumption | omega) (by first | assumption | omega) (by first | assumption | omega) (by exact RdB.nil _) (by first | assumption | omega) (((H.sat.front 2 rfl).front 2 rfl).front 2 rfl)) fun a v w q F => ?_)
          rcases q with ⟨R6, hle, hf12, rfl, X⟩ | ⟨R7, hle, X_5, x_10, X_6, x_11, X_7, hf13, rfl, X⟩
          · skip
            have H := St.mk F X
            have hf4 := hf4.grow hle
            have hT := hT.grow hle
            have hleR6 := hleR5.trans hle
            refine st_run 2 4 5 [(58, .bool false), (57, .agg #[.int .u8 0, .int .u32 0, .int .u64 0, .int .u8 0, .int .u32 0, .int .u32 0, .bool false, .int .u32 0, .int .u64 0, .int .u64 0, .slice none 0 0, .slice none 0 0, .int .u32 0]), (56, .agg #[.int .u8 0, .int .u32 0, .int .u64 0, .int .u8 0, .int .u32 0, .int .u32 0, .string ByteArray.empty, .int .u32 0, .int .u32 0, .string ByteArray.empty, .int .u32 0, .int .u32 0, .slice none 0 0]), (53, .tuple #[.agg #[.int .u8 0, .int .u32 0, .int .u64 0, .int .u8 0, .int .u32 0, .int .u32 0, .string ByteArray.empty, .int .u32 0, .int .u32 0, .string ByteArray.empty, .int .u32 0, .int .u32 0, .slice none 0 0], .agg #[.int .u8 0, .int .u32 0, .int .u64 0, .int .u8 0, .int .u32 0, .int .u32 0, .bool false, .int .u32 0, .int .u64 0, .int .u64 0, .slice none 0 0, .slice none 0 0, .int .u32 0], .bool false])] H (by kernel_rfl) fun a H => ?_
            refine st_op 6 4 (op_new (d := 13) (vf := fun b => .pointer (some ⟨b, 0, none⟩)) (ob := .cells #[.int .u8 0, .int .u32 0, .int .u64 0, .int .u8 0, .int .u32 0, .int .u32 0, .string ByteArray.empty, .int .u32 0, .int .u32 0, .string ByteArray.empty, .int .u32 0, .int .u32 0, .slice none 0 0] 28) H (IsNew.of_run rfl fun w => (by kernel_rfl)) fun a w b1 H => ?_)
            refine st_op 7 3 (op_new (d := 14) (vf := fun b => .pointer (some ⟨b, 0, none⟩)) (ob := .cells #[.int .u8 0, .int .u32 0, .int .u64 0, .int .u8 0, .int .u32 0, .int .u32 0, .bool false, .int .u32 0, .int .u64 0, .int .u64 0, .slice none 0 0, .slice none 0 0, .int .u32 0] 61) H (IsNew.of_run rfl fun w => (by kernel_rfl)) fun a w b2 H => ?_)
            refine st_op 8 2 (op_store (k := 1) (t := 28) (off := 0) (v := .agg #[.int .u8 0, .int .u32 0, .int .u64 0, .int .u8 0, .int .u32 0, .int .u32 0, .string ByteArray.empty, .int .u32 0, .int .u32 0, .string ByteArray.empty, .int .u32 0, .int .u32 0, .slice none 0 0]) H rfl (by kernel_rfl) (by kernel_rfl) fun a w H => ?_)
            refine st_op 9 1 (op_store (k := 0) (t := 61) (off := 0) (v := .agg #[.int .u8 0, .int .u32 0, .int .u64 0, .int .u8 0, .int .u32 0, .int .u32 0, .bool false, .int .u32 0, .int .u64 0, .int .u64 0, .slice none 0 0, .slice none 0 0, .int .u32 0]) H rfl (by kernel_rfl) (by kernel_rfl) fun a w H => ?_)
            refine st_run 10 1 0 [(15, .bool false)] H (by kernel_rfl) fun a H => ?_
            refine ops_end _ ?_
            refine WK.seq ?_
            refine st_text 42 rfl ?_
            refine st_run 0 8 34 [(66, .bool (((((bareB (callAs (⟨0, 0, 0, 1, 1, 1, ByteArray.empty, 0, 0, ByteArray.empty, 0, 0, []⟩ : CallS) 0 1 (0 + 1))).length : Nat) : Int) : Int) == 28)), (65, .bool (((((bareB (callAs (⟨0, 0, 0, 1, 1, 1, ByteArray.empty, 0, 0, ByteArray.empty, 0, 0, []⟩ : CallS) 0 1 (0 + 1))).length : Nat) : Int) : Int) == 28)), (64, .bool (((((bareB (callAs (⟨0, 0, 0, 1, 1, 1, ByteArray.empty, 0, 0, ByteArray.empty, 0, 0, []⟩ : CallS) 0 1 (0 + 1))).length : Nat) : Int) : Int) == 28)), (63, .int .i64 (((bareB (callAs (⟨0, 0, 0, 1, 1, 1, ByteArray.empty, 0, 0, ByteArray.empty, 0, 0, []⟩ : CallS) 0 1 (0 + 1))).length : Nat) : Int)), (62, .slice X_2 ((bareB (callAs (⟨0, 0, 0, 1, 1, 1, ByteArray.empty, 0, 0, ByteArray.empty, 0, 0, []⟩ : CallS) 0 1 (0 + 1))).length) x_7), (61, .bool true), (60, .bool true), (59, .int .i64 0)] H (by kernel_rfl) fun a H => ?_
            have hk1 : (((((bareB (callAs (⟨0, 0, 0, 1, 1, 1, ByteArray.empty, 0, 0, ByteArray.empty, 0, 0, []⟩ : CallS) 0 1 (0 + 1))).length : Nat) : Int) : Int) == 28) = true := by kernel_rfl
            have H := H.also (d := 66) (u := .bool (((((bareB (callAs (⟨0, 0, 0, 1, 1, 1, ByteArray.empty, 0, 0, ByteArray.empty, 0, 0, []⟩ : CallS) 0 1 (0 + 1))).length : Nat) : Int) : Int) == 28)) (v := .bool true) (by kernel_rfl) (congrArg Value.bool (hk1))
            refine st_run 8 14 20 [(80, .slice X_4 ((bareB (callAs (⟨0, 0, 0, 1, 1, 1, ByteArray.empty, 0, 0, ByteArray.empty, 0, 0, []⟩ : CallS) 0 1 (0 + 1))).length) x_9), (79, .slice X_2 ((bareB (callAs (⟨0, 0, 0, 1, 1, 1, ByteArray.empty, 0, 0, ByteArray.empty, 0, 0, []⟩ : CallS) 0 1 (0 + 1))).length) x_7), (78, .bool true), (77, .bool true), (76, .bool true), (75, .bool true), (74, .bool true), (73, .bool true), (72, .int .u64 2), (71, .bool true), (70, .bool true), (69, .bool true), (68, .int .i64 0), (67, .slice none 0 0)] H (by kernel_rfl) fun a H => ?_
            obtain ⟨R8, hle, hr_1, X⟩ := (H.sat.front 5 rfl).bytesO_fix
            have H := St.mk H.sl X
            have hf4 := hf4.grow hle
            have hT := hT.grow hle
            have hleR8 := hleR6.trans hle
            obtain ⟨R9, hle, hr_2, X⟩ := (H.sat.front 5 rfl).bytesO_fix
            have H := St.mk H.sl X
            have hf4 := hf4.grow hle
            have hr_1 := hr_1.grow hle
            have hT := hT.grow hle
            have hleR9 := hleR8.trans hle
            refine st_op 22 19 (op_call (d := 81) H (by kernel_rfl) rfl (ref00_same X_2 X_4 x_7 x_9 (bareB (callAs (⟨0, 0, 0, 1, 1, 1, ByteArray.empty, 0, 0, ByteArray.empty, 0, 0, []⟩ : CallS) 0 1 (0 + 1))) (bareB (callAs (⟨0, 0, 0, 1, 1, 1, ByteArray.empty, 0, 0, ByteArray.empty, 0, 0, []⟩ : CallS) 0 1 (0 + 1))) (by first | assumption | omega) (by first | assumption | omega) H.sat) fun a v w q F => ?_)
            obtain ⟨rfl, X⟩ := q
            have H := St.mk F X
            refine st_run 23 2 17 [(83, .bool ((bareB (callAs (⟨0, 0, 0, 1, 1, 1, ByteArray.empty, 0, 0, ByteArray.empty, 0, 0, []⟩ : CallS) 0 1 (0 + 1))) == (bareB (callAs (⟨0, 0, 0, 1, 1, 1, ByteArray.empty, 0, 0, ByteArray.empty, 0, 0, []⟩ : CallS) 0 1 (0 + 1))))), (82, .bool ((bareB (callAs (⟨0, 0, 0, 1, 1, 1, ByteArray.empty, 0, 0, ByteArray.empty, 0, 0, []⟩ : CallS) 0 1 (0 + 1))) == (bareB (callAs (⟨0, 0, 0, 1, 1, 1, ByteArray.empty, 0, 0, ByteArray.empty, 0, 0, []⟩ : CallS) 0 1 (0 + 1)))))] H (by kernel_rfl) fun a H => ?_
            have hk2 : ((bareB (callAs (⟨0, 0, 0, 1, 1, 1, ByteArray.empty, 0, 0, ByteArray.empty, 0, 0, []⟩ : CallS) 0 1 (0 + 1))) == (bareB (callAs (⟨0, 0, 0, 1, 1, 1, ByteArray.empty, 0, 0, ByteArray.empty, 0, 0, []⟩ : CallS) 0 1 (0 + 1)))) = true := by kernel_rfl
            have H := H.also (d := 83) (u := .bool ((bareB (callAs (⟨0, 0, 0, 1, 1, 1, ByteArray.empty, 0, 0, ByteArray.empty, 0, 0, []⟩ : CallS) 0 1 (0 + 1))) == (bareB (callAs (⟨0, 0, 0, 1, 1, 1, ByteArray.empty, 0, 0, ByteArray.empty, 0, 0, []⟩ : CallS) 0 1 (0 + 1))))) (v := .bool true) (by kernel_rfl) (congrArg Value.bool (hk2))
            refine st_run 25 8 9 [(91, .pointer (some ⟨x_1, 0, none⟩)), (90, .bool true), (89, .bool true), (88, .bool true), (87, .bool true), (86, .bool true), (85, .bool true), (84, .int .u64 6)] H (by kernel_rfl) fun a H => ?_
            refine st_op 33 8 (op_call (d := 92) H (by kernel_rfl) rfl (law20_asks H.sat) fun a v w q F => ?_)
            obtain ⟨rfl, X⟩ := q
            have H := St.mk F X
            refine st_op 34 7 (op_call (d := 93) H (by kernel_rfl) rfl (rpc_call_busy x_1 x_2 x_4 0 1 1 (⟨0, 0, 0, 1, 1, 1, ByteArray.empty, 0, 0, ByteArray.empty, 0, 0, []⟩ : CallS) none 0 2 (by exact ⟨by decide, by decide, by decide, by decide, by decide, by decide, by decide, by decide, by decide, by decide⟩) (by exact RdB.nil _) (by first | assumption | omega) (by exact Nat.zero_le _) (by first | assumption | omega) (by first | assumption | omega) (by first | assumption | omega) (by first | assumption | omega) (by kernel_rfl) (H.sat.front 2 rfl)) fun a v w q F => ?_)
            obtain ⟨R10, hle, rfl, X⟩ := q
            have H := St.mk F X
            have hf4 := hf4.grow hle
            have hr_1 := hr_1.grow hle
            have hr_2 := hr_2.grow hle
            have hT := hT.grow hle
            have hleR10 := hleR9.trans hle
            refine st_run 35 7 0 [(0, .bool true), (99, .bool true), (98, .bool true), (97, .bool false), (96, .bool true), (95, .bool true), (94, .bool true)] H (by kernel_rfl) fun a H => ?_
            refine ops_end _ ?_
            refine st_ret (vs := [.bool true]) H Tryd.func22 rfl (.tmp (by kernel_rfl) (.nil)) ?_
            have X := (H.sat.msk [false, false, false, false, false])
            exact ⟨R10, hleR10, rfl, X⟩
          · exact absurd (hf13.symm.trans (by kernel_rfl)) (by decide : ¬ (true = false))
      · exfalso; omega

/-- wharfage/wharfagelaw20.RpcNil -/
theorem rpc_nil {e w : World} {R : Hp} {L : List HP} (c : CallS) (A : Option Addr) (k : Nat) (at_ : Int) (X0 : Option Addr) (kx : Nat) (bs : List UInt8) (zero : Bool) (hr : RdB R X0 kx bs) (hT : Tabs 0 1 R) (h4 : 0 ≤ at_ ∧ at_ ≤ 18446744073709551615) (X : Sat e w R (L)) :
    Calls Tryd.prog 6 #[.agg #[.int .u8 c.client, .int .u32 c.inc, .int .u64 c.seq, .int .u8 c.kind, .int .u32 c.ino, .int .u32 c.gen, .string c.name, .int .u32 c.toIno, .int .u32 c.toGen, .string c.toName, .int .u32 c.off, .int .u32 c.size, .slice A c.data.length k], .int .u64 at_, .slice X0 bs.length kx, .bool zero] w (Ret fun v w' => ∃ R', R.Le R' ∧ v = .bool true ∧ Sat e w' R' (L)) := by
  refine enter (n := 69) (args := [.agg #[.int .u8 c.client, .int .u32 c.inc, .int .u64 c.seq, .int .u8 c.kind, .int .u32 c.ino, .int .u32 c.gen, .string c.name, .int .u32 c.toIno, .int .u32 c.toGen, .string c.toName, .int .u32 c.off, .int .u32 c.size, .slice A c.data.length k], .int .u64 at_, .slice X0 bs.length kx, .bool zero]) Tryd.func6 rfl rfl rfl X (fun a H => ?_)
  refine WK.seq ?_
  refine st_text 2 rfl ?_
  refine st_op 0 1 (op_new (d := 4) (vf := fun b => .pointer (some ⟨b, 0, none⟩)) (ob := .cells #[.int .u8 c.client, .int .u32 c.inc, .int .u64 c.seq, .int .u8 c.kind, .int .u32 c.ino, .int .u32 c.gen, .string c.name, .int .u32 c.toIno, .int .u32 c.toGen, .string c.toName, .int .u32 c.off, .int .u32 c.size, .slice A c.data.length k] 28) H (IsNew.of_run rfl fun w => (by kernel_rfl)) fun a w b1 H => ?_)
  refine st_run 1 1 0 [(8, .bool false)] H (by kernel_rfl) fun a H => ?_
  refine ops_end _ ?_
  refine WK.seq ?_
  refine st_text 1 rfl ?_
  refine st_run 0 1 0 [(9, .pointer none)] H (by kernel_rfl) fun a H => ?_
  refine ops_end _ ?_
  refine WK.seq ?_
  refine WK.seq ?_
  refine st_text 1 rfl ?_
  refine st_run 0 1 0 [(17, .bool zero)] H (by kernel_rfl) fun a H => ?_
  refine ops_end _ ?_
  refine st_cond (zero) H (by kernel_rfl) ?_ ?_
  · intro hc1
    refine st_text 3 rfl ?_
    refine st_run 0 1 2 [(18, .agg #[.int .u8 0, .int .u32 0, .int .u64 0, .slice none 0 0])] H (by kernel_rfl) fun a H => ?_
    refine st_op 1 1 (op_new (d := 19) (vf := fun b => .pointer (some ⟨b, 0, none⟩)) (ob := .cells #[.int .u8 0, .int .u32 0, .int .u64 0, .slice none 0 0] 68) H (IsNew.of_run rfl fun w => (by kernel_rfl)) fun a w b2 H => ?_)
    refine st_run 2 1 0 [(9, .pointer (some ⟨b2, 0, none⟩))] H (by kernel_rfl) fun a H => ?_
    refine ops_end _ ?_
    refine WK.seq ?_
    refine st_text 12 rfl ?_
    refine st_run 0 2 10 [(22, .slice X0 bs.length kx), (21, .pointer (some ⟨b2, 0, none⟩))] H (by kernel_rfl) fun a H => ?_
    refine st_op 2 9 (op_call (d := 23) H (by kernel_rfl) rfl (rpc_take_zero b2 0 0 X0 kx bs (by first | assumption | omega) (by first | assumption | omega) H.sat) fun a v w q F => ?_)
    obtain ⟨R1, hle, rfl, X⟩ := q
    have H := St.mk F X
    have hr := hr.grow hle
    have hT := hT.grow hle
    have hleR1 := hle
    refine st_run 3 4 5 [(26, .bool false), (25, .agg #[.int .u8 0, .int .u32 0, .int .u64 0, .int .u8 0, .int .u32 0, .int .u32 0, .bool false, .int .u32 0, .int .u64 0, .int .u64 0, .slice none 0 0, .slice none 0 0, .int .u32 0]), (24, .agg #[.int .u8 0, .int .u32 0, .int .u64 0, .int .u8 0, .int .u32 0, .int .u32 0, .string ByteArray.empty, .int .u32 0, .int .u32 0, .string ByteArray.empty, .int .u32 0, .int .u32 0, .slice none 0 0]), (20, .tuple #[.agg #[.int .u8 0, .int .u32 0, .int .u64 0, .int .u8 0, .int .u32 0, .int .u32 0, .string ByteArray.empty, .int .u32 0, .int .u32 0, .string ByteArray.empty, .int .u32 0, .int .u32 0, .slice none 0 0], .agg #[.int .u8 0, .int .u32 0, .int .u64 0, .int .u8 0, .int .u32 0, .int .u32 0, .bool false, .int .u32 0, .int .u64 0, .int .u64 0, .slice none 0 0, .slice none 0 0, .int .u32 0], .bool false])] H (by kernel_rfl) fun a H => ?_
    refine st_op 7 4 (op_new (d := 10) (vf := fun b => .pointer (some ⟨b, 0, none⟩)) (ob := .cells #[.int .u8 0, .int .u32 0, .int .u64 0, .int .u8 0, .int .u32 0, .int .u32 0, .string ByteArray.empty, .int .u32 0, .int .u32 0, .string ByteArray.empty, .int .u32 0, .int .u32 0, .slice none 0 0] 28) H (IsNew.of_run rfl fun w => (by kernel_rfl)) fun a w b3 H => ?_)
    refine st_op 8 3 (op_new (d := 11) (vf := fun b => .pointer (some ⟨b, 0, none⟩)) (ob := .cells #[.int .u8 0, .int .u32 0, .int .u64 0, .int .u8 0, .int .u32 0, .int .u32 0, .bool false, .int .u32 0, .int .u64 0, .int .u64 0, .slice none 0 0, .slice none 0 0, .int .u32 0] 61) H (IsNew.of_run rfl fun w => (by kernel_rfl)) fun a w b4 H => ?_)
    refine st_op 9 2 (op_store (k := 1) (t := 28) (off := 0) (v := .agg #[.int .u8 0, .int .u32 0, .int .u64 0, .int .u8 0, .int .u32 0, .int .u32 0, .string ByteArray.empty, .int .u32 0, .int .u32 0, .string ByteArray.empty, .int .u32 0, .int .u32 0, .slice none 0 0]) H rfl (by kernel_rfl) (by kernel_rfl) fun a w H => ?_)
    refine st_op 10 1 (op_store (k := 0) (t := 61) (off := 0) (v := .agg #[.int .u8 0, .int .u32 0, .int .u64 0, .int .u8 0, .int .u32 0, .int .u32 0, .bool false, .int .u32 0, .int .u64 0, .int .u64 0, .slice none 0 0, .slice none 0 0, .int .u32 0]) H rfl (by kernel_rfl) (by kernel_rfl) fun a w H => ?_)
    refine st_run 11 1 0 [(12, .bool false)] H (by kernel_rfl) fun a H => ?_
    refine ops_end _ ?_
    refine WK.seq ?_
    refine st_text 8 rfl ?_
    refine st_run 0 1 7 [(28, .pointer (some ⟨b2, 0, none⟩))] H (by kernel_rfl) fun a H => ?_
    refine st_op 1 6 (op_call (d := 29) H (by kernel_rfl) rfl (rpc_out_zero b2 0 0 none 0 0 (H.sat.front 2 rfl)) fun a v w q F => ?_)
    obtain ⟨rfl, X⟩ := q
    have H := St.mk F X
    refine st_run 2 3 3 [(31, .bool false), (30, .agg #[.int .u8 0, .int .u32 0, .int .u64 0, .int .u8 0, .int .u32 0, .int .u32 0, .string ByteArray.empty, .int .u32 0, .int .u32 0, .string ByteArray.empty, .int .u32 0, .int .u32 0, .slice none 0 0, .int .u64 0, .int .u64 0, .int .i64 0]), (27, .tuple #[.agg #[.int .u8 0, .int .u32 0, .int .u64 0, .int .u8 0, .int .u32 0, .int .u32 0, .string ByteArray.empty, .int .u32 0, .int .u32 0, .string ByteArray.empty, .int .u32 0, .int .u32 0, .slice none 0 0, .int .u64 0, .int .u64 0, .int .i64 0], .bool false])] H (by kernel_rfl) fun a H => ?_
    refine st_op 5 2 (op_new (d := 13) (vf := fun b => .pointer (some ⟨b, 0, none⟩)) (ob := .cells #[.int .u8 0, .int .u32 0, .int .u64 0, .int .u8 0, .int .u32 0, .int .u32 0, .string ByteArray.empty, .int .u32 0, .int .u32 0, .string ByteArray.empty, .int .u32 0, .int .u32 0, .slice none 0 0, .int .u64 0, .int .u64 0, .int .i64 0] 70) H (IsNew.of_run rfl fun w => (by kernel_rfl)) fun a w b5 H => ?_)
    refine st_op 6 1 (op_store (k := 0) (t := 70) (off := 0) (v := .agg #[.int .u8 0, .int .u32 0, .int .u64 0, .int .u8 0, .int .u32 0, .int .u32 0, .string ByteArray.empty, .int .u32 0, .int .u32 0, .string ByteArray.empty, .int .u32 0, .int .u32 0, .slice none 0 0, .int .u64 0, .int .u64 0, .int .i64 0]) H rfl (by kernel_rfl) (by kernel_rfl) fun a w H => ?_)
    refine st_run 7 1 0 [(14, .bool false)] H (by kernel_rfl) fun a H => ?_
    refine ops_end _ ?_
    refine WK.seq ?_
    refine st_text 7 rfl ?_
    refine st_run 0 1 6 [(33, .pointer (some ⟨b2, 0, none⟩))] H (by kernel_rfl) fun a H => ?_
    refine st_op 1 5 (op_call (d := 34) H (by kernel_rfl) rfl (rpc_due_zero b2 0 0 none 0 0 (H.sat.front 1 rfl)) fun a v w q F => ?_)
    obtain ⟨rfl, X⟩ := q
    have H := St.mk F X
    refine st_run 2 5 0 [(16, .bool false), (15, .int .u64 0), (36, .bool false), (35, .int .u64 0), (32, .tuple #[.int .u64 0, .bool false])] H (by kernel_rfl) fun a H => ?_
    refine ops_end _ ?_
    refine WK.seq ?_
    refine st_text 33 rfl ?_
    refine st_run 0 1 32 [(37, .pointer (some ⟨b2, 0, none⟩))] H (by kernel_rfl) fun a H => ?_
    refine st_op 1 31 (op_val (d := 38) (v := .agg #[.int .u8 c.client, .int .u32 c.inc, .int .u64 c.seq, .int .u8 c.kind, .int .u32 c.ino, .int .u32 c.gen, .string c.name, .int .u32 c.toIno, .int .u32 c.toGen, .string c.toName, .int .u32 c.off, .int .u32 c.size, .slice A c.data.length k]) H (val_ld (k := 4) (t := 28) (off := 0) rfl (by kernel_rfl) rfl (by kernel_rfl)) fun a H => ?_)
    refine st_run 2 1 30 [(39, .int .u64 at_)] H (by kernel_rfl) fun a H => ?_
    refine st_op 3 29 (op_call (d := 40) H (by kernel_rfl) rfl (rpc_call_zero c A k at_ b2 0 0 H.sat) fun a v w q F => ?_)
    obtain ⟨rfl, X⟩ := q
    have H := St.mk F X
    refine st_run 4 4 25 [(44, .int .u64 at_), (43, .pointer (some ⟨b2, 0, none⟩)), (42, .bool true), (41, .bool true)] H (by kernel_rfl) fun a H => ?_
    refine st_op 8 24 (op_call (d := 45) H (by kernel_rfl) rfl (rpc_tick_zero b2 0 0 at_ none 0 0 H.sat) fun a v w q F => ?_)
    obtain ⟨rfl, X⟩ := q
    have H := St.mk F X
    refine st_run 9 17 7 [(62, .pointer (some ⟨b2, 0, none⟩)), (61, .bool true), (60, .bool true), (59, .bool true), (58, .bool false), (57, .bool true), (56, .bool true), (55, .bool true), (54, .bool false), (53, .bool true), (52, .bool true), (51, .bool true), (50, .bool false), (49, .bool true), (48, .bool true), (47, .bool true), (46, .int .i64 0)] H (by kernel_rfl) fun a H => ?_
    refine st_op 26 6 (op_call (d := 63) H (by kernel_rfl) rfl (rpc_seq_zero b2 0 0 none 0 0 H.sat) fun a v w q F => ?_)
    obtain ⟨rfl, X⟩ := q
    have H := St.mk F X
    refine st_run 27 3 3 [(66, .bool true), (65, .bool true), (64, .bool true)] H (by kernel_rfl) fun a H => ?_
    refine st_op 30 2 (op_call (d := 67) H (by kernel_rfl) rfl (law20_lives (by first | assumption | omega) H.sat) fun a v w q F => ?_)
    obtain ⟨R2, hle, rfl, X⟩ := q
    have H := St.mk F X
    have hr := hr.grow hle
    have hT := hT.grow hle
    have hleR2 := hleR1.trans hle
    refine st_run 31 2 0 [(8, .bool true), (68, .bool true)] H (by kernel_rfl) fun a H => ?_
    refine ops_end _ ?_
    refine st_ret (vs := [.bool true]) H Tryd.func6 rfl (.tmp (by kernel_rfl) (.nil)) ?_
    have X := (H.sat.msk [false, false, false, false, false])
    exact ⟨R2, hleR2, rfl, X⟩
  · intro hc1
    refine WK.skip ?_
    refine WK.seq ?_
    refine st_text 12 rfl ?_
    refine st_run 0 2 10 [(22, .slice X0 bs.length kx), (21, .pointer none)] H (by kernel_rfl) fun a H => ?_
    refine st_op 2 9 (op_call (d := 23) H (by kernel_rfl) rfl (rpc_take_nil X0 kx bs (by first | assumption | omega) (by first | assumption | omega) H.sat) fun a v w q F => ?_)
    obtain ⟨R3, hle, rfl, X⟩ := q
    have H := St.mk F X
    have hr := hr.grow hle
    have hT := hT.grow hle
    have hleR3 := hle
    refine st_run 3 4 5 [(26, .bool false), (25, .agg #[.int .u8 0, .int .u32 0, .int .u64 0, .int .u8 0, .int .u32 0, .int .u32 0, .bool false, .int .u32 0, .int .u64 0, .int .u64 0, .slice none 0 0, .slice none 0 0, .int .u32 0]), (24, .agg #[.int .u8 0, .int .u32 0, .int .u64 0, .int .u8 0, .int .u32 0, .int .u32 0, .string ByteArray.empty, .int .u32 0, .int .u32 0, .string ByteArray.empty, .int .u32 0, .int .u32 0, .slice none 0 0]), (20, .tuple #[.agg #[.int .u8 0, .int .u32 0, .int .u64 0, .int .u8 0, .int .u32 0, .int .u32 0, .string ByteArray.empty, .int .u32 0, .int .u32 0, .string ByteArray.empty, .int .u32 0, .int .u32 0, .slice none 0 0], .agg #[.int .u8 0, .int .u32 0, .int .u64 0, .int .u8 0, .int .u32 0, .int .u32 0, .bool false, .int .u32 0, .int .u64 0, .int .u64 0, .slice none 0 0, .slice none 0 0, .int .u32 0], .bool false])] H (by kernel_rfl) fun a H => ?_
    refine st_op 7 4 (op_new (d := 10) (vf := fun b => .pointer (some ⟨b, 0, none⟩)) (ob := .cells #[.int .u8 0, .int .u32 0, .int .u64 0, .int .u8 0, .int .u32 0, .int .u32 0, .string ByteArray.empty, .int .u32 0, .int .u32 0, .string ByteArray.empty, .int .u32 0, .int .u32 0, .slice none 0 0] 28) H (IsNew.of_run rfl fun w => (by kernel_rfl)) fun a w b6 H => ?_)
    refine st_op 8 3 (op_new (d := 11) (vf := fun b => .pointer (some ⟨b, 0, none⟩)) (ob := .cells #[.int .u8 0, .int .u32 0, .int .u64 0, .int .u8 0, .int .u32 0, .int .u32 0, .bool false, .int .u32 0, .int .u64 0, .int .u64 0, .slice none 0 0, .slice none 0 0, .int .u32 0] 61) H (IsNew.of_run rfl fun w => (by kernel_rfl)) fun a w b7 H => ?_)
    refine st_op 9 2 (op_store (k := 1) (t := 28) (off := 0) (v := .agg #[.int .u8 0, .int .u32 0, .int .u64 0, .int .u8 0, .int .u32 0, .int .u32 0, .string ByteArray.empty, .int .u32 0, .int .u32 0, .string ByteArray.empty, .int .u32 0, .int .u32 0, .slice none 0 0]) H rfl (by kernel_rfl) (by kernel_rfl) fun a w H => ?_)
    refine st_op 10 1 (op_store (k := 0) (t := 61) (off := 0) (v := .agg #[.int .u8 0, .int .u32 0, .int .u64 0, .int .u8 0, .int .u32 0, .int .u32 0, .bool false, .int .u32 0, .int .u64 0, .int .u64 0, .slice none 0 0, .slice none 0 0, .int .u32 0]) H rfl (by kernel_rfl) (by kernel_rfl) fun a w H => ?_)
    refine st_run 11 1 0 [(12, .bool false)] H (by kernel_rfl) fun a H => ?_
    refine ops_end _ ?_
    refine WK.seq ?_
    refine st_text 8 rfl ?_
    refine st_run 0 1 7 [(28, .pointer none)] H (by kernel_rfl) fun a H => ?_
    refine st_op 1 6 (op_call (d := 29) H (by kernel_rfl) rfl (rpc_out_nil H.sat) fun a v w q F => ?_)
    obtain ⟨rfl, X⟩ := q
    have H := St.mk F X
    refine st_run 2 3 3 [(31, .bool false), (30, .agg #[.int .u8 0, .int .u32 0, .int .u64 0, .int .u8 0, .int .u32 0, .int .u32 0, .string ByteArray.empty, .int .u32 0, .int .u32 0, .string ByteArray.empty, .int .u32 0, .int .u32 0, .slice none 0 0, .int .u64 0, .int .u64 0, .int .i64 0]), (27, .tuple #[.agg #[.int .u8 0, .int .u32 0, .int .u64 0, .int .u8 0, .int .u32 0, .int .u32 0, .string ByteArray.empty, .int .u32 0, .int .u32 0, .string ByteArray.empty, .int .u32 0, .int .u32 0, .slice none 0 0, .int .u64 0, .int .u64 0, .int .i64 0], .bool false])] H (by kernel_rfl) fun a H => ?_
    refine st_op 5 2 (op_new (d := 13) (vf := fun b => .pointer (some ⟨b, 0, none⟩)) (ob := .cells #[.int .u8 0, .int .u32 0, .int .u64 0, .int .u8 0, .int .u32 0, .int .u32 0, .string ByteArray.empty, .int .u32 0, .int .u32 0, .string ByteArray.empty, .int .u32 0, .int .u32 0, .slice none 0 0, .int .u64 0, .int .u64 0, .int .i64 0] 70) H (IsNew.of_run rfl fun w => (by kernel_rfl)) fun a w b8 H => ?_)
    refine st_op 6 1 (op_store (k := 0) (t := 70) (off := 0) (v := .agg #[.int .u8 0, .int .u32 0, .int .u64 0, .int .u8 0, .int .u32 0, .int .u32 0, .string ByteArray.empty, .int .u32 0, .int .u32 0, .string ByteArray.empty, .int .u32 0, .int .u32 0, .slice none 0 0, .int .u64 0, .int .u64 0, .int .i64 0]) H rfl (by kernel_rfl) (by kernel_rfl) fun a w H => ?_)
    refine st_run 7 1 0 [(14, .bool false)] H (by kernel_rfl) fun a H => ?_
    refine ops_end _ ?_
    refine WK.seq ?_
    refine st_text 7 rfl ?_
    refine st_run 0 1 6 [(33, .pointer none)] H (by kernel_rfl) fun a H => ?_
    refine st_op 1 5 (op_call (d := 34) H (by kernel_rfl) rfl (rpc_due_nil H.sat) fun a v w q F => ?_)
    obtain ⟨rfl, X⟩ := q
    have H := St.mk F X
    refine st_run 2 5 0 [(16, .bool false), (15, .int .u64 0), (36, .bool false), (35, .int .u64 0), (32, .tuple #[.int .u64 0, .bool false])] H (by kernel_rfl) fun a H => ?_
    refine ops_end _ ?_
    refine WK.seq ?_
    refine st_text 33 rfl ?_
    refine st_run 0 1 32 [(37, .pointer none)] H (by kernel_rfl) fun a H => ?_
    refine st_op 1 31 (op_val (d := 38) (v := .agg #[.int .u8 c.client, .int .u32 c.inc, .int .u64 c.seq, .int .u8 c.kind, .int .u32 c.ino, .int .u32 c.gen, .string c.name, .int .u32 c.toIno, .int .u32 c.toGen, .string c.toName, .int .u32 c.off, .int .u32 c.size, .slice A c.data.length k]) H (val_ld (k := 3) (t := 28) (off := 0) rfl (by kernel_rfl) rfl (by kernel_rfl)) fun a H => ?_)
    refine st_run 2 1 30 [(39, .int .u64 at_)] H (by kernel_rfl) fun a H => ?_
    refine st_op 3 29 (op_call (d := 40) H (by kernel_rfl) rfl (rpc_call_nil c A k at_ H.sat) fun a v w q F => ?_)
    obtain ⟨rfl, X⟩ := q
    have H := St.mk F X
    refine st_run 4 4 25 [(44, .int .u64 at_), (43, .pointer none), (42, .bool true), (41, .bool true)] H (by kernel_rfl) fun a H => ?_
    refine st_op 8 24 (op_call (d := 45) H (by kernel_rfl) rfl (rpc_tick_nil at_ H.sat) fun a v w q F => ?_)
    obtain ⟨rfl, X⟩ := q
    have H := St.mk F X
    refine st_run 9 17 7 [(62, .pointer none), (61, .bool true), (60, .bool true), (59, .bool true), (58, .bool false), (57, .bool true), (56, .bool true), (55, .bool true), (54, .bool false), (53, .bool true), (52, .bool true), (51, .bool true), (50, .bool false), (49, .bool true), (48, .bool true), (47, .bool true), (46, .int .i64 0)] H (by kernel_rfl) fun a H => ?_
    refine st_op 26 6 (op_call (d := 63) H (by kernel_rfl) rfl (rpc_seq_nil H.sat) fun a v w q F => ?_)
    obtain ⟨rfl, X⟩ := q
    have H := St.mk F X
    refine st_run 27 3 3 [(66, .bool true), (65, .bool true), (64, .bool true)] H (by kernel_rfl) fun a H => ?_
    refine st_op 30 2 (op_call (d := 67) H (by kernel_rfl) rfl (law20_lives (by first | assumption | omega) H.sat) fun a v w q F => ?_)
    obtain ⟨R4, hle, rfl, X⟩ := q
    have H := St.mk F X
    have hr := hr.grow hle
    have hT := hT.grow hle
    have hleR4 := hleR3.trans hle
    refine st_run 31 2 0 [(8, .bool true), (68, .bool true)] H (by kernel_rfl) fun a H => ?_
    refine ops_end _ ?_
    refine st_ret (vs := [.bool true]) H Tryd.func6 rfl (.tmp (by kernel_rfl) (.nil)) ?_
    have X := (H.sat.msk [false, false, false, false])
    exact ⟨R4, hleR4, rfl, X⟩
end Go.Proofs.YtldnpolfcickaaaDoor
