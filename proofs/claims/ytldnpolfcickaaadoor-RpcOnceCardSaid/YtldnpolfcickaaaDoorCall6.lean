/- Numbers as bytes. -/
import Derived.Test.YtldnpolfcickaaaDoorCall5
import Derived.Test.YtldnpolfcickaaaDoorPCall
set_option linter.unusedVariables false
set_option linter.unusedSimpArgs false
set_option maxRecDepth 100000
set_option maxHeartbeats 1000000
namespace Go.Proofs.YtldnpolfcickaaaDoor
open Go Go.WH

/-- wharfage/call.May -/
theorem call_may {e w : World} {R : Hp} {L : List HP} (c : CallS) (A : Option Addr) (k : Nat) (wf : c.Wf) (hd : RdB R A k c.data) (hT : Tabs 0 1 R) (X : Sat e w R (L)) :
    Calls Tryd.prog 9 #[.agg #[.int .u8 c.client, .int .u32 c.inc, .int .u64 c.seq, .int .u8 c.kind, .int .u32 c.ino, .int .u32 c.gen, .string c.name, .int .u32 c.toIno, .int .u32 c.toGen, .string c.toName, .int .u32 c.off, .int .u32 c.size, .slice A c.data.length k]] w (Ret fun v w' => ∃ R', R.Le R' ∧ v = .bool (mayP c) ∧ Sat e w' R' (L)) := by
  have w1 := wf.client
  have w2 := wf.inc
  have w3 := wf.seq
  refine enter (n := 46) (args := [.agg #[.int .u8 c.client, .int .u32 c.inc, .int .u64 c.seq, .int .u8 c.kind, .int .u32 c.ino, .int .u32 c.gen, .string c.name, .int .u32 c.toIno, .int .u32 c.toGen, .string c.toName, .int .u32 c.off, .int .u32 c.size, .slice A c.data.length k]]) Tryd.func9 rfl rfl rfl X (fun a H => ?_)
  refine WK.seq ?_
  refine st_text 2 rfl ?_
  refine st_op 0 1 (op_new (d := 1) (vf := fun b => .pointer (some ⟨b, 0, none⟩)) (ob := .cells #[.int .u8 c.client, .int .u32 c.inc, .int .u64 c.seq, .int .u8 c.kind, .int .u32 c.ino, .int .u32 c.gen, .string c.name, .int .u32 c.toIno, .int .u32 c.toGen, .string c.toName, .int .u32 c.off, .int .u32 c.size, .slice A c.data.length k] 28) H (IsNew.of_run rfl fun w => (by kernel_rfl)) fun a w b1 H => ?_)
  refine st_run 1 1 0 [(2, .bool false)] H (by kernel_rfl) fun a H => ?_
  refine ops_end _ ?_
  refine WK.seq ?_
  refine WK.seq ?_
  refine st_text 18 rfl ?_
  refine st_run 0 1 17 [(8, .pointer (some ⟨b1, 0, none⟩))] H (by kernel_rfl) fun a H => ?_
  refine st_op 1 16 (op_val (d := 9) (v := .int .u8 c.client) H (val_ld (k := 0) (t := 5) (off := 0) rfl (by kernel_rfl) rfl (by kernel_rfl)) fun a H => ?_)
  refine st_run 2 2 14 [(11, .bool (decide ((c.client : Int) ≥ 4))), (10, .bool (decide ((c.client : Int) ≥ 4)))] H (by kernel_rfl) fun a H => ?_
  rcases Bool.eq_false_or_eq_true (decide ((c.client : Int) ≥ 4)) with hg1 | hg1
  · skip
    have H := H.also (d := 11) (u := .bool (decide ((c.client : Int) ≥ 4))) (v := .bool true) (by kernel_rfl) (congrArg Value.bool (hg1))
    have hg1' := of_decide_eq_true hg1
    refine st_run 4 14 0 [(25, .bool true), (24, undef), (23, undef), (22, undef), (21, .bool true), (20, .bool true), (19, undef), (18, undef), (17, undef), (16, .bool true), (15, .bool true), (14, undef), (13, undef), (12, undef)] H (by kernel_rfl) fun a H => ?_
    refine ops_end _ ?_
    refine st_true H (by kernel_rfl) ?_
    refine WK.seq ?_
    refine st_text 1 rfl ?_
    refine st_run 0 1 0 [(2, .bool false)] H (by kernel_rfl) fun a H => ?_
    refine ops_end _ ?_
    refine st_ret (vs := [.bool false]) H Tryd.func9 rfl (.tmp (by kernel_rfl) (.nil)) ?_
    have X := (H.sat.msk [false])
    have hX : Sat e w R (L) := by
      first | exact X | (skip; exact X) | (simp only [mayP, hg1, List.length_nil, cond_true, cond_false, Bool.not_true, Bool.not_false, Bool.and_true, Bool.and_false, Bool.true_and, Bool.false_and] at X ⊢; exact X)
    exact ⟨R, Hp.Le.refl _, by first | simp only [mayP, hg1, List.length_nil, cond_true, cond_false, Bool.not_true, Bool.not_false, Bool.and_true, Bool.and_false, Bool.true_and, Bool.false_and] | rfl, hX⟩
  · skip
    have H := H.also (d := 11) (u := .bool (decide ((c.client : Int) ≥ 4))) (v := .bool false) (by kernel_rfl) (congrArg Value.bool (hg1))
    have hg1' := of_decide_eq_false hg1
    refine st_run 4 1 13 [(12, .pointer (some ⟨b1, 1, none⟩))] H (by kernel_rfl) fun a H => ?_
    refine st_op 5 12 (op_val (d := 13) (v := .int .u32 c.inc) H (val_ld (k := 0) (t := 22) (off := 1) rfl (by kernel_rfl) rfl (by kernel_rfl)) fun a H => ?_)
    refine st_run 6 3 9 [(16, .bool ((c.inc : Int) == 0)), (15, .bool ((c.inc : Int) == 0)), (14, .bool ((c.inc : Int) == 0))] H (by kernel_rfl) fun a H => ?_
    rcases Bool.eq_false_or_eq_true ((c.inc : Int) == 0) with hg2 | hg2
    · skip
      have H := H.also (d := 16) (u := .bool ((c.inc : Int) == 0)) (v := .bool true) (by kernel_rfl) (congrArg Value.bool (hg2))
      have hg2' := eq_of_beq hg2
      refine st_run 9 9 0 [(25, .bool true), (24, undef), (23, undef), (22, undef), (21, .bool true), (20, .bool true), (19, undef), (18, undef), (17, undef)] H (by kernel_rfl) fun a H => ?_
      refine ops_end _ ?_
      refine st_true H (by kernel_rfl) ?_
      refine WK.seq ?_
      refine st_text 1 rfl ?_
      refine st_run 0 1 0 [(2, .bool false)] H (by kernel_rfl) fun a H => ?_
      refine ops_end _ ?_
      refine st_ret (vs := [.bool false]) H Tryd.func9 rfl (.tmp (by kernel_rfl) (.nil)) ?_
      have X := (H.sat.msk [false])
      have hX : Sat e w R (L) := by
        first | exact X | (skip; exact X) | (simp only [mayP, hg1, hg2, List.length_nil, cond_true, cond_false, Bool.not_true, Bool.not_false, Bool.and_true, Bool.and_false, Bool.true_and, Bool.false_and] at X ⊢; exact X)
      exact ⟨R, Hp.Le.refl _, by first | simp only [mayP, hg1, hg2, List.length_nil, cond_true, cond_false, Bool.not_true, Bool.not_false, Bool.and_true, Bool.and_false, Bool.true_and, Bool.false_and] | rfl, hX⟩
    · skip
      have H := H.also (d := 16) (u := .bool ((c.inc : Int) == 0)) (v := .bool false) (by kernel_rfl) (congrArg Value.bool (hg2))
      have hg2' := neB hg2
      refine st_run 9 1 8 [(17, .pointer (some ⟨b1, 2, none⟩))] H (by kernel_rfl) fun a H => ?_
      refine st_op 10 7 (op_val (d := 18) (v := .int .u64 c.seq) H (val_ld (k := 0) (t := 23) (off := 2) rfl (by kernel_rfl) rfl (by kernel_rfl)) fun a H => ?_)
      refine st_run 11 3 4 [(21, .bool ((c.seq : Int) == 0)), (20, .bool ((c.seq : Int) == 0)), (19, .bool ((c.seq : Int) == 0))] H (by kernel_rfl) fun a H => ?_
      rcases Bool.eq_false_or_eq_true ((c.seq : Int) == 0) with hg3 | hg3
      · skip
        have H := H.also (d := 21) (u := .bool ((c.seq : Int) == 0)) (v := .bool true) (by kernel_rfl) (congrArg Value.bool (hg3))
        have hg3' := eq_of_beq hg3
        refine st_run 14 4 0 [(25, .bool true), (24, undef), (23, undef), (22, undef)] H (by kernel_rfl) fun a H => ?_
        refine ops_end _ ?_
        refine st_true H (by kernel_rfl) ?_
        refine WK.seq ?_
        refine st_text 1 rfl ?_
        refine st_run 0 1 0 [(2, .bool false)] H (by kernel_rfl) fun a H => ?_
        refine ops_end _ ?_
        refine st_ret (vs := [.bool false]) H Tryd.func9 rfl (.tmp (by kernel_rfl) (.nil)) ?_
        have X := (H.sat.msk [false])
        have hX : Sat e w R (L) := by
          first | exact X | (skip; exact X) | (simp only [mayP, hg1, hg2, hg3, List.length_nil, cond_true, cond_false, Bool.not_true, Bool.not_false, Bool.and_true, Bool.and_false, Bool.true_and, Bool.false_and] at X ⊢; exact X)
        exact ⟨R, Hp.Le.refl _, by first | simp only [mayP, hg1, hg2, hg3, List.length_nil, cond_true, cond_false, Bool.not_true, Bool.not_false, Bool.and_true, Bool.and_false, Bool.true_and, Bool.false_and] | rfl, hX⟩
      · skip
        have H := H.also (d := 21) (u := .bool ((c.seq : Int) == 0)) (v := .bool false) (by kernel_rfl) (congrArg Value.bool (hg3))
        have hg3' := neB hg3
        refine st_op 14 3 (op_val (d := 22) (v := .agg #[.int .u8 c.client, .int .u32 c.inc, .int .u64 c.seq, .int .u8 c.kind, .int .u32 c.ino, .int .u32 c.gen, .string c.name, .int .u32 c.toIno, .int .u32 c.toGen, .string c.toName, .int .u32 c.off, .int .u32 c.size, .slice A c.data.length k]) H (val_ld (k := 0) (t := 28) (off := 0) rfl (by kernel_rfl) rfl (by kernel_rfl)) fun a H => ?_)
        refine st_op 15 2 (op_call (d := 23) H (by kernel_rfl) rfl (call_whole c A k (by first | assumption | omega) (by first | assumption | omega) (by first | assumption | omega) H.sat) fun a v w q F => ?_)
        obtain ⟨rfl, X⟩ := q
        have H := St.mk F X
        refine st_run 16 2 0 [(25, .bool (!(wholeP c))), (24, .bool (!(wholeP c)))] H (by kernel_rfl) fun a H => ?_
        refine ops_end _ ?_
        refine st_cond (!(wholeP c)) H (by kernel_rfl) ?_ ?_
        · intro hc1
          have hc1n := notT hc1
          refine WK.seq ?_
          refine st_text 1 rfl ?_
          refine st_run 0 1 0 [(2, .bool false)] H (by kernel_rfl) fun a H => ?_
          refine ops_end _ ?_
          refine st_ret (vs := [.bool false]) H Tryd.func9 rfl (.tmp (by kernel_rfl) (.nil)) ?_
          have X := (H.sat.msk [false])
          have hX : Sat e w R (L) := by
            first | exact X | (skip; exact X) | (simp only [mayP, hg1, hg2, hg3, hc1n, List.length_nil, cond_true, cond_false, Bool.not_true, Bool.not_false, Bool.and_true, Bool.and_false, Bool.true_and, Bool.false_and] at X ⊢; exact X)
          exact ⟨R, Hp.Le.refl _, by first | simp only [mayP, hg1, hg2, hg3, hc1n, List.length_nil, cond_true, cond_false, Bool.not_true, Bool.not_false, Bool.and_true, Bool.and_false, Bool.true_and, Bool.false_and] | rfl, hX⟩
        · intro hc1
          have hc1n := notF hc1
          refine WK.skip ?_
          refine WK.seq ?_
          refine st_text 7 rfl ?_
          refine st_op 0 6 (op_val (d := 27) (v := .agg #[.int .u8 c.client, .int .u32 c.inc, .int .u64 c.seq, .int .u8 c.kind, .int .u32 c.ino, .int .u32 c.gen, .string c.name, .int .u32 c.toIno, .int .u32 c.toGen, .string c.toName, .int .u32 c.off, .int .u32 c.size, .slice A c.data.length k]) H (val_ld (k := 0) (t := 28) (off := 0) rfl (by kernel_rfl) rfl (by kernel_rfl)) fun a H => ?_)
          refine st_op 1 5 (op_call (d := 28) H (by kernel_rfl) rfl (call_bare c A k (by first | assumption | omega) (by first | assumption | omega) (by exact (wholeP_names hc1n).1) (by exact (wholeP_names hc1n).2.1) (by exact (wholeP_names hc1n).2.2) H.sat) fun a v w q F => ?_)
          obtain ⟨X_1, x_1, rfl, X⟩ := q
          have H := St.mk F X
          refine st_run 2 5 0 [(4, .bool (hasKind c)), (3, .slice X_1 ((bareB c).length) x_1), (30, .bool (hasKind c)), (29, .slice X_1 ((bareB c).length) x_1), (26, .tuple #[.slice X_1 ((bareB c).length) x_1, .bool (hasKind c)])] H (by kernel_rfl) fun a H => ?_
          refine ops_end _ ?_
          refine WK.seq ?_
          refine WK.seq ?_
          refine st_text 2 rfl ?_
          refine st_run 0 2 0 [(32, .bool (!(hasKind c))), (31, .bool (hasKind c))] H (by kernel_rfl) fun a H => ?_
          refine ops_end _ ?_
          refine st_cond (!(hasKind c)) H (by kernel_rfl) ?_ ?_
          · intro hc2
            have hc2n := notT hc2
            refine WK.seq ?_
            refine st_text 1 rfl ?_
            refine st_run 0 1 0 [(2, .bool false)] H (by kernel_rfl) fun a H => ?_
            refine ops_end _ ?_
            refine st_ret (vs := [.bool false]) H Tryd.func9 rfl (.tmp (by kernel_rfl) (.nil)) ?_
            have X := (H.sat.msk [false, false])
            have hX : Sat e w R (L) := by
              first | exact X | (skip; exact X) | (simp only [mayP, hg1, hg2, hg3, hc1n, hc2n, List.length_nil, cond_true, cond_false, Bool.not_true, Bool.not_false, Bool.and_true, Bool.and_false, Bool.true_and, Bool.false_and] at X ⊢; exact X)
            exact ⟨R, Hp.Le.refl _, by first | simp only [mayP, hg1, hg2, hg3, hc1n, hc2n, List.length_nil, cond_true, cond_false, Bool.not_true, Bool.not_false, Bool.and_true, Bool.and_false, Bool.true_and, Bool.false_and] | rfl, hX⟩
          · intro hc2
            have hc2n := notF hc2
            refine WK.skip ?_
            refine WK.seq ?_
            refine st_text 10 rfl ?_
            refine st_run 0 1 9 [(34, .slice X_1 ((bareB c).length) x_1)] H (by kernel_rfl) fun a H => ?_
            obtain ⟨R1, hle, hr_1, X⟩ := (H.sat.front 0 rfl).bytesO_fix
            have H := St.mk H.sl X
            have hd := hd.grow hle
            have hT := hT.grow hle
            have hleR1 := hle
            refine st_op 1 8 (op_call (d := 35) H (by kernel_rfl) rfl (call_read X_1 x_1 (bareB c) (by first | assumption | omega) (by exact Nat.le_trans (bareB_le hc1n) (by decide)) H.sat) fun a v w q F => ?_)
            obtain ⟨R2, hle, X_2, x_2, hf1, rfl, X⟩ := q
            have H := St.mk F X
            have hd := hd.grow hle
            have hr_1 := hr_1.grow hle
            have hT := hT.grow hle
            have hleR2 := hleR1.trans hle
            refine st_run 2 4 4 [(38, .int .i64 ((readP (bareB c)).2.2)), (37, .int .u32 ((readP (bareB c)).2.1)), (36, .agg #[.int .u8 ((readP (bareB c)).1.client), .int .u32 ((readP (bareB c)).1.inc), .int .u64 ((readP (bareB c)).1.seq), .int .u8 ((readP (bareB c)).1.kind), .int .u32 ((readP (bareB c)).1.ino), .int .u32 ((readP (bareB c)).1.gen), .string ((readP (bareB c)).1.name), .int .u32 ((readP (bareB c)).1.toIno), .int .u32 ((readP (bareB c)).1.toGen), .string ((readP (bareB c)).1.toName), .int .u32 ((readP (bareB c)).1.off), .int .u32 ((readP (bareB c)).1.size), .slice X_2 ((readP (bareB c)).1.data.length) x_2]), (33, .tuple #[.agg #[.int .u8 ((readP (bareB c)).1.client), .int .u32 ((readP (bareB c)).1.inc), .int .u64 ((readP (bareB c)).1.seq), .int .u8 ((readP (bareB c)).1.kind), .int .u32 ((readP (bareB c)).1.ino), .int .u32 ((readP (bareB c)).1.gen), .string ((readP (bareB c)).1.name), .int .u32 ((readP (bareB c)).1.toIno), .int .u32 ((readP (bareB c)).1.toGen), .string ((readP (bareB c)).1.toName), .int .u32 ((readP (bareB c)).1.off), .int .u32 ((readP (bareB c)).1.size), .slice X_2 ((readP (bareB c)).1.data.length) x_2], .int .u32 ((readP (bareB c)).2.1), .int .i64 ((readP (bareB c)).2.2)])] H (by kernel_rfl) fun a H => ?_
            refine st_op 6 3 (op_new (d := 5) (vf := fun b => .pointer (some ⟨b, 0, none⟩)) (ob := .cells #[.int .u8 0, .int .u32 0, .int .u64 0, .int .u8 0, .int .u32 0, .int .u32 0, .string ByteArray.empty, .int .u32 0, .int .u32 0, .string ByteArray.empty, .int .u32 0, .int .u32 0, .slice none 0 0] 28) H (IsNew.of_run rfl fun w => (by kernel_rfl)) fun a w b2 H => ?_)
            refine st_op 7 2 (op_store (k := 0) (t := 28) (off := 0) (v := .agg #[.int .u8 ((readP (bareB c)).1.client), .int .u32 ((readP (bareB c)).1.inc), .int .u64 ((readP (bareB c)).1.seq), .int .u8 ((readP (bareB c)).1.kind), .int .u32 ((readP (bareB c)).1.ino), .int .u32 ((readP (bareB c)).1.gen), .string ((readP (bareB c)).1.name), .int .u32 ((readP (bareB c)).1.toIno), .int .u32 ((readP (bareB c)).1.toGen), .string ((readP (bareB c)).1.toName), .int .u32 ((readP (bareB c)).1.off), .int .u32 ((readP (bareB c)).1.size), .slice X_2 ((readP (bareB c)).1.data.length) x_2]) H rfl (by kernel_rfl) (by kernel_rfl) fun a w H => ?_)
            refine st_run 8 2 0 [(7, .int .i64 ((readP (bareB c)).2.2)), (6, .int .u32 ((readP (bareB c)).2.1))] H (by kernel_rfl) fun a H => ?_
            refine ops_end _ ?_
            refine WK.seq ?_
            refine st_text 8 rfl ?_
            refine st_run 0 3 5 [(41, .bool ((((readP (bareB c)).2.2) : Int) == 0)), (40, .bool ((((readP (bareB c)).2.2) : Int) == 0)), (39, .int .i64 ((readP (bareB c)).2.2))] H (by kernel_rfl) fun a H => ?_
            rcases Bool.eq_false_or_eq_true ((((readP (bareB c)).2.2) : Int) == 0) with hg4 | hg4
            · skip
              have H := H.also (d := 41) (u := .bool ((((readP (bareB c)).2.2) : Int) == 0)) (v := .bool true) (by kernel_rfl) (congrArg Value.bool (hg4))
              have hg4' := eq_of_beq hg4
              refine st_op 3 4 (op_val (d := 42) (v := .agg #[.int .u8 ((readP (bareB c)).1.client), .int .u32 ((readP (bareB c)).1.inc), .int .u64 ((readP (bareB c)).1.seq), .int .u8 ((readP (bareB c)).1.kind), .int .u32 ((readP (bareB c)).1.ino), .int .u32 ((readP (bareB c)).1.gen), .string ((readP (bareB c)).1.name), .int .u32 ((readP (bareB c)).1.toIno), .int .u32 ((readP (bareB c)).1.toGen), .string ((readP (bareB c)).1.toName), .int .u32 ((readP (bareB c)).1.off), .int .u32 ((readP (bareB c)).1.size), .slice X_2 ((readP (bareB c)).1.data.length) x_2]) H (val_ld (k := 0) (t := 28) (off := 0) rfl (by kernel_rfl) rfl (by kernel_rfl)) fun a H => ?_)
              refine st_op 4 3 (op_val (d := 43) (v := .agg #[.int .u8 c.client, .int .u32 c.inc, .int .u64 c.seq, .int .u8 c.kind, .int .u32 c.ino, .int .u32 c.gen, .string c.name, .int .u32 c.toIno, .int .u32 c.toGen, .string c.toName, .int .u32 c.off, .int .u32 c.size, .slice A c.data.length k]) H (val_ld (k := 1) (t := 28) (off := 0) rfl (by kernel_rfl) rfl (by kernel_rfl)) fun a H => ?_)
              refine st_op 5 2 (op_call (d := 44) H (by kernel_rfl) rfl (call_same ((readP (bareB c)).1) c X_2 A x_2 k (by assumption) (by assumption) H.sat) fun a v w q F => ?_)
              obtain ⟨rfl, X⟩ := q
              have H := St.mk F X
              refine st_run 6 2 0 [(2, .bool (sameP ((readP (bareB c)).1) c)), (45, .bool (sameP ((readP (bareB c)).1) c))] H (by kernel_rfl) fun a H => ?_
              refine ops_end _ ?_
              refine st_ret (vs := [.bool (sameP ((readP (bareB c)).1) c)]) H Tryd.func9 rfl (.tmp (by kernel_rfl) (.nil)) ?_
              have X := (H.sat.msk [false, false])
              have hX : Sat e w R2 (L) := by
                first | exact X | (skip; exact X) | (simp only [mayP, hg1, hg2, hg3, hc1n, hc2n, hg4, List.length_nil, cond_true, cond_false, Bool.not_true, Bool.not_false, Bool.and_true, Bool.and_false, Bool.true_and, Bool.false_and] at X ⊢; exact X)
              exact ⟨R2, hleR2, by first | simp only [mayP, hg1, hg2, hg3, hc1n, hc2n, hg4, List.length_nil, cond_true, cond_false, Bool.not_true, Bool.not_false, Bool.and_true, Bool.and_false, Bool.true_and, Bool.false_and] | rfl, hX⟩
            · skip
              have H := H.also (d := 41) (u := .bool ((((readP (bareB c)).2.2) : Int) == 0)) (v := .bool false) (by kernel_rfl) (congrArg Value.bool (hg4))
              have hg4' := neB hg4
              refine st_run 3 5 0 [(2, .bool false), (45, .bool false), (44, undef), (43, undef), (42, undef)] H (by kernel_rfl) fun a H => ?_
              refine ops_end _ ?_
              refine st_ret (vs := [.bool false]) H Tryd.func9 rfl (.tmp (by kernel_rfl) (.nil)) ?_
              have X := (H.sat.msk [false, false])
              have hX : Sat e w R2 (L) := by
                first | exact X | (skip; exact X) | (simp only [mayP, hg1, hg2, hg3, hc1n, hc2n, hg4, List.length_nil, cond_true, cond_false, Bool.not_true, Bool.not_false, Bool.and_true, Bool.and_false, Bool.true_and, Bool.false_and] at X ⊢; exact X)
              exact ⟨R2, hleR2, by first | simp only [mayP, hg1, hg2, hg3, hc1n, hc2n, hg4, List.length_nil, cond_true, cond_false, Bool.not_true, Bool.not_false, Bool.and_true, Bool.and_false, Bool.true_and, Bool.false_and] | rfl, hX⟩

/-- wharfage/call.Put -/
theorem call_put {e w : World} {R : Hp} {L : List HP} (c : CallS) (A : Option Addr) (k : Nat) (wf : c.Wf) (hd : RdB R A k c.data) (hT : Tabs 0 1 R) (X : Sat e w R (L)) :
    Calls Tryd.prog 43 #[.agg #[.int .u8 c.client, .int .u32 c.inc, .int .u64 c.seq, .int .u8 c.kind, .int .u32 c.ino, .int .u32 c.gen, .string c.name, .int .u32 c.toIno, .int .u32 c.toGen, .string c.toName, .int .u32 c.off, .int .u32 c.size, .slice A c.data.length k]] w (Ret fun v w' => ∃ R', R.Le R' ∧ ∃ A1 : Option Addr, ∃ c1 : Nat, v = .tuple #[.slice A1 ((putP c).1.length) c1, .int .i64 ((putP c).2)] ∧ Sat e w' R' (bytesO 5 A1 c1 ((putP c).1) :: L)) := by
  generalize hP : putP c = P
  refine enter (n := 15) (args := [.agg #[.int .u8 c.client, .int .u32 c.inc, .int .u64 c.seq, .int .u8 c.kind, .int .u32 c.ino, .int .u32 c.gen, .string c.name, .int .u32 c.toIno, .int .u32 c.toGen, .string c.toName, .int .u32 c.off, .int .u32 c.size, .slice A c.data.length k]]) Tryd.func43 rfl rfl rfl X (fun a H => ?_)
  refine WK.seq ?_
  refine st_text 3 rfl ?_
  refine st_op 0 2 (op_new (d := 1) (vf := fun b => .pointer (some ⟨b, 0, none⟩)) (ob := .cells #[.int .u8 c.client, .int .u32 c.inc, .int .u64 c.seq, .int .u8 c.kind, .int .u32 c.ino, .int .u32 c.gen, .string c.name, .int .u32 c.toIno, .int .u32 c.toGen, .string c.toName, .int .u32 c.off, .int .u32 c.size, .slice A c.data.length k] 28) H (IsNew.of_run rfl fun w => (by kernel_rfl)) fun a w b1 H => ?_)
  refine st_run 1 2 0 [(3, .int .i64 0), (2, .slice none 0 0)] H (by kernel_rfl) fun a H => ?_
  refine ops_end _ ?_
  refine WK.seq ?_
  refine WK.seq ?_
  refine st_text 3 rfl ?_
  refine st_op 0 2 (op_val (d := 6) (v := .agg #[.int .u8 c.client, .int .u32 c.inc, .int .u64 c.seq, .int .u8 c.kind, .int .u32 c.ino, .int .u32 c.gen, .string c.name, .int .u32 c.toIno, .int .u32 c.toGen, .string c.toName, .int .u32 c.off, .int .u32 c.size, .slice A c.data.length k]) H (val_ld (k := 0) (t := 28) (off := 0) rfl (by kernel_rfl) rfl (by kernel_rfl)) fun a H => ?_)
  refine st_op 1 1 (op_call (d := 7) H (by kernel_rfl) rfl (call_may c A k (by first | assumption | exact readP_wf _) (by first | assumption | omega) (by first | assumption | omega) H.sat) fun a v w q F => ?_)
  obtain ⟨R1, hle, rfl, X⟩ := q
  have H := St.mk F X
  have hd := hd.grow hle
  have hT := hT.grow hle
  have hleR1 := hle
  refine st_run 2 1 0 [(8, .bool (!(mayP c)))] H (by kernel_rfl) fun a H => ?_
  refine ops_end _ ?_
  refine st_cond (!(mayP c)) H (by kernel_rfl) ?_ ?_
  · intro hc1
    have hc1n := notT hc1
    refine WK.seq ?_
    refine st_text 2 rfl ?_
    refine st_run 0 2 0 [(3, .int .i64 2), (2, .slice none 0 0)] H (by kernel_rfl) fun a H => ?_
    refine ops_end _ ?_
    refine st_ret (vs := [.slice none 0 0, .int .i64 2]) H Tryd.func43 rfl (.tmp (by kernel_rfl) (.tmp (by kernel_rfl) (.nil))) ?_
    have H := H.with (H.sat.nil_bytes 5)
    have hz0 : putP c = ([], 2) := by first | simp only [putP, hc1n, List.length_nil, cond_true, cond_false, Bool.not_true, Bool.not_false, Bool.and_true, Bool.and_false, Bool.true_and, Bool.false_and] | rfl
    have X := (H.sat.msk [true, false])
    have hP := hP.symm.trans hz0
    clear hz0
    subst hP
    exact ⟨R1, hleR1, none, 0, rfl, X⟩
  · intro hc1
    have hc1n := notF hc1
    refine WK.skip ?_
    refine WK.seq ?_
    refine st_text 7 rfl ?_
    refine st_op 0 6 (op_val (d := 10) (v := .agg #[.int .u8 c.client, .int .u32 c.inc, .int .u64 c.seq, .int .u8 c.kind, .int .u32 c.ino, .int .u32 c.gen, .string c.name, .int .u32 c.toIno, .int .u32 c.toGen, .string c.toName, .int .u32 c.off, .int .u32 c.size, .slice A c.data.length k]) H (val_ld (k := 0) (t := 28) (off := 0) rfl (by kernel_rfl) rfl (by kernel_rfl)) fun a H => ?_)
    refine st_op 1 5 (op_call (d := 11) H (by kernel_rfl) rfl (call_bare c A k (by first | assumption | omega) (by first | assumption | omega) (by exact (wholeP_names (mayP_whole hc1n)).1) (by exact (wholeP_names (mayP_whole hc1n)).2.1) (by exact (wholeP_names (mayP_whole hc1n)).2.2) H.sat) fun a v w q F => ?_)
    obtain ⟨X_1, x_1, rfl, X⟩ := q
    have H := St.mk F X
    refine st_run 2 5 0 [(5, .bool (hasKind c)), (4, .slice X_1 ((bareB c).length) x_1), (13, .bool (hasKind c)), (12, .slice X_1 ((bareB c).length) x_1), (9, .tuple #[.slice X_1 ((bareB c).length) x_1, .bool (hasKind c)])] H (by kernel_rfl) fun a H => ?_
    refine ops_end _ ?_
    refine WK.seq ?_
    refine st_text 3 rfl ?_
    refine st_run 0 3 0 [(3, .int .i64 0), (2, .slice X_1 ((bareB c).length) x_1), (14, .slice X_1 ((bareB c).length) x_1)] H (by kernel_rfl) fun a H => ?_
    refine ops_end _ ?_
    refine st_ret (vs := [.slice X_1 ((bareB c).length) x_1, .int .i64 0]) H Tryd.func43 rfl (.tmp (by kernel_rfl) (.tmp (by kernel_rfl) (.nil))) ?_
    have hz0 : putP c = ((bareB c), 0) := by first | simp only [putP, hc1n, List.length_nil, cond_true, cond_false, Bool.not_true, Bool.not_false, Bool.and_true, Bool.and_false, Bool.true_and, Bool.false_and] | rfl
    have X := (H.sat.msk [true, false])
    have hP := hP.symm.trans hz0
    clear hz0
    subst hP
    exact ⟨R1, hleR1, X_1, x_1, rfl, X⟩

/-- wharfage/call.Get -/
theorem call_get {e w : World} {R : Hp} {L : List HP} (A : Option Addr) (cap : Nat) (bs : List UInt8) (hr : RdB R A cap bs) (hT : Tabs 0 1 R) (hb : bs.length ≤ 140737488355328) (X : Sat e w R (L)) :
    Calls Tryd.prog 44 #[.slice A bs.length cap] w (Ret fun v w' => ∃ R', R.Le R' ∧ ∃ A1 : Option Addr, ∃ c1 : Nat, (RdB R' A1 c1 (getP bs).1.data) ∧ v = .tuple #[.agg #[.int .u8 ((getP bs).1.client), .int .u32 ((getP bs).1.inc), .int .u64 ((getP bs).1.seq), .int .u8 ((getP bs).1.kind), .int .u32 ((getP bs).1.ino), .int .u32 ((getP bs).1.gen), .string ((getP bs).1.name), .int .u32 ((getP bs).1.toIno), .int .u32 ((getP bs).1.toGen), .string ((getP bs).1.toName), .int .u32 ((getP bs).1.off), .int .u32 ((getP bs).1.size), .slice A1 ((getP bs).1.data.length) c1], .int .i64 ((getP bs).2)] ∧ Sat e w' R' (L)) := by
  have hnil := RdB.nil R
  generalize hP : getP bs = P
  refine enter (n := 30) (args := [.slice A bs.length cap]) Tryd.func44 rfl rfl rfl X (fun a H => ?_)
  refine WK.seq ?_
  refine st_text 2 rfl ?_
  refine st_op 0 1 (op_new (d := 2) (vf := fun b => .pointer (some ⟨b, 0, none⟩)) (ob := .cells #[.int .u8 0, .int .u32 0, .int .u64 0, .int .u8 0, .int .u32 0, .int .u32 0, .string ByteArray.empty, .int .u32 0, .int .u32 0, .string ByteArray.empty, .int .u32 0, .int .u32 0, .slice none 0 0] 28) H (IsNew.of_run rfl fun w => (by kernel_rfl)) fun a w b1 H => ?_)
  refine st_run 1 1 0 [(3, .int .i64 0)] H (by kernel_rfl) fun a H => ?_
  refine ops_end _ ?_
  refine WK.seq ?_
  refine WK.seq ?_
  refine st_text 3 rfl ?_
  refine st_run 0 3 0 [(9, .bool (decide ((((bs.length : Nat) : Int) : Int) > 4096))), (8, .int .i64 ((bs.length : Nat) : Int)), (7, .slice A bs.length cap)] H (by kernel_rfl) fun a H => ?_
  refine ops_end _ ?_
  refine st_cond (decide ((((bs.length : Nat) : Int) : Int) > 4096)) H (by kernel_rfl) ?_ ?_
  · intro hc1
    have hc1' := of_decide_eq_true hc1
    refine WK.seq ?_
    refine st_text 3 rfl ?_
    refine st_run 0 1 2 [(10, .agg #[.int .u8 0, .int .u32 0, .int .u64 0, .int .u8 0, .int .u32 0, .int .u32 0, .string ByteArray.empty, .int .u32 0, .int .u32 0, .string ByteArray.empty, .int .u32 0, .int .u32 0, .slice none 0 0])] H (by kernel_rfl) fun a H => ?_
    refine st_op 1 1 (op_store (k := 0) (t := 28) (off := 0) (v := .agg #[.int .u8 0, .int .u32 0, .int .u64 0, .int .u8 0, .int .u32 0, .int .u32 0, .string ByteArray.empty, .int .u32 0, .int .u32 0, .string ByteArray.empty, .int .u32 0, .int .u32 0, .slice none 0 0]) H rfl (by kernel_rfl) (by kernel_rfl) fun a w H => ?_)
    refine st_run 2 1 0 [(3, .int .i64 3)] H (by kernel_rfl) fun a H => ?_
    refine ops_end _ ?_
    refine st_ret (vs := [.agg #[.int .u8 0, .int .u32 0, .int .u64 0, .int .u8 0, .int .u32 0, .int .u32 0, .string ByteArray.empty, .int .u32 0, .int .u32 0, .string ByteArray.empty, .int .u32 0, .int .u32 0, .slice none 0 0], .int .i64 3]) H Tryd.func44 rfl (.cell (by kernel_rfl) (H.sat.blk (k := 0) rfl) (by kernel_rfl) (.tmp (by kernel_rfl) (.nil))) ?_
    have hz0 : getP bs = ((⟨0, 0, 0, 0, 0, 0, ByteArray.empty, 0, 0, ByteArray.empty, 0, 0, []⟩ : CallS), 3) := by first | simp only [getP, hc1, List.length_nil, cond_true, cond_false, Bool.not_true, Bool.not_false, Bool.and_true, Bool.and_false, Bool.true_and, Bool.false_and] | rfl
    have X := (H.sat.msk [false])
    have hP := hP.symm.trans hz0
    clear hz0
    subst hP
    exact ⟨R, Hp.Le.refl _, none, 0, RdB.nil _, rfl, X⟩
  · intro hc1
    have hc1' := of_decide_eq_false hc1
    refine WK.skip ?_
    refine WK.seq ?_
    refine st_text 10 rfl ?_
    refine st_run 0 1 9 [(12, .slice A bs.length cap)] H (by kernel_rfl) fun a H => ?_
    refine st_op 1 8 (op_call (d := 13) H (by kernel_rfl) rfl (call_read A cap bs (by first | assumption | omega) (by omega) H.sat) fun a v w q F => ?_)
    obtain ⟨R1, hle, X_1, x_1, hf1, rfl, X⟩ := q
    have H := St.mk F X
    have hr := hr.grow hle
    have hT := hT.grow hle
    have hleR1 := hle
    refine st_run 2 4 4 [(16, .int .i64 ((readP bs).2.2)), (15, .int .u32 ((readP bs).2.1)), (14, .agg #[.int .u8 ((readP bs).1.client), .int .u32 ((readP bs).1.inc), .int .u64 ((readP bs).1.seq), .int .u8 ((readP bs).1.kind), .int .u32 ((readP bs).1.ino), .int .u32 ((readP bs).1.gen), .string ((readP bs).1.name), .int .u32 ((readP bs).1.toIno), .int .u32 ((readP bs).1.toGen), .string ((readP bs).1.toName), .int .u32 ((readP bs).1.off), .int .u32 ((readP bs).1.size), .slice X_1 ((readP bs).1.data.length) x_1]), (11, .tuple #[.agg #[.int .u8 ((readP bs).1.client), .int .u32 ((readP bs).1.inc), .int .u64 ((readP bs).1.seq), .int .u8 ((readP bs).1.kind), .int .u32 ((readP bs).1.ino), .int .u32 ((readP bs).1.gen), .string ((readP bs).1.name), .int .u32 ((readP bs).1.toIno), .int .u32 ((readP bs).1.toGen), .string ((readP bs).1.toName), .int .u32 ((readP bs).1.off), .int .u32 ((readP bs).1.size), .slice X_1 ((readP bs).1.data.length) x_1], .int .u32 ((readP bs).2.1), .int .i64 ((readP bs).2.2)])] H (by kernel_rfl) fun a H => ?_
    refine st_op 6 3 (op_new (d := 4) (vf := fun b => .pointer (some ⟨b, 0, none⟩)) (ob := .cells #[.int .u8 0, .int .u32 0, .int .u64 0, .int .u8 0, .int .u32 0, .int .u32 0, .string ByteArray.empty, .int .u32 0, .int .u32 0, .string ByteArray.empty, .int .u32 0, .int .u32 0, .slice none 0 0] 28) H (IsNew.of_run rfl fun w => (by kernel_rfl)) fun a w b2 H => ?_)
    refine st_op 7 2 (op_store (k := 0) (t := 28) (off := 0) (v := .agg #[.int .u8 ((readP bs).1.client), .int .u32 ((readP bs).1.inc), .int .u64 ((readP bs).1.seq), .int .u8 ((readP bs).1.kind), .int .u32 ((readP bs).1.ino), .int .u32 ((readP bs).1.gen), .string ((readP bs).1.name), .int .u32 ((readP bs).1.toIno), .int .u32 ((readP bs).1.toGen), .string ((readP bs).1.toName), .int .u32 ((readP bs).1.off), .int .u32 ((readP bs).1.size), .slice X_1 ((readP bs).1.data.length) x_1]) H rfl (by kernel_rfl) (by kernel_rfl) fun a w H => ?_)
    refine st_run 8 2 0 [(6, .int .i64 ((readP bs).2.2)), (5, .int .u32 ((readP bs).2.1))] H (by kernel_rfl) fun a H => ?_
    refine ops_end _ ?_
    refine WK.seq ?_
    refine WK.seq ?_
    refine st_text 2 rfl ?_
    refine st_run 0 2 0 [(18, .bool (!((((readP bs).2.2) : Int) == 0))), (17, .int .i64 ((readP bs).2.2))] H (by kernel_rfl) fun a H => ?_
    refine ops_end _ ?_
    refine st_cond (!((((readP bs).2.2) : Int) == 0)) H (by kernel_rfl) ?_ ?_
    · intro hc2
      have hc2n := notT hc2
      have hc2' := neB (notT hc2)
      refine WK.seq ?_
      refine st_text 4 rfl ?_
      refine st_run 0 2 2 [(20, .int .i64 ((readP bs).2.2)), (19, .agg #[.int .u8 0, .int .u32 0, .int .u64 0, .int .u8 0, .int .u32 0, .int .u32 0, .string ByteArray.empty, .int .u32 0, .int .u32 0, .string ByteArray.empty, .int .u32 0, .int .u32 0, .slice none 0 0])] H (by kernel_rfl) fun a H => ?_
      refine st_op 2 1 (op_store (k := 1) (t := 28) (off := 0) (v := .agg #[.int .u8 0, .int .u32 0, .int .u64 0, .int .u8 0, .int .u32 0, .int .u32 0, .string ByteArray.empty, .int .u32 0, .int .u32 0, .string ByteArray.empty, .int .u32 0, .int .u32 0, .slice none 0 0]) H rfl (by kernel_rfl) (by kernel_rfl) fun a w H => ?_)
      refine st_run 3 1 0 [(3, .int .i64 ((readP bs).2.2))] H (by kernel_rfl) fun a H => ?_
      refine ops_end _ ?_
      refine st_ret (vs := [.agg #[.int .u8 0, .int .u32 0, .int .u64 0, .int .u8 0, .int .u32 0, .int .u32 0, .string ByteArray.empty, .int .u32 0, .int .u32 0, .string ByteArray.empty, .int .u32 0, .int .u32 0, .slice none 0 0], .int .i64 ((readP bs).2.2)]) H Tryd.func44 rfl (.cell (by kernel_rfl) (H.sat.blk (k := 1) rfl) (by kernel_rfl) (.tmp (by kernel_rfl) (.nil))) ?_
      have hz0 : getP bs = ((⟨0, 0, 0, 0, 0, 0, ByteArray.empty, 0, 0, ByteArray.empty, 0, 0, []⟩ : CallS), (readP bs).2.2) := by first | simp only [getP, hc1, hc2n, List.length_nil, cond_true, cond_false, Bool.not_true, Bool.not_false, Bool.and_true, Bool.and_false, Bool.true_and, Bool.false_and] | rfl
      have X := (H.sat.msk [false, false])
      have hP := hP.symm.trans hz0
      clear hz0
      subst hP
      exact ⟨R1, hleR1, none, 0, RdB.nil _, rfl, X⟩
    · intro hc2
      have hc2n := notF hc2
      have hc2' := eq_of_beq (notF hc2)
      refine WK.skip ?_
      refine WK.seq ?_
      refine WK.seq ?_
      refine st_text 7 rfl ?_
      refine st_run 0 3 4 [(23, .bool (decide ((((readP bs).2.1) : Int) ≥ 4))), (22, .bool (decide ((((readP bs).2.1) : Int) ≥ 4))), (21, .int .u32 ((readP bs).2.1))] H (by kernel_rfl) fun a H => ?_
      rcases Bool.eq_false_or_eq_true (decide ((((readP bs).2.1) : Int) ≥ 4)) with hg1 | hg1
      · skip
        have H := H.also (d := 23) (u := .bool (decide ((((readP bs).2.1) : Int) ≥ 4))) (v := .bool true) (by kernel_rfl) (congrArg Value.bool (hg1))
        have hg1' := of_decide_eq_true hg1
        refine st_run 3 4 0 [(27, .bool true), (26, undef), (25, undef), (24, undef)] H (by kernel_rfl) fun a H => ?_
        refine ops_end _ ?_
        refine st_true H (by kernel_rfl) ?_
        refine WK.seq ?_
        refine st_text 3 rfl ?_
        refine st_run 0 1 2 [(28, .agg #[.int .u8 0, .int .u32 0, .int .u64 0, .int .u8 0, .int .u32 0, .int .u32 0, .string ByteArray.empty, .int .u32 0, .int .u32 0, .string ByteArray.empty, .int .u32 0, .int .u32 0, .slice none 0 0])] H (by kernel_rfl) fun a H => ?_
        refine st_op 1 1 (op_store (k := 1) (t := 28) (off := 0) (v := .agg #[.int .u8 0, .int .u32 0, .int .u64 0, .int .u8 0, .int .u32 0, .int .u32 0, .string ByteArray.empty, .int .u32 0, .int .u32 0, .string ByteArray.empty, .int .u32 0, .int .u32 0, .slice none 0 0]) H rfl (by kernel_rfl) (by kernel_rfl) fun a w H => ?_)
        refine st_run 2 1 0 [(3, .int .i64 5)] H (by kernel_rfl) fun a H => ?_
        refine ops_end _ ?_
        refine st_ret (vs := [.agg #[.int .u8 0, .int .u32 0, .int .u64 0, .int .u8 0, .int .u32 0, .int .u32 0, .string ByteArray.empty, .int .u32 0, .int .u32 0, .string ByteArray.empty, .int .u32 0, .int .u32 0, .slice none 0 0], .int .i64 5]) H Tryd.func44 rfl (.cell (by kernel_rfl) (H.sat.blk (k := 1) rfl) (by kernel_rfl) (.tmp (by kernel_rfl) (.nil))) ?_
        have hz0 : getP bs = ((⟨0, 0, 0, 0, 0, 0, ByteArray.empty, 0, 0, ByteArray.empty, 0, 0, []⟩ : CallS), 5) := by first | simp only [getP, hc1, hc2n, hg1, List.length_nil, cond_true, cond_false, Bool.not_true, Bool.not_false, Bool.and_true, Bool.and_false, Bool.true_and, Bool.false_and] | rfl
        have X := (H.sat.msk [false, false])
        have hP := hP.symm.trans hz0
        clear hz0
        subst hP
        exact ⟨R1, hleR1, none, 0, RdB.nil _, rfl, X⟩
      · skip
        have H := H.also (d := 23) (u := .bool (decide ((((readP bs).2.1) : Int) ≥ 4))) (v := .bool false) (by kernel_rfl) (congrArg Value.bool (hg1))
        have hg1' := of_decide_eq_false hg1
        refine st_op 3 3 (op_val (d := 24) (v := .agg #[.int .u8 ((readP bs).1.client), .int .u32 ((readP bs).1.inc), .int .u64 ((readP bs).1.seq), .int .u8 ((readP bs).1.kind), .int .u32 ((readP bs).1.ino), .int .u32 ((readP bs).1.gen), .string ((readP bs).1.name), .int .u32 ((readP bs).1.toIno), .int .u32 ((readP bs).1.toGen), .string ((readP bs).1.toName), .int .u32 ((readP bs).1.off), .int .u32 ((readP bs).1.size), .slice X_1 ((readP bs).1.data.length) x_1]) H (val_ld (k := 0) (t := 28) (off := 0) rfl (by kernel_rfl) rfl (by kernel_rfl)) fun a H => ?_)
        refine st_op 4 2 (op_call (d := 25) H (by kernel_rfl) rfl (call_may ((readP bs).1) X_1 x_1 (by first | assumption | exact readP_wf _) (by first | assumption | omega) (by first | assumption | omega) H.sat) fun a v w q F => ?_)
        obtain ⟨R2, hle, rfl, X⟩ := q
        have H := St.mk F X
        have hr := hr.grow hle
        have hf1 := hf1.grow hle
        have hT := hT.grow hle
        have hleR2 := hleR1.trans hle
        refine st_run 5 2 0 [(27, .bool (!(mayP ((readP bs).1)))), (26, .bool (!(mayP ((readP bs).1))))] H (by kernel_rfl) fun a H => ?_
        refine ops_end _ ?_
        refine st_cond (!(mayP ((readP bs).1))) H (by kernel_rfl) ?_ ?_
        · intro hc3
          have hc3n := notT hc3
          refine WK.seq ?_
          refine st_text 3 rfl ?_
          refine st_run 0 1 2 [(28, .agg #[.int .u8 0, .int .u32 0, .int .u64 0, .int .u8 0, .int .u32 0, .int .u32 0, .string ByteArray.empty, .int .u32 0, .int .u32 0, .string ByteArray.empty, .int .u32 0, .int .u32 0, .slice none 0 0])] H (by kernel_rfl) fun a H => ?_
          refine st_op 1 1 (op_store (k := 1) (t := 28) (off := 0) (v := .agg #[.int .u8 0, .int .u32 0, .int .u64 0, .int .u8 0, .int .u32 0, .int .u32 0, .string ByteArray.empty, .int .u32 0, .int .u32 0, .string ByteArray.empty, .int .u32 0, .int .u32 0, .slice none 0 0]) H rfl (by kernel_rfl) (by kernel_rfl) fun a w H => ?_)
          refine st_run 2 1 0 [(3, .int .i64 5)] H (by kernel_rfl) fun a H => ?_
          refine ops_end _ ?_
          refine st_ret (vs := [.agg #[.int .u8 0, .int .u32 0, .int .u64 0, .int .u8 0, .int .u32 0, .int .u32 0, .string ByteArray.empty, .int .u32 0, .int .u32 0, .string ByteArray.empty, .int .u32 0, .int .u32 0, .slice none 0 0], .int .i64 5]) H Tryd.func44 rfl (.cell (by kernel_rfl) (H.sat.blk (k := 1) rfl) (by kernel_rfl) (.tmp (by kernel_rfl) (.nil))) ?_
          have hz0 : getP bs = ((⟨0, 0, 0, 0, 0, 0, ByteArray.empty, 0, 0, ByteArray.empty, 0, 0, []⟩ : CallS), 5) := by first | simp only [getP, hc1, hc2n, hg1, hc3n, List.length_nil, cond_true, cond_false, Bool.not_true, Bool.not_false, Bool.and_true, Bool.and_false, Bool.true_and, Bool.false_and] | rfl
          have X := (H.sat.msk [false, false])
          have hP := hP.symm.trans hz0
          clear hz0
          subst hP
          exact ⟨R2, hleR2, none, 0, RdB.nil _, rfl, X⟩
        · intro hc3
          have hc3n := notF hc3
          refine WK.skip ?_
          refine WK.seq ?_
          refine st_text 3 rfl ?_
          refine st_op 0 2 (op_val (d := 29) (v := .agg #[.int .u8 ((readP bs).1.client), .int .u32 ((readP bs).1.inc), .int .u64 ((readP bs).1.seq), .int .u8 ((readP bs).1.kind), .int .u32 ((readP bs).1.ino), .int .u32 ((readP bs).1.gen), .string ((readP bs).1.name), .int .u32 ((readP bs).1.toIno), .int .u32 ((readP bs).1.toGen), .string ((readP bs).1.toName), .int .u32 ((readP bs).1.off), .int .u32 ((readP bs).1.size), .slice X_1 ((readP bs).1.data.length) x_1]) H (val_ld (k := 0) (t := 28) (off := 0) rfl (by kernel_rfl) rfl (by kernel_rfl)) fun a H => ?_)
          refine st_op 1 1 (op_store (k := 1) (t := 28) (off := 0) (v := .agg #[.int .u8 ((readP bs).1.client), .int .u32 ((readP bs).1.inc), .int .u64 ((readP bs).1.seq), .int .u8 ((readP bs).1.kind), .int .u32 ((readP bs).1.ino), .int .u32 ((readP bs).1.gen), .string ((readP bs).1.name), .int .u32 ((readP bs).1.toIno), .int .u32 ((readP bs).1.toGen), .string ((readP bs).1.toName), .int .u32 ((readP bs).1.off), .int .u32 ((readP bs).1.size), .slice X_1 ((readP bs).1.data.length) x_1]) H rfl (by kernel_rfl) (by kernel_rfl) fun a w H => ?_)
          refine st_run 2 1 0 [(3, .int .i64 0)] H (by kernel_rfl) fun a H => ?_
          refine ops_end _ ?_
          refine st_ret (vs := [.agg #[.int .u8 ((readP bs).1.client), .int .u32 ((readP bs).1.inc), .int .u64 ((readP bs).1.seq), .int .u8 ((readP bs).1.kind), .int .u32 ((readP bs).1.ino), .int .u32 ((readP bs).1.gen), .string ((readP bs).1.name), .int .u32 ((readP bs).1.toIno), .int .u32 ((readP bs).1.toGen), .string ((readP bs).1.toName), .int .u32 ((readP bs).1.off), .int .u32 ((readP bs).1.size), .slice X_1 ((readP bs).1.data.length) x_1], .int .i64 0]) H Tryd.func44 rfl (.cell (by kernel_rfl) (H.sat.blk (k := 1) rfl) (by kernel_rfl) (.tmp (by kernel_rfl) (.nil))) ?_
          have hz0 : getP bs = ((readP bs).1, 0) := by first | simp only [getP, hc1, hc2n, hg1, hc3n, List.length_nil, cond_true, cond_false, Bool.not_true, Bool.not_false, Bool.and_true, Bool.and_false, Bool.true_and, Bool.false_and] | rfl
          have X := (H.sat.msk [false, false])
          have hP := hP.symm.trans hz0
          clear hz0
          subst hP
          exact ⟨R2, hleR2, X_1, x_1, hf1, rfl, X⟩
end Go.Proofs.YtldnpolfcickaaaDoor
