/- Numbers as bytes. -/
import Derived.Test.YtldnpolfcickaaaDoorCall4
set_option linter.unusedVariables false
set_option linter.unusedSimpArgs false
set_option maxRecDepth 100000
set_option maxHeartbeats 1000000
namespace Go.Proofs.YtldnpolfcickaaaDoor
open Go Go.WH

/-- wharfage/call.Same$1 -/
theorem call_head {e w : World} {R : Hp} {L : List HP} (c : CallS) (A : Option Addr) (k : Nat) (X : Sat e w R (L)) :
    Calls Tryd.prog 107 #[.agg #[.int .u8 c.client, .int .u32 c.inc, .int .u64 c.seq, .int .u8 c.kind, .int .u32 c.ino, .int .u32 c.gen, .string c.name, .int .u32 c.toIno, .int .u32 c.toGen, .string c.toName, .int .u32 c.off, .int .u32 c.size, .slice A c.data.length k]] w (Ret fun v w' => v = .agg #[.int .u8 c.client, .int .u32 c.inc, .int .u64 c.seq, .int .u8 c.kind, .int .u32 c.ino, .int .u32 c.gen, .int .u32 c.toIno, .int .u32 c.toGen, .string c.name, .string c.toName, .int .u32 c.off, .int .u32 c.size] ∧ Sat e w' R (L)) := by
  refine enter (n := 24) (args := [.agg #[.int .u8 c.client, .int .u32 c.inc, .int .u64 c.seq, .int .u8 c.kind, .int .u32 c.ino, .int .u32 c.gen, .string c.name, .int .u32 c.toIno, .int .u32 c.toGen, .string c.toName, .int .u32 c.off, .int .u32 c.size, .slice A c.data.length k]]) Tryd.func107 rfl rfl rfl X (fun a H => ?_)
  refine WK.seq ?_
  refine st_text 2 rfl ?_
  refine st_op 0 1 (op_new (d := 1) (vf := fun b => .pointer (some ⟨b, 0, none⟩)) (ob := .cells #[.int .u8 c.client, .int .u32 c.inc, .int .u64 c.seq, .int .u8 c.kind, .int .u32 c.ino, .int .u32 c.gen, .string c.name, .int .u32 c.toIno, .int .u32 c.toGen, .string c.toName, .int .u32 c.off, .int .u32 c.size, .slice A c.data.length k] 28) H (IsNew.of_run rfl fun w => (by kernel_rfl)) fun a w b1 H => ?_)
  refine st_op 1 0 (op_new (d := 2) (vf := fun b => .pointer (some ⟨b, 0, none⟩)) (ob := .cells #[.int .u8 0, .int .u32 0, .int .u64 0, .int .u8 0, .int .u32 0, .int .u32 0, .int .u32 0, .int .u32 0, .string ByteArray.empty, .string ByteArray.empty, .int .u32 0, .int .u32 0] 190) H (IsNew.of_run rfl fun w => (by kernel_rfl)) fun a w b2 H => ?_)
  refine ops_end _ ?_
  refine WK.seq ?_
  refine st_text 22 rfl ?_
  refine st_run 0 1 21 [(3, .pointer (some ⟨b1, 0, none⟩))] H (by kernel_rfl) fun a H => ?_
  refine st_op 1 20 (op_val (d := 4) (v := .int .u8 c.client) H (val_ld (k := 1) (t := 5) (off := 0) rfl (by kernel_rfl) rfl (by kernel_rfl)) fun a H => ?_)
  refine st_run 2 1 19 [(5, .pointer (some ⟨b1, 1, none⟩))] H (by kernel_rfl) fun a H => ?_
  refine st_op 3 18 (op_val (d := 6) (v := .int .u32 c.inc) H (val_ld (k := 1) (t := 22) (off := 1) rfl (by kernel_rfl) rfl (by kernel_rfl)) fun a H => ?_)
  refine st_run 4 1 17 [(7, .pointer (some ⟨b1, 2, none⟩))] H (by kernel_rfl) fun a H => ?_
  refine st_op 5 16 (op_val (d := 8) (v := .int .u64 c.seq) H (val_ld (k := 1) (t := 23) (off := 2) rfl (by kernel_rfl) rfl (by kernel_rfl)) fun a H => ?_)
  refine st_run 6 1 15 [(9, .pointer (some ⟨b1, 3, none⟩))] H (by kernel_rfl) fun a H => ?_
  refine st_op 7 14 (op_val (d := 10) (v := .int .u8 c.kind) H (val_ld (k := 1) (t := 5) (off := 3) rfl (by kernel_rfl) rfl (by kernel_rfl)) fun a H => ?_)
  refine st_run 8 1 13 [(11, .pointer (some ⟨b1, 4, none⟩))] H (by kernel_rfl) fun a H => ?_
  refine st_op 9 12 (op_val (d := 12) (v := .agg #[.int .u32 c.ino, .int .u32 c.gen]) H (val_ld (k := 1) (t := 25) (off := 4) rfl (by kernel_rfl) rfl (by kernel_rfl)) fun a H => ?_)
  refine st_run 10 1 11 [(13, .pointer (some ⟨b1, 7, none⟩))] H (by kernel_rfl) fun a H => ?_
  refine st_op 11 10 (op_val (d := 14) (v := .agg #[.int .u32 c.toIno, .int .u32 c.toGen]) H (val_ld (k := 1) (t := 25) (off := 7) rfl (by kernel_rfl) rfl (by kernel_rfl)) fun a H => ?_)
  refine st_run 12 1 9 [(15, .pointer (some ⟨b1, 6, none⟩))] H (by kernel_rfl) fun a H => ?_
  refine st_op 13 8 (op_val (d := 16) (v := .string c.name) H (val_ld (k := 1) (t := 9) (off := 6) rfl (by kernel_rfl) rfl (by kernel_rfl)) fun a H => ?_)
  refine st_run 14 1 7 [(17, .pointer (some ⟨b1, 9, none⟩))] H (by kernel_rfl) fun a H => ?_
  refine st_op 15 6 (op_val (d := 18) (v := .string c.toName) H (val_ld (k := 1) (t := 9) (off := 9) rfl (by kernel_rfl) rfl (by kernel_rfl)) fun a H => ?_)
  refine st_run 16 1 5 [(19, .pointer (some ⟨b1, 10, none⟩))] H (by kernel_rfl) fun a H => ?_
  refine st_op 17 4 (op_val (d := 20) (v := .int .u32 c.off) H (val_ld (k := 1) (t := 22) (off := 10) rfl (by kernel_rfl) rfl (by kernel_rfl)) fun a H => ?_)
  refine st_run 18 1 3 [(21, .pointer (some ⟨b1, 11, none⟩))] H (by kernel_rfl) fun a H => ?_
  refine st_op 19 2 (op_val (d := 22) (v := .int .u32 c.size) H (val_ld (k := 1) (t := 22) (off := 11) rfl (by kernel_rfl) rfl (by kernel_rfl)) fun a H => ?_)
  refine st_run 20 1 1 [(23, .agg #[.int .u8 c.client, .int .u32 c.inc, .int .u64 c.seq, .int .u8 c.kind, .int .u32 c.ino, .int .u32 c.gen, .int .u32 c.toIno, .int .u32 c.toGen, .string c.name, .string c.toName, .int .u32 c.off, .int .u32 c.size])] H (by kernel_rfl) fun a H => ?_
  refine st_op 21 0 (op_store (k := 0) (t := 190) (off := 0) (v := .agg #[.int .u8 c.client, .int .u32 c.inc, .int .u64 c.seq, .int .u8 c.kind, .int .u32 c.ino, .int .u32 c.gen, .int .u32 c.toIno, .int .u32 c.toGen, .string c.name, .string c.toName, .int .u32 c.off, .int .u32 c.size]) H rfl (by kernel_rfl) (by kernel_rfl) fun a w H => ?_)
  refine ops_end _ ?_
  refine st_ret (vs := [.agg #[.int .u8 c.client, .int .u32 c.inc, .int .u64 c.seq, .int .u8 c.kind, .int .u32 c.ino, .int .u32 c.gen, .int .u32 c.toIno, .int .u32 c.toGen, .string c.name, .string c.toName, .int .u32 c.off, .int .u32 c.size]]) H Tryd.func107 rfl (.cell (by kernel_rfl) (H.sat.blk (k := 0) rfl) (by kernel_rfl) (.nil)) ?_
  have X := (H.sat.msk [false, false])
  exact ⟨rfl, X⟩

/-- wharfage/call.Changes -/
theorem call_changes {e w : World} {R : Hp} {L : List HP} (n : Int) (X : Sat e w R (L)) :
    Calls Tryd.prog 45 #[.int .u8 n] w (Ret fun v w' => v = .bool (changesP n) ∧ Sat e w' R (L)) := by
  refine enter (n := 13) (args := [.int .u8 n]) Tryd.func45 rfl rfl rfl X (fun a H => ?_)
  refine WK.seq ?_
  refine st_text 1 rfl ?_
  refine st_run 0 1 0 [(2, .bool false)] H (by kernel_rfl) fun a H => ?_
  refine ops_end _ ?_
  refine WK.seq ?_
  refine WK.seq ?_
  refine st_text 1 rfl ?_
  refine st_run 0 1 0 [(3, .int .u8 n)] H (by kernel_rfl) fun a H => ?_
  refine ops_end _ ?_
  refine WK.block ?_
  refine WK.seq ?_
  refine WK.seq ?_
  refine st_text 2 rfl ?_
  refine st_run 0 2 0 [(4, .bool ((n : Int) == 2)), (5, .bool ((n : Int) == 2))] H (by kernel_rfl) fun a H => ?_
  refine ops_end _ ?_
  refine st_cond ((n : Int) == 2) H (by kernel_rfl) ?_ ?_
  · intro hc1
    have hc1' := eq_of_beq hc1
    refine WK.skip ?_
    have H := H.also (d := 4) (u := .bool ((n : Int) == 2)) (v := .bool true) (by kernel_rfl) (congrArg Value.bool (hc1))
    refine st_true H (by kernel_rfl) ?_
    refine WK.seq ?_
    refine st_text 1 rfl ?_
    refine st_run 0 1 0 [(2, .bool true)] H (by kernel_rfl) fun a H => ?_
    refine ops_end _ ?_
    refine st_ret (vs := [.bool true]) H Tryd.func45 rfl (.tmp (by kernel_rfl) (.nil)) ?_
    have X := H.sat
    have hX : Sat e w R (L) := by
      first | exact X | (skip; exact X) | (simp only [changesP, hc1, List.length_nil, cond_true, cond_false, Bool.not_true, Bool.not_false, Bool.and_true, Bool.and_false, Bool.true_and, Bool.false_and] at X ⊢; exact X)
    exact ⟨by first | simp only [changesP, hc1, List.length_nil, cond_true, cond_false, Bool.not_true, Bool.not_false, Bool.and_true, Bool.and_false, Bool.true_and, Bool.false_and] | rfl, hX⟩
  · intro hc1
    have hc1' := neB hc1
    refine WK.seq ?_
    refine st_text 2 rfl ?_
    refine st_run 0 2 0 [(4, .bool ((n : Int) == 5)), (6, .bool ((n : Int) == 5))] H (by kernel_rfl) fun a H => ?_
    refine ops_end _ ?_
    refine st_cond ((n : Int) == 5) H (by kernel_rfl) ?_ ?_
    · intro hc2
      have hc2' := eq_of_beq hc2
      refine WK.skip ?_
      have H := H.also (d := 4) (u := .bool ((n : Int) == 5)) (v := .bool true) (by kernel_rfl) (congrArg Value.bool (hc2))
      refine st_true H (by kernel_rfl) ?_
      refine WK.seq ?_
      refine st_text 1 rfl ?_
      refine st_run 0 1 0 [(2, .bool true)] H (by kernel_rfl) fun a H => ?_
      refine ops_end _ ?_
      refine st_ret (vs := [.bool true]) H Tryd.func45 rfl (.tmp (by kernel_rfl) (.nil)) ?_
      have X := H.sat
      have hX : Sat e w R (L) := by
        first | exact X | (skip; exact X) | (simp only [changesP, hc1, hc2, List.length_nil, cond_true, cond_false, Bool.not_true, Bool.not_false, Bool.and_true, Bool.and_false, Bool.true_and, Bool.false_and] at X ⊢; exact X)
      exact ⟨by first | simp only [changesP, hc1, hc2, List.length_nil, cond_true, cond_false, Bool.not_true, Bool.not_false, Bool.and_true, Bool.and_false, Bool.true_and, Bool.false_and] | rfl, hX⟩
    · intro hc2
      have hc2' := neB hc2
      refine WK.seq ?_
      refine st_text 2 rfl ?_
      refine st_run 0 2 0 [(4, .bool ((n : Int) == 6)), (7, .bool ((n : Int) == 6))] H (by kernel_rfl) fun a H => ?_
      refine ops_end _ ?_
      refine st_cond ((n : Int) == 6) H (by kernel_rfl) ?_ ?_
      · intro hc3
        have hc3' := eq_of_beq hc3
        refine WK.skip ?_
        have H := H.also (d := 4) (u := .bool ((n : Int) == 6)) (v := .bool true) (by kernel_rfl) (congrArg Value.bool (hc3))
        refine st_true H (by kernel_rfl) ?_
        refine WK.seq ?_
        refine st_text 1 rfl ?_
        refine st_run 0 1 0 [(2, .bool true)] H (by kernel_rfl) fun a H => ?_
        refine ops_end _ ?_
        refine st_ret (vs := [.bool true]) H Tryd.func45 rfl (.tmp (by kernel_rfl) (.nil)) ?_
        have X := H.sat
        have hX : Sat e w R (L) := by
          first | exact X | (skip; exact X) | (simp only [changesP, hc1, hc2, hc3, List.length_nil, cond_true, cond_false, Bool.not_true, Bool.not_false, Bool.and_true, Bool.and_false, Bool.true_and, Bool.false_and] at X ⊢; exact X)
        exact ⟨by first | simp only [changesP, hc1, hc2, hc3, List.length_nil, cond_true, cond_false, Bool.not_true, Bool.not_false, Bool.and_true, Bool.and_false, Bool.true_and, Bool.false_and] | rfl, hX⟩
      · intro hc3
        have hc3' := neB hc3
        refine WK.seq ?_
        refine st_text 2 rfl ?_
        refine st_run 0 2 0 [(4, .bool ((n : Int) == 7)), (8, .bool ((n : Int) == 7))] H (by kernel_rfl) fun a H => ?_
        refine ops_end _ ?_
        refine st_cond ((n : Int) == 7) H (by kernel_rfl) ?_ ?_
        · intro hc4
          have hc4' := eq_of_beq hc4
          refine WK.skip ?_
          have H := H.also (d := 4) (u := .bool ((n : Int) == 7)) (v := .bool true) (by kernel_rfl) (congrArg Value.bool (hc4))
          refine st_true H (by kernel_rfl) ?_
          refine WK.seq ?_
          refine st_text 1 rfl ?_
          refine st_run 0 1 0 [(2, .bool true)] H (by kernel_rfl) fun a H => ?_
          refine ops_end _ ?_
          refine st_ret (vs := [.bool true]) H Tryd.func45 rfl (.tmp (by kernel_rfl) (.nil)) ?_
          have X := H.sat
          have hX : Sat e w R (L) := by
            first | exact X | (skip; exact X) | (simp only [changesP, hc1, hc2, hc3, hc4, List.length_nil, cond_true, cond_false, Bool.not_true, Bool.not_false, Bool.and_true, Bool.and_false, Bool.true_and, Bool.false_and] at X ⊢; exact X)
          exact ⟨by first | simp only [changesP, hc1, hc2, hc3, hc4, List.length_nil, cond_true, cond_false, Bool.not_true, Bool.not_false, Bool.and_true, Bool.and_false, Bool.true_and, Bool.false_and] | rfl, hX⟩
        · intro hc4
          have hc4' := neB hc4
          refine WK.seq ?_
          refine st_text 2 rfl ?_
          refine st_run 0 2 0 [(4, .bool ((n : Int) == 8)), (9, .bool ((n : Int) == 8))] H (by kernel_rfl) fun a H => ?_
          refine ops_end _ ?_
          refine st_cond ((n : Int) == 8) H (by kernel_rfl) ?_ ?_
          · intro hc5
            have hc5' := eq_of_beq hc5
            refine WK.skip ?_
            have H := H.also (d := 4) (u := .bool ((n : Int) == 8)) (v := .bool true) (by kernel_rfl) (congrArg Value.bool (hc5))
            refine st_true H (by kernel_rfl) ?_
            refine WK.seq ?_
            refine st_text 1 rfl ?_
            refine st_run 0 1 0 [(2, .bool true)] H (by kernel_rfl) fun a H => ?_
            refine ops_end _ ?_
            refine st_ret (vs := [.bool true]) H Tryd.func45 rfl (.tmp (by kernel_rfl) (.nil)) ?_
            have X := H.sat
            have hX : Sat e w R (L) := by
              first | exact X | (skip; exact X) | (simp only [changesP, hc1, hc2, hc3, hc4, hc5, List.length_nil, cond_true, cond_false, Bool.not_true, Bool.not_false, Bool.and_true, Bool.and_false, Bool.true_and, Bool.false_and] at X ⊢; exact X)
            exact ⟨by first | simp only [changesP, hc1, hc2, hc3, hc4, hc5, List.length_nil, cond_true, cond_false, Bool.not_true, Bool.not_false, Bool.and_true, Bool.and_false, Bool.true_and, Bool.false_and] | rfl, hX⟩
          · intro hc5
            have hc5' := neB hc5
            refine WK.seq ?_
            refine st_text 2 rfl ?_
            refine st_run 0 2 0 [(4, .bool ((n : Int) == 9)), (10, .bool ((n : Int) == 9))] H (by kernel_rfl) fun a H => ?_
            refine ops_end _ ?_
            refine st_cond ((n : Int) == 9) H (by kernel_rfl) ?_ ?_
            · intro hc6
              have hc6' := eq_of_beq hc6
              refine WK.skip ?_
              have H := H.also (d := 4) (u := .bool ((n : Int) == 9)) (v := .bool true) (by kernel_rfl) (congrArg Value.bool (hc6))
              refine st_true H (by kernel_rfl) ?_
              refine WK.seq ?_
              refine st_text 1 rfl ?_
              refine st_run 0 1 0 [(2, .bool true)] H (by kernel_rfl) fun a H => ?_
              refine ops_end _ ?_
              refine st_ret (vs := [.bool true]) H Tryd.func45 rfl (.tmp (by kernel_rfl) (.nil)) ?_
              have X := H.sat
              have hX : Sat e w R (L) := by
                first | exact X | (skip; exact X) | (simp only [changesP, hc1, hc2, hc3, hc4, hc5, hc6, List.length_nil, cond_true, cond_false, Bool.not_true, Bool.not_false, Bool.and_true, Bool.and_false, Bool.true_and, Bool.false_and] at X ⊢; exact X)
              exact ⟨by first | simp only [changesP, hc1, hc2, hc3, hc4, hc5, hc6, List.length_nil, cond_true, cond_false, Bool.not_true, Bool.not_false, Bool.and_true, Bool.and_false, Bool.true_and, Bool.false_and] | rfl, hX⟩
            · intro hc6
              have hc6' := neB hc6
              refine WK.seq ?_
              refine st_text 2 rfl ?_
              refine st_run 0 2 0 [(4, .bool ((n : Int) == 10)), (11, .bool ((n : Int) == 10))] H (by kernel_rfl) fun a H => ?_
              refine ops_end _ ?_
              refine st_cond ((n : Int) == 10) H (by kernel_rfl) ?_ ?_
              · intro hc7
                have hc7' := eq_of_beq hc7
                refine WK.skip ?_
                have H := H.also (d := 4) (u := .bool ((n : Int) == 10)) (v := .bool true) (by kernel_rfl) (congrArg Value.bool (hc7))
                refine st_true H (by kernel_rfl) ?_
                refine WK.seq ?_
                refine st_text 1 rfl ?_
                refine st_run 0 1 0 [(2, .bool true)] H (by kernel_rfl) fun a H => ?_
                refine ops_end _ ?_
                refine st_ret (vs := [.bool true]) H Tryd.func45 rfl (.tmp (by kernel_rfl) (.nil)) ?_
                have X := H.sat
                have hX : Sat e w R (L) := by
                  first | exact X | (skip; exact X) | (simp only [changesP, hc1, hc2, hc3, hc4, hc5, hc6, hc7, List.length_nil, cond_true, cond_false, Bool.not_true, Bool.not_false, Bool.and_true, Bool.and_false, Bool.true_and, Bool.false_and] at X ⊢; exact X)
                exact ⟨by first | simp only [changesP, hc1, hc2, hc3, hc4, hc5, hc6, hc7, List.length_nil, cond_true, cond_false, Bool.not_true, Bool.not_false, Bool.and_true, Bool.and_false, Bool.true_and, Bool.false_and] | rfl, hX⟩
              · intro hc7
                have hc7' := neB hc7
                refine st_text 2 rfl ?_
                refine st_run 0 2 0 [(4, .bool ((n : Int) == 11)), (12, .bool ((n : Int) == 11))] H (by kernel_rfl) fun a H => ?_
                refine ops_end _ ?_
                refine st_cond ((n : Int) == 11) H (by kernel_rfl) ?_ ?_
                · intro hc8
                  have hc8' := eq_of_beq hc8
                  refine WK.seq ?_
                  refine st_text 1 rfl ?_
                  refine st_run 0 1 0 [(2, .bool true)] H (by kernel_rfl) fun a H => ?_
                  refine ops_end _ ?_
                  refine st_ret (vs := [.bool true]) H Tryd.func45 rfl (.tmp (by kernel_rfl) (.nil)) ?_
                  have X := H.sat
                  have hX : Sat e w R (L) := by
                    first | exact X | (skip; exact X) | (simp only [changesP, hc1, hc2, hc3, hc4, hc5, hc6, hc7, hc8, List.length_nil, cond_true, cond_false, Bool.not_true, Bool.not_false, Bool.and_true, Bool.and_false, Bool.true_and, Bool.false_and] at X ⊢; exact X)
                  exact ⟨by first | simp only [changesP, hc1, hc2, hc3, hc4, hc5, hc6, hc7, hc8, List.length_nil, cond_true, cond_false, Bool.not_true, Bool.not_false, Bool.and_true, Bool.and_false, Bool.true_and, Bool.false_and] | rfl, hX⟩
                · intro hc8
                  have hc8' := neB hc8
                  refine WK.skip ?_
                  refine WK.inBlock ?_
                  refine WK.seq ?_
                  refine st_text 1 rfl ?_
                  refine st_run 0 1 0 [(2, .bool false)] H (by kernel_rfl) fun a H => ?_
                  refine ops_end _ ?_
                  refine st_ret (vs := [.bool false]) H Tryd.func45 rfl (.tmp (by kernel_rfl) (.nil)) ?_
                  have X := H.sat
                  have hX : Sat e w R (L) := by
                    first | exact X | (skip; exact X) | (simp only [changesP, hc1, hc2, hc3, hc4, hc5, hc6, hc7, hc8, List.length_nil, cond_true, cond_false, Bool.not_true, Bool.not_false, Bool.and_true, Bool.and_false, Bool.true_and, Bool.false_and] at X ⊢; exact X)
                  exact ⟨by first | simp only [changesP, hc1, hc2, hc3, hc4, hc5, hc6, hc7, hc8, List.length_nil, cond_true, cond_false, Bool.not_true, Bool.not_false, Bool.and_true, Bool.and_false, Bool.true_and, Bool.false_and] | rfl, hX⟩

/-- wharfage/call.Same -/
theorem call_same {e w : World} {R : Hp} {L : List HP} (x : CallS) (y : CallS) (A : Option Addr) (B : Option Addr) (j : Nat) (k : Nat) (ha : RdB R A j x.data) (hb : RdB R B k y.data) (X : Sat e w R (L)) :
    Calls Tryd.prog 42 #[.agg #[.int .u8 x.client, .int .u32 x.inc, .int .u64 x.seq, .int .u8 x.kind, .int .u32 x.ino, .int .u32 x.gen, .string x.name, .int .u32 x.toIno, .int .u32 x.toGen, .string x.toName, .int .u32 x.off, .int .u32 x.size, .slice A x.data.length j], .agg #[.int .u8 y.client, .int .u32 y.inc, .int .u64 y.seq, .int .u8 y.kind, .int .u32 y.ino, .int .u32 y.gen, .string y.name, .int .u32 y.toIno, .int .u32 y.toGen, .string y.toName, .int .u32 y.off, .int .u32 y.size, .slice B y.data.length k]] w (Ret fun v w' => v = .bool (sameP x y) ∧ Sat e w' R (L)) := by
  refine enter (n := 19) (args := [.agg #[.int .u8 x.client, .int .u32 x.inc, .int .u64 x.seq, .int .u8 x.kind, .int .u32 x.ino, .int .u32 x.gen, .string x.name, .int .u32 x.toIno, .int .u32 x.toGen, .string x.toName, .int .u32 x.off, .int .u32 x.size, .slice A x.data.length j], .agg #[.int .u8 y.client, .int .u32 y.inc, .int .u64 y.seq, .int .u8 y.kind, .int .u32 y.ino, .int .u32 y.gen, .string y.name, .int .u32 y.toIno, .int .u32 y.toGen, .string y.toName, .int .u32 y.off, .int .u32 y.size, .slice B y.data.length k]]) Tryd.func42 rfl rfl rfl X (fun a H => ?_)
  refine WK.seq ?_
  refine st_text 3 rfl ?_
  refine st_op 0 2 (op_new (d := 2) (vf := fun b => .pointer (some ⟨b, 0, none⟩)) (ob := .cells #[.int .u8 x.client, .int .u32 x.inc, .int .u64 x.seq, .int .u8 x.kind, .int .u32 x.ino, .int .u32 x.gen, .string x.name, .int .u32 x.toIno, .int .u32 x.toGen, .string x.toName, .int .u32 x.off, .int .u32 x.size, .slice A x.data.length j] 28) H (IsNew.of_run rfl fun w => (by kernel_rfl)) fun a w b1 H => ?_)
  refine st_op 1 1 (op_new (d := 3) (vf := fun b => .pointer (some ⟨b, 0, none⟩)) (ob := .cells #[.int .u8 y.client, .int .u32 y.inc, .int .u64 y.seq, .int .u8 y.kind, .int .u32 y.ino, .int .u32 y.gen, .string y.name, .int .u32 y.toIno, .int .u32 y.toGen, .string y.toName, .int .u32 y.off, .int .u32 y.size, .slice B y.data.length k] 28) H (IsNew.of_run rfl fun w => (by kernel_rfl)) fun a w b2 H => ?_)
  refine st_run 2 1 0 [(4, .bool false)] H (by kernel_rfl) fun a H => ?_
  refine ops_end _ ?_
  refine WK.seq ?_
  refine WK.seq ?_
  refine st_text 6 rfl ?_
  refine st_run 0 1 5 [(6, .pointer (some ⟨b1, 12, none⟩))] H (by kernel_rfl) fun a H => ?_
  refine st_op 1 4 (op_val (d := 7) (v := .slice A x.data.length j) H (val_ld (k := 1) (t := 26) (off := 12) rfl (by kernel_rfl) rfl (by kernel_rfl)) fun a H => ?_)
  refine st_run 2 1 3 [(8, .pointer (some ⟨b2, 12, none⟩))] H (by kernel_rfl) fun a H => ?_
  refine st_op 3 2 (op_val (d := 9) (v := .slice B y.data.length k) H (val_ld (k := 0) (t := 26) (off := 12) rfl (by kernel_rfl) rfl (by kernel_rfl)) fun a H => ?_)
  refine st_op 4 1 (op_call (d := 10) H (by kernel_rfl) rfl (bytes_equal A B j k x.data y.data (by first | assumption | omega) (by first | assumption | omega) H.sat) fun a v w q F => ?_)
  obtain ⟨rfl, X⟩ := q
  have H := St.mk F X
  refine st_run 5 1 0 [(11, .bool (!(x.data == y.data)))] H (by kernel_rfl) fun a H => ?_
  refine ops_end _ ?_
  refine st_cond (!(x.data == y.data)) H (by kernel_rfl) ?_ ?_
  · intro hc1
    have hc1n := notT hc1
    refine WK.seq ?_
    refine st_text 1 rfl ?_
    refine st_run 0 1 0 [(4, .bool false)] H (by kernel_rfl) fun a H => ?_
    refine ops_end _ ?_
    refine st_ret (vs := [.bool false]) H Tryd.func42 rfl (.tmp (by kernel_rfl) (.nil)) ?_
    have X := (H.sat.msk [false, false])
    have hX : Sat e w R (L) := by
      first | exact X | (skip; exact X) | (simp only [sameP, headEq, hc1n, List.length_nil, cond_true, cond_false, Bool.not_true, Bool.not_false, Bool.and_true, Bool.and_false, Bool.true_and, Bool.false_and] at X ⊢; exact X)
    exact ⟨by first | simp only [sameP, headEq, hc1n, List.length_nil, cond_true, cond_false, Bool.not_true, Bool.not_false, Bool.and_true, Bool.and_false, Bool.true_and, Bool.false_and] | rfl, hX⟩
  · intro hc1
    have hc1n := notF hc1
    refine WK.skip ?_
    refine WK.seq ?_
    refine st_text 1 rfl ?_
    refine st_run 0 1 0 [(5, .func (.func 107) #[] #[])] H (by kernel_rfl) fun a H => ?_
    refine ops_end _ ?_
    refine WK.seq ?_
    refine st_floatsM [true, true] [.mv 0, .tk 1, .mv 3, .tk 4, .op 2, .op 5, .mv 6, .mv 7] rfl (by kernel_rfl) (by kernel_rfl) (by kernel_rfl) H ?_
    refine z_mv 0 (d := 12) (.func (.func 107) #[] #[]) (IsVal.of_run rfl fun w => (by kernel_rfl)) (by kernel_rfl) ?_
    refine z_tk 1 (d := 13) (.agg #[.int .u8 x.client, .int .u32 x.inc, .int .u64 x.seq, .int .u8 x.kind, .int .u32 x.ino, .int .u32 x.gen, .string x.name, .int .u32 x.toIno, .int .u32 x.toGen, .string x.toName, .int .u32 x.off, .int .u32 x.size, .slice A x.data.length j]) (val_ld (k := 1) (t := 28) (off := 0) rfl (by kernel_rfl) rfl (by kernel_rfl)) (by kernel_rfl) ?_
    refine z_mv 3 (d := 15) (.func (.func 107) #[] #[]) (IsVal.of_run rfl fun w => (by kernel_rfl)) (by kernel_rfl) ?_
    refine z_tk 4 (d := 16) (.agg #[.int .u8 y.client, .int .u32 y.inc, .int .u64 y.seq, .int .u8 y.kind, .int .u32 y.ino, .int .u32 y.gen, .string y.name, .int .u32 y.toIno, .int .u32 y.toGen, .string y.toName, .int .u32 y.off, .int .u32 y.size, .slice B y.data.length k]) (val_ld (k := 0) (t := 28) (off := 0) rfl (by kernel_rfl) rfl (by kernel_rfl)) (by kernel_rfl) ?_
    refine z_op 2 rfl fun a w Z H => ?_
    refine op_call (d := 14) H (by kernel_rfl) rfl (call_head x A j H.sat) fun a v w q F => ?_
    obtain ⟨rfl, X⟩ := q
    have H := St.mk F X
    refine z_on (blk b2 (.cells #[.int .u8 y.client, .int .u32 y.inc, .int .u64 y.seq, .int .u8 y.kind, .int .u32 y.ino, .int .u32 y.gen, .string y.name, .int .u32 y.toIno, .int .u32 y.toGen, .string y.toName, .int .u32 y.off, .int .u32 y.size, .slice B y.data.length k] 28) :: blk b1 (.cells #[.int .u8 x.client, .int .u32 x.inc, .int .u64 x.seq, .int .u8 x.kind, .int .u32 x.ino, .int .u32 x.gen, .string x.name, .int .u32 x.toIno, .int .u32 x.toGen, .string x.toName, .int .u32 x.off, .int .u32 x.size, .slice A x.data.length j] 28) :: L) H (fun w Z X => X.mskZ [true, true] (by kernel_rfl)) (by kernel_rfl) ?_
    refine z_op 5 rfl fun a w Z H => ?_
    refine op_call (d := 17) H (by kernel_rfl) rfl (call_head y B k H.sat) fun a v w q F => ?_
    obtain ⟨rfl, X⟩ := q
    have H := St.mk F X
    refine z_on (blk b2 (.cells #[.int .u8 y.client, .int .u32 y.inc, .int .u64 y.seq, .int .u8 y.kind, .int .u32 y.ino, .int .u32 y.gen, .string y.name, .int .u32 y.toIno, .int .u32 y.toGen, .string y.toName, .int .u32 y.off, .int .u32 y.size, .slice B y.data.length k] 28) :: blk b1 (.cells #[.int .u8 x.client, .int .u32 x.inc, .int .u64 x.seq, .int .u8 x.kind, .int .u32 x.ino, .int .u32 x.gen, .string x.name, .int .u32 x.toIno, .int .u32 x.toGen, .string x.toName, .int .u32 x.off, .int .u32 x.size, .slice A x.data.length j] 28) :: L) H (fun w Z X => X.mskZ [true, true] (by kernel_rfl)) (by kernel_rfl) ?_
    refine z_mv 6 (d := 18) (.bool (((x.client : Int) == y.client) && (((x.inc : Int) == y.inc) && (((x.seq : Int) == y.seq) && (((x.kind : Int) == y.kind) && ((((x.ino : Int) == y.ino) && (((x.gen : Int) == y.gen) && true)) && ((((x.toIno : Int) == y.toIno) && (((x.toGen : Int) == y.toGen) && true)) && ((x.name.toList == y.name.toList) && ((x.toName.toList == y.toName.toList) && (((x.off : Int) == y.off) && (((x.size : Int) == y.size) && true))))))))))) (val_eqS (t := 190) (xs := #[.int .u8 x.client, .int .u32 x.inc, .int .u64 x.seq, .int .u8 x.kind, .int .u32 x.ino, .int .u32 x.gen, .int .u32 x.toIno, .int .u32 x.toGen, .string x.name, .string x.toName, .int .u32 x.off, .int .u32 x.size]) (ys := #[.int .u8 y.client, .int .u32 y.inc, .int .u64 y.seq, .int .u8 y.kind, .int .u32 y.ino, .int .u32 y.gen, .int .u32 y.toIno, .int .u32 y.toGen, .string y.name, .string y.toName, .int .u32 y.off, .int .u32 y.size]) (by kernel_rfl) rfl (by kernel_rfl) (by kernel_rfl)) (by kernel_rfl) ?_
    refine z_mv 7 (d := 4) (.bool (((x.client : Int) == y.client) && (((x.inc : Int) == y.inc) && (((x.seq : Int) == y.seq) && (((x.kind : Int) == y.kind) && ((((x.ino : Int) == y.ino) && (((x.gen : Int) == y.gen) && true)) && ((((x.toIno : Int) == y.toIno) && (((x.toGen : Int) == y.toGen) && true)) && ((x.name.toList == y.name.toList) && ((x.toName.toList == y.toName.toList) && (((x.off : Int) == y.off) && (((x.size : Int) == y.size) && true))))))))))) (IsVal.of_run rfl fun w => (by kernel_rfl)) (by kernel_rfl) ?_
    refine z_end [] fun a w H => ?_
    refine st_ret (vs := [.bool (((x.client : Int) == y.client) && (((x.inc : Int) == y.inc) && (((x.seq : Int) == y.seq) && (((x.kind : Int) == y.kind) && ((((x.ino : Int) == y.ino) && (((x.gen : Int) == y.gen) && true)) && ((((x.toIno : Int) == y.toIno) && (((x.toGen : Int) == y.toGen) && true)) && ((x.name.toList == y.name.toList) && ((x.toName.toList == y.toName.toList) && (((x.off : Int) == y.off) && (((x.size : Int) == y.size) && true))))))))))]) H Tryd.func42 rfl (.tmp (by kernel_rfl) (.nil)) ?_
    have X := (H.sat.msk [false, false])
    have hX : Sat e w R (L) := by
      first | exact X | (skip; exact X) | (simp only [sameP, headEq, hc1n, List.length_nil, cond_true, cond_false, Bool.not_true, Bool.not_false, Bool.and_true, Bool.and_false, Bool.true_and, Bool.false_and] at X ⊢; exact X)
    exact ⟨by first | simp only [sameP, headEq, hc1n, List.length_nil, cond_true, cond_false, Bool.not_true, Bool.not_false, Bool.and_true, Bool.and_false, Bool.true_and, Bool.false_and] | rfl, hX⟩
end Go.Proofs.YtldnpolfcickaaaDoor
