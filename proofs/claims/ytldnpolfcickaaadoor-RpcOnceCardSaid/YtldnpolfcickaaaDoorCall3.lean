/- Numbers as bytes. -/
import Derived.Test.YtldnpolfcickaaaDoorCall2
import Derived.Test.YtldnpolfcickaaaDoorName
set_option linter.unusedVariables false
set_option linter.unusedSimpArgs false
set_option maxRecDepth 100000
set_option maxHeartbeats 1000000
namespace Go.Proofs.YtldnpolfcickaaaDoor
open Go Go.WH

/-- wharfage/call.whole -/
theorem call_whole {e w : World} {R : Hp} {L : List HP} (c : CallS) (A : Option Addr) (k : Nat) (wf : c.Wf) (hd : RdB R A k c.data) (hT : Tabs 0 1 R) (X : Sat e w R (L)) :
    Calls Tryd.prog 39 #[.agg #[.int .u8 c.client, .int .u32 c.inc, .int .u64 c.seq, .int .u8 c.kind, .int .u32 c.ino, .int .u32 c.gen, .string c.name, .int .u32 c.toIno, .int .u32 c.toGen, .string c.toName, .int .u32 c.off, .int .u32 c.size, .slice A c.data.length k]] w (Ret fun v w' => v = .bool (wholeP c) ∧ Sat e w' R (L)) := by
  obtain ⟨w1, w2, w3, w4, w5, w6, w7, w8, w9, w10⟩ := wf
  refine enter (n := 56) (args := [.agg #[.int .u8 c.client, .int .u32 c.inc, .int .u64 c.seq, .int .u8 c.kind, .int .u32 c.ino, .int .u32 c.gen, .string c.name, .int .u32 c.toIno, .int .u32 c.toGen, .string c.toName, .int .u32 c.off, .int .u32 c.size, .slice A c.data.length k]]) Tryd.func39 rfl rfl rfl X (fun a H => ?_)
  refine WK.seq ?_
  refine st_text 2 rfl ?_
  refine st_op 0 1 (op_new (d := 1) (vf := fun b => .pointer (some ⟨b, 0, none⟩)) (ob := .cells #[.int .u8 c.client, .int .u32 c.inc, .int .u64 c.seq, .int .u8 c.kind, .int .u32 c.ino, .int .u32 c.gen, .string c.name, .int .u32 c.toIno, .int .u32 c.toGen, .string c.toName, .int .u32 c.off, .int .u32 c.size, .slice A c.data.length k] 28) H (IsNew.of_run rfl fun w => (by kernel_rfl)) fun a w b1 H => ?_)
  refine st_run 1 1 0 [(2, .bool false)] H (by kernel_rfl) fun a H => ?_
  refine ops_end _ ?_
  refine WK.seq ?_
  refine WK.seq ?_
  refine st_text 2 rfl ?_
  refine st_run 0 1 1 [(3, .pointer (some ⟨b1, 3, none⟩))] H (by kernel_rfl) fun a H => ?_
  refine st_op 1 0 (op_val (d := 4) (v := .int .u8 c.kind) H (val_ld (k := 0) (t := 5) (off := 3) rfl (by kernel_rfl) rfl (by kernel_rfl)) fun a H => ?_)
  refine ops_end _ ?_
  refine WK.block ?_
  refine WK.seq ?_
  refine st_text 2 rfl ?_
  refine st_run 0 2 0 [(5, .bool ((c.kind : Int) == 2)), (6, .bool ((c.kind : Int) == 2))] H (by kernel_rfl) fun a H => ?_
  refine ops_end _ ?_
  refine st_cond ((c.kind : Int) == 2) H (by kernel_rfl) ?_ ?_
  · intro hc1
    have hc1' := eq_of_beq hc1
    refine WK.seq ?_
    refine st_text 4 rfl ?_
    refine st_run 0 1 3 [(7, .pointer (some ⟨b1, 11, none⟩))] H (by kernel_rfl) fun a H => ?_
    refine st_op 1 2 (op_val (d := 8) (v := .int .u32 c.size) H (val_ld (k := 0) (t := 22) (off := 11) rfl (by kernel_rfl) rfl (by kernel_rfl)) fun a H => ?_)
    refine st_run 2 2 0 [(2, .bool (decide ((c.size : Int) ≤ 4096))), (9, .bool (decide ((c.size : Int) ≤ 4096)))] H (by kernel_rfl) fun a H => ?_
    refine ops_end _ ?_
    refine st_ret (vs := [.bool (decide ((c.size : Int) ≤ 4096))]) H Tryd.func39 rfl (.tmp (by kernel_rfl) (.nil)) ?_
    have X := (H.sat.msk [false])
    have hX : Sat e w R (L) := by
      first | exact X | (skip; exact X) | (simp only [wholeP, hc1, List.length_nil, cond_true, cond_false, Bool.not_true, Bool.not_false, Bool.and_true, Bool.and_false, Bool.true_and, Bool.false_and] at X ⊢; exact X)
    exact ⟨by first | simp only [wholeP, hc1, List.length_nil, cond_true, cond_false, Bool.not_true, Bool.not_false, Bool.and_true, Bool.and_false, Bool.true_and, Bool.false_and] | rfl, hX⟩
  · intro hc1
    have hc1' := neB hc1
    refine WK.seq ?_
    refine WK.seq ?_
    refine st_text 2 rfl ?_
    refine st_run 0 2 0 [(10, .bool ((c.kind : Int) == 3)), (11, .bool ((c.kind : Int) == 3))] H (by kernel_rfl) fun a H => ?_
    refine ops_end _ ?_
    refine st_cond ((c.kind : Int) == 3) H (by kernel_rfl) ?_ ?_
    · intro hc2
      have hc2' := eq_of_beq hc2
      refine WK.skip ?_
      have H := H.also (d := 10) (u := .bool ((c.kind : Int) == 3)) (v := .bool true) (by kernel_rfl) (congrArg Value.bool (hc2))
      refine st_true H (by kernel_rfl) ?_
      refine WK.seq ?_
      refine st_text 4 rfl ?_
      refine st_run 0 1 3 [(16, .pointer (some ⟨b1, 6, none⟩))] H (by kernel_rfl) fun a H => ?_
      refine st_op 1 2 (op_val (d := 17) (v := .string c.name) H (val_ld (k := 0) (t := 9) (off := 6) rfl (by kernel_rfl) rfl (by kernel_rfl)) fun a H => ?_)
      refine st_op 2 1 (op_call (d := 18) H (by kernel_rfl) rfl (name_is c.name (by first | assumption | omega) H.sat) fun a v w q F => ?_)
      obtain ⟨rfl, X⟩ := q
      have H := St.mk F X
      refine st_run 3 1 0 [(2, .bool (nameIs c.name))] H (by kernel_rfl) fun a H => ?_
      refine ops_end _ ?_
      refine st_ret (vs := [.bool (nameIs c.name)]) H Tryd.func39 rfl (.tmp (by kernel_rfl) (.nil)) ?_
      have X := (H.sat.msk [false])
      have hX : Sat e w R (L) := by
        first | exact X | (skip; exact X) | (simp only [wholeP, hc1, hc2, List.length_nil, cond_true, cond_false, Bool.not_true, Bool.not_false, Bool.and_true, Bool.and_false, Bool.true_and, Bool.false_and] at X ⊢; exact X)
      exact ⟨by first | simp only [wholeP, hc1, hc2, List.length_nil, cond_true, cond_false, Bool.not_true, Bool.not_false, Bool.and_true, Bool.and_false, Bool.true_and, Bool.false_and] | rfl, hX⟩
    · intro hc2
      have hc2' := neB hc2
      refine WK.seq ?_
      refine st_text 2 rfl ?_
      refine st_run 0 2 0 [(10, .bool ((c.kind : Int) == 7)), (12, .bool ((c.kind : Int) == 7))] H (by kernel_rfl) fun a H => ?_
      refine ops_end _ ?_
      refine st_cond ((c.kind : Int) == 7) H (by kernel_rfl) ?_ ?_
      · intro hc3
        have hc3' := eq_of_beq hc3
        refine WK.skip ?_
        have H := H.also (d := 10) (u := .bool ((c.kind : Int) == 7)) (v := .bool true) (by kernel_rfl) (congrArg Value.bool (hc3))
        refine st_true H (by kernel_rfl) ?_
        refine WK.seq ?_
        refine st_text 4 rfl ?_
        refine st_run 0 1 3 [(16, .pointer (some ⟨b1, 6, none⟩))] H (by kernel_rfl) fun a H => ?_
        refine st_op 1 2 (op_val (d := 17) (v := .string c.name) H (val_ld (k := 0) (t := 9) (off := 6) rfl (by kernel_rfl) rfl (by kernel_rfl)) fun a H => ?_)
        refine st_op 2 1 (op_call (d := 18) H (by kernel_rfl) rfl (name_is c.name (by first | assumption | omega) H.sat) fun a v w q F => ?_)
        obtain ⟨rfl, X⟩ := q
        have H := St.mk F X
        refine st_run 3 1 0 [(2, .bool (nameIs c.name))] H (by kernel_rfl) fun a H => ?_
        refine ops_end _ ?_
        refine st_ret (vs := [.bool (nameIs c.name)]) H Tryd.func39 rfl (.tmp (by kernel_rfl) (.nil)) ?_
        have X := (H.sat.msk [false])
        have hX : Sat e w R (L) := by
          first | exact X | (skip; exact X) | (simp only [wholeP, hc1, hc2, hc3, List.length_nil, cond_true, cond_false, Bool.not_true, Bool.not_false, Bool.and_true, Bool.and_false, Bool.true_and, Bool.false_and] at X ⊢; exact X)
        exact ⟨by first | simp only [wholeP, hc1, hc2, hc3, List.length_nil, cond_true, cond_false, Bool.not_true, Bool.not_false, Bool.and_true, Bool.and_false, Bool.true_and, Bool.false_and] | rfl, hX⟩
      · intro hc3
        have hc3' := neB hc3
        refine WK.seq ?_
        refine st_text 2 rfl ?_
        refine st_run 0 2 0 [(10, .bool ((c.kind : Int) == 8)), (13, .bool ((c.kind : Int) == 8))] H (by kernel_rfl) fun a H => ?_
        refine ops_end _ ?_
        refine st_cond ((c.kind : Int) == 8) H (by kernel_rfl) ?_ ?_
        · intro hc4
          have hc4' := eq_of_beq hc4
          refine WK.skip ?_
          have H := H.also (d := 10) (u := .bool ((c.kind : Int) == 8)) (v := .bool true) (by kernel_rfl) (congrArg Value.bool (hc4))
          refine st_true H (by kernel_rfl) ?_
          refine WK.seq ?_
          refine st_text 4 rfl ?_
          refine st_run 0 1 3 [(16, .pointer (some ⟨b1, 6, none⟩))] H (by kernel_rfl) fun a H => ?_
          refine st_op 1 2 (op_val (d := 17) (v := .string c.name) H (val_ld (k := 0) (t := 9) (off := 6) rfl (by kernel_rfl) rfl (by kernel_rfl)) fun a H => ?_)
          refine st_op 2 1 (op_call (d := 18) H (by kernel_rfl) rfl (name_is c.name (by first | assumption | omega) H.sat) fun a v w q F => ?_)
          obtain ⟨rfl, X⟩ := q
          have H := St.mk F X
          refine st_run 3 1 0 [(2, .bool (nameIs c.name))] H (by kernel_rfl) fun a H => ?_
          refine ops_end _ ?_
          refine st_ret (vs := [.bool (nameIs c.name)]) H Tryd.func39 rfl (.tmp (by kernel_rfl) (.nil)) ?_
          have X := (H.sat.msk [false])
          have hX : Sat e w R (L) := by
            first | exact X | (skip; exact X) | (simp only [wholeP, hc1, hc2, hc3, hc4, List.length_nil, cond_true, cond_false, Bool.not_true, Bool.not_false, Bool.and_true, Bool.and_false, Bool.true_and, Bool.false_and] at X ⊢; exact X)
          exact ⟨by first | simp only [wholeP, hc1, hc2, hc3, hc4, List.length_nil, cond_true, cond_false, Bool.not_true, Bool.not_false, Bool.and_true, Bool.and_false, Bool.true_and, Bool.false_and] | rfl, hX⟩
        · intro hc4
          have hc4' := neB hc4
          refine WK.seq ?_
          refine st_text 2 rfl ?_
          refine st_run 0 2 0 [(10, .bool ((c.kind : Int) == 9)), (14, .bool ((c.kind : Int) == 9))] H (by kernel_rfl) fun a H => ?_
          refine ops_end _ ?_
          refine st_cond ((c.kind : Int) == 9) H (by kernel_rfl) ?_ ?_
          · intro hc5
            have hc5' := eq_of_beq hc5
            refine WK.skip ?_
            have H := H.also (d := 10) (u := .bool ((c.kind : Int) == 9)) (v := .bool true) (by kernel_rfl) (congrArg Value.bool (hc5))
            refine st_true H (by kernel_rfl) ?_
            refine WK.seq ?_
            refine st_text 4 rfl ?_
            refine st_run 0 1 3 [(16, .pointer (some ⟨b1, 6, none⟩))] H (by kernel_rfl) fun a H => ?_
            refine st_op 1 2 (op_val (d := 17) (v := .string c.name) H (val_ld (k := 0) (t := 9) (off := 6) rfl (by kernel_rfl) rfl (by kernel_rfl)) fun a H => ?_)
            refine st_op 2 1 (op_call (d := 18) H (by kernel_rfl) rfl (name_is c.name (by first | assumption | omega) H.sat) fun a v w q F => ?_)
            obtain ⟨rfl, X⟩ := q
            have H := St.mk F X
            refine st_run 3 1 0 [(2, .bool (nameIs c.name))] H (by kernel_rfl) fun a H => ?_
            refine ops_end _ ?_
            refine st_ret (vs := [.bool (nameIs c.name)]) H Tryd.func39 rfl (.tmp (by kernel_rfl) (.nil)) ?_
            have X := (H.sat.msk [false])
            have hX : Sat e w R (L) := by
              first | exact X | (skip; exact X) | (simp only [wholeP, hc1, hc2, hc3, hc4, hc5, List.length_nil, cond_true, cond_false, Bool.not_true, Bool.not_false, Bool.and_true, Bool.and_false, Bool.true_and, Bool.false_and] at X ⊢; exact X)
            exact ⟨by first | simp only [wholeP, hc1, hc2, hc3, hc4, hc5, List.length_nil, cond_true, cond_false, Bool.not_true, Bool.not_false, Bool.and_true, Bool.and_false, Bool.true_and, Bool.false_and] | rfl, hX⟩
          · intro hc5
            have hc5' := neB hc5
            refine st_text 2 rfl ?_
            refine st_run 0 2 0 [(10, .bool ((c.kind : Int) == 10)), (15, .bool ((c.kind : Int) == 10))] H (by kernel_rfl) fun a H => ?_
            refine ops_end _ ?_
            refine st_cond ((c.kind : Int) == 10) H (by kernel_rfl) ?_ ?_
            · intro hc6
              have hc6' := eq_of_beq hc6
              refine WK.seq ?_
              refine st_text 4 rfl ?_
              refine st_run 0 1 3 [(16, .pointer (some ⟨b1, 6, none⟩))] H (by kernel_rfl) fun a H => ?_
              refine st_op 1 2 (op_val (d := 17) (v := .string c.name) H (val_ld (k := 0) (t := 9) (off := 6) rfl (by kernel_rfl) rfl (by kernel_rfl)) fun a H => ?_)
              refine st_op 2 1 (op_call (d := 18) H (by kernel_rfl) rfl (name_is c.name (by first | assumption | omega) H.sat) fun a v w q F => ?_)
              obtain ⟨rfl, X⟩ := q
              have H := St.mk F X
              refine st_run 3 1 0 [(2, .bool (nameIs c.name))] H (by kernel_rfl) fun a H => ?_
              refine ops_end _ ?_
              refine st_ret (vs := [.bool (nameIs c.name)]) H Tryd.func39 rfl (.tmp (by kernel_rfl) (.nil)) ?_
              have X := (H.sat.msk [false])
              have hX : Sat e w R (L) := by
                first | exact X | (skip; exact X) | (simp only [wholeP, hc1, hc2, hc3, hc4, hc5, hc6, List.length_nil, cond_true, cond_false, Bool.not_true, Bool.not_false, Bool.and_true, Bool.and_false, Bool.true_and, Bool.false_and] at X ⊢; exact X)
              exact ⟨by first | simp only [wholeP, hc1, hc2, hc3, hc4, hc5, hc6, List.length_nil, cond_true, cond_false, Bool.not_true, Bool.not_false, Bool.and_true, Bool.and_false, Bool.true_and, Bool.false_and] | rfl, hX⟩
            · intro hc6
              have hc6' := neB hc6
              refine WK.seq ?_
              refine st_text 2 rfl ?_
              refine st_run 0 2 0 [(19, .bool ((c.kind : Int) == 4)), (20, .bool ((c.kind : Int) == 4))] H (by kernel_rfl) fun a H => ?_
              refine ops_end _ ?_
              refine st_cond ((c.kind : Int) == 4) H (by kernel_rfl) ?_ ?_
              · intro hc7
                have hc7' := eq_of_beq hc7
                refine WK.seq ?_
                refine st_text 9 rfl ?_
                refine st_run 0 1 8 [(21, .pointer (some ⟨b1, 10, none⟩))] H (by kernel_rfl) fun a H => ?_
                refine st_op 1 7 (op_val (d := 22) (v := .int .u32 c.off) H (val_ld (k := 0) (t := 22) (off := 10) rfl (by kernel_rfl) rfl (by kernel_rfl)) fun a H => ?_)
                refine st_run 2 2 5 [(24, .bool (decide ((c.off : Int) ≤ 4096))), (23, .bool (decide ((c.off : Int) ≤ 4096)))] H (by kernel_rfl) fun a H => ?_
                rcases Bool.eq_false_or_eq_true (decide ((c.off : Int) ≤ 4096)) with hg1 | hg1
                · skip
                  have H := H.also (d := 24) (u := .bool (decide ((c.off : Int) ≤ 4096))) (v := .bool true) (by kernel_rfl) (congrArg Value.bool (hg1))
                  have hg1' := of_decide_eq_true hg1
                  refine st_run 4 1 4 [(25, .pointer (some ⟨b1, 11, none⟩))] H (by kernel_rfl) fun a H => ?_
                  refine st_op 5 3 (op_val (d := 26) (v := .int .u32 c.size) H (val_ld (k := 0) (t := 22) (off := 11) rfl (by kernel_rfl) rfl (by kernel_rfl)) fun a H => ?_)
                  refine st_run 6 3 0 [(2, .bool (decide ((c.size : Int) ≤ 64))), (28, .bool (decide ((c.size : Int) ≤ 64))), (27, .bool (decide ((c.size : Int) ≤ 64)))] H (by kernel_rfl) fun a H => ?_
                  refine ops_end _ ?_
                  refine st_ret (vs := [.bool (decide ((c.size : Int) ≤ 64))]) H Tryd.func39 rfl (.tmp (by kernel_rfl) (.nil)) ?_
                  have X := (H.sat.msk [false])
                  have hX : Sat e w R (L) := by
                    first | exact X | (skip; exact X) | (simp only [wholeP, hc1, hc2, hc3, hc4, hc5, hc6, hc7, hg1, List.length_nil, cond_true, cond_false, Bool.not_true, Bool.not_false, Bool.and_true, Bool.and_false, Bool.true_and, Bool.false_and] at X ⊢; exact X)
                  exact ⟨by first | simp only [wholeP, hc1, hc2, hc3, hc4, hc5, hc6, hc7, hg1, List.length_nil, cond_true, cond_false, Bool.not_true, Bool.not_false, Bool.and_true, Bool.and_false, Bool.true_and, Bool.false_and] | rfl, hX⟩
                · skip
                  have H := H.also (d := 24) (u := .bool (decide ((c.off : Int) ≤ 4096))) (v := .bool false) (by kernel_rfl) (congrArg Value.bool (hg1))
                  have hg1' := of_decide_eq_false hg1
                  refine st_run 4 5 0 [(2, .bool false), (28, .bool false), (27, undef), (26, undef), (25, undef)] H (by kernel_rfl) fun a H => ?_
                  refine ops_end _ ?_
                  refine st_ret (vs := [.bool false]) H Tryd.func39 rfl (.tmp (by kernel_rfl) (.nil)) ?_
                  have X := (H.sat.msk [false])
                  have hX : Sat e w R (L) := by
                    first | exact X | (skip; exact X) | (simp only [wholeP, hc1, hc2, hc3, hc4, hc5, hc6, hc7, hg1, List.length_nil, cond_true, cond_false, Bool.not_true, Bool.not_false, Bool.and_true, Bool.and_false, Bool.true_and, Bool.false_and] at X ⊢; exact X)
                  exact ⟨by first | simp only [wholeP, hc1, hc2, hc3, hc4, hc5, hc6, hc7, hg1, List.length_nil, cond_true, cond_false, Bool.not_true, Bool.not_false, Bool.and_true, Bool.and_false, Bool.true_and, Bool.false_and] | rfl, hX⟩
              · intro hc7
                have hc7' := neB hc7
                refine WK.seq ?_
                refine st_text 2 rfl ?_
                refine st_run 0 2 0 [(29, .bool ((c.kind : Int) == 5)), (30, .bool ((c.kind : Int) == 5))] H (by kernel_rfl) fun a H => ?_
                refine ops_end _ ?_
                refine st_cond ((c.kind : Int) == 5) H (by kernel_rfl) ?_ ?_
                · intro hc8
                  have hc8' := eq_of_beq hc8
                  refine WK.seq ?_
                  refine st_text 16 rfl ?_
                  refine st_run 0 1 15 [(31, .pointer (some ⟨b1, 10, none⟩))] H (by kernel_rfl) fun a H => ?_
                  refine st_op 1 14 (op_val (d := 32) (v := .int .u32 c.off) H (val_ld (k := 0) (t := 22) (off := 10) rfl (by kernel_rfl) rfl (by kernel_rfl)) fun a H => ?_)
                  refine st_run 2 2 12 [(34, .bool (decide ((c.off : Int) ≤ 4032))), (33, .bool (decide ((c.off : Int) ≤ 4032)))] H (by kernel_rfl) fun a H => ?_
                  rcases Bool.eq_false_or_eq_true (decide ((c.off : Int) ≤ 4032)) with hg2 | hg2
                  · skip
                    have H := H.also (d := 34) (u := .bool (decide ((c.off : Int) ≤ 4032))) (v := .bool true) (by kernel_rfl) (congrArg Value.bool (hg2))
                    have hg2' := of_decide_eq_true hg2
                    refine st_run 4 1 11 [(35, .pointer (some ⟨b1, 12, none⟩))] H (by kernel_rfl) fun a H => ?_
                    refine st_op 5 10 (op_val (d := 36) (v := .slice A c.data.length k) H (val_ld (k := 0) (t := 26) (off := 12) rfl (by kernel_rfl) rfl (by kernel_rfl)) fun a H => ?_)
                    refine st_run 6 4 6 [(40, .bool (decide ((((c.data.length : Nat) : Int) : Int) > 0))), (39, .bool (decide ((((c.data.length : Nat) : Int) : Int) > 0))), (38, .bool (decide ((((c.data.length : Nat) : Int) : Int) > 0))), (37, .int .i64 ((c.data.length : Nat) : Int))] H (by kernel_rfl) fun a H => ?_
                    rcases Bool.eq_false_or_eq_true (decide ((((c.data.length : Nat) : Int) : Int) > 0)) with hg3 | hg3
                    · skip
                      have H := H.also (d := 40) (u := .bool (decide ((((c.data.length : Nat) : Int) : Int) > 0))) (v := .bool true) (by kernel_rfl) (congrArg Value.bool (hg3))
                      have hg3' := of_decide_eq_true hg3
                      refine st_run 10 1 5 [(41, .pointer (some ⟨b1, 12, none⟩))] H (by kernel_rfl) fun a H => ?_
                      refine st_op 11 4 (op_val (d := 42) (v := .slice A c.data.length k) H (val_ld (k := 0) (t := 26) (off := 12) rfl (by kernel_rfl) rfl (by kernel_rfl)) fun a H => ?_)
                      refine st_run 12 4 0 [(2, .bool (decide ((((c.data.length : Nat) : Int) : Int) ≤ 64))), (45, .bool (decide ((((c.data.length : Nat) : Int) : Int) ≤ 64))), (44, .bool (decide ((((c.data.length : Nat) : Int) : Int) ≤ 64))), (43, .int .i64 ((c.data.length : Nat) : Int))] H (by kernel_rfl) fun a H => ?_
                      refine ops_end _ ?_
                      refine st_ret (vs := [.bool (decide ((((c.data.length : Nat) : Int) : Int) ≤ 64))]) H Tryd.func39 rfl (.tmp (by kernel_rfl) (.nil)) ?_
                      have X := (H.sat.msk [false])
                      have hX : Sat e w R (L) := by
                        first | exact X | (skip; exact X) | (simp only [wholeP, hc1, hc2, hc3, hc4, hc5, hc6, hc7, hc8, hg2, hg3, List.length_nil, cond_true, cond_false, Bool.not_true, Bool.not_false, Bool.and_true, Bool.and_false, Bool.true_and, Bool.false_and] at X ⊢; exact X)
                      exact ⟨by first | simp only [wholeP, hc1, hc2, hc3, hc4, hc5, hc6, hc7, hc8, hg2, hg3, List.length_nil, cond_true, cond_false, Bool.not_true, Bool.not_false, Bool.and_true, Bool.and_false, Bool.true_and, Bool.false_and] | rfl, hX⟩
                    · skip
                      have H := H.also (d := 40) (u := .bool (decide ((((c.data.length : Nat) : Int) : Int) > 0))) (v := .bool false) (by kernel_rfl) (congrArg Value.bool (hg3))
                      have hg3' := of_decide_eq_false hg3
                      refine st_run 10 6 0 [(2, .bool false), (45, .bool false), (44, undef), (43, undef), (42, undef), (41, undef)] H (by kernel_rfl) fun a H => ?_
                      refine ops_end _ ?_
                      refine st_ret (vs := [.bool false]) H Tryd.func39 rfl (.tmp (by kernel_rfl) (.nil)) ?_
                      have X := (H.sat.msk [false])
                      have hX : Sat e w R (L) := by
                        first | exact X | (skip; exact X) | (simp only [wholeP, hc1, hc2, hc3, hc4, hc5, hc6, hc7, hc8, hg2, hg3, List.length_nil, cond_true, cond_false, Bool.not_true, Bool.not_false, Bool.and_true, Bool.and_false, Bool.true_and, Bool.false_and] at X ⊢; exact X)
                      exact ⟨by first | simp only [wholeP, hc1, hc2, hc3, hc4, hc5, hc6, hc7, hc8, hg2, hg3, List.length_nil, cond_true, cond_false, Bool.not_true, Bool.not_false, Bool.and_true, Bool.and_false, Bool.true_and, Bool.false_and] | rfl, hX⟩
                  · skip
                    have H := H.also (d := 34) (u := .bool (decide ((c.off : Int) ≤ 4032))) (v := .bool false) (by kernel_rfl) (congrArg Value.bool (hg2))
                    have hg2' := of_decide_eq_false hg2
                    refine st_run 4 12 0 [(2, .bool false), (45, .bool false), (44, undef), (43, undef), (42, undef), (41, undef), (40, .bool false), (39, .bool false), (38, undef), (37, undef), (36, undef), (35, undef)] H (by kernel_rfl) fun a H => ?_
                    refine ops_end _ ?_
                    refine st_ret (vs := [.bool false]) H Tryd.func39 rfl (.tmp (by kernel_rfl) (.nil)) ?_
                    have X := (H.sat.msk [false])
                    have hX : Sat e w R (L) := by
                      first | exact X | (skip; exact X) | (simp only [wholeP, hc1, hc2, hc3, hc4, hc5, hc6, hc7, hc8, hg2, List.length_nil, cond_true, cond_false, Bool.not_true, Bool.not_false, Bool.and_true, Bool.and_false, Bool.true_and, Bool.false_and] at X ⊢; exact X)
                    exact ⟨by first | simp only [wholeP, hc1, hc2, hc3, hc4, hc5, hc6, hc7, hc8, hg2, List.length_nil, cond_true, cond_false, Bool.not_true, Bool.not_false, Bool.and_true, Bool.and_false, Bool.true_and, Bool.false_and] | rfl, hX⟩
                · intro hc8
                  have hc8' := neB hc8
                  refine WK.seq ?_
                  refine st_text 2 rfl ?_
                  refine st_run 0 2 0 [(46, .bool ((c.kind : Int) == 11)), (47, .bool ((c.kind : Int) == 11))] H (by kernel_rfl) fun a H => ?_
                  refine ops_end _ ?_
                  refine st_cond ((c.kind : Int) == 11) H (by kernel_rfl) ?_ ?_
                  · intro hc9
                    have hc9' := eq_of_beq hc9
                    refine WK.seq ?_
                    refine st_text 9 rfl ?_
                    refine st_run 0 1 8 [(48, .pointer (some ⟨b1, 6, none⟩))] H (by kernel_rfl) fun a H => ?_
                    refine st_op 1 7 (op_val (d := 49) (v := .string c.name) H (val_ld (k := 0) (t := 9) (off := 6) rfl (by kernel_rfl) rfl (by kernel_rfl)) fun a H => ?_)
                    refine st_op 2 6 (op_call (d := 50) H (by kernel_rfl) rfl (name_is c.name (by first | assumption | omega) H.sat) fun a v w q F => ?_)
                    obtain ⟨rfl, X⟩ := q
                    have H := St.mk F X
                    refine st_run 3 1 5 [(51, .bool (nameIs c.name))] H (by kernel_rfl) fun a H => ?_
                    rcases Bool.eq_false_or_eq_true (nameIs c.name) with hg4 | hg4
                    · skip
                      have H := H.also (d := 51) (u := .bool (nameIs c.name)) (v := .bool true) (by kernel_rfl) (congrArg Value.bool (hg4))
                      refine st_run 4 1 4 [(52, .pointer (some ⟨b1, 9, none⟩))] H (by kernel_rfl) fun a H => ?_
                      refine st_op 5 3 (op_val (d := 53) (v := .string c.toName) H (val_ld (k := 0) (t := 9) (off := 9) rfl (by kernel_rfl) rfl (by kernel_rfl)) fun a H => ?_)
                      refine st_op 6 2 (op_call (d := 54) H (by kernel_rfl) rfl (name_is c.toName (by first | assumption | omega) H.sat) fun a v w q F => ?_)
                      obtain ⟨rfl, X⟩ := q
                      have H := St.mk F X
                      refine st_run 7 2 0 [(2, .bool (nameIs c.toName)), (55, .bool (nameIs c.toName))] H (by kernel_rfl) fun a H => ?_
                      refine ops_end _ ?_
                      refine st_ret (vs := [.bool (nameIs c.toName)]) H Tryd.func39 rfl (.tmp (by kernel_rfl) (.nil)) ?_
                      have X := (H.sat.msk [false])
                      have hX : Sat e w R (L) := by
                        first | exact X | (skip; exact X) | (simp only [wholeP, hc1, hc2, hc3, hc4, hc5, hc6, hc7, hc8, hc9, hg4, List.length_nil, cond_true, cond_false, Bool.not_true, Bool.not_false, Bool.and_true, Bool.and_false, Bool.true_and, Bool.false_and] at X ⊢; exact X)
                      exact ⟨by first | simp only [wholeP, hc1, hc2, hc3, hc4, hc5, hc6, hc7, hc8, hc9, hg4, List.length_nil, cond_true, cond_false, Bool.not_true, Bool.not_false, Bool.and_true, Bool.and_false, Bool.true_and, Bool.false_and] | rfl, hX⟩
                    · skip
                      have H := H.also (d := 51) (u := .bool (nameIs c.name)) (v := .bool false) (by kernel_rfl) (congrArg Value.bool (hg4))
                      refine st_run 4 5 0 [(2, .bool false), (55, .bool false), (54, undef), (53, undef), (52, undef)] H (by kernel_rfl) fun a H => ?_
                      refine ops_end _ ?_
                      refine st_ret (vs := [.bool false]) H Tryd.func39 rfl (.tmp (by kernel_rfl) (.nil)) ?_
                      have X := (H.sat.msk [false])
                      have hX : Sat e w R (L) := by
                        first | exact X | (skip; exact X) | (simp only [wholeP, hc1, hc2, hc3, hc4, hc5, hc6, hc7, hc8, hc9, hg4, List.length_nil, cond_true, cond_false, Bool.not_true, Bool.not_false, Bool.and_true, Bool.and_false, Bool.true_and, Bool.false_and] at X ⊢; exact X)
                      exact ⟨by first | simp only [wholeP, hc1, hc2, hc3, hc4, hc5, hc6, hc7, hc8, hc9, hg4, List.length_nil, cond_true, cond_false, Bool.not_true, Bool.not_false, Bool.and_true, Bool.and_false, Bool.true_and, Bool.false_and] | rfl, hX⟩
                  · intro hc9
                    have hc9' := neB hc9
                    refine WK.skip ?_
                    refine WK.inBlock ?_
                    refine WK.seq ?_
                    refine st_text 1 rfl ?_
                    refine st_run 0 1 0 [(2, .bool true)] H (by kernel_rfl) fun a H => ?_
                    refine ops_end _ ?_
                    refine st_ret (vs := [.bool true]) H Tryd.func39 rfl (.tmp (by kernel_rfl) (.nil)) ?_
                    have X := (H.sat.msk [false])
                    have hX : Sat e w R (L) := by
                      first | exact X | (skip; exact X) | (simp only [wholeP, hc1, hc2, hc3, hc4, hc5, hc6, hc7, hc8, hc9, List.length_nil, cond_true, cond_false, Bool.not_true, Bool.not_false, Bool.and_true, Bool.and_false, Bool.true_and, Bool.false_and] at X ⊢; exact X)
                    exact ⟨by first | simp only [wholeP, hc1, hc2, hc3, hc4, hc5, hc6, hc7, hc8, hc9, List.length_nil, cond_true, cond_false, Bool.not_true, Bool.not_false, Bool.and_true, Bool.and_false, Bool.true_and, Bool.false_and] | rfl, hX⟩

/-- wharfage/call.bare -/
theorem call_bare {e w : World} {R : Hp} {L : List HP} (c : CallS) (A : Option Addr) (k : Nat) (wf : c.Wf) (hd : RdB R A k c.data) (hn : c.kind = 3 ∨ c.kind = 7 ∨ c.kind = 8 ∨ c.kind = 9 ∨ c.kind = 10 ∨ c.kind = 11 → c.name.size ≤ 1000000) (hn2 : c.kind = 11 → c.toName.size ≤ 1000000) (hy : c.kind = 5 → c.data.length ≤ 1000000) (X : Sat e w R (L)) :
    Calls Tryd.prog 40 #[.agg #[.int .u8 c.client, .int .u32 c.inc, .int .u64 c.seq, .int .u8 c.kind, .int .u32 c.ino, .int .u32 c.gen, .string c.name, .int .u32 c.toIno, .int .u32 c.toGen, .string c.toName, .int .u32 c.off, .int .u32 c.size, .slice A c.data.length k]] w (Ret fun v w' => ∃ A1 : Option Addr, ∃ c1 : Nat, v = .tuple #[.slice A1 ((bareB c).length) c1, .bool (hasKind c)] ∧ Sat e w' R (bytesO 5 A1 c1 (bareB c) :: L)) := by
  have wf' := wf
  obtain ⟨w1, w2, w3, w4, w5, w6, w7, w8, w9, w10⟩ := wf
  refine enter (n := 33) (args := [.agg #[.int .u8 c.client, .int .u32 c.inc, .int .u64 c.seq, .int .u8 c.kind, .int .u32 c.ino, .int .u32 c.gen, .string c.name, .int .u32 c.toIno, .int .u32 c.toGen, .string c.toName, .int .u32 c.off, .int .u32 c.size, .slice A c.data.length k]]) Tryd.func40 rfl rfl rfl X (fun a H => ?_)
  refine WK.seq ?_
  refine st_text 3 rfl ?_
  refine st_op 0 2 (op_new (d := 1) (vf := fun b => .pointer (some ⟨b, 0, none⟩)) (ob := .cells #[.int .u8 c.client, .int .u32 c.inc, .int .u64 c.seq, .int .u8 c.kind, .int .u32 c.ino, .int .u32 c.gen, .string c.name, .int .u32 c.toIno, .int .u32 c.toGen, .string c.toName, .int .u32 c.off, .int .u32 c.size, .slice A c.data.length k] 28) H (IsNew.of_run rfl fun w => (by kernel_rfl)) fun a w b1 H => ?_)
  refine st_run 1 2 0 [(3, .bool false), (2, .slice none 0 0)] H (by kernel_rfl) fun a H => ?_
  refine ops_end _ ?_
  refine WK.seq ?_
  refine st_text 3 rfl ?_
  refine st_run 0 1 2 [(6, .agg #[.slice none 0 0])] H (by kernel_rfl) fun a H => ?_
  refine st_op 1 1 (op_new (d := 7) (vf := fun b => .pointer (some ⟨b, 0, none⟩)) (ob := .cells #[.slice none 0 0] 173) H (IsNew.of_run rfl fun w => (by kernel_rfl)) fun a w b2 H => ?_)
  refine st_run 2 1 0 [(4, .pointer (some ⟨b2, 0, none⟩))] H (by kernel_rfl) fun a H => ?_
  refine ops_end _ ?_
  refine WK.seq ?_
  refine st_text 5 rfl ?_
  refine st_run 0 2 3 [(9, .pointer (some ⟨b1, 0, none⟩)), (8, .pointer (some ⟨b2, 0, none⟩))] H (by kernel_rfl) fun a H => ?_
  refine st_op 2 2 (op_val (d := 10) (v := .int .u8 c.client) H (val_ld (k := 1) (t := 5) (off := 0) rfl (by kernel_rfl) rfl (by kernel_rfl)) fun a H => ?_)
  refine st_run 3 1 1 [(11, .int .u32 (IntKind.u32.wrap (c.client)))] H (by kernel_rfl) fun a H => ?_
  have H := H.turn (d := 11) (u := .int .u32 (IntKind.u32.wrap (c.client))) (v := .int .u32 c.client) (wU32 (by omega) (by omega))
  have H := H.with (wrR_nil (H.sat))
  refine st_op 4 0 (op_call (d := 12) H (by kernel_rfl) rfl (wr_number b2 ([]) c.client (by first | assumption | omega) (by first | assumption | omega) (by first | assumption | omega | (simp only [List.length_append, be_length, List.length_replicate, List.length_nil, List.length_cons]; omega)) H.sat) fun a v w q F => ?_)
  have X := q
  have H := St.mk F X
  refine ops_end _ ?_
  refine WK.seq ?_
  refine st_text 4 rfl ?_
  refine st_run 0 2 2 [(14, .pointer (some ⟨b1, 1, none⟩)), (13, .pointer (some ⟨b2, 0, none⟩))] H (by kernel_rfl) fun a H => ?_
  refine st_op 2 1 (op_val (d := 15) (v := .int .u32 c.inc) H (val_ld (k := 1) (t := 22) (off := 1) rfl (by kernel_rfl) rfl (by kernel_rfl)) fun a H => ?_)
  refine st_op 3 0 (op_call (d := 16) H (by kernel_rfl) rfl (wr_number b2 (([]) ++ be 4 c.client.toNat) c.inc (by first | assumption | omega) (by first | assumption | omega) (by first | assumption | omega | (simp only [List.length_append, be_length, List.length_replicate, List.length_nil, List.length_cons]; omega)) H.sat) fun a v w q F => ?_)
  have X := q
  have H := St.mk F X
  refine ops_end _ ?_
  refine WK.seq ?_
  refine st_text 4 rfl ?_
  refine st_run 0 2 2 [(18, .pointer (some ⟨b1, 2, none⟩)), (17, .pointer (some ⟨b2, 0, none⟩))] H (by kernel_rfl) fun a H => ?_
  refine st_op 2 1 (op_val (d := 19) (v := .int .u64 c.seq) H (val_ld (k := 1) (t := 23) (off := 2) rfl (by kernel_rfl) rfl (by kernel_rfl)) fun a H => ?_)
  refine st_op 3 0 (op_call (d := 20) H (by kernel_rfl) rfl (wr_great b2 ((([]) ++ be 4 c.client.toNat) ++ be 4 c.inc.toNat) c.seq (by first | assumption | omega) (by first | assumption | omega) (by first | assumption | omega | (simp only [List.length_append, be_length, List.length_replicate, List.length_nil, List.length_cons]; omega)) H.sat) fun a v w q F => ?_)
  have X := q
  have H := St.mk F X
  refine ops_end _ ?_
  refine WK.seq ?_
  refine st_text 5 rfl ?_
  refine st_run 0 2 3 [(22, .pointer (some ⟨b1, 3, none⟩)), (21, .pointer (some ⟨b2, 0, none⟩))] H (by kernel_rfl) fun a H => ?_
  refine st_op 2 2 (op_val (d := 23) (v := .int .u8 c.kind) H (val_ld (k := 1) (t := 5) (off := 3) rfl (by kernel_rfl) rfl (by kernel_rfl)) fun a H => ?_)
  refine st_run 3 1 1 [(24, .int .u32 (IntKind.u32.wrap (c.kind)))] H (by kernel_rfl) fun a H => ?_
  have H := H.turn (d := 24) (u := .int .u32 (IntKind.u32.wrap (c.kind))) (v := .int .u32 c.kind) (wU32 (by omega) (by omega))
  refine st_op 4 0 (op_call (d := 25) H (by kernel_rfl) rfl (wr_number b2 (((([]) ++ be 4 c.client.toNat) ++ be 4 c.inc.toNat) ++ be 8 c.seq.toNat) c.kind (by first | assumption | omega) (by first | assumption | omega) (by first | assumption | omega | (simp only [List.length_append, be_length, List.length_replicate, List.length_nil, List.length_cons]; omega)) H.sat) fun a v w q F => ?_)
  have X := q
  have H := St.mk F X
  refine ops_end _ ?_
  refine WK.seq ?_
  refine st_text 5 rfl ?_
  refine st_run 0 3 2 [(28, .iface 178 (.agg #[.pointer (some ⟨b2, 0, none⟩)])), (27, .agg #[.pointer (some ⟨b2, 0, none⟩)]), (26, .pointer (some ⟨b2, 0, none⟩))] H (by kernel_rfl) fun a H => ?_
  refine st_op 3 1 (op_call (d := 29) H (by kernel_rfl) rfl (out_fields b2 ((((([]) ++ be 4 c.client.toNat) ++ be 4 c.inc.toNat) ++ be 8 c.seq.toNat) ++ be 4 c.kind.toNat) b1 c A k (by exact wf') (by first | assumption | omega) (by first | assumption | omega) (by first | assumption | omega) (by first | assumption | omega) (by first | assumption | omega | (simp only [List.length_append, be_length, List.length_nil]; omega) | (have hl1 := laid_length (txt c.name); have hl2 : (txt c.name).length = c.name.size := Array.length_toList (xs := c.name.data); simp only [List.length_append, be_length, List.length_nil]; omega)) ((H.sat.front 1 rfl).front 1 rfl)) fun a v w q F => ?_)
  obtain ⟨rfl, X⟩ := q
  have H := St.mk F X
  refine st_run 4 1 0 [(5, .bool (hasKind c))] H (by kernel_rfl) fun a H => ?_
  refine ops_end _ ?_
  refine WK.seq ?_
  refine st_text 5 rfl ?_
  refine st_run 0 1 4 [(30, .pointer (some ⟨b2, 0, none⟩))] H (by kernel_rfl) fun a H => ?_
  refine st_op 1 3 (op_call (d := 31) H (by kernel_rfl) rfl (wr_bare b2 (((((([]) ++ be 4 c.client.toNat) ++ be 4 c.inc.toNat) ++ be 8 c.seq.toNat) ++ be 4 c.kind.toNat) ++ fieldsB c) (by first | assumption | (have hfl := fieldsB_length c (fun h => by have := hn h; omega) (fun h => by have := hn2 h; omega) (fun h => by have := hy h; omega); simp only [List.length_append, be_length, List.length_nil]; omega)) H.sat) fun a v w q F => ?_)
  obtain ⟨X_1, x_1, rfl, X⟩ := q
  have H := St.mk F X
  refine st_run 2 3 0 [(3, .bool (hasKind c)), (2, .slice X_1 ((((((([]) ++ be 4 c.client.toNat) ++ be 4 c.inc.toNat) ++ be 8 c.seq.toNat) ++ be 4 c.kind.toNat) ++ fieldsB c).length) x_1), (32, .bool (hasKind c))] H (by kernel_rfl) fun a H => ?_
  refine ops_end _ ?_
  refine st_ret (vs := [.slice X_1 ((((((([]) ++ be 4 c.client.toNat) ++ be 4 c.inc.toNat) ++ be 8 c.seq.toNat) ++ be 4 c.kind.toNat) ++ fieldsB c).length) x_1, .bool (hasKind c)]) H Tryd.func40 rfl (.tmp (by kernel_rfl) (.tmp (by kernel_rfl) (.nil))) ?_
  have X : Sat e w R (bytesO 5 X_1 x_1 (((((([]) ++ be 4 c.client.toNat) ++ be 4 c.inc.toNat) ++ be 8 c.seq.toNat) ++ be 4 c.kind.toNat) ++ fieldsB c) :: L) := (H.sat.msk [true, false])
  have X : Sat e w R (bytesO 5 X_1 x_1 (bareB c) :: L) := by simpa only [bareB, List.nil_append] using X
  exact ⟨_, _, (by simp only [bareB, List.nil_append]), X⟩
end Go.Proofs.YtldnpolfcickaaaDoor
