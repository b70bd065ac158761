/- Numbers as bytes. -/
import Derived.Test.YtldnpolfcickaaaDoorRpc3
import Derived.Test.YtldnpolfcickaaaDoorPBack
set_option linter.unusedVariables false
set_option linter.unusedSimpArgs false
set_option maxRecDepth 100000
set_option maxHeartbeats 1000000
namespace Go.Proofs.YtldnpolfcickaaaDoor
open Go Go.WH

/-- (*wharfage/xdr.Reader).Truth -/
theorem rd_truth {e w : World} {R : Hp} {L : List HP} (b : Nat) (r : Rdr) (X : Sat e w R (rdrR R b r :: L)) :
    Calls Tryd.prog 120 #[.pointer (some ⟨b, 0, none⟩)] w (Ret fun v w' => ∃ m1 : Int, ∃ r1 : Rdr, (r.num 4 = (m1, r1)) ∧ (0 ≤ m1 ∧ m1 ≤ 4294967295) ∧ v = .bool ((m1 : Int) == 1) ∧ Sat e w' R (rdrR R b (r1.fail (decide ((m1 : Int) > 1)) 5) :: L)) := by
  refine enter (n := 12) (args := [.pointer (some ⟨b, 0, none⟩)]) Tryd.func120 rfl rfl rfl X (fun a H => ?_)
  refine WK.seq ?_
  refine st_text 1 rfl ?_
  refine st_run 0 1 0 [(2, .bool false)] H (by kernel_rfl) fun a H => ?_
  refine ops_end _ ?_
  refine WK.seq ?_
  refine st_text 3 rfl ?_
  refine st_run 0 1 2 [(4, .pointer (some ⟨b, 0, none⟩))] H (by kernel_rfl) fun a H => ?_
  refine st_op 1 1 (op_call (d := 5) H (by kernel_rfl) rfl (rd_number b r H.sat) fun a v w q F => ?_)
  obtain ⟨x_1, x_2, hf1, hf2, rfl, X⟩ := q
  have H := St.mk F X
  refine st_run 2 1 0 [(3, .int .u32 x_1)] H (by kernel_rfl) fun a H => ?_
  refine ops_end _ ?_
  refine WK.seq ?_
  refine st_text 4 rfl ?_
  refine st_run 0 3 1 [(8, .bool (decide ((x_1 : Int) > 1))), (7, .int .u32 x_1), (6, .pointer (some ⟨b, 0, none⟩))] H (by kernel_rfl) fun a H => ?_
  refine st_op 3 0 (op_call (d := 9) H (by kernel_rfl) rfl (rd_fail b x_2 (decide ((x_1 : Int) > 1)) 5 H.sat) fun a v w q F => ?_)
  have X := q
  have H := St.mk F X
  refine ops_end _ ?_
  refine WK.seq ?_
  refine st_text 3 rfl ?_
  refine st_run 0 3 0 [(2, .bool ((x_1 : Int) == 1)), (11, .bool ((x_1 : Int) == 1)), (10, .int .u32 x_1)] H (by kernel_rfl) fun a H => ?_
  refine ops_end _ ?_
  refine st_ret (vs := [.bool ((x_1 : Int) == 1)]) H Tryd.func120 rfl (.tmp (by kernel_rfl) (.nil)) ?_
  have X := H.sat
  exact ⟨_, _, by assumption, by assumption, rfl, X⟩

/-- wharfage/back.small -/
theorem back_small {e w : World} {R : Hp} {L : List HP} (n : Int) (h0 : 0 ≤ n) (X : Sat e w R (L)) :
    Calls Tryd.prog 118 #[.int .u32 n] w (Ret fun v w' => v = .int .u8 (min n 255) ∧ Sat e w' R (L)) := by
  refine enter (n := 6) (args := [.int .u32 n]) Tryd.func118 rfl rfl rfl X (fun a H => ?_)
  refine WK.seq ?_
  refine st_text 1 rfl ?_
  refine st_run 0 1 0 [(2, .int .u8 0)] H (by kernel_rfl) fun a H => ?_
  refine ops_end _ ?_
  refine WK.seq ?_
  refine st_text 4 rfl ?_
  refine st_run 0 2 2 [(4, .int .u32 (if 255 < n then 255 else n)), (3, .int .u32 n)] H (by kernel_rfl) fun a H => ?_
  have H := H.turn (d := 4) (u := .int .u32 (if 255 < n then 255 else n)) (v := .int .u32 (min n 255)) (min_val _ _ _)
  refine st_run 2 1 1 [(5, .int .u8 (IntKind.u8.wrap (min n 255)))] H (by kernel_rfl) fun a H => ?_
  have H := H.turn (d := 5) (u := .int .u8 (IntKind.u8.wrap (min n 255))) (v := .int .u8 (min n 255)) (wU8 (by omega) (by omega))
  refine st_run 3 1 0 [(2, .int .u8 (min n 255))] H (by kernel_rfl) fun a H => ?_
  refine ops_end _ ?_
  refine st_ret (vs := [.int .u8 (min n 255)]) H Tryd.func118 rfl (.tmp (by kernel_rfl) (.nil)) ?_
  have X := H.sat
  exact ⟨rfl, X⟩

/-- wharfage/back.May -/
theorem back_may {e w : World} {R : Hp} {L : List HP} (b : BackS) (A : Option Addr) (k : Nat) (N : Option Addr) (kn : Nat) (hn : RdS R N kn b.names) (hT : Tabs 0 1 R) (X : Sat e w R (L)) :
    Calls Tryd.prog 122 #[.agg #[.int .u8 b.client, .int .u32 b.inc, .int .u64 b.seq, .int .u8 b.status, .int .u32 b.ino, .int .u32 b.gen, .bool b.dir, .int .u32 b.size, .int .u64 b.change, .int .u64 b.before, .slice A b.data.length k, .slice N b.names.length kn, .int .u32 b.boot]] w (Ret fun v w' => v = .bool (mayB b) ∧ Sat e w' R (L)) := by
  refine enter (n := 49) (args := [.agg #[.int .u8 b.client, .int .u32 b.inc, .int .u64 b.seq, .int .u8 b.status, .int .u32 b.ino, .int .u32 b.gen, .bool b.dir, .int .u32 b.size, .int .u64 b.change, .int .u64 b.before, .slice A b.data.length k, .slice N b.names.length kn, .int .u32 b.boot]]) Tryd.func122 rfl rfl rfl X (fun a H => ?_)
  refine WK.seq ?_
  refine st_text 2 rfl ?_
  refine st_op 0 1 (op_new (d := 1) (vf := fun b => .pointer (some ⟨b, 0, none⟩)) (ob := .cells #[.int .u8 b.client, .int .u32 b.inc, .int .u64 b.seq, .int .u8 b.status, .int .u32 b.ino, .int .u32 b.gen, .bool b.dir, .int .u32 b.size, .int .u64 b.change, .int .u64 b.before, .slice A b.data.length k, .slice N b.names.length kn, .int .u32 b.boot] 61) H (IsNew.of_run rfl fun w => (by kernel_rfl)) fun a w b1 H => ?_)
  refine st_run 1 1 0 [(2, .bool false)] H (by kernel_rfl) fun a H => ?_
  refine ops_end _ ?_
  refine WK.seq ?_
  refine WK.block ?_
  refine WK.seq ?_
  refine WK.seq ?_
  refine st_text 4 rfl ?_
  refine st_run 0 1 3 [(7, .pointer (some ⟨b1, 0, none⟩))] H (by kernel_rfl) fun a H => ?_
  refine st_op 1 2 (op_val (d := 8) (v := .int .u8 b.client) H (val_ld (k := 0) (t := 5) (off := 0) rfl (by kernel_rfl) rfl (by kernel_rfl)) fun a H => ?_)
  refine st_run 2 2 0 [(6, .bool (decide ((b.client : Int) ≥ 4))), (9, .bool (decide ((b.client : Int) ≥ 4)))] H (by kernel_rfl) fun a H => ?_
  refine ops_end _ ?_
  refine st_cond (decide ((b.client : Int) ≥ 4)) H (by kernel_rfl) ?_ ?_
  · intro hc1
    have hc1' := of_decide_eq_true hc1
    refine WK.skip ?_
    have H := H.also (d := 6) (u := .bool (decide ((b.client : Int) ≥ 4))) (v := .bool true) (by kernel_rfl) (congrArg Value.bool (hc1))
    refine st_true H (by kernel_rfl) ?_
    refine WK.seq ?_
    refine st_text 1 rfl ?_
    refine st_run 0 1 0 [(2, .bool false)] H (by kernel_rfl) fun a H => ?_
    refine ops_end _ ?_
    refine st_ret (vs := [.bool false]) H Tryd.func122 rfl (.tmp (by kernel_rfl) (.nil)) ?_
    have X := (H.sat.msk [false])
    have hX : Sat e w R (L) := by
      first | exact X | (skip; exact X) | (simp only [mayB, hc1, List.length_nil, cond_true, cond_false, Bool.not_true, Bool.not_false, Bool.and_true, Bool.and_false, Bool.true_and, Bool.false_and] at X ⊢; exact X)
    exact ⟨by first | simp only [mayB, hc1, List.length_nil, cond_true, cond_false, Bool.not_true, Bool.not_false, Bool.and_true, Bool.and_false, Bool.true_and, Bool.false_and] | rfl, hX⟩
  · intro hc1
    have hc1' := of_decide_eq_false hc1
    refine WK.seq ?_
    refine st_text 4 rfl ?_
    refine st_run 0 1 3 [(10, .pointer (some ⟨b1, 1, none⟩))] H (by kernel_rfl) fun a H => ?_
    refine st_op 1 2 (op_val (d := 11) (v := .int .u32 b.inc) H (val_ld (k := 0) (t := 22) (off := 1) rfl (by kernel_rfl) rfl (by kernel_rfl)) fun a H => ?_)
    refine st_run 2 2 0 [(6, .bool ((b.inc : Int) == 0)), (12, .bool ((b.inc : Int) == 0))] H (by kernel_rfl) fun a H => ?_
    refine ops_end _ ?_
    refine st_cond ((b.inc : Int) == 0) H (by kernel_rfl) ?_ ?_
    · intro hc2
      have hc2' := eq_of_beq hc2
      refine WK.skip ?_
      have H := H.also (d := 6) (u := .bool ((b.inc : Int) == 0)) (v := .bool true) (by kernel_rfl) (congrArg Value.bool (hc2))
      refine st_true H (by kernel_rfl) ?_
      refine WK.seq ?_
      refine st_text 1 rfl ?_
      refine st_run 0 1 0 [(2, .bool false)] H (by kernel_rfl) fun a H => ?_
      refine ops_end _ ?_
      refine st_ret (vs := [.bool false]) H Tryd.func122 rfl (.tmp (by kernel_rfl) (.nil)) ?_
      have X := (H.sat.msk [false])
      have hX : Sat e w R (L) := by
        first | exact X | (skip; exact X) | (simp only [mayB, hc1, hc2, List.length_nil, cond_true, cond_false, Bool.not_true, Bool.not_false, Bool.and_true, Bool.and_false, Bool.true_and, Bool.false_and] at X ⊢; exact X)
      exact ⟨by first | simp only [mayB, hc1, hc2, List.length_nil, cond_true, cond_false, Bool.not_true, Bool.not_false, Bool.and_true, Bool.and_false, Bool.true_and, Bool.false_and] | rfl, hX⟩
    · intro hc2
      have hc2' := neB hc2
      refine WK.seq ?_
      refine st_text 4 rfl ?_
      refine st_run 0 1 3 [(13, .pointer (some ⟨b1, 2, none⟩))] H (by kernel_rfl) fun a H => ?_
      refine st_op 1 2 (op_val (d := 14) (v := .int .u64 b.seq) H (val_ld (k := 0) (t := 23) (off := 2) rfl (by kernel_rfl) rfl (by kernel_rfl)) fun a H => ?_)
      refine st_run 2 2 0 [(6, .bool ((b.seq : Int) == 0)), (15, .bool ((b.seq : Int) == 0))] H (by kernel_rfl) fun a H => ?_
      refine ops_end _ ?_
      refine st_cond ((b.seq : Int) == 0) H (by kernel_rfl) ?_ ?_
      · intro hc3
        have hc3' := eq_of_beq hc3
        refine WK.skip ?_
        have H := H.also (d := 6) (u := .bool ((b.seq : Int) == 0)) (v := .bool true) (by kernel_rfl) (congrArg Value.bool (hc3))
        refine st_true H (by kernel_rfl) ?_
        refine WK.seq ?_
        refine st_text 1 rfl ?_
        refine st_run 0 1 0 [(2, .bool false)] H (by kernel_rfl) fun a H => ?_
        refine ops_end _ ?_
        refine st_ret (vs := [.bool false]) H Tryd.func122 rfl (.tmp (by kernel_rfl) (.nil)) ?_
        have X := (H.sat.msk [false])
        have hX : Sat e w R (L) := by
          first | exact X | (skip; exact X) | (simp only [mayB, hc1, hc2, hc3, List.length_nil, cond_true, cond_false, Bool.not_true, Bool.not_false, Bool.and_true, Bool.and_false, Bool.true_and, Bool.false_and] at X ⊢; exact X)
        exact ⟨by first | simp only [mayB, hc1, hc2, hc3, List.length_nil, cond_true, cond_false, Bool.not_true, Bool.not_false, Bool.and_true, Bool.and_false, Bool.true_and, Bool.false_and] | rfl, hX⟩
      · intro hc3
        have hc3' := neB hc3
        refine st_text 4 rfl ?_
        refine st_run 0 1 3 [(16, .pointer (some ⟨b1, 3, none⟩))] H (by kernel_rfl) fun a H => ?_
        refine st_op 1 2 (op_val (d := 17) (v := .int .u8 b.status) H (val_ld (k := 0) (t := 5) (off := 3) rfl (by kernel_rfl) rfl (by kernel_rfl)) fun a H => ?_)
        refine st_run 2 2 0 [(6, .bool (decide ((b.status : Int) > 9))), (18, .bool (decide ((b.status : Int) > 9)))] H (by kernel_rfl) fun a H => ?_
        refine ops_end _ ?_
        refine st_cond (decide ((b.status : Int) > 9)) H (by kernel_rfl) ?_ ?_
        · intro hc4
          have hc4' := of_decide_eq_true hc4
          refine WK.seq ?_
          refine st_text 1 rfl ?_
          refine st_run 0 1 0 [(2, .bool false)] H (by kernel_rfl) fun a H => ?_
          refine ops_end _ ?_
          refine st_ret (vs := [.bool false]) H Tryd.func122 rfl (.tmp (by kernel_rfl) (.nil)) ?_
          have X := (H.sat.msk [false])
          have hX : Sat e w R (L) := by
            first | exact X | (skip; exact X) | (simp only [mayB, hc1, hc2, hc3, hc4, List.length_nil, cond_true, cond_false, Bool.not_true, Bool.not_false, Bool.and_true, Bool.and_false, Bool.true_and, Bool.false_and] at X ⊢; exact X)
          exact ⟨by first | simp only [mayB, hc1, hc2, hc3, hc4, List.length_nil, cond_true, cond_false, Bool.not_true, Bool.not_false, Bool.and_true, Bool.and_false, Bool.true_and, Bool.false_and] | rfl, hX⟩
        · intro hc4
          have hc4' := of_decide_eq_false hc4
          refine WK.seq ?_
          refine WK.seq ?_
          refine st_text 5 rfl ?_
          refine st_run 0 2 3 [(21, .pointer (some ⟨b1, 7, none⟩)), (20, .pointer (some ⟨b1, 4, none⟩))] H (by kernel_rfl) fun a H => ?_
          refine st_op 2 2 (op_val (d := 22) (v := .int .u32 b.size) H (val_ld (k := 0) (t := 22) (off := 7) rfl (by kernel_rfl) rfl (by kernel_rfl)) fun a H => ?_)
          refine st_run 3 2 0 [(19, .bool (decide ((b.size : Int) > 4096))), (23, .bool (decide ((b.size : Int) > 4096)))] H (by kernel_rfl) fun a H => ?_
          refine ops_end _ ?_
          refine st_cond (decide ((b.size : Int) > 4096)) H (by kernel_rfl) ?_ ?_
          · intro hc5
            have hc5' := of_decide_eq_true hc5
            refine WK.skip ?_
            have H := H.also (d := 19) (u := .bool (decide ((b.size : Int) > 4096))) (v := .bool true) (by kernel_rfl) (congrArg Value.bool (hc5))
            refine st_true H (by kernel_rfl) ?_
            refine WK.seq ?_
            refine st_text 1 rfl ?_
            refine st_run 0 1 0 [(2, .bool false)] H (by kernel_rfl) fun a H => ?_
            refine ops_end _ ?_
            refine st_ret (vs := [.bool false]) H Tryd.func122 rfl (.tmp (by kernel_rfl) (.nil)) ?_
            have X := (H.sat.msk [false])
            have hX : Sat e w R (L) := by
              first | exact X | (skip; exact X) | (simp only [mayB, hc1, hc2, hc3, hc4, hc5, List.length_nil, cond_true, cond_false, Bool.not_true, Bool.not_false, Bool.and_true, Bool.and_false, Bool.true_and, Bool.false_and] at X ⊢; exact X)
            exact ⟨by first | simp only [mayB, hc1, hc2, hc3, hc4, hc5, List.length_nil, cond_true, cond_false, Bool.not_true, Bool.not_false, Bool.and_true, Bool.and_false, Bool.true_and, Bool.false_and] | rfl, hX⟩
          · intro hc5
            have hc5' := of_decide_eq_false hc5
            refine WK.seq ?_
            refine st_text 5 rfl ?_
            refine st_run 0 1 4 [(24, .pointer (some ⟨b1, 10, none⟩))] H (by kernel_rfl) fun a H => ?_
            refine st_op 1 3 (op_val (d := 25) (v := .slice A b.data.length k) H (val_ld (k := 0) (t := 26) (off := 10) rfl (by kernel_rfl) rfl (by kernel_rfl)) fun a H => ?_)
            refine st_run 2 3 0 [(19, .bool (decide ((((b.data.length : Nat) : Int) : Int) > 64))), (27, .bool (decide ((((b.data.length : Nat) : Int) : Int) > 64))), (26, .int .i64 ((b.data.length : Nat) : Int))] H (by kernel_rfl) fun a H => ?_
            refine ops_end _ ?_
            refine st_cond (decide ((((b.data.length : Nat) : Int) : Int) > 64)) H (by kernel_rfl) ?_ ?_
            · intro hc6
              have hc6' := of_decide_eq_true hc6
              refine WK.skip ?_
              have H := H.also (d := 19) (u := .bool (decide ((((b.data.length : Nat) : Int) : Int) > 64))) (v := .bool true) (by kernel_rfl) (congrArg Value.bool (hc6))
              refine st_true H (by kernel_rfl) ?_
              refine WK.seq ?_
              refine st_text 1 rfl ?_
              refine st_run 0 1 0 [(2, .bool false)] H (by kernel_rfl) fun a H => ?_
              refine ops_end _ ?_
              refine st_ret (vs := [.bool false]) H Tryd.func122 rfl (.tmp (by kernel_rfl) (.nil)) ?_
              have X := (H.sat.msk [false])
              have hX : Sat e w R (L) := by
                first | exact X | (skip; exact X) | (simp only [mayB, hc1, hc2, hc3, hc4, hc5, hc6, List.length_nil, cond_true, cond_false, Bool.not_true, Bool.not_false, Bool.and_true, Bool.and_false, Bool.true_and, Bool.false_and] at X ⊢; exact X)
              exact ⟨by first | simp only [mayB, hc1, hc2, hc3, hc4, hc5, hc6, List.length_nil, cond_true, cond_false, Bool.not_true, Bool.not_false, Bool.and_true, Bool.and_false, Bool.true_and, Bool.false_and] | rfl, hX⟩
            · intro hc6
              have hc6' := of_decide_eq_false hc6
              refine st_text 5 rfl ?_
              refine st_run 0 1 4 [(28, .pointer (some ⟨b1, 11, none⟩))] H (by kernel_rfl) fun a H => ?_
              refine st_op 1 3 (op_val (d := 29) (v := .slice N b.names.length kn) H (val_ld (k := 0) (t := 59) (off := 11) rfl (by kernel_rfl) rfl (by kernel_rfl)) fun a H => ?_)
              refine st_run 2 3 0 [(19, .bool (decide ((((b.names.length : Nat) : Int) : Int) > 32))), (31, .bool (decide ((((b.names.length : Nat) : Int) : Int) > 32))), (30, .int .i64 ((b.names.length : Nat) : Int))] H (by kernel_rfl) fun a H => ?_
              refine ops_end _ ?_
              refine st_cond (decide ((((b.names.length : Nat) : Int) : Int) > 32)) H (by kernel_rfl) ?_ ?_
              · intro hc7
                have hc7' := of_decide_eq_true hc7
                refine WK.seq ?_
                refine st_text 1 rfl ?_
                refine st_run 0 1 0 [(2, .bool false)] H (by kernel_rfl) fun a H => ?_
                refine ops_end _ ?_
                refine st_ret (vs := [.bool false]) H Tryd.func122 rfl (.tmp (by kernel_rfl) (.nil)) ?_
                have X := (H.sat.msk [false])
                have hX : Sat e w R (L) := by
                  first | exact X | (skip; exact X) | (simp only [mayB, hc1, hc2, hc3, hc4, hc5, hc6, hc7, List.length_nil, cond_true, cond_false, Bool.not_true, Bool.not_false, Bool.and_true, Bool.and_false, Bool.true_and, Bool.false_and] at X ⊢; exact X)
                exact ⟨by first | simp only [mayB, hc1, hc2, hc3, hc4, hc5, hc6, hc7, List.length_nil, cond_true, cond_false, Bool.not_true, Bool.not_false, Bool.and_true, Bool.and_false, Bool.true_and, Bool.false_and] | rfl, hX⟩
              · intro hc7
                have hc7' := of_decide_eq_false hc7
                refine WK.skip ?_
                refine WK.inBlock ?_
                refine WK.seq ?_
                refine st_text 1 rfl ?_
                refine st_run 0 1 0 [(3, .string (⟨#[]⟩ : ByteArray))] H (by kernel_rfl) fun a H => ?_
                refine ops_end _ ?_
                refine WK.seq ?_
                refine WK.seq ?_
                refine st_text 4 rfl ?_
                refine st_run 0 1 3 [(32, .pointer (some ⟨b1, 11, none⟩))] H (by kernel_rfl) fun a H => ?_
                refine st_op 1 2 (op_val (d := 33) (v := .slice N b.names.length kn) H (val_ld (k := 0) (t := 59) (off := 11) rfl (by kernel_rfl) rfl (by kernel_rfl)) fun a H => ?_)
                refine st_run 2 2 0 [(35, .int .i64 0), (34, .int .i64 ((b.names.length : Nat) : Int))] H (by kernel_rfl) fun a H => ?_
                refine ops_end _ ?_
                refine WK.block ?_
                refine WK.loop (fun m a w => ∃ j : Nat, ∃ last : ByteArray, (b.names.length - j) = m ∧ (j ≤ b.names.length) ∧ (namesOk ByteArray.empty b.names = namesOk last (b.names.drop j)) ∧ St 49 e R a w [(3, .string last), (33, .slice N b.names.length kn), (34, .int .i64 ((b.names.length : Nat) : Int)), (35, .int .i64 (j : Int))] (blk b1 (.cells #[.int .u8 b.client, .int .u32 b.inc, .int .u64 b.seq, .int .u8 b.status, .int .u32 b.ino, .int .u32 b.gen, .bool b.dir, .int .u32 b.size, .int .u64 b.change, .int .u64 b.before, .slice A b.data.length k, .slice N b.names.length kn, .int .u32 b.boot] 61) :: L)) (b.names.length - 0) ⟨0, _, rfl, by omega, by rfl, H.sub' ⟨by kernel_rfl, by kernel_rfl, by kernel_rfl, by kernel_rfl, trivial⟩⟩ ?_
                clear H
                rintro m a w ⟨j, last, rfl, hl0_0, hl0_1, H⟩ hrec
                have hrec0 := hrec; clear hrec
                refine WK.seq ?_
                refine st_text 1 rfl ?_
                refine st_run 0 1 0 [(36, .bool (decide (((j : Int) : Int) < ((b.names.length : Nat) : Int))))] H (by kernel_rfl) fun a H => ?_
                refine ops_end _ ?_
                refine WK.seq ?_
                refine st_cond (decide (((j : Int) : Int) < ((b.names.length : Nat) : Int))) H (by kernel_rfl) ?_ ?_
                · intro hc8
                  have hc8' := of_decide_eq_true hc8
                  have hst := namesOk_drop (l := last) (xs := b.names) (j := j) (by omega)
                  
                  refine WK.skip ?_
                  refine WK.seq ?_
                  refine WK.block ?_
                  refine WK.seq ?_
                  refine st_text 3 rfl ?_
                  refine st_op 0 2 (op_val (d := 37) (v := .pointer (ptrA N j)) H (ixa_rd1 hn (t := 59) (k := .i64) (j := j) (z := (j : Int)) (by kernel_rfl) rfl rfl (by omega) (by omega)) fun a H => ?_)
                  refine st_op 1 1 (op_val (d := 38) (v := .string (b.names.getD j ByteArray.empty)) H (val_ldS hn (t := 9) (j := j) (by kernel_rfl) rfl rfl (by omega)) fun a H => ?_)
                  refine st_run 2 1 0 [(5, .string (b.names.getD j ByteArray.empty))] H (by kernel_rfl) fun a H => ?_
                  refine ops_end _ ?_
                  refine WK.seq ?_
                  refine WK.seq ?_
                  refine st_text 8 rfl ?_
                  refine st_run 0 1 7 [(39, .string (b.names.getD j ByteArray.empty))] H (by kernel_rfl) fun a H => ?_
                  refine st_op 1 6 (op_call (d := 40) H (by kernel_rfl) rfl (name_is (b.names.getD j ByteArray.empty) (by first | assumption | omega) H.sat) fun a v w q F => ?_)
                  obtain ⟨rfl, X⟩ := q
                  have H := St.mk F X
                  refine st_run 2 2 4 [(42, .bool (!(nameIs (b.names.getD j ByteArray.empty)))), (41, .bool (!(nameIs (b.names.getD j ByteArray.empty))))] H (by kernel_rfl) fun a H => ?_
                  rcases Bool.eq_false_or_eq_true (!(nameIs (b.names.getD j ByteArray.empty))) with hg1 | hg1
                  · skip
                    have H := H.also (d := 42) (u := .bool (!(nameIs (b.names.getD j ByteArray.empty)))) (v := .bool true) (by kernel_rfl) (congrArg Value.bool (hg1))
                    have hg1n := notT hg1
                    refine st_run 4 4 0 [(46, .bool true), (45, undef), (44, undef), (43, undef)] H (by kernel_rfl) fun a H => ?_
                    refine ops_end _ ?_
                    refine st_true H (by kernel_rfl) ?_
                    refine WK.seq ?_
                    refine st_text 1 rfl ?_
                    refine st_run 0 1 0 [(2, .bool false)] H (by kernel_rfl) fun a H => ?_
                    refine ops_end _ ?_
                    refine st_ret (vs := [.bool false]) H Tryd.func122 rfl (.tmp (by kernel_rfl) (.nil)) ?_
                    have X := (H.sat.msk [false])
                    have hX : Sat e w R (L) := by
                      first | exact X | (skip; exact X) | (simp only [mayB, hc1, hc2, hc3, hc4, hc5, hc6, hc7, hc8, hg1n, hl0_1, hst, List.length_nil, cond_true, cond_false, Bool.not_true, Bool.not_false, Bool.and_true, Bool.and_false, Bool.true_and, Bool.false_and] at X ⊢; exact X)
                    exact ⟨by first | simp only [mayB, hc1, hc2, hc3, hc4, hc5, hc6, hc7, hc8, hg1n, hl0_1, hst, List.length_nil, cond_true, cond_false, Bool.not_true, Bool.not_false, Bool.and_true, Bool.and_false, Bool.true_and, Bool.false_and] | rfl, hX⟩
                  · skip
                    have H := H.also (d := 42) (u := .bool (!(nameIs (b.names.getD j ByteArray.empty)))) (v := .bool false) (by kernel_rfl) (congrArg Value.bool (hg1))
                    have hg1n := notF hg1
                    refine st_run 4 4 0 [(46, .bool (Op.bytesLess (b.names.getD j ByteArray.empty).toList last.toList || ((b.names.getD j ByteArray.empty).toList == last.toList))), (45, .bool (Op.bytesLess (b.names.getD j ByteArray.empty).toList last.toList || ((b.names.getD j ByteArray.empty).toList == last.toList))), (44, .string last), (43, .string (b.names.getD j ByteArray.empty))] H (by kernel_rfl) fun a H => ?_
                    refine ops_end _ ?_
                    refine st_cond (Op.bytesLess (b.names.getD j ByteArray.empty).toList last.toList || ((b.names.getD j ByteArray.empty).toList == last.toList)) H (by kernel_rfl) ?_ ?_
                    · intro hc9
                      refine WK.seq ?_
                      refine st_text 1 rfl ?_
                      refine st_run 0 1 0 [(2, .bool false)] H (by kernel_rfl) fun a H => ?_
                      refine ops_end _ ?_
                      refine st_ret (vs := [.bool false]) H Tryd.func122 rfl (.tmp (by kernel_rfl) (.nil)) ?_
                      have X := (H.sat.msk [false])
                      have hX : Sat e w R (L) := by
                        first | exact X | (skip; exact X) | (simp only [mayB, hc1, hc2, hc3, hc4, hc5, hc6, hc7, hc8, hg1n, hc9, hl0_1, hst, List.length_nil, cond_true, cond_false, Bool.not_true, Bool.not_false, Bool.and_true, Bool.and_false, Bool.true_and, Bool.false_and] at X ⊢; exact X)
                      exact ⟨by first | simp only [mayB, hc1, hc2, hc3, hc4, hc5, hc6, hc7, hc8, hg1n, hc9, hl0_1, hst, List.length_nil, cond_true, cond_false, Bool.not_true, Bool.not_false, Bool.and_true, Bool.and_false, Bool.true_and, Bool.false_and] | rfl, hX⟩
                    · intro hc9
                      refine WK.skip ?_
                      refine st_text 2 rfl ?_
                      refine st_run 0 2 0 [(3, .string (b.names.getD j ByteArray.empty)), (47, .string (b.names.getD j ByteArray.empty))] H (by kernel_rfl) fun a H => ?_
                      refine ops_end _ ?_
                      refine WK.inBlock ?_
                      refine st_text 2 rfl ?_
                      refine st_run 0 1 1 [(48, .int .i64 (IntKind.i64.wrap ((j : Int) + 1)))] H (by kernel_rfl) fun a H => ?_
                      have H := H.turn (d := 48) (u := .int .i64 (IntKind.i64.wrap ((j : Int) + 1))) (v := .int .i64 ((j : Int) + 1)) (wI64 (by omega) (by omega))
                      refine st_run 1 1 0 [(35, .int .i64 ((j : Int) + 1))] H (by kernel_rfl) fun a H => ?_
                      refine ops_end _ ?_
                      exact hrec0 _ _ _ (by omega) ⟨j + 1, b.names.getD j ByteArray.empty, rfl, by omega, by rw [hl0_1]; rw [hst]; simp only [cond_true, cond_false, hc1, hc2, hc3, hc4, hc5, hc6, hc7, hc8, hg1n, hc9], H.sub' ⟨by kernel_rfl, by kernel_rfl, by kernel_rfl, by kernel_rfl, trivial⟩⟩
                · intro hc9
                  have hc9' := of_decide_eq_false hc9
                  have hst : b.names.drop j = [] := List.drop_eq_nil_of_le (by omega)
                  
                  refine WK.exit (k' := _) rfl ?_
                  refine WK.seq ?_
                  refine st_text 1 rfl ?_
                  refine st_run 0 1 0 [(2, .bool true)] H (by kernel_rfl) fun a H => ?_
                  refine ops_end _ ?_
                  refine st_ret (vs := [.bool true]) H Tryd.func122 rfl (.tmp (by kernel_rfl) (.nil)) ?_
                  have X := (H.sat.msk [false])
                  have hX : Sat e w R (L) := by
                    first | exact X | (skip; exact X) | (simp only [mayB, hc1, hc2, hc3, hc4, hc5, hc6, hc7, hc9, hl0_1, hst, namesOk, List.length_nil, cond_true, cond_false, Bool.not_true, Bool.not_false, Bool.and_true, Bool.and_false, Bool.true_and, Bool.false_and] at X ⊢; exact X)
                  exact ⟨by first | simp only [mayB, hc1, hc2, hc3, hc4, hc5, hc6, hc7, hc9, hl0_1, hst, namesOk, List.length_nil, cond_true, cond_false, Bool.not_true, Bool.not_false, Bool.and_true, Bool.and_false, Bool.true_and, Bool.false_and] | rfl, hX⟩
end Go.Proofs.YtldnpolfcickaaaDoor
