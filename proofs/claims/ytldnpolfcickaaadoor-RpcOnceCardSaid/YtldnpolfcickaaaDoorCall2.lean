/- Numbers as bytes. -/
import Derived.Test.YtldnpolfcickaaaDoorCall1
set_option linter.unusedVariables false
set_option linter.unusedSimpArgs false
set_option maxRecDepth 100000
set_option maxHeartbeats 1000000
namespace Go.Proofs.YtldnpolfcickaaaDoor
open Go Go.WH

theorem wrR_nil {e w : World} {R : Hp} {L : List HP} {b : Nat} (X : Sat e w R (blk b (.cells #[.slice none 0 0] 173 (0, 0)) :: L)) : Sat e w R (wrR b [] :: L) :=
  wrR_shut (bs := []) ((X.nil_bytes 5).front 1 rfl)

/-- wharfage/call.fields -/
theorem out_fields {e w : World} {R : Hp} {L : List HP} (wb : Nat) (bs : List UInt8) (cb : Nat) (c : CallS) (A : Option Addr) (k : Nat) (wf : c.Wf) (hd : RdB R A k c.data) (hn : c.kind = 3 ∨ c.kind = 7 ∨ c.kind = 8 ∨ c.kind = 9 ∨ c.kind = 10 ∨ c.kind = 11 → c.name.size ≤ 1000000) (hn2 : c.kind = 11 → c.toName.size ≤ 1000000) (hy : c.kind = 5 → c.data.length ≤ 1000000) (hb : bs.length ≤ 70000000) (X : Sat e w R (wrR wb bs :: blk cb (.cells #[.int .u8 c.client, .int .u32 c.inc, .int .u64 c.seq, .int .u8 c.kind, .int .u32 c.ino, .int .u32 c.gen, .string c.name, .int .u32 c.toIno, .int .u32 c.toGen, .string c.toName, .int .u32 c.off, .int .u32 c.size, .slice A c.data.length k] 28) :: L)) :
    Calls Tryd.prog 100 #[.iface 178 (.agg #[.pointer (some ⟨wb, 0, none⟩)]), .pointer (some ⟨cb, 0, none⟩)] w (Ret fun v w' => v = .bool (hasKind c) ∧ Sat e w' R (wrR wb (bs ++ fieldsB c) :: blk cb (.cells #[.int .u8 c.client, .int .u32 c.inc, .int .u64 c.seq, .int .u8 c.kind, .int .u32 c.ino, .int .u32 c.gen, .string c.name, .int .u32 c.toIno, .int .u32 c.toGen, .string c.toName, .int .u32 c.off, .int .u32 c.size, .slice A c.data.length k] 28) :: L)) := by
  obtain ⟨w1, w2, w3, w4, w5, w6, w7, w8, w9, w10⟩ := wf
  refine enter (n := 97) (args := [.iface 178 (.agg #[.pointer (some ⟨wb, 0, none⟩)]), .pointer (some ⟨cb, 0, none⟩)]) Tryd.func100 rfl rfl rfl X (fun a H => ?_)
  refine WK.seq ?_
  refine st_text 1 rfl ?_
  refine st_run 0 1 0 [(4, .bool false)] H (by kernel_rfl) fun a H => ?_
  refine ops_end _ ?_
  refine WK.seq ?_
  refine WK.seq ?_
  refine st_text 12 rfl ?_
  refine st_run 0 3 9 [(7, .pointer (some ⟨cb, 3, none⟩)), (6, .pointer (some ⟨cb, 0, none⟩)), (5, .pointer (some ⟨cb, 0, none⟩))] H (by kernel_rfl) fun a H => ?_
  refine st_op 3 8 (op_val (d := 8) (v := .int .u8 c.kind) H (val_ld (k := 1) (t := 5) (off := 3) rfl (by kernel_rfl) rfl (by kernel_rfl)) fun a H => ?_)
  refine st_run 4 2 6 [(10, .bool (decide ((c.kind : Int) < 1))), (9, .bool (decide ((c.kind : Int) < 1)))] H (by kernel_rfl) fun a H => ?_
  rcases Bool.eq_false_or_eq_true (decide ((c.kind : Int) < 1)) with hg1 | hg1
  · skip
    have H := H.also (d := 10) (u := .bool (decide ((c.kind : Int) < 1))) (v := .bool true) (by kernel_rfl) (congrArg Value.bool (hg1))
    have hg1' := of_decide_eq_true hg1
    refine st_run 6 6 0 [(16, .bool true), (15, undef), (14, undef), (13, undef), (12, undef), (11, undef)] H (by kernel_rfl) fun a H => ?_
    refine ops_end _ ?_
    refine st_true H (by kernel_rfl) ?_
    refine WK.seq ?_
    refine st_text 1 rfl ?_
    refine st_run 0 1 0 [(4, .bool false)] H (by kernel_rfl) fun a H => ?_
    refine ops_end _ ?_
    refine st_ret (vs := [.bool false]) H Tryd.func100 rfl (.tmp (by kernel_rfl) (.nil)) ?_
    have X := ((H.sat.front 1 rfl).front 1 rfl)
    have hX : Sat e w R (wrR wb (bs ++ fieldsB c) :: blk cb (.cells #[.int .u8 c.client, .int .u32 c.inc, .int .u64 c.seq, .int .u8 c.kind, .int .u32 c.ino, .int .u32 c.gen, .string c.name, .int .u32 c.toIno, .int .u32 c.toGen, .string c.toName, .int .u32 c.off, .int .u32 c.size, .slice A c.data.length k] 28) :: L) := by
      first | exact X | (simp only [fieldsB, hasKind, List.append_assoc, List.append_nil, hg1, List.length_nil, cond_true, cond_false, Bool.not_true, Bool.not_false, Bool.and_true, Bool.and_false, Bool.true_and, Bool.false_and]; exact X) | (simp only [fieldsB, hasKind, List.append_assoc, List.append_nil, hg1, List.length_nil, cond_true, cond_false, Bool.not_true, Bool.not_false, Bool.and_true, Bool.and_false, Bool.true_and, Bool.false_and] at X ⊢; exact X)
    exact ⟨by first | simp only [fieldsB, hasKind, List.append_assoc, List.append_nil, hg1, List.length_nil, cond_true, cond_false, Bool.not_true, Bool.not_false, Bool.and_true, Bool.and_false, Bool.true_and, Bool.false_and] | rfl, hX⟩
  · skip
    have H := H.also (d := 10) (u := .bool (decide ((c.kind : Int) < 1))) (v := .bool false) (by kernel_rfl) (congrArg Value.bool (hg1))
    have hg1' := of_decide_eq_false hg1
    refine st_run 6 3 3 [(13, .pointer (some ⟨cb, 3, none⟩)), (12, .pointer (some ⟨cb, 0, none⟩)), (11, .pointer (some ⟨cb, 0, none⟩))] H (by kernel_rfl) fun a H => ?_
    refine st_op 9 2 (op_val (d := 14) (v := .int .u8 c.kind) H (val_ld (k := 1) (t := 5) (off := 3) rfl (by kernel_rfl) rfl (by kernel_rfl)) fun a H => ?_)
    refine st_run 10 2 0 [(16, .bool (decide ((c.kind : Int) > 12))), (15, .bool (decide ((c.kind : Int) > 12)))] H (by kernel_rfl) fun a H => ?_
    refine ops_end _ ?_
    refine st_cond (decide ((c.kind : Int) > 12)) H (by kernel_rfl) ?_ ?_
    · intro hc1
      have hc1' := of_decide_eq_true hc1
      refine WK.seq ?_
      refine st_text 1 rfl ?_
      refine st_run 0 1 0 [(4, .bool false)] H (by kernel_rfl) fun a H => ?_
      refine ops_end _ ?_
      refine st_ret (vs := [.bool false]) H Tryd.func100 rfl (.tmp (by kernel_rfl) (.nil)) ?_
      have X := ((H.sat.front 1 rfl).front 1 rfl)
      have hX : Sat e w R (wrR wb (bs ++ fieldsB c) :: blk cb (.cells #[.int .u8 c.client, .int .u32 c.inc, .int .u64 c.seq, .int .u8 c.kind, .int .u32 c.ino, .int .u32 c.gen, .string c.name, .int .u32 c.toIno, .int .u32 c.toGen, .string c.toName, .int .u32 c.off, .int .u32 c.size, .slice A c.data.length k] 28) :: L) := by
        first | exact X | (simp only [fieldsB, hasKind, List.append_assoc, List.append_nil, hg1, hc1, List.length_nil, cond_true, cond_false, Bool.not_true, Bool.not_false, Bool.and_true, Bool.and_false, Bool.true_and, Bool.false_and]; exact X) | (simp only [fieldsB, hasKind, List.append_assoc, List.append_nil, hg1, hc1, List.length_nil, cond_true, cond_false, Bool.not_true, Bool.not_false, Bool.and_true, Bool.and_false, Bool.true_and, Bool.false_and] at X ⊢; exact X)
      exact ⟨by first | simp only [fieldsB, hasKind, List.append_assoc, List.append_nil, hg1, hc1, List.length_nil, cond_true, cond_false, Bool.not_true, Bool.not_false, Bool.and_true, Bool.and_false, Bool.true_and, Bool.false_and] | rfl, hX⟩
    · intro hc1
      have hc1' := of_decide_eq_false hc1
      refine WK.skip ?_
      refine WK.seq ?_
      refine st_text 5 rfl ?_
      refine st_run 0 4 1 [(20, .pointer (some ⟨cb, 4, none⟩)), (19, .pointer (some ⟨cb, 0, none⟩)), (18, .pointer (some ⟨cb, 0, none⟩)), (17, .iface 178 (.agg #[.pointer (some ⟨wb, 0, none⟩)]))] H (by kernel_rfl) fun a H => ?_
      refine st_op 4 0 (op_call (d := 21) H (by kernel_rfl) rfl (out_handle wb bs cb _ _ 4 c.ino c.gen (by first | assumption | omega) (by first | assumption | omega) (by first | assumption | omega) (by first | assumption | omega) (by first | assumption | omega | (simp only [List.length_append, be_length, List.length_nil]; omega) | (have hl1 := laid_length (txt c.name); have hl2 : (txt c.name).length = c.name.size := Array.length_toList (xs := c.name.data); simp only [List.length_append, be_length, List.length_nil]; omega)) (by kernel_rfl) (by kernel_rfl) ((H.sat.front 1 rfl).front 1 rfl)) fun a v w q F => ?_)
      have X := q
      have H := St.mk F X
      refine ops_end _ ?_
      refine WK.seq ?_
      refine WK.seq ?_
      refine st_text 4 rfl ?_
      refine st_run 0 3 1 [(24, .pointer (some ⟨cb, 3, none⟩)), (23, .pointer (some ⟨cb, 0, none⟩)), (22, .pointer (some ⟨cb, 0, none⟩))] H (by kernel_rfl) fun a H => ?_
      refine st_op 3 0 (op_val (d := 25) (v := .int .u8 c.kind) H (val_ld (k := 1) (t := 5) (off := 3) rfl (by kernel_rfl) rfl (by kernel_rfl)) fun a H => ?_)
      refine ops_end _ ?_
      refine WK.block ?_
      refine WK.seq ?_
      refine st_text 2 rfl ?_
      refine st_run 0 2 0 [(26, .bool ((c.kind : Int) == 2)), (27, .bool ((c.kind : Int) == 2))] H (by kernel_rfl) fun a H => ?_
      refine ops_end _ ?_
      refine st_cond ((c.kind : Int) == 2) H (by kernel_rfl) ?_ ?_
      · intro hc2
        have hc2' := eq_of_beq hc2
        refine st_floatsM [false, false] [.mv 0, .mv 1, .mv 2, .mv 3, .mv 4, .mv 5, .mv 6, .op 7] rfl (by kernel_rfl) (by kernel_rfl) (by kernel_rfl) H ?_
        refine z_mv 0 (d := 28) (.iface 178 (.agg #[.pointer (some ⟨wb, 0, none⟩)])) (IsVal.of_run rfl fun w => (by kernel_rfl)) (by kernel_rfl) ?_
        refine z_mv 1 (d := 29) (.pointer (some ⟨cb, 0, none⟩)) (IsVal.of_run rfl fun w => (by kernel_rfl)) (by kernel_rfl) ?_
        refine z_mv 2 (d := 30) (.pointer (some ⟨cb, 0, none⟩)) (IsVal.of_run rfl fun w => (by kernel_rfl)) (by kernel_rfl) ?_
        refine z_mv 3 (d := 31) (.pointer (some ⟨cb, 11, none⟩)) (IsVal.of_run rfl fun w => (by kernel_rfl)) (by kernel_rfl) ?_
        refine z_mv 4 (d := 32) (.func (.method "Number32") #[.iface 178 (.agg #[.pointer (some ⟨wb, 0, none⟩)])] #[]) (IsVal.of_run rfl fun w => (by kernel_rfl)) (by kernel_rfl) ?_
        refine z_mv 5 (d := 33) (.func (.method "Number32") #[.iface 178 (.agg #[.pointer (some ⟨wb, 0, none⟩)])] #[]) (IsVal.of_run rfl fun w => (by kernel_rfl)) (by kernel_rfl) ?_
        refine z_mv 6 (d := 34) (.iface 178 (.agg #[.pointer (some ⟨wb, 0, none⟩)])) (IsVal.of_run rfl fun w => (by kernel_rfl)) (by kernel_rfl) ?_
        refine z_op 7 rfl fun a w Z H => ?_
        refine op_call (d := 35) H (by kernel_rfl) rfl (out_number wb (bs ++ be 4 c.ino.toNat ++ be 4 c.gen.toNat) cb _ _ 11 c.size (by first | assumption | omega) (by first | assumption | omega) (by first | assumption | omega | (simp only [List.length_append, be_length, List.length_nil]; omega) | (have hl1 := laid_length (txt c.name); have hl2 : (txt c.name).length = c.name.size := Array.length_toList (xs := c.name.data); simp only [List.length_append, be_length, List.length_nil]; omega)) (by kernel_rfl) ((H.sat.frontZ 1 rfl).frontZ 1 rfl)) fun a v w q F => ?_
        have X := q
        have H := St.mk F X
        refine z_on (wrR wb ((bs ++ be 4 c.ino.toNat ++ be 4 c.gen.toNat) ++ be 4 c.size.toNat) :: blk cb (.cells #[.int .u8 c.client, .int .u32 c.inc, .int .u64 c.seq, .int .u8 c.kind, .int .u32 c.ino, .int .u32 c.gen, .string c.name, .int .u32 c.toIno, .int .u32 c.toGen, .string c.toName, .int .u32 c.off, .int .u32 c.size, .slice A c.data.length k] 28) :: L) H (fun w Z X => X.mskZ [false, false] (by kernel_rfl)) (by kernel_rfl) ?_
        refine z_end [] fun a w H => ?_
        refine WK.inBlock ?_
        refine WK.seq ?_
        refine st_text 1 rfl ?_
        refine st_run 0 1 0 [(4, .bool true)] H (by kernel_rfl) fun a H => ?_
        refine ops_end _ ?_
        refine st_ret (vs := [.bool true]) H Tryd.func100 rfl (.tmp (by kernel_rfl) (.nil)) ?_
        have X := ((H.sat.front 1 rfl).front 1 rfl)
        have hX : Sat e w R (wrR wb (bs ++ fieldsB c) :: blk cb (.cells #[.int .u8 c.client, .int .u32 c.inc, .int .u64 c.seq, .int .u8 c.kind, .int .u32 c.ino, .int .u32 c.gen, .string c.name, .int .u32 c.toIno, .int .u32 c.toGen, .string c.toName, .int .u32 c.off, .int .u32 c.size, .slice A c.data.length k] 28) :: L) := by
          first | exact X | (simp only [fieldsB, hasKind, List.append_assoc, List.append_nil, hg1, hc1, hc2, List.length_nil, cond_true, cond_false, Bool.not_true, Bool.not_false, Bool.and_true, Bool.and_false, Bool.true_and, Bool.false_and]; exact X) | (simp only [fieldsB, hasKind, List.append_assoc, List.append_nil, hg1, hc1, hc2, List.length_nil, cond_true, cond_false, Bool.not_true, Bool.not_false, Bool.and_true, Bool.and_false, Bool.true_and, Bool.false_and] at X ⊢; exact X)
        exact ⟨by first | simp only [fieldsB, hasKind, List.append_assoc, List.append_nil, hg1, hc1, hc2, List.length_nil, cond_true, cond_false, Bool.not_true, Bool.not_false, Bool.and_true, Bool.and_false, Bool.true_and, Bool.false_and] | rfl, hX⟩
      · intro hc2
        have hc2' := neB hc2
        refine WK.seq ?_
        refine WK.seq ?_
        refine st_text 2 rfl ?_
        refine st_run 0 2 0 [(36, .bool ((c.kind : Int) == 3)), (37, .bool ((c.kind : Int) == 3))] H (by kernel_rfl) fun a H => ?_
        refine ops_end _ ?_
        refine st_cond ((c.kind : Int) == 3) H (by kernel_rfl) ?_ ?_
        · intro hc3
          have hc3' := eq_of_beq hc3
          refine WK.skip ?_
          have H := H.also (d := 36) (u := .bool ((c.kind : Int) == 3)) (v := .bool true) (by kernel_rfl) (congrArg Value.bool (hc3))
          refine st_true H (by kernel_rfl) ?_
          refine st_text 5 rfl ?_
          refine st_run 0 4 1 [(45, .pointer (some ⟨cb, 6, none⟩)), (44, .pointer (some ⟨cb, 0, none⟩)), (43, .pointer (some ⟨cb, 0, none⟩)), (42, .iface 178 (.agg #[.pointer (some ⟨wb, 0, none⟩)]))] H (by kernel_rfl) fun a H => ?_
          refine st_op 4 0 (op_call (d := 46) H (by kernel_rfl) rfl (out_text wb (bs ++ be 4 c.ino.toNat ++ be 4 c.gen.toNat) cb _ _ 6 c.name (by first | assumption | omega | (simp only [List.length_append, be_length, List.length_nil]; omega) | (have hl1 := laid_length (txt c.name); have hl2 : (txt c.name).length = c.name.size := Array.length_toList (xs := c.name.data); simp only [List.length_append, be_length, List.length_nil]; omega)) (by first | assumption | omega) (by kernel_rfl) ((H.sat.front 1 rfl).front 1 rfl)) fun a v w q F => ?_)
          have X := q
          have H := St.mk F X
          refine ops_end _ ?_
          refine WK.inBlock ?_
          refine WK.seq ?_
          refine st_text 1 rfl ?_
          refine st_run 0 1 0 [(4, .bool true)] H (by kernel_rfl) fun a H => ?_
          refine ops_end _ ?_
          refine st_ret (vs := [.bool true]) H Tryd.func100 rfl (.tmp (by kernel_rfl) (.nil)) ?_
          have X := ((H.sat.front 1 rfl).front 1 rfl)
          have hX : Sat e w R (wrR wb (bs ++ fieldsB c) :: blk cb (.cells #[.int .u8 c.client, .int .u32 c.inc, .int .u64 c.seq, .int .u8 c.kind, .int .u32 c.ino, .int .u32 c.gen, .string c.name, .int .u32 c.toIno, .int .u32 c.toGen, .string c.toName, .int .u32 c.off, .int .u32 c.size, .slice A c.data.length k] 28) :: L) := by
            first | exact X | (simp only [fieldsB, hasKind, List.append_assoc, List.append_nil, hg1, hc1, hc2, hc3, List.length_nil, cond_true, cond_false, Bool.not_true, Bool.not_false, Bool.and_true, Bool.and_false, Bool.true_and, Bool.false_and]; exact X) | (simp only [fieldsB, hasKind, List.append_assoc, List.append_nil, hg1, hc1, hc2, hc3, List.length_nil, cond_true, cond_false, Bool.not_true, Bool.not_false, Bool.and_true, Bool.and_false, Bool.true_and, Bool.false_and] at X ⊢; exact X)
          exact ⟨by first | simp only [fieldsB, hasKind, List.append_assoc, List.append_nil, hg1, hc1, hc2, hc3, List.length_nil, cond_true, cond_false, Bool.not_true, Bool.not_false, Bool.and_true, Bool.and_false, Bool.true_and, Bool.false_and] | rfl, hX⟩
        · intro hc3
          have hc3' := neB hc3
          refine WK.seq ?_
          refine st_text 2 rfl ?_
          refine st_run 0 2 0 [(36, .bool ((c.kind : Int) == 7)), (38, .bool ((c.kind : Int) == 7))] H (by kernel_rfl) fun a H => ?_
          refine ops_end _ ?_
          refine st_cond ((c.kind : Int) == 7) H (by kernel_rfl) ?_ ?_
          · intro hc4
            have hc4' := eq_of_beq hc4
            refine WK.skip ?_
            have H := H.also (d := 36) (u := .bool ((c.kind : Int) == 7)) (v := .bool true) (by kernel_rfl) (congrArg Value.bool (hc4))
            refine st_true H (by kernel_rfl) ?_
            refine st_text 5 rfl ?_
            refine st_run 0 4 1 [(45, .pointer (some ⟨cb, 6, none⟩)), (44, .pointer (some ⟨cb, 0, none⟩)), (43, .pointer (some ⟨cb, 0, none⟩)), (42, .iface 178 (.agg #[.pointer (some ⟨wb, 0, none⟩)]))] H (by kernel_rfl) fun a H => ?_
            refine st_op 4 0 (op_call (d := 46) H (by kernel_rfl) rfl (out_text wb (bs ++ be 4 c.ino.toNat ++ be 4 c.gen.toNat) cb _ _ 6 c.name (by first | assumption | omega | (simp only [List.length_append, be_length, List.length_nil]; omega) | (have hl1 := laid_length (txt c.name); have hl2 : (txt c.name).length = c.name.size := Array.length_toList (xs := c.name.data); simp only [List.length_append, be_length, List.length_nil]; omega)) (by first | assumption | omega) (by kernel_rfl) ((H.sat.front 1 rfl).front 1 rfl)) fun a v w q F => ?_)
            have X := q
            have H := St.mk F X
            refine ops_end _ ?_
            refine WK.inBlock ?_
            refine WK.seq ?_
            refine st_text 1 rfl ?_
            refine st_run 0 1 0 [(4, .bool true)] H (by kernel_rfl) fun a H => ?_
            refine ops_end _ ?_
            refine st_ret (vs := [.bool true]) H Tryd.func100 rfl (.tmp (by kernel_rfl) (.nil)) ?_
            have X := ((H.sat.front 1 rfl).front 1 rfl)
            have hX : Sat e w R (wrR wb (bs ++ fieldsB c) :: blk cb (.cells #[.int .u8 c.client, .int .u32 c.inc, .int .u64 c.seq, .int .u8 c.kind, .int .u32 c.ino, .int .u32 c.gen, .string c.name, .int .u32 c.toIno, .int .u32 c.toGen, .string c.toName, .int .u32 c.off, .int .u32 c.size, .slice A c.data.length k] 28) :: L) := by
              first | exact X | (simp only [fieldsB, hasKind, List.append_assoc, List.append_nil, hg1, hc1, hc2, hc3, hc4, List.length_nil, cond_true, cond_false, Bool.not_true, Bool.not_false, Bool.and_true, Bool.and_false, Bool.true_and, Bool.false_and]; exact X) | (simp only [fieldsB, hasKind, List.append_assoc, List.append_nil, hg1, hc1, hc2, hc3, hc4, List.length_nil, cond_true, cond_false, Bool.not_true, Bool.not_false, Bool.and_true, Bool.and_false, Bool.true_and, Bool.false_and] at X ⊢; exact X)
            exact ⟨by first | simp only [fieldsB, hasKind, List.append_assoc, List.append_nil, hg1, hc1, hc2, hc3, hc4, List.length_nil, cond_true, cond_false, Bool.not_true, Bool.not_false, Bool.and_true, Bool.and_false, Bool.true_and, Bool.false_and] | rfl, hX⟩
          · intro hc4
            have hc4' := neB hc4
            refine WK.seq ?_
            refine st_text 2 rfl ?_
            refine st_run 0 2 0 [(36, .bool ((c.kind : Int) == 8)), (39, .bool ((c.kind : Int) == 8))] H (by kernel_rfl) fun a H => ?_
            refine ops_end _ ?_
            refine st_cond ((c.kind : Int) == 8) H (by kernel_rfl) ?_ ?_
            · intro hc5
              have hc5' := eq_of_beq hc5
              refine WK.skip ?_
              have H := H.also (d := 36) (u := .bool ((c.kind : Int) == 8)) (v := .bool true) (by kernel_rfl) (congrArg Value.bool (hc5))
              refine st_true H (by kernel_rfl) ?_
              refine st_text 5 rfl ?_
              refine st_run 0 4 1 [(45, .pointer (some ⟨cb, 6, none⟩)), (44, .pointer (some ⟨cb, 0, none⟩)), (43, .pointer (some ⟨cb, 0, none⟩)), (42, .iface 178 (.agg #[.pointer (some ⟨wb, 0, none⟩)]))] H (by kernel_rfl) fun a H => ?_
              refine st_op 4 0 (op_call (d := 46) H (by kernel_rfl) rfl (out_text wb (bs ++ be 4 c.ino.toNat ++ be 4 c.gen.toNat) cb _ _ 6 c.name (by first | assumption | omega | (simp only [List.length_append, be_length, List.length_nil]; omega) | (have hl1 := laid_length (txt c.name); have hl2 : (txt c.name).length = c.name.size := Array.length_toList (xs := c.name.data); simp only [List.length_append, be_length, List.length_nil]; omega)) (by first | assumption | omega) (by kernel_rfl) ((H.sat.front 1 rfl).front 1 rfl)) fun a v w q F => ?_)
              have X := q
              have H := St.mk F X
              refine ops_end _ ?_
              refine WK.inBlock ?_
              refine WK.seq ?_
              refine st_text 1 rfl ?_
              refine st_run 0 1 0 [(4, .bool true)] H (by kernel_rfl) fun a H => ?_
              refine ops_end _ ?_
              refine st_ret (vs := [.bool true]) H Tryd.func100 rfl (.tmp (by kernel_rfl) (.nil)) ?_
              have X := ((H.sat.front 1 rfl).front 1 rfl)
              have hX : Sat e w R (wrR wb (bs ++ fieldsB c) :: blk cb (.cells #[.int .u8 c.client, .int .u32 c.inc, .int .u64 c.seq, .int .u8 c.kind, .int .u32 c.ino, .int .u32 c.gen, .string c.name, .int .u32 c.toIno, .int .u32 c.toGen, .string c.toName, .int .u32 c.off, .int .u32 c.size, .slice A c.data.length k] 28) :: L) := by
                first | exact X | (simp only [fieldsB, hasKind, List.append_assoc, List.append_nil, hg1, hc1, hc2, hc3, hc4, hc5, List.length_nil, cond_true, cond_false, Bool.not_true, Bool.not_false, Bool.and_true, Bool.and_false, Bool.true_and, Bool.false_and]; exact X) | (simp only [fieldsB, hasKind, List.append_assoc, List.append_nil, hg1, hc1, hc2, hc3, hc4, hc5, List.length_nil, cond_true, cond_false, Bool.not_true, Bool.not_false, Bool.and_true, Bool.and_false, Bool.true_and, Bool.false_and] at X ⊢; exact X)
              exact ⟨by first | simp only [fieldsB, hasKind, List.append_assoc, List.append_nil, hg1, hc1, hc2, hc3, hc4, hc5, List.length_nil, cond_true, cond_false, Bool.not_true, Bool.not_false, Bool.and_true, Bool.and_false, Bool.true_and, Bool.false_and] | rfl, hX⟩
            · intro hc5
              have hc5' := neB hc5
              refine WK.seq ?_
              refine st_text 2 rfl ?_
              refine st_run 0 2 0 [(36, .bool ((c.kind : Int) == 9)), (40, .bool ((c.kind : Int) == 9))] H (by kernel_rfl) fun a H => ?_
              refine ops_end _ ?_
              refine st_cond ((c.kind : Int) == 9) H (by kernel_rfl) ?_ ?_
              · intro hc6
                have hc6' := eq_of_beq hc6
                refine WK.skip ?_
                have H := H.also (d := 36) (u := .bool ((c.kind : Int) == 9)) (v := .bool true) (by kernel_rfl) (congrArg Value.bool (hc6))
                refine st_true H (by kernel_rfl) ?_
                refine st_text 5 rfl ?_
                refine st_run 0 4 1 [(45, .pointer (some ⟨cb, 6, none⟩)), (44, .pointer (some ⟨cb, 0, none⟩)), (43, .pointer (some ⟨cb, 0, none⟩)), (42, .iface 178 (.agg #[.pointer (some ⟨wb, 0, none⟩)]))] H (by kernel_rfl) fun a H => ?_
                refine st_op 4 0 (op_call (d := 46) H (by kernel_rfl) rfl (out_text wb (bs ++ be 4 c.ino.toNat ++ be 4 c.gen.toNat) cb _ _ 6 c.name (by first | assumption | omega | (simp only [List.length_append, be_length, List.length_nil]; omega) | (have hl1 := laid_length (txt c.name); have hl2 : (txt c.name).length = c.name.size := Array.length_toList (xs := c.name.data); simp only [List.length_append, be_length, List.length_nil]; omega)) (by first | assumption | omega) (by kernel_rfl) ((H.sat.front 1 rfl).front 1 rfl)) fun a v w q F => ?_)
                have X := q
                have H := St.mk F X
                refine ops_end _ ?_
                refine WK.inBlock ?_
                refine WK.seq ?_
                refine st_text 1 rfl ?_
                refine st_run 0 1 0 [(4, .bool true)] H (by kernel_rfl) fun a H => ?_
                refine ops_end _ ?_
                refine st_ret (vs := [.bool true]) H Tryd.func100 rfl (.tmp (by kernel_rfl) (.nil)) ?_
                have X := ((H.sat.front 1 rfl).front 1 rfl)
                have hX : Sat e w R (wrR wb (bs ++ fieldsB c) :: blk cb (.cells #[.int .u8 c.client, .int .u32 c.inc, .int .u64 c.seq, .int .u8 c.kind, .int .u32 c.ino, .int .u32 c.gen, .string c.name, .int .u32 c.toIno, .int .u32 c.toGen, .string c.toName, .int .u32 c.off, .int .u32 c.size, .slice A c.data.length k] 28) :: L) := by
                  first | exact X | (simp only [fieldsB, hasKind, List.append_assoc, List.append_nil, hg1, hc1, hc2, hc3, hc4, hc5, hc6, List.length_nil, cond_true, cond_false, Bool.not_true, Bool.not_false, Bool.and_true, Bool.and_false, Bool.true_and, Bool.false_and]; exact X) | (simp only [fieldsB, hasKind, List.append_assoc, List.append_nil, hg1, hc1, hc2, hc3, hc4, hc5, hc6, List.length_nil, cond_true, cond_false, Bool.not_true, Bool.not_false, Bool.and_true, Bool.and_false, Bool.true_and, Bool.false_and] at X ⊢; exact X)
                exact ⟨by first | simp only [fieldsB, hasKind, List.append_assoc, List.append_nil, hg1, hc1, hc2, hc3, hc4, hc5, hc6, List.length_nil, cond_true, cond_false, Bool.not_true, Bool.not_false, Bool.and_true, Bool.and_false, Bool.true_and, Bool.false_and] | rfl, hX⟩
              · intro hc6
                have hc6' := neB hc6
                refine st_text 2 rfl ?_
                refine st_run 0 2 0 [(36, .bool ((c.kind : Int) == 10)), (41, .bool ((c.kind : Int) == 10))] H (by kernel_rfl) fun a H => ?_
                refine ops_end _ ?_
                refine st_cond ((c.kind : Int) == 10) H (by kernel_rfl) ?_ ?_
                · intro hc7
                  have hc7' := eq_of_beq hc7
                  refine st_text 5 rfl ?_
                  refine st_run 0 4 1 [(45, .pointer (some ⟨cb, 6, none⟩)), (44, .pointer (some ⟨cb, 0, none⟩)), (43, .pointer (some ⟨cb, 0, none⟩)), (42, .iface 178 (.agg #[.pointer (some ⟨wb, 0, none⟩)]))] H (by kernel_rfl) fun a H => ?_
                  refine st_op 4 0 (op_call (d := 46) H (by kernel_rfl) rfl (out_text wb (bs ++ be 4 c.ino.toNat ++ be 4 c.gen.toNat) cb _ _ 6 c.name (by first | assumption | omega | (simp only [List.length_append, be_length, List.length_nil]; omega) | (have hl1 := laid_length (txt c.name); have hl2 : (txt c.name).length = c.name.size := Array.length_toList (xs := c.name.data); simp only [List.length_append, be_length, List.length_nil]; omega)) (by first | assumption | omega) (by kernel_rfl) ((H.sat.front 1 rfl).front 1 rfl)) fun a v w q F => ?_)
                  have X := q
                  have H := St.mk F X
                  refine ops_end _ ?_
                  refine WK.inBlock ?_
                  refine WK.seq ?_
                  refine st_text 1 rfl ?_
                  refine st_run 0 1 0 [(4, .bool true)] H (by kernel_rfl) fun a H => ?_
                  refine ops_end _ ?_
                  refine st_ret (vs := [.bool true]) H Tryd.func100 rfl (.tmp (by kernel_rfl) (.nil)) ?_
                  have X := ((H.sat.front 1 rfl).front 1 rfl)
                  have hX : Sat e w R (wrR wb (bs ++ fieldsB c) :: blk cb (.cells #[.int .u8 c.client, .int .u32 c.inc, .int .u64 c.seq, .int .u8 c.kind, .int .u32 c.ino, .int .u32 c.gen, .string c.name, .int .u32 c.toIno, .int .u32 c.toGen, .string c.toName, .int .u32 c.off, .int .u32 c.size, .slice A c.data.length k] 28) :: L) := by
                    first | exact X | (simp only [fieldsB, hasKind, List.append_assoc, List.append_nil, hg1, hc1, hc2, hc3, hc4, hc5, hc6, hc7, List.length_nil, cond_true, cond_false, Bool.not_true, Bool.not_false, Bool.and_true, Bool.and_false, Bool.true_and, Bool.false_and]; exact X) | (simp only [fieldsB, hasKind, List.append_assoc, List.append_nil, hg1, hc1, hc2, hc3, hc4, hc5, hc6, hc7, List.length_nil, cond_true, cond_false, Bool.not_true, Bool.not_false, Bool.and_true, Bool.and_false, Bool.true_and, Bool.false_and] at X ⊢; exact X)
                  exact ⟨by first | simp only [fieldsB, hasKind, List.append_assoc, List.append_nil, hg1, hc1, hc2, hc3, hc4, hc5, hc6, hc7, List.length_nil, cond_true, cond_false, Bool.not_true, Bool.not_false, Bool.and_true, Bool.and_false, Bool.true_and, Bool.false_and] | rfl, hX⟩
                · intro hc7
                  have hc7' := neB hc7
                  refine WK.seq ?_
                  refine st_text 2 rfl ?_
                  refine st_run 0 2 0 [(47, .bool ((c.kind : Int) == 4)), (48, .bool ((c.kind : Int) == 4))] H (by kernel_rfl) fun a H => ?_
                  refine ops_end _ ?_
                  refine st_cond ((c.kind : Int) == 4) H (by kernel_rfl) ?_ ?_
                  · intro hc8
                    have hc8' := eq_of_beq hc8
                    refine WK.seq ?_
                    refine st_floatsM [false, false] [.mv 0, .mv 1, .mv 2, .mv 3, .mv 4, .mv 5, .mv 6, .op 7] rfl (by kernel_rfl) (by kernel_rfl) (by kernel_rfl) H ?_
                    refine z_mv 0 (d := 49) (.iface 178 (.agg #[.pointer (some ⟨wb, 0, none⟩)])) (IsVal.of_run rfl fun w => (by kernel_rfl)) (by kernel_rfl) ?_
                    refine z_mv 1 (d := 50) (.pointer (some ⟨cb, 0, none⟩)) (IsVal.of_run rfl fun w => (by kernel_rfl)) (by kernel_rfl) ?_
                    refine z_mv 2 (d := 51) (.pointer (some ⟨cb, 0, none⟩)) (IsVal.of_run rfl fun w => (by kernel_rfl)) (by kernel_rfl) ?_
                    refine z_mv 3 (d := 52) (.pointer (some ⟨cb, 10, none⟩)) (IsVal.of_run rfl fun w => (by kernel_rfl)) (by kernel_rfl) ?_
                    refine z_mv 4 (d := 53) (.func (.method "Number32") #[.iface 178 (.agg #[.pointer (some ⟨wb, 0, none⟩)])] #[]) (IsVal.of_run rfl fun w => (by kernel_rfl)) (by kernel_rfl) ?_
                    refine z_mv 5 (d := 54) (.func (.method "Number32") #[.iface 178 (.agg #[.pointer (some ⟨wb, 0, none⟩)])] #[]) (IsVal.of_run rfl fun w => (by kernel_rfl)) (by kernel_rfl) ?_
                    refine z_mv 6 (d := 55) (.iface 178 (.agg #[.pointer (some ⟨wb, 0, none⟩)])) (IsVal.of_run rfl fun w => (by kernel_rfl)) (by kernel_rfl) ?_
                    refine z_op 7 rfl fun a w Z H => ?_
                    refine op_call (d := 56) H (by kernel_rfl) rfl (out_number wb (bs ++ be 4 c.ino.toNat ++ be 4 c.gen.toNat) cb _ _ 10 c.off (by first | assumption | omega) (by first | assumption | omega) (by first | assumption | omega | (simp only [List.length_append, be_length, List.length_nil]; omega) | (have hl1 := laid_length (txt c.name); have hl2 : (txt c.name).length = c.name.size := Array.length_toList (xs := c.name.data); simp only [List.length_append, be_length, List.length_nil]; omega)) (by kernel_rfl) ((H.sat.frontZ 1 rfl).frontZ 1 rfl)) fun a v w q F => ?_
                    have X := q
                    have H := St.mk F X
                    refine z_on (wrR wb ((bs ++ be 4 c.ino.toNat ++ be 4 c.gen.toNat) ++ be 4 c.off.toNat) :: blk cb (.cells #[.int .u8 c.client, .int .u32 c.inc, .int .u64 c.seq, .int .u8 c.kind, .int .u32 c.ino, .int .u32 c.gen, .string c.name, .int .u32 c.toIno, .int .u32 c.toGen, .string c.toName, .int .u32 c.off, .int .u32 c.size, .slice A c.data.length k] 28) :: L) H (fun w Z X => X.mskZ [false, false] (by kernel_rfl)) (by kernel_rfl) ?_
                    refine z_end [] fun a w H => ?_
                    refine st_floatsM [false, false] [.mv 0, .mv 1, .mv 2, .mv 3, .mv 4, .mv 5, .mv 6, .op 7] rfl (by kernel_rfl) (by kernel_rfl) (by kernel_rfl) H ?_
                    refine z_mv 0 (d := 57) (.iface 178 (.agg #[.pointer (some ⟨wb, 0, none⟩)])) (IsVal.of_run rfl fun w => (by kernel_rfl)) (by kernel_rfl) ?_
                    refine z_mv 1 (d := 58) (.pointer (some ⟨cb, 0, none⟩)) (IsVal.of_run rfl fun w => (by kernel_rfl)) (by kernel_rfl) ?_
                    refine z_mv 2 (d := 59) (.pointer (some ⟨cb, 0, none⟩)) (IsVal.of_run rfl fun w => (by kernel_rfl)) (by kernel_rfl) ?_
                    refine z_mv 3 (d := 60) (.pointer (some ⟨cb, 11, none⟩)) (IsVal.of_run rfl fun w => (by kernel_rfl)) (by kernel_rfl) ?_
                    refine z_mv 4 (d := 61) (.func (.method "Number32") #[.iface 178 (.agg #[.pointer (some ⟨wb, 0, none⟩)])] #[]) (IsVal.of_run rfl fun w => (by kernel_rfl)) (by kernel_rfl) ?_
                    refine z_mv 5 (d := 62) (.func (.method "Number32") #[.iface 178 (.agg #[.pointer (some ⟨wb, 0, none⟩)])] #[]) (IsVal.of_run rfl fun w => (by kernel_rfl)) (by kernel_rfl) ?_
                    refine z_mv 6 (d := 63) (.iface 178 (.agg #[.pointer (some ⟨wb, 0, none⟩)])) (IsVal.of_run rfl fun w => (by kernel_rfl)) (by kernel_rfl) ?_
                    refine z_op 7 rfl fun a w Z H => ?_
                    refine op_call (d := 64) H (by kernel_rfl) rfl (out_number wb ((bs ++ be 4 c.ino.toNat ++ be 4 c.gen.toNat) ++ be 4 c.off.toNat) cb _ _ 11 c.size (by first | assumption | omega) (by first | assumption | omega) (by first | assumption | omega | (simp only [List.length_append, be_length, List.length_nil]; omega) | (have hl1 := laid_length (txt c.name); have hl2 : (txt c.name).length = c.name.size := Array.length_toList (xs := c.name.data); simp only [List.length_append, be_length, List.length_nil]; omega)) (by kernel_rfl) ((H.sat.frontZ 1 rfl).frontZ 1 rfl)) fun a v w q F => ?_
                    have X := q
                    have H := St.mk F X
                    refine z_on (wrR wb (((bs ++ be 4 c.ino.toNat ++ be 4 c.gen.toNat) ++ be 4 c.off.toNat) ++ be 4 c.size.toNat) :: blk cb (.cells #[.int .u8 c.client, .int .u32 c.inc, .int .u64 c.seq, .int .u8 c.kind, .int .u32 c.ino, .int .u32 c.gen, .string c.name, .int .u32 c.toIno, .int .u32 c.toGen, .string c.toName, .int .u32 c.off, .int .u32 c.size, .slice A c.data.length k] 28) :: L) H (fun w Z X => X.mskZ [false, false] (by kernel_rfl)) (by kernel_rfl) ?_
                    refine z_end [] fun a w H => ?_
                    refine WK.inBlock ?_
                    refine WK.seq ?_
                    refine st_text 1 rfl ?_
                    refine st_run 0 1 0 [(4, .bool true)] H (by kernel_rfl) fun a H => ?_
                    refine ops_end _ ?_
                    refine st_ret (vs := [.bool true]) H Tryd.func100 rfl (.tmp (by kernel_rfl) (.nil)) ?_
                    have X := ((H.sat.front 1 rfl).front 1 rfl)
                    have hX : Sat e w R (wrR wb (bs ++ fieldsB c) :: blk cb (.cells #[.int .u8 c.client, .int .u32 c.inc, .int .u64 c.seq, .int .u8 c.kind, .int .u32 c.ino, .int .u32 c.gen, .string c.name, .int .u32 c.toIno, .int .u32 c.toGen, .string c.toName, .int .u32 c.off, .int .u32 c.size, .slice A c.data.length k] 28) :: L) := by
                      first | exact X | (simp only [fieldsB, hasKind, List.append_assoc, List.append_nil, hg1, hc1, hc2, hc3, hc4, hc5, hc6, hc7, hc8, List.length_nil, cond_true, cond_false, Bool.not_true, Bool.not_false, Bool.and_true, Bool.and_false, Bool.true_and, Bool.false_and]; exact X) | (simp only [fieldsB, hasKind, List.append_assoc, List.append_nil, hg1, hc1, hc2, hc3, hc4, hc5, hc6, hc7, hc8, List.length_nil, cond_true, cond_false, Bool.not_true, Bool.not_false, Bool.and_true, Bool.and_false, Bool.true_and, Bool.false_and] at X ⊢; exact X)
                    exact ⟨by first | simp only [fieldsB, hasKind, List.append_assoc, List.append_nil, hg1, hc1, hc2, hc3, hc4, hc5, hc6, hc7, hc8, List.length_nil, cond_true, cond_false, Bool.not_true, Bool.not_false, Bool.and_true, Bool.and_false, Bool.true_and, Bool.false_and] | rfl, hX⟩
                  · intro hc8
                    have hc8' := neB hc8
                    refine WK.seq ?_
                    refine st_text 2 rfl ?_
                    refine st_run 0 2 0 [(65, .bool ((c.kind : Int) == 5)), (66, .bool ((c.kind : Int) == 5))] H (by kernel_rfl) fun a H => ?_
                    refine ops_end _ ?_
                    refine st_cond ((c.kind : Int) == 5) H (by kernel_rfl) ?_ ?_
                    · intro hc9
                      have hc9' := eq_of_beq hc9
                      refine WK.seq ?_
                      refine st_floatsM [false, false] [.mv 0, .mv 1, .mv 2, .mv 3, .mv 4, .mv 5, .mv 6, .op 7] rfl (by kernel_rfl) (by kernel_rfl) (by kernel_rfl) H ?_
                      refine z_mv 0 (d := 67) (.iface 178 (.agg #[.pointer (some ⟨wb, 0, none⟩)])) (IsVal.of_run rfl fun w => (by kernel_rfl)) (by kernel_rfl) ?_
                      refine z_mv 1 (d := 68) (.pointer (some ⟨cb, 0, none⟩)) (IsVal.of_run rfl fun w => (by kernel_rfl)) (by kernel_rfl) ?_
                      refine z_mv 2 (d := 69) (.pointer (some ⟨cb, 0, none⟩)) (IsVal.of_run rfl fun w => (by kernel_rfl)) (by kernel_rfl) ?_
                      refine z_mv 3 (d := 70) (.pointer (some ⟨cb, 10, none⟩)) (IsVal.of_run rfl fun w => (by kernel_rfl)) (by kernel_rfl) ?_
                      refine z_mv 4 (d := 71) (.func (.method "Number32") #[.iface 178 (.agg #[.pointer (some ⟨wb, 0, none⟩)])] #[]) (IsVal.of_run rfl fun w => (by kernel_rfl)) (by kernel_rfl) ?_
                      refine z_mv 5 (d := 72) (.func (.method "Number32") #[.iface 178 (.agg #[.pointer (some ⟨wb, 0, none⟩)])] #[]) (IsVal.of_run rfl fun w => (by kernel_rfl)) (by kernel_rfl) ?_
                      refine z_mv 6 (d := 73) (.iface 178 (.agg #[.pointer (some ⟨wb, 0, none⟩)])) (IsVal.of_run rfl fun w => (by kernel_rfl)) (by kernel_rfl) ?_
                      refine z_op 7 rfl fun a w Z H => ?_
                      refine op_call (d := 74) H (by kernel_rfl) rfl (out_number wb (bs ++ be 4 c.ino.toNat ++ be 4 c.gen.toNat) cb _ _ 10 c.off (by first | assumption | omega) (by first | assumption | omega) (by first | assumption | omega | (simp only [List.length_append, be_length, List.length_nil]; omega) | (have hl1 := laid_length (txt c.name); have hl2 : (txt c.name).length = c.name.size := Array.length_toList (xs := c.name.data); simp only [List.length_append, be_length, List.length_nil]; omega)) (by kernel_rfl) ((H.sat.frontZ 1 rfl).frontZ 1 rfl)) fun a v w q F => ?_
                      have X := q
                      have H := St.mk F X
                      refine z_on (wrR wb ((bs ++ be 4 c.ino.toNat ++ be 4 c.gen.toNat) ++ be 4 c.off.toNat) :: blk cb (.cells #[.int .u8 c.client, .int .u32 c.inc, .int .u64 c.seq, .int .u8 c.kind, .int .u32 c.ino, .int .u32 c.gen, .string c.name, .int .u32 c.toIno, .int .u32 c.toGen, .string c.toName, .int .u32 c.off, .int .u32 c.size, .slice A c.data.length k] 28) :: L) H (fun w Z X => X.mskZ [false, false] (by kernel_rfl)) (by kernel_rfl) ?_
                      refine z_end [] fun a w H => ?_
                      refine st_text 5 rfl ?_
                      refine st_run 0 4 1 [(78, .pointer (some ⟨cb, 12, none⟩)), (77, .pointer (some ⟨cb, 0, none⟩)), (76, .pointer (some ⟨cb, 0, none⟩)), (75, .iface 178 (.agg #[.pointer (some ⟨wb, 0, none⟩)]))] H (by kernel_rfl) fun a H => ?_
                      refine st_op 4 0 (op_call (d := 79) H (by kernel_rfl) rfl (out_octets wb ((bs ++ be 4 c.ino.toNat ++ be 4 c.gen.toNat) ++ be 4 c.off.toNat) cb _ _ 12 A k c.data (by first | assumption | omega | (simp only [List.length_append, be_length, List.length_nil]; omega) | (have hl1 := laid_length (txt c.name); have hl2 : (txt c.name).length = c.name.size := Array.length_toList (xs := c.name.data); simp only [List.length_append, be_length, List.length_nil]; omega)) (by first | assumption | omega) (by first | assumption | omega) (by kernel_rfl) ((H.sat.front 1 rfl).front 1 rfl)) fun a v w q F => ?_)
                      have X := q
                      have H := St.mk F X
                      refine ops_end _ ?_
                      refine WK.inBlock ?_
                      refine WK.seq ?_
                      refine st_text 1 rfl ?_
                      refine st_run 0 1 0 [(4, .bool true)] H (by kernel_rfl) fun a H => ?_
                      refine ops_end _ ?_
                      refine st_ret (vs := [.bool true]) H Tryd.func100 rfl (.tmp (by kernel_rfl) (.nil)) ?_
                      have X := ((H.sat.front 1 rfl).front 1 rfl)
                      have hX : Sat e w R (wrR wb (bs ++ fieldsB c) :: blk cb (.cells #[.int .u8 c.client, .int .u32 c.inc, .int .u64 c.seq, .int .u8 c.kind, .int .u32 c.ino, .int .u32 c.gen, .string c.name, .int .u32 c.toIno, .int .u32 c.toGen, .string c.toName, .int .u32 c.off, .int .u32 c.size, .slice A c.data.length k] 28) :: L) := by
                        first | exact X | (simp only [fieldsB, hasKind, List.append_assoc, List.append_nil, hg1, hc1, hc2, hc3, hc4, hc5, hc6, hc7, hc8, hc9, List.length_nil, cond_true, cond_false, Bool.not_true, Bool.not_false, Bool.and_true, Bool.and_false, Bool.true_and, Bool.false_and]; exact X) | (simp only [fieldsB, hasKind, List.append_assoc, List.append_nil, hg1, hc1, hc2, hc3, hc4, hc5, hc6, hc7, hc8, hc9, List.length_nil, cond_true, cond_false, Bool.not_true, Bool.not_false, Bool.and_true, Bool.and_false, Bool.true_and, Bool.false_and] at X ⊢; exact X)
                      exact ⟨by first | simp only [fieldsB, hasKind, List.append_assoc, List.append_nil, hg1, hc1, hc2, hc3, hc4, hc5, hc6, hc7, hc8, hc9, List.length_nil, cond_true, cond_false, Bool.not_true, Bool.not_false, Bool.and_true, Bool.and_false, Bool.true_and, Bool.false_and] | rfl, hX⟩
                    · intro hc9
                      have hc9' := neB hc9
                      refine WK.seq ?_
                      refine st_text 2 rfl ?_
                      refine st_run 0 2 0 [(80, .bool ((c.kind : Int) == 11)), (81, .bool ((c.kind : Int) == 11))] H (by kernel_rfl) fun a H => ?_
                      refine ops_end _ ?_
                      refine st_cond ((c.kind : Int) == 11) H (by kernel_rfl) ?_ ?_
                      · intro hc10
                        have hc10' := eq_of_beq hc10
                        refine WK.seq ?_
                        refine st_text 5 rfl ?_
                        refine st_run 0 4 1 [(85, .pointer (some ⟨cb, 6, none⟩)), (84, .pointer (some ⟨cb, 0, none⟩)), (83, .pointer (some ⟨cb, 0, none⟩)), (82, .iface 178 (.agg #[.pointer (some ⟨wb, 0, none⟩)]))] H (by kernel_rfl) fun a H => ?_
                        refine st_op 4 0 (op_call (d := 86) H (by kernel_rfl) rfl (out_text wb (bs ++ be 4 c.ino.toNat ++ be 4 c.gen.toNat) cb _ _ 6 c.name (by first | assumption | omega | (simp only [List.length_append, be_length, List.length_nil]; omega) | (have hl1 := laid_length (txt c.name); have hl2 : (txt c.name).length = c.name.size := Array.length_toList (xs := c.name.data); simp only [List.length_append, be_length, List.length_nil]; omega)) (by first | assumption | omega) (by kernel_rfl) ((H.sat.front 1 rfl).front 1 rfl)) fun a v w q F => ?_)
                        have X := q
                        have H := St.mk F X
                        refine ops_end _ ?_
                        refine WK.seq ?_
                        refine st_text 5 rfl ?_
                        refine st_run 0 4 1 [(90, .pointer (some ⟨cb, 7, none⟩)), (89, .pointer (some ⟨cb, 0, none⟩)), (88, .pointer (some ⟨cb, 0, none⟩)), (87, .iface 178 (.agg #[.pointer (some ⟨wb, 0, none⟩)]))] H (by kernel_rfl) fun a H => ?_
                        refine st_op 4 0 (op_call (d := 91) H (by kernel_rfl) rfl (out_handle wb ((bs ++ be 4 c.ino.toNat ++ be 4 c.gen.toNat) ++ laid (txt c.name)) cb _ _ 7 c.toIno c.toGen (by first | assumption | omega) (by first | assumption | omega) (by first | assumption | omega) (by first | assumption | omega) (by first | assumption | omega | (simp only [List.length_append, be_length, List.length_nil]; omega) | (have hl1 := laid_length (txt c.name); have hl2 : (txt c.name).length = c.name.size := Array.length_toList (xs := c.name.data); simp only [List.length_append, be_length, List.length_nil]; omega)) (by kernel_rfl) (by kernel_rfl) ((H.sat.front 1 rfl).front 1 rfl)) fun a v w q F => ?_)
                        have X := q
                        have H := St.mk F X
                        refine ops_end _ ?_
                        refine st_text 5 rfl ?_
                        refine st_run 0 4 1 [(95, .pointer (some ⟨cb, 9, none⟩)), (94, .pointer (some ⟨cb, 0, none⟩)), (93, .pointer (some ⟨cb, 0, none⟩)), (92, .iface 178 (.agg #[.pointer (some ⟨wb, 0, none⟩)]))] H (by kernel_rfl) fun a H => ?_
                        refine st_op 4 0 (op_call (d := 96) H (by kernel_rfl) rfl (out_text wb (((bs ++ be 4 c.ino.toNat ++ be 4 c.gen.toNat) ++ laid (txt c.name)) ++ be 4 c.toIno.toNat ++ be 4 c.toGen.toNat) cb _ _ 9 c.toName (by first | assumption | omega | (simp only [List.length_append, be_length, List.length_nil]; omega) | (have hl1 := laid_length (txt c.name); have hl2 : (txt c.name).length = c.name.size := Array.length_toList (xs := c.name.data); simp only [List.length_append, be_length, List.length_nil]; omega)) (by first | assumption | omega) (by kernel_rfl) ((H.sat.front 1 rfl).front 1 rfl)) fun a v w q F => ?_)
                        have X := q
                        have H := St.mk F X
                        refine ops_end _ ?_
                        refine WK.inBlock ?_
                        refine WK.seq ?_
                        refine st_text 1 rfl ?_
                        refine st_run 0 1 0 [(4, .bool true)] H (by kernel_rfl) fun a H => ?_
                        refine ops_end _ ?_
                        refine st_ret (vs := [.bool true]) H Tryd.func100 rfl (.tmp (by kernel_rfl) (.nil)) ?_
                        have X := ((H.sat.front 1 rfl).front 1 rfl)
                        have hX : Sat e w R (wrR wb (bs ++ fieldsB c) :: blk cb (.cells #[.int .u8 c.client, .int .u32 c.inc, .int .u64 c.seq, .int .u8 c.kind, .int .u32 c.ino, .int .u32 c.gen, .string c.name, .int .u32 c.toIno, .int .u32 c.toGen, .string c.toName, .int .u32 c.off, .int .u32 c.size, .slice A c.data.length k] 28) :: L) := by
                          first | exact X | (simp only [fieldsB, hasKind, List.append_assoc, List.append_nil, hg1, hc1, hc2, hc3, hc4, hc5, hc6, hc7, hc8, hc9, hc10, List.length_nil, cond_true, cond_false, Bool.not_true, Bool.not_false, Bool.and_true, Bool.and_false, Bool.true_and, Bool.false_and]; exact X) | (simp only [fieldsB, hasKind, List.append_assoc, List.append_nil, hg1, hc1, hc2, hc3, hc4, hc5, hc6, hc7, hc8, hc9, hc10, List.length_nil, cond_true, cond_false, Bool.not_true, Bool.not_false, Bool.and_true, Bool.and_false, Bool.true_and, Bool.false_and] at X ⊢; exact X)
                        exact ⟨by first | simp only [fieldsB, hasKind, List.append_assoc, List.append_nil, hg1, hc1, hc2, hc3, hc4, hc5, hc6, hc7, hc8, hc9, hc10, List.length_nil, cond_true, cond_false, Bool.not_true, Bool.not_false, Bool.and_true, Bool.and_false, Bool.true_and, Bool.false_and] | rfl, hX⟩
                      · intro hc10
                        have hc10' := neB hc10
                        refine WK.skip ?_
                        refine WK.inBlock ?_
                        refine WK.seq ?_
                        refine st_text 1 rfl ?_
                        refine st_run 0 1 0 [(4, .bool true)] H (by kernel_rfl) fun a H => ?_
                        refine ops_end _ ?_
                        refine st_ret (vs := [.bool true]) H Tryd.func100 rfl (.tmp (by kernel_rfl) (.nil)) ?_
                        have X := ((H.sat.front 1 rfl).front 1 rfl)
                        have hX : Sat e w R (wrR wb (bs ++ fieldsB c) :: blk cb (.cells #[.int .u8 c.client, .int .u32 c.inc, .int .u64 c.seq, .int .u8 c.kind, .int .u32 c.ino, .int .u32 c.gen, .string c.name, .int .u32 c.toIno, .int .u32 c.toGen, .string c.toName, .int .u32 c.off, .int .u32 c.size, .slice A c.data.length k] 28) :: L) := by
                          first | exact X | (simp only [fieldsB, hasKind, List.append_assoc, List.append_nil, hg1, hc1, hc2, hc3, hc4, hc5, hc6, hc7, hc8, hc9, hc10, List.length_nil, cond_true, cond_false, Bool.not_true, Bool.not_false, Bool.and_true, Bool.and_false, Bool.true_and, Bool.false_and]; exact X) | (simp only [fieldsB, hasKind, List.append_assoc, List.append_nil, hg1, hc1, hc2, hc3, hc4, hc5, hc6, hc7, hc8, hc9, hc10, List.length_nil, cond_true, cond_false, Bool.not_true, Bool.not_false, Bool.and_true, Bool.and_false, Bool.true_and, Bool.false_and] at X ⊢; exact X)
                        exact ⟨by first | simp only [fieldsB, hasKind, List.append_assoc, List.append_nil, hg1, hc1, hc2, hc3, hc4, hc5, hc6, hc7, hc8, hc9, hc10, List.length_nil, cond_true, cond_false, Bool.not_true, Bool.not_false, Bool.and_true, Bool.and_false, Bool.true_and, Bool.false_and] | rfl, hX⟩

/-- wharfage/call.fields -/
theorem in_fields {e w : World} {R : Hp} {L : List HP} (rb : Nat) (r : Rdr) (cb : Nat) (c : CallS) (A : Option Addr) (k : Nat) (hd : RdB R A k c.data) (hn : c.name.size ≤ 1000000) (hn2 : c.toName.size ≤ 1000000) (X : Sat e w R (rdrR R rb r :: blk cb (.cells #[.int .u8 c.client, .int .u32 c.inc, .int .u64 c.seq, .int .u8 c.kind, .int .u32 c.ino, .int .u32 c.gen, .string c.name, .int .u32 c.toIno, .int .u32 c.toGen, .string c.toName, .int .u32 c.off, .int .u32 c.size, .slice A c.data.length k] 28) :: L)) :
    Calls Tryd.prog 100 #[.iface 186 (.agg #[.pointer (some ⟨rb, 0, none⟩)]), .pointer (some ⟨cb, 0, none⟩)] w (Ret fun v w' => ∃ R', R.Le R' ∧ ∃ c2 : CallS, ∃ r2 : Rdr, ∃ A1 : Option Addr, ∃ c1 : Nat, (fieldsR c r = (c2, r2)) ∧ (RdB R' A1 c1 c2.data) ∧ v = .bool (hasKind c) ∧ Sat e w' R' (rdrR R' rb r2 :: blk cb (.cells #[.int .u8 c2.client, .int .u32 c2.inc, .int .u64 c2.seq, .int .u8 c2.kind, .int .u32 c2.ino, .int .u32 c2.gen, .string c2.name, .int .u32 c2.toIno, .int .u32 c2.toGen, .string c2.toName, .int .u32 c2.off, .int .u32 c2.size, .slice A1 c2.data.length c1] 28) :: L)) := by
  refine enter (n := 97) (args := [.iface 186 (.agg #[.pointer (some ⟨rb, 0, none⟩)]), .pointer (some ⟨cb, 0, none⟩)]) Tryd.func100 rfl rfl rfl X (fun a H => ?_)
  refine WK.seq ?_
  refine st_text 1 rfl ?_
  refine st_run 0 1 0 [(4, .bool false)] H (by kernel_rfl) fun a H => ?_
  refine ops_end _ ?_
  refine WK.seq ?_
  refine WK.seq ?_
  refine st_text 12 rfl ?_
  refine st_run 0 3 9 [(7, .pointer (some ⟨cb, 3, none⟩)), (6, .pointer (some ⟨cb, 0, none⟩)), (5, .pointer (some ⟨cb, 0, none⟩))] H (by kernel_rfl) fun a H => ?_
  refine st_op 3 8 (op_val (d := 8) (v := .int .u8 c.kind) H (val_ld (k := 1) (t := 5) (off := 3) rfl (by kernel_rfl) rfl (by kernel_rfl)) fun a H => ?_)
  refine st_run 4 2 6 [(10, .bool (decide ((c.kind : Int) < 1))), (9, .bool (decide ((c.kind : Int) < 1)))] H (by kernel_rfl) fun a H => ?_
  rcases Bool.eq_false_or_eq_true (decide ((c.kind : Int) < 1)) with hg1 | hg1
  · skip
    have H := H.also (d := 10) (u := .bool (decide ((c.kind : Int) < 1))) (v := .bool true) (by kernel_rfl) (congrArg Value.bool (hg1))
    have hg1' := of_decide_eq_true hg1
    refine st_run 6 6 0 [(16, .bool true), (15, undef), (14, undef), (13, undef), (12, undef), (11, undef)] H (by kernel_rfl) fun a H => ?_
    refine ops_end _ ?_
    refine st_true H (by kernel_rfl) ?_
    refine WK.seq ?_
    refine st_text 1 rfl ?_
    refine st_run 0 1 0 [(4, .bool false)] H (by kernel_rfl) fun a H => ?_
    refine ops_end _ ?_
    refine st_ret (vs := [.bool false]) H Tryd.func100 rfl (.tmp (by kernel_rfl) (.nil)) ?_
    have hz : fieldsR c r = (c, r) := by
      simp only [fieldsR, fieldsR2, hg1, List.length_nil, cond_true, cond_false, Bool.not_true, Bool.not_false, Bool.and_true, Bool.and_false, Bool.true_and, Bool.false_and]
    have hk : hasKind c = false := by
      simp only [hasKind, hg1, List.length_nil, cond_true, cond_false, Bool.not_true, Bool.not_false, Bool.and_true, Bool.and_false, Bool.true_and, Bool.false_and]
    exact ⟨R, Hp.Le.refl _, c, r, A, k, hz, hd, by rw [hk], ((H.sat.front 1 rfl).front 1 rfl)⟩
  · skip
    have H := H.also (d := 10) (u := .bool (decide ((c.kind : Int) < 1))) (v := .bool false) (by kernel_rfl) (congrArg Value.bool (hg1))
    have hg1' := of_decide_eq_false hg1
    refine st_run 6 3 3 [(13, .pointer (some ⟨cb, 3, none⟩)), (12, .pointer (some ⟨cb, 0, none⟩)), (11, .pointer (some ⟨cb, 0, none⟩))] H (by kernel_rfl) fun a H => ?_
    refine st_op 9 2 (op_val (d := 14) (v := .int .u8 c.kind) H (val_ld (k := 1) (t := 5) (off := 3) rfl (by kernel_rfl) rfl (by kernel_rfl)) fun a H => ?_)
    refine st_run 10 2 0 [(16, .bool (decide ((c.kind : Int) > 12))), (15, .bool (decide ((c.kind : Int) > 12)))] H (by kernel_rfl) fun a H => ?_
    refine ops_end _ ?_
    refine st_cond (decide ((c.kind : Int) > 12)) H (by kernel_rfl) ?_ ?_
    · intro hc1
      have hc1' := of_decide_eq_true hc1
      refine WK.seq ?_
      refine st_text 1 rfl ?_
      refine st_run 0 1 0 [(4, .bool false)] H (by kernel_rfl) fun a H => ?_
      refine ops_end _ ?_
      refine st_ret (vs := [.bool false]) H Tryd.func100 rfl (.tmp (by kernel_rfl) (.nil)) ?_
      have hz : fieldsR c r = (c, r) := by
        simp only [fieldsR, fieldsR2, hg1, hc1, List.length_nil, cond_true, cond_false, Bool.not_true, Bool.not_false, Bool.and_true, Bool.and_false, Bool.true_and, Bool.false_and]
      have hk : hasKind c = false := by
        simp only [hasKind, hg1, hc1, List.length_nil, cond_true, cond_false, Bool.not_true, Bool.not_false, Bool.and_true, Bool.and_false, Bool.true_and, Bool.false_and]
      exact ⟨R, Hp.Le.refl _, c, r, A, k, hz, hd, by rw [hk], ((H.sat.front 1 rfl).front 1 rfl)⟩
    · intro hc1
      have hc1' := of_decide_eq_false hc1
      refine WK.skip ?_
      refine WK.seq ?_
      refine st_text 5 rfl ?_
      refine st_run 0 4 1 [(20, .pointer (some ⟨cb, 4, none⟩)), (19, .pointer (some ⟨cb, 0, none⟩)), (18, .pointer (some ⟨cb, 0, none⟩)), (17, .iface 186 (.agg #[.pointer (some ⟨rb, 0, none⟩)]))] H (by kernel_rfl) fun a H => ?_
      refine st_op 4 0 (op_call (d := 21) H (by kernel_rfl) rfl (in_handle rb r cb _ _ 4 (by exact of_decide_eq_true rfl) ((H.sat.front 1 rfl).front 1 rfl)) fun a v w q F => ?_)
      obtain ⟨x_1, x_2, x_3, x_4, hf1, hf2, hf3, hf4, X⟩ := q
      have H := St.mk F X
      refine ops_end _ ?_
      refine WK.seq ?_
      refine WK.seq ?_
      refine st_text 4 rfl ?_
      refine st_run 0 3 1 [(24, .pointer (some ⟨cb, 3, none⟩)), (23, .pointer (some ⟨cb, 0, none⟩)), (22, .pointer (some ⟨cb, 0, none⟩))] H (by kernel_rfl) fun a H => ?_
      refine st_op 3 0 (op_val (d := 25) (v := .int .u8 c.kind) H (val_ld (k := 1) (t := 5) (off := 3) rfl (by kernel_rfl) rfl (by kernel_rfl)) fun a H => ?_)
      refine ops_end _ ?_
      refine WK.block ?_
      refine WK.seq ?_
      refine st_text 2 rfl ?_
      refine st_run 0 2 0 [(26, .bool ((c.kind : Int) == 2)), (27, .bool ((c.kind : Int) == 2))] H (by kernel_rfl) fun a H => ?_
      refine ops_end _ ?_
      refine st_cond ((c.kind : Int) == 2) H (by kernel_rfl) ?_ ?_
      · intro hc2
        have hc2' := eq_of_beq hc2
        refine st_floatsM [false, false] [.mv 0, .mv 1, .mv 2, .mv 3, .mv 4, .mv 5, .mv 6, .op 7] rfl (by kernel_rfl) (by kernel_rfl) (by kernel_rfl) H ?_
        refine z_mv 0 (d := 28) (.iface 186 (.agg #[.pointer (some ⟨rb, 0, none⟩)])) (IsVal.of_run rfl fun w => (by kernel_rfl)) (by kernel_rfl) ?_
        refine z_mv 1 (d := 29) (.pointer (some ⟨cb, 0, none⟩)) (IsVal.of_run rfl fun w => (by kernel_rfl)) (by kernel_rfl) ?_
        refine z_mv 2 (d := 30) (.pointer (some ⟨cb, 0, none⟩)) (IsVal.of_run rfl fun w => (by kernel_rfl)) (by kernel_rfl) ?_
        refine z_mv 3 (d := 31) (.pointer (some ⟨cb, 11, none⟩)) (IsVal.of_run rfl fun w => (by kernel_rfl)) (by kernel_rfl) ?_
        refine z_mv 4 (d := 32) (.func (.method "Number32") #[.iface 186 (.agg #[.pointer (some ⟨rb, 0, none⟩)])] #[]) (IsVal.of_run rfl fun w => (by kernel_rfl)) (by kernel_rfl) ?_
        refine z_mv 5 (d := 33) (.func (.method "Number32") #[.iface 186 (.agg #[.pointer (some ⟨rb, 0, none⟩)])] #[]) (IsVal.of_run rfl fun w => (by kernel_rfl)) (by kernel_rfl) ?_
        refine z_mv 6 (d := 34) (.iface 186 (.agg #[.pointer (some ⟨rb, 0, none⟩)])) (IsVal.of_run rfl fun w => (by kernel_rfl)) (by kernel_rfl) ?_
        refine z_op 7 rfl fun a w Z H => ?_
        refine op_call (d := 35) H (by kernel_rfl) rfl (in_number rb x_4 cb _ _ 11 (by exact of_decide_eq_true rfl) ((H.sat.frontZ 1 rfl).frontZ 1 rfl)) fun a v w q F => ?_
        obtain ⟨x_5, x_6, hf5, hf6, X⟩ := q
        have H := St.mk F X
        refine z_on (rdrR R rb x_6 :: blk cb (.cells #[.int .u8 c.client, .int .u32 c.inc, .int .u64 c.seq, .int .u8 c.kind, .int .u32 x_1, .int .u32 x_3, .string c.name, .int .u32 c.toIno, .int .u32 c.toGen, .string c.toName, .int .u32 c.off, .int .u32 x_5, .slice A c.data.length k] 28) :: L) H (fun w Z X => X.mskZ [false, false] (by kernel_rfl)) (by kernel_rfl) ?_
        refine z_end [] fun a w H => ?_
        refine WK.inBlock ?_
        refine WK.seq ?_
        refine st_text 1 rfl ?_
        refine st_run 0 1 0 [(4, .bool true)] H (by kernel_rfl) fun a H => ?_
        refine ops_end _ ?_
        refine st_ret (vs := [.bool true]) H Tryd.func100 rfl (.tmp (by kernel_rfl) (.nil)) ?_
        have hz : fieldsR c r = ((⟨c.client, c.inc, c.seq, c.kind, x_1, x_3, c.name, c.toIno, c.toGen, c.toName, c.off, x_5, c.data⟩ : CallS), x_6) := by
          simp only [fieldsR, fieldsR2, hg1, hc1, hc2, hf1, hf3, hf5, List.length_nil, cond_true, cond_false, Bool.not_true, Bool.not_false, Bool.and_true, Bool.and_false, Bool.true_and, Bool.false_and]
        have hk : hasKind c = true := by
          simp only [hasKind, hg1, hc1, hc2, hf1, hf3, hf5, List.length_nil, cond_true, cond_false, Bool.not_true, Bool.not_false, Bool.and_true, Bool.and_false, Bool.true_and, Bool.false_and]
        exact ⟨R, Hp.Le.refl _, (⟨c.client, c.inc, c.seq, c.kind, x_1, x_3, c.name, c.toIno, c.toGen, c.toName, c.off, x_5, c.data⟩ : CallS), x_6, A, k, hz, hd, by rw [hk], ((H.sat.front 1 rfl).front 1 rfl)⟩
      · intro hc2
        have hc2' := neB hc2
        refine WK.seq ?_
        refine WK.seq ?_
        refine st_text 2 rfl ?_
        refine st_run 0 2 0 [(36, .bool ((c.kind : Int) == 3)), (37, .bool ((c.kind : Int) == 3))] H (by kernel_rfl) fun a H => ?_
        refine ops_end _ ?_
        refine st_cond ((c.kind : Int) == 3) H (by kernel_rfl) ?_ ?_
        · intro hc3
          have hc3' := eq_of_beq hc3
          refine WK.skip ?_
          have H := H.also (d := 36) (u := .bool ((c.kind : Int) == 3)) (v := .bool true) (by kernel_rfl) (congrArg Value.bool (hc3))
          refine st_true H (by kernel_rfl) ?_
          refine st_text 5 rfl ?_
          refine st_run 0 4 1 [(45, .pointer (some ⟨cb, 6, none⟩)), (44, .pointer (some ⟨cb, 0, none⟩)), (43, .pointer (some ⟨cb, 0, none⟩)), (42, .iface 186 (.agg #[.pointer (some ⟨rb, 0, none⟩)]))] H (by kernel_rfl) fun a H => ?_
          refine st_op 4 0 (op_call (d := 46) H (by kernel_rfl) rfl (in_text rb x_4 cb _ _ 6 c.name (by first | assumption | omega) (by kernel_rfl) ((H.sat.front 1 rfl).front 1 rfl)) fun a v w q F => ?_)
          obtain ⟨R1, hle, x_7, x_8, hf7, X⟩ := q
          have H := St.mk F X
          have hd := hd.grow hle
          have hleR1 := hle
          refine ops_end _ ?_
          refine WK.inBlock ?_
          refine WK.seq ?_
          refine st_text 1 rfl ?_
          refine st_run 0 1 0 [(4, .bool true)] H (by kernel_rfl) fun a H => ?_
          refine ops_end _ ?_
          refine st_ret (vs := [.bool true]) H Tryd.func100 rfl (.tmp (by kernel_rfl) (.nil)) ?_
          have hz : fieldsR c r = ((⟨c.client, c.inc, c.seq, c.kind, x_1, x_3, strB x_7, c.toIno, c.toGen, c.toName, c.off, c.size, c.data⟩ : CallS), x_8) := by
            simp only [fieldsR, fieldsR2, hg1, hc1, hc2, hc3, hf1, hf3, hf7, List.length_nil, cond_true, cond_false, Bool.not_true, Bool.not_false, Bool.and_true, Bool.and_false, Bool.true_and, Bool.false_and]
          have hk : hasKind c = true := by
            simp only [hasKind, hg1, hc1, hc2, hc3, hf1, hf3, hf7, List.length_nil, cond_true, cond_false, Bool.not_true, Bool.not_false, Bool.and_true, Bool.and_false, Bool.true_and, Bool.false_and]
          exact ⟨R1, hleR1, (⟨c.client, c.inc, c.seq, c.kind, x_1, x_3, strB x_7, c.toIno, c.toGen, c.toName, c.off, c.size, c.data⟩ : CallS), x_8, A, k, hz, hd, by rw [hk], ((H.sat.front 1 rfl).front 1 rfl)⟩
        · intro hc3
          have hc3' := neB hc3
          refine WK.seq ?_
          refine st_text 2 rfl ?_
          refine st_run 0 2 0 [(36, .bool ((c.kind : Int) == 7)), (38, .bool ((c.kind : Int) == 7))] H (by kernel_rfl) fun a H => ?_
          refine ops_end _ ?_
          refine st_cond ((c.kind : Int) == 7) H (by kernel_rfl) ?_ ?_
          · intro hc4
            have hc4' := eq_of_beq hc4
            refine WK.skip ?_
            have H := H.also (d := 36) (u := .bool ((c.kind : Int) == 7)) (v := .bool true) (by kernel_rfl) (congrArg Value.bool (hc4))
            refine st_true H (by kernel_rfl) ?_
            refine st_text 5 rfl ?_
            refine st_run 0 4 1 [(45, .pointer (some ⟨cb, 6, none⟩)), (44, .pointer (some ⟨cb, 0, none⟩)), (43, .pointer (some ⟨cb, 0, none⟩)), (42, .iface 186 (.agg #[.pointer (some ⟨rb, 0, none⟩)]))] H (by kernel_rfl) fun a H => ?_
            refine st_op 4 0 (op_call (d := 46) H (by kernel_rfl) rfl (in_text rb x_4 cb _ _ 6 c.name (by first | assumption | omega) (by kernel_rfl) ((H.sat.front 1 rfl).front 1 rfl)) fun a v w q F => ?_)
            obtain ⟨R2, hle, x_9, x_10, hf8, X⟩ := q
            have H := St.mk F X
            have hd := hd.grow hle
            have hleR2 := hle
            refine ops_end _ ?_
            refine WK.inBlock ?_
            refine WK.seq ?_
            refine st_text 1 rfl ?_
            refine st_run 0 1 0 [(4, .bool true)] H (by kernel_rfl) fun a H => ?_
            refine ops_end _ ?_
            refine st_ret (vs := [.bool true]) H Tryd.func100 rfl (.tmp (by kernel_rfl) (.nil)) ?_
            have hz : fieldsR c r = ((⟨c.client, c.inc, c.seq, c.kind, x_1, x_3, strB x_9, c.toIno, c.toGen, c.toName, c.off, c.size, c.data⟩ : CallS), x_10) := by
              simp only [fieldsR, fieldsR2, hg1, hc1, hc2, hc3, hc4, hf1, hf3, hf8, List.length_nil, cond_true, cond_false, Bool.not_true, Bool.not_false, Bool.and_true, Bool.and_false, Bool.true_and, Bool.false_and]
            have hk : hasKind c = true := by
              simp only [hasKind, hg1, hc1, hc2, hc3, hc4, hf1, hf3, hf8, List.length_nil, cond_true, cond_false, Bool.not_true, Bool.not_false, Bool.and_true, Bool.and_false, Bool.true_and, Bool.false_and]
            exact ⟨R2, hleR2, (⟨c.client, c.inc, c.seq, c.kind, x_1, x_3, strB x_9, c.toIno, c.toGen, c.toName, c.off, c.size, c.data⟩ : CallS), x_10, A, k, hz, hd, by rw [hk], ((H.sat.front 1 rfl).front 1 rfl)⟩
          · intro hc4
            have hc4' := neB hc4
            refine WK.seq ?_
            refine st_text 2 rfl ?_
            refine st_run 0 2 0 [(36, .bool ((c.kind : Int) == 8)), (39, .bool ((c.kind : Int) == 8))] H (by kernel_rfl) fun a H => ?_
            refine ops_end _ ?_
            refine st_cond ((c.kind : Int) == 8) H (by kernel_rfl) ?_ ?_
            · intro hc5
              have hc5' := eq_of_beq hc5
              refine WK.skip ?_
              have H := H.also (d := 36) (u := .bool ((c.kind : Int) == 8)) (v := .bool true) (by kernel_rfl) (congrArg Value.bool (hc5))
              refine st_true H (by kernel_rfl) ?_
              refine st_text 5 rfl ?_
              refine st_run 0 4 1 [(45, .pointer (some ⟨cb, 6, none⟩)), (44, .pointer (some ⟨cb, 0, none⟩)), (43, .pointer (some ⟨cb, 0, none⟩)), (42, .iface 186 (.agg #[.pointer (some ⟨rb, 0, none⟩)]))] H (by kernel_rfl) fun a H => ?_
              refine st_op 4 0 (op_call (d := 46) H (by kernel_rfl) rfl (in_text rb x_4 cb _ _ 6 c.name (by first | assumption | omega) (by kernel_rfl) ((H.sat.front 1 rfl).front 1 rfl)) fun a v w q F => ?_)
              obtain ⟨R3, hle, x_11, x_12, hf9, X⟩ := q
              have H := St.mk F X
              have hd := hd.grow hle
              have hleR3 := hle
              refine ops_end _ ?_
              refine WK.inBlock ?_
              refine WK.seq ?_
              refine st_text 1 rfl ?_
              refine st_run 0 1 0 [(4, .bool true)] H (by kernel_rfl) fun a H => ?_
              refine ops_end _ ?_
              refine st_ret (vs := [.bool true]) H Tryd.func100 rfl (.tmp (by kernel_rfl) (.nil)) ?_
              have hz : fieldsR c r = ((⟨c.client, c.inc, c.seq, c.kind, x_1, x_3, strB x_11, c.toIno, c.toGen, c.toName, c.off, c.size, c.data⟩ : CallS), x_12) := by
                simp only [fieldsR, fieldsR2, hg1, hc1, hc2, hc3, hc4, hc5, hf1, hf3, hf9, List.length_nil, cond_true, cond_false, Bool.not_true, Bool.not_false, Bool.and_true, Bool.and_false, Bool.true_and, Bool.false_and]
              have hk : hasKind c = true := by
                simp only [hasKind, hg1, hc1, hc2, hc3, hc4, hc5, hf1, hf3, hf9, List.length_nil, cond_true, cond_false, Bool.not_true, Bool.not_false, Bool.and_true, Bool.and_false, Bool.true_and, Bool.false_and]
              exact ⟨R3, hleR3, (⟨c.client, c.inc, c.seq, c.kind, x_1, x_3, strB x_11, c.toIno, c.toGen, c.toName, c.off, c.size, c.data⟩ : CallS), x_12, A, k, hz, hd, by rw [hk], ((H.sat.front 1 rfl).front 1 rfl)⟩
            · intro hc5
              have hc5' := neB hc5
              refine WK.seq ?_
              refine st_text 2 rfl ?_
              refine st_run 0 2 0 [(36, .bool ((c.kind : Int) == 9)), (40, .bool ((c.kind : Int) == 9))] H (by kernel_rfl) fun a H => ?_
              refine ops_end _ ?_
              refine st_cond ((c.kind : Int) == 9) H (by kernel_rfl) ?_ ?_
              · intro hc6
                have hc6' := eq_of_beq hc6
                refine WK.skip ?_
                have H := H.also (d := 36) (u := .bool ((c.kind : Int) == 9)) (v := .bool true) (by kernel_rfl) (congrArg Value.bool (hc6))
                refine st_true H (by kernel_rfl) ?_
                refine st_text 5 rfl ?_
                refine st_run 0 4 1 [(45, .pointer (some ⟨cb, 6, none⟩)), (44, .pointer (some ⟨cb, 0, none⟩)), (43, .pointer (some ⟨cb, 0, none⟩)), (42, .iface 186 (.agg #[.pointer (some ⟨rb, 0, none⟩)]))] H (by kernel_rfl) fun a H => ?_
                refine st_op 4 0 (op_call (d := 46) H (by kernel_rfl) rfl (in_text rb x_4 cb _ _ 6 c.name (by first | assumption | omega) (by kernel_rfl) ((H.sat.front 1 rfl).front 1 rfl)) fun a v w q F => ?_)
                obtain ⟨R4, hle, x_13, x_14, hf10, X⟩ := q
                have H := St.mk F X
                have hd := hd.grow hle
                have hleR4 := hle
                refine ops_end _ ?_
                refine WK.inBlock ?_
                refine WK.seq ?_
                refine st_text 1 rfl ?_
                refine st_run 0 1 0 [(4, .bool true)] H (by kernel_rfl) fun a H => ?_
                refine ops_end _ ?_
                refine st_ret (vs := [.bool true]) H Tryd.func100 rfl (.tmp (by kernel_rfl) (.nil)) ?_
                have hz : fieldsR c r = ((⟨c.client, c.inc, c.seq, c.kind, x_1, x_3, strB x_13, c.toIno, c.toGen, c.toName, c.off, c.size, c.data⟩ : CallS), x_14) := by
                  simp only [fieldsR, fieldsR2, hg1, hc1, hc2, hc3, hc4, hc5, hc6, hf1, hf3, hf10, List.length_nil, cond_true, cond_false, Bool.not_true, Bool.not_false, Bool.and_true, Bool.and_false, Bool.true_and, Bool.false_and]
                have hk : hasKind c = true := by
                  simp only [hasKind, hg1, hc1, hc2, hc3, hc4, hc5, hc6, hf1, hf3, hf10, List.length_nil, cond_true, cond_false, Bool.not_true, Bool.not_false, Bool.and_true, Bool.and_false, Bool.true_and, Bool.false_and]
                exact ⟨R4, hleR4, (⟨c.client, c.inc, c.seq, c.kind, x_1, x_3, strB x_13, c.toIno, c.toGen, c.toName, c.off, c.size, c.data⟩ : CallS), x_14, A, k, hz, hd, by rw [hk], ((H.sat.front 1 rfl).front 1 rfl)⟩
              · intro hc6
                have hc6' := neB hc6
                refine st_text 2 rfl ?_
                refine st_run 0 2 0 [(36, .bool ((c.kind : Int) == 10)), (41, .bool ((c.kind : Int) == 10))] H (by kernel_rfl) fun a H => ?_
                refine ops_end _ ?_
                refine st_cond ((c.kind : Int) == 10) H (by kernel_rfl) ?_ ?_
                · intro hc7
                  have hc7' := eq_of_beq hc7
                  refine st_text 5 rfl ?_
                  refine st_run 0 4 1 [(45, .pointer (some ⟨cb, 6, none⟩)), (44, .pointer (some ⟨cb, 0, none⟩)), (43, .pointer (some ⟨cb, 0, none⟩)), (42, .iface 186 (.agg #[.pointer (some ⟨rb, 0, none⟩)]))] H (by kernel_rfl) fun a H => ?_
                  refine st_op 4 0 (op_call (d := 46) H (by kernel_rfl) rfl (in_text rb x_4 cb _ _ 6 c.name (by first | assumption | omega) (by kernel_rfl) ((H.sat.front 1 rfl).front 1 rfl)) fun a v w q F => ?_)
                  obtain ⟨R5, hle, x_15, x_16, hf11, X⟩ := q
                  have H := St.mk F X
                  have hd := hd.grow hle
                  have hleR5 := hle
                  refine ops_end _ ?_
                  refine WK.inBlock ?_
                  refine WK.seq ?_
                  refine st_text 1 rfl ?_
                  refine st_run 0 1 0 [(4, .bool true)] H (by kernel_rfl) fun a H => ?_
                  refine ops_end _ ?_
                  refine st_ret (vs := [.bool true]) H Tryd.func100 rfl (.tmp (by kernel_rfl) (.nil)) ?_
                  have hz : fieldsR c r = ((⟨c.client, c.inc, c.seq, c.kind, x_1, x_3, strB x_15, c.toIno, c.toGen, c.toName, c.off, c.size, c.data⟩ : CallS), x_16) := by
                    simp only [fieldsR, fieldsR2, hg1, hc1, hc2, hc3, hc4, hc5, hc6, hc7, hf1, hf3, hf11, List.length_nil, cond_true, cond_false, Bool.not_true, Bool.not_false, Bool.and_true, Bool.and_false, Bool.true_and, Bool.false_and]
                  have hk : hasKind c = true := by
                    simp only [hasKind, hg1, hc1, hc2, hc3, hc4, hc5, hc6, hc7, hf1, hf3, hf11, List.length_nil, cond_true, cond_false, Bool.not_true, Bool.not_false, Bool.and_true, Bool.and_false, Bool.true_and, Bool.false_and]
                  exact ⟨R5, hleR5, (⟨c.client, c.inc, c.seq, c.kind, x_1, x_3, strB x_15, c.toIno, c.toGen, c.toName, c.off, c.size, c.data⟩ : CallS), x_16, A, k, hz, hd, by rw [hk], ((H.sat.front 1 rfl).front 1 rfl)⟩
                · intro hc7
                  have hc7' := neB hc7
                  refine WK.seq ?_
                  refine st_text 2 rfl ?_
                  refine st_run 0 2 0 [(47, .bool ((c.kind : Int) == 4)), (48, .bool ((c.kind : Int) == 4))] H (by kernel_rfl) fun a H => ?_
                  refine ops_end _ ?_
                  refine st_cond ((c.kind : Int) == 4) H (by kernel_rfl) ?_ ?_
                  · intro hc8
                    have hc8' := eq_of_beq hc8
                    refine WK.seq ?_
                    refine st_floatsM [false, false] [.mv 0, .mv 1, .mv 2, .mv 3, .mv 4, .mv 5, .mv 6, .op 7] rfl (by kernel_rfl) (by kernel_rfl) (by kernel_rfl) H ?_
                    refine z_mv 0 (d := 49) (.iface 186 (.agg #[.pointer (some ⟨rb, 0, none⟩)])) (IsVal.of_run rfl fun w => (by kernel_rfl)) (by kernel_rfl) ?_
                    refine z_mv 1 (d := 50) (.pointer (some ⟨cb, 0, none⟩)) (IsVal.of_run rfl fun w => (by kernel_rfl)) (by kernel_rfl) ?_
                    refine z_mv 2 (d := 51) (.pointer (some ⟨cb, 0, none⟩)) (IsVal.of_run rfl fun w => (by kernel_rfl)) (by kernel_rfl) ?_
                    refine z_mv 3 (d := 52) (.pointer (some ⟨cb, 10, none⟩)) (IsVal.of_run rfl fun w => (by kernel_rfl)) (by kernel_rfl) ?_
                    refine z_mv 4 (d := 53) (.func (.method "Number32") #[.iface 186 (.agg #[.pointer (some ⟨rb, 0, none⟩)])] #[]) (IsVal.of_run rfl fun w => (by kernel_rfl)) (by kernel_rfl) ?_
                    refine z_mv 5 (d := 54) (.func (.method "Number32") #[.iface 186 (.agg #[.pointer (some ⟨rb, 0, none⟩)])] #[]) (IsVal.of_run rfl fun w => (by kernel_rfl)) (by kernel_rfl) ?_
                    refine z_mv 6 (d := 55) (.iface 186 (.agg #[.pointer (some ⟨rb, 0, none⟩)])) (IsVal.of_run rfl fun w => (by kernel_rfl)) (by kernel_rfl) ?_
                    refine z_op 7 rfl fun a w Z H => ?_
                    refine op_call (d := 56) H (by kernel_rfl) rfl (in_number rb x_4 cb _ _ 10 (by exact of_decide_eq_true rfl) ((H.sat.frontZ 1 rfl).frontZ 1 rfl)) fun a v w q F => ?_
                    obtain ⟨x_17, x_18, hf12, hf13, X⟩ := q
                    have H := St.mk F X
                    refine z_on (rdrR R rb x_18 :: blk cb (.cells #[.int .u8 c.client, .int .u32 c.inc, .int .u64 c.seq, .int .u8 c.kind, .int .u32 x_1, .int .u32 x_3, .string c.name, .int .u32 c.toIno, .int .u32 c.toGen, .string c.toName, .int .u32 x_17, .int .u32 c.size, .slice A c.data.length k] 28) :: L) H (fun w Z X => X.mskZ [false, false] (by kernel_rfl)) (by kernel_rfl) ?_
                    refine z_end [] fun a w H => ?_
                    refine st_floatsM [false, false] [.mv 0, .mv 1, .mv 2, .mv 3, .mv 4, .mv 5, .mv 6, .op 7] rfl (by kernel_rfl) (by kernel_rfl) (by kernel_rfl) H ?_
                    refine z_mv 0 (d := 57) (.iface 186 (.agg #[.pointer (some ⟨rb, 0, none⟩)])) (IsVal.of_run rfl fun w => (by kernel_rfl)) (by kernel_rfl) ?_
                    refine z_mv 1 (d := 58) (.pointer (some ⟨cb, 0, none⟩)) (IsVal.of_run rfl fun w => (by kernel_rfl)) (by kernel_rfl) ?_
                    refine z_mv 2 (d := 59) (.pointer (some ⟨cb, 0, none⟩)) (IsVal.of_run rfl fun w => (by kernel_rfl)) (by kernel_rfl) ?_
                    refine z_mv 3 (d := 60) (.pointer (some ⟨cb, 11, none⟩)) (IsVal.of_run rfl fun w => (by kernel_rfl)) (by kernel_rfl) ?_
                    refine z_mv 4 (d := 61) (.func (.method "Number32") #[.iface 186 (.agg #[.pointer (some ⟨rb, 0, none⟩)])] #[]) (IsVal.of_run rfl fun w => (by kernel_rfl)) (by kernel_rfl) ?_
                    refine z_mv 5 (d := 62) (.func (.method "Number32") #[.iface 186 (.agg #[.pointer (some ⟨rb, 0, none⟩)])] #[]) (IsVal.of_run rfl fun w => (by kernel_rfl)) (by kernel_rfl) ?_
                    refine z_mv 6 (d := 63) (.iface 186 (.agg #[.pointer (some ⟨rb, 0, none⟩)])) (IsVal.of_run rfl fun w => (by kernel_rfl)) (by kernel_rfl) ?_
                    refine z_op 7 rfl fun a w Z H => ?_
                    refine op_call (d := 64) H (by kernel_rfl) rfl (in_number rb x_18 cb _ _ 11 (by exact of_decide_eq_true rfl) ((H.sat.frontZ 1 rfl).frontZ 1 rfl)) fun a v w q F => ?_
                    obtain ⟨x_19, x_20, hf14, hf15, X⟩ := q
                    have H := St.mk F X
                    refine z_on (rdrR R rb x_20 :: blk cb (.cells #[.int .u8 c.client, .int .u32 c.inc, .int .u64 c.seq, .int .u8 c.kind, .int .u32 x_1, .int .u32 x_3, .string c.name, .int .u32 c.toIno, .int .u32 c.toGen, .string c.toName, .int .u32 x_17, .int .u32 x_19, .slice A c.data.length k] 28) :: L) H (fun w Z X => X.mskZ [false, false] (by kernel_rfl)) (by kernel_rfl) ?_
                    refine z_end [] fun a w H => ?_
                    refine WK.inBlock ?_
                    refine WK.seq ?_
                    refine st_text 1 rfl ?_
                    refine st_run 0 1 0 [(4, .bool true)] H (by kernel_rfl) fun a H => ?_
                    refine ops_end _ ?_
                    refine st_ret (vs := [.bool true]) H Tryd.func100 rfl (.tmp (by kernel_rfl) (.nil)) ?_
                    have hz : fieldsR c r = ((⟨c.client, c.inc, c.seq, c.kind, x_1, x_3, c.name, c.toIno, c.toGen, c.toName, x_17, x_19, c.data⟩ : CallS), x_20) := by
                      simp only [fieldsR, fieldsR2, hg1, hc1, hc2, hc3, hc4, hc5, hc6, hc7, hc8, hf1, hf3, hf12, hf14, List.length_nil, cond_true, cond_false, Bool.not_true, Bool.not_false, Bool.and_true, Bool.and_false, Bool.true_and, Bool.false_and]
                    have hk : hasKind c = true := by
                      simp only [hasKind, hg1, hc1, hc2, hc3, hc4, hc5, hc6, hc7, hc8, hf1, hf3, hf12, hf14, List.length_nil, cond_true, cond_false, Bool.not_true, Bool.not_false, Bool.and_true, Bool.and_false, Bool.true_and, Bool.false_and]
                    exact ⟨R, Hp.Le.refl _, (⟨c.client, c.inc, c.seq, c.kind, x_1, x_3, c.name, c.toIno, c.toGen, c.toName, x_17, x_19, c.data⟩ : CallS), x_20, A, k, hz, hd, by rw [hk], ((H.sat.front 1 rfl).front 1 rfl)⟩
                  · intro hc8
                    have hc8' := neB hc8
                    refine WK.seq ?_
                    refine st_text 2 rfl ?_
                    refine st_run 0 2 0 [(65, .bool ((c.kind : Int) == 5)), (66, .bool ((c.kind : Int) == 5))] H (by kernel_rfl) fun a H => ?_
                    refine ops_end _ ?_
                    refine st_cond ((c.kind : Int) == 5) H (by kernel_rfl) ?_ ?_
                    · intro hc9
                      have hc9' := eq_of_beq hc9
                      refine WK.seq ?_
                      refine st_floatsM [false, false] [.mv 0, .mv 1, .mv 2, .mv 3, .mv 4, .mv 5, .mv 6, .op 7] rfl (by kernel_rfl) (by kernel_rfl) (by kernel_rfl) H ?_
                      refine z_mv 0 (d := 67) (.iface 186 (.agg #[.pointer (some ⟨rb, 0, none⟩)])) (IsVal.of_run rfl fun w => (by kernel_rfl)) (by kernel_rfl) ?_
                      refine z_mv 1 (d := 68) (.pointer (some ⟨cb, 0, none⟩)) (IsVal.of_run rfl fun w => (by kernel_rfl)) (by kernel_rfl) ?_
                      refine z_mv 2 (d := 69) (.pointer (some ⟨cb, 0, none⟩)) (IsVal.of_run rfl fun w => (by kernel_rfl)) (by kernel_rfl) ?_
                      refine z_mv 3 (d := 70) (.pointer (some ⟨cb, 10, none⟩)) (IsVal.of_run rfl fun w => (by kernel_rfl)) (by kernel_rfl) ?_
                      refine z_mv 4 (d := 71) (.func (.method "Number32") #[.iface 186 (.agg #[.pointer (some ⟨rb, 0, none⟩)])] #[]) (IsVal.of_run rfl fun w => (by kernel_rfl)) (by kernel_rfl) ?_
                      refine z_mv 5 (d := 72) (.func (.method "Number32") #[.iface 186 (.agg #[.pointer (some ⟨rb, 0, none⟩)])] #[]) (IsVal.of_run rfl fun w => (by kernel_rfl)) (by kernel_rfl) ?_
                      refine z_mv 6 (d := 73) (.iface 186 (.agg #[.pointer (some ⟨rb, 0, none⟩)])) (IsVal.of_run rfl fun w => (by kernel_rfl)) (by kernel_rfl) ?_
                      refine z_op 7 rfl fun a w Z H => ?_
                      refine op_call (d := 74) H (by kernel_rfl) rfl (in_number rb x_4 cb _ _ 10 (by exact of_decide_eq_true rfl) ((H.sat.frontZ 1 rfl).frontZ 1 rfl)) fun a v w q F => ?_
                      obtain ⟨x_21, x_22, hf16, hf17, X⟩ := q
                      have H := St.mk F X
                      refine z_on (rdrR R rb x_22 :: blk cb (.cells #[.int .u8 c.client, .int .u32 c.inc, .int .u64 c.seq, .int .u8 c.kind, .int .u32 x_1, .int .u32 x_3, .string c.name, .int .u32 c.toIno, .int .u32 c.toGen, .string c.toName, .int .u32 x_21, .int .u32 c.size, .slice A c.data.length k] 28) :: L) H (fun w Z X => X.mskZ [false, false] (by kernel_rfl)) (by kernel_rfl) ?_
                      refine z_end [] fun a w H => ?_
                      refine st_text 5 rfl ?_
                      refine st_run 0 4 1 [(78, .pointer (some ⟨cb, 12, none⟩)), (77, .pointer (some ⟨cb, 0, none⟩)), (76, .pointer (some ⟨cb, 0, none⟩)), (75, .iface 186 (.agg #[.pointer (some ⟨rb, 0, none⟩)]))] H (by kernel_rfl) fun a H => ?_
                      refine st_op 4 0 (op_call (d := 79) H (by kernel_rfl) rfl (in_octets rb x_22 cb _ _ 12 (by exact of_decide_eq_true rfl) ((H.sat.front 1 rfl).front 1 rfl)) fun a v w q F => ?_)
                      obtain ⟨R6, hle, x_23, x_24, X_1, x_25, hf18, hf19, X⟩ := q
                      have H := St.mk F X
                      have hd := hd.grow hle
                      have hleR6 := hle
                      refine ops_end _ ?_
                      refine WK.inBlock ?_
                      refine WK.seq ?_
                      refine st_text 1 rfl ?_
                      refine st_run 0 1 0 [(4, .bool true)] H (by kernel_rfl) fun a H => ?_
                      refine ops_end _ ?_
                      refine st_ret (vs := [.bool true]) H Tryd.func100 rfl (.tmp (by kernel_rfl) (.nil)) ?_
                      have hz : fieldsR c r = ((⟨c.client, c.inc, c.seq, c.kind, x_1, x_3, c.name, c.toIno, c.toGen, c.toName, x_21, c.size, x_23⟩ : CallS), x_24) := by
                        simp only [fieldsR, fieldsR2, hg1, hc1, hc2, hc3, hc4, hc5, hc6, hc7, hc8, hc9, hf1, hf3, hf16, hf18, List.length_nil, cond_true, cond_false, Bool.not_true, Bool.not_false, Bool.and_true, Bool.and_false, Bool.true_and, Bool.false_and]
                      have hk : hasKind c = true := by
                        simp only [hasKind, hg1, hc1, hc2, hc3, hc4, hc5, hc6, hc7, hc8, hc9, hf1, hf3, hf16, hf18, List.length_nil, cond_true, cond_false, Bool.not_true, Bool.not_false, Bool.and_true, Bool.and_false, Bool.true_and, Bool.false_and]
                      exact ⟨R6, hleR6, (⟨c.client, c.inc, c.seq, c.kind, x_1, x_3, c.name, c.toIno, c.toGen, c.toName, x_21, c.size, x_23⟩ : CallS), x_24, X_1, x_25, hz, hf19, by rw [hk], ((H.sat.front 1 rfl).front 1 rfl)⟩
                    · intro hc9
                      have hc9' := neB hc9
                      refine WK.seq ?_
                      refine st_text 2 rfl ?_
                      refine st_run 0 2 0 [(80, .bool ((c.kind : Int) == 11)), (81, .bool ((c.kind : Int) == 11))] H (by kernel_rfl) fun a H => ?_
                      refine ops_end _ ?_
                      refine st_cond ((c.kind : Int) == 11) H (by kernel_rfl) ?_ ?_
                      · intro hc10
                        have hc10' := eq_of_beq hc10
                        refine WK.seq ?_
                        refine st_text 5 rfl ?_
                        refine st_run 0 4 1 [(85, .pointer (some ⟨cb, 6, none⟩)), (84, .pointer (some ⟨cb, 0, none⟩)), (83, .pointer (some ⟨cb, 0, none⟩)), (82, .iface 186 (.agg #[.pointer (some ⟨rb, 0, none⟩)]))] H (by kernel_rfl) fun a H => ?_
                        refine st_op 4 0 (op_call (d := 86) H (by kernel_rfl) rfl (in_text rb x_4 cb _ _ 6 c.name (by first | assumption | omega) (by kernel_rfl) ((H.sat.front 1 rfl).front 1 rfl)) fun a v w q F => ?_)
                        obtain ⟨R7, hle, x_26, x_27, hf20, X⟩ := q
                        have H := St.mk F X
                        have hd := hd.grow hle
                        have hleR7 := hle
                        refine ops_end _ ?_
                        refine WK.seq ?_
                        refine st_text 5 rfl ?_
                        refine st_run 0 4 1 [(90, .pointer (some ⟨cb, 7, none⟩)), (89, .pointer (some ⟨cb, 0, none⟩)), (88, .pointer (some ⟨cb, 0, none⟩)), (87, .iface 186 (.agg #[.pointer (some ⟨rb, 0, none⟩)]))] H (by kernel_rfl) fun a H => ?_
                        refine st_op 4 0 (op_call (d := 91) H (by kernel_rfl) rfl (in_handle rb x_27 cb _ _ 7 (by exact of_decide_eq_true rfl) ((H.sat.front 1 rfl).front 1 rfl)) fun a v w q F => ?_)
                        obtain ⟨x_28, x_29, x_30, x_31, hf21, hf22, hf23, hf24, X⟩ := q
                        have H := St.mk F X
                        refine ops_end _ ?_
                        refine st_text 5 rfl ?_
                        refine st_run 0 4 1 [(95, .pointer (some ⟨cb, 9, none⟩)), (94, .pointer (some ⟨cb, 0, none⟩)), (93, .pointer (some ⟨cb, 0, none⟩)), (92, .iface 186 (.agg #[.pointer (some ⟨rb, 0, none⟩)]))] H (by kernel_rfl) fun a H => ?_
                        refine st_op 4 0 (op_call (d := 96) H (by kernel_rfl) rfl (in_text rb x_31 cb _ _ 9 c.toName (by first | assumption | omega) (by kernel_rfl) ((H.sat.front 1 rfl).front 1 rfl)) fun a v w q F => ?_)
                        obtain ⟨R8, hle, x_32, x_33, hf25, X⟩ := q
                        have H := St.mk F X
                        have hd := hd.grow hle
                        have hleR8 := hleR7.trans hle
                        refine ops_end _ ?_
                        refine WK.inBlock ?_
                        refine WK.seq ?_
                        refine st_text 1 rfl ?_
                        refine st_run 0 1 0 [(4, .bool true)] H (by kernel_rfl) fun a H => ?_
                        refine ops_end _ ?_
                        refine st_ret (vs := [.bool true]) H Tryd.func100 rfl (.tmp (by kernel_rfl) (.nil)) ?_
                        have hz : fieldsR c r = ((⟨c.client, c.inc, c.seq, c.kind, x_1, x_3, strB x_26, x_28, x_30, strB x_32, c.off, c.size, c.data⟩ : CallS), x_33) := by
                          simp only [fieldsR, fieldsR2, hg1, hc1, hc2, hc3, hc4, hc5, hc6, hc7, hc8, hc9, hc10, hf1, hf3, hf20, hf21, hf23, hf25, List.length_nil, cond_true, cond_false, Bool.not_true, Bool.not_false, Bool.and_true, Bool.and_false, Bool.true_and, Bool.false_and]
                        have hk : hasKind c = true := by
                          simp only [hasKind, hg1, hc1, hc2, hc3, hc4, hc5, hc6, hc7, hc8, hc9, hc10, hf1, hf3, hf20, hf21, hf23, hf25, List.length_nil, cond_true, cond_false, Bool.not_true, Bool.not_false, Bool.and_true, Bool.and_false, Bool.true_and, Bool.false_and]
                        exact ⟨R8, hleR8, (⟨c.client, c.inc, c.seq, c.kind, x_1, x_3, strB x_26, x_28, x_30, strB x_32, c.off, c.size, c.data⟩ : CallS), x_33, A, k, hz, hd, by rw [hk], ((H.sat.front 1 rfl).front 1 rfl)⟩
                      · intro hc10
                        have hc10' := neB hc10
                        refine WK.skip ?_
                        refine WK.inBlock ?_
                        refine WK.seq ?_
                        refine st_text 1 rfl ?_
                        refine st_run 0 1 0 [(4, .bool true)] H (by kernel_rfl) fun a H => ?_
                        refine ops_end _ ?_
                        refine st_ret (vs := [.bool true]) H Tryd.func100 rfl (.tmp (by kernel_rfl) (.nil)) ?_
                        have hz : fieldsR c r = ((⟨c.client, c.inc, c.seq, c.kind, x_1, x_3, c.name, c.toIno, c.toGen, c.toName, c.off, c.size, c.data⟩ : CallS), x_4) := by
                          simp only [fieldsR, fieldsR2, hg1, hc1, hc2, hc3, hc4, hc5, hc6, hc7, hc8, hc9, hc10, hf1, hf3, List.length_nil, cond_true, cond_false, Bool.not_true, Bool.not_false, Bool.and_true, Bool.and_false, Bool.true_and, Bool.false_and]
                        have hk : hasKind c = true := by
                          simp only [hasKind, hg1, hc1, hc2, hc3, hc4, hc5, hc6, hc7, hc8, hc9, hc10, hf1, hf3, List.length_nil, cond_true, cond_false, Bool.not_true, Bool.not_false, Bool.and_true, Bool.and_false, Bool.true_and, Bool.false_and]
                        exact ⟨R, Hp.Le.refl _, (⟨c.client, c.inc, c.seq, c.kind, x_1, x_3, c.name, c.toIno, c.toGen, c.toName, c.off, c.size, c.data⟩ : CallS), x_4, A, k, hz, hd, by rw [hk], ((H.sat.front 1 rfl).front 1 rfl)⟩
end Go.Proofs.YtldnpolfcickaaaDoor
