/- Numbers as bytes. -/
import Derived.Test.YtldnpolfcickaaaDoorTabs
import Derived.Test.YtldnpolfcickaaaDoorProg
set_option linter.unusedVariables false
set_option linter.unusedSimpArgs false
set_option maxRecDepth 100000
set_option maxHeartbeats 1000000
namespace Go.Proofs.YtldnpolfcickaaaDoor
open Go Go.WH

/-- wharfage/name.named -/
theorem named_is {e w : World} {R : Hp} {L : List HP} (x : Int) (X : Sat e w R (L)) :
    Calls Tryd.prog 157 #[.int .i32 x] w (Ret fun v w' => v = .bool (namedR x) ∧ Sat e w' R (L)) := by
  refine enter (n := 13) (args := [.int .i32 x]) Tryd.func157 rfl rfl rfl X (fun a H => ?_)
  refine WK.seq ?_
  refine st_text 1 rfl ?_
  refine st_run 0 1 0 [(2, .bool false)] H (by kernel_rfl) fun a H => ?_
  refine ops_end _ ?_
  refine WK.seq ?_
  refine st_text 11 rfl ?_
  refine st_run 0 3 8 [(5, .bool (decide ((x : Int) ≥ 32))), (4, .bool (decide ((x : Int) ≥ 32))), (3, .int .i32 x)] H (by kernel_rfl) fun a H => ?_
  rcases Bool.eq_false_or_eq_true (decide ((x : Int) ≥ 32)) with hg1 | hg1
  · skip
    have H := H.also (d := 5) (u := .bool (decide ((x : Int) ≥ 32))) (v := .bool true) (by kernel_rfl) (congrArg Value.bool (hg1))
    have hg1' := of_decide_eq_true hg1
    refine st_run 3 4 4 [(9, .bool (!((x : Int) == 127))), (8, .bool (!((x : Int) == 127))), (7, .bool (!((x : Int) == 127))), (6, .int .i32 x)] H (by kernel_rfl) fun a H => ?_
    rcases Bool.eq_false_or_eq_true (!((x : Int) == 127)) with hg2 | hg2
    · skip
      have H := H.also (d := 9) (u := .bool (!((x : Int) == 127))) (v := .bool true) (by kernel_rfl) (congrArg Value.bool (hg2))
      have hg2n := notT hg2
      have hg2' := neB (notT hg2)
      refine st_run 7 4 0 [(2, .bool (!((x : Int) == 47))), (12, .bool (!((x : Int) == 47))), (11, .bool (!((x : Int) == 47))), (10, .int .i32 x)] H (by kernel_rfl) fun a H => ?_
      refine ops_end _ ?_
      refine st_ret (vs := [.bool (!((x : Int) == 47))]) H Tryd.func157 rfl (.tmp (by kernel_rfl) (.nil)) ?_
      exact ⟨by first | rfl | simp only [namedR, hg1, hg2n, decide_true, Nat.add_sub_cancel, cond_true, cond_false, Bool.not_true, Bool.not_false, Bool.and_true, Bool.and_false, Bool.true_and, Bool.false_and], H.sat⟩
    · skip
      have H := H.also (d := 9) (u := .bool (!((x : Int) == 127))) (v := .bool false) (by kernel_rfl) (congrArg Value.bool (hg2))
      have hg2n := notF hg2
      have hg2' := eq_of_beq (notF hg2)
      refine st_run 7 4 0 [(2, .bool false), (12, .bool false), (11, undef), (10, undef)] H (by kernel_rfl) fun a H => ?_
      refine ops_end _ ?_
      refine st_ret (vs := [.bool false]) H Tryd.func157 rfl (.tmp (by kernel_rfl) (.nil)) ?_
      exact ⟨by first | rfl | simp only [namedR, hg1, hg2n, decide_true, Nat.add_sub_cancel, cond_true, cond_false, Bool.not_true, Bool.not_false, Bool.and_true, Bool.and_false, Bool.true_and, Bool.false_and], H.sat⟩
  · skip
    have H := H.also (d := 5) (u := .bool (decide ((x : Int) ≥ 32))) (v := .bool false) (by kernel_rfl) (congrArg Value.bool (hg1))
    have hg1' := of_decide_eq_false hg1
    refine st_run 3 8 0 [(2, .bool false), (12, .bool false), (11, undef), (10, undef), (9, .bool false), (8, .bool false), (7, undef), (6, undef)] H (by kernel_rfl) fun a H => ?_
    refine ops_end _ ?_
    refine st_ret (vs := [.bool false]) H Tryd.func157 rfl (.tmp (by kernel_rfl) (.nil)) ?_
    exact ⟨by first | rfl | simp only [namedR, hg1, decide_true, Nat.add_sub_cancel, cond_true, cond_false, Bool.not_true, Bool.not_false, Bool.and_true, Bool.and_false, Bool.true_and, Bool.false_and], H.sat⟩

theorem decode_rune {e w : World} {R : Hp} {L : List HP} (s : ByteArray) (hT : Tabs 0 1 R) (X : Sat e w R (L)) :
    Calls Tryd.prog 185 #[.string s] w (Ret fun v w' => v = .tuple #[.int .i32 (((Lib.decodeGo s).1 : Nat) : Int), .int .i64 (((Lib.decodeGo s).2 : Nat) : Int)] ∧ Sat e w' R (L)) := by
  exact (Any.utf8_DecodeRuneInString Tryd.lays197 s w (hT.utf8 X)).mono fun e w' ⟨h1, h2⟩ => ⟨_, h1, rfl, X.below h2⟩

/-- wharfage/name.runes -/
theorem name_runes {e w : World} {R : Hp} {L : List HP} (s : ByteArray) (hT : Tabs 0 1 R) (hs : s.size ≤ 32) (X : Sat e w R (L)) :
    Calls Tryd.prog 156 #[.string s, .func (.func 157) #[] #[]] w (Ret fun v w' => ∃ q : Int, v = .tuple #[.int .i64 q, .bool (namedAll s s.size 0)] ∧ Sat e w' R (L)) := by
  refine enter (n := 34) (args := [.string s, .func (.func 157) #[] #[]]) Tryd.func156 rfl rfl rfl X (fun a H => ?_)
  refine WK.seq ?_
  refine st_text 2 rfl ?_
  refine st_run 0 2 0 [(5, .bool false), (4, .int .i64 0)] H (by kernel_rfl) fun a H => ?_
  refine ops_end _ ?_
  refine WK.seq ?_
  refine WK.seq ?_
  refine st_text 2 rfl ?_
  refine st_run 0 1 1 [(10, .string s)] H (by kernel_rfl) fun a H => ?_
  refine st_op 1 0 (op_newO (d := 11) (vf := fun b => .pointer (some ⟨b, 0, none⟩)) (ob := Obj.stringIter s 0) H (IsNew.of_run rfl fun w => (by kernel_rfl)) fun a w b1 H => ?_)
  refine ops_end _ ?_
  refine WK.block ?_
  refine WK.loop (fun m a w => ∃ p : Nat, ∃ q : Int, ∃ k : Nat, (s.size - p) = m ∧ (namedAll s s.size 0 = namedAll s k p) ∧ (s.size - p ≤ k) ∧ (0 ≤ q ∧ q ≤ p) ∧ (p ≤ s.size + 4) ∧ St 34 e R a w [(0, .string s), (1, .func (.func 157) #[] #[]), (4, .int .i64 q), (11, .pointer (some ⟨b1, 0, none⟩))] (blk b1 (Obj.stringIter s p) :: L)) (s.size - 0) ⟨0, 0, s.size, rfl, rfl, by omega, by omega, by omega, H.sub' ⟨by kernel_rfl, by kernel_rfl, by kernel_rfl, by kernel_rfl, trivial⟩⟩ ?_
  clear H
  rintro m a w ⟨p, q, k, rfl, hl0_0, hl0_1, hl0_2, hl0_3, H⟩ hrec
  have hrec0 := hrec; clear hrec
  refine WK.seq ?_
  refine st_text 2 rfl ?_
  refine st_op 0 1 (op_nextS (d := 12) (k := 0) (b := b1) (pos := p) (s := s) H rfl (by kernel_rfl) rfl (fun hpos a w H => ?_) (fun hpos a H => ?_))
  · skip
    obtain ⟨k', hkk⟩ : ∃ k', k = k' + 1 := ⟨k - 1, by omega⟩
    refine st_run 1 1 0 [(13, .bool true)] H (by kernel_rfl) fun a H => ?_
    refine ops_end _ ?_
    refine WK.seq ?_
    refine st_true H (by kernel_rfl) ?_
    refine WK.skip ?_
    refine WK.block ?_
    refine WK.seq ?_
    refine st_text 4 rfl ?_
    refine st_run 0 4 0 [(7, .int .i32 ((Utf8.decode s p).1 : Int)), (6, .int .i64 ((p : Nat) : Int)), (15, .int .i32 ((Utf8.decode s p).1 : Int)), (14, .int .i64 ((p : Nat) : Int))] H (by kernel_rfl) fun a H => ?_
    refine ops_end _ ?_
    refine WK.seq ?_
    refine WK.seq ?_
    refine st_text 2 rfl ?_
    refine st_run 0 2 0 [(17, .bool ((((Utf8.decode s p).1 : Int) : Int) == 65533)), (16, .int .i32 ((Utf8.decode s p).1 : Int))] H (by kernel_rfl) fun a H => ?_
    refine ops_end _ ?_
    refine st_cond ((((Utf8.decode s p).1 : Int) : Int) == 65533) H (by kernel_rfl) ?_ ?_
    · intro hc1
      have hc1' := eq_of_beq hc1
      refine WK.seq ?_
      refine st_text 9 rfl ?_
      refine st_run 0 2 7 [(20, .int .i64 ((p : Nat) : Int)), (19, .string s)] H (by kernel_rfl) fun a H => ?_
      refine st_op 2 6 (op_val (d := 21) (v := .string ((s).extract p (s).size)) H (val_strFrom (t := 9) (k := .i64) (z := ((p : Nat) : Int)) (j := p) (by kernel_rfl) rfl rfl (rfl) (by omega)) fun a H => ?_)
      refine st_op 3 5 (op_call (d := 22) H (by kernel_rfl) rfl (decode_rune ((s).extract p (s).size) (by first | assumption | omega) H.sat) fun a v w q F => ?_)
      obtain ⟨rfl, X⟩ := q
      have H := St.mk F X
      have H := H.turn (d := 22) (v := .tuple #[.int .i32 ((Utf8.decode s p).1 : Int), .int .i64 ((Utf8.decode s p).2 : Int)]) (by rw [decodeGo_tail s p hpos])
      refine st_run 4 5 0 [(9, .int .i64 ((Utf8.decode s p).2 : Int)), (8, .int .i32 ((Utf8.decode s p).1 : Int)), (24, .int .i64 ((Utf8.decode s p).2 : Int)), (23, .int .i32 ((Utf8.decode s p).1 : Int)), (18, .tuple #[.int .i32 ((Utf8.decode s p).1 : Int), .int .i64 ((Utf8.decode s p).2 : Int)])] H (by kernel_rfl) fun a H => ?_
      refine ops_end _ ?_
      refine WK.seq ?_
      refine st_text 2 rfl ?_
      refine st_run 0 2 0 [(26, .bool (decide ((((Utf8.decode s p).2 : Int) : Int) < 2))), (25, .int .i64 ((Utf8.decode s p).2 : Int))] H (by kernel_rfl) fun a H => ?_
      refine ops_end _ ?_
      refine st_cond (decide ((((Utf8.decode s p).2 : Int) : Int) < 2)) H (by kernel_rfl) ?_ ?_
      · intro hc2
        have hc2' := of_decide_eq_true hc2
        refine WK.seq ?_
        refine st_text 2 rfl ?_
        refine st_run 0 2 0 [(5, .bool false), (4, .int .i64 0)] H (by kernel_rfl) fun a H => ?_
        refine ops_end _ ?_
        refine st_ret (vs := [.int .i64 0, .bool false]) H Tryd.func156 rfl (.tmp (by kernel_rfl) (.tmp (by kernel_rfl) (.nil))) ?_
        have hA : namedAll s s.size 0 = false := by rw [hl0_0, hkk]; simp only [namedAll, hc1, hc2, hpos, decide_true, Nat.add_sub_cancel, cond_true, cond_false, Bool.not_true, Bool.not_false, Bool.and_true, Bool.and_false, Bool.true_and, Bool.false_and]
        exact ⟨_, by rw [hA], (H.sat.msk [false])⟩
      · intro hc2
        have hc2' := of_decide_eq_false hc2
        refine WK.skip ?_
        refine WK.seq ?_
        refine WK.seq ?_
        refine st_text 4 rfl ?_
        refine st_run 0 2 2 [(28, .int .i32 ((Utf8.decode s p).1 : Int)), (27, .func (.func 157) #[] #[])] H (by kernel_rfl) fun a H => ?_
        refine st_op 2 1 (op_call (d := 29) H (by kernel_rfl) rfl (named_is ((Utf8.decode s p).1 : Int) H.sat) fun a v w q F => ?_)
        obtain ⟨rfl, X⟩ := q
        have H := St.mk F X
        refine st_run 3 1 0 [(30, .bool (!(namedR ((Utf8.decode s p).1 : Int))))] H (by kernel_rfl) fun a H => ?_
        refine ops_end _ ?_
        refine st_cond (!(namedR ((Utf8.decode s p).1 : Int))) H (by kernel_rfl) ?_ ?_
        · intro hc3
          have hc3n := notT hc3
          refine WK.seq ?_
          refine st_text 2 rfl ?_
          refine st_run 0 2 0 [(5, .bool false), (4, .int .i64 0)] H (by kernel_rfl) fun a H => ?_
          refine ops_end _ ?_
          refine st_ret (vs := [.int .i64 0, .bool false]) H Tryd.func156 rfl (.tmp (by kernel_rfl) (.tmp (by kernel_rfl) (.nil))) ?_
          have hA : namedAll s s.size 0 = false := by rw [hl0_0, hkk]; simp only [namedAll, hc1, hc2, hc3n, hpos, decide_true, Nat.add_sub_cancel, cond_true, cond_false, Bool.not_true, Bool.not_false, Bool.and_true, Bool.and_false, Bool.true_and, Bool.false_and]
          exact ⟨_, by rw [hA], (H.sat.msk [false])⟩
        · intro hc3
          have hc3n := notF hc3
          refine WK.skip ?_
          refine st_text 3 rfl ?_
          refine st_run 0 2 1 [(32, .int .i64 (IntKind.i64.wrap (q + 1))), (31, .int .i64 q)] H (by kernel_rfl) fun a H => ?_
          have H := H.turn (d := 32) (u := .int .i64 (IntKind.i64.wrap (q + 1))) (v := .int .i64 (q + 1)) (wI64 (by omega) (by omega))
          refine st_run 2 1 0 [(4, .int .i64 (q + 1))] H (by kernel_rfl) fun a H => ?_
          refine ops_end _ ?_
          refine WK.inBlock ?_
          have hdp := decode_pos s p
          exact hrec0 _ _ _ (by omega) ⟨p + (Utf8.decode s p).2, q + 1, k - 1, rfl, by rw [hl0_0, hkk]; simp only [namedAll, hc1, hc2, hc3n, hpos, decide_true, Nat.add_sub_cancel, cond_true, cond_false, Bool.not_true, Bool.not_false, Bool.and_true, Bool.and_false, Bool.true_and, Bool.false_and], by omega, by omega, by have := decode_le4 s p; omega, H.sub' ⟨by kernel_rfl, by kernel_rfl, by kernel_rfl, by kernel_rfl, trivial⟩⟩
    · intro hc3
      have hc3' := neB hc3
      refine WK.skip ?_
      refine WK.seq ?_
      refine WK.seq ?_
      refine st_text 4 rfl ?_
      refine st_run 0 2 2 [(28, .int .i32 ((Utf8.decode s p).1 : Int)), (27, .func (.func 157) #[] #[])] H (by kernel_rfl) fun a H => ?_
      refine st_op 2 1 (op_call (d := 29) H (by kernel_rfl) rfl (named_is ((Utf8.decode s p).1 : Int) H.sat) fun a v w q F => ?_)
      obtain ⟨rfl, X⟩ := q
      have H := St.mk F X
      refine st_run 3 1 0 [(30, .bool (!(namedR ((Utf8.decode s p).1 : Int))))] H (by kernel_rfl) fun a H => ?_
      refine ops_end _ ?_
      refine st_cond (!(namedR ((Utf8.decode s p).1 : Int))) H (by kernel_rfl) ?_ ?_
      · intro hc4
        have hc4n := notT hc4
        refine WK.seq ?_
        refine st_text 2 rfl ?_
        refine st_run 0 2 0 [(5, .bool false), (4, .int .i64 0)] H (by kernel_rfl) fun a H => ?_
        refine ops_end _ ?_
        refine st_ret (vs := [.int .i64 0, .bool false]) H Tryd.func156 rfl (.tmp (by kernel_rfl) (.tmp (by kernel_rfl) (.nil))) ?_
        have hA : namedAll s s.size 0 = false := by rw [hl0_0, hkk]; simp only [namedAll, hc3, hc4n, hpos, decide_true, Nat.add_sub_cancel, cond_true, cond_false, Bool.not_true, Bool.not_false, Bool.and_true, Bool.and_false, Bool.true_and, Bool.false_and]
        exact ⟨_, by rw [hA], (H.sat.msk [false])⟩
      · intro hc4
        have hc4n := notF hc4
        refine WK.skip ?_
        refine st_text 3 rfl ?_
        refine st_run 0 2 1 [(32, .int .i64 (IntKind.i64.wrap (q + 1))), (31, .int .i64 q)] H (by kernel_rfl) fun a H => ?_
        have H := H.turn (d := 32) (u := .int .i64 (IntKind.i64.wrap (q + 1))) (v := .int .i64 (q + 1)) (wI64 (by omega) (by omega))
        refine st_run 2 1 0 [(4, .int .i64 (q + 1))] H (by kernel_rfl) fun a H => ?_
        refine ops_end _ ?_
        refine WK.inBlock ?_
        have hdp := decode_pos s p
        exact hrec0 _ _ _ (by omega) ⟨p + (Utf8.decode s p).2, q + 1, k - 1, rfl, by rw [hl0_0, hkk]; simp only [namedAll, hc3, hc4n, hpos, decide_true, Nat.add_sub_cancel, cond_true, cond_false, Bool.not_true, Bool.not_false, Bool.and_true, Bool.and_false, Bool.true_and, Bool.false_and], by omega, by omega, by have := decode_le4 s p; omega, H.sub' ⟨by kernel_rfl, by kernel_rfl, by kernel_rfl, by kernel_rfl, trivial⟩⟩
  · skip
    refine st_run 1 1 0 [(13, .bool false)] H (by kernel_rfl) fun a H => ?_
    refine ops_end _ ?_
    refine WK.seq ?_
    refine st_false H (by kernel_rfl) ?_
    refine WK.exit (k' := _) rfl ?_
    refine WK.seq ?_
    refine st_text 3 rfl ?_
    refine st_run 0 3 0 [(5, .bool true), (4, .int .i64 q), (33, .int .i64 q)] H (by kernel_rfl) fun a H => ?_
    refine ops_end _ ?_
    refine st_ret (vs := [.int .i64 q, .bool true]) H Tryd.func156 rfl (.tmp (by kernel_rfl) (.tmp (by kernel_rfl) (.nil))) ?_
    have hA : namedAll s s.size 0 = true := by rw [hl0_0]; exact (namedAll_end s k p (by omega))
    exact ⟨_, by rw [hA], (H.sat.msk [false])⟩

/-- wharfage/name.Is -/
theorem name_is {e w : World} {R : Hp} {L : List HP} (s : ByteArray) (hT : Tabs 0 1 R) (X : Sat e w R (L)) :
    Calls Tryd.prog 97 #[.string s] w (Ret fun v w' => v = .bool (nameIs s) ∧ Sat e w' R (L)) := by
  refine enter (n := 26) (args := [.string s]) Tryd.func97 rfl rfl rfl X (fun a H => ?_)
  refine WK.seq ?_
  refine st_text 1 rfl ?_
  refine st_run 0 1 0 [(2, .bool false)] H (by kernel_rfl) fun a H => ?_
  refine ops_end _ ?_
  refine WK.seq ?_
  refine WK.seq ?_
  refine st_text 15 rfl ?_
  refine st_run 0 3 12 [(7, .bool (s.toList == (⟨#[]⟩ : ByteArray).toList)), (6, .bool (s.toList == (⟨#[]⟩ : ByteArray).toList)), (5, .string s)] H (by kernel_rfl) fun a H => ?_
  rcases Bool.eq_false_or_eq_true ((s.toList == (⟨#[]⟩ : ByteArray).toList)) with hg1 | hg1
  · skip
    have H := H.also (d := 7) (u := .bool ((s.toList == (⟨#[]⟩ : ByteArray).toList))) (v := .bool true) (by kernel_rfl) (congrArg Value.bool (hg1))
    refine st_run 3 12 0 [(19, .bool true), (18, undef), (17, undef), (16, .bool true), (15, .bool true), (14, undef), (13, undef), (12, .bool true), (11, .bool true), (10, undef), (9, undef), (8, undef)] H (by kernel_rfl) fun a H => ?_
    refine ops_end _ ?_
    refine st_true H (by kernel_rfl) ?_
    refine WK.seq ?_
    refine st_text 1 rfl ?_
    refine st_run 0 1 0 [(2, .bool false)] H (by kernel_rfl) fun a H => ?_
    refine ops_end _ ?_
    refine st_ret (vs := [.bool false]) H Tryd.func97 rfl (.tmp (by kernel_rfl) (.nil)) ?_
    exact ⟨by first | rfl | simp only [nameIs, hg1, decide_true, Nat.add_sub_cancel, cond_true, cond_false, Bool.not_true, Bool.not_false, Bool.and_true, Bool.and_false, Bool.true_and, Bool.false_and], H.sat⟩
  · skip
    have H := H.also (d := 7) (u := .bool ((s.toList == (⟨#[]⟩ : ByteArray).toList))) (v := .bool false) (by kernel_rfl) (congrArg Value.bool (hg1))
    refine st_run 3 5 7 [(12, .bool (decide ((((s.size : Nat) : Int) : Int) > 32))), (11, .bool (decide ((((s.size : Nat) : Int) : Int) > 32))), (10, .bool (decide ((((s.size : Nat) : Int) : Int) > 32))), (9, .int .i64 ((s.size : Nat) : Int)), (8, .string s)] H (by kernel_rfl) fun a H => ?_
    rcases Bool.eq_false_or_eq_true (decide ((((s.size : Nat) : Int) : Int) > 32)) with hg2 | hg2
    · skip
      have H := H.also (d := 12) (u := .bool (decide ((((s.size : Nat) : Int) : Int) > 32))) (v := .bool true) (by kernel_rfl) (congrArg Value.bool (hg2))
      have hg2' := of_decide_eq_true hg2
      refine st_run 8 7 0 [(19, .bool true), (18, undef), (17, undef), (16, .bool true), (15, .bool true), (14, undef), (13, undef)] H (by kernel_rfl) fun a H => ?_
      refine ops_end _ ?_
      refine st_true H (by kernel_rfl) ?_
      refine WK.seq ?_
      refine st_text 1 rfl ?_
      refine st_run 0 1 0 [(2, .bool false)] H (by kernel_rfl) fun a H => ?_
      refine ops_end _ ?_
      refine st_ret (vs := [.bool false]) H Tryd.func97 rfl (.tmp (by kernel_rfl) (.nil)) ?_
      exact ⟨by first | rfl | simp only [nameIs, hg1, hg2, decide_true, Nat.add_sub_cancel, cond_true, cond_false, Bool.not_true, Bool.not_false, Bool.and_true, Bool.and_false, Bool.true_and, Bool.false_and], H.sat⟩
    · skip
      have H := H.also (d := 12) (u := .bool (decide ((((s.size : Nat) : Int) : Int) > 32))) (v := .bool false) (by kernel_rfl) (congrArg Value.bool (hg2))
      have hg2' := of_decide_eq_false hg2
      refine st_run 8 4 3 [(16, .bool (s.toList == (⟨#[46]⟩ : ByteArray).toList)), (15, .bool (s.toList == (⟨#[46]⟩ : ByteArray).toList)), (14, .bool (s.toList == (⟨#[46]⟩ : ByteArray).toList)), (13, .string s)] H (by kernel_rfl) fun a H => ?_
      rcases Bool.eq_false_or_eq_true ((s.toList == (⟨#[46]⟩ : ByteArray).toList)) with hg3 | hg3
      · skip
        have H := H.also (d := 16) (u := .bool ((s.toList == (⟨#[46]⟩ : ByteArray).toList))) (v := .bool true) (by kernel_rfl) (congrArg Value.bool (hg3))
        refine st_run 12 3 0 [(19, .bool true), (18, undef), (17, undef)] H (by kernel_rfl) fun a H => ?_
        refine ops_end _ ?_
        refine st_true H (by kernel_rfl) ?_
        refine WK.seq ?_
        refine st_text 1 rfl ?_
        refine st_run 0 1 0 [(2, .bool false)] H (by kernel_rfl) fun a H => ?_
        refine ops_end _ ?_
        refine st_ret (vs := [.bool false]) H Tryd.func97 rfl (.tmp (by kernel_rfl) (.nil)) ?_
        exact ⟨by first | rfl | simp only [nameIs, hg1, hg2, hg3, decide_true, Nat.add_sub_cancel, cond_true, cond_false, Bool.not_true, Bool.not_false, Bool.and_true, Bool.and_false, Bool.true_and, Bool.false_and], H.sat⟩
      · skip
        have H := H.also (d := 16) (u := .bool ((s.toList == (⟨#[46]⟩ : ByteArray).toList))) (v := .bool false) (by kernel_rfl) (congrArg Value.bool (hg3))
        refine st_run 12 3 0 [(19, .bool (s.toList == (⟨#[46, 46]⟩ : ByteArray).toList)), (18, .bool (s.toList == (⟨#[46, 46]⟩ : ByteArray).toList)), (17, .string s)] H (by kernel_rfl) fun a H => ?_
        refine ops_end _ ?_
        refine st_cond ((s.toList == (⟨#[46, 46]⟩ : ByteArray).toList)) H (by kernel_rfl) ?_ ?_
        · intro hc1
          refine WK.seq ?_
          refine st_text 1 rfl ?_
          refine st_run 0 1 0 [(2, .bool false)] H (by kernel_rfl) fun a H => ?_
          refine ops_end _ ?_
          refine st_ret (vs := [.bool false]) H Tryd.func97 rfl (.tmp (by kernel_rfl) (.nil)) ?_
          exact ⟨by first | rfl | simp only [nameIs, hg1, hg2, hg3, hc1, decide_true, Nat.add_sub_cancel, cond_true, cond_false, Bool.not_true, Bool.not_false, Bool.and_true, Bool.and_false, Bool.true_and, Bool.false_and], H.sat⟩
        · intro hc1
          refine WK.skip ?_
          refine WK.seq ?_
          refine st_text 7 rfl ?_
          refine st_run 0 1 6 [(21, .string s)] H (by kernel_rfl) fun a H => ?_
          refine st_op 1 5 (op_call (d := 22) H (by kernel_rfl) rfl (name_runes s (by first | assumption | omega) (by first | assumption | omega) H.sat) fun a v w q F => ?_)
          obtain ⟨x_1, rfl, X⟩ := q
          have H := St.mk F X
          refine st_run 2 5 0 [(4, .bool (namedAll s s.size 0)), (3, .int .i64 x_1), (24, .bool (namedAll s s.size 0)), (23, .int .i64 x_1), (20, .tuple #[.int .i64 x_1, .bool (namedAll s s.size 0)])] H (by kernel_rfl) fun a H => ?_
          refine ops_end _ ?_
          refine WK.seq ?_
          refine st_text 2 rfl ?_
          refine st_run 0 2 0 [(2, .bool (namedAll s s.size 0)), (25, .bool (namedAll s s.size 0))] H (by kernel_rfl) fun a H => ?_
          refine ops_end _ ?_
          refine st_ret (vs := [.bool (namedAll s s.size 0)]) H Tryd.func97 rfl (.tmp (by kernel_rfl) (.nil)) ?_
          exact ⟨by first | rfl | simp only [nameIs, hg1, hg2, hg3, hc1, decide_true, Nat.add_sub_cancel, cond_true, cond_false, Bool.not_true, Bool.not_false, Bool.and_true, Bool.and_false, Bool.true_and, Bool.false_and], H.sat⟩
end Go.Proofs.YtldnpolfcickaaaDoor
