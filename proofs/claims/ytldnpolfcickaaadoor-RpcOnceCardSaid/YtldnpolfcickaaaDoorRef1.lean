/- Numbers as bytes. -/
import Derived.Test.YtldnpolfcickaaaDoorBack2
import Derived.Test.YtldnpolfcickaaaDoorPRef
set_option linter.unusedVariables false
set_option linter.unusedSimpArgs false
set_option maxRecDepth 100000
set_option maxHeartbeats 1000000
namespace Go.Proofs.YtldnpolfcickaaaDoor
open Go Go.WH

/-- wharfage/wharfageref01.size -/
theorem ref01_size {e w : World} {R : Hp} {L : List HP} (s : Nat) (hs : s = 1 ∨ s = 2 ∨ s = 4 ∨ s = 8) (X : Sat e w R (L)) :
    Calls Tryd.prog 170 #[.int .i64 s] w (Ret fun v w' => v = .bool true ∧ Sat e w' R (L)) := by
  refine enter (n := 17) (args := [.int .i64 s]) Tryd.func170 rfl rfl rfl X (fun a H => ?_)
  refine WK.seq ?_
  refine st_text 1 rfl ?_
  refine st_run 0 1 0 [(2, .bool false)] H (by kernel_rfl) fun a H => ?_
  refine ops_end _ ?_
  refine WK.seq ?_
  refine st_text 15 rfl ?_
  refine st_run 0 3 12 [(5, .bool ((s : Int) == 1)), (4, .bool ((s : Int) == 1)), (3, .int .i64 s)] H (by kernel_rfl) fun a H => ?_
  rcases Bool.eq_false_or_eq_true ((s : Int) == 1) with hg1 | hg1
  · skip
    have H := H.also (d := 5) (u := .bool ((s : Int) == 1)) (v := .bool true) (by kernel_rfl) (congrArg Value.bool (hg1))
    have hg1' := eq_of_beq hg1
    refine st_run 3 12 0 [(2, .bool true), (16, .bool true), (15, undef), (14, undef), (13, .bool true), (12, .bool true), (11, undef), (10, undef), (9, .bool true), (8, .bool true), (7, undef), (6, undef)] H (by kernel_rfl) fun a H => ?_
    refine ops_end _ ?_
    refine st_ret (vs := [.bool true]) H Tryd.func170 rfl (.tmp (by kernel_rfl) (.nil)) ?_
    have X := H.sat
    exact ⟨(by first | rfl | (obtain rfl : s = 8 := (by omega); rfl)), X⟩
  · skip
    have H := H.also (d := 5) (u := .bool ((s : Int) == 1)) (v := .bool false) (by kernel_rfl) (congrArg Value.bool (hg1))
    have hg1' := neB hg1
    refine st_run 3 4 8 [(9, .bool ((s : Int) == 2)), (8, .bool ((s : Int) == 2)), (7, .bool ((s : Int) == 2)), (6, .int .i64 s)] H (by kernel_rfl) fun a H => ?_
    rcases Bool.eq_false_or_eq_true ((s : Int) == 2) with hg2 | hg2
    · skip
      have H := H.also (d := 9) (u := .bool ((s : Int) == 2)) (v := .bool true) (by kernel_rfl) (congrArg Value.bool (hg2))
      have hg2' := eq_of_beq hg2
      refine st_run 7 8 0 [(2, .bool true), (16, .bool true), (15, undef), (14, undef), (13, .bool true), (12, .bool true), (11, undef), (10, undef)] H (by kernel_rfl) fun a H => ?_
      refine ops_end _ ?_
      refine st_ret (vs := [.bool true]) H Tryd.func170 rfl (.tmp (by kernel_rfl) (.nil)) ?_
      have X := H.sat
      exact ⟨(by first | rfl | (obtain rfl : s = 8 := (by omega); rfl)), X⟩
    · skip
      have H := H.also (d := 9) (u := .bool ((s : Int) == 2)) (v := .bool false) (by kernel_rfl) (congrArg Value.bool (hg2))
      have hg2' := neB hg2
      refine st_run 7 4 4 [(13, .bool ((s : Int) == 4)), (12, .bool ((s : Int) == 4)), (11, .bool ((s : Int) == 4)), (10, .int .i64 s)] H (by kernel_rfl) fun a H => ?_
      rcases Bool.eq_false_or_eq_true ((s : Int) == 4) with hg3 | hg3
      · skip
        have H := H.also (d := 13) (u := .bool ((s : Int) == 4)) (v := .bool true) (by kernel_rfl) (congrArg Value.bool (hg3))
        have hg3' := eq_of_beq hg3
        refine st_run 11 4 0 [(2, .bool true), (16, .bool true), (15, undef), (14, undef)] H (by kernel_rfl) fun a H => ?_
        refine ops_end _ ?_
        refine st_ret (vs := [.bool true]) H Tryd.func170 rfl (.tmp (by kernel_rfl) (.nil)) ?_
        have X := H.sat
        exact ⟨(by first | rfl | (obtain rfl : s = 8 := (by omega); rfl)), X⟩
      · skip
        have H := H.also (d := 13) (u := .bool ((s : Int) == 4)) (v := .bool false) (by kernel_rfl) (congrArg Value.bool (hg3))
        have hg3' := neB hg3
        refine st_run 11 4 0 [(2, .bool ((s : Int) == 8)), (16, .bool ((s : Int) == 8)), (15, .bool ((s : Int) == 8)), (14, .int .i64 s)] H (by kernel_rfl) fun a H => ?_
        refine ops_end _ ?_
        refine st_ret (vs := [.bool ((s : Int) == 8)]) H Tryd.func170 rfl (.tmp (by kernel_rfl) (.nil)) ?_
        have X := H.sat
        exact ⟨(by first | rfl | (obtain rfl : s = 8 := (by omega); rfl)), X⟩

/-- wharfage/wharfageref01.Put -/
theorem ref01_put4 {e w : World} {R : Hp} {L : List HP} (n : Int) (h0 : 0 ≤ n) (h1 : n ≤ 4294967295) (X : Sat e w R (L)) :
    Calls Tryd.prog 116 #[.int .u64 n, .int .i64 4] w (Ret fun v w' => ∃ A1 : Option Addr, ∃ c1 : Nat, v = .tuple #[.slice A1 ((be 4 n.toNat).length) c1, .int .i64 0] ∧ Sat e w' R (bytesO 5 A1 c1 (be 4 n.toNat) :: L)) := by
  have hnn : n = (n.toNat : Int) := by omega
  refine enter (n := 39) (args := [.int .u64 n, .int .i64 4]) Tryd.func116 rfl rfl rfl X (fun a H => ?_)
  refine WK.seq ?_
  refine st_text 2 rfl ?_
  refine st_run 0 2 0 [(5, .int .i64 0), (4, .slice none 0 0)] H (by kernel_rfl) fun a H => ?_
  refine ops_end _ ?_
  refine WK.seq ?_
  refine WK.seq ?_
  refine st_text 15 rfl ?_
  refine st_run 0 1 14 [(8, .int .i64 4)] H (by kernel_rfl) fun a H => ?_
  refine st_op 1 13 (op_call (d := 9) H (by kernel_rfl) rfl (ref01_size 4 (by omega) H.sat) fun a v w q F => ?_)
  obtain ⟨rfl, X⟩ := q
  have H := St.mk F X
  refine st_run 2 13 0 [(22, .bool (decide ((n : Int) ≥ 4294967296))), (21, .bool (decide ((n : Int) ≥ 4294967296))), (20, .bool (decide ((n : Int) ≥ 4294967296))), (19, .int .u64 4294967296), (18, .int .u64 32), (17, .int .i64 32), (16, .int .i64 4), (15, .int .u64 n), (14, .bool true), (13, .bool true), (12, .int .i64 4), (11, .bool false), (10, .bool false)] H (by kernel_rfl) fun a H => ?_
  refine ops_end _ ?_
  refine st_cond (decide ((n : Int) ≥ 4294967296)) H (by kernel_rfl) ?_ ?_
  · intro hc1
    have hc1' := of_decide_eq_true hc1
    exfalso; omega
  · intro hc1
    have hc1' := of_decide_eq_false hc1
    refine WK.skip ?_
    refine WK.seq ?_
    refine st_text 1 rfl ?_
    refine st_run 0 1 0 [(6, .slice none 0 0)] H (by kernel_rfl) fun a H => ?_
    refine ops_end _ ?_
    refine WK.seq ?_
    refine WK.seq ?_
    refine st_text 3 rfl ?_
    refine st_run 0 3 0 [(7, .int .i64 3), (24, .int .i64 3), (23, .int .i64 4)] H (by kernel_rfl) fun a H => ?_
    refine ops_end _ ?_
    refine WK.block ?_
    have H := H.with (H.sat.nil_bytes 5)
    refine WK.loop (fun m a w => ∃ j : Nat, ∃ bs : List UInt8, ∃ A : Option Addr, ∃ cp : Nat, j = m ∧ (j ≤ 4) ∧ (bs ++ be j n.toNat = be 4 n.toNat) ∧ (bs.length + j = 4) ∧ St 39 e R a w [(0, .int .u64 n), (1, .int .i64 4), (5, .int .i64 0), (6, .slice A bs.length cp), (7, .int .i64 ((j : Int) - 1))] (bytesO 5 A cp bs :: L)) (4) ⟨4, [], none, 0, rfl, by omega, rfl, rfl, H.sub' ⟨by kernel_rfl, by kernel_rfl, by kernel_rfl, by kernel_rfl, by kernel_rfl, trivial⟩⟩ ?_
    clear H
    rintro m a w ⟨j, bs, A, cp, rfl, hl0_0, hl0_1, hl0_2, H⟩ hrec
    have hrec0 := hrec; clear hrec
    refine WK.seq ?_
    refine WK.seq ?_
    refine st_text 2 rfl ?_
    refine st_run 0 2 0 [(26, .bool (decide ((((j : Int) - 1) : Int) ≥ 0))), (25, .int .i64 ((j : Int) - 1))] H (by kernel_rfl) fun a H => ?_
    refine ops_end _ ?_
    refine st_cond (decide ((((j : Int) - 1) : Int) ≥ 0)) H (by kernel_rfl) ?_ ?_
    · intro hc2
      have hc2' := of_decide_eq_true hc2
      refine WK.skip ?_
      refine WK.seq ?_
      refine WK.block ?_
      refine st_text 10 rfl ?_
      refine st_run 0 4 6 [(32, .int .i64 (IntKind.i64.wrap (8 * ((j : Int) - 1)))), (31, .int .i64 ((j : Int) - 1)), (30, .int .u64 n), (29, .slice A bs.length cp)] H (by kernel_rfl) fun a H => ?_
      have H := H.turn (d := 32) (u := .int .i64 (IntKind.i64.wrap (8 * ((j : Int) - 1)))) (v := .int .i64 (8 * ((j : Int) - 1))) (wI64 (by omega) (by omega))
      refine st_run 4 1 5 [(33, .int .u64 (IntKind.u64.wrap (8 * ((j : Int) - 1))))] H (by kernel_rfl) fun a H => ?_
      have H := H.turn (d := 33) (u := .int .u64 (IntKind.u64.wrap (8 * ((j : Int) - 1)))) (v := .int .u64 (8 * ((j : Int) - 1))) (wU64 (by omega) (by omega))
      refine st_op 5 4 (op_val (d := 34) (v := .int .u64 (Int.fdiv n (2 ^ min (8 * (j - 1)) IntKind.u64.bits))) H (val_shr (t := 23) (k := .u64) (yk := .u64) (x := n) (y := (8 * ((j : Int) - 1))) (8 * (j - 1)) (by kernel_rfl) rfl (by omega)) fun a H => ?_)
      refine st_run 6 1 3 [(35, .int .u8 (IntKind.u8.wrap (Int.fdiv n (2 ^ min (8 * (j - 1)) IntKind.u64.bits))))] H (by kernel_rfl) fun a H => ?_
      have H := H.turn (d := 35) (u := .int .u8 (IntKind.u8.wrap (Int.fdiv n (2 ^ min (8 * (j - 1)) IntKind.u64.bits)))) (v := .int .u8 ((UInt8.ofNat (n.toNat / 256 ^ (j - 1))).toNat : Int)) (by rw [hnn]; exact byte_wrap n.toNat (j - 1) (by omega))
      refine st_op 7 2 (op_new (d := 36) (vf := fun b => .slice (some ⟨b, 0, none⟩) 1 1) (ob := .cells #[.int .u8 ((UInt8.ofNat (n.toNat / 256 ^ (j - 1))).toNat : Int)] 5) H (IsNew.of_run rfl fun w => (by kernel_rfl)) fun a w b1 H => ?_)
      have H := H.with (H.sat.front 1 rfl)
      refine st_op 8 1 (op_append1 (d := 37) (t := 26) (A1 := A) (c1 := cp) (bs := bs) (b := (UInt8.ofNat (n.toNat / 256 ^ (j - 1)))) (A := some ⟨b1, 0, none⟩) (c2 := 1) (z := .int .u8 0) H (by kernel_rfl) (by kernel_rfl) rfl rfl rfl (Src.of_blk (k := 1) H.sat rfl rfl) (by omega) fun a w A1 c1 H => ?_)
      refine st_run 9 1 0 [(6, .slice A1 ((bs ++ [(UInt8.ofNat (n.toNat / 256 ^ (j - 1)))]).length) c1)] H (by kernel_rfl) fun a H => ?_
      refine ops_end _ ?_
      refine WK.inBlock ?_
      refine st_text 3 rfl ?_
      refine st_run 0 2 1 [(28, .int .i64 (IntKind.i64.wrap (((j : Int) - 1) - 1))), (27, .int .i64 ((j : Int) - 1))] H (by kernel_rfl) fun a H => ?_
      have H := H.turn (d := 28) (u := .int .i64 (IntKind.i64.wrap (((j : Int) - 1) - 1))) (v := .int .i64 (((j : Int) - 1) - 1)) (wI64 (by omega) (by omega))
      refine st_run 2 1 0 [(7, .int .i64 (((j : Int) - 1) - 1))] H (by kernel_rfl) fun a H => ?_
      refine ops_end _ ?_
      have H := H.with (H.sat.msk [true, false])
      have hj : j = (j - 1) + 1 := by omega
      have hbe := be_cons (j - 1) n.toNat
      rw [← hj] at hbe
      have H := H.also (d := 7) (u := .int .i64 ((j : Int) - 1 - 1)) (v := .int .i64 (((j - 1 : Nat) : Int) - 1)) (by kernel_rfl) (by congr 1; omega)
      exact hrec0 _ _ _ (by omega) ⟨j - 1, (bs ++ [(UInt8.ofNat (n.toNat / 256 ^ (j - 1)))]), A1, c1, rfl, by omega, by rw [List.append_assoc, List.singleton_append, ← hbe]; exact hl0_1, by rw [List.length_append, List.length_singleton]; omega, H.sub' ⟨by kernel_rfl, by kernel_rfl, by kernel_rfl, by kernel_rfl, by kernel_rfl, trivial⟩⟩
    · intro hc2
      have hc2' := of_decide_eq_false hc2
      refine WK.exit (k' := _) rfl ?_
      refine WK.seq ?_
      refine st_text 3 rfl ?_
      refine st_run 0 3 0 [(5, .int .i64 0), (4, .slice A bs.length cp), (38, .slice A bs.length cp)] H (by kernel_rfl) fun a H => ?_
      refine ops_end _ ?_
      refine st_ret (vs := [.slice A bs.length cp, .int .i64 0]) H Tryd.func116 rfl (.tmp (by kernel_rfl) (.tmp (by kernel_rfl) (.nil))) ?_
      have e0 : j = 0 := by omega
      subst e0
      have hbb : bs = be 4 n.toNat := by rw [← hl0_1]; exact (List.append_nil _).symm
      subst hbb
      have X := H.sat
      exact ⟨_, _, rfl, X⟩

/-- wharfage/wharfageref01.Put -/
theorem ref01_put8 {e w : World} {R : Hp} {L : List HP} (n : Int) (h0 : 0 ≤ n) (h1 : n ≤ 18446744073709551615) (X : Sat e w R (L)) :
    Calls Tryd.prog 116 #[.int .u64 n, .int .i64 8] w (Ret fun v w' => ∃ A1 : Option Addr, ∃ c1 : Nat, v = .tuple #[.slice A1 ((be 8 n.toNat).length) c1, .int .i64 0] ∧ Sat e w' R (bytesO 5 A1 c1 (be 8 n.toNat) :: L)) := by
  have hnn : n = (n.toNat : Int) := by omega
  refine enter (n := 39) (args := [.int .u64 n, .int .i64 8]) Tryd.func116 rfl rfl rfl X (fun a H => ?_)
  refine WK.seq ?_
  refine st_text 2 rfl ?_
  refine st_run 0 2 0 [(5, .int .i64 0), (4, .slice none 0 0)] H (by kernel_rfl) fun a H => ?_
  refine ops_end _ ?_
  refine WK.seq ?_
  refine WK.seq ?_
  refine st_text 15 rfl ?_
  refine st_run 0 1 14 [(8, .int .i64 8)] H (by kernel_rfl) fun a H => ?_
  refine st_op 1 13 (op_call (d := 9) H (by kernel_rfl) rfl (ref01_size 8 (by omega) H.sat) fun a v w q F => ?_)
  obtain ⟨rfl, X⟩ := q
  have H := St.mk F X
  refine st_run 2 13 0 [(22, .bool false), (21, .bool false), (20, undef), (19, undef), (18, undef), (17, undef), (16, undef), (15, undef), (14, .bool false), (13, .bool false), (12, .int .i64 8), (11, .bool false), (10, .bool false)] H (by kernel_rfl) fun a H => ?_
  refine ops_end _ ?_
  refine st_false H (by kernel_rfl) ?_
  refine WK.skip ?_
  refine WK.seq ?_
  refine st_text 1 rfl ?_
  refine st_run 0 1 0 [(6, .slice none 0 0)] H (by kernel_rfl) fun a H => ?_
  refine ops_end _ ?_
  refine WK.seq ?_
  refine WK.seq ?_
  refine st_text 3 rfl ?_
  refine st_run 0 3 0 [(7, .int .i64 7), (24, .int .i64 7), (23, .int .i64 8)] H (by kernel_rfl) fun a H => ?_
  refine ops_end _ ?_
  refine WK.block ?_
  have H := H.with (H.sat.nil_bytes 5)
  refine WK.loop (fun m a w => ∃ j : Nat, ∃ bs : List UInt8, ∃ A : Option Addr, ∃ cp : Nat, j = m ∧ (j ≤ 8) ∧ (bs ++ be j n.toNat = be 8 n.toNat) ∧ (bs.length + j = 8) ∧ St 39 e R a w [(0, .int .u64 n), (1, .int .i64 8), (5, .int .i64 0), (6, .slice A bs.length cp), (7, .int .i64 ((j : Int) - 1))] (bytesO 5 A cp bs :: L)) (8) ⟨8, [], none, 0, rfl, by omega, rfl, rfl, H.sub' ⟨by kernel_rfl, by kernel_rfl, by kernel_rfl, by kernel_rfl, by kernel_rfl, trivial⟩⟩ ?_
  clear H
  rintro m a w ⟨j, bs, A, cp, rfl, hl0_0, hl0_1, hl0_2, H⟩ hrec
  have hrec0 := hrec; clear hrec
  refine WK.seq ?_
  refine WK.seq ?_
  refine st_text 2 rfl ?_
  refine st_run 0 2 0 [(26, .bool (decide ((((j : Int) - 1) : Int) ≥ 0))), (25, .int .i64 ((j : Int) - 1))] H (by kernel_rfl) fun a H => ?_
  refine ops_end _ ?_
  refine st_cond (decide ((((j : Int) - 1) : Int) ≥ 0)) H (by kernel_rfl) ?_ ?_
  · intro hc1
    have hc1' := of_decide_eq_true hc1
    refine WK.skip ?_
    refine WK.seq ?_
    refine WK.block ?_
    refine st_text 10 rfl ?_
    refine st_run 0 4 6 [(32, .int .i64 (IntKind.i64.wrap (8 * ((j : Int) - 1)))), (31, .int .i64 ((j : Int) - 1)), (30, .int .u64 n), (29, .slice A bs.length cp)] H (by kernel_rfl) fun a H => ?_
    have H := H.turn (d := 32) (u := .int .i64 (IntKind.i64.wrap (8 * ((j : Int) - 1)))) (v := .int .i64 (8 * ((j : Int) - 1))) (wI64 (by omega) (by omega))
    refine st_run 4 1 5 [(33, .int .u64 (IntKind.u64.wrap (8 * ((j : Int) - 1))))] H (by kernel_rfl) fun a H => ?_
    have H := H.turn (d := 33) (u := .int .u64 (IntKind.u64.wrap (8 * ((j : Int) - 1)))) (v := .int .u64 (8 * ((j : Int) - 1))) (wU64 (by omega) (by omega))
    refine st_op 5 4 (op_val (d := 34) (v := .int .u64 (Int.fdiv n (2 ^ min (8 * (j - 1)) IntKind.u64.bits))) H (val_shr (t := 23) (k := .u64) (yk := .u64) (x := n) (y := (8 * ((j : Int) - 1))) (8 * (j - 1)) (by kernel_rfl) rfl (by omega)) fun a H => ?_)
    refine st_run 6 1 3 [(35, .int .u8 (IntKind.u8.wrap (Int.fdiv n (2 ^ min (8 * (j - 1)) IntKind.u64.bits))))] H (by kernel_rfl) fun a H => ?_
    have H := H.turn (d := 35) (u := .int .u8 (IntKind.u8.wrap (Int.fdiv n (2 ^ min (8 * (j - 1)) IntKind.u64.bits)))) (v := .int .u8 ((UInt8.ofNat (n.toNat / 256 ^ (j - 1))).toNat : Int)) (by rw [hnn]; exact byte_wrap n.toNat (j - 1) (by omega))
    refine st_op 7 2 (op_new (d := 36) (vf := fun b => .slice (some ⟨b, 0, none⟩) 1 1) (ob := .cells #[.int .u8 ((UInt8.ofNat (n.toNat / 256 ^ (j - 1))).toNat : Int)] 5) H (IsNew.of_run rfl fun w => (by kernel_rfl)) fun a w b1 H => ?_)
    have H := H.with (H.sat.front 1 rfl)
    refine st_op 8 1 (op_append1 (d := 37) (t := 26) (A1 := A) (c1 := cp) (bs := bs) (b := (UInt8.ofNat (n.toNat / 256 ^ (j - 1)))) (A := some ⟨b1, 0, none⟩) (c2 := 1) (z := .int .u8 0) H (by kernel_rfl) (by kernel_rfl) rfl rfl rfl (Src.of_blk (k := 1) H.sat rfl rfl) (by omega) fun a w A1 c1 H => ?_)
    refine st_run 9 1 0 [(6, .slice A1 ((bs ++ [(UInt8.ofNat (n.toNat / 256 ^ (j - 1)))]).length) c1)] H (by kernel_rfl) fun a H => ?_
    refine ops_end _ ?_
    refine WK.inBlock ?_
    refine st_text 3 rfl ?_
    refine st_run 0 2 1 [(28, .int .i64 (IntKind.i64.wrap (((j : Int) - 1) - 1))), (27, .int .i64 ((j : Int) - 1))] H (by kernel_rfl) fun a H => ?_
    have H := H.turn (d := 28) (u := .int .i64 (IntKind.i64.wrap (((j : Int) - 1) - 1))) (v := .int .i64 (((j : Int) - 1) - 1)) (wI64 (by omega) (by omega))
    refine st_run 2 1 0 [(7, .int .i64 (((j : Int) - 1) - 1))] H (by kernel_rfl) fun a H => ?_
    refine ops_end _ ?_
    have H := H.with (H.sat.msk [true, false])
    have hj : j = (j - 1) + 1 := by omega
    have hbe := be_cons (j - 1) n.toNat
    rw [← hj] at hbe
    have H := H.also (d := 7) (u := .int .i64 ((j : Int) - 1 - 1)) (v := .int .i64 (((j - 1 : Nat) : Int) - 1)) (by kernel_rfl) (by congr 1; omega)
    exact hrec0 _ _ _ (by omega) ⟨j - 1, (bs ++ [(UInt8.ofNat (n.toNat / 256 ^ (j - 1)))]), A1, c1, rfl, by omega, by rw [List.append_assoc, List.singleton_append, ← hbe]; exact hl0_1, by rw [List.length_append, List.length_singleton]; omega, H.sub' ⟨by kernel_rfl, by kernel_rfl, by kernel_rfl, by kernel_rfl, by kernel_rfl, trivial⟩⟩
  · intro hc1
    have hc1' := of_decide_eq_false hc1
    refine WK.exit (k' := _) rfl ?_
    refine WK.seq ?_
    refine st_text 3 rfl ?_
    refine st_run 0 3 0 [(5, .int .i64 0), (4, .slice A bs.length cp), (38, .slice A bs.length cp)] H (by kernel_rfl) fun a H => ?_
    refine ops_end _ ?_
    refine st_ret (vs := [.slice A bs.length cp, .int .i64 0]) H Tryd.func116 rfl (.tmp (by kernel_rfl) (.tmp (by kernel_rfl) (.nil))) ?_
    have e0 : j = 0 := by omega
    subst e0
    have hbb : bs = be 8 n.toNat := by rw [← hl0_1]; exact (List.append_nil _).symm
    subst hbb
    have X := H.sat
    exact ⟨_, _, rfl, X⟩

/-- wharfage/wharfageref09.Number -/
theorem ref09_number {e w : World} {R : Hp} {L : List HP} (n : Int) (h0 : 0 ≤ n) (h1 : n ≤ 4294967295) (X : Sat e w R (L)) :
    Calls Tryd.prog 63 #[.int .u32 n] w (Ret fun v w' => ∃ A1 : Option Addr, ∃ c1 : Nat, v = .slice A1 ((be 4 n.toNat).length) c1 ∧ Sat e w' R (bytesO 5 A1 c1 (be 4 n.toNat) :: L)) := by
  refine enter (n := 12) (args := [.int .u32 n]) Tryd.func63 rfl rfl rfl X (fun a H => ?_)
  refine WK.seq ?_
  refine st_text 1 rfl ?_
  refine st_run 0 1 0 [(2, .slice none 0 0)] H (by kernel_rfl) fun a H => ?_
  refine ops_end _ ?_
  refine WK.seq ?_
  refine st_text 8 rfl ?_
  refine st_run 0 2 6 [(7, .int .u64 (IntKind.u64.wrap (n))), (6, .int .u32 n)] H (by kernel_rfl) fun a H => ?_
  have H := H.turn (d := 7) (u := .int .u64 (IntKind.u64.wrap (n))) (v := .int .u64 n) (wU64 (by omega) (by omega))
  refine st_op 2 5 (op_call (d := 8) H (by kernel_rfl) rfl (ref01_put4 n (by first | assumption | omega) (by first | assumption | omega) H.sat) fun a v w q F => ?_)
  obtain ⟨X_1, x_1, rfl, X⟩ := q
  have H := St.mk F X
  refine st_run 3 5 0 [(4, .int .i64 0), (3, .slice X_1 ((be 4 n.toNat).length) x_1), (10, .int .i64 0), (9, .slice X_1 ((be 4 n.toNat).length) x_1), (5, .tuple #[.slice X_1 ((be 4 n.toNat).length) x_1, .int .i64 0])] H (by kernel_rfl) fun a H => ?_
  refine ops_end _ ?_
  refine WK.seq ?_
  refine st_text 2 rfl ?_
  refine st_run 0 2 0 [(2, .slice X_1 ((be 4 n.toNat).length) x_1), (11, .slice X_1 ((be 4 n.toNat).length) x_1)] H (by kernel_rfl) fun a H => ?_
  refine ops_end _ ?_
  refine st_ret (vs := [.slice X_1 ((be 4 n.toNat).length) x_1]) H Tryd.func63 rfl (.tmp (by kernel_rfl) (.nil)) ?_
  have X := H.sat
  exact ⟨_, _, rfl, X⟩

/-- wharfage/wharfageref09.Great -/
theorem ref09_great {e w : World} {R : Hp} {L : List HP} (n : Int) (h0 : 0 ≤ n) (h1 : n ≤ 18446744073709551615) (X : Sat e w R (L)) :
    Calls Tryd.prog 64 #[.int .u64 n] w (Ret fun v w' => ∃ A1 : Option Addr, ∃ c1 : Nat, v = .slice A1 ((be 8 n.toNat).length) c1 ∧ Sat e w' R (bytesO 5 A1 c1 (be 8 n.toNat) :: L)) := by
  refine enter (n := 11) (args := [.int .u64 n]) Tryd.func64 rfl rfl rfl X (fun a H => ?_)
  refine WK.seq ?_
  refine st_text 1 rfl ?_
  refine st_run 0 1 0 [(2, .slice none 0 0)] H (by kernel_rfl) fun a H => ?_
  refine ops_end _ ?_
  refine WK.seq ?_
  refine st_text 7 rfl ?_
  refine st_run 0 1 6 [(6, .int .u64 n)] H (by kernel_rfl) fun a H => ?_
  refine st_op 1 5 (op_call (d := 7) H (by kernel_rfl) rfl (ref01_put8 n (by first | assumption | omega) (by first | assumption | omega) H.sat) fun a v w q F => ?_)
  obtain ⟨X_1, x_1, rfl, X⟩ := q
  have H := St.mk F X
  refine st_run 2 5 0 [(4, .int .i64 0), (3, .slice X_1 ((be 8 n.toNat).length) x_1), (9, .int .i64 0), (8, .slice X_1 ((be 8 n.toNat).length) x_1), (5, .tuple #[.slice X_1 ((be 8 n.toNat).length) x_1, .int .i64 0])] H (by kernel_rfl) fun a H => ?_
  refine ops_end _ ?_
  refine WK.seq ?_
  refine st_text 2 rfl ?_
  refine st_run 0 2 0 [(2, .slice X_1 ((be 8 n.toNat).length) x_1), (10, .slice X_1 ((be 8 n.toNat).length) x_1)] H (by kernel_rfl) fun a H => ?_
  refine ops_end _ ?_
  refine st_ret (vs := [.slice X_1 ((be 8 n.toNat).length) x_1]) H Tryd.func64 rfl (.tmp (by kernel_rfl) (.nil)) ?_
  have X := H.sat
  exact ⟨_, _, rfl, X⟩

/-- wharfage/wharfageref09.Truth -/
theorem ref09_truth0 {e w : World} {R : Hp} {L : List HP}  (X : Sat e w R (L)) :
    Calls Tryd.prog 65 #[.bool false] w (Ret fun v w' => ∃ A1 : Option Addr, ∃ c1 : Nat, v = .slice A1 ((be 4 (0 : Int).toNat).length) c1 ∧ Sat e w' R (bytesO 5 A1 c1 (be 4 (0 : Int).toNat) :: L)) := by
  refine enter (n := 6) (args := [.bool false]) Tryd.func65 rfl rfl rfl X (fun a H => ?_)
  refine WK.seq ?_
  refine st_text 1 rfl ?_
  refine st_run 0 1 0 [(2, .slice none 0 0)] H (by kernel_rfl) fun a H => ?_
  refine ops_end _ ?_
  refine WK.seq ?_
  refine WK.seq ?_
  refine st_text 1 rfl ?_
  refine st_run 0 1 0 [(3, .bool false)] H (by kernel_rfl) fun a H => ?_
  refine ops_end _ ?_
  refine st_false H (by kernel_rfl) ?_
  refine WK.skip ?_
  refine WK.seq ?_
  refine st_text 2 rfl ?_
  refine st_op 0 1 (op_call (d := 5) H (by kernel_rfl) rfl (ref09_number 0 (by first | assumption | omega) (by first | assumption | omega) H.sat) fun a v w q F => ?_)
  obtain ⟨X_1, x_1, rfl, X⟩ := q
  have H := St.mk F X
  refine st_run 1 1 0 [(2, .slice X_1 ((be 4 (0 : Int).toNat).length) x_1)] H (by kernel_rfl) fun a H => ?_
  refine ops_end _ ?_
  refine st_ret (vs := [.slice X_1 ((be 4 (0 : Int).toNat).length) x_1]) H Tryd.func65 rfl (.tmp (by kernel_rfl) (.nil)) ?_
  have X := H.sat
  exact ⟨_, _, rfl, X⟩
end Go.Proofs.YtldnpolfcickaaaDoor
