/- Numbers as bytes. -/
import Derived.Test.YtldnpolfcickaaaDoorBase
import Derived.Test.YtldnpolfcickaaaDoorProg
set_option linter.unusedVariables false
set_option linter.unusedSimpArgs false
set_option maxRecDepth 100000
set_option maxHeartbeats 1000000
namespace Go.Proofs.YtldnpolfcickaaaDoor
open Go Go.WH

/-- wharfage/num.sized -/
theorem num_sized {e w : World} {R : Hp} {L : List HP} (s : Nat) (hs : s = 1 ∨ s = 2 ∨ s = 4 ∨ s = 8) (X : Sat e w R (L)) :
    Calls Tryd.prog 165 #[.int .i64 s] w (Ret fun v w' => v = .bool true ∧ Sat e w' R (L)) := by
  have hs1 : 1 ≤ s ∧ s ≤ 8 := by omega
  refine enter (n := 16) (args := [.int .i64 s]) Tryd.func165 rfl rfl rfl X (fun a H => ?_)
  refine WK.seq ?_
  refine st_text 1 rfl ?_
  refine st_run 0 1 0 [(2, .bool false)] H (by kernel_rfl) fun a H => ?_
  refine ops_end _ ?_
  refine WK.seq ?_
  refine st_text 14 rfl ?_
  refine st_run 0 3 11 [(5, .bool (decide ((s : Int) ≥ 1))), (4, .bool (decide ((s : Int) ≥ 1))), (3, .int .i64 s)] H (by kernel_rfl) fun a H => ?_
  rcases Bool.eq_false_or_eq_true (decide ((s : Int) ≥ 1)) with hg1 | hg1
  · skip
    have H := H.also (d := 5) (u := .bool (decide ((s : Int) ≥ 1))) (v := .bool true) (by kernel_rfl) (congrArg Value.bool (hg1))
    have hg1' := of_decide_eq_true hg1
    refine st_run 3 4 7 [(9, .bool (decide ((s : Int) ≤ 8))), (8, .bool (decide ((s : Int) ≤ 8))), (7, .bool (decide ((s : Int) ≤ 8))), (6, .int .i64 s)] H (by kernel_rfl) fun a H => ?_
    rcases Bool.eq_false_or_eq_true (decide ((s : Int) ≤ 8)) with hg2 | hg2
    · skip
      have H := H.also (d := 9) (u := .bool (decide ((s : Int) ≤ 8))) (v := .bool true) (by kernel_rfl) (congrArg Value.bool (hg2))
      have hg2' := of_decide_eq_true hg2
      refine st_run 7 3 4 [(12, .int .i64 (IntKind.i64.wrap (s - 1))), (11, .int .i64 s), (10, .int .i64 s)] H (by kernel_rfl) fun a H => ?_
      have H := H.turn (d := 12) (u := .int .i64 (IntKind.i64.wrap (s - 1))) (v := .int .i64 (s - 1)) (wI64 (by omega) (by omega))
      refine st_run 10 1 3 [(13, .int .i64 (IntKind.i64.wrap (((BitVec.ofInt 64 s &&& BitVec.ofInt 64 (s - 1) : BitVec 64).toNat : Nat) : Int)))] H (by kernel_rfl) fun a H => ?_
      have H := H.turn (d := 13) (u := .int .i64 (IntKind.i64.wrap (((BitVec.ofInt 64 s &&& BitVec.ofInt 64 (s - 1) : BitVec 64).toNat : Nat) : Int))) (v := .int .i64 0) (by rcases hs with rfl | rfl | rfl | rfl <;> rfl)
      refine st_run 11 3 0 [(2, .bool ((0 : Int) == 0)), (15, .bool ((0 : Int) == 0)), (14, .bool ((0 : Int) == 0))] H (by kernel_rfl) fun a H => ?_
      refine ops_end _ ?_
      refine st_ret (vs := [.bool ((0 : Int) == 0)]) H Tryd.func165 rfl (.tmp (by kernel_rfl) (.nil)) ?_
      have X := H.sat
      exact ⟨rfl, X⟩
    · skip
      have H := H.also (d := 9) (u := .bool (decide ((s : Int) ≤ 8))) (v := .bool false) (by kernel_rfl) (congrArg Value.bool (hg2))
      have hg2' := of_decide_eq_false hg2
      exfalso; omega
  · skip
    have H := H.also (d := 5) (u := .bool (decide ((s : Int) ≥ 1))) (v := .bool false) (by kernel_rfl) (congrArg Value.bool (hg1))
    have hg1' := of_decide_eq_false hg1
    exfalso; omega

/-- math/bits.Len64 -/
theorem bits_len {e w : World} {R : Hp} {L : List HP} (n : Int) (h0 : 0 ≤ n) (h1 : n ≤ 18446744073709551615) (X : Sat e w R (L)) :
    Calls Tryd.prog 166 #[.int .u64 n] w (Ret fun v w' => ∃ l : Int, (0 ≤ l ∧ l ≤ 64) ∧ (n ≤ 255 → l ≤ 8) ∧ (n ≤ 65535 → l ≤ 16) ∧ (n ≤ 4294967295 → l ≤ 32) ∧ v = .int .i64 l ∧ Sat e w' R (L)) := by
  refine enter (n := 25) (args := [.int .u64 n]) Tryd.func166 rfl rfl rfl X (fun a H => ?_)
  refine WK.seq ?_
  refine st_text 1 rfl ?_
  refine st_run 0 1 0 [(2, .int .i64 0)] H (by kernel_rfl) fun a H => ?_
  refine ops_end _ ?_
  refine WK.seq ?_
  refine WK.seq ?_
  refine st_text 2 rfl ?_
  refine st_run 0 2 0 [(4, .bool (decide ((n : Int) ≥ 4294967296))), (3, .int .u64 n)] H (by kernel_rfl) fun a H => ?_
  refine ops_end _ ?_
  refine st_cond (decide ((n : Int) ≥ 4294967296)) H (by kernel_rfl) ?_ ?_
  · intro hc1
    have hc1' := of_decide_eq_true hc1
    refine WK.seq ?_
    refine st_text 3 rfl ?_
    refine st_run 0 2 1 [(6, .int .u64 (Int.fdiv n (2 ^ 32))), (5, .int .u64 n)] H (by kernel_rfl) fun a H => ?_
    have H := H.turn (d := 6) (u := .int .u64 (Int.fdiv n (2 ^ 32))) (v := .int .u64 (n / 4294967296)) (shr_val _ _ _ (by first | omega | exact Int.natCast_nonneg _) (by decide))
    refine st_run 2 1 0 [(0, .int .u64 (n / 4294967296))] H (by kernel_rfl) fun a H => ?_
    refine ops_end _ ?_
    refine st_text 1 rfl ?_
    refine st_run 0 1 0 [(2, .int .i64 32)] H (by kernel_rfl) fun a H => ?_
    refine ops_end _ ?_
    refine WK.seq ?_
    refine WK.seq ?_
    refine st_text 2 rfl ?_
    refine st_run 0 2 0 [(8, .bool (decide (((n / 4294967296) : Int) ≥ 65536))), (7, .int .u64 (n / 4294967296))] H (by kernel_rfl) fun a H => ?_
    refine ops_end _ ?_
    refine st_cond (decide (((n / 4294967296) : Int) ≥ 65536)) H (by kernel_rfl) ?_ ?_
    · intro hc2
      have hc2' := of_decide_eq_true hc2
      refine WK.seq ?_
      refine st_text 3 rfl ?_
      refine st_run 0 2 1 [(10, .int .u64 (Int.fdiv (n / 4294967296) (2 ^ 16))), (9, .int .u64 (n / 4294967296))] H (by kernel_rfl) fun a H => ?_
      have H := H.turn (d := 10) (u := .int .u64 (Int.fdiv (n / 4294967296) (2 ^ 16))) (v := .int .u64 ((n / 4294967296) / 65536)) (shr_val _ _ _ (by first | omega | exact Int.natCast_nonneg _) (by decide))
      refine st_run 2 1 0 [(0, .int .u64 ((n / 4294967296) / 65536))] H (by kernel_rfl) fun a H => ?_
      refine ops_end _ ?_
      refine st_text 3 rfl ?_
      refine st_run 0 3 0 [(2, .int .i64 48), (12, .int .i64 48), (11, .int .i64 32)] H (by kernel_rfl) fun a H => ?_
      refine ops_end _ ?_
      refine WK.seq ?_
      refine WK.seq ?_
      refine st_text 2 rfl ?_
      refine st_run 0 2 0 [(14, .bool (decide ((((n / 4294967296) / 65536) : Int) ≥ 256))), (13, .int .u64 ((n / 4294967296) / 65536))] H (by kernel_rfl) fun a H => ?_
      refine ops_end _ ?_
      refine st_cond (decide ((((n / 4294967296) / 65536) : Int) ≥ 256)) H (by kernel_rfl) ?_ ?_
      · intro hc3
        have hc3' := of_decide_eq_true hc3
        refine WK.seq ?_
        refine st_text 3 rfl ?_
        refine st_run 0 2 1 [(16, .int .u64 (Int.fdiv ((n / 4294967296) / 65536) (2 ^ 8))), (15, .int .u64 ((n / 4294967296) / 65536))] H (by kernel_rfl) fun a H => ?_
        have H := H.turn (d := 16) (u := .int .u64 (Int.fdiv ((n / 4294967296) / 65536) (2 ^ 8))) (v := .int .u64 (((n / 4294967296) / 65536) / 256)) (shr_val _ _ _ (by first | omega | exact Int.natCast_nonneg _) (by decide))
        refine st_run 2 1 0 [(0, .int .u64 (((n / 4294967296) / 65536) / 256))] H (by kernel_rfl) fun a H => ?_
        refine ops_end _ ?_
        refine st_text 3 rfl ?_
        refine st_run 0 3 0 [(2, .int .i64 56), (18, .int .i64 56), (17, .int .i64 48)] H (by kernel_rfl) fun a H => ?_
        refine ops_end _ ?_
        refine WK.seq ?_
        refine st_text 7 rfl ?_
        refine st_run 0 3 4 [(21, .int .u8 (IntKind.u8.wrap (((n / 4294967296) / 65536) / 256))), (20, .int .u64 (((n / 4294967296) / 65536) / 256)), (19, .int .i64 56)] H (by kernel_rfl) fun a H => ?_
        have H := H.turn (d := 21) (u := .int .u8 (IntKind.u8.wrap (((n / 4294967296) / 65536) / 256))) (v := .int .u8 (((n / 4294967296) / 65536) / 256)) (wU8 (by omega) (by omega))
        refine st_op 3 3 (op_table (m := 8) (size := 256) (t := 9) (k := .u8) (j := (((n / 4294967296) / 65536) / 256).toNat) (z := ((n / 4294967296) / 65536) / 256) (d := 22) H (by kernel_rfl) rfl rfl (by omega) (by omega) fun tb a htb H => ?_)
        refine st_run 4 1 2 [(23, .int .i64 (IntKind.i64.wrap ((tb : Int))))] H (by kernel_rfl) fun a H => ?_
        have H := H.turn (d := 23) (u := .int .i64 (IntKind.i64.wrap ((tb : Int)))) (v := .int .i64 (tb : Int)) (wI64 (by omega) (by omega))
        refine st_run 5 1 1 [(24, .int .i64 (IntKind.i64.wrap (56 + (tb : Int))))] H (by kernel_rfl) fun a H => ?_
        have H := H.turn (d := 24) (u := .int .i64 (IntKind.i64.wrap (56 + (tb : Int)))) (v := .int .i64 (56 + (tb : Int))) (wI64 (by omega) (by omega))
        refine st_run 6 1 0 [(2, .int .i64 (56 + (tb : Int)))] H (by kernel_rfl) fun a H => ?_
        refine ops_end _ ?_
        refine st_ret (vs := [.int .i64 (56 + (tb : Int))]) H Tryd.func166 rfl (.tmp (by kernel_rfl) (.nil)) ?_
        have X := H.sat
        exact ⟨_, by omega, by omega, by omega, by omega, rfl, X⟩
      · intro hc3
        have hc3' := of_decide_eq_false hc3
        refine WK.skip ?_
        refine WK.seq ?_
        refine st_text 7 rfl ?_
        refine st_run 0 3 4 [(21, .int .u8 (IntKind.u8.wrap ((n / 4294967296) / 65536))), (20, .int .u64 ((n / 4294967296) / 65536)), (19, .int .i64 48)] H (by kernel_rfl) fun a H => ?_
        have H := H.turn (d := 21) (u := .int .u8 (IntKind.u8.wrap ((n / 4294967296) / 65536))) (v := .int .u8 ((n / 4294967296) / 65536)) (wU8 (by omega) (by omega))
        refine st_op 3 3 (op_table (m := 8) (size := 256) (t := 9) (k := .u8) (j := ((n / 4294967296) / 65536).toNat) (z := (n / 4294967296) / 65536) (d := 22) H (by kernel_rfl) rfl rfl (by omega) (by omega) fun tb a htb H => ?_)
        refine st_run 4 1 2 [(23, .int .i64 (IntKind.i64.wrap ((tb : Int))))] H (by kernel_rfl) fun a H => ?_
        have H := H.turn (d := 23) (u := .int .i64 (IntKind.i64.wrap ((tb : Int)))) (v := .int .i64 (tb : Int)) (wI64 (by omega) (by omega))
        refine st_run 5 1 1 [(24, .int .i64 (IntKind.i64.wrap (48 + (tb : Int))))] H (by kernel_rfl) fun a H => ?_
        have H := H.turn (d := 24) (u := .int .i64 (IntKind.i64.wrap (48 + (tb : Int)))) (v := .int .i64 (48 + (tb : Int))) (wI64 (by omega) (by omega))
        refine st_run 6 1 0 [(2, .int .i64 (48 + (tb : Int)))] H (by kernel_rfl) fun a H => ?_
        refine ops_end _ ?_
        refine st_ret (vs := [.int .i64 (48 + (tb : Int))]) H Tryd.func166 rfl (.tmp (by kernel_rfl) (.nil)) ?_
        have X := H.sat
        exact ⟨_, by omega, by omega, by omega, by omega, rfl, X⟩
    · intro hc3
      have hc3' := of_decide_eq_false hc3
      refine WK.skip ?_
      refine WK.seq ?_
      refine WK.seq ?_
      refine st_text 2 rfl ?_
      refine st_run 0 2 0 [(14, .bool (decide (((n / 4294967296) : Int) ≥ 256))), (13, .int .u64 (n / 4294967296))] H (by kernel_rfl) fun a H => ?_
      refine ops_end _ ?_
      refine st_cond (decide (((n / 4294967296) : Int) ≥ 256)) H (by kernel_rfl) ?_ ?_
      · intro hc4
        have hc4' := of_decide_eq_true hc4
        refine WK.seq ?_
        refine st_text 3 rfl ?_
        refine st_run 0 2 1 [(16, .int .u64 (Int.fdiv (n / 4294967296) (2 ^ 8))), (15, .int .u64 (n / 4294967296))] H (by kernel_rfl) fun a H => ?_
        have H := H.turn (d := 16) (u := .int .u64 (Int.fdiv (n / 4294967296) (2 ^ 8))) (v := .int .u64 ((n / 4294967296) / 256)) (shr_val _ _ _ (by first | omega | exact Int.natCast_nonneg _) (by decide))
        refine st_run 2 1 0 [(0, .int .u64 ((n / 4294967296) / 256))] H (by kernel_rfl) fun a H => ?_
        refine ops_end _ ?_
        refine st_text 3 rfl ?_
        refine st_run 0 3 0 [(2, .int .i64 40), (18, .int .i64 40), (17, .int .i64 32)] H (by kernel_rfl) fun a H => ?_
        refine ops_end _ ?_
        refine WK.seq ?_
        refine st_text 7 rfl ?_
        refine st_run 0 3 4 [(21, .int .u8 (IntKind.u8.wrap ((n / 4294967296) / 256))), (20, .int .u64 ((n / 4294967296) / 256)), (19, .int .i64 40)] H (by kernel_rfl) fun a H => ?_
        have H := H.turn (d := 21) (u := .int .u8 (IntKind.u8.wrap ((n / 4294967296) / 256))) (v := .int .u8 ((n / 4294967296) / 256)) (wU8 (by omega) (by omega))
        refine st_op 3 3 (op_table (m := 8) (size := 256) (t := 9) (k := .u8) (j := ((n / 4294967296) / 256).toNat) (z := (n / 4294967296) / 256) (d := 22) H (by kernel_rfl) rfl rfl (by omega) (by omega) fun tb a htb H => ?_)
        refine st_run 4 1 2 [(23, .int .i64 (IntKind.i64.wrap ((tb : Int))))] H (by kernel_rfl) fun a H => ?_
        have H := H.turn (d := 23) (u := .int .i64 (IntKind.i64.wrap ((tb : Int)))) (v := .int .i64 (tb : Int)) (wI64 (by omega) (by omega))
        refine st_run 5 1 1 [(24, .int .i64 (IntKind.i64.wrap (40 + (tb : Int))))] H (by kernel_rfl) fun a H => ?_
        have H := H.turn (d := 24) (u := .int .i64 (IntKind.i64.wrap (40 + (tb : Int)))) (v := .int .i64 (40 + (tb : Int))) (wI64 (by omega) (by omega))
        refine st_run 6 1 0 [(2, .int .i64 (40 + (tb : Int)))] H (by kernel_rfl) fun a H => ?_
        refine ops_end _ ?_
        refine st_ret (vs := [.int .i64 (40 + (tb : Int))]) H Tryd.func166 rfl (.tmp (by kernel_rfl) (.nil)) ?_
        have X := H.sat
        exact ⟨_, by omega, by omega, by omega, by omega, rfl, X⟩
      · intro hc4
        have hc4' := of_decide_eq_false hc4
        refine WK.skip ?_
        refine WK.seq ?_
        refine st_text 7 rfl ?_
        refine st_run 0 3 4 [(21, .int .u8 (IntKind.u8.wrap (n / 4294967296))), (20, .int .u64 (n / 4294967296)), (19, .int .i64 32)] H (by kernel_rfl) fun a H => ?_
        have H := H.turn (d := 21) (u := .int .u8 (IntKind.u8.wrap (n / 4294967296))) (v := .int .u8 (n / 4294967296)) (wU8 (by omega) (by omega))
        refine st_op 3 3 (op_table (m := 8) (size := 256) (t := 9) (k := .u8) (j := (n / 4294967296).toNat) (z := n / 4294967296) (d := 22) H (by kernel_rfl) rfl rfl (by omega) (by omega) fun tb a htb H => ?_)
        refine st_run 4 1 2 [(23, .int .i64 (IntKind.i64.wrap ((tb : Int))))] H (by kernel_rfl) fun a H => ?_
        have H := H.turn (d := 23) (u := .int .i64 (IntKind.i64.wrap ((tb : Int)))) (v := .int .i64 (tb : Int)) (wI64 (by omega) (by omega))
        refine st_run 5 1 1 [(24, .int .i64 (IntKind.i64.wrap (32 + (tb : Int))))] H (by kernel_rfl) fun a H => ?_
        have H := H.turn (d := 24) (u := .int .i64 (IntKind.i64.wrap (32 + (tb : Int)))) (v := .int .i64 (32 + (tb : Int))) (wI64 (by omega) (by omega))
        refine st_run 6 1 0 [(2, .int .i64 (32 + (tb : Int)))] H (by kernel_rfl) fun a H => ?_
        refine ops_end _ ?_
        refine st_ret (vs := [.int .i64 (32 + (tb : Int))]) H Tryd.func166 rfl (.tmp (by kernel_rfl) (.nil)) ?_
        have X := H.sat
        exact ⟨_, by omega, by omega, by omega, by omega, rfl, X⟩
  · intro hc4
    have hc4' := of_decide_eq_false hc4
    refine WK.skip ?_
    refine WK.seq ?_
    refine WK.seq ?_
    refine st_text 2 rfl ?_
    refine st_run 0 2 0 [(8, .bool (decide ((n : Int) ≥ 65536))), (7, .int .u64 n)] H (by kernel_rfl) fun a H => ?_
    refine ops_end _ ?_
    refine st_cond (decide ((n : Int) ≥ 65536)) H (by kernel_rfl) ?_ ?_
    · intro hc5
      have hc5' := of_decide_eq_true hc5
      refine WK.seq ?_
      refine st_text 3 rfl ?_
      refine st_run 0 2 1 [(10, .int .u64 (Int.fdiv n (2 ^ 16))), (9, .int .u64 n)] H (by kernel_rfl) fun a H => ?_
      have H := H.turn (d := 10) (u := .int .u64 (Int.fdiv n (2 ^ 16))) (v := .int .u64 (n / 65536)) (shr_val _ _ _ (by first | omega | exact Int.natCast_nonneg _) (by decide))
      refine st_run 2 1 0 [(0, .int .u64 (n / 65536))] H (by kernel_rfl) fun a H => ?_
      refine ops_end _ ?_
      refine st_text 3 rfl ?_
      refine st_run 0 3 0 [(2, .int .i64 16), (12, .int .i64 16), (11, .int .i64 0)] H (by kernel_rfl) fun a H => ?_
      refine ops_end _ ?_
      refine WK.seq ?_
      refine WK.seq ?_
      refine st_text 2 rfl ?_
      refine st_run 0 2 0 [(14, .bool (decide (((n / 65536) : Int) ≥ 256))), (13, .int .u64 (n / 65536))] H (by kernel_rfl) fun a H => ?_
      refine ops_end _ ?_
      refine st_cond (decide (((n / 65536) : Int) ≥ 256)) H (by kernel_rfl) ?_ ?_
      · intro hc6
        have hc6' := of_decide_eq_true hc6
        refine WK.seq ?_
        refine st_text 3 rfl ?_
        refine st_run 0 2 1 [(16, .int .u64 (Int.fdiv (n / 65536) (2 ^ 8))), (15, .int .u64 (n / 65536))] H (by kernel_rfl) fun a H => ?_
        have H := H.turn (d := 16) (u := .int .u64 (Int.fdiv (n / 65536) (2 ^ 8))) (v := .int .u64 ((n / 65536) / 256)) (shr_val _ _ _ (by first | omega | exact Int.natCast_nonneg _) (by decide))
        refine st_run 2 1 0 [(0, .int .u64 ((n / 65536) / 256))] H (by kernel_rfl) fun a H => ?_
        refine ops_end _ ?_
        refine st_text 3 rfl ?_
        refine st_run 0 3 0 [(2, .int .i64 24), (18, .int .i64 24), (17, .int .i64 16)] H (by kernel_rfl) fun a H => ?_
        refine ops_end _ ?_
        refine WK.seq ?_
        refine st_text 7 rfl ?_
        refine st_run 0 3 4 [(21, .int .u8 (IntKind.u8.wrap ((n / 65536) / 256))), (20, .int .u64 ((n / 65536) / 256)), (19, .int .i64 24)] H (by kernel_rfl) fun a H => ?_
        have H := H.turn (d := 21) (u := .int .u8 (IntKind.u8.wrap ((n / 65536) / 256))) (v := .int .u8 ((n / 65536) / 256)) (wU8 (by omega) (by omega))
        refine st_op 3 3 (op_table (m := 8) (size := 256) (t := 9) (k := .u8) (j := ((n / 65536) / 256).toNat) (z := (n / 65536) / 256) (d := 22) H (by kernel_rfl) rfl rfl (by omega) (by omega) fun tb a htb H => ?_)
        refine st_run 4 1 2 [(23, .int .i64 (IntKind.i64.wrap ((tb : Int))))] H (by kernel_rfl) fun a H => ?_
        have H := H.turn (d := 23) (u := .int .i64 (IntKind.i64.wrap ((tb : Int)))) (v := .int .i64 (tb : Int)) (wI64 (by omega) (by omega))
        refine st_run 5 1 1 [(24, .int .i64 (IntKind.i64.wrap (24 + (tb : Int))))] H (by kernel_rfl) fun a H => ?_
        have H := H.turn (d := 24) (u := .int .i64 (IntKind.i64.wrap (24 + (tb : Int)))) (v := .int .i64 (24 + (tb : Int))) (wI64 (by omega) (by omega))
        refine st_run 6 1 0 [(2, .int .i64 (24 + (tb : Int)))] H (by kernel_rfl) fun a H => ?_
        refine ops_end _ ?_
        refine st_ret (vs := [.int .i64 (24 + (tb : Int))]) H Tryd.func166 rfl (.tmp (by kernel_rfl) (.nil)) ?_
        have X := H.sat
        exact ⟨_, by omega, by omega, by omega, by omega, rfl, X⟩
      · intro hc6
        have hc6' := of_decide_eq_false hc6
        refine WK.skip ?_
        refine WK.seq ?_
        refine st_text 7 rfl ?_
        refine st_run 0 3 4 [(21, .int .u8 (IntKind.u8.wrap (n / 65536))), (20, .int .u64 (n / 65536)), (19, .int .i64 16)] H (by kernel_rfl) fun a H => ?_
        have H := H.turn (d := 21) (u := .int .u8 (IntKind.u8.wrap (n / 65536))) (v := .int .u8 (n / 65536)) (wU8 (by omega) (by omega))
        refine st_op 3 3 (op_table (m := 8) (size := 256) (t := 9) (k := .u8) (j := (n / 65536).toNat) (z := n / 65536) (d := 22) H (by kernel_rfl) rfl rfl (by omega) (by omega) fun tb a htb H => ?_)
        refine st_run 4 1 2 [(23, .int .i64 (IntKind.i64.wrap ((tb : Int))))] H (by kernel_rfl) fun a H => ?_
        have H := H.turn (d := 23) (u := .int .i64 (IntKind.i64.wrap ((tb : Int)))) (v := .int .i64 (tb : Int)) (wI64 (by omega) (by omega))
        refine st_run 5 1 1 [(24, .int .i64 (IntKind.i64.wrap (16 + (tb : Int))))] H (by kernel_rfl) fun a H => ?_
        have H := H.turn (d := 24) (u := .int .i64 (IntKind.i64.wrap (16 + (tb : Int)))) (v := .int .i64 (16 + (tb : Int))) (wI64 (by omega) (by omega))
        refine st_run 6 1 0 [(2, .int .i64 (16 + (tb : Int)))] H (by kernel_rfl) fun a H => ?_
        refine ops_end _ ?_
        refine st_ret (vs := [.int .i64 (16 + (tb : Int))]) H Tryd.func166 rfl (.tmp (by kernel_rfl) (.nil)) ?_
        have X := H.sat
        exact ⟨_, by omega, by omega, by omega, by omega, rfl, X⟩
    · intro hc6
      have hc6' := of_decide_eq_false hc6
      refine WK.skip ?_
      refine WK.seq ?_
      refine WK.seq ?_
      refine st_text 2 rfl ?_
      refine st_run 0 2 0 [(14, .bool (decide ((n : Int) ≥ 256))), (13, .int .u64 n)] H (by kernel_rfl) fun a H => ?_
      refine ops_end _ ?_
      refine st_cond (decide ((n : Int) ≥ 256)) H (by kernel_rfl) ?_ ?_
      · intro hc7
        have hc7' := of_decide_eq_true hc7
        refine WK.seq ?_
        refine st_text 3 rfl ?_
        refine st_run 0 2 1 [(16, .int .u64 (Int.fdiv n (2 ^ 8))), (15, .int .u64 n)] H (by kernel_rfl) fun a H => ?_
        have H := H.turn (d := 16) (u := .int .u64 (Int.fdiv n (2 ^ 8))) (v := .int .u64 (n / 256)) (shr_val _ _ _ (by first | omega | exact Int.natCast_nonneg _) (by decide))
        refine st_run 2 1 0 [(0, .int .u64 (n / 256))] H (by kernel_rfl) fun a H => ?_
        refine ops_end _ ?_
        refine st_text 3 rfl ?_
        refine st_run 0 3 0 [(2, .int .i64 8), (18, .int .i64 8), (17, .int .i64 0)] H (by kernel_rfl) fun a H => ?_
        refine ops_end _ ?_
        refine WK.seq ?_
        refine st_text 7 rfl ?_
        refine st_run 0 3 4 [(21, .int .u8 (IntKind.u8.wrap (n / 256))), (20, .int .u64 (n / 256)), (19, .int .i64 8)] H (by kernel_rfl) fun a H => ?_
        have H := H.turn (d := 21) (u := .int .u8 (IntKind.u8.wrap (n / 256))) (v := .int .u8 (n / 256)) (wU8 (by omega) (by omega))
        refine st_op 3 3 (op_table (m := 8) (size := 256) (t := 9) (k := .u8) (j := (n / 256).toNat) (z := n / 256) (d := 22) H (by kernel_rfl) rfl rfl (by omega) (by omega) fun tb a htb H => ?_)
        refine st_run 4 1 2 [(23, .int .i64 (IntKind.i64.wrap ((tb : Int))))] H (by kernel_rfl) fun a H => ?_
        have H := H.turn (d := 23) (u := .int .i64 (IntKind.i64.wrap ((tb : Int)))) (v := .int .i64 (tb : Int)) (wI64 (by omega) (by omega))
        refine st_run 5 1 1 [(24, .int .i64 (IntKind.i64.wrap (8 + (tb : Int))))] H (by kernel_rfl) fun a H => ?_
        have H := H.turn (d := 24) (u := .int .i64 (IntKind.i64.wrap (8 + (tb : Int)))) (v := .int .i64 (8 + (tb : Int))) (wI64 (by omega) (by omega))
        refine st_run 6 1 0 [(2, .int .i64 (8 + (tb : Int)))] H (by kernel_rfl) fun a H => ?_
        refine ops_end _ ?_
        refine st_ret (vs := [.int .i64 (8 + (tb : Int))]) H Tryd.func166 rfl (.tmp (by kernel_rfl) (.nil)) ?_
        have X := H.sat
        exact ⟨_, by omega, by omega, by omega, by omega, rfl, X⟩
      · intro hc7
        have hc7' := of_decide_eq_false hc7
        refine WK.skip ?_
        refine WK.seq ?_
        refine st_text 7 rfl ?_
        refine st_run 0 3 4 [(21, .int .u8 (IntKind.u8.wrap (n))), (20, .int .u64 n), (19, .int .i64 0)] H (by kernel_rfl) fun a H => ?_
        have H := H.turn (d := 21) (u := .int .u8 (IntKind.u8.wrap (n))) (v := .int .u8 n) (wU8 (by omega) (by omega))
        refine st_op 3 3 (op_table (m := 8) (size := 256) (t := 9) (k := .u8) (j := (n).toNat) (z := n) (d := 22) H (by kernel_rfl) rfl rfl (by omega) (by omega) fun tb a htb H => ?_)
        refine st_run 4 1 2 [(23, .int .i64 (IntKind.i64.wrap ((tb : Int))))] H (by kernel_rfl) fun a H => ?_
        have H := H.turn (d := 23) (u := .int .i64 (IntKind.i64.wrap ((tb : Int)))) (v := .int .i64 (tb : Int)) (wI64 (by omega) (by omega))
        refine st_run 5 1 1 [(24, .int .i64 (IntKind.i64.wrap (0 + (tb : Int))))] H (by kernel_rfl) fun a H => ?_
        have H := H.turn (d := 24) (u := .int .i64 (IntKind.i64.wrap (0 + (tb : Int)))) (v := .int .i64 (0 + (tb : Int))) (wI64 (by omega) (by omega))
        refine st_run 6 1 0 [(2, .int .i64 (0 + (tb : Int)))] H (by kernel_rfl) fun a H => ?_
        refine ops_end _ ?_
        refine st_ret (vs := [.int .i64 (0 + (tb : Int))]) H Tryd.func166 rfl (.tmp (by kernel_rfl) (.nil)) ?_
        have X := H.sat
        exact ⟨_, by omega, by omega, by omega, by omega, rfl, X⟩

/-- wharfage/num.Put -/
theorem num_put {e w : World} {R : Hp} {L : List HP} (n : Int) (s : Nat) (hs : s = 1 ∨ s = 2 ∨ s = 4 ∨ s = 8) (h0 : 0 ≤ n) (h1 : n ≤ 18446744073709551615) (h2 : n < 256 ^ s) (X : Sat e w R (L)) :
    Calls Tryd.prog 108 #[.int .u64 n, .int .i64 s] w (Ret fun v w' => ∃ A1 : Option Addr, ∃ c1 : Nat, v = .tuple #[.slice A1 ((be s n.toNat).length) c1, .int .i64 0] ∧ Sat e w' R (bytesO 5 A1 c1 (be s n.toNat) :: L)) := by
  have hs8 : 1 ≤ s ∧ s ≤ 8 := by omega
  refine enter (n := 34) (args := [.int .u64 n, .int .i64 s]) Tryd.func108 rfl rfl rfl X (fun a H => ?_)
  refine WK.seq ?_
  refine st_text 2 rfl ?_
  refine st_run 0 2 0 [(5, .int .i64 0), (4, .slice none 0 0)] H (by kernel_rfl) fun a H => ?_
  refine ops_end _ ?_
  refine WK.seq ?_
  refine WK.seq ?_
  refine st_text 10 rfl ?_
  refine st_run 0 1 9 [(8, .int .i64 s)] H (by kernel_rfl) fun a H => ?_
  refine st_op 1 8 (op_call (d := 9) H (by kernel_rfl) rfl (num_sized s (by first | assumption | omega) H.sat) fun a v w q F => ?_)
  obtain ⟨rfl, X⟩ := q
  have H := St.mk F X
  refine st_run 2 3 5 [(12, .int .u64 n), (11, .bool false), (10, .bool false)] H (by kernel_rfl) fun a H => ?_
  refine st_op 5 4 (op_call (d := 13) H (by kernel_rfl) rfl (bits_len n (by first | assumption | omega) (by first | assumption | omega) H.sat) fun a v w q F => ?_)
  obtain ⟨x_1, hf1, hf2, hf3, hf4, rfl, X⟩ := q
  have H := St.mk F X
  refine st_run 6 2 2 [(15, .int .i64 (IntKind.i64.wrap (8 * s))), (14, .int .i64 s)] H (by kernel_rfl) fun a H => ?_
  have H := H.turn (d := 15) (u := .int .i64 (IntKind.i64.wrap (8 * s))) (v := .int .i64 (8 * s)) (wI64 (by omega) (by omega))
  refine st_run 8 2 0 [(17, .bool (decide ((x_1 : Int) > (8 * s)))), (16, .bool (decide ((x_1 : Int) > (8 * s))))] H (by kernel_rfl) fun a H => ?_
  refine ops_end _ ?_
  refine st_cond (decide ((x_1 : Int) > (8 * s))) H (by kernel_rfl) ?_ ?_
  · intro hc1
    exfalso
    rcases hs with rfl | rfl | rfl | rfl <;> simp only [Nat.reducePow, Int.reducePow] at h2 <;> have := of_decide_eq_true hc1 <;> omega
  · intro hc1
    have hc1' := of_decide_eq_false hc1
    refine WK.skip ?_
    refine WK.seq ?_
    refine st_text 3 rfl ?_
    refine st_run 0 1 2 [(18, .int .i64 s)] H (by kernel_rfl) fun a H => ?_
    refine st_op 1 1 (op_make (m := s) (bytes := 1) (d := 19) (t := 26) H (by kernel_rfl) rfl rfl rfl rfl (by omega) (by omega) fun a w b1 H => ?_)
    refine st_run 2 1 0 [(6, .slice (some ⟨b1, 0, none⟩) s s)] H (by kernel_rfl) fun a H => ?_
    refine ops_end _ ?_
    refine WK.seq ?_
    refine WK.seq ?_
    refine st_text 3 rfl ?_
    refine st_run 0 2 1 [(21, .int .i64 (IntKind.i64.wrap (s - 1))), (20, .int .i64 s)] H (by kernel_rfl) fun a H => ?_
    have H := H.turn (d := 21) (u := .int .i64 (IntKind.i64.wrap (s - 1))) (v := .int .i64 (s - 1)) (wI64 (by omega) (by omega))
    refine st_run 2 1 0 [(7, .int .i64 (s - 1))] H (by kernel_rfl) fun a H => ?_
    refine ops_end _ ?_
    refine WK.block ?_
    have H := H.arrAt (k := 0) (ys := bytesV (List.replicate s 0 ++ be (s - s) n.toNat)) rfl (by simp [be, bytesV, byteV])
    have H := H.also (d := 0) (v := .int .u64 ((n.toNat / 256 ^ (s - s) : Nat) : Int)) (by kernel_rfl) (by rw [Nat.sub_self, Nat.pow_zero, Nat.div_one, Int.toNat_of_nonneg h0])
    refine WK.loop (fun m a w => ∃ j : Nat, j = m ∧ (j ≤ s) ∧ St 34 e R a w [(0, .int .u64 ((n.toNat / 256 ^ (s - j) : Nat) : Int)), (1, .int .i64 s), (6, .slice (some ⟨b1, 0, none⟩) s s), (7, .int .i64 ((j : Int) - 1))] (blk b1 (.cells (bytesV (List.replicate j 0 ++ be (s - j) n.toNat)).toArray 5 (0, 0)) :: L)) (s) ⟨s, rfl, Nat.le_refl _, H.sub' ⟨by kernel_rfl, by kernel_rfl, by kernel_rfl, by kernel_rfl, trivial⟩⟩ ?_
    clear H
    rintro m a w ⟨j, rfl, hl0_0, H⟩ hrec
    have hrec0 := hrec; clear hrec
    refine WK.seq ?_
    refine WK.seq ?_
    refine st_text 2 rfl ?_
    refine st_run 0 2 0 [(23, .bool (decide ((((j : Int) - 1) : Int) ≥ 0))), (22, .int .i64 ((j : Int) - 1))] H (by kernel_rfl) fun a H => ?_
    refine ops_end _ ?_
    refine st_cond (decide ((((j : Int) - 1) : Int) ≥ 0)) H (by kernel_rfl) ?_ ?_
    · intro hc2
      have hc2' := of_decide_eq_true hc2
      refine WK.skip ?_
      refine WK.seq ?_
      refine WK.block ?_
      refine WK.seq ?_
      refine st_text 6 rfl ?_
      refine st_run 0 4 2 [(29, .int .u8 (IntKind.u8.wrap (((n.toNat / 256 ^ (s - j) : Nat) : Int)))), (28, .int .u64 ((n.toNat / 256 ^ (s - j) : Nat) : Int)), (27, .int .i64 ((j : Int) - 1)), (26, .slice (some ⟨b1, 0, none⟩) s s)] H (by kernel_rfl) fun a H => ?_
      have H := H.turn (d := 29) (u := .int .u8 (IntKind.u8.wrap (((n.toNat / 256 ^ (s - j) : Nat) : Int)))) (v := .int .u8 ((UInt8.ofNat (n.toNat / 256 ^ (s - j))).toNat : Int)) (wbyteN _)
      refine st_op 4 1 (op_val (d := 30) (v := .pointer (some ⟨b1, 0 + (j - 1), none⟩)) H (ixa_sl1 (b := b1) (off := 0) (len := s) (cap := s) (t := 26) (k := .i64) (j := (j - 1)) (z := ((j : Int) - 1)) (by kernel_rfl) rfl rfl (by omega) (by omega)) fun a H => ?_)
      refine st_op 5 0 (op_storeAt (k := 0) (t := 5) (off := 0 + (j - 1)) (v := .int .u8 ((UInt8.ofNat (n.toNat / 256 ^ (s - j))).toNat : Int)) H rfl (by kernel_rfl) rfl rfl rfl (by simp [bytesV]; omega) fun a w H => ?_)
      refine ops_end _ ?_
      refine st_text 3 rfl ?_
      refine st_run 0 2 1 [(32, .int .u64 (Int.fdiv ((n.toNat / 256 ^ (s - j) : Nat) : Int) (2 ^ 8))), (31, .int .u64 ((n.toNat / 256 ^ (s - j) : Nat) : Int))] H (by kernel_rfl) fun a H => ?_
      have H := H.turn (d := 32) (u := .int .u64 (Int.fdiv ((n.toNat / 256 ^ (s - j) : Nat) : Int) (2 ^ 8))) (v := .int .u64 (((n.toNat / 256 ^ (s - j) : Nat) : Int) / 256)) (shr_val _ _ _ (by first | omega | exact Int.natCast_nonneg _) (by decide))
      refine st_run 2 1 0 [(0, .int .u64 (((n.toNat / 256 ^ (s - j) : Nat) : Int) / 256))] H (by kernel_rfl) fun a H => ?_
      refine ops_end _ ?_
      refine WK.inBlock ?_
      refine st_text 3 rfl ?_
      refine st_run 0 2 1 [(25, .int .i64 (IntKind.i64.wrap (((j : Int) - 1) - 1))), (24, .int .i64 ((j : Int) - 1))] H (by kernel_rfl) fun a H => ?_
      have H := H.turn (d := 25) (u := .int .i64 (IntKind.i64.wrap (((j : Int) - 1) - 1))) (v := .int .i64 (((j : Int) - 1) - 1)) (wI64 (by omega) (by omega))
      refine st_run 2 1 0 [(7, .int .i64 (((j : Int) - 1) - 1))] H (by kernel_rfl) fun a H => ?_
      refine ops_end _ ?_
      have e1 : s - (j - 1) = (s - j) + 1 := by omega
      have H := H.also (d := 0) (v := .int .u64 ((n.toNat / 256 ^ (s - (j - 1)) : Nat) : Int)) (by kernel_rfl) (by rw [e1, Nat.pow_succ, ← Nat.div_div_eq_div_mul])
      have H := H.also (d := 7) (v := .int .i64 (((j - 1 : Nat) : Int) - 1)) (by kernel_rfl) (by rw [show (((j - 1 : Nat) : Int) - 1) = (j : Int) - 1 - 1 by omega])
      have H := H.arrAt (k := 0) (ys := bytesV (List.replicate (j - 1) 0 ++ be (s - (j - 1)) n.toNat)) rfl (by rw [e1, ← put_step (by omega), ← bytesV_set, Nat.zero_add]; rfl)
      exact hrec0 _ _ _ (by omega) ⟨j - 1, rfl, by omega, H.sub' ⟨by kernel_rfl, by kernel_rfl, by kernel_rfl, by kernel_rfl, trivial⟩⟩
    · intro hc2
      have hc2' := of_decide_eq_false hc2
      refine WK.exit (k' := _) rfl ?_
      refine WK.seq ?_
      refine st_text 3 rfl ?_
      refine st_run 0 3 0 [(5, .int .i64 0), (4, .slice (some ⟨b1, 0, none⟩) s s), (33, .slice (some ⟨b1, 0, none⟩) s s)] H (by kernel_rfl) fun a H => ?_
      refine ops_end _ ?_
      refine st_ret (vs := [.slice (some ⟨b1, 0, none⟩) s s, .int .i64 0]) H Tryd.func108 rfl (.tmp (by kernel_rfl) (.tmp (by kernel_rfl) (.nil))) ?_
      have H := H.arrAt (k := 0) (ys := bytesV (be s n.toNat)) rfl (by rw [show j = 0 by omega]; simp)
      have X := H.sat
      have X := X.arr_bytes (s := s) (by simp [be_length]) (by simp only [maxLen]; omega)
      exact ⟨_, s, (by rw [be_length]), X⟩

/-- wharfage/num.Pad -/
theorem num_pad {e w : World} {R : Hp} {L : List HP} (n : Int) (h0 : 0 ≤ n) (h1 : n ≤ 4611686018427387904) (X : Sat e w R (L)) :
    Calls Tryd.prog 172 #[.int .i64 n] w (Ret fun v w' => v = .int .i64 ((0 - n) % 4) ∧ Sat e w' R (L)) := by
  refine enter (n := 7) (args := [.int .i64 n]) Tryd.func172 rfl rfl rfl X (fun a H => ?_)
  refine WK.seq ?_
  refine st_text 1 rfl ?_
  refine st_run 0 1 0 [(2, .int .i64 0)] H (by kernel_rfl) fun a H => ?_
  refine ops_end _ ?_
  refine WK.seq ?_
  refine st_text 5 rfl ?_
  refine st_run 0 2 3 [(4, .int .i64 (if n < 0 then 0 else n)), (3, .int .i64 n)] H (by kernel_rfl) fun a H => ?_
  have H := H.turn (d := 4) (u := .int .i64 (if n < 0 then 0 else n)) (v := .int .i64 (max n 0)) (max_val _ _ _)
  refine st_run 2 1 2 [(5, .int .i64 (IntKind.i64.wrap (0 - (max n 0))))] H (by kernel_rfl) fun a H => ?_
  have H := H.turn (d := 5) (u := .int .i64 (IntKind.i64.wrap (0 - (max n 0)))) (v := .int .i64 (0 - (max n 0))) (wI64 (by omega) (by omega))
  refine st_run 3 1 1 [(6, .int .i64 (IntKind.i64.wrap (((BitVec.ofInt 64 (0 - (max n 0)) &&& BitVec.ofInt 64 3 : BitVec 64).toNat : Nat) : Int)))] H (by kernel_rfl) fun a H => ?_
  have H := H.turn (d := 6) (u := .int .i64 (IntKind.i64.wrap (((BitVec.ofInt 64 (0 - (max n 0)) &&& BitVec.ofInt 64 3 : BitVec 64).toNat : Nat) : Int))) (v := .int .i64 ((0 - (max n 0)) % 4)) (and3 _)
  refine st_run 4 1 0 [(2, .int .i64 ((0 - (max n 0)) % 4))] H (by kernel_rfl) fun a H => ?_
  refine ops_end _ ?_
  refine st_ret (vs := [.int .i64 ((0 - (max n 0)) % 4)]) H Tryd.func172 rfl (.tmp (by kernel_rfl) (.nil)) ?_
  have X := H.sat
  exact ⟨(by rw [show max n 0 = n by omega]), X⟩

/-- wharfage/num.Zero$1 -/
theorem num_zero1 {e w : World} {R : Hp} {L : List HP} (x : Int) (X : Sat e w R (L)) :
    Calls Tryd.prog 191 #[.int .u8 x] w (Ret fun v w' => v = .bool (decide (x > 0)) ∧ Sat e w' R (L)) := by
  refine enter (n := 5) (args := [.int .u8 x]) Tryd.func191 rfl rfl rfl X (fun a H => ?_)
  refine WK.seq ?_
  refine st_text 1 rfl ?_
  refine st_run 0 1 0 [(2, .bool false)] H (by kernel_rfl) fun a H => ?_
  refine ops_end _ ?_
  refine WK.seq ?_
  refine st_text 3 rfl ?_
  refine st_run 0 3 0 [(2, .bool (decide ((x : Int) > 0))), (4, .bool (decide ((x : Int) > 0))), (3, .int .u8 x)] H (by kernel_rfl) fun a H => ?_
  refine ops_end _ ?_
  refine st_ret (vs := [.bool (decide ((x : Int) > 0))]) H Tryd.func191 rfl (.tmp (by kernel_rfl) (.nil)) ?_
  have X := H.sat
  exact ⟨rfl, X⟩

/-- slices.IndexFunc[[]byte,byte] -/
theorem index_zero {e w : World} {R : Hp} {L : List HP} (A : Option Addr) (cap : Nat) (bs : List UInt8) (hr : RdB R A cap bs) (X : Sat e w R (L)) :
    Calls Tryd.prog 196 #[.slice A bs.length cap, .func (.func 191) #[] #[]] w (Ret fun v w' => ∃ i : Int, (-1 ≤ i) ∧ (decide (i ≥ 0) = !(bs.all (· == 0))) ∧ v = .int .i64 i ∧ Sat e w' R (L)) := by
  have hmx : bs.length ≤ 9223372036854775807 := Nat.le_trans hr.le hr.mx
  refine enter (n := 19) (args := [.slice A bs.length cap, .func (.func 191) #[] #[]]) Tryd.func196 rfl rfl rfl X (fun a H => ?_)
  refine WK.seq ?_
  refine st_text 1 rfl ?_
  refine st_run 0 1 0 [(4, .int .i64 0)] H (by kernel_rfl) fun a H => ?_
  refine ops_end _ ?_
  refine WK.seq ?_
  refine WK.seq ?_
  refine st_text 3 rfl ?_
  refine st_run 0 3 0 [(8, .int .i64 0), (7, .int .i64 ((bs.length : Nat) : Int)), (6, .slice A bs.length cap)] H (by kernel_rfl) fun a H => ?_
  refine ops_end _ ?_
  refine WK.block ?_
  refine WK.loop (fun m a w => ∃ j : Nat, (bs.length - j) = m ∧ (j ≤ bs.length) ∧ ((bs.take j).all (· == 0) = true) ∧ St 19 e R a w [(0, .slice A bs.length cap), (1, .func (.func 191) #[] #[]), (7, .int .i64 ((bs.length : Nat) : Int)), (8, .int .i64 (j : Int))] (L)) (bs.length - 0) ⟨0, rfl, by omega, by simp, H.sub' ⟨by kernel_rfl, by kernel_rfl, by kernel_rfl, by kernel_rfl, trivial⟩⟩ ?_
  clear H
  rintro m a w ⟨j, rfl, hl0_0, hl0_1, H⟩ hrec
  have hrec0 := hrec; clear hrec
  refine WK.seq ?_
  refine st_text 1 rfl ?_
  refine st_run 0 1 0 [(9, .bool (decide (((j : Int) : Int) < ((bs.length : Nat) : Int))))] H (by kernel_rfl) fun a H => ?_
  refine ops_end _ ?_
  refine WK.seq ?_
  refine st_cond (decide (((j : Int) : Int) < ((bs.length : Nat) : Int))) H (by kernel_rfl) ?_ ?_
  · intro hc1
    have hc1' := of_decide_eq_true hc1
    refine WK.skip ?_
    refine WK.seq ?_
    refine WK.block ?_
    refine WK.seq ?_
    refine st_text 2 rfl ?_
    refine st_run 0 2 0 [(5, .int .i64 (j : Int)), (10, .int .i64 (j : Int))] H (by kernel_rfl) fun a H => ?_
    refine ops_end _ ?_
    refine WK.seq ?_
    refine st_text 6 rfl ?_
    refine st_run 0 3 3 [(13, .int .i64 (j : Int)), (12, .slice A bs.length cap), (11, .func (.func 191) #[] #[])] H (by kernel_rfl) fun a H => ?_
    refine st_op 3 2 (op_val (d := 14) (v := .pointer (ptrA A j)) H (ixa_rd1 hr (t := 26) (k := .i64) (j := j) (z := (j : Int)) (by kernel_rfl) rfl rfl (by omega) (by omega)) fun a H => ?_)
    refine st_op 4 1 (op_val (d := 15) (v := .int .u8 ((bs.getD j 0).toNat : Int)) H (val_ldB hr (t := 5) (j := j) (by kernel_rfl) rfl rfl (by omega)) fun a H => ?_)
    refine st_op 5 0 (op_call (d := 16) H (by kernel_rfl) rfl (num_zero1 ((bs.getD j 0).toNat : Int) H.sat) fun a v w q F => ?_)
    obtain ⟨rfl, X⟩ := q
    have H := St.mk F X
    refine ops_end _ ?_
    refine st_cond (decide (((bs.getD j 0).toNat : Int) > 0)) H (by kernel_rfl) ?_ ?_
    · intro hc2
      have hc2' := of_decide_eq_true hc2
      refine WK.seq ?_
      refine st_text 2 rfl ?_
      refine st_run 0 2 0 [(4, .int .i64 (j : Int)), (17, .int .i64 (j : Int))] H (by kernel_rfl) fun a H => ?_
      refine ops_end _ ?_
      refine st_ret (vs := [.int .i64 (j : Int)]) H Tryd.func196 rfl (.tmp (by kernel_rfl) (.nil)) ?_
      have X := H.sat
      exact ⟨_, by omega, by rw [all_stop (by omega) (byte1 hc2')]; simp, rfl, X⟩
    · intro hc2
      have hc2' := of_decide_eq_false hc2
      refine WK.skip ?_
      refine WK.inBlock ?_
      refine st_text 2 rfl ?_
      refine st_run 0 1 1 [(18, .int .i64 (IntKind.i64.wrap ((j : Int) + 1)))] H (by kernel_rfl) fun a H => ?_
      have H := H.turn (d := 18) (u := .int .i64 (IntKind.i64.wrap ((j : Int) + 1))) (v := .int .i64 ((j : Int) + 1)) (wI64 (by omega) (by omega))
      refine st_run 1 1 0 [(8, .int .i64 ((j : Int) + 1))] H (by kernel_rfl) fun a H => ?_
      refine ops_end _ ?_
      exact hrec0 _ _ _ (by omega) ⟨j + 1, rfl, by omega, all_step (by omega) hl0_1 (byte0 hc2'), H.sub' ⟨by kernel_rfl, by kernel_rfl, by kernel_rfl, by kernel_rfl, trivial⟩⟩
  · intro hc2
    have hc2' := of_decide_eq_false hc2
    refine WK.exit (k' := _) rfl ?_
    refine WK.seq ?_
    refine st_text 1 rfl ?_
    refine st_run 0 1 0 [(4, .int .i64 (-1))] H (by kernel_rfl) fun a H => ?_
    refine ops_end _ ?_
    refine st_ret (vs := [.int .i64 (-1)]) H Tryd.func196 rfl (.tmp (by kernel_rfl) (.nil)) ?_
    have X := H.sat
    exact ⟨_, by omega, by rw [List.take_of_length_le (by omega)] at hl0_1; rw [hl0_1]; rfl, rfl, X⟩

/-- slices.ContainsFunc[[]byte,byte] -/
theorem contains_zero {e w : World} {R : Hp} {L : List HP} (A : Option Addr) (cap : Nat) (bs : List UInt8) (hr : RdB R A cap bs) (X : Sat e w R (L)) :
    Calls Tryd.prog 190 #[.slice A bs.length cap, .func (.func 191) #[] #[]] w (Ret fun v w' => v = .bool (!(bs.all (· == 0))) ∧ Sat e w' R (L)) := by
  refine enter (n := 9) (args := [.slice A bs.length cap, .func (.func 191) #[] #[]]) Tryd.func190 rfl rfl rfl X (fun a H => ?_)
  refine WK.seq ?_
  refine st_text 1 rfl ?_
  refine st_run 0 1 0 [(4, .bool false)] H (by kernel_rfl) fun a H => ?_
  refine ops_end _ ?_
  refine WK.seq ?_
  refine st_text 5 rfl ?_
  refine st_run 0 2 3 [(6, .func (.func 191) #[] #[]), (5, .slice A bs.length cap)] H (by kernel_rfl) fun a H => ?_
  refine st_op 2 2 (op_call (d := 7) H (by kernel_rfl) rfl (index_zero A cap bs (by first | assumption | omega) H.sat) fun a v w q F => ?_)
  obtain ⟨x_1, hf1, hf2, rfl, X⟩ := q
  have H := St.mk F X
  refine st_run 3 2 0 [(4, .bool (decide ((x_1 : Int) ≥ 0))), (8, .bool (decide ((x_1 : Int) ≥ 0)))] H (by kernel_rfl) fun a H => ?_
  refine ops_end _ ?_
  refine st_ret (vs := [.bool (decide ((x_1 : Int) ≥ 0))]) H Tryd.func190 rfl (.tmp (by kernel_rfl) (.nil)) ?_
  have X := H.sat
  exact ⟨(by rw [hf2]), X⟩

/-- wharfage/num.Zero -/
theorem num_zero {e w : World} {R : Hp} {L : List HP} (A : Option Addr) (cap : Nat) (bs : List UInt8) (at0 : Int) (n : Int) (hr : RdB R A cap bs) (h0 : 0 ≤ at0) (h1 : 0 ≤ n) (h2 : at0 + n ≤ bs.length) (X : Sat e w R (L)) :
    Calls Tryd.prog 173 #[.slice A bs.length cap, .int .i64 at0, .int .i64 n] w (Ret fun v w' => v = .int .i64 (zeroE bs at0.toNat n.toNat) ∧ Sat e w' R (L)) := by
  have hmx : bs.length ≤ 9223372036854775807 := Nat.le_trans hr.le hr.mx
  have hle := hr.le
  refine enter (n := 35) (args := [.slice A bs.length cap, .int .i64 at0, .int .i64 n]) Tryd.func173 rfl rfl rfl X (fun a H => ?_)
  refine WK.seq ?_
  refine st_text 1 rfl ?_
  refine st_run 0 1 0 [(6, .int .i64 0)] H (by kernel_rfl) fun a H => ?_
  refine ops_end _ ?_
  refine WK.seq ?_
  refine WK.block ?_
  refine WK.seq ?_
  refine st_text 13 rfl ?_
  refine st_run 0 3 10 [(10, .bool (decide ((at0 : Int) < 0))), (9, .bool (decide ((at0 : Int) < 0))), (8, .int .i64 at0)] H (by kernel_rfl) fun a H => ?_
  rcases Bool.eq_false_or_eq_true (decide ((at0 : Int) < 0)) with hg1 | hg1
  · skip
    have H := H.also (d := 10) (u := .bool (decide ((at0 : Int) < 0))) (v := .bool true) (by kernel_rfl) (congrArg Value.bool (hg1))
    have hg1' := of_decide_eq_true hg1
    exfalso; omega
  · skip
    have H := H.also (d := 10) (u := .bool (decide ((at0 : Int) < 0))) (v := .bool false) (by kernel_rfl) (congrArg Value.bool (hg1))
    have hg1' := of_decide_eq_false hg1
    refine st_run 3 6 4 [(16, .bool (decide ((at0 : Int) > ((bs.length : Nat) : Int)))), (15, .bool (decide ((at0 : Int) > ((bs.length : Nat) : Int)))), (14, .bool (decide ((at0 : Int) > ((bs.length : Nat) : Int)))), (13, .int .i64 ((bs.length : Nat) : Int)), (12, .slice A bs.length cap), (11, .int .i64 at0)] H (by kernel_rfl) fun a H => ?_
    rcases Bool.eq_false_or_eq_true (decide ((at0 : Int) > ((bs.length : Nat) : Int))) with hg2 | hg2
    · skip
      have H := H.also (d := 16) (u := .bool (decide ((at0 : Int) > ((bs.length : Nat) : Int)))) (v := .bool true) (by kernel_rfl) (congrArg Value.bool (hg2))
      have hg2' := of_decide_eq_true hg2
      exfalso; omega
    · skip
      have H := H.also (d := 16) (u := .bool (decide ((at0 : Int) > ((bs.length : Nat) : Int)))) (v := .bool false) (by kernel_rfl) (congrArg Value.bool (hg2))
      have hg2' := of_decide_eq_false hg2
      refine st_run 9 4 0 [(7, .bool (decide ((n : Int) < 0))), (19, .bool (decide ((n : Int) < 0))), (18, .bool (decide ((n : Int) < 0))), (17, .int .i64 n)] H (by kernel_rfl) fun a H => ?_
      refine ops_end _ ?_
      refine st_cond (decide ((n : Int) < 0)) H (by kernel_rfl) ?_ ?_
      · intro hc1
        have hc1' := of_decide_eq_true hc1
        exfalso; omega
      · intro hc1
        have hc1' := of_decide_eq_false hc1
        refine WK.seq ?_
        refine st_text 7 rfl ?_
        refine st_run 0 4 3 [(24, .int .i64 (IntKind.i64.wrap (((bs.length : Nat) : Int) - at0))), (23, .int .i64 at0), (22, .int .i64 ((bs.length : Nat) : Int)), (21, .slice A bs.length cap)] H (by kernel_rfl) fun a H => ?_
        have H := H.turn (d := 24) (u := .int .i64 (IntKind.i64.wrap (((bs.length : Nat) : Int) - at0))) (v := .int .i64 (((bs.length : Nat) : Int) - at0)) (wI64 (by omega) (by omega))
        refine st_run 4 3 0 [(20, .bool (decide (((((bs.length : Nat) : Int) - at0) : Int) < n))), (26, .bool (decide (((((bs.length : Nat) : Int) - at0) : Int) < n))), (25, .int .i64 n)] H (by kernel_rfl) fun a H => ?_
        refine ops_end _ ?_
        refine st_cond (decide (((((bs.length : Nat) : Int) - at0) : Int) < n)) H (by kernel_rfl) ?_ ?_
        · intro hc2
          have hc2' := of_decide_eq_true hc2
          exfalso; omega
        · intro hc2
          have hc2' := of_decide_eq_false hc2
          refine WK.seq ?_
          refine st_text 8 rfl ?_
          refine st_run 0 5 3 [(32, .int .i64 (IntKind.i64.wrap (at0 + n))), (31, .int .i64 n), (30, .int .i64 at0), (29, .int .i64 at0), (28, .slice A bs.length cap)] H (by kernel_rfl) fun a H => ?_
          have H := H.turn (d := 32) (u := .int .i64 (IntKind.i64.wrap (at0 + n))) (v := .int .i64 (at0 + n)) (wI64 (by omega) (by omega))
          have hsub := hr.sub (l := at0.toNat) (h := (at0 + n).toNat) (by omega) (by omega)
          have hsl : ((bs.drop at0.toNat).take ((at0 + n).toNat - at0.toNat)).length = (at0 + n).toNat - at0.toNat := by rw [List.length_take, List.length_drop]; omega
          refine st_op 5 2 (op_val (d := 33) (v := .slice (subA A cap at0.toNat 1) (((at0 + n).toNat) - at0.toNat) (cap - at0.toNat)) H (val_slice (t := 26) (A := A) (m := bs.length) (c := cap) (some (.i64, at0, at0.toNat)) (some (.i64, at0 + n, (at0 + n).toNat)) (by kernel_rfl) rfl rfl (by first | rfl | (simp only [loOk]; omega)) (by first | rfl | (simp only [loOk]; omega)) (by simp only [loN]; omega) (by have hx := hr.le; simp only [loN]; omega)) fun a H => ?_)
          have H := H.turn (d := 33) (v := .slice (subA A cap at0.toNat 1) (((bs.drop at0.toNat).take ((at0 + n).toNat - at0.toNat)).length) (cap - at0.toNat)) (by first | rfl | (simp only [List.length_take, List.length_drop]; done) | (simp only [List.length_take, List.length_drop]; congr 1 <;> omega))
          refine st_op 6 1 (op_call (d := 34) H (by kernel_rfl) rfl (contains_zero (subA A cap at0.toNat 1) (cap - at0.toNat) ((bs.drop at0.toNat).take ((at0 + n).toNat - at0.toNat)) (by first | assumption | omega) H.sat) fun a v w q F => ?_)
          obtain ⟨rfl, X⟩ := q
          have H := St.mk F X
          refine st_run 7 1 0 [(27, .bool (!(((bs.drop at0.toNat).take ((at0 + n).toNat - at0.toNat)).all (· == 0))))] H (by kernel_rfl) fun a H => ?_
          refine ops_end _ ?_
          refine st_cond (!(((bs.drop at0.toNat).take ((at0 + n).toNat - at0.toNat)).all (· == 0))) H (by kernel_rfl) ?_ ?_
          · intro hc3
            have hc3n := notT hc3
            refine WK.seq ?_
            refine st_text 1 rfl ?_
            refine st_run 0 1 0 [(6, .int .i64 5)] H (by kernel_rfl) fun a H => ?_
            refine ops_end _ ?_
            refine st_ret (vs := [.int .i64 5]) H Tryd.func173 rfl (.tmp (by kernel_rfl) (.nil)) ?_
            have X := H.sat
            exact ⟨(by have hz := notT hc3; rw [show (at0 + n).toNat - at0.toNat = n.toNat by omega] at hz; unfold zeroE; rw [hz]; rfl), X⟩
          · intro hc3
            have hc3n := notF hc3
            refine WK.skip ?_
            refine WK.inBlock ?_
            refine WK.seq ?_
            refine st_text 1 rfl ?_
            refine st_run 0 1 0 [(6, .int .i64 0)] H (by kernel_rfl) fun a H => ?_
            refine ops_end _ ?_
            refine st_ret (vs := [.int .i64 0]) H Tryd.func173 rfl (.tmp (by kernel_rfl) (.nil)) ?_
            have X := H.sat
            exact ⟨(by have hz := notF hc3; rw [show (at0 + n).toNat - at0.toNat = n.toNat by omega] at hz; unfold zeroE; rw [hz]; rfl), X⟩

/-- slices.Backward[[]byte,byte]$1 -/
theorem backward_bytes {e w : World} {R : Hp} {L : List HP} (b : Nat) (A : Option Addr) (cap : Nat) (bs : List UInt8) (l : Nat) (f : Nat) (r : Nat) (tm : Array Value) (ps : List Nat) (as_ : Code) (body : Code) (I : Nat → HP) (hr : RdB R A cap bs) (hps : ps.length = 2) (hround : ∀ j, j < bs.length → ∀ w, Sat e w R (blk l (loopO .ready none f tm ps.toArray as_ body r) :: I (j + 1) :: blk b (.cells #[.slice A bs.length cap] 26) :: L) → Rounds Tryd.prog l f (tmpsAll ps [.int .i64 (j : Int), .int .u8 ((bs.getD j 0).toNat : Int)] tm) as_ body w (fun v w' => v = .bool true ∧ Sat e w' R (blk l (loopO .ready none f tm ps.toArray as_ body r) :: I j :: blk b (.cells #[.slice A bs.length cap] 26) :: L))) (X : Sat e w R (blk b (.cells #[.slice A bs.length cap] 26) :: blk l (loopO .ready none f tm ps.toArray as_ body r) :: I bs.length :: L)) :
    Calls Tryd.prog 198 #[Value.func (.yield l) #[] #[], .pointer (some ⟨b, 0, none⟩)] w (Ret fun v w' => v = .tuple #[] ∧ Sat e w' R (blk l (loopO .ready none f tm ps.toArray as_ body r) :: I 0 :: blk b (.cells #[.slice A bs.length cap] 26) :: L)) := by
  have hmx : bs.length ≤ 9223372036854775807 := Nat.le_trans hr.le hr.mx
  refine enter (n := 19) (args := [Value.func (.yield l) #[] #[], .pointer (some ⟨b, 0, none⟩)]) Tryd.func198 rfl rfl rfl X (fun a H => ?_)
  refine WK.seq ?_
  refine st_text 4 rfl ?_
  refine st_op 0 3 (op_val (d := 4) (v := .slice A bs.length cap) H (val_ld (k := 0) (t := 26) (off := 0) rfl (by kernel_rfl) rfl (by kernel_rfl)) fun a H => ?_)
  refine st_run 1 2 1 [(6, .int .i64 (IntKind.i64.wrap (((bs.length : Nat) : Int) - 1))), (5, .int .i64 ((bs.length : Nat) : Int))] H (by kernel_rfl) fun a H => ?_
  have H := H.turn (d := 6) (u := .int .i64 (IntKind.i64.wrap (((bs.length : Nat) : Int) - 1))) (v := .int .i64 (((bs.length : Nat) : Int) - 1)) (wI64 (by omega) (by omega))
  refine st_run 3 1 0 [(3, .int .i64 (((bs.length : Nat) : Int) - 1))] H (by kernel_rfl) fun a H => ?_
  refine ops_end _ ?_
  refine WK.block ?_
  have H := H.with ((H.sat.front 2 rfl).front 2 rfl)
  refine WK.loop (fun m a w => ∃ p : Nat, p = m ∧ (p ≤ bs.length) ∧ St 19 e R a w [(0, Value.func (.yield l) #[] #[]), (1, .pointer (some ⟨b, 0, none⟩)), (3, .int .i64 ((p : Int) - 1))] (blk l (loopO .ready none f tm ps.toArray as_ body r) :: I p :: blk b (.cells #[.slice A bs.length cap] 26) :: L)) (bs.length) ⟨bs.length, rfl, Nat.le_refl _, H.sub' ⟨by kernel_rfl, by kernel_rfl, by kernel_rfl, trivial⟩⟩ ?_
  clear H
  rintro m a w ⟨p, rfl, hl0_0, H⟩ hrec
  have hrec0 := hrec; clear hrec
  refine WK.seq ?_
  refine WK.seq ?_
  refine st_text 2 rfl ?_
  refine st_run 0 2 0 [(8, .bool (decide ((((p : Int) - 1) : Int) ≥ 0))), (7, .int .i64 ((p : Int) - 1))] H (by kernel_rfl) fun a H => ?_
  refine ops_end _ ?_
  refine st_cond (decide ((((p : Int) - 1) : Int) ≥ 0)) H (by kernel_rfl) ?_ ?_
  · intro hc1
    have hc1' := of_decide_eq_true hc1
    refine WK.skip ?_
    refine WK.seq ?_
    refine WK.block ?_
    refine WK.seq ?_
    refine st_text 8 rfl ?_
    refine st_run 0 2 6 [(12, .int .i64 ((p : Int) - 1)), (11, Value.func (.yield l) #[] #[])] H (by kernel_rfl) fun a H => ?_
    refine st_op 2 5 (op_val (d := 13) (v := .slice A bs.length cap) H (val_ld (k := 2) (t := 26) (off := 0) rfl (by kernel_rfl) rfl (by kernel_rfl)) fun a H => ?_)
    refine st_run 3 1 4 [(14, .int .i64 ((p : Int) - 1))] H (by kernel_rfl) fun a H => ?_
    refine st_op 4 3 (op_val (d := 15) (v := .pointer (ptrA A (p - 1))) H (ixa_rd1 hr (t := 26) (k := .i64) (j := (p - 1)) (z := ((p : Int) - 1)) (by kernel_rfl) rfl rfl (by omega) (by omega)) fun a H => ?_)
    refine st_op 5 2 (op_val (d := 16) (v := .int .u8 ((bs.getD (p - 1) 0).toNat : Int)) H (val_ldB hr (t := 5) (j := (p - 1)) (by kernel_rfl) rfl rfl (by omega)) fun a H => ?_)
    have e1 : p = (p - 1) + 1 := by omega
    have X := (((H.sat.front 2 rfl).front 2 rfl).front 2 rfl)
    rw [e1] at X
    have hro := hround (p - 1) (by omega) _ X
    rw [show (((p - 1 : Nat)) : Int) = (p : Int) - 1 by omega] at hro
    refine st_op 6 1 (op_yield (d := 17) (l := l) (ps := ps) (kk := 0) (vs := [.int .i64 ((p : Int) - 1), .int .u8 ((bs.getD (p - 1) 0).toNat : Int)]) H (by kernel_rfl) rfl rfl (by rw [hps]; rfl) hro fun a v w q F => ?_)
    obtain ⟨rfl, X⟩ := q
    have H := St.mk F X
    refine st_run 7 1 0 [(18, .bool false)] H (by kernel_rfl) fun a H => ?_
    refine ops_end _ ?_
    refine st_false H (by kernel_rfl) ?_
    refine WK.skip ?_
    refine WK.inBlock ?_
    refine st_text 3 rfl ?_
    refine st_run 0 2 1 [(10, .int .i64 (IntKind.i64.wrap (((p : Int) - 1) - 1))), (9, .int .i64 ((p : Int) - 1))] H (by kernel_rfl) fun a H => ?_
    have H := H.turn (d := 10) (u := .int .i64 (IntKind.i64.wrap (((p : Int) - 1) - 1))) (v := .int .i64 (((p : Int) - 1) - 1)) (wI64 (by omega) (by omega))
    refine st_run 2 1 0 [(3, .int .i64 (((p : Int) - 1) - 1))] H (by kernel_rfl) fun a H => ?_
    refine ops_end _ ?_
    have H := H.also (d := 3) (u := .int .i64 ((p : Int) - 1 - 1)) (v := .int .i64 (((p - 1 : Nat) : Int) - 1)) (by kernel_rfl) (by congr 1; omega)
    exact hrec0 _ _ _ (by omega) ⟨p - 1, rfl, by omega, H.sub' ⟨by kernel_rfl, by kernel_rfl, by kernel_rfl, trivial⟩⟩
  · intro hc1
    have hc1' := of_decide_eq_false hc1
    refine WK.exit (k' := _) rfl ?_
    refine st_end (vs := []) H Tryd.func198 rfl (.nil) ?_
    have e0 : p = 0 := by omega
    subst e0
    have X := (((H.sat.front 2 rfl).front 2 rfl).front 2 rfl)
    exact ⟨rfl, X⟩

/-- slices.Backward[[]byte,byte] -/
theorem backward {e w : World} {R : Hp} {L : List HP} (A : Option Addr) (cap : Nat) (bs : List UInt8) (X : Sat e w R (L)) :
    Calls Tryd.prog 195 #[.slice A bs.length cap] w (Ret fun v w' => ∃ b : Nat, v = .func (.func 198) #[] #[.pointer (some ⟨b, 0, none⟩)] ∧ Sat e w' R (blk b (.cells #[.slice A bs.length cap] 26) :: L)) := by
  refine enter (n := 4) (args := [.slice A bs.length cap]) Tryd.func195 rfl rfl rfl X (fun a H => ?_)
  refine WK.seq ?_
  refine st_text 2 rfl ?_
  refine st_op 0 1 (op_new (d := 1) (vf := fun b => .pointer (some ⟨b, 0, none⟩)) (ob := .cells #[.slice A bs.length cap] 26) H (IsNew.of_run rfl fun w => (by kernel_rfl)) fun a w b1 H => ?_)
  refine st_run 1 1 0 [(2, .nilFunc)] H (by kernel_rfl) fun a H => ?_
  refine ops_end _ ?_
  refine WK.seq ?_
  refine st_text 2 rfl ?_
  refine st_run 0 2 0 [(2, .func (.func 198) #[] #[.pointer (some ⟨b1, 0, none⟩)]), (3, .func (.func 198) #[] #[.pointer (some ⟨b1, 0, none⟩)])] H (by kernel_rfl) fun a H => ?_
  refine ops_end _ ?_
  refine st_ret (vs := [.func (.func 198) #[] #[.pointer (some ⟨b1, 0, none⟩)]]) H Tryd.func195 rfl (.tmp (by kernel_rfl) (.nil)) ?_
  have X := H.sat
  exact ⟨_, rfl, X⟩

/-- wharfage/num.Get -/
theorem num_get {e w : World} {R : Hp} {L : List HP} (A : Option Addr) (cap : Nat) (bs : List UInt8) (s : Nat) (hr : RdB R A cap bs) (hs : s = 1 ∨ s = 2 ∨ s = 4 ∨ s = 8) (X : Sat e w R (L)) :
    Calls Tryd.prog 188 #[.slice A bs.length cap, .int .i64 0, .int .i64 s] w (Ret fun v w' => v = .tuple #[.int .u64 (getV bs s), .int .i64 (getE bs s)] ∧ Sat e w' R (L)) := by
  have hs8 : 1 ≤ s ∧ s ≤ 8 := by omega
  have hmx : bs.length ≤ 9223372036854775807 := Nat.le_trans hr.le hr.mx
  have hle := hr.le
  refine enter (n := 47) (args := [.slice A bs.length cap, .int .i64 0, .int .i64 s]) Tryd.func188 rfl rfl rfl X (fun a H => ?_)
  refine WK.seq ?_
  refine st_text 3 rfl ?_
  refine st_op 0 2 (op_new (d := 5) (vf := fun b => .pointer (some ⟨b, 0, none⟩)) (ob := .cells #[.int .i64 s] 3) H (IsNew.of_run rfl fun w => (by kernel_rfl)) fun a w b1 H => ?_)
  refine st_op 1 1 (op_new (d := 6) (vf := fun b => .pointer (some ⟨b, 0, none⟩)) (ob := .cells #[.int .u64 0] 23) H (IsNew.of_run rfl fun w => (by kernel_rfl)) fun a w b2 H => ?_)
  refine st_run 2 1 0 [(7, .int .i64 0)] H (by kernel_rfl) fun a H => ?_
  refine ops_end _ ?_
  refine WK.seq ?_
  refine WK.seq ?_
  refine st_text 13 rfl ?_
  refine st_op 0 12 (op_val (d := 10) (v := .int .i64 s) H (val_ld (k := 1) (t := 3) (off := 0) rfl (by kernel_rfl) rfl (by kernel_rfl)) fun a H => ?_)
  refine st_op 1 11 (op_call (d := 11) H (by kernel_rfl) rfl (num_sized s (by first | assumption | omega) H.sat) fun a v w q F => ?_)
  obtain ⟨rfl, X⟩ := q
  have H := St.mk F X
  refine st_run 2 11 0 [(22, .bool (decide ((0 : Int) > ((bs.length : Nat) : Int)))), (21, .bool (decide ((0 : Int) > ((bs.length : Nat) : Int)))), (20, .int .i64 ((bs.length : Nat) : Int)), (19, .slice A bs.length cap), (18, .int .i64 0), (17, .bool false), (16, .bool false), (15, .bool false), (14, .int .i64 0), (13, .bool false), (12, .bool false)] H (by kernel_rfl) fun a H => ?_
  refine ops_end _ ?_
  refine st_cond (decide ((0 : Int) > ((bs.length : Nat) : Int))) H (by kernel_rfl) ?_ ?_
  · intro hc1
    have hc1' := of_decide_eq_true hc1
    exfalso; omega
  · intro hc1
    have hc1' := of_decide_eq_false hc1
    refine WK.skip ?_
    refine WK.seq ?_
    refine WK.seq ?_
    refine st_text 4 rfl ?_
    have hr0 : RdB R (subA A cap 0 1) (cap - 0) bs := by simpa using RdB.subE hr (l := 0) (by omega)
    refine st_run 0 2 2 [(24, .int .i64 0), (23, .slice A bs.length cap)] H (by kernel_rfl) fun a H => ?_
    refine st_op 2 1 (op_val (d := 25) (v := .slice (subA A cap 0 1) (bs.length - 0) (cap - 0)) H (val_slice (t := 26) (A := A) (m := bs.length) (c := cap) (some (.i64, 0, 0)) none (by kernel_rfl) rfl rfl (by first | rfl | (simp only [loOk]; omega)) (trivial) (by simp only [loN]; omega) (by have hx := hr.le; simp only [loN]; omega)) fun a H => ?_)
    have H := H.turn (d := 25) (v := .slice (subA A cap 0 1) bs.length (cap - 0)) (by first | rfl | (simp only [List.length_take, List.length_drop]; done) | (simp only [List.length_take, List.length_drop]; congr 1 <;> omega))
    refine st_run 3 1 0 [(0, .slice (subA A cap 0 1) bs.length (cap - 0))] H (by kernel_rfl) fun a H => ?_
    refine ops_end _ ?_
    refine WK.seq ?_
    refine st_text 4 rfl ?_
    refine st_run 0 2 2 [(27, .int .i64 ((bs.length : Nat) : Int)), (26, .slice (subA A cap 0 1) bs.length (cap - 0))] H (by kernel_rfl) fun a H => ?_
    refine st_op 2 1 (op_val (d := 28) (v := .int .i64 s) H (val_ld (k := 1) (t := 3) (off := 0) rfl (by kernel_rfl) rfl (by kernel_rfl)) fun a H => ?_)
    refine st_run 3 1 0 [(29, .bool (decide ((((bs.length : Nat) : Int) : Int) < s)))] H (by kernel_rfl) fun a H => ?_
    refine ops_end _ ?_
    refine st_cond (decide ((((bs.length : Nat) : Int) : Int) < s)) H (by kernel_rfl) ?_ ?_
    · intro hc2
      have hc2' := of_decide_eq_true hc2
      refine WK.seq ?_
      refine st_text 2 rfl ?_
      refine st_op 0 1 (op_store (k := 0) (t := 23) (off := 0) (v := .int .u64 0) H rfl (by kernel_rfl) (by kernel_rfl) fun a w H => ?_)
      refine st_run 1 1 0 [(7, .int .i64 4)] H (by kernel_rfl) fun a H => ?_
      refine ops_end _ ?_
      refine st_ret (vs := [.int .u64 0, .int .i64 4]) H Tryd.func188 rfl (.cell (by kernel_rfl) (H.sat.blk (k := 0) rfl) (by kernel_rfl) (.tmp (by kernel_rfl) (.nil))) ?_
      have X := (H.sat.msk [false, false])
      exact ⟨(by unfold getV getE; first | (rw [if_pos (by omega), if_pos (by omega)]) | (rw [if_neg (by omega), if_neg (by omega)]; rfl)), X⟩
    · intro hc2
      have hc2' := of_decide_eq_false hc2
      refine WK.skip ?_
      refine WK.seq ?_
      refine WK.seq ?_
      refine st_text 4 rfl ?_
      refine st_run 0 1 3 [(30, .slice (subA A cap 0 1) bs.length (cap - 0))] H (by kernel_rfl) fun a H => ?_
      refine st_op 1 2 (op_val (d := 31) (v := .int .i64 s) H (val_ld (k := 1) (t := 3) (off := 0) rfl (by kernel_rfl) rfl (by kernel_rfl)) fun a H => ?_)
      have hr_1 := RdB.sub0 hr0 (h := s) (by omega)
      refine st_op 2 1 (op_val (d := 32) (v := .slice (subA (subA A cap 0 1) (cap - 0) 0 1) (s - 0) ((cap - 0) - 0)) H (val_slice (t := 26) (A := subA A cap 0 1) (m := bs.length) (c := (cap - 0)) none (some (.i64, s, s)) (by kernel_rfl) rfl rfl (trivial) (by first | rfl | (simp only [loOk]; omega)) (by simp only [loN]; omega) (by have hx := hr0.le; simp only [loN]; omega)) fun a H => ?_)
      have H := H.turn (d := 32) (v := .slice (subA (subA A cap 0 1) (cap - 0) 0 1) ((bs.take s).length) ((cap - 0) - 0)) (by first | rfl | (simp only [List.length_take, List.length_drop]; done) | (simp only [List.length_take, List.length_drop]; congr 1 <;> omega))
      refine st_op 3 0 (op_call (d := 33) H (by kernel_rfl) rfl (backward (subA (subA A cap 0 1) (cap - 0) 0 1) ((cap - 0) - 0) (bs.take s) H.sat) fun a v w q F => ?_)
      obtain ⟨x_1, rfl, X⟩ := q
      have H := St.mk F X
      refine ops_end _ ?_
      refine WK.block ?_
      refine st_range (ps := #[34, 35]) (gf := 198) (first := #[]) (cap := #[.pointer (some ⟨x_1, 0, none⟩)]) H (by kernel_rfl) (by kernel_rfl) (fun l1 r1 w X => ?_)
      have X := (((X.front 3 rfl).front 1 rfl).front 3 rfl)
      have X := X.cells_eq (k := 2) (cs' := #[.int .u64 (unbe ((bs.take s).drop (bs.take s).length) : Int)]) rfl (by rw [List.drop_length]; rfl)
      refine Calls.mono (backward_bytes x_1 (subA (subA A cap 0 1) (cap - 0) 0 1) ((cap - 0) - 0) (bs.take s) _ _ _ _ [34, 35] _ _ (fun j => blk b2 (.cells #[.int .u64 (unbe ((bs.take s).drop j) : Int)] 23)) hr_1 rfl ?_ X) (Ret.mono fun v w q => ⟨.ready, none, _, _, by decide, q.2, fun w X => ?_⟩)
      · intro j hj w X
        refine rounds_of ?_
        have H := St.mk (slots_all (n := 47) [34, 35] [.int .i64 (j : Int), .int .u8 (((bs.take s).getD j 0).toNat : Int)] rfl ⟨H.sl.size, rfl, H.sl.at_⟩) X
        have H : St 47 e _ _ w [(0, .slice (subA A cap 0 1) bs.length (cap - 0)), (1, .int .i64 0), (2, .int .i64 s), (5, .pointer (some ⟨b1, 0, none⟩)), (6, .pointer (some ⟨b2, 0, none⟩)), (7, .int .i64 0), (10, .int .i64 s), (11, .bool true), (12, .bool false), (13, .bool false), (14, .int .i64 0), (15, .bool false), (16, .bool false), (17, .bool false), (18, .int .i64 0), (19, .slice A bs.length cap), (20, .int .i64 ((bs.length : Nat) : Int)), (21, .bool (decide ((0 : Int) > ((bs.length : Nat) : Int)))), (22, .bool (decide ((0 : Int) > ((bs.length : Nat) : Int)))), (23, .slice A bs.length cap), (24, .int .i64 0), (25, .slice (subA A cap 0 1) bs.length (cap - 0)), (26, .slice (subA A cap 0 1) bs.length (cap - 0)), (27, .int .i64 ((bs.length : Nat) : Int)), (28, .int .i64 s), (29, .bool (decide ((((bs.length : Nat) : Int) : Int) < s))), (30, .slice (subA A cap 0 1) bs.length (cap - 0)), (31, .int .i64 s), (32, .slice (subA (subA A cap 0 1) (cap - 0) 0 1) ((bs.take s).length) ((cap - 0) - 0)), (33, .func (.func 198) #[] #[.pointer (some ⟨x_1, 0, none⟩)]), (34, .int .i64 (j : Int)), (35, .int .u8 (((bs.take s).getD j 0).toNat : Int))] _ := H.sub' ⟨by kernel_rfl, by kernel_rfl, by kernel_rfl, by kernel_rfl, by kernel_rfl, by kernel_rfl, by kernel_rfl, by kernel_rfl, by kernel_rfl, by kernel_rfl, by kernel_rfl, by kernel_rfl, by kernel_rfl, by kernel_rfl, by kernel_rfl, by kernel_rfl, by kernel_rfl, by kernel_rfl, by kernel_rfl, by kernel_rfl, by kernel_rfl, by kernel_rfl, by kernel_rfl, by kernel_rfl, by kernel_rfl, by kernel_rfl, by kernel_rfl, by kernel_rfl, by kernel_rfl, by kernel_rfl, by kernel_rfl, by kernel_rfl, trivial⟩
        have hby := ((bs.take s).getD j 0).toNat_lt
        have hls : (bs.take s).length = s := by rw [List.length_take]; omega
        have hdj : (bs.take s).drop j = (bs.take s).getD j 0 :: (bs.take s).drop (j + 1) := by
          rw [List.drop_eq_getElem_cons hj]; congr 1; simp [List.getD_eq_getElem?_getD, List.getElem?_eq_getElem hj]
        refine WK.seq ?_
        refine st_text 1 rfl ?_
        refine st_run 0 1 0 [(8, .int .i64 (j : Int))] H (by kernel_rfl) fun a H => ?_
        refine ops_end _ ?_
        refine st_text 1 rfl ?_
        refine st_run 0 1 0 [(9, .int .u8 (((bs.take s).getD j 0).toNat : Int))] H (by kernel_rfl) fun a H => ?_
        refine ops_end _ ?_
        refine st_begin (kk := 0) H rfl fun w H => ?_
        refine WK.block ?_
        refine st_floatsM [false, true, false, false, true] [.tk 0, .mv 1, .mv 2, .tk 3, .mv 4, .mv 5, .mv 6, .mv 7, .mv 8, .mv 9, .op 10] rfl (by kernel_rfl) (by kernel_rfl) (by kernel_rfl) H ?_
        refine z_tk 0 (d := 36) (.int .u64 (unbe ((bs.take s).drop (j + 1)) : Int)) (val_ld (k := 0) (t := 23) (off := 0) rfl (by kernel_rfl) rfl (by kernel_rfl)) (by kernel_rfl) ?_
        refine z_mv 1 (d := 37) (.int .u8 (((bs.take s).getD j 0).toNat : Int)) (IsVal.of_run rfl fun w => (by kernel_rfl)) (by kernel_rfl) ?_
        refine z_mv 2 (d := 38) (.int .u64 (IntKind.u64.wrap ((((bs.take s).getD j 0).toNat : Int)))) (IsVal.of_run rfl fun w => (by kernel_rfl)) (by kernel_rfl) ?_
        refine z_turn (.int .u64 (((bs.take s).getD j 0).toNat : Int)) (wU64 (by omega) (by omega)) ?_
        refine z_tk 3 (d := 39) (.int .i64 s) (val_ld (k := 1) (t := 3) (off := 0) rfl (by kernel_rfl) rfl (by kernel_rfl)) (by kernel_rfl) ?_
        refine z_mv 4 (d := 40) (.int .i64 (IntKind.i64.wrap (s - 1))) (IsVal.of_run rfl fun w => (by kernel_rfl)) (by kernel_rfl) ?_
        refine z_turn (.int .i64 (s - 1)) (wI64 (by omega) (by omega)) ?_
        refine z_mv 5 (d := 41) (.int .i64 (j : Int)) (IsVal.of_run rfl fun w => (by kernel_rfl)) (by kernel_rfl) ?_
        refine z_mv 6 (d := 42) (.int .i64 (IntKind.i64.wrap ((s - 1) - (j : Int)))) (IsVal.of_run rfl fun w => (by kernel_rfl)) (by kernel_rfl) ?_
        refine z_turn (.int .i64 ((s - 1) - (j : Int))) (wI64 (by omega) (by omega)) ?_
        refine z_mv 7 (d := 43) (.int .i64 (IntKind.i64.wrap (8 * ((s - 1) - (j : Int))))) (IsVal.of_run rfl fun w => (by kernel_rfl)) (by kernel_rfl) ?_
        refine z_turn (.int .i64 (8 * ((s - 1) - (j : Int)))) (wI64 (by omega) (by omega)) ?_
        refine z_mv 8 (d := 44) (.int .u64 (IntKind.u64.wrap ((((bs.take s).getD j 0).toNat : Int) * 2 ^ min (8 * (s - 1 - j)) IntKind.u64.bits))) (val_shl (t := 23) (k := .u64) (yk := .i64) (x := (((bs.take s).getD j 0).toNat : Int)) (y := (8 * ((s - 1) - (j : Int)))) (8 * (s - 1 - j)) (by kernel_rfl) rfl (by omega)) (by kernel_rfl) ?_
        refine z_mv 9 (d := 45) (.int .u64 (IntKind.u64.wrap (((BitVec.ofInt 64 (unbe ((bs.take s).drop (j + 1)) : Int) ||| BitVec.ofInt 64 (IntKind.u64.wrap ((((bs.take s).getD j 0).toNat : Int) * 2 ^ min (8 * (s - 1 - j)) IntKind.u64.bits)) : BitVec 64).toNat : Nat) : Int))) (IsVal.of_run rfl fun w => (by kernel_rfl)) (by kernel_rfl) ?_
        refine z_turn (.int .u64 (unbe ((bs.take s).drop j) : Int)) (by rw [hdj]; exact or_bytes _ _ (s - 1 - j) (by rw [List.length_drop, hls]; omega) (by omega)) ?_
        refine z_op 10 rfl fun a w Z H => ?_
        refine op_storeZ (k := 1) (t := 23) (off := 0) (v := .int .u64 (unbe ((bs.take s).drop j) : Int)) H rfl (by kernel_rfl) (by kernel_rfl) fun a w H => ?_
        refine z_last _ H (by kernel_rfl) ?_
        refine z_end [] fun a w H => ?_
        refine WK.inBlock ?_
        refine st_rend (kk := 0) H rfl fun w X => ?_
        have H := St.mk H.sl X
        exact ⟨rfl, (((((H.sat.front 4 rfl).front 4 rfl).front 4 rfl).front 4 rfl).front 4 rfl)⟩
      · have H := St.mk H.sl X
        refine WK.inBlock ?_
        refine WK.seq ?_
        refine st_text 3 rfl ?_
        refine st_op 0 2 (op_val (d := 46) (v := .int .u64 (unbe ((bs.take s).drop 0) : Int)) H (val_ld (k := 0) (t := 23) (off := 0) rfl (by kernel_rfl) rfl (by kernel_rfl)) fun a H => ?_)
        refine st_op 1 1 (op_store (k := 0) (t := 23) (off := 0) (v := .int .u64 (unbe ((bs.take s).drop 0) : Int)) H rfl (by kernel_rfl) (by kernel_rfl) fun a w H => ?_)
        refine st_run 2 1 0 [(7, .int .i64 0)] H (by kernel_rfl) fun a H => ?_
        refine ops_end _ ?_
        refine st_ret1 (kk := 2) (vs := [.int .u64 (unbe ((bs.take s).drop 0) : Int), .int .i64 0]) H rfl Tryd.func188 rfl fun w X => ⟨.cell (by kernel_rfl) (X.blk (k := 0) rfl) (by kernel_rfl) (.tmp (by kernel_rfl) (.nil)), ?_⟩
        have H := St.mk H.sl X
        have X := (H.sat.msk [false, false, false])
        exact ⟨(by unfold getV getE; first | (rw [if_pos (by omega), if_pos (by omega)]) | (rw [if_neg (by omega), if_neg (by omega)]; rfl)), X⟩
end Go.Proofs.YtldnpolfcickaaaDoor
