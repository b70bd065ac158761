/- Numbers as bytes. -/
import Derived.Test.YtldnpolfcickaaaDoorRpc2
set_option linter.unusedVariables false
set_option linter.unusedSimpArgs false
set_option maxRecDepth 100000
set_option maxHeartbeats 1000000
namespace Go.Proofs.YtldnpolfcickaaaDoor
open Go Go.WH

/-- (*wharfage/rpc.Line).Tick -/
theorem rpc_tick_nil {e w : World} {R : Hp} {L : List HP} (now : Int) (X : Sat e w R (L)) :
    Calls Tryd.prog 23 #[.pointer none, .int .u64 now] w (Ret fun v w' => v = .slice none 0 0 ∧ Sat e w' R (L)) := by
  refine enter (n := 81) (args := [.pointer none, .int .u64 now]) Tryd.func23 rfl rfl rfl X (fun a H => ?_)
  refine WK.seq ?_
  refine st_text 1 rfl ?_
  refine st_run 0 1 0 [(4, .slice none 0 0)] H (by kernel_rfl) fun a H => ?_
  refine ops_end _ ?_
  refine WK.seq ?_
  refine WK.seq ?_
  refine st_text 27 rfl ?_
  refine st_run 0 1 26 [(8, .pointer none)] H (by kernel_rfl) fun a H => ?_
  refine st_op 1 25 (op_call (d := 9) H (by kernel_rfl) rfl (rpc_none_nil H.sat) fun a v w q F => ?_)
  obtain ⟨rfl, X⟩ := q
  have H := St.mk F X
  refine st_run 2 25 0 [(34, .bool true), (33, undef), (32, undef), (31, undef), (30, undef), (29, undef), (28, undef), (27, undef), (26, undef), (25, undef), (24, undef), (23, undef), (22, .bool true), (21, .bool true), (20, undef), (19, undef), (18, .bool true), (17, .bool true), (16, undef), (15, undef), (14, undef), (13, undef), (12, undef), (11, undef), (10, .bool true)] H (by kernel_rfl) fun a H => ?_
  refine ops_end _ ?_
  refine st_true H (by kernel_rfl) ?_
  refine WK.seq ?_
  refine st_text 1 rfl ?_
  refine st_run 0 1 0 [(4, .slice none 0 0)] H (by kernel_rfl) fun a H => ?_
  refine ops_end _ ?_
  refine st_ret (vs := [.slice none 0 0]) H Tryd.func23 rfl (.tmp (by kernel_rfl) (.nil)) ?_
  have X := H.sat
  exact ⟨rfl, X⟩

/-- (*wharfage/rpc.Line).Tick -/
theorem rpc_tick_zero {e w : World} {R : Hp} {L : List HP} (b : Nat) (cl : Int) (seq : Int) (now : Int) (A0 : Option Addr) (n0 : Nat) (cap0 : Nat) (X : Sat e w R (blk b (.cells #[.int .u8 cl, .int .u32 0, .int .u64 seq, .slice A0 n0 cap0] 68) :: L)) :
    Calls Tryd.prog 23 #[.pointer (some ⟨b, 0, none⟩), .int .u64 now] w (Ret fun v w' => v = .slice none 0 0 ∧ Sat e w' R (blk b (.cells #[.int .u8 cl, .int .u32 0, .int .u64 seq, .slice A0 n0 cap0] 68) :: L)) := by
  refine enter (n := 81) (args := [.pointer (some ⟨b, 0, none⟩), .int .u64 now]) Tryd.func23 rfl rfl rfl X (fun a H => ?_)
  refine WK.seq ?_
  refine st_text 1 rfl ?_
  refine st_run 0 1 0 [(4, .slice none 0 0)] H (by kernel_rfl) fun a H => ?_
  refine ops_end _ ?_
  refine WK.seq ?_
  refine WK.seq ?_
  refine st_text 27 rfl ?_
  refine st_run 0 1 26 [(8, .pointer (some ⟨b, 0, none⟩))] H (by kernel_rfl) fun a H => ?_
  refine st_op 1 25 (op_call (d := 9) H (by kernel_rfl) rfl (rpc_none b cl 0 seq A0 n0 cap0 H.sat) fun a v w q F => ?_)
  obtain ⟨rfl, X⟩ := q
  have H := St.mk F X
  refine st_run 2 1 24 [(10, .bool ((0 : Int) == 0))] H (by kernel_rfl) fun a H => ?_
  have hk1 : ((0 : Int) == 0) = true := by kernel_rfl
  have H := H.also (d := 10) (u := .bool ((0 : Int) == 0)) (v := .bool true) (by kernel_rfl) (congrArg Value.bool (hk1))
  refine st_run 3 24 0 [(34, .bool true), (33, undef), (32, undef), (31, undef), (30, undef), (29, undef), (28, undef), (27, undef), (26, undef), (25, undef), (24, undef), (23, undef), (22, .bool true), (21, .bool true), (20, undef), (19, undef), (18, .bool true), (17, .bool true), (16, undef), (15, undef), (14, undef), (13, undef), (12, undef), (11, undef)] H (by kernel_rfl) fun a H => ?_
  refine ops_end _ ?_
  refine st_true H (by kernel_rfl) ?_
  refine WK.seq ?_
  refine st_text 1 rfl ?_
  refine st_run 0 1 0 [(4, .slice none 0 0)] H (by kernel_rfl) fun a H => ?_
  refine ops_end _ ?_
  refine st_ret (vs := [.slice none 0 0]) H Tryd.func23 rfl (.tmp (by kernel_rfl) (.nil)) ?_
  have X := H.sat
  exact ⟨rfl, X⟩

/-- (*wharfage/rpc.Line).Tick -/
theorem rpc_tick {e w : World} {R : Hp} {L : List HP} (b : Nat) (g0 : Nat) (cap : Nat) (p : Nat) (cur : Array Value) (cl : Int) (inc : Int) (seq : Int) (c : CallS) (A : Option Addr) (k : Nat) (at_ : Int) (wait : Int) (sent : Int) (now : Int) (hcur : cur[0]? = some (.pointer (some ⟨p, 0, none⟩))) (h2 : 0 < inc ∧ inc ≤ 4294967295) (h3 : 0 ≤ at_ ∧ at_ ≤ 2199023255552) (h5 : 0 ≤ wait ∧ wait ≤ 65536) (h6 : 0 ≤ sent ∧ sent ≤ 1000000) (hm : mayP c = true) (wf : c.Wf) (hd : RdB R A k c.data) (hT : Tabs 0 1 R) (hb : c.data.length ≤ 140737488355328) (h4 : 0 ≤ now ∧ now ≤ 18446744073709551615) (X : Sat e w R (blk b (.cells #[.int .u8 cl, .int .u32 inc, .int .u64 seq, .slice (some ⟨g0, 0, none⟩) 1 cap] 68) :: blkC g0 cur 125 :: blk p (.cells #[.int .u8 c.client, .int .u32 c.inc, .int .u64 c.seq, .int .u8 c.kind, .int .u32 c.ino, .int .u32 c.gen, .string c.name, .int .u32 c.toIno, .int .u32 c.toGen, .string c.toName, .int .u32 c.off, .int .u32 c.size, .slice A c.data.length k, .int .u64 at_, .int .u64 wait, .int .i64 sent] 70) :: L)) :
    Calls Tryd.prog 23 #[.pointer (some ⟨b, 0, none⟩), .int .u64 now] w (Ret fun v w' => ((now > 1099511627776 ∨ at_ > now) ∧ v = .slice none 0 0 ∧ Sat e w' R (blk b (.cells #[.int .u8 cl, .int .u32 inc, .int .u64 seq, .slice (some ⟨g0, 0, none⟩) 1 cap] 68) :: blkC g0 cur 125 :: blk p (.cells #[.int .u8 c.client, .int .u32 c.inc, .int .u64 c.seq, .int .u8 c.kind, .int .u32 c.ino, .int .u32 c.gen, .string c.name, .int .u32 c.toIno, .int .u32 c.toGen, .string c.toName, .int .u32 c.off, .int .u32 c.size, .slice A c.data.length k, .int .u64 at_, .int .u64 wait, .int .i64 sent] 70) :: L)) ∨ (∃ R', R.Le R' ∧ ∃ A1 : Option Addr, ∃ c1 : Nat, (at_ ≤ now ∧ now ≤ 1099511627776) ∧ v = .slice A1 ((bareB c).length) c1 ∧ Sat e w' R' (blk b (.cells #[.int .u8 cl, .int .u32 inc, .int .u64 seq, .slice (some ⟨g0, 0, none⟩) 1 cap] 68) :: blkC g0 cur 125 :: blk p (.cells #[.int .u8 c.client, .int .u32 c.inc, .int .u64 c.seq, .int .u8 c.kind, .int .u32 c.ino, .int .u32 c.gen, .string c.name, .int .u32 c.toIno, .int .u32 c.toGen, .string c.toName, .int .u32 c.off, .int .u32 c.size, .slice A c.data.length k, .int .u64 (now + wait), .int .u64 (min (2 * wait) 16), .int .i64 (sent + 1)] 70) :: bytesO 5 A1 c1 (bareB c) :: L))) := by
  refine enter (n := 81) (args := [.pointer (some ⟨b, 0, none⟩), .int .u64 now]) Tryd.func23 rfl rfl rfl X (fun a H => ?_)
  refine WK.seq ?_
  refine st_text 1 rfl ?_
  refine st_run 0 1 0 [(4, .slice none 0 0)] H (by kernel_rfl) fun a H => ?_
  refine ops_end _ ?_
  refine WK.seq ?_
  refine WK.seq ?_
  refine st_text 27 rfl ?_
  refine st_run 0 1 26 [(8, .pointer (some ⟨b, 0, none⟩))] H (by kernel_rfl) fun a H => ?_
  refine st_op 1 25 (op_call (d := 9) H (by kernel_rfl) rfl (rpc_none b cl inc seq (some ⟨g0, 0, none⟩) 1 cap H.sat) fun a v w q F => ?_)
  obtain ⟨rfl, X⟩ := q
  have H := St.mk F X
  refine st_run 2 1 24 [(10, .bool ((inc : Int) == 0))] H (by kernel_rfl) fun a H => ?_
  rcases Bool.eq_false_or_eq_true ((inc : Int) == 0) with hg1 | hg1
  · skip
    have H := H.also (d := 10) (u := .bool ((inc : Int) == 0)) (v := .bool true) (by kernel_rfl) (congrArg Value.bool (hg1))
    have hg1' := eq_of_beq hg1
    exfalso; omega
  · skip
    have H := H.also (d := 10) (u := .bool ((inc : Int) == 0)) (v := .bool false) (by kernel_rfl) (congrArg Value.bool (hg1))
    have hg1' := neB hg1
    refine st_run 3 3 21 [(13, .pointer (some ⟨b, 3, none⟩)), (12, .pointer (some ⟨b, 0, none⟩)), (11, .pointer (some ⟨b, 0, none⟩))] H (by kernel_rfl) fun a H => ?_
    refine st_op 6 20 (op_val (d := 14) (v := .slice (some ⟨g0, 0, none⟩) 1 cap) H (val_ld (k := 0) (t := 66) (off := 3) rfl (by kernel_rfl) rfl (by kernel_rfl)) fun a H => ?_)
    refine st_run 7 8 12 [(22, .bool (decide ((now : Int) > 1099511627776))), (21, .bool (decide ((now : Int) > 1099511627776))), (20, .bool (decide ((now : Int) > 1099511627776))), (19, .int .u64 now), (18, .bool false), (17, .bool false), (16, .bool false), (15, .int .i64 1)] H (by kernel_rfl) fun a H => ?_
    rcases Bool.eq_false_or_eq_true (decide ((now : Int) > 1099511627776)) with hg2 | hg2
    · skip
      have H := H.also (d := 22) (u := .bool (decide ((now : Int) > 1099511627776))) (v := .bool true) (by kernel_rfl) (congrArg Value.bool (hg2))
      have hg2' := of_decide_eq_true hg2
      refine st_run 15 12 0 [(34, .bool true), (33, undef), (32, undef), (31, undef), (30, undef), (29, undef), (28, undef), (27, undef), (26, undef), (25, undef), (24, undef), (23, undef)] H (by kernel_rfl) fun a H => ?_
      refine ops_end _ ?_
      refine st_true H (by kernel_rfl) ?_
      refine WK.seq ?_
      refine st_text 1 rfl ?_
      refine st_run 0 1 0 [(4, .slice none 0 0)] H (by kernel_rfl) fun a H => ?_
      refine ops_end _ ?_
      refine st_ret (vs := [.slice none 0 0]) H Tryd.func23 rfl (.tmp (by kernel_rfl) (.nil)) ?_
      have X : Sat e w R (blk b (.cells #[.int .u8 cl, .int .u32 inc, .int .u64 seq, .slice (some ⟨g0, 0, none⟩) 1 cap] 68) :: blkC g0 cur 125 :: blk p (.cells #[.int .u8 c.client, .int .u32 c.inc, .int .u64 c.seq, .int .u8 c.kind, .int .u32 c.ino, .int .u32 c.gen, .string c.name, .int .u32 c.toIno, .int .u32 c.toGen, .string c.toName, .int .u32 c.off, .int .u32 c.size, .slice A c.data.length k, .int .u64 at_, .int .u64 wait, .int .i64 sent] 70) :: L) := (((H.sat.front 2 rfl).front 2 rfl).front 2 rfl)
      exact .inl (⟨by omega, rfl, X⟩)
    · skip
      have H := H.also (d := 22) (u := .bool (decide ((now : Int) > 1099511627776))) (v := .bool false) (by kernel_rfl) (congrArg Value.bool (hg2))
      have hg2' := of_decide_eq_false hg2
      refine st_run 15 3 9 [(25, .pointer (some ⟨b, 3, none⟩)), (24, .pointer (some ⟨b, 0, none⟩)), (23, .pointer (some ⟨b, 0, none⟩))] H (by kernel_rfl) fun a H => ?_
      refine st_op 18 8 (op_val (d := 26) (v := .slice (some ⟨g0, 0, none⟩) 1 cap) H (val_ld (k := 0) (t := 66) (off := 3) rfl (by kernel_rfl) rfl (by kernel_rfl)) fun a H => ?_)
      refine st_run 19 1 7 [(27, .pointer (some ⟨g0, 0, none⟩))] H (by kernel_rfl) fun a H => ?_
      refine st_op 20 6 (op_val (d := 28) (v := .pointer (some ⟨p, 0, none⟩)) H (val_ld (k := 1) (t := 125) (off := 0) rfl (by kernel_rfl) rfl (loadF_at rfl hcur)) fun a H => ?_)
      refine st_run 21 2 4 [(30, .pointer (some ⟨p, 13, none⟩)), (29, .pointer (some ⟨p, 0, none⟩))] H (by kernel_rfl) fun a H => ?_
      refine st_op 23 3 (op_val (d := 31) (v := .int .u64 at_) H (val_ld (k := 2) (t := 23) (off := 13) rfl (by kernel_rfl) rfl (by kernel_rfl)) fun a H => ?_)
      refine st_run 24 3 0 [(34, .bool (decide ((at_ : Int) > now))), (33, .bool (decide ((at_ : Int) > now))), (32, .int .u64 now)] H (by kernel_rfl) fun a H => ?_
      refine ops_end _ ?_
      refine st_cond (decide ((at_ : Int) > now)) H (by kernel_rfl) ?_ ?_
      · intro hc1
        have hc1' := of_decide_eq_true hc1
        refine WK.seq ?_
        refine st_text 1 rfl ?_
        refine st_run 0 1 0 [(4, .slice none 0 0)] H (by kernel_rfl) fun a H => ?_
        refine ops_end _ ?_
        refine st_ret (vs := [.slice none 0 0]) H Tryd.func23 rfl (.tmp (by kernel_rfl) (.nil)) ?_
        have X : Sat e w R (blk b (.cells #[.int .u8 cl, .int .u32 inc, .int .u64 seq, .slice (some ⟨g0, 0, none⟩) 1 cap] 68) :: blkC g0 cur 125 :: blk p (.cells #[.int .u8 c.client, .int .u32 c.inc, .int .u64 c.seq, .int .u8 c.kind, .int .u32 c.ino, .int .u32 c.gen, .string c.name, .int .u32 c.toIno, .int .u32 c.toGen, .string c.toName, .int .u32 c.off, .int .u32 c.size, .slice A c.data.length k, .int .u64 at_, .int .u64 wait, .int .i64 sent] 70) :: L) := (((H.sat.front 2 rfl).front 2 rfl).front 2 rfl)
        exact .inl (⟨by omega, rfl, X⟩)
      · intro hc1
        have hc1' := of_decide_eq_false hc1
        refine WK.skip ?_
        refine WK.seq ?_
        refine st_text 7 rfl ?_
        refine st_run 0 3 4 [(37, .pointer (some ⟨b, 3, none⟩)), (36, .pointer (some ⟨b, 0, none⟩)), (35, .pointer (some ⟨b, 0, none⟩))] H (by kernel_rfl) fun a H => ?_
        refine st_op 3 3 (op_val (d := 38) (v := .slice (some ⟨g0, 0, none⟩) 1 cap) H (val_ld (k := 0) (t := 66) (off := 3) rfl (by kernel_rfl) rfl (by kernel_rfl)) fun a H => ?_)
        refine st_run 4 1 2 [(39, .pointer (some ⟨g0, 0, none⟩))] H (by kernel_rfl) fun a H => ?_
        refine st_op 5 1 (op_val (d := 40) (v := .pointer (some ⟨p, 0, none⟩)) H (val_ld (k := 1) (t := 125) (off := 0) rfl (by kernel_rfl) rfl (loadF_at rfl hcur)) fun a H => ?_)
        refine st_run 6 1 0 [(5, .pointer (some ⟨p, 0, none⟩))] H (by kernel_rfl) fun a H => ?_
        refine ops_end _ ?_
        refine WK.seq ?_
        refine st_floatsM [false, false, true] [.mv 0, .mv 1, .mv 2, .mv 3, .mv 4, .mv 5, .mv 6, .tk 7, .mv 8, .mv 9, .mv 10, .mv 11, .tk 12, .mv 13, .mv 14, .mv 15, .mv 16, .mv 17, .tk 18, .mv 19, .mv 20, .mv 21, .op 22, .mv 23, .mv 24, .op 25, .mv 26, .mv 27, .op 28] rfl (by kernel_rfl) (by kernel_rfl) (by kernel_rfl) H ?_
        refine z_mv 0 (d := 41) (.pointer (some ⟨p, 0, none⟩)) (IsVal.of_run rfl fun w => (by kernel_rfl)) (by kernel_rfl) ?_
        refine z_mv 1 (d := 42) (.pointer (some ⟨p, 0, none⟩)) (IsVal.of_run rfl fun w => (by kernel_rfl)) (by kernel_rfl) ?_
        refine z_mv 2 (d := 43) (.pointer (some ⟨p, 0, none⟩)) (IsVal.of_run rfl fun w => (by kernel_rfl)) (by kernel_rfl) ?_
        refine z_mv 3 (d := 44) (.int .u64 now) (IsVal.of_run rfl fun w => (by kernel_rfl)) (by kernel_rfl) ?_
        refine z_mv 4 (d := 45) (.pointer (some ⟨p, 0, none⟩)) (IsVal.of_run rfl fun w => (by kernel_rfl)) (by kernel_rfl) ?_
        refine z_mv 5 (d := 46) (.pointer (some ⟨p, 0, none⟩)) (IsVal.of_run rfl fun w => (by kernel_rfl)) (by kernel_rfl) ?_
        refine z_mv 6 (d := 47) (.pointer (some ⟨p, 14, none⟩)) (IsVal.of_run rfl fun w => (by kernel_rfl)) (by kernel_rfl) ?_
        refine z_tk 7 (d := 48) (.int .u64 wait) (val_ld (k := 0) (t := 23) (off := 14) rfl (by kernel_rfl) rfl (by kernel_rfl)) (by kernel_rfl) ?_
        refine z_mv 8 (d := 49) (.int .u64 (IntKind.u64.wrap (now + wait))) (IsVal.of_run rfl fun w => (by kernel_rfl)) (by kernel_rfl) ?_
        refine z_turn (.int .u64 (now + wait)) (wU64 (by omega) (by omega)) ?_
        refine z_mv 9 (d := 50) (.pointer (some ⟨p, 0, none⟩)) (IsVal.of_run rfl fun w => (by kernel_rfl)) (by kernel_rfl) ?_
        refine z_mv 10 (d := 51) (.pointer (some ⟨p, 0, none⟩)) (IsVal.of_run rfl fun w => (by kernel_rfl)) (by kernel_rfl) ?_
        refine z_mv 11 (d := 52) (.pointer (some ⟨p, 14, none⟩)) (IsVal.of_run rfl fun w => (by kernel_rfl)) (by kernel_rfl) ?_
        refine z_tk 12 (d := 53) (.int .u64 wait) (val_ld (k := 0) (t := 23) (off := 14) rfl (by kernel_rfl) rfl (by kernel_rfl)) (by kernel_rfl) ?_
        refine z_mv 13 (d := 54) (.int .u64 (IntKind.u64.wrap (2 * wait))) (IsVal.of_run rfl fun w => (by kernel_rfl)) (by kernel_rfl) ?_
        refine z_turn (.int .u64 (2 * wait)) (wU64 (by omega) (by omega)) ?_
        refine z_mv 14 (d := 55) (.int .u64 (if 16 < (2 * wait) then 16 else (2 * wait))) (IsVal.of_run rfl fun w => (by kernel_rfl)) (by kernel_rfl) ?_
        refine z_turn (.int .u64 (min (2 * wait) 16)) (min_val _ _ _) ?_
        refine z_mv 15 (d := 56) (.pointer (some ⟨p, 0, none⟩)) (IsVal.of_run rfl fun w => (by kernel_rfl)) (by kernel_rfl) ?_
        refine z_mv 16 (d := 57) (.pointer (some ⟨p, 0, none⟩)) (IsVal.of_run rfl fun w => (by kernel_rfl)) (by kernel_rfl) ?_
        refine z_mv 17 (d := 58) (.pointer (some ⟨p, 15, none⟩)) (IsVal.of_run rfl fun w => (by kernel_rfl)) (by kernel_rfl) ?_
        refine z_tk 18 (d := 59) (.int .i64 sent) (val_ld (k := 0) (t := 3) (off := 15) rfl (by kernel_rfl) rfl (by kernel_rfl)) (by kernel_rfl) ?_
        refine z_mv 19 (d := 60) (.int .i64 (IntKind.i64.wrap (sent + 1))) (IsVal.of_run rfl fun w => (by kernel_rfl)) (by kernel_rfl) ?_
        refine z_turn (.int .i64 (sent + 1)) (wI64 (by omega) (by omega)) ?_
        refine z_mv 20 (d := 61) (.pointer (some ⟨p, 0, none⟩)) (IsVal.of_run rfl fun w => (by kernel_rfl)) (by kernel_rfl) ?_
        refine z_mv 21 (d := 62) (.pointer (some ⟨p, 13, none⟩)) (IsVal.of_run rfl fun w => (by kernel_rfl)) (by kernel_rfl) ?_
        refine z_op 22 rfl fun a w Z H => ?_
        refine op_storeZ (k := 2) (t := 23) (off := 13) (v := .int .u64 (now + wait)) H rfl (by kernel_rfl) (by kernel_rfl) fun a w H => ?_
        refine z_last _ H (by kernel_rfl) ?_
        refine z_mv 23 (d := 63) (.pointer (some ⟨p, 0, none⟩)) (IsVal.of_run rfl fun w => (by kernel_rfl)) (by kernel_rfl) ?_
        refine z_mv 24 (d := 64) (.pointer (some ⟨p, 14, none⟩)) (IsVal.of_run rfl fun w => (by kernel_rfl)) (by kernel_rfl) ?_
        refine z_op 25 rfl fun a w Z H => ?_
        refine op_storeZ (k := 2) (t := 23) (off := 14) (v := .int .u64 (min (2 * wait) 16)) H rfl (by kernel_rfl) (by kernel_rfl) fun a w H => ?_
        refine z_last _ H (by kernel_rfl) ?_
        refine z_mv 26 (d := 65) (.pointer (some ⟨p, 0, none⟩)) (IsVal.of_run rfl fun w => (by kernel_rfl)) (by kernel_rfl) ?_
        refine z_mv 27 (d := 66) (.pointer (some ⟨p, 15, none⟩)) (IsVal.of_run rfl fun w => (by kernel_rfl)) (by kernel_rfl) ?_
        refine z_op 28 rfl fun a w Z H => ?_
        refine op_storeZ (k := 2) (t := 3) (off := 15) (v := .int .i64 (sent + 1)) H rfl (by kernel_rfl) (by kernel_rfl) fun a w H => ?_
        refine z_last _ H (by kernel_rfl) ?_
        refine z_end [] fun a w H => ?_
        refine WK.seq ?_
        refine st_text 5 rfl ?_
        refine st_run 0 4 1 [(70, .iface 124 (.pointer (some ⟨b, 3, none⟩))), (69, .pointer (some ⟨b, 3, none⟩)), (68, .pointer (some ⟨b, 0, none⟩)), (67, .pointer (some ⟨b, 0, none⟩))] H (by kernel_rfl) fun a H => ?_
        refine st_op 4 0 (op_call (d := 71) H (by kernel_rfl) rfl (heap_fix b g0 cap cl inc seq H.sat) fun a v w q F => ?_)
        have X := q
        have H := St.mk F X
        refine ops_end _ ?_
        refine WK.seq ?_
        refine st_text 10 rfl ?_
        refine st_run 0 3 7 [(75, .pointer (some ⟨p, 0, none⟩)), (74, .pointer (some ⟨p, 0, none⟩)), (73, .pointer (some ⟨p, 0, none⟩))] H (by kernel_rfl) fun a H => ?_
        refine st_op 3 6 (op_val (d := 76) (v := .agg #[.int .u8 c.client, .int .u32 c.inc, .int .u64 c.seq, .int .u8 c.kind, .int .u32 c.ino, .int .u32 c.gen, .string c.name, .int .u32 c.toIno, .int .u32 c.toGen, .string c.toName, .int .u32 c.off, .int .u32 c.size, .slice A c.data.length k]) H (val_ld (k := 2) (t := 28) (off := 0) rfl (by kernel_rfl) rfl (by kernel_rfl)) fun a H => ?_)
        refine st_op 4 5 (op_call (d := 77) H (by kernel_rfl) rfl (call_put c A k (by first | assumption | omega) (by first | assumption | omega) (by first | assumption | omega) H.sat) fun a v w q F => ?_)
        obtain ⟨R1, hle, X_1, x_1, rfl, X⟩ := q
        have H := St.mk F X
        have hd := hd.grow hle
        have hT := hT.grow hle
        have hleR1 := hle
        refine st_run 5 5 0 [(7, .int .i64 ((putP c).2)), (6, .slice X_1 ((putP c).1.length) x_1), (79, .int .i64 ((putP c).2)), (78, .slice X_1 ((putP c).1.length) x_1), (72, .tuple #[.slice X_1 ((putP c).1.length) x_1, .int .i64 ((putP c).2)])] H (by kernel_rfl) fun a H => ?_
        refine ops_end _ ?_
        refine WK.seq ?_
        refine st_text 2 rfl ?_
        refine st_run 0 2 0 [(4, .slice X_1 ((putP c).1.length) x_1), (80, .slice X_1 ((putP c).1.length) x_1)] H (by kernel_rfl) fun a H => ?_
        refine ops_end _ ?_
        refine st_ret (vs := [.slice X_1 ((putP c).1.length) x_1]) H Tryd.func23 rfl (.tmp (by kernel_rfl) (.nil)) ?_
        have X : Sat e w R1 (blk b (.cells #[.int .u8 cl, .int .u32 inc, .int .u64 seq, .slice (some ⟨g0, 0, none⟩) 1 cap] 68) :: blkC g0 cur 125 :: blk p (.cells #[.int .u8 c.client, .int .u32 c.inc, .int .u64 c.seq, .int .u8 c.kind, .int .u32 c.ino, .int .u32 c.gen, .string c.name, .int .u32 c.toIno, .int .u32 c.toGen, .string c.toName, .int .u32 c.off, .int .u32 c.size, .slice A c.data.length k, .int .u64 (now + wait), .int .u64 (min (2 * wait) 16), .int .i64 (sent + 1)] 70) :: bytesO 5 X_1 x_1 ((putP c).1) :: L) := (((H.sat.front 3 rfl).front 3 rfl).front 3 rfl)
        have hP : (putP c).1 = bareB c := by unfold putP; rw [hm]; rfl
        rewrite [hP] at X ⊢
        exact .inr (⟨R1, hleR1, _, _, by omega, rfl, X⟩)

/-- (*wharfage/rpc.Line).Out -/
theorem rpc_out_nil {e w : World} {R : Hp} {L : List HP}  (X : Sat e w R (L)) :
    Calls Tryd.prog 26 #[.pointer none] w (Ret fun v w' => v = .tuple #[.agg #[.int .u8 0, .int .u32 0, .int .u64 0, .int .u8 0, .int .u32 0, .int .u32 0, .string ByteArray.empty, .int .u32 0, .int .u32 0, .string ByteArray.empty, .int .u32 0, .int .u32 0, .slice none 0 0, .int .u64 0, .int .u64 0, .int .i64 0], .bool false] ∧ Sat e w' R (L)) := by
  refine enter (n := 30) (args := [.pointer none]) Tryd.func26 rfl rfl rfl X (fun a H => ?_)
  refine WK.seq ?_
  refine st_text 2 rfl ?_
  refine st_op 0 1 (op_new (d := 2) (vf := fun b => .pointer (some ⟨b, 0, none⟩)) (ob := .cells #[.int .u8 0, .int .u32 0, .int .u64 0, .int .u8 0, .int .u32 0, .int .u32 0, .string ByteArray.empty, .int .u32 0, .int .u32 0, .string ByteArray.empty, .int .u32 0, .int .u32 0, .slice none 0 0, .int .u64 0, .int .u64 0, .int .i64 0] 70) H (IsNew.of_run rfl fun w => (by kernel_rfl)) fun a w b1 H => ?_)
  refine st_run 1 1 0 [(3, .bool false)] H (by kernel_rfl) fun a H => ?_
  refine ops_end _ ?_
  refine WK.seq ?_
  refine WK.seq ?_
  refine st_text 10 rfl ?_
  refine st_run 0 1 9 [(4, .pointer none)] H (by kernel_rfl) fun a H => ?_
  refine st_op 1 8 (op_call (d := 5) H (by kernel_rfl) rfl (rpc_none_nil H.sat) fun a v w q F => ?_)
  obtain ⟨rfl, X⟩ := q
  have H := St.mk F X
  refine st_run 2 8 0 [(13, .bool true), (12, undef), (11, undef), (10, undef), (9, undef), (8, undef), (7, undef), (6, .bool true)] H (by kernel_rfl) fun a H => ?_
  refine ops_end _ ?_
  refine st_true H (by kernel_rfl) ?_
  refine WK.seq ?_
  refine st_text 3 rfl ?_
  refine st_op 0 2 (op_val (d := 14) (v := .agg #[.int .u8 0, .int .u32 0, .int .u64 0, .int .u8 0, .int .u32 0, .int .u32 0, .string ByteArray.empty, .int .u32 0, .int .u32 0, .string ByteArray.empty, .int .u32 0, .int .u32 0, .slice none 0 0, .int .u64 0, .int .u64 0, .int .i64 0]) H (val_ld (k := 0) (t := 70) (off := 0) rfl (by kernel_rfl) rfl (by kernel_rfl)) fun a H => ?_)
  refine st_op 1 1 (op_store (k := 0) (t := 70) (off := 0) (v := .agg #[.int .u8 0, .int .u32 0, .int .u64 0, .int .u8 0, .int .u32 0, .int .u32 0, .string ByteArray.empty, .int .u32 0, .int .u32 0, .string ByteArray.empty, .int .u32 0, .int .u32 0, .slice none 0 0, .int .u64 0, .int .u64 0, .int .i64 0]) H rfl (by kernel_rfl) (by kernel_rfl) fun a w H => ?_)
  refine st_run 2 1 0 [(3, .bool false)] H (by kernel_rfl) fun a H => ?_
  refine ops_end _ ?_
  refine st_ret (vs := [.agg #[.int .u8 0, .int .u32 0, .int .u64 0, .int .u8 0, .int .u32 0, .int .u32 0, .string ByteArray.empty, .int .u32 0, .int .u32 0, .string ByteArray.empty, .int .u32 0, .int .u32 0, .slice none 0 0, .int .u64 0, .int .u64 0, .int .i64 0], .bool false]) H Tryd.func26 rfl (.cell (by kernel_rfl) (H.sat.blk (k := 0) rfl) (by kernel_rfl) (.tmp (by kernel_rfl) (.nil))) ?_
  have X := (H.sat.msk [false])
  exact ⟨rfl, X⟩

/-- (*wharfage/rpc.Line).Out -/
theorem rpc_out_zero {e w : World} {R : Hp} {L : List HP} (b : Nat) (cl : Int) (seq : Int) (A0 : Option Addr) (n0 : Nat) (cap0 : Nat) (X : Sat e w R (blk b (.cells #[.int .u8 cl, .int .u32 0, .int .u64 seq, .slice A0 n0 cap0] 68) :: L)) :
    Calls Tryd.prog 26 #[.pointer (some ⟨b, 0, none⟩)] w (Ret fun v w' => v = .tuple #[.agg #[.int .u8 0, .int .u32 0, .int .u64 0, .int .u8 0, .int .u32 0, .int .u32 0, .string ByteArray.empty, .int .u32 0, .int .u32 0, .string ByteArray.empty, .int .u32 0, .int .u32 0, .slice none 0 0, .int .u64 0, .int .u64 0, .int .i64 0], .bool false] ∧ Sat e w' R (blk b (.cells #[.int .u8 cl, .int .u32 0, .int .u64 seq, .slice A0 n0 cap0] 68) :: L)) := by
  refine enter (n := 30) (args := [.pointer (some ⟨b, 0, none⟩)]) Tryd.func26 rfl rfl rfl X (fun a H => ?_)
  refine WK.seq ?_
  refine st_text 2 rfl ?_
  refine st_op 0 1 (op_new (d := 2) (vf := fun b => .pointer (some ⟨b, 0, none⟩)) (ob := .cells #[.int .u8 0, .int .u32 0, .int .u64 0, .int .u8 0, .int .u32 0, .int .u32 0, .string ByteArray.empty, .int .u32 0, .int .u32 0, .string ByteArray.empty, .int .u32 0, .int .u32 0, .slice none 0 0, .int .u64 0, .int .u64 0, .int .i64 0] 70) H (IsNew.of_run rfl fun w => (by kernel_rfl)) fun a w b1 H => ?_)
  refine st_run 1 1 0 [(3, .bool false)] H (by kernel_rfl) fun a H => ?_
  refine ops_end _ ?_
  refine WK.seq ?_
  refine WK.seq ?_
  refine st_text 10 rfl ?_
  refine st_run 0 1 9 [(4, .pointer (some ⟨b, 0, none⟩))] H (by kernel_rfl) fun a H => ?_
  refine st_op 1 8 (op_call (d := 5) H (by kernel_rfl) rfl (rpc_none b cl 0 seq A0 n0 cap0 (H.sat.front 1 rfl)) fun a v w q F => ?_)
  obtain ⟨rfl, X⟩ := q
  have H := St.mk F X
  refine st_run 2 1 7 [(6, .bool ((0 : Int) == 0))] H (by kernel_rfl) fun a H => ?_
  have hk1 : ((0 : Int) == 0) = true := by kernel_rfl
  have H := H.also (d := 6) (u := .bool ((0 : Int) == 0)) (v := .bool true) (by kernel_rfl) (congrArg Value.bool (hk1))
  refine st_run 3 7 0 [(13, .bool true), (12, undef), (11, undef), (10, undef), (9, undef), (8, undef), (7, undef)] H (by kernel_rfl) fun a H => ?_
  refine ops_end _ ?_
  refine st_true H (by kernel_rfl) ?_
  refine WK.seq ?_
  refine st_text 3 rfl ?_
  refine st_op 0 2 (op_val (d := 14) (v := .agg #[.int .u8 0, .int .u32 0, .int .u64 0, .int .u8 0, .int .u32 0, .int .u32 0, .string ByteArray.empty, .int .u32 0, .int .u32 0, .string ByteArray.empty, .int .u32 0, .int .u32 0, .slice none 0 0, .int .u64 0, .int .u64 0, .int .i64 0]) H (val_ld (k := 1) (t := 70) (off := 0) rfl (by kernel_rfl) rfl (by kernel_rfl)) fun a H => ?_)
  refine st_op 1 1 (op_store (k := 1) (t := 70) (off := 0) (v := .agg #[.int .u8 0, .int .u32 0, .int .u64 0, .int .u8 0, .int .u32 0, .int .u32 0, .string ByteArray.empty, .int .u32 0, .int .u32 0, .string ByteArray.empty, .int .u32 0, .int .u32 0, .slice none 0 0, .int .u64 0, .int .u64 0, .int .i64 0]) H rfl (by kernel_rfl) (by kernel_rfl) fun a w H => ?_)
  refine st_run 2 1 0 [(3, .bool false)] H (by kernel_rfl) fun a H => ?_
  refine ops_end _ ?_
  refine st_ret (vs := [.agg #[.int .u8 0, .int .u32 0, .int .u64 0, .int .u8 0, .int .u32 0, .int .u32 0, .string ByteArray.empty, .int .u32 0, .int .u32 0, .string ByteArray.empty, .int .u32 0, .int .u32 0, .slice none 0 0, .int .u64 0, .int .u64 0, .int .i64 0], .bool false]) H Tryd.func26 rfl (.cell (by kernel_rfl) (H.sat.blk (k := 1) rfl) (by kernel_rfl) (.tmp (by kernel_rfl) (.nil))) ?_
  have X := (H.sat.msk [true, false])
  exact ⟨rfl, X⟩

/-- (*wharfage/rpc.Line).Out -/
theorem rpc_out {e w : World} {R : Hp} {L : List HP} (b : Nat) (g0 : Nat) (cap : Nat) (p : Nat) (cur : Array Value) (cl : Int) (inc : Int) (seq : Int) (c : CallS) (A : Option Addr) (k : Nat) (at_ : Int) (wait : Int) (sent : Int) (hcur : cur[0]? = some (.pointer (some ⟨p, 0, none⟩))) (h2 : 0 < inc ∧ inc ≤ 4294967295) (hd : RdB R A k c.data) (hb : c.data.length ≤ 140737488355328) (X : Sat e w R (blk b (.cells #[.int .u8 cl, .int .u32 inc, .int .u64 seq, .slice (some ⟨g0, 0, none⟩) 1 cap] 68) :: blkC g0 cur 125 :: blk p (.cells #[.int .u8 c.client, .int .u32 c.inc, .int .u64 c.seq, .int .u8 c.kind, .int .u32 c.ino, .int .u32 c.gen, .string c.name, .int .u32 c.toIno, .int .u32 c.toGen, .string c.toName, .int .u32 c.off, .int .u32 c.size, .slice A c.data.length k, .int .u64 at_, .int .u64 wait, .int .i64 sent] 70) :: L)) :
    Calls Tryd.prog 26 #[.pointer (some ⟨b, 0, none⟩)] w (Ret fun v w' => ∃ A1 : Option Addr, ∃ c1 : Nat, v = .tuple #[.agg #[.int .u8 c.client, .int .u32 c.inc, .int .u64 c.seq, .int .u8 c.kind, .int .u32 c.ino, .int .u32 c.gen, .string c.name, .int .u32 c.toIno, .int .u32 c.toGen, .string c.toName, .int .u32 c.off, .int .u32 c.size, .slice A1 c.data.length c1, .int .u64 at_, .int .u64 wait, .int .i64 sent], .bool true] ∧ Sat e w' R (blk b (.cells #[.int .u8 cl, .int .u32 inc, .int .u64 seq, .slice (some ⟨g0, 0, none⟩) 1 cap] 68) :: blkC g0 cur 125 :: blk p (.cells #[.int .u8 c.client, .int .u32 c.inc, .int .u64 c.seq, .int .u8 c.kind, .int .u32 c.ino, .int .u32 c.gen, .string c.name, .int .u32 c.toIno, .int .u32 c.toGen, .string c.toName, .int .u32 c.off, .int .u32 c.size, .slice A c.data.length k, .int .u64 at_, .int .u64 wait, .int .i64 sent] 70) :: bytesO 5 A1 c1 c.data :: L)) := by
  refine enter (n := 30) (args := [.pointer (some ⟨b, 0, none⟩)]) Tryd.func26 rfl rfl rfl X (fun a H => ?_)
  refine WK.seq ?_
  refine st_text 2 rfl ?_
  refine st_op 0 1 (op_new (d := 2) (vf := fun b => .pointer (some ⟨b, 0, none⟩)) (ob := .cells #[.int .u8 0, .int .u32 0, .int .u64 0, .int .u8 0, .int .u32 0, .int .u32 0, .string ByteArray.empty, .int .u32 0, .int .u32 0, .string ByteArray.empty, .int .u32 0, .int .u32 0, .slice none 0 0, .int .u64 0, .int .u64 0, .int .i64 0] 70) H (IsNew.of_run rfl fun w => (by kernel_rfl)) fun a w b1 H => ?_)
  refine st_run 1 1 0 [(3, .bool false)] H (by kernel_rfl) fun a H => ?_
  refine ops_end _ ?_
  refine WK.seq ?_
  refine WK.seq ?_
  refine st_text 10 rfl ?_
  refine st_run 0 1 9 [(4, .pointer (some ⟨b, 0, none⟩))] H (by kernel_rfl) fun a H => ?_
  refine st_op 1 8 (op_call (d := 5) H (by kernel_rfl) rfl (rpc_none b cl inc seq (some ⟨g0, 0, none⟩) 1 cap (H.sat.front 1 rfl)) fun a v w q F => ?_)
  obtain ⟨rfl, X⟩ := q
  have H := St.mk F X
  refine st_run 2 1 7 [(6, .bool ((inc : Int) == 0))] H (by kernel_rfl) fun a H => ?_
  rcases Bool.eq_false_or_eq_true ((inc : Int) == 0) with hg1 | hg1
  · skip
    have H := H.also (d := 6) (u := .bool ((inc : Int) == 0)) (v := .bool true) (by kernel_rfl) (congrArg Value.bool (hg1))
    have hg1' := eq_of_beq hg1
    exfalso; omega
  · skip
    have H := H.also (d := 6) (u := .bool ((inc : Int) == 0)) (v := .bool false) (by kernel_rfl) (congrArg Value.bool (hg1))
    have hg1' := neB hg1
    refine st_run 3 3 4 [(9, .pointer (some ⟨b, 3, none⟩)), (8, .pointer (some ⟨b, 0, none⟩)), (7, .pointer (some ⟨b, 0, none⟩))] H (by kernel_rfl) fun a H => ?_
    refine st_op 6 3 (op_val (d := 10) (v := .slice (some ⟨g0, 0, none⟩) 1 cap) H (val_ld (k := 0) (t := 66) (off := 3) rfl (by kernel_rfl) rfl (by kernel_rfl)) fun a H => ?_)
    refine st_run 7 3 0 [(13, .bool false), (12, .bool false), (11, .int .i64 1)] H (by kernel_rfl) fun a H => ?_
    refine ops_end _ ?_
    refine st_false H (by kernel_rfl) ?_
    refine WK.skip ?_
    refine WK.seq ?_
    refine st_text 9 rfl ?_
    refine st_run 0 3 6 [(17, .pointer (some ⟨b, 3, none⟩)), (16, .pointer (some ⟨b, 0, none⟩)), (15, .pointer (some ⟨b, 0, none⟩))] H (by kernel_rfl) fun a H => ?_
    refine st_op 3 5 (op_val (d := 18) (v := .slice (some ⟨g0, 0, none⟩) 1 cap) H (val_ld (k := 0) (t := 66) (off := 3) rfl (by kernel_rfl) rfl (by kernel_rfl)) fun a H => ?_)
    refine st_run 4 1 4 [(19, .pointer (some ⟨g0, 0, none⟩))] H (by kernel_rfl) fun a H => ?_
    refine st_op 5 3 (op_val (d := 20) (v := .pointer (some ⟨p, 0, none⟩)) H (val_ld (k := 2) (t := 125) (off := 0) rfl (by kernel_rfl) rfl (loadF_at rfl hcur)) fun a H => ?_)
    refine st_run 6 1 2 [(21, .pointer (some ⟨p, 0, none⟩))] H (by kernel_rfl) fun a H => ?_
    refine st_op 7 1 (op_val (d := 22) (v := .agg #[.int .u8 c.client, .int .u32 c.inc, .int .u64 c.seq, .int .u8 c.kind, .int .u32 c.ino, .int .u32 c.gen, .string c.name, .int .u32 c.toIno, .int .u32 c.toGen, .string c.toName, .int .u32 c.off, .int .u32 c.size, .slice A c.data.length k, .int .u64 at_, .int .u64 wait, .int .i64 sent]) H (val_ld (k := 3) (t := 70) (off := 0) rfl (by kernel_rfl) rfl (by kernel_rfl)) fun a H => ?_)
    refine st_op 8 0 (op_store (k := 1) (t := 70) (off := 0) (v := .agg #[.int .u8 c.client, .int .u32 c.inc, .int .u64 c.seq, .int .u8 c.kind, .int .u32 c.ino, .int .u32 c.gen, .string c.name, .int .u32 c.toIno, .int .u32 c.toGen, .string c.toName, .int .u32 c.off, .int .u32 c.size, .slice A c.data.length k, .int .u64 at_, .int .u64 wait, .int .i64 sent]) H rfl (by kernel_rfl) (by kernel_rfl) fun a w H => ?_)
    refine ops_end _ ?_
    refine WK.seq ?_
    refine st_text 7 rfl ?_
    refine st_run 0 2 5 [(24, .pointer (some ⟨b1, 12, none⟩)), (23, .pointer (some ⟨b1, 0, none⟩))] H (by kernel_rfl) fun a H => ?_
    refine st_op 2 4 (op_val (d := 25) (v := .slice A c.data.length k) H (val_ld (k := 1) (t := 26) (off := 12) rfl (by kernel_rfl) rfl (by kernel_rfl)) fun a H => ?_)
    refine st_op 3 3 (op_call (d := 26) H (by kernel_rfl) rfl (bclone_bytes A k c.data (by first | assumption | omega) (by first | assumption | omega | (simp only [List.length_take, List.length_drop, List.length_append, be_length]; omega)) H.sat) fun a v w q F => ?_)
    obtain ⟨X_1, x_1, rfl, X⟩ := q
    have H := St.mk F X
    refine st_run 4 2 1 [(28, .pointer (some ⟨b1, 12, none⟩)), (27, .pointer (some ⟨b1, 0, none⟩))] H (by kernel_rfl) fun a H => ?_
    refine st_op 6 0 (op_store (k := 2) (t := 26) (off := 12) (v := .slice X_1 c.data.length x_1) H rfl (by kernel_rfl) (by kernel_rfl) fun a w H => ?_)
    refine ops_end _ ?_
    refine WK.seq ?_
    refine st_text 3 rfl ?_
    refine st_op 0 2 (op_val (d := 29) (v := .agg #[.int .u8 c.client, .int .u32 c.inc, .int .u64 c.seq, .int .u8 c.kind, .int .u32 c.ino, .int .u32 c.gen, .string c.name, .int .u32 c.toIno, .int .u32 c.toGen, .string c.toName, .int .u32 c.off, .int .u32 c.size, .slice X_1 c.data.length x_1, .int .u64 at_, .int .u64 wait, .int .i64 sent]) H (val_ld (k := 2) (t := 70) (off := 0) rfl (by kernel_rfl) rfl (by kernel_rfl)) fun a H => ?_)
    refine st_op 1 1 (op_store (k := 2) (t := 70) (off := 0) (v := .agg #[.int .u8 c.client, .int .u32 c.inc, .int .u64 c.seq, .int .u8 c.kind, .int .u32 c.ino, .int .u32 c.gen, .string c.name, .int .u32 c.toIno, .int .u32 c.toGen, .string c.toName, .int .u32 c.off, .int .u32 c.size, .slice X_1 c.data.length x_1, .int .u64 at_, .int .u64 wait, .int .i64 sent]) H rfl (by kernel_rfl) (by kernel_rfl) fun a w H => ?_)
    refine st_run 2 1 0 [(3, .bool true)] H (by kernel_rfl) fun a H => ?_
    refine ops_end _ ?_
    refine st_ret (vs := [.agg #[.int .u8 c.client, .int .u32 c.inc, .int .u64 c.seq, .int .u8 c.kind, .int .u32 c.ino, .int .u32 c.gen, .string c.name, .int .u32 c.toIno, .int .u32 c.toGen, .string c.toName, .int .u32 c.off, .int .u32 c.size, .slice X_1 c.data.length x_1, .int .u64 at_, .int .u64 wait, .int .i64 sent], .bool true]) H Tryd.func26 rfl (.cell (by kernel_rfl) (H.sat.blk (k := 2) rfl) (by kernel_rfl) (.tmp (by kernel_rfl) (.nil))) ?_
    have X := ((((H.sat.msk [true, true, false, true, true]).front 3 rfl).front 3 rfl).front 3 rfl)
    exact ⟨_, _, rfl, X⟩

/-- (*wharfage/rpc.Line).Due -/
theorem rpc_due_nil {e w : World} {R : Hp} {L : List HP}  (X : Sat e w R (L)) :
    Calls Tryd.prog 27 #[.pointer none] w (Ret fun v w' => v = .tuple #[.int .u64 0, .bool false] ∧ Sat e w' R (L)) := by
  refine enter (n := 14) (args := [.pointer none]) Tryd.func27 rfl rfl rfl X (fun a H => ?_)
  refine WK.seq ?_
  refine st_text 2 rfl ?_
  refine st_run 0 2 0 [(3, .bool false), (2, .int .u64 0)] H (by kernel_rfl) fun a H => ?_
  refine ops_end _ ?_
  refine WK.seq ?_
  refine st_text 8 rfl ?_
  refine st_run 0 1 7 [(7, .pointer none)] H (by kernel_rfl) fun a H => ?_
  refine st_op 1 6 (op_call (d := 8) H (by kernel_rfl) rfl (rpc_out_nil H.sat) fun a v w q F => ?_)
  obtain ⟨rfl, X⟩ := q
  have H := St.mk F X
  refine st_run 2 3 3 [(10, .bool false), (9, .agg #[.int .u8 0, .int .u32 0, .int .u64 0, .int .u8 0, .int .u32 0, .int .u32 0, .string ByteArray.empty, .int .u32 0, .int .u32 0, .string ByteArray.empty, .int .u32 0, .int .u32 0, .slice none 0 0, .int .u64 0, .int .u64 0, .int .i64 0]), (6, .tuple #[.agg #[.int .u8 0, .int .u32 0, .int .u64 0, .int .u8 0, .int .u32 0, .int .u32 0, .string ByteArray.empty, .int .u32 0, .int .u32 0, .string ByteArray.empty, .int .u32 0, .int .u32 0, .slice none 0 0, .int .u64 0, .int .u64 0, .int .i64 0], .bool false])] H (by kernel_rfl) fun a H => ?_
  refine st_op 5 2 (op_new (d := 4) (vf := fun b => .pointer (some ⟨b, 0, none⟩)) (ob := .cells #[.int .u8 0, .int .u32 0, .int .u64 0, .int .u8 0, .int .u32 0, .int .u32 0, .string ByteArray.empty, .int .u32 0, .int .u32 0, .string ByteArray.empty, .int .u32 0, .int .u32 0, .slice none 0 0, .int .u64 0, .int .u64 0, .int .i64 0] 70) H (IsNew.of_run rfl fun w => (by kernel_rfl)) fun a w b1 H => ?_)
  refine st_op 6 1 (op_store (k := 0) (t := 70) (off := 0) (v := .agg #[.int .u8 0, .int .u32 0, .int .u64 0, .int .u8 0, .int .u32 0, .int .u32 0, .string ByteArray.empty, .int .u32 0, .int .u32 0, .string ByteArray.empty, .int .u32 0, .int .u32 0, .slice none 0 0, .int .u64 0, .int .u64 0, .int .i64 0]) H rfl (by kernel_rfl) (by kernel_rfl) fun a w H => ?_)
  refine st_run 7 1 0 [(5, .bool false)] H (by kernel_rfl) fun a H => ?_
  refine ops_end _ ?_
  refine WK.seq ?_
  refine st_text 5 rfl ?_
  refine st_run 0 1 4 [(11, .pointer (some ⟨b1, 13, none⟩))] H (by kernel_rfl) fun a H => ?_
  refine st_op 1 3 (op_val (d := 12) (v := .int .u64 0) H (val_ld (k := 0) (t := 23) (off := 13) rfl (by kernel_rfl) rfl (by kernel_rfl)) fun a H => ?_)
  refine st_run 2 3 0 [(3, .bool false), (2, .int .u64 0), (13, .bool false)] H (by kernel_rfl) fun a H => ?_
  refine ops_end _ ?_
  refine st_ret (vs := [.int .u64 0, .bool false]) H Tryd.func27 rfl (.tmp (by kernel_rfl) (.tmp (by kernel_rfl) (.nil))) ?_
  have X := (H.sat.msk [false])
  exact ⟨rfl, X⟩

/-- (*wharfage/rpc.Line).Due -/
theorem rpc_due_zero {e w : World} {R : Hp} {L : List HP} (b : Nat) (cl : Int) (seq : Int) (A0 : Option Addr) (n0 : Nat) (cap0 : Nat) (X : Sat e w R (blk b (.cells #[.int .u8 cl, .int .u32 0, .int .u64 seq, .slice A0 n0 cap0] 68) :: L)) :
    Calls Tryd.prog 27 #[.pointer (some ⟨b, 0, none⟩)] w (Ret fun v w' => v = .tuple #[.int .u64 0, .bool false] ∧ Sat e w' R (blk b (.cells #[.int .u8 cl, .int .u32 0, .int .u64 seq, .slice A0 n0 cap0] 68) :: L)) := by
  refine enter (n := 14) (args := [.pointer (some ⟨b, 0, none⟩)]) Tryd.func27 rfl rfl rfl X (fun a H => ?_)
  refine WK.seq ?_
  refine st_text 2 rfl ?_
  refine st_run 0 2 0 [(3, .bool false), (2, .int .u64 0)] H (by kernel_rfl) fun a H => ?_
  refine ops_end _ ?_
  refine WK.seq ?_
  refine st_text 8 rfl ?_
  refine st_run 0 1 7 [(7, .pointer (some ⟨b, 0, none⟩))] H (by kernel_rfl) fun a H => ?_
  refine st_op 1 6 (op_call (d := 8) H (by kernel_rfl) rfl (rpc_out_zero b cl seq A0 n0 cap0 H.sat) fun a v w q F => ?_)
  obtain ⟨rfl, X⟩ := q
  have H := St.mk F X
  refine st_run 2 3 3 [(10, .bool false), (9, .agg #[.int .u8 0, .int .u32 0, .int .u64 0, .int .u8 0, .int .u32 0, .int .u32 0, .string ByteArray.empty, .int .u32 0, .int .u32 0, .string ByteArray.empty, .int .u32 0, .int .u32 0, .slice none 0 0, .int .u64 0, .int .u64 0, .int .i64 0]), (6, .tuple #[.agg #[.int .u8 0, .int .u32 0, .int .u64 0, .int .u8 0, .int .u32 0, .int .u32 0, .string ByteArray.empty, .int .u32 0, .int .u32 0, .string ByteArray.empty, .int .u32 0, .int .u32 0, .slice none 0 0, .int .u64 0, .int .u64 0, .int .i64 0], .bool false])] H (by kernel_rfl) fun a H => ?_
  refine st_op 5 2 (op_new (d := 4) (vf := fun b => .pointer (some ⟨b, 0, none⟩)) (ob := .cells #[.int .u8 0, .int .u32 0, .int .u64 0, .int .u8 0, .int .u32 0, .int .u32 0, .string ByteArray.empty, .int .u32 0, .int .u32 0, .string ByteArray.empty, .int .u32 0, .int .u32 0, .slice none 0 0, .int .u64 0, .int .u64 0, .int .i64 0] 70) H (IsNew.of_run rfl fun w => (by kernel_rfl)) fun a w b1 H => ?_)
  refine st_op 6 1 (op_store (k := 0) (t := 70) (off := 0) (v := .agg #[.int .u8 0, .int .u32 0, .int .u64 0, .int .u8 0, .int .u32 0, .int .u32 0, .string ByteArray.empty, .int .u32 0, .int .u32 0, .string ByteArray.empty, .int .u32 0, .int .u32 0, .slice none 0 0, .int .u64 0, .int .u64 0, .int .i64 0]) H rfl (by kernel_rfl) (by kernel_rfl) fun a w H => ?_)
  refine st_run 7 1 0 [(5, .bool false)] H (by kernel_rfl) fun a H => ?_
  refine ops_end _ ?_
  refine WK.seq ?_
  refine st_text 5 rfl ?_
  refine st_run 0 1 4 [(11, .pointer (some ⟨b1, 13, none⟩))] H (by kernel_rfl) fun a H => ?_
  refine st_op 1 3 (op_val (d := 12) (v := .int .u64 0) H (val_ld (k := 0) (t := 23) (off := 13) rfl (by kernel_rfl) rfl (by kernel_rfl)) fun a H => ?_)
  refine st_run 2 3 0 [(3, .bool false), (2, .int .u64 0), (13, .bool false)] H (by kernel_rfl) fun a H => ?_
  refine ops_end _ ?_
  refine st_ret (vs := [.int .u64 0, .bool false]) H Tryd.func27 rfl (.tmp (by kernel_rfl) (.tmp (by kernel_rfl) (.nil))) ?_
  have X := (H.sat.msk [false, true])
  exact ⟨rfl, X⟩

/-- (*wharfage/rpc.Line).Due -/
theorem rpc_due {e w : World} {R : Hp} {L : List HP} (b : Nat) (g0 : Nat) (cap : Nat) (p : Nat) (cur : Array Value) (cl : Int) (inc : Int) (seq : Int) (c : CallS) (A : Option Addr) (k : Nat) (at_ : Int) (wait : Int) (sent : Int) (hcur : cur[0]? = some (.pointer (some ⟨p, 0, none⟩))) (h2 : 0 < inc ∧ inc ≤ 4294967295) (hd : RdB R A k c.data) (hb : c.data.length ≤ 140737488355328) (X : Sat e w R (blk b (.cells #[.int .u8 cl, .int .u32 inc, .int .u64 seq, .slice (some ⟨g0, 0, none⟩) 1 cap] 68) :: blkC g0 cur 125 :: blk p (.cells #[.int .u8 c.client, .int .u32 c.inc, .int .u64 c.seq, .int .u8 c.kind, .int .u32 c.ino, .int .u32 c.gen, .string c.name, .int .u32 c.toIno, .int .u32 c.toGen, .string c.toName, .int .u32 c.off, .int .u32 c.size, .slice A c.data.length k, .int .u64 at_, .int .u64 wait, .int .i64 sent] 70) :: L)) :
    Calls Tryd.prog 27 #[.pointer (some ⟨b, 0, none⟩)] w (Ret fun v w' => v = .tuple #[.int .u64 at_, .bool true] ∧ Sat e w' R (blk b (.cells #[.int .u8 cl, .int .u32 inc, .int .u64 seq, .slice (some ⟨g0, 0, none⟩) 1 cap] 68) :: blkC g0 cur 125 :: blk p (.cells #[.int .u8 c.client, .int .u32 c.inc, .int .u64 c.seq, .int .u8 c.kind, .int .u32 c.ino, .int .u32 c.gen, .string c.name, .int .u32 c.toIno, .int .u32 c.toGen, .string c.toName, .int .u32 c.off, .int .u32 c.size, .slice A c.data.length k, .int .u64 at_, .int .u64 wait, .int .i64 sent] 70) :: L)) := by
  refine enter (n := 14) (args := [.pointer (some ⟨b, 0, none⟩)]) Tryd.func27 rfl rfl rfl X (fun a H => ?_)
  refine WK.seq ?_
  refine st_text 2 rfl ?_
  refine st_run 0 2 0 [(3, .bool false), (2, .int .u64 0)] H (by kernel_rfl) fun a H => ?_
  refine ops_end _ ?_
  refine WK.seq ?_
  refine st_text 8 rfl ?_
  refine st_run 0 1 7 [(7, .pointer (some ⟨b, 0, none⟩))] H (by kernel_rfl) fun a H => ?_
  refine st_op 1 6 (op_call (d := 8) H (by kernel_rfl) rfl (rpc_out b g0 cap p _ cl inc seq c A k at_ wait sent (by assumption) (by first | assumption | omega) (by first | assumption | omega) (by first | assumption | omega) (((H.sat.front 2 rfl).front 2 rfl).front 2 rfl)) fun a v w q F => ?_)
  obtain ⟨X_1, x_1, rfl, X⟩ := q
  have H := St.mk F X
  refine st_run 2 3 3 [(10, .bool true), (9, .agg #[.int .u8 c.client, .int .u32 c.inc, .int .u64 c.seq, .int .u8 c.kind, .int .u32 c.ino, .int .u32 c.gen, .string c.name, .int .u32 c.toIno, .int .u32 c.toGen, .string c.toName, .int .u32 c.off, .int .u32 c.size, .slice X_1 c.data.length x_1, .int .u64 at_, .int .u64 wait, .int .i64 sent]), (6, .tuple #[.agg #[.int .u8 c.client, .int .u32 c.inc, .int .u64 c.seq, .int .u8 c.kind, .int .u32 c.ino, .int .u32 c.gen, .string c.name, .int .u32 c.toIno, .int .u32 c.toGen, .string c.toName, .int .u32 c.off, .int .u32 c.size, .slice X_1 c.data.length x_1, .int .u64 at_, .int .u64 wait, .int .i64 sent], .bool true])] H (by kernel_rfl) fun a H => ?_
  refine st_op 5 2 (op_new (d := 4) (vf := fun b => .pointer (some ⟨b, 0, none⟩)) (ob := .cells #[.int .u8 0, .int .u32 0, .int .u64 0, .int .u8 0, .int .u32 0, .int .u32 0, .string ByteArray.empty, .int .u32 0, .int .u32 0, .string ByteArray.empty, .int .u32 0, .int .u32 0, .slice none 0 0, .int .u64 0, .int .u64 0, .int .i64 0] 70) H (IsNew.of_run rfl fun w => (by kernel_rfl)) fun a w b1 H => ?_)
  refine st_op 6 1 (op_store (k := 0) (t := 70) (off := 0) (v := .agg #[.int .u8 c.client, .int .u32 c.inc, .int .u64 c.seq, .int .u8 c.kind, .int .u32 c.ino, .int .u32 c.gen, .string c.name, .int .u32 c.toIno, .int .u32 c.toGen, .string c.toName, .int .u32 c.off, .int .u32 c.size, .slice X_1 c.data.length x_1, .int .u64 at_, .int .u64 wait, .int .i64 sent]) H rfl (by kernel_rfl) (by kernel_rfl) fun a w H => ?_)
  refine st_run 7 1 0 [(5, .bool true)] H (by kernel_rfl) fun a H => ?_
  refine ops_end _ ?_
  refine WK.seq ?_
  refine st_text 5 rfl ?_
  refine st_run 0 1 4 [(11, .pointer (some ⟨b1, 13, none⟩))] H (by kernel_rfl) fun a H => ?_
  refine st_op 1 3 (op_val (d := 12) (v := .int .u64 at_) H (val_ld (k := 0) (t := 23) (off := 13) rfl (by kernel_rfl) rfl (by kernel_rfl)) fun a H => ?_)
  refine st_run 2 3 0 [(3, .bool true), (2, .int .u64 at_), (13, .bool true)] H (by kernel_rfl) fun a H => ?_
  refine ops_end _ ?_
  refine st_ret (vs := [.int .u64 at_, .bool true]) H Tryd.func27 rfl (.tmp (by kernel_rfl) (.tmp (by kernel_rfl) (.nil))) ?_
  have X := ((((H.sat.msk [false, true, true, true, false]).front 2 rfl).front 2 rfl).front 2 rfl)
  exact ⟨rfl, X⟩

/-- (*wharfage/rpc.Line).Call -/
theorem rpc_call_busy {e w : World} {R : Hp} {L : List HP} (b : Nat) (g0 : Nat) (cap : Nat) (cl : Int) (inc : Int) (seq : Int) (c : CallS) (A : Option Addr) (k : Nat) (now : Int) (wf : c.Wf) (hd : RdB R A k c.data) (hT : Tabs 0 1 R) (hb : c.data.length ≤ 140737488355328) (h1 : 0 ≤ cl ∧ cl ≤ 255) (h2 : 0 < inc ∧ inc ≤ 4294967295) (h3 : 0 ≤ seq ∧ seq ≤ 1000000) (h4 : 0 ≤ now ∧ now ≤ 1099511627776) (hm2 : mayP (callAs c cl inc (seq + 1)) = true) (X : Sat e w R (blk b (.cells #[.int .u8 cl, .int .u32 inc, .int .u64 seq, .slice (some ⟨g0, 0, none⟩) 1 cap] 68) :: L)) :
    Calls Tryd.prog 21 #[.pointer (some ⟨b, 0, none⟩), .agg #[.int .u8 c.client, .int .u32 c.inc, .int .u64 c.seq, .int .u8 c.kind, .int .u32 c.ino, .int .u32 c.gen, .string c.name, .int .u32 c.toIno, .int .u32 c.toGen, .string c.toName, .int .u32 c.off, .int .u32 c.size, .slice A c.data.length k], .int .u64 now] w (Ret fun v w' => ∃ R', R.Le R' ∧ v = .int .i64 11 ∧ Sat e w' R' (blk b (.cells #[.int .u8 cl, .int .u32 inc, .int .u64 seq, .slice (some ⟨g0, 0, none⟩) 1 cap] 68) :: L)) := by
  obtain ⟨w1, w2, w3, w4, w5, w6, w7, w8, w9, w10⟩ := wf
  refine enter (n := 61) (args := [.pointer (some ⟨b, 0, none⟩), .agg #[.int .u8 c.client, .int .u32 c.inc, .int .u64 c.seq, .int .u8 c.kind, .int .u32 c.ino, .int .u32 c.gen, .string c.name, .int .u32 c.toIno, .int .u32 c.toGen, .string c.toName, .int .u32 c.off, .int .u32 c.size, .slice A c.data.length k], .int .u64 now]) Tryd.func21 rfl rfl rfl X (fun a H => ?_)
  refine WK.seq ?_
  refine st_text 2 rfl ?_
  refine st_op 0 1 (op_new (d := 4) (vf := fun b => .pointer (some ⟨b, 0, none⟩)) (ob := .cells #[.int .u8 c.client, .int .u32 c.inc, .int .u64 c.seq, .int .u8 c.kind, .int .u32 c.ino, .int .u32 c.gen, .string c.name, .int .u32 c.toIno, .int .u32 c.toGen, .string c.toName, .int .u32 c.off, .int .u32 c.size, .slice A c.data.length k] 28) H (IsNew.of_run rfl fun w => (by kernel_rfl)) fun a w b1 H => ?_)
  refine st_run 1 1 0 [(6, .int .i64 0)] H (by kernel_rfl) fun a H => ?_
  refine ops_end _ ?_
  refine WK.seq ?_
  refine WK.seq ?_
  refine st_text 2 rfl ?_
  refine st_run 0 1 1 [(7, .pointer (some ⟨b, 0, none⟩))] H (by kernel_rfl) fun a H => ?_
  refine st_op 1 0 (op_call (d := 8) H (by kernel_rfl) rfl (rpc_none b cl inc seq (some ⟨g0, 0, none⟩) 1 cap (H.sat.front 1 rfl)) fun a v w q F => ?_)
  obtain ⟨rfl, X⟩ := q
  have H := St.mk F X
  refine ops_end _ ?_
  refine st_cond ((inc : Int) == 0) H (by kernel_rfl) ?_ ?_
  · intro hc1
    have hc1' := eq_of_beq hc1
    exfalso; omega
  · intro hc1
    have hc1' := neB hc1
    refine WK.skip ?_
    refine WK.seq ?_
    refine st_floatsM [true, false] [.mv 0, .mv 1, .mv 2, .tk 3, .mv 4, .mv 5, .mv 6, .tk 7, .mv 8, .mv 9, .mv 10, .tk 11, .mv 12, .mv 13, .op 14, .mv 16, .op 15, .op 17, .mv 18, .op 19, .mv 20, .op 21, .mv 22, .op 23] rfl (by kernel_rfl) (by kernel_rfl) (by kernel_rfl) H ?_
    refine z_mv 0 (d := 9) (.pointer (some ⟨b, 0, none⟩)) (IsVal.of_run rfl fun w => (by kernel_rfl)) (by kernel_rfl) ?_
    refine z_mv 1 (d := 10) (.pointer (some ⟨b, 0, none⟩)) (IsVal.of_run rfl fun w => (by kernel_rfl)) (by kernel_rfl) ?_
    refine z_mv 2 (d := 11) (.pointer (some ⟨b, 0, none⟩)) (IsVal.of_run rfl fun w => (by kernel_rfl)) (by kernel_rfl) ?_
    refine z_tk 3 (d := 12) (.int .u8 cl) (val_ld (k := 0) (t := 5) (off := 0) rfl (by kernel_rfl) rfl (by kernel_rfl)) (by kernel_rfl) ?_
    refine z_mv 4 (d := 13) (.pointer (some ⟨b, 0, none⟩)) (IsVal.of_run rfl fun w => (by kernel_rfl)) (by kernel_rfl) ?_
    refine z_mv 5 (d := 14) (.pointer (some ⟨b, 0, none⟩)) (IsVal.of_run rfl fun w => (by kernel_rfl)) (by kernel_rfl) ?_
    refine z_mv 6 (d := 15) (.pointer (some ⟨b, 1, none⟩)) (IsVal.of_run rfl fun w => (by kernel_rfl)) (by kernel_rfl) ?_
    refine z_tk 7 (d := 16) (.int .u32 inc) (val_ld (k := 0) (t := 22) (off := 1) rfl (by kernel_rfl) rfl (by kernel_rfl)) (by kernel_rfl) ?_
    refine z_mv 8 (d := 17) (.pointer (some ⟨b, 0, none⟩)) (IsVal.of_run rfl fun w => (by kernel_rfl)) (by kernel_rfl) ?_
    refine z_mv 9 (d := 18) (.pointer (some ⟨b, 0, none⟩)) (IsVal.of_run rfl fun w => (by kernel_rfl)) (by kernel_rfl) ?_
    refine z_mv 10 (d := 19) (.pointer (some ⟨b, 2, none⟩)) (IsVal.of_run rfl fun w => (by kernel_rfl)) (by kernel_rfl) ?_
    refine z_tk 11 (d := 20) (.int .u64 seq) (val_ld (k := 0) (t := 23) (off := 2) rfl (by kernel_rfl) rfl (by kernel_rfl)) (by kernel_rfl) ?_
    refine z_mv 12 (d := 21) (.int .u64 (IntKind.u64.wrap (seq + 1))) (IsVal.of_run rfl fun w => (by kernel_rfl)) (by kernel_rfl) ?_
    refine z_turn (.int .u64 (seq + 1)) (wU64 (by omega) (by omega)) ?_
    refine z_mv 13 (d := 22) (.pointer (some ⟨b1, 12, none⟩)) (IsVal.of_run rfl fun w => (by kernel_rfl)) (by kernel_rfl) ?_
    refine z_op 14 rfl fun a w Z H => ?_
    refine op_val (d := 23) (v := .slice A c.data.length k) H (val_ld (k := 1) (t := 26) (off := 12) rfl (by kernel_rfl) rfl (by kernel_rfl)) fun a H => ?_
    refine z_on _ H (fun w Z X => X.mskZ [true, false] (by kernel_rfl)) (by kernel_rfl) ?_
    refine z_mv 16 (d := 25) (.pointer (some ⟨b1, 0, none⟩)) (IsVal.of_run rfl fun w => (by kernel_rfl)) (by kernel_rfl) ?_
    refine z_op 15 rfl fun a w Z H => ?_
    refine op_call (d := 24) H (by kernel_rfl) rfl (bclone_bytes A k c.data (by first | assumption | omega) (by first | assumption | omega | (simp only [List.length_take, List.length_drop, List.length_append, be_length]; omega)) H.sat) fun a v w q F => ?_
    obtain ⟨X_1, x_1, rfl, X⟩ := q
    have H := St.mk F X
    refine z_on (bytesO 5 X_1 x_1 c.data :: blk b (.cells #[.int .u8 cl, .int .u32 inc, .int .u64 seq, .slice (some ⟨g0, 0, none⟩) 1 cap] 68) :: blk b1 (.cells #[.int .u8 c.client, .int .u32 c.inc, .int .u64 c.seq, .int .u8 c.kind, .int .u32 c.ino, .int .u32 c.gen, .string c.name, .int .u32 c.toIno, .int .u32 c.toGen, .string c.toName, .int .u32 c.off, .int .u32 c.size, .slice A c.data.length k] 28) :: L) H (fun w Z X => X.mskZ [false, true, false] (by kernel_rfl)) (by kernel_rfl) ?_
    refine z_op 17 rfl fun a w Z H => ?_
    refine op_storeZ (k := 2) (t := 5) (off := 0) (v := .int .u8 cl) H rfl (by kernel_rfl) (by kernel_rfl) fun a w H => ?_
    refine z_on _ H (fun w Z X => X.mskZ [false, true, false] (by kernel_rfl)) (by kernel_rfl) ?_
    refine z_mv 18 (d := 26) (.pointer (some ⟨b1, 1, none⟩)) (IsVal.of_run rfl fun w => (by kernel_rfl)) (by kernel_rfl) ?_
    refine z_op 19 rfl fun a w Z H => ?_
    refine op_storeZ (k := 2) (t := 22) (off := 1) (v := .int .u32 inc) H rfl (by kernel_rfl) (by kernel_rfl) fun a w H => ?_
    refine z_on _ H (fun w Z X => X.mskZ [false, true, false] (by kernel_rfl)) (by kernel_rfl) ?_
    refine z_mv 20 (d := 27) (.pointer (some ⟨b1, 2, none⟩)) (IsVal.of_run rfl fun w => (by kernel_rfl)) (by kernel_rfl) ?_
    refine z_op 21 rfl fun a w Z H => ?_
    refine op_storeZ (k := 2) (t := 23) (off := 2) (v := .int .u64 (seq + 1)) H rfl (by kernel_rfl) (by kernel_rfl) fun a w H => ?_
    refine z_on _ H (fun w Z X => X.mskZ [false, true, false] (by kernel_rfl)) (by kernel_rfl) ?_
    refine z_mv 22 (d := 28) (.pointer (some ⟨b1, 12, none⟩)) (IsVal.of_run rfl fun w => (by kernel_rfl)) (by kernel_rfl) ?_
    refine z_op 23 rfl fun a w Z H => ?_
    refine op_storeZ (k := 2) (t := 26) (off := 12) (v := .slice X_1 c.data.length x_1) H rfl (by kernel_rfl) (by kernel_rfl) fun a w H => ?_
    refine z_on _ H (fun w Z X => X.mskZ [false, true, false] (by kernel_rfl)) (by kernel_rfl) ?_
    refine z_end [] fun a w H => ?_
    refine WK.seq ?_
    refine WK.block ?_
    refine WK.seq ?_
    refine st_text 8 rfl ?_
    refine st_run 0 3 5 [(32, .bool (decide ((now : Int) > 1099511627776))), (31, .bool (decide ((now : Int) > 1099511627776))), (30, .int .u64 now)] H (by kernel_rfl) fun a H => ?_
    rcases Bool.eq_false_or_eq_true (decide ((now : Int) > 1099511627776)) with hg1 | hg1
    · skip
      have H := H.also (d := 32) (u := .bool (decide ((now : Int) > 1099511627776))) (v := .bool true) (by kernel_rfl) (congrArg Value.bool (hg1))
      have hg1' := of_decide_eq_true hg1
      exfalso; omega
    · skip
      have H := H.also (d := 32) (u := .bool (decide ((now : Int) > 1099511627776))) (v := .bool false) (by kernel_rfl) (congrArg Value.bool (hg1))
      have hg1' := of_decide_eq_false hg1
      refine st_op 3 4 (op_val (d := 33) (v := .agg #[.int .u8 cl, .int .u32 inc, .int .u64 (seq + 1), .int .u8 c.kind, .int .u32 c.ino, .int .u32 c.gen, .string c.name, .int .u32 c.toIno, .int .u32 c.toGen, .string c.toName, .int .u32 c.off, .int .u32 c.size, .slice X_1 c.data.length x_1]) H (val_ld (k := 2) (t := 28) (off := 0) rfl (by kernel_rfl) rfl (by kernel_rfl)) fun a H => ?_)
      obtain ⟨R1, hle, hr_1, X⟩ := (H.sat.front 0 rfl).bytesO_fix
      have H := St.mk H.sl X
      have hd := hd.grow hle
      have hT := hT.grow hle
      have hleR1 := hle
      refine st_op 4 3 (op_call (d := 34) H (by kernel_rfl) rfl (call_may (⟨cl, inc, seq + 1, c.kind, c.ino, c.gen, c.name, c.toIno, c.toGen, c.toName, c.off, c.size, c.data⟩ : CallS) X_1 x_1 (by exact ⟨h1, by constructor <;> simp only <;> omega, by constructor <;> simp only <;> omega, w4, w5, w6, w7, w8, w9, w10⟩) (by assumption) (by first | assumption | omega) H.sat) fun a v w q F => ?_)
      obtain ⟨R2, hle, rfl, X⟩ := q
      have H := St.mk F X
      have hd := hd.grow hle
      have hr_1 := hr_1.grow hle
      have hT := hT.grow hle
      have hleR2 := hleR1.trans hle
      refine st_run 5 3 0 [(29, .bool (!(mayP (⟨cl, inc, seq + 1, c.kind, c.ino, c.gen, c.name, c.toIno, c.toGen, c.toName, c.off, c.size, c.data⟩ : CallS)))), (36, .bool (!(mayP (⟨cl, inc, seq + 1, c.kind, c.ino, c.gen, c.name, c.toIno, c.toGen, c.toName, c.off, c.size, c.data⟩ : CallS)))), (35, .bool (!(mayP (⟨cl, inc, seq + 1, c.kind, c.ino, c.gen, c.name, c.toIno, c.toGen, c.toName, c.off, c.size, c.data⟩ : CallS))))] H (by kernel_rfl) fun a H => ?_
      refine ops_end _ ?_
      refine st_cond (!(mayP (⟨cl, inc, seq + 1, c.kind, c.ino, c.gen, c.name, c.toIno, c.toGen, c.toName, c.off, c.size, c.data⟩ : CallS))) H (by kernel_rfl) ?_ ?_
      · intro hc2
        have hc2n := notT hc2
        exfalso; exact absurd (hm2.symm.trans hc2n) (by decide)
      · intro hc2
        have hc2n := notF hc2
        refine WK.seq ?_
        refine st_text 7 rfl ?_
        refine st_run 0 3 4 [(40, .pointer (some ⟨b, 3, none⟩)), (39, .pointer (some ⟨b, 0, none⟩)), (38, .pointer (some ⟨b, 0, none⟩))] H (by kernel_rfl) fun a H => ?_
        refine st_op 3 3 (op_val (d := 41) (v := .slice (some ⟨g0, 0, none⟩) 1 cap) H (val_ld (k := 0) (t := 66) (off := 3) rfl (by kernel_rfl) rfl (by kernel_rfl)) fun a H => ?_)
        refine st_run 4 3 0 [(37, .bool true), (43, .bool true), (42, .int .i64 1)] H (by kernel_rfl) fun a H => ?_
        refine ops_end _ ?_
        refine st_true H (by kernel_rfl) ?_
        refine WK.seq ?_
        refine st_text 1 rfl ?_
        refine st_run 0 1 0 [(6, .int .i64 11)] H (by kernel_rfl) fun a H => ?_
        refine ops_end _ ?_
        refine st_ret (vs := [.int .i64 11]) H Tryd.func21 rfl (.tmp (by kernel_rfl) (.nil)) ?_
        have X := (H.sat.msk [true, false])
        exact ⟨R2, hleR2, rfl, X⟩
end Go.Proofs.YtldnpolfcickaaaDoor
