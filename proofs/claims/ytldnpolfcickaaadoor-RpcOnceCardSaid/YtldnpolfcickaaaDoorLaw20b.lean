/- Numbers as bytes. -/
import Derived.Test.YtldnpolfcickaaaDoorLaw20
import Derived.Test.YtldnpolfcickaaaDoorRef2
set_option linter.unusedVariables false
set_option linter.unusedSimpArgs false
set_option maxRecDepth 100000
set_option maxHeartbeats 1000000
namespace Go.Proofs.YtldnpolfcickaaaDoor
open Go Go.WH

/-- wharfage/wharfagelaw20.RpcOnce -/
theorem rpc_once {e w : World} {R : Hp} {L : List HP} (c : CallS) (A : Option Addr) (k : Nat) (tk : Int) (wf : c.Wf) (hd : RdB R A k c.data) (hT : Tabs 0 1 R) (hb : c.data.length ≤ 140737488355328) (h4 : 0 ≤ tk ∧ tk ≤ 65535) (X : Sat e w R (L)) :
    Calls Tryd.prog 5 #[.agg #[.int .u8 c.client, .int .u32 c.inc, .int .u64 c.seq, .int .u8 c.kind, .int .u32 c.ino, .int .u32 c.gen, .string c.name, .int .u32 c.toIno, .int .u32 c.toGen, .string c.toName, .int .u32 c.off, .int .u32 c.size, .slice A c.data.length k], .int .u16 tk] w (Ret fun v w' => ∃ R', R.Le R' ∧ v = .bool true ∧ Sat e w' R' (L)) := by
  obtain ⟨w1, w2, w3, w4, w5, w6, w7, w8, w9, w10⟩ := wf
  refine enter (n := 118) (args := [.agg #[.int .u8 c.client, .int .u32 c.inc, .int .u64 c.seq, .int .u8 c.kind, .int .u32 c.ino, .int .u32 c.gen, .string c.name, .int .u32 c.toIno, .int .u32 c.toGen, .string c.toName, .int .u32 c.off, .int .u32 c.size, .slice A c.data.length k], .int .u16 tk]) Tryd.func5 rfl rfl rfl X (fun a H => ?_)
  refine WK.seq ?_
  refine st_text 2 rfl ?_
  refine st_op 0 1 (op_new (d := 2) (vf := fun b => .pointer (some ⟨b, 0, none⟩)) (ob := .cells #[.int .u8 c.client, .int .u32 c.inc, .int .u64 c.seq, .int .u8 c.kind, .int .u32 c.ino, .int .u32 c.gen, .string c.name, .int .u32 c.toIno, .int .u32 c.toGen, .string c.toName, .int .u32 c.off, .int .u32 c.size, .slice A c.data.length k] 28) H (IsNew.of_run rfl fun w => (by kernel_rfl)) fun a w b1 H => ?_)
  refine st_run 1 1 0 [(4, .bool false)] H (by kernel_rfl) fun a H => ?_
  refine ops_end _ ?_
  refine WK.seq ?_
  refine st_text 6 rfl ?_
  refine st_op 0 5 (op_call (d := 24) H (by kernel_rfl) rfl (rpc_new 1 7 (by first | assumption | omega) (by first | assumption | omega) H.sat) fun a v w q F => ?_)
  obtain ⟨x_1, rfl, X⟩ := q
  have H := St.mk F X
  refine st_run 1 5 0 [(6, .int .i64 0), (5, .pointer (some ⟨x_1, 0, none⟩)), (26, .int .i64 0), (25, .pointer (some ⟨x_1, 0, none⟩)), (23, .tuple #[.pointer (some ⟨x_1, 0, none⟩), .int .i64 0])] H (by kernel_rfl) fun a H => ?_
  refine ops_end _ ?_
  refine WK.seq ?_
  refine WK.seq ?_
  refine st_text 2 rfl ?_
  refine st_run 0 2 0 [(28, .bool false), (27, .int .i64 0)] H (by kernel_rfl) fun a H => ?_
  refine ops_end _ ?_
  refine st_false H (by kernel_rfl) ?_
  refine WK.skip ?_
  refine WK.seq ?_
  refine WK.seq ?_
  refine st_text 4 rfl ?_
  refine st_run 0 1 3 [(29, .pointer (some ⟨x_1, 0, none⟩))] H (by kernel_rfl) fun a H => ?_
  refine st_op 1 2 (op_val (d := 30) (v := .agg #[.int .u8 c.client, .int .u32 c.inc, .int .u64 c.seq, .int .u8 c.kind, .int .u32 c.ino, .int .u32 c.gen, .string c.name, .int .u32 c.toIno, .int .u32 c.toGen, .string c.toName, .int .u32 c.off, .int .u32 c.size, .slice A c.data.length k]) H (val_ld (k := 1) (t := 28) (off := 0) rfl (by kernel_rfl) rfl (by kernel_rfl)) fun a H => ?_)
  refine st_op 2 1 (op_call (d := 31) H (by kernel_rfl) rfl (rpc_call x_1 1 7 0 c A k 0 (by exact ⟨w1, w2, w3, w4, w5, w6, w7, w8, w9, w10⟩) (by first | assumption | omega) (by first | assumption | omega) (by first | assumption | omega) (by first | assumption | omega) (by first | assumption | omega) (by first | assumption | omega) (by first | assumption | omega) H.sat) fun a v w q F => ?_)
  rcases q with ⟨R1, hle, hf1, rfl, X⟩ | ⟨R2, hle, x_2, x_3, x_4, x_5, X_1, x_6, hf2, hf3, hf4, hf5, rfl, X⟩
  · skip
    have H := St.mk F X
    have hd := hd.grow hle
    have hT := hT.grow hle
    have hleR1 := hle
    refine st_run 3 1 0 [(32, .bool true)] H (by kernel_rfl) fun a H => ?_
    refine ops_end _ ?_
    refine st_true H (by kernel_rfl) ?_
    refine WK.seq ?_
    refine st_text 2 rfl ?_
    refine st_op 0 1 (op_call (d := 33) H (by kernel_rfl) rfl (law20_lives (by first | assumption | omega) H.sat) fun a v w q F => ?_)
    obtain ⟨R3, hle, rfl, X⟩ := q
    have H := St.mk F X
    have hd := hd.grow hle
    have hT := hT.grow hle
    have hleR3 := hleR1.trans hle
    refine st_run 1 1 0 [(4, .bool true)] H (by kernel_rfl) fun a H => ?_
    refine ops_end _ ?_
    refine st_ret (vs := [.bool true]) H Tryd.func5 rfl (.tmp (by kernel_rfl) (.nil)) ?_
    have X := (H.sat.msk [false, false])
    exact ⟨R3, hleR3, rfl, X⟩
  · skip
    have H := St.mk F X
    have hd := hd.grow hle
    have hT := hT.grow hle
    have hleR2 := hle
    refine st_run 3 1 0 [(32, .bool false)] H (by kernel_rfl) fun a H => ?_
    refine ops_end _ ?_
    refine st_false H (by kernel_rfl) ?_
    refine WK.skip ?_
    refine WK.seq ?_
    refine st_text 2 rfl ?_
    refine st_run 0 2 0 [(8, .int .i64 0), (7, .int .u64 0)] H (by kernel_rfl) fun a H => ?_
    refine ops_end _ ?_
    refine WK.seq ?_
    refine WK.seq ?_
    refine st_text 1 rfl ?_
    refine st_run 0 1 0 [(9, .int .u64 0)] H (by kernel_rfl) fun a H => ?_
    refine ops_end _ ?_
    refine WK.block ?_
    have H := H.with ((((H.sat.msk [true, true, true, false]).front 2 rfl).front 2 rfl).front 2 rfl)
    have H := St.toL (M := blk x_1 (.cells #[.int .u8 1, .int .u32 7, .int .u64 1, .slice (some ⟨x_2, 0, none⟩) 1 x_4] 68) :: blkC x_2 x_5 125 :: blk x_3 (.cells #[.int .u8 ((callAs c 1 7 (0 + 1)).client), .int .u32 ((callAs c 1 7 (0 + 1)).inc), .int .u64 ((callAs c 1 7 (0 + 1)).seq), .int .u8 ((callAs c 1 7 (0 + 1)).kind), .int .u32 ((callAs c 1 7 (0 + 1)).ino), .int .u32 ((callAs c 1 7 (0 + 1)).gen), .string ((callAs c 1 7 (0 + 1)).name), .int .u32 ((callAs c 1 7 (0 + 1)).toIno), .int .u32 ((callAs c 1 7 (0 + 1)).toGen), .string ((callAs c 1 7 (0 + 1)).toName), .int .u32 ((callAs c 1 7 (0 + 1)).off), .int .u32 ((callAs c 1 7 (0 + 1)).size), .slice X_1 ((callAs c 1 7 (0 + 1)).data.length) x_6, .int .u64 0, .int .u64 2, .int .i64 0] 70) :: L) H (by kernel_rfl)
    refine WK.loop (fun m a w => ∃ Rl : Hp, ∃ la : Int, ∃ sn : Int, ∃ ti : Int, ∃ due : Int, ∃ wa : Int, ((tk % 300 + 1 - ti).toNat) = m ∧ (R2.Le Rl) ∧ ((sn = 0 ∧ ti = 0 ∧ due = 0 ∧ wa = 2 ∧ la = 0) ∨ (1 ≤ sn ∧ 0 ≤ la ∧ la < ti ∧ ti ≤ due ∧ la + 2 ≤ due ∧ due ≤ la + 16 ∧ 2 ≤ wa ∧ wa ≤ 16)) ∧ (0 ≤ ti ∧ ti ≤ tk % 300 + 1 ∧ sn ≤ ti ∧ 0 ≤ sn) ∧ St 118 e Rl a w [(1, .int .u16 tk), (5, .pointer (some ⟨x_1, 0, none⟩)), (7, .int .u64 la), (8, .int .i64 sn), (9, .int .u64 ti)] (blk x_1 (.cells #[.int .u8 1, .int .u32 7, .int .u64 1, .slice (some ⟨x_2, 0, none⟩) 1 x_4] 68) :: blkC x_2 x_5 125 :: blk x_3 (.cells #[.int .u8 ((callAs c 1 7 (0 + 1)).client), .int .u32 ((callAs c 1 7 (0 + 1)).inc), .int .u64 ((callAs c 1 7 (0 + 1)).seq), .int .u8 ((callAs c 1 7 (0 + 1)).kind), .int .u32 ((callAs c 1 7 (0 + 1)).ino), .int .u32 ((callAs c 1 7 (0 + 1)).gen), .string ((callAs c 1 7 (0 + 1)).name), .int .u32 ((callAs c 1 7 (0 + 1)).toIno), .int .u32 ((callAs c 1 7 (0 + 1)).toGen), .string ((callAs c 1 7 (0 + 1)).toName), .int .u32 ((callAs c 1 7 (0 + 1)).off), .int .u32 ((callAs c 1 7 (0 + 1)).size), .slice X_1 ((callAs c 1 7 (0 + 1)).data.length) x_6, .int .u64 due, .int .u64 wa, .int .i64 sn] 70) :: L)) ((tk % 300 + 1 - 0).toNat) ⟨R2, 0, 0, 0, 0, 2, rfl, Hp.Le.refl _, by omega, by omega, H.sub' ⟨by kernel_rfl, by kernel_rfl, by kernel_rfl, by kernel_rfl, by kernel_rfl, trivial⟩⟩ ?_
    clear H
    rintro m a w ⟨Rl, la, sn, ti, due, wa, rfl, hl0_0, hl0_1, hl0_2, H⟩ hrec
    have hle := hl0_0
    have hd := hd.grow hle
    have hf4 := hf4.grow hle
    have hT := hT.grow hle
    have hleRl := hleR2.trans hle
    have hrec0 := hrec; clear hrec
    refine WK.seq ?_
    refine WK.seq ?_
    refine st_text 5 rfl ?_
    refine st_run 0 3 2 [(36, .int .u16 (Int.tmod tk 300)), (35, .int .u16 tk), (34, .int .u64 ti)] H (by kernel_rfl) fun a H => ?_
    have H := H.turn (d := 36) (u := .int .u16 (Int.tmod tk 300)) (v := .int .u16 (tk % 300)) (rem_val (by omega))
    refine st_run 3 1 1 [(37, .int .u64 (IntKind.u64.wrap (tk % 300)))] H (by kernel_rfl) fun a H => ?_
    have H := H.turn (d := 37) (u := .int .u64 (IntKind.u64.wrap (tk % 300))) (v := .int .u64 (tk % 300)) (wU64 (by omega) (by omega))
    refine st_run 4 1 0 [(38, .bool (decide ((ti : Int) ≤ (tk % 300))))] H (by kernel_rfl) fun a H => ?_
    refine ops_end _ ?_
    refine st_cond (decide ((ti : Int) ≤ (tk % 300))) H (by kernel_rfl) ?_ ?_
    · intro hc1
      have hc1' := of_decide_eq_true hc1
      refine WK.skip ?_
      refine WK.seq ?_
      refine WK.block ?_
      refine WK.seq ?_
      refine WK.seq ?_
      refine st_text 5 rfl ?_
      refine st_run 0 2 3 [(42, .int .u64 ti), (41, .pointer (some ⟨x_1, 0, none⟩))] H (by kernel_rfl) fun a H => ?_
      refine st_op 2 2 (op_call (d := 43) H (by kernel_rfl) rfl (rpc_tick x_1 x_2 x_4 x_3 _ 1 7 1 (callAs c 1 7 (0 + 1)) X_1 x_6 due wa sn ti (by assumption) (by first | assumption | omega) (by first | assumption | omega) (by first | assumption | omega) (by first | assumption | omega) (by assumption) (by exact ⟨(by decide : (0 : Int) ≤ 1 ∧ (1 : Int) ≤ 255), (by decide : (0 : Int) ≤ 7 ∧ (7 : Int) ≤ 4294967295), (by decide : (0 : Int) ≤ 0 + 1 ∧ (0 : Int) + 1 ≤ 18446744073709551615), w4, w5, w6, w7, w8, w9, w10⟩) (by first | assumption | omega) (by first | assumption | omega) (by exact hb) (by first | assumption | omega) (((H.sat.front 2 rfl).front 2 rfl).front 2 rfl)) fun a v w q F => ?_)
      rcases q with ⟨hf6, rfl, X⟩ | ⟨R4, hle, X_2, x_7, hf7, rfl, X⟩
      · skip
        have H := St.mk F X
        refine st_run 3 2 0 [(45, .bool true), (44, .int .i64 0)] H (by kernel_rfl) fun a H => ?_
        refine ops_end _ ?_
        refine st_true H (by kernel_rfl) ?_
        refine WK.exit (k' := _) rfl ?_
        refine st_text 3 rfl ?_
        refine st_run 0 2 1 [(40, .int .u64 (IntKind.u64.wrap (ti + 1))), (39, .int .u64 ti)] H (by kernel_rfl) fun a H => ?_
        have H := H.turn (d := 40) (u := .int .u64 (IntKind.u64.wrap (ti + 1))) (v := .int .u64 (ti + 1)) (wU64 (by omega) (by omega))
        refine st_run 2 1 0 [(9, .int .u64 (ti + 1))] H (by kernel_rfl) fun a H => ?_
        refine ops_end _ ?_
        have H := H.with (((H.sat.front 2 rfl).front 2 rfl).front 2 rfl)
        exact hrec0 _ _ _ (by omega) ⟨Rl, la, sn, (ti + 1), due, wa, rfl, hl0_0, by omega, by omega, H.sub' ⟨by kernel_rfl, by kernel_rfl, by kernel_rfl, by kernel_rfl, by kernel_rfl, trivial⟩⟩
      · skip
        have H := St.mk F X
        have hd := hd.grow hle
        have hf4 := hf4.grow hle
        have hT := hT.grow hle
        have hleR4 := hleRl.trans hle
        refine st_run 3 2 0 [(45, .bool (((((bareB (callAs c 1 7 (0 + 1))).length : Nat) : Int) : Int) == 0)), (44, .int .i64 (((bareB (callAs c 1 7 (0 + 1))).length : Nat) : Int))] H (by kernel_rfl) fun a H => ?_
        refine ops_end _ ?_
        refine st_cond (((((bareB (callAs c 1 7 (0 + 1))).length : Nat) : Int) : Int) == 0) H (by kernel_rfl) ?_ ?_
        · intro hc2
          have hc2' := eq_of_beq hc2
          have hbl := bareB_pos (callAs c 1 7 (0 + 1))
          exfalso; omega
        · intro hc2
          have hc2' := neB hc2
          refine WK.skip ?_
          refine WK.seq ?_
          refine WK.seq ?_
          refine st_text 14 rfl ?_
          refine st_run 0 3 11 [(48, .bool (decide ((sn : Int) > 0))), (47, .bool (decide ((sn : Int) > 0))), (46, .int .i64 sn)] H (by kernel_rfl) fun a H => ?_
          rcases Bool.eq_false_or_eq_true (decide ((sn : Int) > 0)) with hg1 | hg1
          · skip
            have H := H.also (d := 48) (u := .bool (decide ((sn : Int) > 0))) (v := .bool true) (by kernel_rfl) (congrArg Value.bool (hg1))
            have hg1' := of_decide_eq_true hg1
            refine st_run 3 3 8 [(51, .int .u64 (IntKind.u64.wrap (ti - la))), (50, .int .u64 la), (49, .int .u64 ti)] H (by kernel_rfl) fun a H => ?_
            have H := H.turn (d := 51) (u := .int .u64 (IntKind.u64.wrap (ti - la))) (v := .int .u64 (ti - la)) (wU64 (by omega) (by omega))
            refine st_run 6 2 6 [(53, .bool (decide (((ti - la) : Int) < 2))), (52, .bool (decide (((ti - la) : Int) < 2)))] H (by kernel_rfl) fun a H => ?_
            rcases Bool.eq_false_or_eq_true (decide (((ti - la) : Int) < 2)) with hg2 | hg2
            · skip
              have H := H.also (d := 53) (u := .bool (decide (((ti - la) : Int) < 2))) (v := .bool true) (by kernel_rfl) (congrArg Value.bool (hg2))
              have hg2' := of_decide_eq_true hg2
              refine st_run 8 6 0 [(59, .bool true), (58, .bool true), (57, undef), (56, undef), (55, undef), (54, undef)] H (by kernel_rfl) fun a H => ?_
              refine ops_end _ ?_
              refine st_true H (by kernel_rfl) ?_
              refine WK.seq ?_
              refine st_text 1 rfl ?_
              refine st_run 0 1 0 [(4, .bool false)] H (by kernel_rfl) fun a H => ?_
              refine ops_end _ ?_
              refine st_ret (vs := [.bool false]) H Tryd.func5 rfl (.tmp (by kernel_rfl) (.nil)) ?_
              exfalso; omega
            · skip
              have H := H.also (d := 53) (u := .bool (decide (((ti - la) : Int) < 2))) (v := .bool false) (by kernel_rfl) (congrArg Value.bool (hg2))
              have hg2' := of_decide_eq_false hg2
              refine st_run 8 3 3 [(56, .int .u64 (IntKind.u64.wrap (ti - la))), (55, .int .u64 la), (54, .int .u64 ti)] H (by kernel_rfl) fun a H => ?_
              have H := H.turn (d := 56) (u := .int .u64 (IntKind.u64.wrap (ti - la))) (v := .int .u64 (ti - la)) (wU64 (by omega) (by omega))
              refine st_run 11 3 0 [(59, .bool (decide (((ti - la) : Int) > 16))), (58, .bool (decide (((ti - la) : Int) > 16))), (57, .bool (decide (((ti - la) : Int) > 16)))] H (by kernel_rfl) fun a H => ?_
              refine ops_end _ ?_
              refine st_cond (decide (((ti - la) : Int) > 16)) H (by kernel_rfl) ?_ ?_
              · intro hc3
                have hc3' := of_decide_eq_true hc3
                refine WK.seq ?_
                refine st_text 1 rfl ?_
                refine st_run 0 1 0 [(4, .bool false)] H (by kernel_rfl) fun a H => ?_
                refine ops_end _ ?_
                refine st_ret (vs := [.bool false]) H Tryd.func5 rfl (.tmp (by kernel_rfl) (.nil)) ?_
                exfalso; omega
              · intro hc3
                have hc3' := of_decide_eq_false hc3
                refine WK.skip ?_
                refine WK.seq ?_
                refine st_text 2 rfl ?_
                refine st_run 0 2 0 [(7, .int .u64 ti), (60, .int .u64 ti)] H (by kernel_rfl) fun a H => ?_
                refine ops_end _ ?_
                refine st_text 3 rfl ?_
                refine st_run 0 2 1 [(62, .int .i64 (IntKind.i64.wrap (sn + 1))), (61, .int .i64 sn)] H (by kernel_rfl) fun a H => ?_
                have H := H.turn (d := 62) (u := .int .i64 (IntKind.i64.wrap (sn + 1))) (v := .int .i64 (sn + 1)) (wI64 (by omega) (by omega))
                refine st_run 2 1 0 [(8, .int .i64 (sn + 1))] H (by kernel_rfl) fun a H => ?_
                refine ops_end _ ?_
                refine WK.inBlock ?_
                refine st_text 3 rfl ?_
                refine st_run 0 2 1 [(40, .int .u64 (IntKind.u64.wrap (ti + 1))), (39, .int .u64 ti)] H (by kernel_rfl) fun a H => ?_
                have H := H.turn (d := 40) (u := .int .u64 (IntKind.u64.wrap (ti + 1))) (v := .int .u64 (ti + 1)) (wU64 (by omega) (by omega))
                refine st_run 2 1 0 [(9, .int .u64 (ti + 1))] H (by kernel_rfl) fun a H => ?_
                refine ops_end _ ?_
                have H := H.with ((((H.sat.msk [true, true, true, false]).front 2 rfl).front 2 rfl).front 2 rfl)
                exact hrec0 _ _ _ (by omega) ⟨R4, ti, (sn + 1), (ti + 1), (ti + wa), (min (2 * wa) 16), rfl, hl0_0.trans hle, by omega, by omega, H.sub' ⟨by kernel_rfl, by kernel_rfl, by kernel_rfl, by kernel_rfl, by kernel_rfl, trivial⟩⟩
          · skip
            have H := H.also (d := 48) (u := .bool (decide ((sn : Int) > 0))) (v := .bool false) (by kernel_rfl) (congrArg Value.bool (hg1))
            have hg1' := of_decide_eq_false hg1
            refine st_run 3 11 0 [(59, .bool false), (58, undef), (57, undef), (56, undef), (55, undef), (54, undef), (53, undef), (52, undef), (51, undef), (50, undef), (49, undef)] H (by kernel_rfl) fun a H => ?_
            refine ops_end _ ?_
            refine st_false H (by kernel_rfl) ?_
            refine WK.skip ?_
            refine WK.seq ?_
            refine st_text 2 rfl ?_
            refine st_run 0 2 0 [(7, .int .u64 ti), (60, .int .u64 ti)] H (by kernel_rfl) fun a H => ?_
            refine ops_end _ ?_
            refine st_text 3 rfl ?_
            refine st_run 0 2 1 [(62, .int .i64 (IntKind.i64.wrap (sn + 1))), (61, .int .i64 sn)] H (by kernel_rfl) fun a H => ?_
            have H := H.turn (d := 62) (u := .int .i64 (IntKind.i64.wrap (sn + 1))) (v := .int .i64 (sn + 1)) (wI64 (by omega) (by omega))
            refine st_run 2 1 0 [(8, .int .i64 (sn + 1))] H (by kernel_rfl) fun a H => ?_
            refine ops_end _ ?_
            refine WK.inBlock ?_
            refine st_text 3 rfl ?_
            refine st_run 0 2 1 [(40, .int .u64 (IntKind.u64.wrap (ti + 1))), (39, .int .u64 ti)] H (by kernel_rfl) fun a H => ?_
            have H := H.turn (d := 40) (u := .int .u64 (IntKind.u64.wrap (ti + 1))) (v := .int .u64 (ti + 1)) (wU64 (by omega) (by omega))
            refine st_run 2 1 0 [(9, .int .u64 (ti + 1))] H (by kernel_rfl) fun a H => ?_
            refine ops_end _ ?_
            have H := H.with ((((H.sat.msk [true, true, true, false]).front 2 rfl).front 2 rfl).front 2 rfl)
            exact hrec0 _ _ _ (by omega) ⟨R4, ti, (sn + 1), (ti + 1), (ti + wa), (min (2 * wa) 16), rfl, hl0_0.trans hle, by omega, by omega, H.sub' ⟨by kernel_rfl, by kernel_rfl, by kernel_rfl, by kernel_rfl, by kernel_rfl, trivial⟩⟩
    · intro hc3
      have hc3' := of_decide_eq_false hc3
      refine WK.exit (k' := _) rfl ?_
      refine WK.seq ?_
      refine st_text 7 rfl ?_
      refine st_run 0 1 6 [(64, .agg #[.int .u8 1, .int .u32 7, .int .u64 1, .int .u8 0, .int .u32 0, .int .u32 0, .bool false, .int .u32 0, .int .u64 0, .int .u64 0, .slice none 0 0, .slice none 0 0, .int .u32 1])] H (by kernel_rfl) fun a H => ?_
      refine st_op 1 5 (op_call (d := 65) H (by kernel_rfl) rfl (ref11_put 1 (by first | assumption | omega) H.sat) fun a v w q F => ?_)
      obtain ⟨R5, hle, X_3, x_8, rfl, X⟩ := q
      have H := St.mk F X
      have hd := hd.grow hle
      have hf4 := hf4.grow hle
      have hT := hT.grow hle
      have hleR5 := hleRl.trans hle
      refine st_run 2 5 0 [(11, .int .i64 0), (10, .slice X_3 ((putBk 1).length) x_8), (67, .int .i64 0), (66, .slice X_3 ((putBk 1).length) x_8), (63, .tuple #[.slice X_3 ((putBk 1).length) x_8, .int .i64 0])] H (by kernel_rfl) fun a H => ?_
      refine ops_end _ ?_
      refine WK.seq ?_
      refine st_text 7 rfl ?_
      refine st_run 0 1 6 [(69, .agg #[.int .u8 1, .int .u32 7, .int .u64 2, .int .u8 0, .int .u32 0, .int .u32 0, .bool false, .int .u32 0, .int .u64 0, .int .u64 0, .slice none 0 0, .slice none 0 0, .int .u32 1])] H (by kernel_rfl) fun a H => ?_
      refine st_op 1 5 (op_call (d := 70) H (by kernel_rfl) rfl (ref11_put 2 (by first | assumption | omega) H.sat) fun a v w q F => ?_)
      obtain ⟨R6, hle, X_4, x_9, rfl, X⟩ := q
      have H := St.mk F X
      have hd := hd.grow hle
      have hf4 := hf4.grow hle
      have hT := hT.grow hle
      have hleR6 := hleR5.trans hle
      refine st_run 2 5 0 [(13, .int .i64 0), (12, .slice X_4 ((putBk 2).length) x_9), (72, .int .i64 0), (71, .slice X_4 ((putBk 2).length) x_9), (68, .tuple #[.slice X_4 ((putBk 2).length) x_9, .int .i64 0])] H (by kernel_rfl) fun a H => ?_
      refine ops_end _ ?_
      refine WK.seq ?_
      refine st_text 12 rfl ?_
      refine st_run 0 2 10 [(75, .slice X_4 ((putBk 2).length) x_9), (74, .pointer (some ⟨x_1, 0, none⟩))] H (by kernel_rfl) fun a H => ?_
      obtain ⟨R7, hle, hr_1, X⟩ := (H.sat.front 0 rfl).bytesO_fix
      have H := St.mk H.sl X
      have hd := hd.grow hle
      have hf4 := hf4.grow hle
      have hT := hT.grow hle
      have hleR7 := hleR6.trans hle
      refine st_op 2 9 (op_call (d := 76) H (by kernel_rfl) rfl (rpc_take x_1 x_2 x_4 x_3 _ 1 7 1 (callAs c 1 7 (0 + 1)) X_1 x_6 due wa sn X_4 x_9 (putBk 2) (by assumption) (by first | assumption | omega) (by first | assumption | omega) (by first | assumption | omega) (by first | assumption | omega) (by first | assumption | omega) (((H.sat.front 3 rfl).front 3 rfl).front 3 rfl)) fun a v w q F => ?_)
      rcases q with ⟨R8, hle, hf8, rfl, X⟩ | ⟨R9, hle, X_5, x_10, X_6, x_11, X_7, hf9, rfl, X⟩
      · skip
        have H := St.mk F X
        have hd := hd.grow hle
        have hf4 := hf4.grow hle
        have hr_1 := hr_1.grow hle
        have hT := hT.grow hle
        have hleR8 := hleR7.trans hle
        refine st_run 3 4 5 [(79, .bool false), (78, .agg #[.int .u8 0, .int .u32 0, .int .u64 0, .int .u8 0, .int .u32 0, .int .u32 0, .bool false, .int .u32 0, .int .u64 0, .int .u64 0, .slice none 0 0, .slice none 0 0, .int .u32 0]), (77, .agg #[.int .u8 0, .int .u32 0, .int .u64 0, .int .u8 0, .int .u32 0, .int .u32 0, .string ByteArray.empty, .int .u32 0, .int .u32 0, .string ByteArray.empty, .int .u32 0, .int .u32 0, .slice none 0 0]), (73, .tuple #[.agg #[.int .u8 0, .int .u32 0, .int .u64 0, .int .u8 0, .int .u32 0, .int .u32 0, .string ByteArray.empty, .int .u32 0, .int .u32 0, .string ByteArray.empty, .int .u32 0, .int .u32 0, .slice none 0 0], .agg #[.int .u8 0, .int .u32 0, .int .u64 0, .int .u8 0, .int .u32 0, .int .u32 0, .bool false, .int .u32 0, .int .u64 0, .int .u64 0, .slice none 0 0, .slice none 0 0, .int .u32 0], .bool false])] H (by kernel_rfl) fun a H => ?_
        refine st_op 7 4 (op_new (d := 14) (vf := fun b => .pointer (some ⟨b, 0, none⟩)) (ob := .cells #[.int .u8 0, .int .u32 0, .int .u64 0, .int .u8 0, .int .u32 0, .int .u32 0, .string ByteArray.empty, .int .u32 0, .int .u32 0, .string ByteArray.empty, .int .u32 0, .int .u32 0, .slice none 0 0] 28) H (IsNew.of_run rfl fun w => (by kernel_rfl)) fun a w b2 H => ?_)
        refine st_op 8 3 (op_new (d := 15) (vf := fun b => .pointer (some ⟨b, 0, none⟩)) (ob := .cells #[.int .u8 0, .int .u32 0, .int .u64 0, .int .u8 0, .int .u32 0, .int .u32 0, .bool false, .int .u32 0, .int .u64 0, .int .u64 0, .slice none 0 0, .slice none 0 0, .int .u32 0] 61) H (IsNew.of_run rfl fun w => (by kernel_rfl)) fun a w b3 H => ?_)
        refine st_op 9 2 (op_store (k := 1) (t := 28) (off := 0) (v := .agg #[.int .u8 0, .int .u32 0, .int .u64 0, .int .u8 0, .int .u32 0, .int .u32 0, .string ByteArray.empty, .int .u32 0, .int .u32 0, .string ByteArray.empty, .int .u32 0, .int .u32 0, .slice none 0 0]) H rfl (by kernel_rfl) (by kernel_rfl) fun a w H => ?_)
        refine st_op 10 1 (op_store (k := 0) (t := 61) (off := 0) (v := .agg #[.int .u8 0, .int .u32 0, .int .u64 0, .int .u8 0, .int .u32 0, .int .u32 0, .bool false, .int .u32 0, .int .u64 0, .int .u64 0, .slice none 0 0, .slice none 0 0, .int .u32 0]) H rfl (by kernel_rfl) (by kernel_rfl) fun a w H => ?_)
        refine st_run 11 1 0 [(16, .bool false)] H (by kernel_rfl) fun a H => ?_
        refine ops_end _ ?_
        have H := St.toL (M := blk b3 (.cells #[.int .u8 0, .int .u32 0, .int .u64 0, .int .u8 0, .int .u32 0, .int .u32 0, .bool false, .int .u32 0, .int .u64 0, .int .u64 0, .slice none 0 0, .slice none 0 0, .int .u32 0] 61) :: blk b2 (.cells #[.int .u8 0, .int .u32 0, .int .u64 0, .int .u8 0, .int .u32 0, .int .u32 0, .string ByteArray.empty, .int .u32 0, .int .u32 0, .string ByteArray.empty, .int .u32 0, .int .u32 0, .slice none 0 0] 28) :: blk x_1 (.cells #[.int .u8 1, .int .u32 7, .int .u64 1, .slice (some ⟨x_2, 0, none⟩) 1 x_4] 68) :: blkC x_2 x_5 125 :: blk x_3 (.cells #[.int .u8 ((callAs c 1 7 (0 + 1)).client), .int .u32 ((callAs c 1 7 (0 + 1)).inc), .int .u64 ((callAs c 1 7 (0 + 1)).seq), .int .u8 ((callAs c 1 7 (0 + 1)).kind), .int .u32 ((callAs c 1 7 (0 + 1)).ino), .int .u32 ((callAs c 1 7 (0 + 1)).gen), .string ((callAs c 1 7 (0 + 1)).name), .int .u32 ((callAs c 1 7 (0 + 1)).toIno), .int .u32 ((callAs c 1 7 (0 + 1)).toGen), .string ((callAs c 1 7 (0 + 1)).toName), .int .u32 ((callAs c 1 7 (0 + 1)).off), .int .u32 ((callAs c 1 7 (0 + 1)).size), .slice X_1 ((callAs c 1 7 (0 + 1)).data.length) x_6, .int .u64 due, .int .u64 wa, .int .i64 sn] 70) :: bytesO 5 X_3 x_8 (putBk 1) :: L) H (by kernel_rfl)
        refine WK.seq ?_
        refine st_text 12 rfl ?_
        refine st_run 0 2 10 [(82, .slice X_3 ((putBk 1).length) x_8), (81, .pointer (some ⟨x_1, 0, none⟩))] H (by kernel_rfl) fun a H => ?_
        obtain ⟨R10, hle, hr_2, X⟩ := (H.sat.front 5 rfl).bytesO_fix
        have H := St.mk H.sl X
        have hd := hd.grow hle
        have hf4 := hf4.grow hle
        have hr_1 := hr_1.grow hle
        have hT := hT.grow hle
        have hleR10 := hleR8.trans hle
        refine st_op 2 9 (op_call (d := 83) H (by kernel_rfl) rfl (rpc_take x_1 x_2 x_4 x_3 _ 1 7 1 (callAs c 1 7 (0 + 1)) X_1 x_6 due wa sn X_3 x_8 (putBk 1) (by assumption) (by first | assumption | omega) (by first | assumption | omega) (by first | assumption | omega) (by first | assumption | omega) (by first | assumption | omega) (((H.sat.front 4 rfl).front 4 rfl).front 4 rfl)) fun a v w q F => ?_)
        rcases q with ⟨R11, hle, hf10, rfl, X⟩ | ⟨R12, hle, X_8, x_12, X_9, x_13, X_10, hf11, rfl, X⟩
        · exact absurd (hf10.symm.trans (by kernel_rfl)) Bool.false_ne_true
        · skip
          have H := St.mk F X
          have hd := hd.grow hle
          have hf4 := hf4.grow hle
          have hr_1 := hr_1.grow hle
          have hr_2 := hr_2.grow hle
          have hT := hT.grow hle
          have hleR12 := hleR10.trans hle
          refine st_run 3 4 5 [(86, .bool true), (85, .agg #[.int .u8 ((getB (putBk 1)).1.client), .int .u32 ((getB (putBk 1)).1.inc), .int .u64 ((getB (putBk 1)).1.seq), .int .u8 ((getB (putBk 1)).1.status), .int .u32 ((getB (putBk 1)).1.ino), .int .u32 ((getB (putBk 1)).1.gen), .bool ((getB (putBk 1)).1.dir), .int .u32 ((getB (putBk 1)).1.size), .int .u64 ((getB (putBk 1)).1.change), .int .u64 ((getB (putBk 1)).1.before), .slice X_8 ((getB (putBk 1)).1.data.length) x_12, .slice X_9 ((getB (putBk 1)).1.names.length) x_13, .int .u32 ((getB (putBk 1)).1.boot)]), (84, .agg #[.int .u8 ((callAs c 1 7 (0 + 1)).client), .int .u32 ((callAs c 1 7 (0 + 1)).inc), .int .u64 ((callAs c 1 7 (0 + 1)).seq), .int .u8 ((callAs c 1 7 (0 + 1)).kind), .int .u32 ((callAs c 1 7 (0 + 1)).ino), .int .u32 ((callAs c 1 7 (0 + 1)).gen), .string ((callAs c 1 7 (0 + 1)).name), .int .u32 ((callAs c 1 7 (0 + 1)).toIno), .int .u32 ((callAs c 1 7 (0 + 1)).toGen), .string ((callAs c 1 7 (0 + 1)).toName), .int .u32 ((callAs c 1 7 (0 + 1)).off), .int .u32 ((callAs c 1 7 (0 + 1)).size), .slice X_1 ((callAs c 1 7 (0 + 1)).data.length) x_6]), (80, .tuple #[.agg #[.int .u8 ((callAs c 1 7 (0 + 1)).client), .int .u32 ((callAs c 1 7 (0 + 1)).inc), .int .u64 ((callAs c 1 7 (0 + 1)).seq), .int .u8 ((callAs c 1 7 (0 + 1)).kind), .int .u32 ((callAs c 1 7 (0 + 1)).ino), .int .u32 ((callAs c 1 7 (0 + 1)).gen), .string ((callAs c 1 7 (0 + 1)).name), .int .u32 ((callAs c 1 7 (0 + 1)).toIno), .int .u32 ((callAs c 1 7 (0 + 1)).toGen), .string ((callAs c 1 7 (0 + 1)).toName), .int .u32 ((callAs c 1 7 (0 + 1)).off), .int .u32 ((callAs c 1 7 (0 + 1)).size), .slice X_1 ((callAs c 1 7 (0 + 1)).data.length) x_6], .agg #[.int .u8 ((getB (putBk 1)).1.client), .int .u32 ((getB (putBk 1)).1.inc), .int .u64 ((getB (putBk 1)).1.seq), .int .u8 ((getB (putBk 1)).1.status), .int .u32 ((getB (putBk 1)).1.ino), .int .u32 ((getB (putBk 1)).1.gen), .bool ((getB (putBk 1)).1.dir), .int .u32 ((getB (putBk 1)).1.size), .int .u64 ((getB (putBk 1)).1.change), .int .u64 ((getB (putBk 1)).1.before), .slice X_8 ((getB (putBk 1)).1.data.length) x_12, .slice X_9 ((getB (putBk 1)).1.names.length) x_13, .int .u32 ((getB (putBk 1)).1.boot)], .bool true])] H (by kernel_rfl) fun a H => ?_
          refine st_op 7 4 (op_new (d := 17) (vf := fun b => .pointer (some ⟨b, 0, none⟩)) (ob := .cells #[.int .u8 0, .int .u32 0, .int .u64 0, .int .u8 0, .int .u32 0, .int .u32 0, .string ByteArray.empty, .int .u32 0, .int .u32 0, .string ByteArray.empty, .int .u32 0, .int .u32 0, .slice none 0 0] 28) H (IsNew.of_run rfl fun w => (by kernel_rfl)) fun a w b4 H => ?_)
          refine st_op 8 3 (op_new (d := 18) (vf := fun b => .pointer (some ⟨b, 0, none⟩)) (ob := .cells #[.int .u8 0, .int .u32 0, .int .u64 0, .int .u8 0, .int .u32 0, .int .u32 0, .bool false, .int .u32 0, .int .u64 0, .int .u64 0, .slice none 0 0, .slice none 0 0, .int .u32 0] 61) H (IsNew.of_run rfl fun w => (by kernel_rfl)) fun a w b5 H => ?_)
          refine st_op 9 2 (op_store (k := 1) (t := 28) (off := 0) (v := .agg #[.int .u8 ((callAs c 1 7 (0 + 1)).client), .int .u32 ((callAs c 1 7 (0 + 1)).inc), .int .u64 ((callAs c 1 7 (0 + 1)).seq), .int .u8 ((callAs c 1 7 (0 + 1)).kind), .int .u32 ((callAs c 1 7 (0 + 1)).ino), .int .u32 ((callAs c 1 7 (0 + 1)).gen), .string ((callAs c 1 7 (0 + 1)).name), .int .u32 ((callAs c 1 7 (0 + 1)).toIno), .int .u32 ((callAs c 1 7 (0 + 1)).toGen), .string ((callAs c 1 7 (0 + 1)).toName), .int .u32 ((callAs c 1 7 (0 + 1)).off), .int .u32 ((callAs c 1 7 (0 + 1)).size), .slice X_1 ((callAs c 1 7 (0 + 1)).data.length) x_6]) H rfl (by kernel_rfl) (by kernel_rfl) fun a w H => ?_)
          refine st_op 10 1 (op_store (k := 0) (t := 61) (off := 0) (v := .agg #[.int .u8 ((getB (putBk 1)).1.client), .int .u32 ((getB (putBk 1)).1.inc), .int .u64 ((getB (putBk 1)).1.seq), .int .u8 ((getB (putBk 1)).1.status), .int .u32 ((getB (putBk 1)).1.ino), .int .u32 ((getB (putBk 1)).1.gen), .bool ((getB (putBk 1)).1.dir), .int .u32 ((getB (putBk 1)).1.size), .int .u64 ((getB (putBk 1)).1.change), .int .u64 ((getB (putBk 1)).1.before), .slice X_8 ((getB (putBk 1)).1.data.length) x_12, .slice X_9 ((getB (putBk 1)).1.names.length) x_13, .int .u32 ((getB (putBk 1)).1.boot)]) H rfl (by kernel_rfl) (by kernel_rfl) fun a w H => ?_)
          refine st_run 11 1 0 [(19, .bool true)] H (by kernel_rfl) fun a H => ?_
          refine ops_end _ ?_
          have H := St.toL (M := blk b5 (.cells #[.int .u8 ((getB (putBk 1)).1.client), .int .u32 ((getB (putBk 1)).1.inc), .int .u64 ((getB (putBk 1)).1.seq), .int .u8 ((getB (putBk 1)).1.status), .int .u32 ((getB (putBk 1)).1.ino), .int .u32 ((getB (putBk 1)).1.gen), .bool ((getB (putBk 1)).1.dir), .int .u32 ((getB (putBk 1)).1.size), .int .u64 ((getB (putBk 1)).1.change), .int .u64 ((getB (putBk 1)).1.before), .slice X_8 ((getB (putBk 1)).1.data.length) x_12, .slice X_9 ((getB (putBk 1)).1.names.length) x_13, .int .u32 ((getB (putBk 1)).1.boot)] 61) :: blk b4 (.cells #[.int .u8 ((callAs c 1 7 (0 + 1)).client), .int .u32 ((callAs c 1 7 (0 + 1)).inc), .int .u64 ((callAs c 1 7 (0 + 1)).seq), .int .u8 ((callAs c 1 7 (0 + 1)).kind), .int .u32 ((callAs c 1 7 (0 + 1)).ino), .int .u32 ((callAs c 1 7 (0 + 1)).gen), .string ((callAs c 1 7 (0 + 1)).name), .int .u32 ((callAs c 1 7 (0 + 1)).toIno), .int .u32 ((callAs c 1 7 (0 + 1)).toGen), .string ((callAs c 1 7 (0 + 1)).toName), .int .u32 ((callAs c 1 7 (0 + 1)).off), .int .u32 ((callAs c 1 7 (0 + 1)).size), .slice X_1 ((callAs c 1 7 (0 + 1)).data.length) x_6] 28) :: blk x_1 (.cells #[.int .u8 1, .int .u32 7, .int .u64 1, .slice X_10 0 x_4] 68) :: blk b3 (.cells #[.int .u8 0, .int .u32 0, .int .u64 0, .int .u8 0, .int .u32 0, .int .u32 0, .bool false, .int .u32 0, .int .u64 0, .int .u64 0, .slice none 0 0, .slice none 0 0, .int .u32 0] 61) :: blk b2 (.cells #[.int .u8 0, .int .u32 0, .int .u64 0, .int .u8 0, .int .u32 0, .int .u32 0, .string ByteArray.empty, .int .u32 0, .int .u32 0, .string ByteArray.empty, .int .u32 0, .int .u32 0, .slice none 0 0] 28) :: L) H (by kernel_rfl)
          refine WK.seq ?_
          refine st_text 12 rfl ?_
          refine st_run 0 2 10 [(89, .slice X_3 ((putBk 1).length) x_8), (88, .pointer (some ⟨x_1, 0, none⟩))] H (by kernel_rfl) fun a H => ?_
          refine st_op 2 9 (op_call (d := 90) H (by kernel_rfl) rfl (rpc_take_none x_1 1 7 1 X_10 x_4 X_3 x_8 (putBk 1) (by first | assumption | omega) (by first | assumption | omega) (H.sat.front 2 rfl)) fun a v w q F => ?_)
          obtain ⟨R13, hle, rfl, X⟩ := q
          have H := St.mk F X
          have hd := hd.grow hle
          have hf4 := hf4.grow hle
          have hr_1 := hr_1.grow hle
          have hr_2 := hr_2.grow hle
          have hT := hT.grow hle
          have hleR13 := hleR12.trans hle
          refine st_run 3 4 5 [(93, .bool false), (92, .agg #[.int .u8 0, .int .u32 0, .int .u64 0, .int .u8 0, .int .u32 0, .int .u32 0, .bool false, .int .u32 0, .int .u64 0, .int .u64 0, .slice none 0 0, .slice none 0 0, .int .u32 0]), (91, .agg #[.int .u8 0, .int .u32 0, .int .u64 0, .int .u8 0, .int .u32 0, .int .u32 0, .string ByteArray.empty, .int .u32 0, .int .u32 0, .string ByteArray.empty, .int .u32 0, .int .u32 0, .slice none 0 0]), (87, .tuple #[.agg #[.int .u8 0, .int .u32 0, .int .u64 0, .int .u8 0, .int .u32 0, .int .u32 0, .string ByteArray.empty, .int .u32 0, .int .u32 0, .string ByteArray.empty, .int .u32 0, .int .u32 0, .slice none 0 0], .agg #[.int .u8 0, .int .u32 0, .int .u64 0, .int .u8 0, .int .u32 0, .int .u32 0, .bool false, .int .u32 0, .int .u64 0, .int .u64 0, .slice none 0 0, .slice none 0 0, .int .u32 0], .bool false])] H (by kernel_rfl) fun a H => ?_
          refine st_op 7 4 (op_new (d := 20) (vf := fun b => .pointer (some ⟨b, 0, none⟩)) (ob := .cells #[.int .u8 0, .int .u32 0, .int .u64 0, .int .u8 0, .int .u32 0, .int .u32 0, .string ByteArray.empty, .int .u32 0, .int .u32 0, .string ByteArray.empty, .int .u32 0, .int .u32 0, .slice none 0 0] 28) H (IsNew.of_run rfl fun w => (by kernel_rfl)) fun a w b6 H => ?_)
          refine st_op 8 3 (op_new (d := 21) (vf := fun b => .pointer (some ⟨b, 0, none⟩)) (ob := .cells #[.int .u8 0, .int .u32 0, .int .u64 0, .int .u8 0, .int .u32 0, .int .u32 0, .bool false, .int .u32 0, .int .u64 0, .int .u64 0, .slice none 0 0, .slice none 0 0, .int .u32 0] 61) H (IsNew.of_run rfl fun w => (by kernel_rfl)) fun a w b7 H => ?_)
          refine st_op 9 2 (op_store (k := 1) (t := 28) (off := 0) (v := .agg #[.int .u8 0, .int .u32 0, .int .u64 0, .int .u8 0, .int .u32 0, .int .u32 0, .string ByteArray.empty, .int .u32 0, .int .u32 0, .string ByteArray.empty, .int .u32 0, .int .u32 0, .slice none 0 0]) H rfl (by kernel_rfl) (by kernel_rfl) fun a w H => ?_)
          refine st_op 10 1 (op_store (k := 0) (t := 61) (off := 0) (v := .agg #[.int .u8 0, .int .u32 0, .int .u64 0, .int .u8 0, .int .u32 0, .int .u32 0, .bool false, .int .u32 0, .int .u64 0, .int .u64 0, .slice none 0 0, .slice none 0 0, .int .u32 0]) H rfl (by kernel_rfl) (by kernel_rfl) fun a w H => ?_)
          refine st_run 11 1 0 [(22, .bool false)] H (by kernel_rfl) fun a H => ?_
          refine ops_end _ ?_
          have H := St.toL (M := blk b7 (.cells #[.int .u8 0, .int .u32 0, .int .u64 0, .int .u8 0, .int .u32 0, .int .u32 0, .bool false, .int .u32 0, .int .u64 0, .int .u64 0, .slice none 0 0, .slice none 0 0, .int .u32 0] 61) :: blk b6 (.cells #[.int .u8 0, .int .u32 0, .int .u64 0, .int .u8 0, .int .u32 0, .int .u32 0, .string ByteArray.empty, .int .u32 0, .int .u32 0, .string ByteArray.empty, .int .u32 0, .int .u32 0, .slice none 0 0] 28) :: blk x_1 (.cells #[.int .u8 1, .int .u32 7, .int .u64 1, .slice X_10 0 x_4] 68) :: blk b5 (.cells #[.int .u8 ((getB (putBk 1)).1.client), .int .u32 ((getB (putBk 1)).1.inc), .int .u64 ((getB (putBk 1)).1.seq), .int .u8 ((getB (putBk 1)).1.status), .int .u32 ((getB (putBk 1)).1.ino), .int .u32 ((getB (putBk 1)).1.gen), .bool ((getB (putBk 1)).1.dir), .int .u32 ((getB (putBk 1)).1.size), .int .u64 ((getB (putBk 1)).1.change), .int .u64 ((getB (putBk 1)).1.before), .slice X_8 ((getB (putBk 1)).1.data.length) x_12, .slice X_9 ((getB (putBk 1)).1.names.length) x_13, .int .u32 ((getB (putBk 1)).1.boot)] 61) :: blk b4 (.cells #[.int .u8 ((callAs c 1 7 (0 + 1)).client), .int .u32 ((callAs c 1 7 (0 + 1)).inc), .int .u64 ((callAs c 1 7 (0 + 1)).seq), .int .u8 ((callAs c 1 7 (0 + 1)).kind), .int .u32 ((callAs c 1 7 (0 + 1)).ino), .int .u32 ((callAs c 1 7 (0 + 1)).gen), .string ((callAs c 1 7 (0 + 1)).name), .int .u32 ((callAs c 1 7 (0 + 1)).toIno), .int .u32 ((callAs c 1 7 (0 + 1)).toGen), .string ((callAs c 1 7 (0 + 1)).toName), .int .u32 ((callAs c 1 7 (0 + 1)).off), .int .u32 ((callAs c 1 7 (0 + 1)).size), .slice X_1 ((callAs c 1 7 (0 + 1)).data.length) x_6] 28) :: blk b3 (.cells #[.int .u8 0, .int .u32 0, .int .u64 0, .int .u8 0, .int .u32 0, .int .u32 0, .bool false, .int .u32 0, .int .u64 0, .int .u64 0, .slice none 0 0, .slice none 0 0, .int .u32 0] 61) :: blk b2 (.cells #[.int .u8 0, .int .u32 0, .int .u64 0, .int .u8 0, .int .u32 0, .int .u32 0, .string ByteArray.empty, .int .u32 0, .int .u32 0, .string ByteArray.empty, .int .u32 0, .int .u32 0, .slice none 0 0] 28) :: L) H (by kernel_rfl)
          refine WK.seq ?_
          refine st_text 25 rfl ?_
          refine st_run 0 11 14 [(104, .bool (decide ((sn : Int) > 0))), (103, .bool (decide ((sn : Int) > 0))), (102, .bool (decide ((sn : Int) > 0))), (101, .int .i64 sn), (100, .bool true), (99, .bool true), (98, .bool true), (97, .int .i64 0), (96, .bool true), (95, .bool true), (94, .int .i64 0)] H (by kernel_rfl) fun a H => ?_
          rcases Bool.eq_false_or_eq_true (decide ((sn : Int) > 0)) with hg3 | hg3
          · skip
            have H := H.also (d := 104) (u := .bool (decide ((sn : Int) > 0))) (v := .bool true) (by kernel_rfl) (congrArg Value.bool (hg3))
            have hg3' := of_decide_eq_true hg3
            refine st_run 11 11 3 [(115, .bool true), (114, .bool true), (113, .bool true), (112, .bool false), (111, .bool true), (110, .bool true), (109, .bool true), (108, .bool true), (107, .bool true), (106, .bool true), (105, .bool false)] H (by kernel_rfl) fun a H => ?_
            refine st_op 22 2 (op_call (d := 116) H (by kernel_rfl) rfl (law20_lives (by first | assumption | omega) H.sat) fun a v w q F => ?_)
            obtain ⟨R14, hle, rfl, X⟩ := q
            have H := St.mk F X
            have hd := hd.grow hle
            have hf4 := hf4.grow hle
            have hr_1 := hr_1.grow hle
            have hr_2 := hr_2.grow hle
            have hT := hT.grow hle
            have hleR14 := hleR13.trans hle
            refine st_run 23 2 0 [(4, .bool true), (117, .bool true)] H (by kernel_rfl) fun a H => ?_
            refine ops_end _ ?_
            refine st_ret (vs := [.bool true]) H Tryd.func5 rfl (.tmp (by kernel_rfl) (.nil)) ?_
            have X := (H.sat.msk [false, false, false, false, false, false, false])
            exact ⟨R14, hleR14, rfl, X⟩
          · skip
            have H := H.also (d := 104) (u := .bool (decide ((sn : Int) > 0))) (v := .bool false) (by kernel_rfl) (congrArg Value.bool (hg3))
            have hg3' := of_decide_eq_false hg3
            refine st_run 11 14 0 [(4, .bool false), (117, .bool false), (116, undef), (115, .bool false), (114, .bool false), (113, undef), (112, undef), (111, .bool false), (110, .bool false), (109, undef), (108, .bool false), (107, .bool false), (106, undef), (105, undef)] H (by kernel_rfl) fun a H => ?_
            refine ops_end _ ?_
            refine st_ret (vs := [.bool false]) H Tryd.func5 rfl (.tmp (by kernel_rfl) (.nil)) ?_
            exfalso; omega
      · exact absurd (hf9.symm.trans (by kernel_rfl)) (by decide : ¬ (true = false))
end Go.Proofs.YtldnpolfcickaaaDoor
