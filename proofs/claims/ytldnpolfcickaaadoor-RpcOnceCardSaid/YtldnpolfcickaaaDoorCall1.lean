/- Numbers as bytes. -/
import Derived.Test.YtldnpolfcickaaaDoorXdr
set_option linter.unusedVariables false
set_option linter.unusedSimpArgs false
set_option maxRecDepth 100000
set_option maxHeartbeats 1000000
namespace Go.Proofs.YtldnpolfcickaaaDoor
open Go Go.WH

/-- (wharfage/call.out).Number32 -/
theorem out_number {e w : World} {R : Hp} {L : List HP} (wb : Nat) (bs : List UInt8) (cb : Nat) (cs : Array Value) (T : Nat) (o : Nat) (n : Int) (h0 : 0 ≤ n) (h1 : n ≤ 4294967295) (hb : bs.length ≤ 90000000) (hc : cs[o]? = some (.int .u32 n)) (X : Sat e w R (wrR wb bs :: blkC cb cs T :: L)) :
    Calls Tryd.prog 221 #[.agg #[.pointer (some ⟨wb, 0, none⟩)], .pointer (some ⟨cb, o, none⟩)] w (Ret fun v w' => Sat e w' R (wrR wb (bs ++ be 4 n.toNat) :: blkC cb cs T :: L)) := by
  refine enter (n := 10) (args := [.agg #[.pointer (some ⟨wb, 0, none⟩)], .pointer (some ⟨cb, o, none⟩)]) Tryd.func221 rfl rfl rfl X (fun a H => ?_)
  refine WK.seq ?_
  refine st_text 1 rfl ?_
  refine st_op 0 0 (op_new (d := 2) (vf := fun b => .pointer (some ⟨b, 0, none⟩)) (ob := .cells #[.pointer (some ⟨wb, 0, none⟩)] 178) H (IsNew.of_run rfl fun w => (by kernel_rfl)) fun a w b1 H => ?_)
  refine ops_end _ ?_
  refine st_floatsM [true, false, true] [.mv 0, .tk 1, .mv 2, .mv 3, .tk 4, .op 5] rfl (by kernel_rfl) (by kernel_rfl) (by kernel_rfl) H ?_
  refine z_mv 0 (d := 4) (.pointer (some ⟨b1, 0, none⟩)) (IsVal.of_run rfl fun w => (by kernel_rfl)) (by kernel_rfl) ?_
  refine z_tk 1 (d := 5) (.pointer (some ⟨wb, 0, none⟩)) (val_ld (k := 0) (t := 171) (off := 0) rfl (by kernel_rfl) rfl (by kernel_rfl)) (by kernel_rfl) ?_
  refine z_mv 2 (d := 6) (.pointer (some ⟨cb, o, none⟩)) (IsVal.of_run rfl fun w => (by kernel_rfl)) (by kernel_rfl) ?_
  refine z_mv 3 (d := 7) (.pointer (some ⟨cb, o, none⟩)) (IsVal.of_run rfl fun w => (by kernel_rfl)) (by kernel_rfl) ?_
  refine z_tk 4 (d := 8) (.int .u32 n) (val_ld (k := 1) (t := 22) (off := o) rfl (by kernel_rfl) rfl (loadF_at rfl hc)) (by kernel_rfl) ?_
  refine z_op 5 rfl fun a w Z H => ?_
  refine op_call (d := 9) H (by kernel_rfl) rfl (wr_number wb bs n (by first | assumption | omega) (by first | assumption | omega) (by first | assumption | omega | (simp only [List.length_append, be_length, List.length_replicate, List.length_nil, List.length_cons]; omega)) (H.sat.frontZ 1 rfl)) fun a v w q F => ?_
  have X := q
  have H := St.mk F X
  refine z_on (wrR wb (bs ++ be 4 n.toNat) :: blk b1 (.cells #[.pointer (some ⟨wb, 0, none⟩)] 178) :: blkC cb cs T :: L) H (fun w Z X => X.mskZ [false, true, true] (by kernel_rfl)) (by kernel_rfl) ?_
  refine z_end [] fun a w H => ?_
  refine st_end (vs := []) H Tryd.func221 rfl (.nil) ?_
  have X := (((H.sat.msk [true, false, true]).front 1 rfl).front 1 rfl)
  exact X

/-- (wharfage/call.in).Number32 -/
theorem in_number {e w : World} {R : Hp} {L : List HP} (rb : Nat) (r : Rdr) (cb : Nat) (cs : Array Value) (T : Nat) (o : Nat) (hc : o < cs.size) (X : Sat e w R (rdrR R rb r :: blkC cb cs T :: L)) :
    Calls Tryd.prog 222 #[.agg #[.pointer (some ⟨rb, 0, none⟩)], .pointer (some ⟨cb, o, none⟩)] w (Ret fun v w' => ∃ m1 : Int, ∃ r1 : Rdr, (r.num 4 = (m1, r1)) ∧ (0 ≤ m1 ∧ m1 ≤ 4294967295) ∧ Sat e w' R (rdrR R rb r1 :: blkC cb ((cs).setIfInBounds o (.int .u32 m1)) T :: L)) := by
  refine enter (n := 9) (args := [.agg #[.pointer (some ⟨rb, 0, none⟩)], .pointer (some ⟨cb, o, none⟩)]) Tryd.func222 rfl rfl rfl X (fun a H => ?_)
  refine WK.seq ?_
  refine st_text 1 rfl ?_
  refine st_op 0 0 (op_new (d := 2) (vf := fun b => .pointer (some ⟨b, 0, none⟩)) (ob := .cells #[.pointer (some ⟨rb, 0, none⟩)] 186) H (IsNew.of_run rfl fun w => (by kernel_rfl)) fun a w b1 H => ?_)
  refine ops_end _ ?_
  refine st_text 6 rfl ?_
  refine st_run 0 2 4 [(5, .pointer (some ⟨b1, 0, none⟩)), (4, .pointer (some ⟨cb, o, none⟩))] H (by kernel_rfl) fun a H => ?_
  refine st_op 2 3 (op_val (d := 6) (v := .pointer (some ⟨rb, 0, none⟩)) H (val_ld (k := 0) (t := 181) (off := 0) rfl (by kernel_rfl) rfl (by kernel_rfl)) fun a H => ?_)
  refine st_op 3 2 (op_call (d := 7) H (by kernel_rfl) rfl (rd_number rb r (H.sat.front 1 rfl)) fun a v w q F => ?_)
  obtain ⟨x_1, x_2, hf1, hf2, rfl, X⟩ := q
  have H := St.mk F X
  refine st_run 4 1 1 [(8, .pointer (some ⟨cb, o, none⟩))] H (by kernel_rfl) fun a H => ?_
  refine st_op 5 0 (op_storeC (k := 2) (t := 22) (off := o) (v := .int .u32 x_1) H rfl (by kernel_rfl) rfl rfl rfl (hc) fun a w H => ?_)
  refine ops_end _ ?_
  refine st_end (vs := []) H Tryd.func222 rfl (.nil) ?_
  have X := (((H.sat.msk [true, false, true]).front 1 rfl).front 1 rfl)
  exact ⟨_, _, hf1, hf2, X⟩

/-- wharfage/call.great -/
theorem out_great {e w : World} {R : Hp} {L : List HP} (wb : Nat) (bs : List UInt8) (cb : Nat) (cs : Array Value) (T : Nat) (o : Nat) (n : Int) (h0 : 0 ≤ n) (h1 : n ≤ 18446744073709551615) (hb : bs.length ≤ 90000000) (hc : cs[o]? = some (.int .u64 n)) (X : Sat e w R (wrR wb bs :: blkC cb cs T :: L)) :
    Calls Tryd.prog 104 #[.iface 178 (.agg #[.pointer (some ⟨wb, 0, none⟩)]), .pointer (some ⟨cb, o, none⟩)] w (Ret fun v w' => Sat e w' R (wrR wb (bs ++ be 8 n.toNat) :: blkC cb cs T :: L)) := by
  refine enter (n := 24) (args := [.iface 178 (.agg #[.pointer (some ⟨wb, 0, none⟩)]), .pointer (some ⟨cb, o, none⟩)]) Tryd.func104 rfl rfl rfl X (fun a H => ?_)
  refine WK.seq ?_
  refine st_text 1 rfl ?_
  refine st_run 0 1 0 [(6, .iface 178 (.agg #[.pointer (some ⟨wb, 0, none⟩)]))] H (by kernel_rfl) fun a H => ?_
  refine ops_end _ ?_
  refine WK.block ?_
  refine WK.seq ?_
  refine st_text 3 rfl ?_
  refine st_run 0 3 0 [(9, .agg #[.pointer (some ⟨wb, 0, none⟩)]), (8, .bool true), (7, .tuple #[.agg #[.pointer (some ⟨wb, 0, none⟩)], .bool true])] H (by kernel_rfl) fun a H => ?_
  refine ops_end _ ?_
  refine st_true H (by kernel_rfl) ?_
  refine WK.seq ?_
  refine st_text 2 rfl ?_
  refine st_op 0 1 (op_new (d := 4) (vf := fun b => .pointer (some ⟨b, 0, none⟩)) (ob := .cells #[.pointer none] 178) H (IsNew.of_run rfl fun w => (by kernel_rfl)) fun a w b1 H => ?_)
  refine st_op 1 0 (op_store (k := 0) (t := 178) (off := 0) (v := .agg #[.pointer (some ⟨wb, 0, none⟩)]) H rfl (by kernel_rfl) (by kernel_rfl) fun a w H => ?_)
  refine ops_end _ ?_
  refine st_floatsM [true, false, true] [.mv 0, .tk 1, .mv 2, .mv 3, .tk 4, .op 5] rfl (by kernel_rfl) (by kernel_rfl) (by kernel_rfl) H ?_
  refine z_mv 0 (d := 10) (.pointer (some ⟨b1, 0, none⟩)) (IsVal.of_run rfl fun w => (by kernel_rfl)) (by kernel_rfl) ?_
  refine z_tk 1 (d := 11) (.pointer (some ⟨wb, 0, none⟩)) (val_ld (k := 0) (t := 171) (off := 0) rfl (by kernel_rfl) rfl (by kernel_rfl)) (by kernel_rfl) ?_
  refine z_mv 2 (d := 12) (.pointer (some ⟨cb, o, none⟩)) (IsVal.of_run rfl fun w => (by kernel_rfl)) (by kernel_rfl) ?_
  refine z_mv 3 (d := 13) (.pointer (some ⟨cb, o, none⟩)) (IsVal.of_run rfl fun w => (by kernel_rfl)) (by kernel_rfl) ?_
  refine z_tk 4 (d := 14) (.int .u64 n) (val_ld (k := 1) (t := 23) (off := o) rfl (by kernel_rfl) rfl (loadF_at rfl hc)) (by kernel_rfl) ?_
  refine z_op 5 rfl fun a w Z H => ?_
  refine op_call (d := 15) H (by kernel_rfl) rfl (wr_great wb bs n (by first | assumption | omega) (by first | assumption | omega) (by first | assumption | omega | (simp only [List.length_append, be_length, List.length_replicate, List.length_nil, List.length_cons]; omega)) (H.sat.frontZ 1 rfl)) fun a v w q F => ?_
  have X := q
  have H := St.mk F X
  refine z_on (wrR wb (bs ++ be 8 n.toNat) :: blk b1 (.cells #[.pointer (some ⟨wb, 0, none⟩)] 178) :: blkC cb cs T :: L) H (fun w Z X => X.mskZ [false, true, true] (by kernel_rfl)) (by kernel_rfl) ?_
  refine z_end [] fun a w H => ?_
  refine WK.inBlock ?_
  refine st_end (vs := []) H Tryd.func104 rfl (.nil) ?_
  have X := (((H.sat.msk [true, false, true]).front 1 rfl).front 1 rfl)
  exact X

/-- wharfage/call.great -/
theorem in_great {e w : World} {R : Hp} {L : List HP} (rb : Nat) (r : Rdr) (cb : Nat) (cs : Array Value) (T : Nat) (o : Nat) (hc : o < cs.size) (X : Sat e w R (rdrR R rb r :: blkC cb cs T :: L)) :
    Calls Tryd.prog 104 #[.iface 186 (.agg #[.pointer (some ⟨rb, 0, none⟩)]), .pointer (some ⟨cb, o, none⟩)] w (Ret fun v w' => ∃ m1 : Int, ∃ r1 : Rdr, (r.num 8 = (m1, r1)) ∧ (0 ≤ m1 ∧ m1 ≤ 18446744073709551615) ∧ Sat e w' R (rdrR R rb r1 :: blkC cb ((cs).setIfInBounds o (.int .u64 m1)) T :: L)) := by
  refine enter (n := 24) (args := [.iface 186 (.agg #[.pointer (some ⟨rb, 0, none⟩)]), .pointer (some ⟨cb, o, none⟩)]) Tryd.func104 rfl rfl rfl X (fun a H => ?_)
  refine WK.seq ?_
  refine st_text 1 rfl ?_
  refine st_run 0 1 0 [(6, .iface 186 (.agg #[.pointer (some ⟨rb, 0, none⟩)]))] H (by kernel_rfl) fun a H => ?_
  refine ops_end _ ?_
  refine WK.block ?_
  refine WK.seq ?_
  refine st_text 3 rfl ?_
  refine st_run 0 3 0 [(9, .agg #[.pointer none]), (8, .bool false), (7, .tuple #[.agg #[.pointer none], .bool false])] H (by kernel_rfl) fun a H => ?_
  refine ops_end _ ?_
  refine st_false H (by kernel_rfl) ?_
  refine WK.seq ?_
  refine st_text 3 rfl ?_
  refine st_run 0 3 0 [(18, .agg #[.pointer (some ⟨rb, 0, none⟩)]), (17, .bool true), (16, .tuple #[.agg #[.pointer (some ⟨rb, 0, none⟩)], .bool true])] H (by kernel_rfl) fun a H => ?_
  refine ops_end _ ?_
  refine st_true H (by kernel_rfl) ?_
  refine WK.seq ?_
  refine st_text 2 rfl ?_
  refine st_op 0 1 (op_new (d := 5) (vf := fun b => .pointer (some ⟨b, 0, none⟩)) (ob := .cells #[.pointer none] 186) H (IsNew.of_run rfl fun w => (by kernel_rfl)) fun a w b1 H => ?_)
  refine st_op 1 0 (op_store (k := 0) (t := 186) (off := 0) (v := .agg #[.pointer (some ⟨rb, 0, none⟩)]) H rfl (by kernel_rfl) (by kernel_rfl) fun a w H => ?_)
  refine ops_end _ ?_
  refine st_text 6 rfl ?_
  refine st_run 0 2 4 [(20, .pointer (some ⟨b1, 0, none⟩)), (19, .pointer (some ⟨cb, o, none⟩))] H (by kernel_rfl) fun a H => ?_
  refine st_op 2 3 (op_val (d := 21) (v := .pointer (some ⟨rb, 0, none⟩)) H (val_ld (k := 0) (t := 181) (off := 0) rfl (by kernel_rfl) rfl (by kernel_rfl)) fun a H => ?_)
  refine st_op 3 2 (op_call (d := 22) H (by kernel_rfl) rfl (rd_great rb r (H.sat.front 1 rfl)) fun a v w q F => ?_)
  obtain ⟨x_1, x_2, hf1, hf2, rfl, X⟩ := q
  have H := St.mk F X
  refine st_run 4 1 1 [(23, .pointer (some ⟨cb, o, none⟩))] H (by kernel_rfl) fun a H => ?_
  refine st_op 5 0 (op_storeC (k := 2) (t := 23) (off := o) (v := .int .u64 x_1) H rfl (by kernel_rfl) rfl rfl rfl (hc) fun a w H => ?_)
  refine ops_end _ ?_
  refine WK.inBlock ?_
  refine st_end (vs := []) H Tryd.func104 rfl (.nil) ?_
  have X := (((H.sat.msk [true, false, true]).front 1 rfl).front 1 rfl)
  exact ⟨_, _, hf1, hf2, X⟩

/-- wharfage/call.handle -/
theorem out_handle {e w : World} {R : Hp} {L : List HP} (wb : Nat) (bs : List UInt8) (cb : Nat) (cs : Array Value) (T : Nat) (o : Nat) (n : Int) (m : Int) (h0 : 0 ≤ n) (h1 : n ≤ 4294967295) (k0 : 0 ≤ m) (k1 : m ≤ 4294967295) (hb : bs.length ≤ 80000000) (hc : cs[o]? = some (.int .u32 n)) (hc2 : cs[o + 1]? = some (.int .u32 m)) (X : Sat e w R (wrR wb bs :: blkC cb cs T :: L)) :
    Calls Tryd.prog 159 #[.iface 178 (.agg #[.pointer (some ⟨wb, 0, none⟩)]), .pointer (some ⟨cb, o, none⟩)] w (Ret fun v w' => Sat e w' R (wrR wb (bs ++ be 4 n.toNat ++ be 4 m.toNat) :: blkC cb cs T :: L)) := by
  refine enter (n := 20) (args := [.iface 178 (.agg #[.pointer (some ⟨wb, 0, none⟩)]), .pointer (some ⟨cb, o, none⟩)]) Tryd.func159 rfl rfl rfl X (fun a H => ?_)
  refine WK.seq ?_
  refine st_floatsM [false, false] [.mv 0, .mv 1, .mv 2, .mv 3, .mv 4, .mv 5, .mv 6, .op 7] rfl (by kernel_rfl) (by kernel_rfl) (by kernel_rfl) H ?_
  refine z_mv 0 (d := 4) (.iface 178 (.agg #[.pointer (some ⟨wb, 0, none⟩)])) (IsVal.of_run rfl fun w => (by kernel_rfl)) (by kernel_rfl) ?_
  refine z_mv 1 (d := 5) (.pointer (some ⟨cb, o, none⟩)) (IsVal.of_run rfl fun w => (by kernel_rfl)) (by kernel_rfl) ?_
  refine z_mv 2 (d := 6) (.pointer (some ⟨cb, o, none⟩)) (IsVal.of_run rfl fun w => (by kernel_rfl)) (by kernel_rfl) ?_
  refine z_mv 3 (d := 7) (.pointer (some ⟨cb, o, none⟩)) (IsVal.of_run rfl fun w => (by kernel_rfl)) (by kernel_rfl) ?_
  refine z_mv 4 (d := 8) (.func (.method "Number32") #[.iface 178 (.agg #[.pointer (some ⟨wb, 0, none⟩)])] #[]) (IsVal.of_run rfl fun w => (by kernel_rfl)) (by kernel_rfl) ?_
  refine z_mv 5 (d := 9) (.func (.method "Number32") #[.iface 178 (.agg #[.pointer (some ⟨wb, 0, none⟩)])] #[]) (IsVal.of_run rfl fun w => (by kernel_rfl)) (by kernel_rfl) ?_
  refine z_mv 6 (d := 10) (.iface 178 (.agg #[.pointer (some ⟨wb, 0, none⟩)])) (IsVal.of_run rfl fun w => (by kernel_rfl)) (by kernel_rfl) ?_
  refine z_op 7 rfl fun a w Z H => ?_
  refine op_call (d := 11) H (by kernel_rfl) rfl (out_number wb bs cb _ _ o n (by first | assumption | omega) (by first | assumption | omega) (by first | assumption | omega | (simp only [List.length_append, be_length, List.length_replicate, List.length_nil, List.length_cons]; omega)) (by first | exact hc | exact hc2) ((H.sat.frontZ 1 rfl).frontZ 1 rfl)) fun a v w q F => ?_
  have X := q
  have H := St.mk F X
  refine z_on (wrR wb (bs ++ be 4 n.toNat) :: blkC cb cs T :: L) H (fun w Z X => X.mskZ [false, false] (by kernel_rfl)) (by kernel_rfl) ?_
  refine z_end [] fun a w H => ?_
  refine st_floatsM [false, false] [.mv 0, .mv 1, .mv 2, .mv 3, .mv 4, .mv 5, .mv 6, .op 7] rfl (by kernel_rfl) (by kernel_rfl) (by kernel_rfl) H ?_
  refine z_mv 0 (d := 12) (.iface 178 (.agg #[.pointer (some ⟨wb, 0, none⟩)])) (IsVal.of_run rfl fun w => (by kernel_rfl)) (by kernel_rfl) ?_
  refine z_mv 1 (d := 13) (.pointer (some ⟨cb, o, none⟩)) (IsVal.of_run rfl fun w => (by kernel_rfl)) (by kernel_rfl) ?_
  refine z_mv 2 (d := 14) (.pointer (some ⟨cb, o, none⟩)) (IsVal.of_run rfl fun w => (by kernel_rfl)) (by kernel_rfl) ?_
  refine z_mv 3 (d := 15) (.pointer (some ⟨cb, o + 1, none⟩)) (IsVal.of_run rfl fun w => (by kernel_rfl)) (by kernel_rfl) ?_
  refine z_mv 4 (d := 16) (.func (.method "Number32") #[.iface 178 (.agg #[.pointer (some ⟨wb, 0, none⟩)])] #[]) (IsVal.of_run rfl fun w => (by kernel_rfl)) (by kernel_rfl) ?_
  refine z_mv 5 (d := 17) (.func (.method "Number32") #[.iface 178 (.agg #[.pointer (some ⟨wb, 0, none⟩)])] #[]) (IsVal.of_run rfl fun w => (by kernel_rfl)) (by kernel_rfl) ?_
  refine z_mv 6 (d := 18) (.iface 178 (.agg #[.pointer (some ⟨wb, 0, none⟩)])) (IsVal.of_run rfl fun w => (by kernel_rfl)) (by kernel_rfl) ?_
  refine z_op 7 rfl fun a w Z H => ?_
  refine op_call (d := 19) H (by kernel_rfl) rfl (out_number wb (bs ++ be 4 n.toNat) cb _ _ (o + 1) m (by first | assumption | omega) (by first | assumption | omega) (by first | assumption | omega | (simp only [List.length_append, be_length, List.length_replicate, List.length_nil, List.length_cons]; omega)) (by first | exact hc | exact hc2) ((H.sat.frontZ 1 rfl).frontZ 1 rfl)) fun a v w q F => ?_
  have X := q
  have H := St.mk F X
  refine z_on (wrR wb ((bs ++ be 4 n.toNat) ++ be 4 m.toNat) :: blkC cb cs T :: L) H (fun w Z X => X.mskZ [false, false] (by kernel_rfl)) (by kernel_rfl) ?_
  refine z_end [] fun a w H => ?_
  refine st_end (vs := []) H Tryd.func159 rfl (.nil) ?_
  have X := ((H.sat.front 1 rfl).front 1 rfl)
  exact X

/-- wharfage/call.handle -/
theorem in_handle {e w : World} {R : Hp} {L : List HP} (rb : Nat) (r : Rdr) (cb : Nat) (cs : Array Value) (T : Nat) (o : Nat) (hc : o + 1 < cs.size) (X : Sat e w R (rdrR R rb r :: blkC cb cs T :: L)) :
    Calls Tryd.prog 159 #[.iface 186 (.agg #[.pointer (some ⟨rb, 0, none⟩)]), .pointer (some ⟨cb, o, none⟩)] w (Ret fun v w' => ∃ m1 : Int, ∃ r1 : Rdr, ∃ m2 : Int, ∃ r2 : Rdr, (r.num 4 = (m1, r1)) ∧ (0 ≤ m1 ∧ m1 ≤ 4294967295) ∧ (r1.num 4 = (m2, r2)) ∧ (0 ≤ m2 ∧ m2 ≤ 4294967295) ∧ Sat e w' R (rdrR R rb r2 :: blkC cb (((cs).setIfInBounds o (.int .u32 m1)).setIfInBounds (o + 1) (.int .u32 m2)) T :: L)) := by
  refine enter (n := 20) (args := [.iface 186 (.agg #[.pointer (some ⟨rb, 0, none⟩)]), .pointer (some ⟨cb, o, none⟩)]) Tryd.func159 rfl rfl rfl X (fun a H => ?_)
  refine WK.seq ?_
  refine st_floatsM [false, false] [.mv 0, .mv 1, .mv 2, .mv 3, .mv 4, .mv 5, .mv 6, .op 7] rfl (by kernel_rfl) (by kernel_rfl) (by kernel_rfl) H ?_
  refine z_mv 0 (d := 4) (.iface 186 (.agg #[.pointer (some ⟨rb, 0, none⟩)])) (IsVal.of_run rfl fun w => (by kernel_rfl)) (by kernel_rfl) ?_
  refine z_mv 1 (d := 5) (.pointer (some ⟨cb, o, none⟩)) (IsVal.of_run rfl fun w => (by kernel_rfl)) (by kernel_rfl) ?_
  refine z_mv 2 (d := 6) (.pointer (some ⟨cb, o, none⟩)) (IsVal.of_run rfl fun w => (by kernel_rfl)) (by kernel_rfl) ?_
  refine z_mv 3 (d := 7) (.pointer (some ⟨cb, o, none⟩)) (IsVal.of_run rfl fun w => (by kernel_rfl)) (by kernel_rfl) ?_
  refine z_mv 4 (d := 8) (.func (.method "Number32") #[.iface 186 (.agg #[.pointer (some ⟨rb, 0, none⟩)])] #[]) (IsVal.of_run rfl fun w => (by kernel_rfl)) (by kernel_rfl) ?_
  refine z_mv 5 (d := 9) (.func (.method "Number32") #[.iface 186 (.agg #[.pointer (some ⟨rb, 0, none⟩)])] #[]) (IsVal.of_run rfl fun w => (by kernel_rfl)) (by kernel_rfl) ?_
  refine z_mv 6 (d := 10) (.iface 186 (.agg #[.pointer (some ⟨rb, 0, none⟩)])) (IsVal.of_run rfl fun w => (by kernel_rfl)) (by kernel_rfl) ?_
  refine z_op 7 rfl fun a w Z H => ?_
  refine op_call (d := 11) H (by kernel_rfl) rfl (in_number rb r cb _ _ o (by first | omega | (apply set_lt; omega)) ((H.sat.frontZ 1 rfl).frontZ 1 rfl)) fun a v w q F => ?_
  obtain ⟨x_1, x_2, hf1, hf2, X⟩ := q
  have H := St.mk F X
  refine z_on (rdrR R rb x_2 :: blkC cb ((cs).setIfInBounds o (.int .u32 x_1)) T :: L) H (fun w Z X => X.mskZ [false, false] (by kernel_rfl)) (by kernel_rfl) ?_
  refine z_end [] fun a w H => ?_
  refine st_floatsM [false, false] [.mv 0, .mv 1, .mv 2, .mv 3, .mv 4, .mv 5, .mv 6, .op 7] rfl (by kernel_rfl) (by kernel_rfl) (by kernel_rfl) H ?_
  refine z_mv 0 (d := 12) (.iface 186 (.agg #[.pointer (some ⟨rb, 0, none⟩)])) (IsVal.of_run rfl fun w => (by kernel_rfl)) (by kernel_rfl) ?_
  refine z_mv 1 (d := 13) (.pointer (some ⟨cb, o, none⟩)) (IsVal.of_run rfl fun w => (by kernel_rfl)) (by kernel_rfl) ?_
  refine z_mv 2 (d := 14) (.pointer (some ⟨cb, o, none⟩)) (IsVal.of_run rfl fun w => (by kernel_rfl)) (by kernel_rfl) ?_
  refine z_mv 3 (d := 15) (.pointer (some ⟨cb, o + 1, none⟩)) (IsVal.of_run rfl fun w => (by kernel_rfl)) (by kernel_rfl) ?_
  refine z_mv 4 (d := 16) (.func (.method "Number32") #[.iface 186 (.agg #[.pointer (some ⟨rb, 0, none⟩)])] #[]) (IsVal.of_run rfl fun w => (by kernel_rfl)) (by kernel_rfl) ?_
  refine z_mv 5 (d := 17) (.func (.method "Number32") #[.iface 186 (.agg #[.pointer (some ⟨rb, 0, none⟩)])] #[]) (IsVal.of_run rfl fun w => (by kernel_rfl)) (by kernel_rfl) ?_
  refine z_mv 6 (d := 18) (.iface 186 (.agg #[.pointer (some ⟨rb, 0, none⟩)])) (IsVal.of_run rfl fun w => (by kernel_rfl)) (by kernel_rfl) ?_
  refine z_op 7 rfl fun a w Z H => ?_
  refine op_call (d := 19) H (by kernel_rfl) rfl (in_number rb x_2 cb _ _ (o + 1) (by first | omega | (apply set_lt; omega)) ((H.sat.frontZ 1 rfl).frontZ 1 rfl)) fun a v w q F => ?_
  obtain ⟨x_3, x_4, hf3, hf4, X⟩ := q
  have H := St.mk F X
  refine z_on (rdrR R rb x_4 :: blkC cb (((cs).setIfInBounds o (.int .u32 x_1)).setIfInBounds (o + 1) (.int .u32 x_3)) T :: L) H (fun w Z X => X.mskZ [false, false] (by kernel_rfl)) (by kernel_rfl) ?_
  refine z_end [] fun a w H => ?_
  refine st_end (vs := []) H Tryd.func159 rfl (.nil) ?_
  have X := ((H.sat.front 1 rfl).front 1 rfl)
  exact ⟨_, _, _, _, hf1, hf2, hf3, hf4, X⟩

/-- wharfage/call.octets -/
theorem out_octets {e w : World} {R : Hp} {L : List HP} (wb : Nat) (bs : List UInt8) (cb : Nat) (cs : Array Value) (T : Nat) (o : Nat) (A : Option Addr) (cap : Nat) (ys : List UInt8) (hb : bs.length ≤ 90000000) (hr : RdB R A cap ys) (hy : ys.length ≤ 4294967295) (hc : cs[o]? = some (.slice A ys.length cap)) (X : Sat e w R (wrR wb bs :: blkC cb cs T :: L)) :
    Calls Tryd.prog 161 #[.iface 178 (.agg #[.pointer (some ⟨wb, 0, none⟩)]), .pointer (some ⟨cb, o, none⟩)] w (Ret fun v w' => Sat e w' R (wrR wb (bs ++ laid ys) :: blkC cb cs T :: L)) := by
  refine enter (n := 24) (args := [.iface 178 (.agg #[.pointer (some ⟨wb, 0, none⟩)]), .pointer (some ⟨cb, o, none⟩)]) Tryd.func161 rfl rfl rfl X (fun a H => ?_)
  refine WK.seq ?_
  refine st_text 1 rfl ?_
  refine st_run 0 1 0 [(6, .iface 178 (.agg #[.pointer (some ⟨wb, 0, none⟩)]))] H (by kernel_rfl) fun a H => ?_
  refine ops_end _ ?_
  refine WK.block ?_
  refine WK.seq ?_
  refine st_text 3 rfl ?_
  refine st_run 0 3 0 [(9, .agg #[.pointer (some ⟨wb, 0, none⟩)]), (8, .bool true), (7, .tuple #[.agg #[.pointer (some ⟨wb, 0, none⟩)], .bool true])] H (by kernel_rfl) fun a H => ?_
  refine ops_end _ ?_
  refine st_true H (by kernel_rfl) ?_
  refine WK.seq ?_
  refine st_text 2 rfl ?_
  refine st_op 0 1 (op_new (d := 4) (vf := fun b => .pointer (some ⟨b, 0, none⟩)) (ob := .cells #[.pointer none] 178) H (IsNew.of_run rfl fun w => (by kernel_rfl)) fun a w b1 H => ?_)
  refine st_op 1 0 (op_store (k := 0) (t := 178) (off := 0) (v := .agg #[.pointer (some ⟨wb, 0, none⟩)]) H rfl (by kernel_rfl) (by kernel_rfl) fun a w H => ?_)
  refine ops_end _ ?_
  refine st_floatsM [true, false, true] [.mv 0, .tk 1, .mv 2, .mv 3, .tk 4, .op 5] rfl (by kernel_rfl) (by kernel_rfl) (by kernel_rfl) H ?_
  refine z_mv 0 (d := 10) (.pointer (some ⟨b1, 0, none⟩)) (IsVal.of_run rfl fun w => (by kernel_rfl)) (by kernel_rfl) ?_
  refine z_tk 1 (d := 11) (.pointer (some ⟨wb, 0, none⟩)) (val_ld (k := 0) (t := 171) (off := 0) rfl (by kernel_rfl) rfl (by kernel_rfl)) (by kernel_rfl) ?_
  refine z_mv 2 (d := 12) (.pointer (some ⟨cb, o, none⟩)) (IsVal.of_run rfl fun w => (by kernel_rfl)) (by kernel_rfl) ?_
  refine z_mv 3 (d := 13) (.pointer (some ⟨cb, o, none⟩)) (IsVal.of_run rfl fun w => (by kernel_rfl)) (by kernel_rfl) ?_
  refine z_tk 4 (d := 14) (.slice A ys.length cap) (val_ld (k := 1) (t := 26) (off := o) rfl (by kernel_rfl) rfl (loadF_at rfl hc)) (by kernel_rfl) ?_
  refine z_op 5 rfl fun a w Z H => ?_
  refine op_call (d := 15) H (by kernel_rfl) rfl (wr_bytes wb bs ys A cap (by first | assumption | omega) (by first | assumption | omega) (by first | assumption | omega | (simp only [List.length_append, be_length, List.length_replicate, List.length_nil, List.length_cons]; omega)) (H.sat.frontZ 1 rfl)) fun a v w q F => ?_
  have X := q
  have H := St.mk F X
  refine z_on (wrR wb (bs ++ laid ys) :: blk b1 (.cells #[.pointer (some ⟨wb, 0, none⟩)] 178) :: blkC cb cs T :: L) H (fun w Z X => X.mskZ [false, true, true] (by kernel_rfl)) (by kernel_rfl) ?_
  refine z_end [] fun a w H => ?_
  refine WK.inBlock ?_
  refine st_end (vs := []) H Tryd.func161 rfl (.nil) ?_
  have X := (((H.sat.msk [true, false, true]).front 1 rfl).front 1 rfl)
  exact X

/-- wharfage/call.octets -/
theorem in_octets {e w : World} {R : Hp} {L : List HP} (rb : Nat) (r : Rdr) (cb : Nat) (cs : Array Value) (T : Nat) (o : Nat) (hc : o < cs.size) (X : Sat e w R (rdrR R rb r :: blkC cb cs T :: L)) :
    Calls Tryd.prog 161 #[.iface 186 (.agg #[.pointer (some ⟨rb, 0, none⟩)]), .pointer (some ⟨cb, o, none⟩)] w (Ret fun v w' => ∃ R', R.Le R' ∧ ∃ ys : List UInt8, ∃ r1 : Rdr, ∃ A1 : Option Addr, ∃ c1 : Nat, (r.bytes 4096 = (ys, r1)) ∧ (RdB R' A1 c1 ys) ∧ Sat e w' R' (rdrR R' rb r1 :: blkC cb ((cs).setIfInBounds o (.slice A1 ys.length c1)) T :: L)) := by
  refine enter (n := 24) (args := [.iface 186 (.agg #[.pointer (some ⟨rb, 0, none⟩)]), .pointer (some ⟨cb, o, none⟩)]) Tryd.func161 rfl rfl rfl X (fun a H => ?_)
  refine WK.seq ?_
  refine st_text 1 rfl ?_
  refine st_run 0 1 0 [(6, .iface 186 (.agg #[.pointer (some ⟨rb, 0, none⟩)]))] H (by kernel_rfl) fun a H => ?_
  refine ops_end _ ?_
  refine WK.block ?_
  refine WK.seq ?_
  refine st_text 3 rfl ?_
  refine st_run 0 3 0 [(9, .agg #[.pointer none]), (8, .bool false), (7, .tuple #[.agg #[.pointer none], .bool false])] H (by kernel_rfl) fun a H => ?_
  refine ops_end _ ?_
  refine st_false H (by kernel_rfl) ?_
  refine WK.seq ?_
  refine st_text 3 rfl ?_
  refine st_run 0 3 0 [(18, .agg #[.pointer (some ⟨rb, 0, none⟩)]), (17, .bool true), (16, .tuple #[.agg #[.pointer (some ⟨rb, 0, none⟩)], .bool true])] H (by kernel_rfl) fun a H => ?_
  refine ops_end _ ?_
  refine st_true H (by kernel_rfl) ?_
  refine WK.seq ?_
  refine st_text 2 rfl ?_
  refine st_op 0 1 (op_new (d := 5) (vf := fun b => .pointer (some ⟨b, 0, none⟩)) (ob := .cells #[.pointer none] 186) H (IsNew.of_run rfl fun w => (by kernel_rfl)) fun a w b1 H => ?_)
  refine st_op 1 0 (op_store (k := 0) (t := 186) (off := 0) (v := .agg #[.pointer (some ⟨rb, 0, none⟩)]) H rfl (by kernel_rfl) (by kernel_rfl) fun a w H => ?_)
  refine ops_end _ ?_
  refine st_text 6 rfl ?_
  refine st_run 0 2 4 [(20, .pointer (some ⟨b1, 0, none⟩)), (19, .pointer (some ⟨cb, o, none⟩))] H (by kernel_rfl) fun a H => ?_
  refine st_op 2 3 (op_val (d := 21) (v := .pointer (some ⟨rb, 0, none⟩)) H (val_ld (k := 0) (t := 181) (off := 0) rfl (by kernel_rfl) rfl (by kernel_rfl)) fun a H => ?_)
  refine st_op 3 2 (op_call (d := 22) H (by kernel_rfl) rfl (rd_bytes rb r 4096 (by first | assumption | omega) (H.sat.front 1 rfl)) fun a v w q F => ?_)
  obtain ⟨R1, hle, x_1, x_2, X_1, x_3, hf1, hf2, rfl, X⟩ := q
  have H := St.mk F X
  have hleR1 := hle
  refine st_run 4 1 1 [(23, .pointer (some ⟨cb, o, none⟩))] H (by kernel_rfl) fun a H => ?_
  refine st_op 5 0 (op_storeC (k := 2) (t := 26) (off := o) (v := .slice X_1 x_1.length x_3) H rfl (by kernel_rfl) rfl rfl rfl (hc) fun a w H => ?_)
  refine ops_end _ ?_
  refine WK.inBlock ?_
  refine st_end (vs := []) H Tryd.func161 rfl (.nil) ?_
  have X := (((H.sat.msk [true, false, true]).front 1 rfl).front 1 rfl)
  exact ⟨R1, hleR1, _, _, _, _, hf1, hf2, X⟩

/-- wharfage/call.text -/
theorem out_text {e w : World} {R : Hp} {L : List HP} (wb : Nat) (bs : List UInt8) (cb : Nat) (cs : Array Value) (T : Nat) (o : Nat) (s : ByteArray) (hb : bs.length ≤ 80000000) (hy : s.size ≤ 1000000) (hc : cs[o]? = some (.string s)) (X : Sat e w R (wrR wb bs :: blkC cb cs T :: L)) :
    Calls Tryd.prog 160 #[.iface 178 (.agg #[.pointer (some ⟨wb, 0, none⟩)]), .pointer (some ⟨cb, o, none⟩)] w (Ret fun v w' => Sat e w' R (wrR wb (bs ++ laid (txt s)) :: blkC cb ((cs).setIfInBounds o (.string s)) T :: L)) := by
  have hts : (txt s).length = s.size := Array.length_toList (xs := s.data)
  refine enter (n := 15) (args := [.iface 178 (.agg #[.pointer (some ⟨wb, 0, none⟩)]), .pointer (some ⟨cb, o, none⟩)]) Tryd.func160 rfl rfl rfl X (fun a H => ?_)
  refine WK.seq ?_
  refine st_text 6 rfl ?_
  refine st_run 0 2 4 [(6, .pointer (some ⟨cb, o, none⟩)), (5, .pointer (some ⟨cb, o, none⟩))] H (by kernel_rfl) fun a H => ?_
  refine st_op 2 3 (op_val (d := 7) (v := .string s) H (val_ld (k := 1) (t := 9) (off := o) rfl (by kernel_rfl) rfl (loadF_at rfl hc)) fun a H => ?_)
  refine st_op 3 2 (op_strBytes (d := 8) (src := 9) (dst := 26) (s := s) H (by kernel_rfl) rfl rfl rfl rfl (by simp only [maxLen]; omega) fun a w R1 A1 c1 hle hr_1 H => ?_)
  have hleR1 := hle
  refine st_op 4 1 (op_new (d := 4) (vf := fun b => .pointer (some ⟨b, 0, none⟩)) (ob := .cells #[.slice none 0 0] 26) H (IsNew.of_run rfl fun w => (by kernel_rfl)) fun a w b1 H => ?_)
  refine st_op 5 0 (op_store (k := 0) (t := 26) (off := 0) (v := .slice A1 ((txt s).length) c1) H rfl (by kernel_rfl) (by kernel_rfl) fun a w H => ?_)
  refine ops_end _ ?_
  refine WK.seq ?_
  refine st_text 2 rfl ?_
  refine st_run 0 1 1 [(9, .iface 178 (.agg #[.pointer (some ⟨wb, 0, none⟩)]))] H (by kernel_rfl) fun a H => ?_
  refine st_op 1 0 (op_call (d := 10) H (by kernel_rfl) rfl (out_octets wb bs b1 _ _ 0 A1 c1 (txt s) (by first | assumption | omega | (simp only [List.length_append, be_length, List.length_replicate, List.length_nil, List.length_cons]; omega)) (by first | assumption | omega) (by first | assumption | omega) (by kernel_rfl) (H.sat.front 1 rfl)) fun a v w q F => ?_)
  have X := q
  have H := St.mk F X
  refine ops_end _ ?_
  refine st_text 5 rfl ?_
  refine st_run 0 1 4 [(11, .pointer (some ⟨cb, o, none⟩))] H (by kernel_rfl) fun a H => ?_
  refine st_op 1 3 (op_val (d := 12) (v := .slice A1 ((txt s).length) c1) H (val_ld (k := 1) (t := 26) (off := 0) rfl (by kernel_rfl) rfl (by kernel_rfl)) fun a H => ?_)
  refine st_op 2 2 (op_val (d := 13) (v := .string (strB (txt s))) H (val_str hr_1 (src := 26) (dst := 9) (by kernel_rfl) rfl rfl rfl rfl) fun a H => ?_)
  refine st_run 3 1 1 [(14, .pointer (some ⟨cb, o, none⟩))] H (by kernel_rfl) fun a H => ?_
  refine st_op 4 0 (op_storeC (k := 2) (t := 9) (off := o) (v := .string (strB (txt s))) H rfl (by kernel_rfl) rfl rfl rfl (get_lt hc) fun a w H => ?_)
  refine ops_end _ ?_
  refine st_end (vs := []) H Tryd.func160 rfl (.nil) ?_
  have X := ((((H.sat.msk [true, false, true]).front 1 rfl).front 1 rfl).le hleR1)
  exact X

/-- wharfage/call.text -/
theorem in_text {e w : World} {R : Hp} {L : List HP} (rb : Nat) (r : Rdr) (cb : Nat) (cs : Array Value) (T : Nat) (o : Nat) (s : ByteArray) (hy : s.size ≤ 1000000) (hc : cs[o]? = some (.string s)) (X : Sat e w R (rdrR R rb r :: blkC cb cs T :: L)) :
    Calls Tryd.prog 160 #[.iface 186 (.agg #[.pointer (some ⟨rb, 0, none⟩)]), .pointer (some ⟨cb, o, none⟩)] w (Ret fun v w' => ∃ R', R.Le R' ∧ ∃ ys : List UInt8, ∃ r1 : Rdr, (r.bytes 4096 = (ys, r1)) ∧ Sat e w' R' (rdrR R' rb r1 :: blkC cb ((cs).setIfInBounds o (.string (strB ys))) T :: L)) := by
  refine enter (n := 15) (args := [.iface 186 (.agg #[.pointer (some ⟨rb, 0, none⟩)]), .pointer (some ⟨cb, o, none⟩)]) Tryd.func160 rfl rfl rfl X (fun a H => ?_)
  refine WK.seq ?_
  refine st_text 6 rfl ?_
  refine st_run 0 2 4 [(6, .pointer (some ⟨cb, o, none⟩)), (5, .pointer (some ⟨cb, o, none⟩))] H (by kernel_rfl) fun a H => ?_
  refine st_op 2 3 (op_val (d := 7) (v := .string s) H (val_ld (k := 1) (t := 9) (off := o) rfl (by kernel_rfl) rfl (loadF_at rfl hc)) fun a H => ?_)
  refine st_op 3 2 (op_strBytes (d := 8) (src := 9) (dst := 26) (s := s) H (by kernel_rfl) rfl rfl rfl rfl (by simp only [maxLen]; omega) fun a w R1 A1 c1 hle hr_1 H => ?_)
  have H := St.mk H.sl ((H.sat).head (rdrR_grow hle))
  have hleR1 := hle
  refine st_op 4 1 (op_new (d := 4) (vf := fun b => .pointer (some ⟨b, 0, none⟩)) (ob := .cells #[.slice none 0 0] 26) H (IsNew.of_run rfl fun w => (by kernel_rfl)) fun a w b1 H => ?_)
  refine st_op 5 0 (op_store (k := 0) (t := 26) (off := 0) (v := .slice A1 ((txt s).length) c1) H rfl (by kernel_rfl) (by kernel_rfl) fun a w H => ?_)
  refine ops_end _ ?_
  refine WK.seq ?_
  refine st_text 2 rfl ?_
  refine st_run 0 1 1 [(9, .iface 186 (.agg #[.pointer (some ⟨rb, 0, none⟩)]))] H (by kernel_rfl) fun a H => ?_
  refine st_op 1 0 (op_call (d := 10) H (by kernel_rfl) rfl (in_octets rb r b1 _ _ 0 (by rw [putL_size]; exact Nat.zero_lt_one) (H.sat.front 1 rfl)) fun a v w q F => ?_)
  obtain ⟨R2, hle, x_1, x_2, X_1, x_3, hf1, hf2, X⟩ := q
  have H := St.mk F X
  have hr_1 := hr_1.grow hle
  have hleR2 := hleR1.trans hle
  refine ops_end _ ?_
  refine st_text 5 rfl ?_
  refine st_run 0 1 4 [(11, .pointer (some ⟨cb, o, none⟩))] H (by kernel_rfl) fun a H => ?_
  refine st_op 1 3 (op_val (d := 12) (v := .slice X_1 x_1.length x_3) H (val_ld (k := 1) (t := 26) (off := 0) rfl (by kernel_rfl) rfl (by kernel_rfl)) fun a H => ?_)
  refine st_op 2 2 (op_val (d := 13) (v := .string (strB x_1)) H (val_str hf2 (src := 26) (dst := 9) (by kernel_rfl) rfl rfl rfl rfl) fun a H => ?_)
  refine st_run 3 1 1 [(14, .pointer (some ⟨cb, o, none⟩))] H (by kernel_rfl) fun a H => ?_
  refine st_op 4 0 (op_storeC (k := 2) (t := 9) (off := o) (v := .string (strB x_1)) H rfl (by kernel_rfl) rfl rfl rfl (get_lt hc) fun a w H => ?_)
  refine ops_end _ ?_
  refine st_end (vs := []) H Tryd.func160 rfl (.nil) ?_
  have X := (((H.sat.msk [true, false, true]).front 1 rfl).front 1 rfl)
  exact ⟨R2, hleR2, _, _, hf1, X⟩
end Go.Proofs.YtldnpolfcickaaaDoor
