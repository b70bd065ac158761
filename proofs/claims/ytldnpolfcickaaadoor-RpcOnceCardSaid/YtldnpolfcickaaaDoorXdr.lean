/- Numbers as bytes. -/
import Derived.Test.YtldnpolfcickaaaDoorNum
set_option linter.unusedVariables false
set_option linter.unusedSimpArgs false
set_option maxRecDepth 100000
set_option maxHeartbeats 1000000
namespace Go.Proofs.YtldnpolfcickaaaDoor
open Go Go.WH

def wrR (b : Nat) (bs : List UInt8) : HP := hex fun (p : Option Addr × Nat) => star (blk b (.cells #[.slice p.1 bs.length p.2] 173 (0, 0))) (bytesO 5 p.1 p.2 bs)
theorem wrR_open {e w : World} {R : Hp} {L : List HP} {b : Nat} {bs : List UInt8} (X : Sat e w R (wrR b bs :: L)) : ∃ A c, Sat e w R (blk b (.cells #[.slice A bs.length c] 173 (0, 0)) :: bytesO 5 A c bs :: L) := by
  obtain ⟨p, X⟩ := X.open_
  exact ⟨p.1, p.2, X.split⟩
theorem wrR_shut {e w : World} {R : Hp} {L : List HP} {b : Nat} {bs : List UInt8} {A : Option Addr} {c : Nat} (X : Sat e w R (blk b (.cells #[.slice A bs.length c] 173 (0, 0)) :: bytesO 5 A c bs :: L)) : Sat e w R (wrR b bs :: L) := X.join.shut (A, c)
def rdrR (R : Hp) (b : Nat) (r : Rdr) : HP := hex fun (p : Option Addr × Nat) => star (pur (RdB R p.1 p.2 r.left)) (blk b (.cells #[.slice p.1 r.left.length p.2, .int .i64 r.e, .bool true] 241 (0, 0)))
theorem rdrR_open {e w : World} {R R0 : Hp} {L : List HP} {b : Nat} {r : Rdr} (X : Sat e w R (rdrR R0 b r :: L)) : ∃ A c, RdB R0 A c r.left ∧ Sat e w R (blk b (.cells #[.slice A r.left.length c, .int .i64 r.e, .bool true] 241 (0, 0)) :: L) := by
  obtain ⟨p, X⟩ := X.open_
  exact ⟨p.1, p.2, X.starpure⟩
theorem rdrR_shut {e w : World} {R R0 : Hp} {L : List HP} {b : Nat} {r : Rdr} {A : Option Addr} {c : Nat} (hr : RdB R0 A c r.left) (X : Sat e w R (blk b (.cells #[.slice A r.left.length c, .int .i64 r.e, .bool true] 241 (0, 0)) :: L)) : Sat e w R (rdrR R0 b r :: L) :=
  (X.mkstarpure hr).shut (A, c)
theorem rdrR_grow {R R' : Hp} {b : Nat} {r : Rdr} (h : R.Le R') : ∀ x, rdrR R b r x → rdrR R' b r x := by
  rintro x ⟨p, y, z, d, rfl, ⟨hr, rfl⟩, hz⟩
  exact ⟨p, _, z, d, rfl, ⟨hr.grow h, rfl⟩, hz⟩

/-- slices.Clone[[]byte,byte] -/
theorem clone_some {e w : World} {R : Hp} {L : List HP} (ad : Addr) (cap : Nat) (bs : List UInt8) (hr : RdB R (some ad) cap bs) (hb : bs.length ≤ 140737488355328) (X : Sat e w R (L)) :
    Calls Tryd.prog 50 #[.slice (some ad) bs.length cap] w (Ret fun v w' => ∃ A1 : Option Addr, ∃ c1 : Nat, v = .slice A1 bs.length c1 ∧ Sat e w' R (bytesO 5 A1 c1 bs :: L)) := by
  refine enter (n := 8) (args := [.slice (some ad) bs.length cap]) Tryd.func50 rfl rfl rfl X (fun a H => ?_)
  refine WK.seq ?_
  refine st_text 1 rfl ?_
  refine st_run 0 1 0 [(2, .slice none 0 0)] H (by kernel_rfl) fun a H => ?_
  refine ops_end _ ?_
  refine WK.seq ?_
  refine WK.seq ?_
  refine st_text 2 rfl ?_
  refine st_run 0 2 0 [(4, .bool false), (3, .slice (some ad) bs.length cap)] H (by kernel_rfl) fun a H => ?_
  refine ops_end _ ?_
  refine st_false H (by kernel_rfl) ?_
  refine WK.skip ?_
  refine WK.seq ?_
  refine st_text 4 rfl ?_
  refine st_op 0 3 (op_new (d := 5) (vf := fun b => .slice (some ⟨b, 0, none⟩) 0 0) (ob := .cells #[] 5) H (IsNew.of_run rfl fun w => (by kernel_rfl)) fun a w b1 H => ?_)
  refine st_run 1 1 2 [(6, .slice (some ad) bs.length cap)] H (by kernel_rfl) fun a H => ?_
  have H := H.with (Sat.arr_bytes (s := 0) (bs := []) H.sat rfl (by simp only [maxLen]; omega))
  refine st_op 2 1 (op_appendB (d := 7) (t := 26) (A1 := (some ⟨b1, 0, none⟩)) (c1 := 0) (bs := ([])) (z := .int .u8 0) (bytes := 1) H hr (by kernel_rfl) rfl rfl rfl rfl rfl (by simp; omega) fun a w A1 c1 H => ?_)
  have H : St _ _ _ _ _ ((7, .slice A1 (bs).length c1) :: _) (bytesO 5 A1 c1 (bs) :: _) := H
  refine st_run 3 1 0 [(2, .slice A1 ((bs).length) c1)] H (by kernel_rfl) fun a H => ?_
  refine ops_end _ ?_
  refine st_ret (vs := [.slice A1 ((bs).length) c1]) H Tryd.func50 rfl (.tmp (by kernel_rfl) (.nil)) ?_
  have X := H.sat
  exact ⟨_, _, rfl, X⟩

/-- slices.Clone[[]byte,byte] -/
theorem clone_none {e w : World} {R : Hp} {L : List HP} (cap : Nat) (X : Sat e w R (L)) :
    Calls Tryd.prog 50 #[.slice none 0 cap] w (Ret fun v w' => ∃ A1 : Option Addr, ∃ c1 : Nat, v = .slice A1 (([] : List UInt8).length) c1 ∧ Sat e w' R (bytesO 5 A1 c1 ([] : List UInt8) :: L)) := by
  refine enter (n := 8) (args := [.slice none 0 cap]) Tryd.func50 rfl rfl rfl X (fun a H => ?_)
  refine WK.seq ?_
  refine st_text 1 rfl ?_
  refine st_run 0 1 0 [(2, .slice none 0 0)] H (by kernel_rfl) fun a H => ?_
  refine ops_end _ ?_
  refine WK.seq ?_
  refine WK.seq ?_
  refine st_text 2 rfl ?_
  refine st_run 0 2 0 [(4, .bool true), (3, .slice none 0 cap)] H (by kernel_rfl) fun a H => ?_
  refine ops_end _ ?_
  refine st_true H (by kernel_rfl) ?_
  refine WK.seq ?_
  refine st_text 1 rfl ?_
  refine st_run 0 1 0 [(2, .slice none 0 0)] H (by kernel_rfl) fun a H => ?_
  refine ops_end _ ?_
  refine st_ret (vs := [.slice none 0 0]) H Tryd.func50 rfl (.tmp (by kernel_rfl) (.nil)) ?_
  have X := H.sat
  have X := X.nil_bytes 5
  exact ⟨_, _, rfl, X⟩

theorem clone_bytes {e w : World} {R : Hp} {L : List HP} (A : Option Addr) (cap : Nat) (bs : List UInt8) (hr : RdB R A cap bs) (hb : bs.length ≤ 140737488355328) (X : Sat e w R (L)) :
    Calls Tryd.prog 50 #[.slice A bs.length cap] w (Ret fun v w' => ∃ A1 : Option Addr, ∃ c1 : Nat, v = .slice A1 bs.length c1 ∧ Sat e w' R (bytesO 5 A1 c1 bs :: L)) := by
  cases A with
  | none =>
    have hn : bs = [] := by
      rcases Nat.eq_zero_or_pos bs.length with h | h
      · exact List.eq_nil_of_length_eq_zero h
      · obtain ⟨b, off, h⟩ := hr.addr h; cases h
    subst hn
    exact clone_none cap X
  | some ad => exact clone_some ad cap bs hr hb X

/-- bytes.Equal -/
theorem bytes_equal {e w : World} {R : Hp} {L : List HP} (A : Option Addr) (B : Option Addr) (ca : Nat) (cb : Nat) (xs : List UInt8) (ys : List UInt8) (hx : RdB R A ca xs) (hy : RdB R B cb ys) (X : Sat e w R (L)) :
    Calls Tryd.prog 51 #[.slice A xs.length ca, .slice B ys.length cb] w (Ret fun v w' => v = .bool (xs == ys) ∧ Sat e w' R (L)) := by
  refine enter (n := 10) (args := [.slice A xs.length ca, .slice B ys.length cb]) Tryd.func51 rfl rfl rfl X (fun a H => ?_)
  refine WK.seq ?_
  refine st_text 1 rfl ?_
  refine st_run 0 1 0 [(4, .bool false)] H (by kernel_rfl) fun a H => ?_
  refine ops_end _ ?_
  refine WK.seq ?_
  refine st_text 6 rfl ?_
  refine st_run 0 1 5 [(5, .slice A xs.length ca)] H (by kernel_rfl) fun a H => ?_
  refine st_op 1 4 (op_val (d := 6) (v := .string (strB xs)) H (val_str hx (src := 26) (dst := 9) (by kernel_rfl) rfl rfl rfl rfl) fun a H => ?_)
  refine st_run 2 1 3 [(7, .slice B ys.length cb)] H (by kernel_rfl) fun a H => ?_
  refine st_op 3 2 (op_val (d := 8) (v := .string (strB ys)) H (val_str hy (src := 26) (dst := 9) (by kernel_rfl) rfl rfl rfl rfl) fun a H => ?_)
  refine st_run 4 2 0 [(4, .bool ((strB xs).toList == (strB ys).toList)), (9, .bool ((strB xs).toList == (strB ys).toList))] H (by kernel_rfl) fun a H => ?_
  refine ops_end _ ?_
  refine st_ret (vs := [.bool ((strB xs).toList == (strB ys).toList)]) H Tryd.func51 rfl (.tmp (by kernel_rfl) (.nil)) ?_
  have X := H.sat
  exact ⟨(congrArg Value.bool (strB_beq xs ys)), X⟩

/-- (*wharfage/xdr.Writer).lay -/
theorem wr_lay {e w : World} {R : Hp} {L : List HP} (b : Nat) (bs : List UInt8) (ys : List UInt8) (A : Option Addr) (cap : Nat) (hr : RdB R A cap ys) (hb : bs.length + ys.length ≤ 140737488355328) (X : Sat e w R (wrR b bs :: L)) :
    Calls Tryd.prog 186 #[.pointer (some ⟨b, 0, none⟩), .slice A ys.length cap] w (Ret fun v w' => Sat e w' R (wrR b (bs ++ ys) :: L)) := by
  obtain ⟨A0, c0, X⟩ := wrR_open X
  refine enter (n := 15) (args := [.pointer (some ⟨b, 0, none⟩), .slice A ys.length cap]) Tryd.func186 rfl rfl rfl X (fun a H => ?_)
  refine WK.seq ?_
  refine st_text 2 rfl ?_
  refine st_run 0 2 0 [(5, .bool true), (4, .pointer (some ⟨b, 0, none⟩))] H (by kernel_rfl) fun a H => ?_
  refine ops_end _ ?_
  refine st_true H (by kernel_rfl) ?_
  refine st_text 10 rfl ?_
  refine st_run 0 4 6 [(9, .pointer (some ⟨b, 0, none⟩)), (8, .pointer (some ⟨b, 0, none⟩)), (7, .pointer (some ⟨b, 0, none⟩)), (6, .pointer (some ⟨b, 0, none⟩))] H (by kernel_rfl) fun a H => ?_
  refine st_op 4 5 (op_val (d := 10) (v := .slice A0 bs.length c0) H (val_ld (k := 0) (t := 26) (off := 0) rfl (by kernel_rfl) rfl (by kernel_rfl)) fun a H => ?_)
  refine st_run 5 1 4 [(11, .slice A ys.length cap)] H (by kernel_rfl) fun a H => ?_
  have H := H.with (H.sat.front 1 rfl)
  refine st_op 6 3 (op_appendB (d := 12) (t := 26) (A1 := A0) (c1 := c0) (bs := bs) (z := .int .u8 0) (bytes := 1) H hr (by kernel_rfl) rfl rfl rfl rfl rfl (by omega) fun a w A1 c1 H => ?_)
  refine st_run 7 2 1 [(14, .pointer (some ⟨b, 0, none⟩)), (13, .pointer (some ⟨b, 0, none⟩))] H (by kernel_rfl) fun a H => ?_
  refine st_op 9 0 (op_store (k := 1) (t := 26) (off := 0) (v := .slice A1 (((bs) ++ (ys)).length) c1) H rfl (by kernel_rfl) (by kernel_rfl) fun a w H => ?_)
  refine ops_end _ ?_
  refine st_end (vs := []) H Tryd.func186 rfl (.nil) ?_
  have X : Sat e w R (blk b (.cells #[.slice A1 (((bs) ++ (ys)).length) c1] 173) :: bytesO 5 A1 c1 ((bs) ++ (ys)) :: L) := (H.sat.front 1 rfl)
  have X := wrR_shut X
  exact X

/-- (*wharfage/xdr.Writer).number -/
theorem wr_num {e w : World} {R : Hp} {L : List HP} (b : Nat) (bs : List UInt8) (n : Int) (s : Nat) (hs : s = 1 ∨ s = 2 ∨ s = 4 ∨ s = 8) (h0 : 0 ≤ n) (h1 : n ≤ 18446744073709551615) (h2 : n < 256 ^ s) (hb : bs.length ≤ 1000000000) (X : Sat e w R (wrR b bs :: L)) :
    Calls Tryd.prog 158 #[.pointer (some ⟨b, 0, none⟩), .int .u64 n, .int .i64 s] w (Ret fun v w' => Sat e w' R (wrR b (bs ++ be s n.toNat) :: L)) := by
  have hs8 : 1 ≤ s ∧ s ≤ 8 := by omega
  refine enter (n := 17) (args := [.pointer (some ⟨b, 0, none⟩), .int .u64 n, .int .i64 s]) Tryd.func158 rfl rfl rfl X (fun a H => ?_)
  refine WK.seq ?_
  refine st_text 8 rfl ?_
  refine st_run 0 2 6 [(10, .int .i64 s), (9, .int .u64 n)] H (by kernel_rfl) fun a H => ?_
  refine st_op 2 5 (op_call (d := 11) H (by kernel_rfl) rfl (num_put n s (by first | assumption | omega) (by first | assumption | omega) (by first | assumption | omega) (by first | assumption | (simp only [Nat.reducePow, Int.reducePow]; omega)) H.sat) fun a v w q F => ?_)
  obtain ⟨X_1, x_1, rfl, X⟩ := q
  have H := St.mk F X
  refine st_run 3 5 0 [(7, .int .i64 0), (6, .slice X_1 ((be s n.toNat).length) x_1), (13, .int .i64 0), (12, .slice X_1 ((be s n.toNat).length) x_1), (8, .tuple #[.slice X_1 ((be s n.toNat).length) x_1, .int .i64 0])] H (by kernel_rfl) fun a H => ?_
  refine ops_end _ ?_
  refine st_text 3 rfl ?_
  refine st_run 0 2 1 [(15, .slice X_1 ((be s n.toNat).length) x_1), (14, .pointer (some ⟨b, 0, none⟩))] H (by kernel_rfl) fun a H => ?_
  obtain ⟨R1, hle, hr_1, X⟩ := (H.sat.front 0 rfl).bytesO_fix
  have H := St.mk H.sl X
  have hleR1 := hle
  refine st_op 2 0 (op_call (d := 16) H (by kernel_rfl) rfl (wr_lay b bs (be s n.toNat) X_1 x_1 (by first | assumption | omega) (by first | assumption | omega | (simp only [List.length_append, be_length, List.length_replicate, List.length_nil]; omega)) H.sat) fun a v w q F => ?_)
  have X := q
  have H := St.mk F X
  refine ops_end _ ?_
  refine st_end (vs := []) H Tryd.func158 rfl (.nil) ?_
  have X := (H.sat.le hleR1)
  exact X

/-- (*wharfage/xdr.Writer).Number -/
theorem wr_number {e w : World} {R : Hp} {L : List HP} (b : Nat) (bs : List UInt8) (n : Int) (h0 : 0 ≤ n) (h1 : n ≤ 4294967295) (hb : bs.length ≤ 1000000000) (X : Sat e w R (wrR b bs :: L)) :
    Calls Tryd.prog 98 #[.pointer (some ⟨b, 0, none⟩), .int .u32 n] w (Ret fun v w' => Sat e w' R (wrR b (bs ++ be 4 n.toNat) :: L)) := by
  refine enter (n := 8) (args := [.pointer (some ⟨b, 0, none⟩), .int .u32 n]) Tryd.func98 rfl rfl rfl X (fun a H => ?_)
  refine st_text 4 rfl ?_
  refine st_run 0 3 1 [(6, .int .u64 (IntKind.u64.wrap (n))), (5, .int .u32 n), (4, .pointer (some ⟨b, 0, none⟩))] H (by kernel_rfl) fun a H => ?_
  have H := H.turn (d := 6) (u := .int .u64 (IntKind.u64.wrap (n))) (v := .int .u64 n) (wU64 (by omega) (by omega))
  refine st_op 3 0 (op_call (d := 7) H (by kernel_rfl) rfl (wr_num b bs n 4 (by first | assumption | omega) (by first | assumption | omega) (by first | assumption | omega) (by first | assumption | (simp only [Nat.reducePow, Int.reducePow]; omega)) (by first | assumption | omega | (simp only [List.length_append, be_length, List.length_replicate, List.length_nil, List.length_cons]; omega)) H.sat) fun a v w q F => ?_)
  have X := q
  have H := St.mk F X
  refine ops_end _ ?_
  refine st_end (vs := []) H Tryd.func98 rfl (.nil) ?_
  have X := H.sat
  exact X

/-- (*wharfage/xdr.Writer).Great -/
theorem wr_great {e w : World} {R : Hp} {L : List HP} (b : Nat) (bs : List UInt8) (n : Int) (h0 : 0 ≤ n) (h1 : n ≤ 18446744073709551615) (hb : bs.length ≤ 1000000000) (X : Sat e w R (wrR b bs :: L)) :
    Calls Tryd.prog 99 #[.pointer (some ⟨b, 0, none⟩), .int .u64 n] w (Ret fun v w' => Sat e w' R (wrR b (bs ++ be 8 n.toNat) :: L)) := by
  refine enter (n := 7) (args := [.pointer (some ⟨b, 0, none⟩), .int .u64 n]) Tryd.func99 rfl rfl rfl X (fun a H => ?_)
  refine st_text 3 rfl ?_
  refine st_run 0 2 1 [(5, .int .u64 n), (4, .pointer (some ⟨b, 0, none⟩))] H (by kernel_rfl) fun a H => ?_
  refine st_op 2 0 (op_call (d := 6) H (by kernel_rfl) rfl (wr_num b bs n 8 (by first | assumption | omega) (by first | assumption | omega) (by first | assumption | omega) (by first | assumption | (simp only [Nat.reducePow, Int.reducePow]; omega)) (by first | assumption | omega | (simp only [List.length_append, be_length, List.length_replicate, List.length_nil, List.length_cons]; omega)) H.sat) fun a v w q F => ?_)
  have X := q
  have H := St.mk F X
  refine ops_end _ ?_
  refine st_end (vs := []) H Tryd.func99 rfl (.nil) ?_
  have X := H.sat
  exact X

/-- (*wharfage/xdr.Writer).Bytes -/
theorem wr_bytes {e w : World} {R : Hp} {L : List HP} (b : Nat) (bs : List UInt8) (ys : List UInt8) (A : Option Addr) (cap : Nat) (hr : RdB R A cap ys) (hy : ys.length ≤ 4294967295) (hb : bs.length ≤ 100000000) (X : Sat e w R (wrR b bs :: L)) :
    Calls Tryd.prog 187 #[.pointer (some ⟨b, 0, none⟩), .slice A ys.length cap] w (Ret fun v w' => Sat e w' R (wrR b (bs ++ laid ys) :: L)) := by
  refine enter (n := 18) (args := [.pointer (some ⟨b, 0, none⟩), .slice A ys.length cap]) Tryd.func187 rfl rfl rfl X (fun a H => ?_)
  refine WK.seq ?_
  refine st_text 5 rfl ?_
  refine st_run 0 4 1 [(7, .int .u32 (IntKind.u32.wrap (((ys.length : Nat) : Int)))), (6, .int .i64 ((ys.length : Nat) : Int)), (5, .slice A ys.length cap), (4, .pointer (some ⟨b, 0, none⟩))] H (by kernel_rfl) fun a H => ?_
  have H := H.turn (d := 7) (u := .int .u32 (IntKind.u32.wrap (((ys.length : Nat) : Int)))) (v := .int .u32 ((ys.length : Nat) : Int)) (wU32 (by omega) (by omega))
  refine st_op 4 0 (op_call (d := 8) H (by kernel_rfl) rfl (wr_number b bs ((ys.length : Nat) : Int) (by first | assumption | omega) (by first | assumption | omega) (by first | assumption | omega | (simp only [List.length_append, be_length, List.length_replicate, List.length_nil, List.length_cons]; omega)) H.sat) fun a v w q F => ?_)
  have X := q
  have H := St.mk F X
  refine ops_end _ ?_
  refine WK.seq ?_
  refine st_text 3 rfl ?_
  refine st_run 0 2 1 [(10, .slice A ys.length cap), (9, .pointer (some ⟨b, 0, none⟩))] H (by kernel_rfl) fun a H => ?_
  refine st_op 2 0 (op_call (d := 11) H (by kernel_rfl) rfl (wr_lay b (bs ++ be 4 ((ys.length : Nat) : Int).toNat) ys A cap (by first | assumption | omega) (by first | assumption | omega | (simp only [List.length_append, be_length, List.length_replicate, List.length_nil]; omega)) H.sat) fun a v w q F => ?_)
  have X := q
  have H := St.mk F X
  refine ops_end _ ?_
  refine st_text 6 rfl ?_
  refine st_run 0 3 3 [(14, .int .i64 ((ys.length : Nat) : Int)), (13, .slice A ys.length cap), (12, .pointer (some ⟨b, 0, none⟩))] H (by kernel_rfl) fun a H => ?_
  refine st_op 3 2 (op_call (d := 15) H (by kernel_rfl) rfl (num_pad ((ys.length : Nat) : Int) (by first | assumption | omega) (by first | assumption | omega) H.sat) fun a v w q F => ?_)
  obtain ⟨rfl, X⟩ := q
  have H := St.mk F X
  have H := H.also (d := 15) (u := .int .i64 ((0 - ((ys.length : Nat) : Int)) % 4)) (v := .int .i64 ((((0 - (ys.length : Int)) % 4).toNat : Nat) : Int)) (by kernel_rfl) (by congr 1; omega)
  refine st_op 4 1 (op_make (m := ((0 - (ys.length : Int)) % 4).toNat) (bytes := 1) (d := 16) (t := 26) H (by kernel_rfl) rfl rfl rfl rfl (by omega) (by omega) fun a w b1 H => ?_)
  have H := H.arrAt (k := 0) (ys := bytesV (List.replicate ((0 - (ys.length : Int)) % 4).toNat 0)) rfl (by simp [bytesV, byteV])
  have H := H.with (H.sat.arr_bytes (s := ((0 - (ys.length : Int)) % 4).toNat) (by simp) (by simp only [maxLen]; omega))
  have H := H.turn (d := 16) (v := .slice (some ⟨b1, 0, none⟩) (List.replicate ((0 - (ys.length : Int)) % 4).toNat (0 : UInt8)).length ((0 - (ys.length : Int)) % 4).toNat) (by rw [List.length_replicate])
  obtain ⟨R1, hle, hr_1, X⟩ := (H.sat.front 0 rfl).bytesO_fix
  have H := St.mk H.sl X
  have hr := hr.grow hle
  have hleR1 := hle
  refine st_op 5 0 (op_call (d := 17) H (by kernel_rfl) rfl (wr_lay b ((bs ++ be 4 ((ys.length : Nat) : Int).toNat) ++ ys) (List.replicate ((0 - (ys.length : Int)) % 4).toNat (0 : UInt8)) (some ⟨b1, 0, none⟩) (((0 - (ys.length : Int)) % 4).toNat) (by first | assumption | omega) (by first | assumption | omega | (simp only [List.length_append, be_length, List.length_replicate, List.length_nil]; omega)) H.sat) fun a v w q F => ?_)
  have X := q
  have H := St.mk F X
  refine ops_end _ ?_
  refine st_end (vs := []) H Tryd.func187 rfl (.nil) ?_
  have X : Sat e w R (wrR b (((bs ++ be 4 ((ys.length : Nat) : Int).toNat) ++ ys) ++ (List.replicate ((0 - (ys.length : Int)) % 4).toNat (0 : UInt8))) :: L) := (H.sat.le hleR1)
  have X : Sat e w R (wrR b (bs ++ laid ys) :: L) := by simpa only [laid, List.append_assoc, Int.toNat_natCast] using X
  exact X

/-- (*wharfage/xdr.Writer).Bare -/
theorem wr_bare {e w : World} {R : Hp} {L : List HP} (b : Nat) (bs : List UInt8) (hb : bs.length ≤ 1000000000) (X : Sat e w R (wrR b bs :: L)) :
    Calls Tryd.prog 101 #[.pointer (some ⟨b, 0, none⟩)] w (Ret fun v w' => ∃ A1 : Option Addr, ∃ c1 : Nat, v = .slice A1 bs.length c1 ∧ Sat e w' R (bytesO 5 A1 c1 bs :: L)) := by
  obtain ⟨A0, c0, X⟩ := wrR_open X
  refine enter (n := 10) (args := [.pointer (some ⟨b, 0, none⟩)]) Tryd.func101 rfl rfl rfl X (fun a H => ?_)
  refine WK.seq ?_
  refine st_text 1 rfl ?_
  refine st_run 0 1 0 [(2, .slice none 0 0)] H (by kernel_rfl) fun a H => ?_
  refine ops_end _ ?_
  refine WK.seq ?_
  refine WK.seq ?_
  refine st_text 2 rfl ?_
  refine st_run 0 2 0 [(4, .bool false), (3, .pointer (some ⟨b, 0, none⟩))] H (by kernel_rfl) fun a H => ?_
  refine ops_end _ ?_
  refine st_false H (by kernel_rfl) ?_
  refine WK.skip ?_
  refine WK.seq ?_
  refine st_text 6 rfl ?_
  refine st_run 0 3 3 [(7, .pointer (some ⟨b, 0, none⟩)), (6, .pointer (some ⟨b, 0, none⟩)), (5, .pointer (some ⟨b, 0, none⟩))] H (by kernel_rfl) fun a H => ?_
  refine st_op 3 2 (op_val (d := 8) (v := .slice A0 bs.length c0) H (val_ld (k := 0) (t := 26) (off := 0) rfl (by kernel_rfl) rfl (by kernel_rfl)) fun a H => ?_)
  obtain ⟨R1, hle, hr_1, X⟩ := (H.sat.front 1 rfl).bytesO_fix
  have H := St.mk H.sl X
  have hleR1 := hle
  refine st_op 4 1 (op_call (d := 9) H (by kernel_rfl) rfl (clone_bytes A0 c0 bs (by first | assumption | omega) (by first | assumption | omega | (simp only [List.length_take, List.length_drop, List.length_append, be_length]; omega)) H.sat) fun a v w q F => ?_)
  obtain ⟨X_1, x_1, rfl, X⟩ := q
  have H := St.mk F X
  refine st_run 5 1 0 [(2, .slice X_1 bs.length x_1)] H (by kernel_rfl) fun a H => ?_
  refine ops_end _ ?_
  refine st_ret (vs := [.slice X_1 bs.length x_1]) H Tryd.func101 rfl (.tmp (by kernel_rfl) (.nil)) ?_
  have X := ((H.sat.msk [true, false]).le hleR1)
  exact ⟨_, _, rfl, X⟩

/-- (*wharfage/xdr.Reader).none -/
theorem rd_none {e w : World} {R : Hp} {L : List HP} (b : Nat) (r : Rdr) (X : Sat e w R (rdrR R b r :: L)) :
    Calls Tryd.prog 163 #[.pointer (some ⟨b, 0, none⟩)] w (Ret fun v w' => v = .bool false ∧ Sat e w' R (rdrR R b r :: L)) := by
  refine enter (n := 12) (args := [.pointer (some ⟨b, 0, none⟩)]) Tryd.func163 rfl rfl rfl X (fun a H => ?_)
  refine WK.seq ?_
  refine st_text 1 rfl ?_
  refine st_run 0 1 0 [(2, .bool false)] H (by kernel_rfl) fun a H => ?_
  refine ops_end _ ?_
  refine WK.seq ?_
  refine st_text 10 rfl ?_
  refine st_run 0 6 4 [(8, .pointer (some ⟨b, 2, none⟩)), (7, .pointer (some ⟨b, 0, none⟩)), (6, .pointer (some ⟨b, 0, none⟩)), (5, .bool false), (4, .bool false), (3, .pointer (some ⟨b, 0, none⟩))] H (by kernel_rfl) fun a H => ?_
  obtain ⟨A1, c1, hr_1, X⟩ := rdrR_open H.sat
  have H := St.mk H.sl X
  refine st_op 6 3 (op_val (d := 9) (v := .bool true) H (val_ld (k := 0) (t := 4) (off := 2) rfl (by kernel_rfl) rfl (by kernel_rfl)) fun a H => ?_)
  refine st_run 7 3 0 [(2, .bool false), (11, .bool false), (10, .bool false)] H (by kernel_rfl) fun a H => ?_
  refine ops_end _ ?_
  refine st_ret (vs := [.bool false]) H Tryd.func163 rfl (.tmp (by kernel_rfl) (.nil)) ?_
  have H := H.with (rdrR_shut (r := r) hr_1 H.sat)
  have X := H.sat
  exact ⟨rfl, X⟩

/-- (*wharfage/xdr.Reader).fine -/
theorem rd_fine {e w : World} {R : Hp} {L : List HP} (b : Nat) (r : Rdr) (X : Sat e w R (rdrR R b r :: L)) :
    Calls Tryd.prog 164 #[.pointer (some ⟨b, 0, none⟩)] w (Ret fun v w' => v = .bool ((r.e : Int) == 0) ∧ Sat e w' R (rdrR R b r :: L)) := by
  refine enter (n := 13) (args := [.pointer (some ⟨b, 0, none⟩)]) Tryd.func164 rfl rfl rfl X (fun a H => ?_)
  refine WK.seq ?_
  refine st_text 1 rfl ?_
  refine st_run 0 1 0 [(2, .bool false)] H (by kernel_rfl) fun a H => ?_
  refine ops_end _ ?_
  refine WK.seq ?_
  refine st_text 11 rfl ?_
  refine st_run 0 1 10 [(3, .pointer (some ⟨b, 0, none⟩))] H (by kernel_rfl) fun a H => ?_
  refine st_op 1 9 (op_call (d := 4) H (by kernel_rfl) rfl (rd_none b r H.sat) fun a v w q F => ?_)
  obtain ⟨rfl, X⟩ := q
  have H := St.mk F X
  refine st_run 2 5 4 [(9, .pointer (some ⟨b, 1, none⟩)), (8, .pointer (some ⟨b, 0, none⟩)), (7, .pointer (some ⟨b, 0, none⟩)), (6, .bool true), (5, .bool true)] H (by kernel_rfl) fun a H => ?_
  obtain ⟨A1, c1, hr_1, X⟩ := rdrR_open H.sat
  have H := St.mk H.sl X
  refine st_op 7 3 (op_val (d := 10) (v := .int .i64 r.e) H (val_ld (k := 0) (t := 40) (off := 1) rfl (by kernel_rfl) rfl (by kernel_rfl)) fun a H => ?_)
  refine st_run 8 3 0 [(2, .bool ((r.e : Int) == 0)), (12, .bool ((r.e : Int) == 0)), (11, .bool ((r.e : Int) == 0))] H (by kernel_rfl) fun a H => ?_
  refine ops_end _ ?_
  refine st_ret (vs := [.bool ((r.e : Int) == 0)]) H Tryd.func164 rfl (.tmp (by kernel_rfl) (.nil)) ?_
  have H := H.with (rdrR_shut (r := r) hr_1 H.sat)
  have X := H.sat
  exact ⟨rfl, X⟩

/-- (*wharfage/xdr.Reader).fail -/
theorem rd_fail {e w : World} {R : Hp} {L : List HP} (b : Nat) (r : Rdr) (is : Bool) (k : Int) (X : Sat e w R (rdrR R b r :: L)) :
    Calls Tryd.prog 171 #[.pointer (some ⟨b, 0, none⟩), .bool is, .int .i64 k] w (Ret fun v w' => Sat e w' R (rdrR R b (r.fail is k) :: L)) := by
  refine enter (n := 15) (args := [.pointer (some ⟨b, 0, none⟩), .bool is, .int .i64 k]) Tryd.func171 rfl rfl rfl X (fun a H => ?_)
  refine WK.seq ?_
  refine st_text 5 rfl ?_
  refine st_run 0 1 4 [(6, .pointer (some ⟨b, 0, none⟩))] H (by kernel_rfl) fun a H => ?_
  refine st_op 1 3 (op_call (d := 7) H (by kernel_rfl) rfl (rd_fine b r H.sat) fun a v w q F => ?_)
  obtain ⟨rfl, X⟩ := q
  have H := St.mk F X
  refine st_run 2 1 2 [(8, .bool ((r.e : Int) == 0))] H (by kernel_rfl) fun a H => ?_
  rcases Bool.eq_false_or_eq_true ((r.e : Int) == 0) with hg1 | hg1
  · skip
    have H := H.also (d := 8) (u := .bool ((r.e : Int) == 0)) (v := .bool true) (by kernel_rfl) (congrArg Value.bool (hg1))
    have hg1' := eq_of_beq hg1
    refine st_run 3 2 0 [(10, .bool is), (9, .bool is)] H (by kernel_rfl) fun a H => ?_
    refine ops_end _ ?_
    refine st_cond (is) H (by kernel_rfl) ?_ ?_
    · intro hc1
      refine st_text 5 rfl ?_
      refine st_run 0 4 1 [(14, .pointer (some ⟨b, 1, none⟩)), (13, .pointer (some ⟨b, 0, none⟩)), (12, .int .i64 k), (11, .pointer (some ⟨b, 0, none⟩))] H (by kernel_rfl) fun a H => ?_
      obtain ⟨A1, c1, hr_1, X⟩ := rdrR_open H.sat
      have H := St.mk H.sl X
      refine st_op 4 0 (op_store (k := 0) (t := 40) (off := 1) (v := .int .i64 k) H rfl (by kernel_rfl) (by kernel_rfl) fun a w H => ?_)
      refine ops_end _ ?_
      refine st_end (vs := []) H Tryd.func171 rfl (.nil) ?_
      have H := H.with (rdrR_shut (r := (Rdr.mk r.left k)) hr_1 H.sat)
      have X := H.sat
      have hX : Sat e w R (rdrR R b (r.fail is k) :: L) := by
        first | exact X | (simp only [Rdr.fail, hg1, hc1, List.length_nil, cond_true, cond_false, Bool.not_true, Bool.not_false, Bool.and_true, Bool.and_false, Bool.true_and, Bool.false_and]; exact X) | (simp only [Rdr.fail, hg1, hc1, List.length_nil, cond_true, cond_false, Bool.not_true, Bool.not_false, Bool.and_true, Bool.and_false, Bool.true_and, Bool.false_and] at X ⊢; exact X)
      exact hX
    · intro hc1
      refine WK.skip ?_
      refine st_end (vs := []) H Tryd.func171 rfl (.nil) ?_
      have X := H.sat
      have hX : Sat e w R (rdrR R b (r.fail is k) :: L) := by
        first | exact X | (simp only [Rdr.fail, hg1, hc1, List.length_nil, cond_true, cond_false, Bool.not_true, Bool.not_false, Bool.and_true, Bool.and_false, Bool.true_and, Bool.false_and]; exact X) | (simp only [Rdr.fail, hg1, hc1, List.length_nil, cond_true, cond_false, Bool.not_true, Bool.not_false, Bool.and_true, Bool.and_false, Bool.true_and, Bool.false_and] at X ⊢; exact X)
      exact hX
  · skip
    have H := H.also (d := 8) (u := .bool ((r.e : Int) == 0)) (v := .bool false) (by kernel_rfl) (congrArg Value.bool (hg1))
    have hg1' := neB hg1
    refine st_run 3 2 0 [(10, .bool false), (9, undef)] H (by kernel_rfl) fun a H => ?_
    refine ops_end _ ?_
    refine st_false H (by kernel_rfl) ?_
    refine WK.skip ?_
    refine st_end (vs := []) H Tryd.func171 rfl (.nil) ?_
    have X := H.sat
    have hX : Sat e w R (rdrR R b (r.fail is k) :: L) := by
      first | exact X | (simp only [Rdr.fail, hg1, List.length_nil, cond_true, cond_false, Bool.not_true, Bool.not_false, Bool.and_true, Bool.and_false, Bool.true_and, Bool.false_and]; exact X) | (simp only [Rdr.fail, hg1, List.length_nil, cond_true, cond_false, Bool.not_true, Bool.not_false, Bool.and_true, Bool.and_false, Bool.true_and, Bool.false_and] at X ⊢; exact X)
    exact hX

/-- (*wharfage/xdr.Reader).number -/
theorem rd_num {e w : World} {R : Hp} {L : List HP} (b : Nat) (r : Rdr) (s : Nat) (hs : s = 1 ∨ s = 2 ∨ s = 4 ∨ s = 8) (X : Sat e w R (rdrR R b r :: L)) :
    Calls Tryd.prog 162 #[.pointer (some ⟨b, 0, none⟩), .int .i64 s] w (Ret fun v w' => v = .int .u64 ((r.num s).1) ∧ Sat e w' R (rdrR R b ((r.num s).2) :: L)) := by
  refine enter (n := 35) (args := [.pointer (some ⟨b, 0, none⟩), .int .i64 s]) Tryd.func162 rfl rfl rfl X (fun a H => ?_)
  refine WK.seq ?_
  refine st_text 1 rfl ?_
  refine st_run 0 1 0 [(4, .int .u64 0)] H (by kernel_rfl) fun a H => ?_
  refine ops_end _ ?_
  refine WK.seq ?_
  refine WK.seq ?_
  refine st_text 3 rfl ?_
  refine st_run 0 1 2 [(7, .pointer (some ⟨b, 0, none⟩))] H (by kernel_rfl) fun a H => ?_
  refine st_op 1 1 (op_call (d := 8) H (by kernel_rfl) rfl (rd_fine b r H.sat) fun a v w q F => ?_)
  obtain ⟨rfl, X⟩ := q
  have H := St.mk F X
  refine st_run 2 1 0 [(9, .bool (!((r.e : Int) == 0)))] H (by kernel_rfl) fun a H => ?_
  refine ops_end _ ?_
  refine st_cond (!((r.e : Int) == 0)) H (by kernel_rfl) ?_ ?_
  · intro hc1
    have hc1n := notT hc1
    have hc1' := neB (notT hc1)
    refine WK.seq ?_
    refine st_text 1 rfl ?_
    refine st_run 0 1 0 [(4, .int .u64 0)] H (by kernel_rfl) fun a H => ?_
    refine ops_end _ ?_
    refine st_ret (vs := [.int .u64 0]) H Tryd.func162 rfl (.tmp (by kernel_rfl) (.nil)) ?_
    have X := H.sat
    have hX : Sat e w R (rdrR R b ((r.num s).2) :: L) := by
      first | exact X | (simp only [Rdr.num, hc1n, List.length_nil, cond_true, cond_false, Bool.not_true, Bool.not_false, Bool.and_true, Bool.and_false, Bool.true_and, Bool.false_and]; exact X) | (simp only [Rdr.num, hc1n, List.length_nil, cond_true, cond_false, Bool.not_true, Bool.not_false, Bool.and_true, Bool.and_false, Bool.true_and, Bool.false_and] at X ⊢; exact X)
    exact ⟨by first | simp only [Rdr.num, hc1n, List.length_nil, cond_true, cond_false, Bool.not_true, Bool.not_false, Bool.and_true, Bool.and_false, Bool.true_and, Bool.false_and] | rfl, hX⟩
  · intro hc1
    have hc1n := notF hc1
    have hc1' := eq_of_beq (notF hc1)
    refine WK.skip ?_
    refine WK.seq ?_
    refine st_text 11 rfl ?_
    refine st_run 0 3 8 [(13, .pointer (some ⟨b, 0, none⟩)), (12, .pointer (some ⟨b, 0, none⟩)), (11, .pointer (some ⟨b, 0, none⟩))] H (by kernel_rfl) fun a H => ?_
    obtain ⟨A1, c1, hr_1, X⟩ := rdrR_open H.sat
    have H := St.mk H.sl X
    refine st_op 3 7 (op_val (d := 14) (v := .slice A1 r.left.length c1) H (val_ld (k := 0) (t := 26) (off := 0) rfl (by kernel_rfl) rfl (by kernel_rfl)) fun a H => ?_)
    refine st_run 4 1 6 [(15, .int .i64 s)] H (by kernel_rfl) fun a H => ?_
    refine st_op 5 5 (op_call (d := 16) H (by kernel_rfl) rfl (num_get A1 c1 r.left s (by first | assumption | omega) (by first | assumption | omega) H.sat) fun a v w q F => ?_)
    obtain ⟨rfl, X⟩ := q
    have H := St.mk F X
    refine st_run 6 5 0 [(6, .int .i64 (getE r.left s)), (5, .int .u64 (getV r.left s)), (18, .int .i64 (getE r.left s)), (17, .int .u64 (getV r.left s)), (10, .tuple #[.int .u64 (getV r.left s), .int .i64 (getE r.left s)])] H (by kernel_rfl) fun a H => ?_
    refine ops_end _ ?_
    refine WK.seq ?_
    refine WK.seq ?_
    refine st_text 2 rfl ?_
    refine st_run 0 2 0 [(20, .bool (!(((getE r.left s) : Int) == 0))), (19, .int .i64 (getE r.left s))] H (by kernel_rfl) fun a H => ?_
    refine ops_end _ ?_
    refine st_cond (!(((getE r.left s) : Int) == 0)) H (by kernel_rfl) ?_ ?_
    · intro hc2
      have hc2n := notT hc2
      have hc2' := neB (notT hc2)
      refine WK.seq ?_
      refine st_text 5 rfl ?_
      refine st_run 0 4 1 [(24, .pointer (some ⟨b, 1, none⟩)), (23, .pointer (some ⟨b, 0, none⟩)), (22, .int .i64 (getE r.left s)), (21, .pointer (some ⟨b, 0, none⟩))] H (by kernel_rfl) fun a H => ?_
      refine st_op 4 0 (op_store (k := 0) (t := 40) (off := 1) (v := .int .i64 (getE r.left s)) H rfl (by kernel_rfl) (by kernel_rfl) fun a w H => ?_)
      refine ops_end _ ?_
      refine WK.seq ?_
      refine st_text 1 rfl ?_
      refine st_run 0 1 0 [(4, .int .u64 0)] H (by kernel_rfl) fun a H => ?_
      refine ops_end _ ?_
      refine st_ret (vs := [.int .u64 0]) H Tryd.func162 rfl (.tmp (by kernel_rfl) (.nil)) ?_
      have H := H.with (rdrR_shut (r := (Rdr.mk r.left (getE r.left s))) hr_1 H.sat)
      have X := H.sat
      have hX : Sat e w R (rdrR R b ((r.num s).2) :: L) := by
        first | exact X | (simp only [Rdr.num, hc1n, hc2n, List.length_nil, cond_true, cond_false, Bool.not_true, Bool.not_false, Bool.and_true, Bool.and_false, Bool.true_and, Bool.false_and]; exact X) | (simp only [Rdr.num, hc1n, hc2n, List.length_nil, cond_true, cond_false, Bool.not_true, Bool.not_false, Bool.and_true, Bool.and_false, Bool.true_and, Bool.false_and] at X ⊢; exact X)
      exact ⟨by first | simp only [Rdr.num, hc1n, hc2n, List.length_nil, cond_true, cond_false, Bool.not_true, Bool.not_false, Bool.and_true, Bool.and_false, Bool.true_and, Bool.false_and] | rfl, hX⟩
    · intro hc2
      have hc2n := notF hc2
      have hge := getE_ok (eq_of_beq (notF hc2))
      have hc2' := eq_of_beq (notF hc2)
      refine WK.skip ?_
      refine WK.seq ?_
      refine st_text 10 rfl ?_
      refine st_run 0 4 6 [(28, .pointer (some ⟨b, 0, none⟩)), (27, .pointer (some ⟨b, 0, none⟩)), (26, .pointer (some ⟨b, 0, none⟩)), (25, .pointer (some ⟨b, 0, none⟩))] H (by kernel_rfl) fun a H => ?_
      refine st_op 4 5 (op_val (d := 29) (v := .slice A1 r.left.length c1) H (val_ld (k := 0) (t := 26) (off := 0) rfl (by kernel_rfl) rfl (by kernel_rfl)) fun a H => ?_)
      have hr_2 := RdB.subE hr_1 (l := s) (by omega)
      refine st_run 5 1 4 [(30, .int .i64 s)] H (by kernel_rfl) fun a H => ?_
      refine st_op 6 3 (op_val (d := 31) (v := .slice (subA A1 c1 s 1) (r.left.length - s) (c1 - s)) H (val_slice (t := 26) (A := A1) (m := r.left.length) (c := c1) (some (.i64, s, s)) none (by kernel_rfl) rfl rfl (by first | rfl | (simp only [loOk]; omega)) (trivial) (by simp only [loN]; omega) (by have hx := hr_1.le; simp only [loN]; omega)) fun a H => ?_)
      have H := H.turn (d := 31) (v := .slice (subA A1 c1 s 1) ((r.left.drop s).length) (c1 - s)) (by first | rfl | (simp only [List.length_take, List.length_drop]; done) | (simp only [List.length_take, List.length_drop]; congr 1 <;> omega))
      refine st_run 7 2 1 [(33, .pointer (some ⟨b, 0, none⟩)), (32, .pointer (some ⟨b, 0, none⟩))] H (by kernel_rfl) fun a H => ?_
      refine st_op 9 0 (op_store (k := 0) (t := 26) (off := 0) (v := .slice (subA A1 c1 s 1) ((r.left.drop s).length) (c1 - s)) H rfl (by kernel_rfl) (by kernel_rfl) fun a w H => ?_)
      refine ops_end _ ?_
      refine WK.seq ?_
      refine st_text 2 rfl ?_
      refine st_run 0 2 0 [(4, .int .u64 (getV r.left s)), (34, .int .u64 (getV r.left s))] H (by kernel_rfl) fun a H => ?_
      refine ops_end _ ?_
      refine st_ret (vs := [.int .u64 (getV r.left s)]) H Tryd.func162 rfl (.tmp (by kernel_rfl) (.nil)) ?_
      have H := H.with (rdrR_shut (r := (Rdr.mk (r.left.drop s) r.e)) hr_2 H.sat)
      have X := H.sat
      have hX : Sat e w R (rdrR R b ((r.num s).2) :: L) := by
        first | exact X | (simp only [Rdr.num, hc1n, hc2n, List.length_nil, cond_true, cond_false, Bool.not_true, Bool.not_false, Bool.and_true, Bool.and_false, Bool.true_and, Bool.false_and]; exact X) | (simp only [Rdr.num, hc1n, hc2n, List.length_nil, cond_true, cond_false, Bool.not_true, Bool.not_false, Bool.and_true, Bool.and_false, Bool.true_and, Bool.false_and] at X ⊢; exact X)
      exact ⟨by first | simp only [Rdr.num, hc1n, hc2n, List.length_nil, cond_true, cond_false, Bool.not_true, Bool.not_false, Bool.and_true, Bool.and_false, Bool.true_and, Bool.false_and] | rfl, hX⟩

/-- (*wharfage/xdr.Reader).Number -/
theorem rd_number {e w : World} {R : Hp} {L : List HP} (b : Nat) (r : Rdr) (X : Sat e w R (rdrR R b r :: L)) :
    Calls Tryd.prog 103 #[.pointer (some ⟨b, 0, none⟩)] w (Ret fun v w' => ∃ m1 : Int, ∃ r1 : Rdr, (r.num 4 = (m1, r1)) ∧ (0 ≤ m1 ∧ m1 ≤ 4294967295) ∧ v = .int .u32 m1 ∧ Sat e w' R (rdrR R b r1 :: L)) := by
  have hlt := r.num_lt 4
  simp only [Nat.reducePow] at hlt
  refine enter (n := 6) (args := [.pointer (some ⟨b, 0, none⟩)]) Tryd.func103 rfl rfl rfl X (fun a H => ?_)
  refine WK.seq ?_
  refine st_text 1 rfl ?_
  refine st_run 0 1 0 [(2, .int .u32 0)] H (by kernel_rfl) fun a H => ?_
  refine ops_end _ ?_
  refine WK.seq ?_
  refine st_text 4 rfl ?_
  refine st_run 0 1 3 [(3, .pointer (some ⟨b, 0, none⟩))] H (by kernel_rfl) fun a H => ?_
  refine st_op 1 2 (op_call (d := 4) H (by kernel_rfl) rfl (rd_num b r 4 (by first | assumption | omega) H.sat) fun a v w q F => ?_)
  obtain ⟨rfl, X⟩ := q
  have H := St.mk F X
  refine st_run 2 1 1 [(5, .int .u32 (IntKind.u32.wrap ((r.num 4).1)))] H (by kernel_rfl) fun a H => ?_
  have H := H.turn (d := 5) (u := .int .u32 (IntKind.u32.wrap ((r.num 4).1))) (v := .int .u32 ((r.num 4).1)) (wU32 (by omega) (by omega))
  refine st_run 3 1 0 [(2, .int .u32 ((r.num 4).1))] H (by kernel_rfl) fun a H => ?_
  refine ops_end _ ?_
  refine st_ret (vs := [.int .u32 ((r.num 4).1)]) H Tryd.func103 rfl (.tmp (by kernel_rfl) (.nil)) ?_
  have X := H.sat
  exact ⟨(r.num 4).1, (r.num 4).2, rfl, by omega, rfl, X⟩

/-- (*wharfage/xdr.Reader).Great -/
theorem rd_great {e w : World} {R : Hp} {L : List HP} (b : Nat) (r : Rdr) (X : Sat e w R (rdrR R b r :: L)) :
    Calls Tryd.prog 119 #[.pointer (some ⟨b, 0, none⟩)] w (Ret fun v w' => ∃ m1 : Int, ∃ r1 : Rdr, (r.num 8 = (m1, r1)) ∧ (0 ≤ m1 ∧ m1 ≤ 18446744073709551615) ∧ v = .int .u64 m1 ∧ Sat e w' R (rdrR R b r1 :: L)) := by
  have hlt := r.num_lt 8
  simp only [Nat.reducePow] at hlt
  refine enter (n := 5) (args := [.pointer (some ⟨b, 0, none⟩)]) Tryd.func119 rfl rfl rfl X (fun a H => ?_)
  refine WK.seq ?_
  refine st_text 1 rfl ?_
  refine st_run 0 1 0 [(2, .int .u64 0)] H (by kernel_rfl) fun a H => ?_
  refine ops_end _ ?_
  refine WK.seq ?_
  refine st_text 3 rfl ?_
  refine st_run 0 1 2 [(3, .pointer (some ⟨b, 0, none⟩))] H (by kernel_rfl) fun a H => ?_
  refine st_op 1 1 (op_call (d := 4) H (by kernel_rfl) rfl (rd_num b r 8 (by first | assumption | omega) H.sat) fun a v w q F => ?_)
  obtain ⟨rfl, X⟩ := q
  have H := St.mk F X
  refine st_run 2 1 0 [(2, .int .u64 ((r.num 8).1))] H (by kernel_rfl) fun a H => ?_
  refine ops_end _ ?_
  refine st_ret (vs := [.int .u64 ((r.num 8).1)]) H Tryd.func119 rfl (.tmp (by kernel_rfl) (.nil)) ?_
  have X := H.sat
  exact ⟨(r.num 8).1, (r.num 8).2, rfl, by omega, rfl, X⟩

/-- (*wharfage/xdr.Reader).Error -/
theorem rd_error {e w : World} {R : Hp} {L : List HP} (b : Nat) (r : Rdr) (X : Sat e w R (rdrR R b r :: L)) :
    Calls Tryd.prog 105 #[.pointer (some ⟨b, 0, none⟩)] w (Ret fun v w' => v = .int .i64 r.e ∧ Sat e w' R (rdrR R b r :: L)) := by
  refine enter (n := 9) (args := [.pointer (some ⟨b, 0, none⟩)]) Tryd.func105 rfl rfl rfl X (fun a H => ?_)
  refine WK.seq ?_
  refine st_text 1 rfl ?_
  refine st_run 0 1 0 [(2, .int .i64 0)] H (by kernel_rfl) fun a H => ?_
  refine ops_end _ ?_
  refine WK.seq ?_
  refine WK.seq ?_
  refine st_text 2 rfl ?_
  refine st_run 0 1 1 [(3, .pointer (some ⟨b, 0, none⟩))] H (by kernel_rfl) fun a H => ?_
  refine st_op 1 0 (op_call (d := 4) H (by kernel_rfl) rfl (rd_none b r H.sat) fun a v w q F => ?_)
  obtain ⟨rfl, X⟩ := q
  have H := St.mk F X
  refine ops_end _ ?_
  refine st_false H (by kernel_rfl) ?_
  refine WK.skip ?_
  refine WK.seq ?_
  refine st_text 5 rfl ?_
  refine st_run 0 3 2 [(7, .pointer (some ⟨b, 1, none⟩)), (6, .pointer (some ⟨b, 0, none⟩)), (5, .pointer (some ⟨b, 0, none⟩))] H (by kernel_rfl) fun a H => ?_
  obtain ⟨A1, c1, hr_1, X⟩ := rdrR_open H.sat
  have H := St.mk H.sl X
  refine st_op 3 1 (op_val (d := 8) (v := .int .i64 r.e) H (val_ld (k := 0) (t := 40) (off := 1) rfl (by kernel_rfl) rfl (by kernel_rfl)) fun a H => ?_)
  refine st_run 4 1 0 [(2, .int .i64 r.e)] H (by kernel_rfl) fun a H => ?_
  refine ops_end _ ?_
  refine st_ret (vs := [.int .i64 r.e]) H Tryd.func105 rfl (.tmp (by kernel_rfl) (.nil)) ?_
  have H := H.with (rdrR_shut (r := r) hr_1 H.sat)
  have X := H.sat
  exact ⟨rfl, X⟩

/-- (*wharfage/xdr.Reader).End -/
theorem rd_end {e w : World} {R : Hp} {L : List HP} (b : Nat) (r : Rdr) (X : Sat e w R (rdrR R b r :: L)) :
    Calls Tryd.prog 106 #[.pointer (some ⟨b, 0, none⟩)] w (Ret fun v w' => v = .int .i64 r.err ∧ Sat e w' R (rdrR R b r :: L)) := by
  refine enter (n := 15) (args := [.pointer (some ⟨b, 0, none⟩)]) Tryd.func106 rfl rfl rfl X (fun a H => ?_)
  refine WK.seq ?_
  refine st_text 1 rfl ?_
  refine st_run 0 1 0 [(2, .int .i64 0)] H (by kernel_rfl) fun a H => ?_
  refine ops_end _ ?_
  refine WK.seq ?_
  refine WK.seq ?_
  refine st_text 10 rfl ?_
  refine st_run 0 1 9 [(3, .pointer (some ⟨b, 0, none⟩))] H (by kernel_rfl) fun a H => ?_
  refine st_op 1 8 (op_call (d := 4) H (by kernel_rfl) rfl (rd_fine b r H.sat) fun a v w q F => ?_)
  obtain ⟨rfl, X⟩ := q
  have H := St.mk F X
  refine st_run 2 1 7 [(5, .bool ((r.e : Int) == 0))] H (by kernel_rfl) fun a H => ?_
  rcases Bool.eq_false_or_eq_true ((r.e : Int) == 0) with hg1 | hg1
  · skip
    have H := H.also (d := 5) (u := .bool ((r.e : Int) == 0)) (v := .bool true) (by kernel_rfl) (congrArg Value.bool (hg1))
    have hg1' := eq_of_beq hg1
    refine st_run 3 3 4 [(8, .pointer (some ⟨b, 0, none⟩)), (7, .pointer (some ⟨b, 0, none⟩)), (6, .pointer (some ⟨b, 0, none⟩))] H (by kernel_rfl) fun a H => ?_
    obtain ⟨A1, c1, hr_1, X⟩ := rdrR_open H.sat
    have H := St.mk H.sl X
    refine st_op 6 3 (op_val (d := 9) (v := .slice A1 r.left.length c1) H (val_ld (k := 0) (t := 26) (off := 0) rfl (by kernel_rfl) rfl (by kernel_rfl)) fun a H => ?_)
    refine st_run 7 3 0 [(12, .bool (decide ((((r.left.length : Nat) : Int) : Int) > 0))), (11, .bool (decide ((((r.left.length : Nat) : Int) : Int) > 0))), (10, .int .i64 ((r.left.length : Nat) : Int))] H (by kernel_rfl) fun a H => ?_
    refine ops_end _ ?_
    refine st_cond (decide ((((r.left.length : Nat) : Int) : Int) > 0)) H (by kernel_rfl) ?_ ?_
    · intro hc1
      have hc1' := of_decide_eq_true hc1
      refine WK.seq ?_
      refine st_text 1 rfl ?_
      refine st_run 0 1 0 [(2, .int .i64 5)] H (by kernel_rfl) fun a H => ?_
      refine ops_end _ ?_
      refine st_ret (vs := [.int .i64 5]) H Tryd.func106 rfl (.tmp (by kernel_rfl) (.nil)) ?_
      have H := H.with (rdrR_shut (r := r) hr_1 H.sat)
      have X := H.sat
      have hX : Sat e w R (rdrR R b r :: L) := by
        first | exact X | (simp only [Rdr.err, hg1, hc1, List.length_nil, cond_true, cond_false, Bool.not_true, Bool.not_false, Bool.and_true, Bool.and_false, Bool.true_and, Bool.false_and]; exact X) | (simp only [Rdr.err, hg1, hc1, List.length_nil, cond_true, cond_false, Bool.not_true, Bool.not_false, Bool.and_true, Bool.and_false, Bool.true_and, Bool.false_and] at X ⊢; exact X)
      exact ⟨by first | simp only [Rdr.err, hg1, hc1, List.length_nil, cond_true, cond_false, Bool.not_true, Bool.not_false, Bool.and_true, Bool.and_false, Bool.true_and, Bool.false_and] | rfl, hX⟩
    · intro hc1
      have hc1' := of_decide_eq_false hc1
      refine WK.skip ?_
      refine WK.seq ?_
      refine st_text 3 rfl ?_
      refine st_run 0 1 2 [(13, .pointer (some ⟨b, 0, none⟩))] H (by kernel_rfl) fun a H => ?_
      have H := H.with (rdrR_shut (r := r) hr_1 H.sat)
      refine st_op 1 1 (op_call (d := 14) H (by kernel_rfl) rfl (rd_error b r H.sat) fun a v w q F => ?_)
      obtain ⟨rfl, X⟩ := q
      have H := St.mk F X
      refine st_run 2 1 0 [(2, .int .i64 r.e)] H (by kernel_rfl) fun a H => ?_
      refine ops_end _ ?_
      refine st_ret (vs := [.int .i64 r.e]) H Tryd.func106 rfl (.tmp (by kernel_rfl) (.nil)) ?_
      have X := H.sat
      have hX : Sat e w R (rdrR R b r :: L) := by
        first | exact X | (simp only [Rdr.err, hg1, hc1, List.length_nil, cond_true, cond_false, Bool.not_true, Bool.not_false, Bool.and_true, Bool.and_false, Bool.true_and, Bool.false_and]; exact X) | (simp only [Rdr.err, hg1, hc1, List.length_nil, cond_true, cond_false, Bool.not_true, Bool.not_false, Bool.and_true, Bool.and_false, Bool.true_and, Bool.false_and] at X ⊢; exact X)
      exact ⟨by first | simp only [Rdr.err, hg1, hc1, List.length_nil, cond_true, cond_false, Bool.not_true, Bool.not_false, Bool.and_true, Bool.and_false, Bool.true_and, Bool.false_and] | rfl, hX⟩
  · skip
    have H := H.also (d := 5) (u := .bool ((r.e : Int) == 0)) (v := .bool false) (by kernel_rfl) (congrArg Value.bool (hg1))
    have hg1' := neB hg1
    refine st_run 3 7 0 [(12, .bool false), (11, undef), (10, undef), (9, undef), (8, undef), (7, undef), (6, undef)] H (by kernel_rfl) fun a H => ?_
    refine ops_end _ ?_
    refine st_false H (by kernel_rfl) ?_
    refine WK.skip ?_
    refine WK.seq ?_
    refine st_text 3 rfl ?_
    refine st_run 0 1 2 [(13, .pointer (some ⟨b, 0, none⟩))] H (by kernel_rfl) fun a H => ?_
    refine st_op 1 1 (op_call (d := 14) H (by kernel_rfl) rfl (rd_error b r H.sat) fun a v w q F => ?_)
    obtain ⟨rfl, X⟩ := q
    have H := St.mk F X
    refine st_run 2 1 0 [(2, .int .i64 r.e)] H (by kernel_rfl) fun a H => ?_
    refine ops_end _ ?_
    refine st_ret (vs := [.int .i64 r.e]) H Tryd.func106 rfl (.tmp (by kernel_rfl) (.nil)) ?_
    have X := H.sat
    have hX : Sat e w R (rdrR R b r :: L) := by
      first | exact X | (simp only [Rdr.err, hg1, List.length_nil, cond_true, cond_false, Bool.not_true, Bool.not_false, Bool.and_true, Bool.and_false, Bool.true_and, Bool.false_and]; exact X) | (simp only [Rdr.err, hg1, List.length_nil, cond_true, cond_false, Bool.not_true, Bool.not_false, Bool.and_true, Bool.and_false, Bool.true_and, Bool.false_and] at X ⊢; exact X)
    exact ⟨by first | simp only [Rdr.err, hg1, List.length_nil, cond_true, cond_false, Bool.not_true, Bool.not_false, Bool.and_true, Bool.and_false, Bool.true_and, Bool.false_and] | rfl, hX⟩

/-- wharfage/xdr.NewReader -/
theorem rd_new {e w : World} {R : Hp} {L : List HP} (A : Option Addr) (cap : Nat) (bs : List UInt8) (hr : RdB R A cap bs) (hb : bs.length ≤ 140737488355328) (X : Sat e w R (L)) :
    Calls Tryd.prog 102 #[.slice A bs.length cap] w (Ret fun v w' => ∃ R', R.Le R' ∧ ∃ b : Nat, v = .pointer (some ⟨b, 0, none⟩) ∧ Sat e w' R' (rdrR R' b (Rdr.mk bs 0) :: L)) := by
  refine enter (n := 7) (args := [.slice A bs.length cap]) Tryd.func102 rfl rfl rfl X (fun a H => ?_)
  refine WK.seq ?_
  refine st_text 1 rfl ?_
  refine st_run 0 1 0 [(2, .pointer none)] H (by kernel_rfl) fun a H => ?_
  refine ops_end _ ?_
  refine WK.seq ?_
  refine st_text 5 rfl ?_
  refine st_run 0 1 4 [(3, .slice A bs.length cap)] H (by kernel_rfl) fun a H => ?_
  refine st_op 1 3 (op_call (d := 4) H (by kernel_rfl) rfl (clone_bytes A cap bs (by first | assumption | omega) (by first | assumption | omega | (simp only [List.length_take, List.length_drop, List.length_append, be_length]; omega)) H.sat) fun a v w q F => ?_)
  obtain ⟨X_1, x_1, rfl, X⟩ := q
  have H := St.mk F X
  refine st_run 2 1 2 [(5, .agg #[.slice X_1 bs.length x_1, .int .i64 0, .bool true])] H (by kernel_rfl) fun a H => ?_
  refine st_op 3 1 (op_new (d := 6) (vf := fun b => .pointer (some ⟨b, 0, none⟩)) (ob := .cells #[.slice X_1 bs.length x_1, .int .i64 0, .bool true] 241) H (IsNew.of_run rfl fun w => (by kernel_rfl)) fun a w b1 H => ?_)
  refine st_run 4 1 0 [(2, .pointer (some ⟨b1, 0, none⟩))] H (by kernel_rfl) fun a H => ?_
  refine ops_end _ ?_
  refine st_ret (vs := [.pointer (some ⟨b1, 0, none⟩)]) H Tryd.func102 rfl (.tmp (by kernel_rfl) (.nil)) ?_
  obtain ⟨R1, hle, hr_1, X⟩ := (H.sat.front 1 rfl).bytesO_fix
  have H := St.mk H.sl X
  have hr := hr.grow hle
  have hleR1 := hle
  have H := H.with (rdrR_shut (r := (Rdr.mk bs 0)) hr_1 H.sat)
  have X := H.sat
  exact ⟨R1, hleR1, _, rfl, X⟩

/-- (*wharfage/xdr.Reader).Bytes -/
theorem rd_bytes {e w : World} {R : Hp} {L : List HP} (b : Nat) (r : Rdr) (most : Int) (hm : 0 ≤ most ∧ most ≤ 1000000) (X : Sat e w R (rdrR R b r :: L)) :
    Calls Tryd.prog 121 #[.pointer (some ⟨b, 0, none⟩), .int .i64 most] w (Ret fun v w' => ∃ R', R.Le R' ∧ ∃ ys : List UInt8, ∃ r1 : Rdr, ∃ A1 : Option Addr, ∃ c1 : Nat, (r.bytes most = (ys, r1)) ∧ (RdB R' A1 c1 ys) ∧ v = .slice A1 ys.length c1 ∧ Sat e w' R' (rdrR R' b r1 :: L)) := by
  refine enter (n := 73) (args := [.pointer (some ⟨b, 0, none⟩), .int .i64 most]) Tryd.func121 rfl rfl rfl X (fun a H => ?_)
  refine WK.seq ?_
  refine st_text 1 rfl ?_
  refine st_run 0 1 0 [(4, .slice none 0 0)] H (by kernel_rfl) fun a H => ?_
  refine ops_end _ ?_
  refine WK.seq ?_
  refine st_text 4 rfl ?_
  refine st_run 0 1 3 [(9, .pointer (some ⟨b, 0, none⟩))] H (by kernel_rfl) fun a H => ?_
  refine st_op 1 2 (op_call (d := 10) H (by kernel_rfl) rfl (rd_number b r H.sat) fun a v w q F => ?_)
  obtain ⟨x_1, x_2, hf1, hf2, rfl, X⟩ := q
  have H := St.mk F X
  refine st_run 2 1 1 [(11, .int .u64 (IntKind.u64.wrap (x_1)))] H (by kernel_rfl) fun a H => ?_
  have H := H.turn (d := 11) (u := .int .u64 (IntKind.u64.wrap (x_1))) (v := .int .u64 x_1) (wU64 (by omega) (by omega))
  refine st_run 3 1 0 [(5, .int .u64 x_1)] H (by kernel_rfl) fun a H => ?_
  refine ops_end _ ?_
  refine WK.seq ?_
  refine st_text 7 rfl ?_
  refine st_run 0 4 3 [(15, .int .i64 (if most < 0 then 0 else most)), (14, .int .i64 most), (13, .int .u64 x_1), (12, .pointer (some ⟨b, 0, none⟩))] H (by kernel_rfl) fun a H => ?_
  have H := H.turn (d := 15) (u := .int .i64 (if most < 0 then 0 else most)) (v := .int .i64 (max most 0)) (max_val _ _ _)
  refine st_run 4 1 2 [(16, .int .u64 (IntKind.u64.wrap (max most 0)))] H (by kernel_rfl) fun a H => ?_
  have H := H.turn (d := 16) (u := .int .u64 (IntKind.u64.wrap (max most 0))) (v := .int .u64 (max most 0)) (wU64 (by omega) (by omega))
  refine st_run 5 1 1 [(17, .bool (decide ((x_1 : Int) > (max most 0))))] H (by kernel_rfl) fun a H => ?_
  refine st_op 6 0 (op_call (d := 18) H (by kernel_rfl) rfl (rd_fail b x_2 (decide ((x_1 : Int) > (max most 0))) 3 H.sat) fun a v w q F => ?_)
  have X := q
  have H := St.mk F X
  refine ops_end _ ?_
  refine WK.seq ?_
  refine WK.seq ?_
  refine st_text 3 rfl ?_
  refine st_run 0 1 2 [(19, .pointer (some ⟨b, 0, none⟩))] H (by kernel_rfl) fun a H => ?_
  refine st_op 1 1 (op_call (d := 20) H (by kernel_rfl) rfl (rd_fine b (x_2.fail (decide ((x_1 : Int) > (max most 0))) 3) H.sat) fun a v w q F => ?_)
  obtain ⟨rfl, X⟩ := q
  have H := St.mk F X
  refine st_run 2 1 0 [(21, .bool (!(((x_2.fail (decide ((x_1 : Int) > (max most 0))) 3).e : Int) == 0)))] H (by kernel_rfl) fun a H => ?_
  refine ops_end _ ?_
  refine st_cond (!(((x_2.fail (decide ((x_1 : Int) > (max most 0))) 3).e : Int) == 0)) H (by kernel_rfl) ?_ ?_
  · intro hc1
    have hc1n := notT hc1
    have hc1' := neB (notT hc1)
    refine WK.seq ?_
    refine st_text 1 rfl ?_
    refine st_run 0 1 0 [(4, .slice none 0 0)] H (by kernel_rfl) fun a H => ?_
    refine ops_end _ ?_
    refine st_ret (vs := [.slice none 0 0]) H Tryd.func121 rfl (.tmp (by kernel_rfl) (.nil)) ?_
    have hz : r.bytes most = ([], (x_2.fail (decide ((x_1 : Int) > (max most 0))) 3)) := by
      simp only [Rdr.bytes, Rdr.bytes1, Rdr.bytes2, Rdr.bytes3, hc1n, hf1, List.length_nil, cond_true, cond_false, Bool.not_true, Bool.not_false, Bool.and_true, Bool.and_false, Bool.true_and, Bool.false_and]
    exact ⟨R, Hp.Le.refl _, ([]), (x_2.fail (decide ((x_1 : Int) > (max most 0))) 3), none, 0, hz, RdB.nil _, rfl, H.sat⟩
  · intro hc1
    have hc1n := notF hc1
    have hfo1 := Rdr.fail_ok hc1n
    have hfo1l := congrArg List.length (congrArg Rdr.left hfo1.2)
    have hfo1d := of_decide_eq_false hfo1.1
    have hc1' := eq_of_beq (notF hc1)
    refine WK.skip ?_
    refine WK.seq ?_
    refine st_text 7 rfl ?_
    refine st_run 0 2 5 [(23, .int .i64 (IntKind.i64.wrap (x_1))), (22, .int .u64 x_1)] H (by kernel_rfl) fun a H => ?_
    have H := H.turn (d := 23) (u := .int .i64 (IntKind.i64.wrap (x_1))) (v := .int .i64 x_1) (wI64 (by omega) (by omega))
    refine st_run 2 2 3 [(25, .int .i64 (IntKind.i64.wrap (x_1))), (24, .int .u64 x_1)] H (by kernel_rfl) fun a H => ?_
    have H := H.turn (d := 25) (u := .int .i64 (IntKind.i64.wrap (x_1))) (v := .int .i64 x_1) (wI64 (by omega) (by omega))
    refine st_op 4 2 (op_call (d := 26) H (by kernel_rfl) rfl (num_pad x_1 (by first | assumption | omega) (by first | assumption | omega) H.sat) fun a v w q F => ?_)
    obtain ⟨rfl, X⟩ := q
    have H := St.mk F X
    refine st_run 5 2 0 [(7, .int .i64 ((0 - x_1) % 4)), (6, .int .i64 x_1)] H (by kernel_rfl) fun a H => ?_
    refine ops_end _ ?_
    refine WK.seq ?_
    refine st_text 11 rfl ?_
    refine st_run 0 4 7 [(30, .pointer (some ⟨b, 0, none⟩)), (29, .pointer (some ⟨b, 0, none⟩)), (28, .pointer (some ⟨b, 0, none⟩)), (27, .pointer (some ⟨b, 0, none⟩))] H (by kernel_rfl) fun a H => ?_
    obtain ⟨A1, c1, hr_1, X⟩ := rdrR_open H.sat
    have H := St.mk H.sl X
    refine st_op 4 6 (op_val (d := 31) (v := .slice A1 ((x_2.fail (decide ((x_1 : Int) > (max most 0))) 3).left.length) c1) H (val_ld (k := 0) (t := 26) (off := 0) rfl (by kernel_rfl) rfl (by kernel_rfl)) fun a H => ?_)
    refine st_run 5 4 2 [(35, .int .i64 (IntKind.i64.wrap (x_1 + ((0 - x_1) % 4)))), (34, .int .i64 ((0 - x_1) % 4)), (33, .int .i64 x_1), (32, .int .i64 (((x_2.fail (decide ((x_1 : Int) > (max most 0))) 3).left.length : Nat) : Int))] H (by kernel_rfl) fun a H => ?_
    have H := H.turn (d := 35) (u := .int .i64 (IntKind.i64.wrap (x_1 + ((0 - x_1) % 4)))) (v := .int .i64 (x_1 + ((0 - x_1) % 4))) (wI64 (by omega) (by omega))
    refine st_run 9 1 1 [(36, .bool (decide (((((x_2.fail (decide ((x_1 : Int) > (max most 0))) 3).left.length : Nat) : Int) : Int) < (x_1 + ((0 - x_1) % 4)))))] H (by kernel_rfl) fun a H => ?_
    have H := H.with (rdrR_shut (r := (x_2.fail (decide ((x_1 : Int) > (max most 0))) 3)) hr_1 H.sat)
    refine st_op 10 0 (op_call (d := 37) H (by kernel_rfl) rfl (rd_fail b (x_2.fail (decide ((x_1 : Int) > (max most 0))) 3) (decide (((((x_2.fail (decide ((x_1 : Int) > (max most 0))) 3).left.length : Nat) : Int) : Int) < (x_1 + ((0 - x_1) % 4)))) 4 H.sat) fun a v w q F => ?_)
    have X := q
    have H := St.mk F X
    refine ops_end _ ?_
    refine WK.seq ?_
    refine WK.seq ?_
    refine st_text 3 rfl ?_
    refine st_run 0 1 2 [(38, .pointer (some ⟨b, 0, none⟩))] H (by kernel_rfl) fun a H => ?_
    refine st_op 1 1 (op_call (d := 39) H (by kernel_rfl) rfl (rd_fine b ((x_2.fail (decide ((x_1 : Int) > (max most 0))) 3).fail (decide (((((x_2.fail (decide ((x_1 : Int) > (max most 0))) 3).left.length : Nat) : Int) : Int) < (x_1 + ((0 - x_1) % 4)))) 4) H.sat) fun a v w q F => ?_)
    obtain ⟨rfl, X⟩ := q
    have H := St.mk F X
    refine st_run 2 1 0 [(40, .bool (!((((x_2.fail (decide ((x_1 : Int) > (max most 0))) 3).fail (decide (((((x_2.fail (decide ((x_1 : Int) > (max most 0))) 3).left.length : Nat) : Int) : Int) < (x_1 + ((0 - x_1) % 4)))) 4).e : Int) == 0)))] H (by kernel_rfl) fun a H => ?_
    refine ops_end _ ?_
    refine st_cond (!((((x_2.fail (decide ((x_1 : Int) > (max most 0))) 3).fail (decide (((((x_2.fail (decide ((x_1 : Int) > (max most 0))) 3).left.length : Nat) : Int) : Int) < (x_1 + ((0 - x_1) % 4)))) 4).e : Int) == 0)) H (by kernel_rfl) ?_ ?_
    · intro hc2
      have hc2n := notT hc2
      have hc2' := neB (notT hc2)
      refine WK.seq ?_
      refine st_text 1 rfl ?_
      refine st_run 0 1 0 [(4, .slice none 0 0)] H (by kernel_rfl) fun a H => ?_
      refine ops_end _ ?_
      refine st_ret (vs := [.slice none 0 0]) H Tryd.func121 rfl (.tmp (by kernel_rfl) (.nil)) ?_
      have hz : r.bytes most = ([], ((x_2.fail (decide ((x_1 : Int) > (max most 0))) 3).fail (decide (((((x_2.fail (decide ((x_1 : Int) > (max most 0))) 3).left.length : Nat) : Int) : Int) < (x_1 + ((0 - x_1) % 4)))) 4)) := by
        simp only [Rdr.bytes, Rdr.bytes1, Rdr.bytes2, Rdr.bytes3, hc1n, hc2n, hf1, List.length_nil, cond_true, cond_false, Bool.not_true, Bool.not_false, Bool.and_true, Bool.and_false, Bool.true_and, Bool.false_and]
      exact ⟨R, Hp.Le.refl _, ([]), ((x_2.fail (decide ((x_1 : Int) > (max most 0))) 3).fail (decide (((((x_2.fail (decide ((x_1 : Int) > (max most 0))) 3).left.length : Nat) : Int) : Int) < (x_1 + ((0 - x_1) % 4)))) 4), none, 0, hz, RdB.nil _, rfl, H.sat⟩
    · intro hc2
      have hc2n := notF hc2
      have hfo2 := Rdr.fail_ok hc2n
      have hfo2l := congrArg List.length (congrArg Rdr.left hfo2.2)
      have hfo2d := of_decide_eq_false hfo2.1
      have hc2' := eq_of_beq (notF hc2)
      refine WK.skip ?_
      refine WK.seq ?_
      refine st_text 10 rfl ?_
      refine st_run 0 4 6 [(44, .pointer (some ⟨b, 0, none⟩)), (43, .pointer (some ⟨b, 0, none⟩)), (42, .pointer (some ⟨b, 0, none⟩)), (41, .pointer (some ⟨b, 0, none⟩))] H (by kernel_rfl) fun a H => ?_
      obtain ⟨A2, c2, hr_2, X⟩ := rdrR_open H.sat
      have H := St.mk H.sl X
      refine st_op 4 5 (op_val (d := 45) (v := .slice A2 (((x_2.fail (decide ((x_1 : Int) > (max most 0))) 3).fail (decide (((((x_2.fail (decide ((x_1 : Int) > (max most 0))) 3).left.length : Nat) : Int) : Int) < (x_1 + ((0 - x_1) % 4)))) 4).left.length) c2) H (val_ld (k := 0) (t := 26) (off := 0) rfl (by kernel_rfl) rfl (by kernel_rfl)) fun a H => ?_)
      refine st_run 5 2 3 [(47, .int .i64 ((0 - x_1) % 4)), (46, .int .i64 x_1)] H (by kernel_rfl) fun a H => ?_
      refine st_op 7 2 (op_call (d := 48) H (by kernel_rfl) rfl (num_zero A2 c2 (((x_2.fail (decide ((x_1 : Int) > (max most 0))) 3).fail (decide (((((x_2.fail (decide ((x_1 : Int) > (max most 0))) 3).left.length : Nat) : Int) : Int) < (x_1 + ((0 - x_1) % 4)))) 4).left) x_1 ((0 - x_1) % 4) (by first | assumption | omega) (by first | assumption | omega) (by first | assumption | omega) (by first | assumption | omega) H.sat) fun a v w q F => ?_)
      obtain ⟨rfl, X⟩ := q
      have H := St.mk F X
      refine st_run 8 1 1 [(49, .bool (!(((zeroE (((x_2.fail (decide ((x_1 : Int) > (max most 0))) 3).fail (decide (((((x_2.fail (decide ((x_1 : Int) > (max most 0))) 3).left.length : Nat) : Int) : Int) < (x_1 + ((0 - x_1) % 4)))) 4).left) x_1.toNat ((0 - x_1) % 4).toNat) : Int) == 0)))] H (by kernel_rfl) fun a H => ?_
      have H := H.with (rdrR_shut (r := ((x_2.fail (decide ((x_1 : Int) > (max most 0))) 3).fail (decide (((((x_2.fail (decide ((x_1 : Int) > (max most 0))) 3).left.length : Nat) : Int) : Int) < (x_1 + ((0 - x_1) % 4)))) 4)) hr_2 H.sat)
      refine st_op 9 0 (op_call (d := 50) H (by kernel_rfl) rfl (rd_fail b ((x_2.fail (decide ((x_1 : Int) > (max most 0))) 3).fail (decide (((((x_2.fail (decide ((x_1 : Int) > (max most 0))) 3).left.length : Nat) : Int) : Int) < (x_1 + ((0 - x_1) % 4)))) 4) (!(((zeroE (((x_2.fail (decide ((x_1 : Int) > (max most 0))) 3).fail (decide (((((x_2.fail (decide ((x_1 : Int) > (max most 0))) 3).left.length : Nat) : Int) : Int) < (x_1 + ((0 - x_1) % 4)))) 4).left) x_1.toNat ((0 - x_1) % 4).toNat) : Int) == 0)) 5 H.sat) fun a v w q F => ?_)
      have X := q
      have H := St.mk F X
      refine ops_end _ ?_
      refine WK.seq ?_
      refine WK.seq ?_
      refine st_text 3 rfl ?_
      refine st_run 0 1 2 [(51, .pointer (some ⟨b, 0, none⟩))] H (by kernel_rfl) fun a H => ?_
      refine st_op 1 1 (op_call (d := 52) H (by kernel_rfl) rfl (rd_fine b (((x_2.fail (decide ((x_1 : Int) > (max most 0))) 3).fail (decide (((((x_2.fail (decide ((x_1 : Int) > (max most 0))) 3).left.length : Nat) : Int) : Int) < (x_1 + ((0 - x_1) % 4)))) 4).fail (!(((zeroE (((x_2.fail (decide ((x_1 : Int) > (max most 0))) 3).fail (decide (((((x_2.fail (decide ((x_1 : Int) > (max most 0))) 3).left.length : Nat) : Int) : Int) < (x_1 + ((0 - x_1) % 4)))) 4).left) x_1.toNat ((0 - x_1) % 4).toNat) : Int) == 0)) 5) H.sat) fun a v w q F => ?_)
      obtain ⟨rfl, X⟩ := q
      have H := St.mk F X
      refine st_run 2 1 0 [(53, .bool (!(((((x_2.fail (decide ((x_1 : Int) > (max most 0))) 3).fail (decide (((((x_2.fail (decide ((x_1 : Int) > (max most 0))) 3).left.length : Nat) : Int) : Int) < (x_1 + ((0 - x_1) % 4)))) 4).fail (!(((zeroE (((x_2.fail (decide ((x_1 : Int) > (max most 0))) 3).fail (decide (((((x_2.fail (decide ((x_1 : Int) > (max most 0))) 3).left.length : Nat) : Int) : Int) < (x_1 + ((0 - x_1) % 4)))) 4).left) x_1.toNat ((0 - x_1) % 4).toNat) : Int) == 0)) 5).e : Int) == 0)))] H (by kernel_rfl) fun a H => ?_
      refine ops_end _ ?_
      refine st_cond (!(((((x_2.fail (decide ((x_1 : Int) > (max most 0))) 3).fail (decide (((((x_2.fail (decide ((x_1 : Int) > (max most 0))) 3).left.length : Nat) : Int) : Int) < (x_1 + ((0 - x_1) % 4)))) 4).fail (!(((zeroE (((x_2.fail (decide ((x_1 : Int) > (max most 0))) 3).fail (decide (((((x_2.fail (decide ((x_1 : Int) > (max most 0))) 3).left.length : Nat) : Int) : Int) < (x_1 + ((0 - x_1) % 4)))) 4).left) x_1.toNat ((0 - x_1) % 4).toNat) : Int) == 0)) 5).e : Int) == 0)) H (by kernel_rfl) ?_ ?_
      · intro hc3
        have hc3n := notT hc3
        have hc3' := neB (notT hc3)
        refine WK.seq ?_
        refine st_text 1 rfl ?_
        refine st_run 0 1 0 [(4, .slice none 0 0)] H (by kernel_rfl) fun a H => ?_
        refine ops_end _ ?_
        refine st_ret (vs := [.slice none 0 0]) H Tryd.func121 rfl (.tmp (by kernel_rfl) (.nil)) ?_
        have hz : r.bytes most = ([], (((x_2.fail (decide ((x_1 : Int) > (max most 0))) 3).fail (decide (((((x_2.fail (decide ((x_1 : Int) > (max most 0))) 3).left.length : Nat) : Int) : Int) < (x_1 + ((0 - x_1) % 4)))) 4).fail (!(((zeroE (((x_2.fail (decide ((x_1 : Int) > (max most 0))) 3).fail (decide (((((x_2.fail (decide ((x_1 : Int) > (max most 0))) 3).left.length : Nat) : Int) : Int) < (x_1 + ((0 - x_1) % 4)))) 4).left) x_1.toNat ((0 - x_1) % 4).toNat) : Int) == 0)) 5)) := by
          simp only [Rdr.bytes, Rdr.bytes1, Rdr.bytes2, Rdr.bytes3, hc1n, hc2n, hc3n, hf1, List.length_nil, cond_true, cond_false, Bool.not_true, Bool.not_false, Bool.and_true, Bool.and_false, Bool.true_and, Bool.false_and]
        exact ⟨R, Hp.Le.refl _, ([]), (((x_2.fail (decide ((x_1 : Int) > (max most 0))) 3).fail (decide (((((x_2.fail (decide ((x_1 : Int) > (max most 0))) 3).left.length : Nat) : Int) : Int) < (x_1 + ((0 - x_1) % 4)))) 4).fail (!(((zeroE (((x_2.fail (decide ((x_1 : Int) > (max most 0))) 3).fail (decide (((((x_2.fail (decide ((x_1 : Int) > (max most 0))) 3).left.length : Nat) : Int) : Int) < (x_1 + ((0 - x_1) % 4)))) 4).left) x_1.toNat ((0 - x_1) % 4).toNat) : Int) == 0)) 5), none, 0, hz, RdB.nil _, rfl, H.sat⟩
      · intro hc3
        have hc3n := notF hc3
        have hfo3 := Rdr.fail_ok hc3n
        have hfo3l := congrArg List.length (congrArg Rdr.left hfo3.2)
        have hc3' := eq_of_beq (notF hc3)
        refine WK.skip ?_
        refine WK.seq ?_
        refine st_text 8 rfl ?_
        refine st_run 0 3 5 [(56, .pointer (some ⟨b, 0, none⟩)), (55, .pointer (some ⟨b, 0, none⟩)), (54, .pointer (some ⟨b, 0, none⟩))] H (by kernel_rfl) fun a H => ?_
        obtain ⟨A3, c3, hr_3, X⟩ := rdrR_open H.sat
        have H := St.mk H.sl X
        refine st_op 3 4 (op_val (d := 57) (v := .slice A3 ((((x_2.fail (decide ((x_1 : Int) > (max most 0))) 3).fail (decide (((((x_2.fail (decide ((x_1 : Int) > (max most 0))) 3).left.length : Nat) : Int) : Int) < (x_1 + ((0 - x_1) % 4)))) 4).fail (!(((zeroE (((x_2.fail (decide ((x_1 : Int) > (max most 0))) 3).fail (decide (((((x_2.fail (decide ((x_1 : Int) > (max most 0))) 3).left.length : Nat) : Int) : Int) < (x_1 + ((0 - x_1) % 4)))) 4).left) x_1.toNat ((0 - x_1) % 4).toNat) : Int) == 0)) 5).left.length) c3) H (val_ld (k := 0) (t := 26) (off := 0) rfl (by kernel_rfl) rfl (by kernel_rfl)) fun a H => ?_)
        have hr_4 := RdB.sub0 hr_3 (h := x_1.toNat) (by omega)
        refine st_run 4 1 3 [(58, .int .i64 x_1)] H (by kernel_rfl) fun a H => ?_
        refine st_op 5 2 (op_val (d := 59) (v := .slice (subA A3 c3 0 1) (x_1.toNat - 0) (c3 - 0)) H (val_slice (t := 26) (A := A3) (m := ((((x_2.fail (decide ((x_1 : Int) > (max most 0))) 3).fail (decide (((((x_2.fail (decide ((x_1 : Int) > (max most 0))) 3).left.length : Nat) : Int) : Int) < (x_1 + ((0 - x_1) % 4)))) 4).fail (!(((zeroE (((x_2.fail (decide ((x_1 : Int) > (max most 0))) 3).fail (decide (((((x_2.fail (decide ((x_1 : Int) > (max most 0))) 3).left.length : Nat) : Int) : Int) < (x_1 + ((0 - x_1) % 4)))) 4).left) x_1.toNat ((0 - x_1) % 4).toNat) : Int) == 0)) 5).left.length)) (c := c3) none (some (.i64, x_1, x_1.toNat)) (by kernel_rfl) rfl rfl (trivial) (by first | rfl | (simp only [loOk]; omega)) (by simp only [loN]; omega) (by have hx := hr_3.le; simp only [loN]; omega)) fun a H => ?_)
        have H := H.turn (d := 59) (v := .slice (subA A3 c3 0 1) ((((((x_2.fail (decide ((x_1 : Int) > (max most 0))) 3).fail (decide (((((x_2.fail (decide ((x_1 : Int) > (max most 0))) 3).left.length : Nat) : Int) : Int) < (x_1 + ((0 - x_1) % 4)))) 4).fail (!(((zeroE (((x_2.fail (decide ((x_1 : Int) > (max most 0))) 3).fail (decide (((((x_2.fail (decide ((x_1 : Int) > (max most 0))) 3).left.length : Nat) : Int) : Int) < (x_1 + ((0 - x_1) % 4)))) 4).left) x_1.toNat ((0 - x_1) % 4).toNat) : Int) == 0)) 5).left).take x_1.toNat).length) (c3 - 0)) (by first | rfl | (simp only [List.length_take, List.length_drop]; done) | (simp only [List.length_take, List.length_drop]; congr 1 <;> omega))
        refine st_op 6 1 (op_call (d := 60) H (by kernel_rfl) rfl (clone_bytes (subA A3 c3 0 1) (c3 - 0) (((((x_2.fail (decide ((x_1 : Int) > (max most 0))) 3).fail (decide (((((x_2.fail (decide ((x_1 : Int) > (max most 0))) 3).left.length : Nat) : Int) : Int) < (x_1 + ((0 - x_1) % 4)))) 4).fail (!(((zeroE (((x_2.fail (decide ((x_1 : Int) > (max most 0))) 3).fail (decide (((((x_2.fail (decide ((x_1 : Int) > (max most 0))) 3).left.length : Nat) : Int) : Int) < (x_1 + ((0 - x_1) % 4)))) 4).left) x_1.toNat ((0 - x_1) % 4).toNat) : Int) == 0)) 5).left).take x_1.toNat) (by first | assumption | omega) (by first | assumption | omega | (simp only [List.length_take, List.length_drop, List.length_append, be_length]; omega)) H.sat) fun a v w q F => ?_)
        obtain ⟨X_1, x_3, rfl, X⟩ := q
        have H := St.mk F X
        refine st_run 7 1 0 [(8, .slice X_1 ((((((x_2.fail (decide ((x_1 : Int) > (max most 0))) 3).fail (decide (((((x_2.fail (decide ((x_1 : Int) > (max most 0))) 3).left.length : Nat) : Int) : Int) < (x_1 + ((0 - x_1) % 4)))) 4).fail (!(((zeroE (((x_2.fail (decide ((x_1 : Int) > (max most 0))) 3).fail (decide (((((x_2.fail (decide ((x_1 : Int) > (max most 0))) 3).left.length : Nat) : Int) : Int) < (x_1 + ((0 - x_1) % 4)))) 4).left) x_1.toNat ((0 - x_1) % 4).toNat) : Int) == 0)) 5).left).take x_1.toNat).length) x_3)] H (by kernel_rfl) fun a H => ?_
        refine ops_end _ ?_
        refine WK.seq ?_
        refine st_text 12 rfl ?_
        refine st_run 0 4 8 [(64, .pointer (some ⟨b, 0, none⟩)), (63, .pointer (some ⟨b, 0, none⟩)), (62, .pointer (some ⟨b, 0, none⟩)), (61, .pointer (some ⟨b, 0, none⟩))] H (by kernel_rfl) fun a H => ?_
        refine st_op 4 7 (op_val (d := 65) (v := .slice A3 ((((x_2.fail (decide ((x_1 : Int) > (max most 0))) 3).fail (decide (((((x_2.fail (decide ((x_1 : Int) > (max most 0))) 3).left.length : Nat) : Int) : Int) < (x_1 + ((0 - x_1) % 4)))) 4).fail (!(((zeroE (((x_2.fail (decide ((x_1 : Int) > (max most 0))) 3).fail (decide (((((x_2.fail (decide ((x_1 : Int) > (max most 0))) 3).left.length : Nat) : Int) : Int) < (x_1 + ((0 - x_1) % 4)))) 4).left) x_1.toNat ((0 - x_1) % 4).toNat) : Int) == 0)) 5).left.length) c3) H (val_ld (k := 1) (t := 26) (off := 0) rfl (by kernel_rfl) rfl (by kernel_rfl)) fun a H => ?_)
        refine st_run 5 3 4 [(68, .int .i64 (IntKind.i64.wrap (x_1 + ((0 - x_1) % 4)))), (67, .int .i64 ((0 - x_1) % 4)), (66, .int .i64 x_1)] H (by kernel_rfl) fun a H => ?_
        have H := H.turn (d := 68) (u := .int .i64 (IntKind.i64.wrap (x_1 + ((0 - x_1) % 4)))) (v := .int .i64 (x_1 + ((0 - x_1) % 4))) (wI64 (by omega) (by omega))
        have hr_5 := RdB.subE hr_3 (l := (x_1 + ((0 - x_1) % 4)).toNat) (by omega)
        refine st_op 8 3 (op_val (d := 69) (v := .slice (subA A3 c3 ((x_1 + ((0 - x_1) % 4)).toNat) 1) (((((x_2.fail (decide ((x_1 : Int) > (max most 0))) 3).fail (decide (((((x_2.fail (decide ((x_1 : Int) > (max most 0))) 3).left.length : Nat) : Int) : Int) < (x_1 + ((0 - x_1) % 4)))) 4).fail (!(((zeroE (((x_2.fail (decide ((x_1 : Int) > (max most 0))) 3).fail (decide (((((x_2.fail (decide ((x_1 : Int) > (max most 0))) 3).left.length : Nat) : Int) : Int) < (x_1 + ((0 - x_1) % 4)))) 4).left) x_1.toNat ((0 - x_1) % 4).toNat) : Int) == 0)) 5).left.length) - ((x_1 + ((0 - x_1) % 4)).toNat)) (c3 - ((x_1 + ((0 - x_1) % 4)).toNat))) H (val_slice (t := 26) (A := A3) (m := ((((x_2.fail (decide ((x_1 : Int) > (max most 0))) 3).fail (decide (((((x_2.fail (decide ((x_1 : Int) > (max most 0))) 3).left.length : Nat) : Int) : Int) < (x_1 + ((0 - x_1) % 4)))) 4).fail (!(((zeroE (((x_2.fail (decide ((x_1 : Int) > (max most 0))) 3).fail (decide (((((x_2.fail (decide ((x_1 : Int) > (max most 0))) 3).left.length : Nat) : Int) : Int) < (x_1 + ((0 - x_1) % 4)))) 4).left) x_1.toNat ((0 - x_1) % 4).toNat) : Int) == 0)) 5).left.length)) (c := c3) (some (.i64, x_1 + ((0 - x_1) % 4), (x_1 + ((0 - x_1) % 4)).toNat)) none (by kernel_rfl) rfl rfl (by first | rfl | (simp only [loOk]; omega)) (trivial) (by simp only [loN]; omega) (by have hx := hr_3.le; simp only [loN]; omega)) fun a H => ?_)
        have H := H.turn (d := 69) (v := .slice (subA A3 c3 ((x_1 + ((0 - x_1) % 4)).toNat) 1) ((((((x_2.fail (decide ((x_1 : Int) > (max most 0))) 3).fail (decide (((((x_2.fail (decide ((x_1 : Int) > (max most 0))) 3).left.length : Nat) : Int) : Int) < (x_1 + ((0 - x_1) % 4)))) 4).fail (!(((zeroE (((x_2.fail (decide ((x_1 : Int) > (max most 0))) 3).fail (decide (((((x_2.fail (decide ((x_1 : Int) > (max most 0))) 3).left.length : Nat) : Int) : Int) < (x_1 + ((0 - x_1) % 4)))) 4).left) x_1.toNat ((0 - x_1) % 4).toNat) : Int) == 0)) 5).left).drop ((x_1 + ((0 - x_1) % 4)).toNat)).length) (c3 - ((x_1 + ((0 - x_1) % 4)).toNat))) (by first | rfl | (simp only [List.length_take, List.length_drop]; done) | (simp only [List.length_take, List.length_drop]; congr 1 <;> omega))
        refine st_run 9 2 1 [(71, .pointer (some ⟨b, 0, none⟩)), (70, .pointer (some ⟨b, 0, none⟩))] H (by kernel_rfl) fun a H => ?_
        refine st_op 11 0 (op_store (k := 1) (t := 26) (off := 0) (v := .slice (subA A3 c3 ((x_1 + ((0 - x_1) % 4)).toNat) 1) ((((((x_2.fail (decide ((x_1 : Int) > (max most 0))) 3).fail (decide (((((x_2.fail (decide ((x_1 : Int) > (max most 0))) 3).left.length : Nat) : Int) : Int) < (x_1 + ((0 - x_1) % 4)))) 4).fail (!(((zeroE (((x_2.fail (decide ((x_1 : Int) > (max most 0))) 3).fail (decide (((((x_2.fail (decide ((x_1 : Int) > (max most 0))) 3).left.length : Nat) : Int) : Int) < (x_1 + ((0 - x_1) % 4)))) 4).left) x_1.toNat ((0 - x_1) % 4).toNat) : Int) == 0)) 5).left).drop ((x_1 + ((0 - x_1) % 4)).toNat)).length) (c3 - ((x_1 + ((0 - x_1) % 4)).toNat))) H rfl (by kernel_rfl) (by kernel_rfl) fun a w H => ?_)
        refine ops_end _ ?_
        refine WK.seq ?_
        refine st_text 2 rfl ?_
        refine st_run 0 2 0 [(4, .slice X_1 ((((((x_2.fail (decide ((x_1 : Int) > (max most 0))) 3).fail (decide (((((x_2.fail (decide ((x_1 : Int) > (max most 0))) 3).left.length : Nat) : Int) : Int) < (x_1 + ((0 - x_1) % 4)))) 4).fail (!(((zeroE (((x_2.fail (decide ((x_1 : Int) > (max most 0))) 3).fail (decide (((((x_2.fail (decide ((x_1 : Int) > (max most 0))) 3).left.length : Nat) : Int) : Int) < (x_1 + ((0 - x_1) % 4)))) 4).left) x_1.toNat ((0 - x_1) % 4).toNat) : Int) == 0)) 5).left).take x_1.toNat).length) x_3), (72, .slice X_1 ((((((x_2.fail (decide ((x_1 : Int) > (max most 0))) 3).fail (decide (((((x_2.fail (decide ((x_1 : Int) > (max most 0))) 3).left.length : Nat) : Int) : Int) < (x_1 + ((0 - x_1) % 4)))) 4).fail (!(((zeroE (((x_2.fail (decide ((x_1 : Int) > (max most 0))) 3).fail (decide (((((x_2.fail (decide ((x_1 : Int) > (max most 0))) 3).left.length : Nat) : Int) : Int) < (x_1 + ((0 - x_1) % 4)))) 4).left) x_1.toNat ((0 - x_1) % 4).toNat) : Int) == 0)) 5).left).take x_1.toNat).length) x_3)] H (by kernel_rfl) fun a H => ?_
        refine ops_end _ ?_
        refine st_ret (vs := [.slice X_1 ((((((x_2.fail (decide ((x_1 : Int) > (max most 0))) 3).fail (decide (((((x_2.fail (decide ((x_1 : Int) > (max most 0))) 3).left.length : Nat) : Int) : Int) < (x_1 + ((0 - x_1) % 4)))) 4).fail (!(((zeroE (((x_2.fail (decide ((x_1 : Int) > (max most 0))) 3).fail (decide (((((x_2.fail (decide ((x_1 : Int) > (max most 0))) 3).left.length : Nat) : Int) : Int) < (x_1 + ((0 - x_1) % 4)))) 4).left) x_1.toNat ((0 - x_1) % 4).toNat) : Int) == 0)) 5).left).take x_1.toNat).length) x_3]) H Tryd.func121 rfl (.tmp (by kernel_rfl) (.nil)) ?_
        obtain ⟨R1, hle, hr_6, X⟩ := (H.sat.front 0 rfl).bytesO_fix
        have H := St.mk H.sl X
        have hr_1 := hr_1.grow hle
        have hr_2 := hr_2.grow hle
        have hr_3 := hr_3.grow hle
        have hr_4 := hr_4.grow hle
        have hr_5 := hr_5.grow hle
        have hleR1 := hle
        have H := H.with (rdrR_shut (r := (Rdr.mk (((((x_2.fail (decide ((x_1 : Int) > (max most 0))) 3).fail (decide (((((x_2.fail (decide ((x_1 : Int) > (max most 0))) 3).left.length : Nat) : Int) : Int) < (x_1 + ((0 - x_1) % 4)))) 4).fail (!(((zeroE (((x_2.fail (decide ((x_1 : Int) > (max most 0))) 3).fail (decide (((((x_2.fail (decide ((x_1 : Int) > (max most 0))) 3).left.length : Nat) : Int) : Int) < (x_1 + ((0 - x_1) % 4)))) 4).left) x_1.toNat ((0 - x_1) % 4).toNat) : Int) == 0)) 5).left).drop ((x_1 + ((0 - x_1) % 4)).toNat)) ((((x_2.fail (decide ((x_1 : Int) > (max most 0))) 3).fail (decide (((((x_2.fail (decide ((x_1 : Int) > (max most 0))) 3).left.length : Nat) : Int) : Int) < (x_1 + ((0 - x_1) % 4)))) 4).fail (!(((zeroE (((x_2.fail (decide ((x_1 : Int) > (max most 0))) 3).fail (decide (((((x_2.fail (decide ((x_1 : Int) > (max most 0))) 3).left.length : Nat) : Int) : Int) < (x_1 + ((0 - x_1) % 4)))) 4).left) x_1.toNat ((0 - x_1) % 4).toNat) : Int) == 0)) 5).e))) hr_5 H.sat)
        have hz : r.bytes most = ((((((x_2.fail (decide ((x_1 : Int) > (max most 0))) 3).fail (decide (((((x_2.fail (decide ((x_1 : Int) > (max most 0))) 3).left.length : Nat) : Int) : Int) < (x_1 + ((0 - x_1) % 4)))) 4).fail (!(((zeroE (((x_2.fail (decide ((x_1 : Int) > (max most 0))) 3).fail (decide (((((x_2.fail (decide ((x_1 : Int) > (max most 0))) 3).left.length : Nat) : Int) : Int) < (x_1 + ((0 - x_1) % 4)))) 4).left) x_1.toNat ((0 - x_1) % 4).toNat) : Int) == 0)) 5).left).take x_1.toNat), Rdr.mk (((((x_2.fail (decide ((x_1 : Int) > (max most 0))) 3).fail (decide (((((x_2.fail (decide ((x_1 : Int) > (max most 0))) 3).left.length : Nat) : Int) : Int) < (x_1 + ((0 - x_1) % 4)))) 4).fail (!(((zeroE (((x_2.fail (decide ((x_1 : Int) > (max most 0))) 3).fail (decide (((((x_2.fail (decide ((x_1 : Int) > (max most 0))) 3).left.length : Nat) : Int) : Int) < (x_1 + ((0 - x_1) % 4)))) 4).left) x_1.toNat ((0 - x_1) % 4).toNat) : Int) == 0)) 5).left).drop ((x_1 + ((0 - x_1) % 4)).toNat)) ((((x_2.fail (decide ((x_1 : Int) > (max most 0))) 3).fail (decide (((((x_2.fail (decide ((x_1 : Int) > (max most 0))) 3).left.length : Nat) : Int) : Int) < (x_1 + ((0 - x_1) % 4)))) 4).fail (!(((zeroE (((x_2.fail (decide ((x_1 : Int) > (max most 0))) 3).fail (decide (((((x_2.fail (decide ((x_1 : Int) > (max most 0))) 3).left.length : Nat) : Int) : Int) < (x_1 + ((0 - x_1) % 4)))) 4).left) x_1.toNat ((0 - x_1) % 4).toNat) : Int) == 0)) 5).e)) := by
          simp only [Rdr.bytes, Rdr.bytes1, Rdr.bytes2, Rdr.bytes3, hc1n, hc2n, hc3n, hf1, List.length_nil, cond_true, cond_false, Bool.not_true, Bool.not_false, Bool.and_true, Bool.and_false, Bool.true_and, Bool.false_and]
        exact ⟨R1, hleR1, (((((x_2.fail (decide ((x_1 : Int) > (max most 0))) 3).fail (decide (((((x_2.fail (decide ((x_1 : Int) > (max most 0))) 3).left.length : Nat) : Int) : Int) < (x_1 + ((0 - x_1) % 4)))) 4).fail (!(((zeroE (((x_2.fail (decide ((x_1 : Int) > (max most 0))) 3).fail (decide (((((x_2.fail (decide ((x_1 : Int) > (max most 0))) 3).left.length : Nat) : Int) : Int) < (x_1 + ((0 - x_1) % 4)))) 4).left) x_1.toNat ((0 - x_1) % 4).toNat) : Int) == 0)) 5).left).take x_1.toNat), (Rdr.mk (((((x_2.fail (decide ((x_1 : Int) > (max most 0))) 3).fail (decide (((((x_2.fail (decide ((x_1 : Int) > (max most 0))) 3).left.length : Nat) : Int) : Int) < (x_1 + ((0 - x_1) % 4)))) 4).fail (!(((zeroE (((x_2.fail (decide ((x_1 : Int) > (max most 0))) 3).fail (decide (((((x_2.fail (decide ((x_1 : Int) > (max most 0))) 3).left.length : Nat) : Int) : Int) < (x_1 + ((0 - x_1) % 4)))) 4).left) x_1.toNat ((0 - x_1) % 4).toNat) : Int) == 0)) 5).left).drop ((x_1 + ((0 - x_1) % 4)).toNat)) ((((x_2.fail (decide ((x_1 : Int) > (max most 0))) 3).fail (decide (((((x_2.fail (decide ((x_1 : Int) > (max most 0))) 3).left.length : Nat) : Int) : Int) < (x_1 + ((0 - x_1) % 4)))) 4).fail (!(((zeroE (((x_2.fail (decide ((x_1 : Int) > (max most 0))) 3).fail (decide (((((x_2.fail (decide ((x_1 : Int) > (max most 0))) 3).left.length : Nat) : Int) : Int) < (x_1 + ((0 - x_1) % 4)))) 4).left) x_1.toNat ((0 - x_1) % 4).toNat) : Int) == 0)) 5).e)), X_1, x_3, hz, hr_6, rfl, H.sat⟩
end Go.Proofs.YtldnpolfcickaaaDoor
