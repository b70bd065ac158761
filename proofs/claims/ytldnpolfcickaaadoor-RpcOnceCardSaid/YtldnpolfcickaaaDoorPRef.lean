import Derived.Test.YtldnpolfcickaaaDoorPBack
set_option linter.unusedVariables false
set_option linter.unusedSimpArgs false
namespace Go.WH
open Go
theorem byte_wrap (n : Nat) (k : Nat) (hk : k ≤ 7) : Value.int .u8 (IntKind.u8.wrap (Int.fdiv (n : Int) (2 ^ min (8 * k) IntKind.u64.bits))) = Value.int .u8 ((UInt8.ofNat (n / 256 ^ k)).toNat : Int) := by
  have h1 : min (8 * k) IntKind.u64.bits = 8 * k := Nat.min_eq_left (by show 8 * k ≤ 64; omega)
  have h2 : Int.fdiv (n : Int) (2 ^ (8 * k)) = ((n / 256 ^ k : Nat) : Int) := by
    have h3 : (256 : Nat) ^ k = 2 ^ (8 * k) := by rw [Nat.pow_mul]
    have h4 : ((2 : Int) ^ (8 * k)) = ((256 ^ k : Nat) : Int) := by rw [h3, Int.natCast_pow]; rfl
    rw [h4, Int.fdiv_eq_ediv_of_nonneg _ (Int.natCast_nonneg _), ← Int.natCast_ediv]
  rw [h1, h2]
  congr 1
section
variable {P : Program} {ops : Array Oper} {Q : Act → World → Prop} {S : World → Prop} {n i : Nat} {e : World} {R : Hp} {a : Act} {w : World} {fs : List (Nat × Value)} {L : List HP}
/-- append(v, x) of one byte. -/
theorem op_append1 {d c1 c2 : Nat} {t el : TypeId} {z : Value} {bs : List UInt8} {b : UInt8} {A A1 : Option Addr} {K : Act → World → Prop} {Qx : Exit → Act → World → Prop} (H : St n e R a w fs (bytesO el A1 c1 bs :: L))
    (hl : appF ops fs i = some (some d, t, .slice A1 bs.length c1, .slice A 1 c2)) (hd : Nat.blt d n = true) (ht : P.underlying t = some (.slice el)) (hinfo : (P.info? el).map (fun i => (i.zero, i.size, i.bytes)) = some (some z, 1, 1)) (hz : z.cells.size = 1)
    (hsrc : Src w A 1 [.int .u8 (b.toNat : Int)]) (hb : bs.length + 1 ≤ 140737488355328)
    (h : ∀ a' w' A' c', St n e R a' w' ((d, .slice A' (bs ++ [b]).length c') :: fs) (bytesO el A' c' (bs ++ [b]) :: L) → K a' w') : wpOp P ops Qx i K a w := by
  refine op_append (z := z) (ys := [.int .u8 (b.toNat : Int)]) H hl hd ht hinfo hz (by omega) (by omega) rfl hsrc (by intro u hu; rw [List.mem_singleton] at hu; subst hu; rfl) (by omega) fun a' w' v' H' => ?_
  obtain ⟨h1, h2, x, y, dj, e1, h3, h4⟩ := H'.sat.ex
  obtain ⟨A', c', rfl, _⟩ := row_rd h4.1
  refine h a' w' A' c' ?_
  unfold bytesO bytesR
  rw [List.length_append, bytesV_append]
  exact H'
end
end Go.WH
namespace Go.WH
def putBk (q : Int) : List UInt8 := be 4 1 ++ be 4 7 ++ be 8 q.toNat ++ be 4 0 ++ be 4 1 ++ be 4 0 ++ be 4 0 ++ be 4 0 ++ be 4 0 ++ be 8 0 ++ be 8 0 ++ (be 4 0 ++ []) ++ be 4 0
end Go.WH
namespace Go.WH
theorem bareB_pos (c : CallS) : 0 < (bareB c).length := by
  simp only [bareB, List.length_append, be_length]; omega
end Go.WH
