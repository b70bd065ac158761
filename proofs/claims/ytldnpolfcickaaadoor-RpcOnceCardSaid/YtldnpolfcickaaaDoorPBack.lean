import Derived.Test.YtldnpolfcickaaaDoorPCall
set_option linter.unusedVariables false
set_option linter.unusedSimpArgs false
set_option maxRecDepth 100000
namespace Go.WH
open Go
/-! Replies, in plain Lean. -/
structure BackS where
  client : Int
  inc : Int
  seq : Int
  status : Int
  ino : Int
  gen : Int
  dir : Bool
  size : Int
  change : Int
  before : Int
  data : List UInt8
  names : List ByteArray
  boot : Int
def namesR : Nat → Rdr → List ByteArray × Rdr
  | 0, r => ([], r)
  | n + 1, r => ((namesR n r).1 ++ [strB ((namesR n r).2.bytes 4096).1], ((namesR n r).2.bytes 4096).2)
def strLe (a b : ByteArray) : Bool := Op.bytesLess a.toList b.toList || a.toList == b.toList
def namesOk : ByteArray → List ByteArray → Bool
  | _, [] => true
  | l, s :: r => bif nameIs s then (bif (Op.bytesLess s.toList l.toList || s.toList == l.toList) then false else namesOk s r) else false
theorem namesOk_drop {l : ByteArray} {xs : List ByteArray} {j : Nat} (h : j < xs.length) : namesOk l (xs.drop j) = bif nameIs (xs.getD j ByteArray.empty) then (bif (Op.bytesLess (xs.getD j ByteArray.empty).toList l.toList || (xs.getD j ByteArray.empty).toList == l.toList) then false else namesOk (xs.getD j ByteArray.empty) (xs.drop (j + 1))) else false := by
  rw [List.drop_eq_getElem_cons h, List.getD_eq_getElem?_getD, List.getElem?_eq_getElem h]; rfl
def mayB (b : BackS) : Bool :=
  bif decide ((b.client : Int) ≥ 4) then false else bif (b.inc : Int) == 0 then false else bif (b.seq : Int) == 0 then false else bif decide ((b.status : Int) > 9) then false else
  bif decide ((b.size : Int) > 4096) then false else bif decide (((b.data.length : Nat) : Int) > 64) then false else bif decide (((b.names.length : Nat) : Int) > 32) then false else namesOk ByteArray.empty b.names
abbrev backZ : BackS := ⟨0, 0, 0, 0, 0, 0, false, 0, 0, 0, [], [], 0⟩
/-- All but the names; how many these are; what is left. -/
def backR (r : Rdr) : BackS × Int × Rdr :=
  let a1 := r.num 4; let a2 := a1.2.num 4; let a3 := a2.2.num 8; let a4 := a3.2.num 4; let a5 := a4.2.num 4
  let a6 := a5.2.num 4; let a7 := a6.2.num 4; let a8 := a7.2.num 4; let r8 := a8.2.fail (decide ((a8.1 : Int) > 1)) 5; let a9 := r8.num 4; let a10 := a9.2.num 8
  let a11 := a10.2.num 8; let a12 := a11.2.bytes 4096; let a13 := a12.2.num 4
  (⟨min a1.1 255, a2.1, a3.1, min a4.1 255, a6.1, a7.1, (a8.1 : Int) == 1, a9.1, a10.1, a11.1, a12.1, [], a5.1⟩, a13.1, a13.2)
def withNames (b : BackS) (xs : List ByteArray) : BackS := ⟨b.client, b.inc, b.seq, b.status, b.ino, b.gen, b.dir, b.size, b.change, b.before, b.data, xs, b.boot⟩
def getB2 (b : BackS) (n : Nat) (r : Rdr) : BackS × Int :=
  bif ((namesR n r).2.err : Int) == 0 then (bif mayB (withNames b (namesR n r).1) then (withNames b (namesR n r).1, 0) else (backZ, 5)) else (backZ, (namesR n r).2.err)
def getB1 (b : BackS) (m : Int) (r : Rdr) : BackS × Int :=
  bif decide ((m : Int) > 32) then (bif (r.e : Int) == 0 then (backZ, 3) else getB2 b m.toNat r) else getB2 b m.toNat r
def getB (bs : List UInt8) : BackS × Int :=
  bif decide (((bs.length : Nat) : Int) > 4096) then (backZ, 3) else getB1 (backR ⟨bs, 0⟩).1 (backR ⟨bs, 0⟩).2.1 (backR ⟨bs, 0⟩).2.2
/-! Slices of texts of one's own -/
abbrev strsO (el : TypeId) (A : Option Addr) (c : Nat) (xs : List ByteArray) : HP := row el 1 (.slice A xs.length c) xs.length (xs.map Value.string)
theorem Sat.strsO_fix {e w : World} {R : Hp} {L : List HP} {el : Nat} {A : Option Addr} {c : Nat} {xs : List ByteArray} (S : Sat e w R (strsO el A c xs :: L)) : ∃ R', R.Le R' ∧ RdS R' A c xs ∧ Sat e w R' L := by
  obtain ⟨R', h, A', c', hv, r, X⟩ := S.row_fix
  injection hv with h1 h2 h3
  subst h1; subst h3
  exact ⟨R', h, r, X⟩
section
variable {P : Program} {ops : Array Oper} {Q : Act → World → Prop} {S : World → Prop} {n i : Nat} {e : World} {R : Hp} {a : Act} {w : World} {fs : List (Nat × Value)} {L : List HP}
theorem op_appendS {d c1 c2 : Nat} {t el : TypeId} {z : Value} {xs : List ByteArray} {s : ByteArray} {A A1 : Option Addr} {K : Act → World → Prop} {Qx : Exit → Act → World → Prop} (H : St n e R a w fs (strsO el A1 c1 xs :: L))
    (hl : appF ops fs i = some (some d, t, .slice A1 xs.length c1, .slice A 1 c2)) (hd : Nat.blt d n = true) (ht : P.underlying t = some (.slice el)) (hinfo : (P.info? el).map (fun i => (i.zero, i.size, i.bytes)) = some (some z, 1, 16)) (hz : z.cells.size = 1)
    (hsrc : Src w A 1 [.string s]) (hb : xs.length ≤ 4294967296)
    (h : ∀ a' w' A' c', St n e R a' w' ((d, .slice A' (xs ++ [s]).length c') :: fs) (strsO el A' c' (xs ++ [s]) :: L) → K a' w') : wpOp P ops Qx i K a w := by
  refine op_append (z := z) (ys := [.string s]) H hl hd ht hinfo hz (by omega) (by omega) rfl hsrc (by intro u hu; rw [List.mem_singleton] at hu; subst hu; rfl) (by omega) fun a' w' v' H' => ?_
  obtain ⟨h1, h2, x, y, dj, e1, h3, h4⟩ := H'.sat.ex
  obtain ⟨A', c', rfl, _⟩ := row_rd h4.1
  refine h a' w' A' c' ?_
  unfold strsO
  rw [List.length_append, List.map_append]
  exact H'
end
end Go.WH
namespace Go.WH
theorem namesR_length : ∀ (n : Nat) (r : Rdr), (namesR n r).1.length = n
  | 0, _ => rfl
  | n + 1, r => by simp only [namesR, List.length_append, List.length_singleton, namesR_length n r]
end Go.WH
namespace Go.WH
theorem St.toL {n : Nat} {e : World} {R : Hp} {a : Act} {w : World} {fs : List (Nat × Value)} {L M : List HP} (H : St n e R a w fs L) (h : L = M) : St n e R a w fs M := h ▸ H
end Go.WH
namespace Go.WH
/-! What a call fixed, within a drawn region, as one's own. -/
def Hp.less (R R' : Hp) : Hp := fun b => if (R b).isSome then none else R' b
def grown (R R' : Hp) : HP := fun h => h = R.less R'
theorem Hp.less_dj (R R' : Hp) : R.Dj (R.less R') := fun b => by
  cases h : R b with
  | none => exact .inl rfl
  | some o => right; simp [Hp.less, h]
theorem Hp.less_un {R R' : Hp} (hle : R.Le R') : R.un (R.less R') = R' := by
  funext b
  cases h : R b with
  | none => simp [Hp.un, Hp.less, h]
  | some o => simp [Hp.un, Hp.less, h, hle b o h]
theorem Sat.fz {e w : World} {R R' : Hp} {L : List HP} (hle : R.Le R') (S : Sat e w R' L) : Sat e w R (grown R R' :: L) :=
  Sat.thaw (h := R.less R') (by rw [Hp.less_un hle]; exact S) (Hp.less_dj R R') rfl
theorem Sat.unfz {e w : World} {R R' : Hp} {L : List HP} (hle : R.Le R') (S : Sat e w R (grown R R' :: L)) : Sat e w R' L := by
  obtain ⟨h, hh, _, S⟩ := S.freeze
  cases (hh : h = _)
  rwa [Hp.less_un hle] at S
end Go.WH
namespace Go.WH
/-- An operation that is not wanted. -/
theorem op_not {P : Program} {ops : Array Oper} {n i d : Nat} {e : World} {R : Hp} {a : Act} {w : World} {fs : List (Nat × Value)} {L : List HP} {o : Oper} {K : Act → World → Prop} {Qx : Exit → Act → World → Prop} (H : St n e R a w fs L) (ho : ops[i]? = some o) (hw : wantF ops fs o = some false) (hd : o.dst = some d) (hb : Nat.blt d n = true)
    (h : ∀ a', St n e R a' w ((d, undef) :: fs) L → K a' w) : wpOp P ops Qx i K a w := by
  unfold wpOp
  simp only [ho]
  rw [wantF_sound H.sl hw]
  simp only [Bool.false_eq_true, if_false]
  rw [hd]
  exact h _ ⟨H.sl.put hb undef, H.sat⟩
end Go.WH
namespace Go.WH
/-- Is a reply that of the call that is out? -/
def takeB (g : BackS × Int) (cl inc seq : Int) : Bool :=
  bif (g.2 : Int) == 0 then (bif (g.1.client : Int) == cl then (bif (g.1.inc : Int) == inc then (g.1.seq : Int) == seq else false) else false) else false
end Go.WH
