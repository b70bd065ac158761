/- The words of these proofs: heaplets, what a world holds (Sat), what a frame's slots hold (Slots), one judgement on what is left to do (WK), and a law for each kind of step. Nothing here speaks of a program. -/
import Derived.WalkKit
import Derived.KernelRfl
import Derived.OrdersHeld
import Derived.Maps.AppendAt
import Derived.Deep.MidRow
import Derived.Deep.OwnRows
import Derived.Laws.BytesArg
import Derived.Below
import Derived.Deep.Draws
import Derived.RangeFuncLeaves
set_option linter.unusedVariables false
set_option linter.unusedSimpArgs false
namespace Go.WH
open Go

/-! ### Heaplets -/
abbrev Hp := Nat → Option Obj
def Hp.no : Hp := fun _ => none
def Hp.In (h : Hp) (w : World) : Prop := ∀ b o, h b = some o → w.heap[b]? = some o
def Hp.Dj (h k : Hp) : Prop := ∀ b, h b = none ∨ k b = none
def Hp.un (h k : Hp) : Hp := fun b => (h b).or (k b)
def Hp.one (b : Nat) (o : Obj) : Hp := fun c => if c = b then some o else none
abbrev HP := Hp → Prop

theorem Hp.Dj.symm {h k : Hp} (d : h.Dj k) : k.Dj h := fun b => (d b).symm
theorem Hp.no_dj (h : Hp) : Hp.no.Dj h := fun _ => .inl rfl
theorem Hp.dj_no (h : Hp) : h.Dj Hp.no := fun _ => .inr rfl
theorem Hp.un_no (h : Hp) : h.un Hp.no = h := by funext b; simp [Hp.un, Hp.no]
theorem Hp.no_un (h : Hp) : Hp.no.un h = h := by funext b; simp [Hp.un, Hp.no]
theorem Hp.un_comm {h k : Hp} (d : h.Dj k) : h.un k = k.un h := by
  funext b
  rcases d b with e | e <;> simp [Hp.un, e]
theorem Hp.un_assoc (h k l : Hp) : (h.un k).un l = h.un (k.un l) := by
  funext b; simp [Hp.un, Option.or_assoc]
theorem Hp.un_dj {h k l : Hp} : (h.un k).Dj l ↔ h.Dj l ∧ k.Dj l := by
  constructor
  · intro d
    refine ⟨fun b => ?_, fun b => ?_⟩
    · rcases d b with e | e
      · left; simp [Hp.un] at e; exact e.1
      · exact .inr e
    · rcases d b with e | e
      · left; simp [Hp.un] at e; exact e.2
      · exact .inr e
  · rintro ⟨d1, d2⟩ b
    rcases d1 b with e | e
    · rcases d2 b with e2 | e2
      · left; simp [Hp.un, e, e2]
      · exact .inr e2
    · exact .inr e
theorem Hp.dj_un {h k l : Hp} : l.Dj (h.un k) ↔ l.Dj h ∧ l.Dj k :=
  ⟨fun d => let ⟨x, y⟩ := Hp.un_dj.1 d.symm; ⟨x.symm, y.symm⟩, fun ⟨x, y⟩ => (Hp.un_dj.2 ⟨x.symm, y.symm⟩).symm⟩
theorem Hp.un_left {h k : Hp} {b : Nat} {o : Obj} (e : h b = some o) : h.un k b = some o := by simp [Hp.un, e]
theorem Hp.un_right {h k : Hp} {b : Nat} {o : Obj} (d : h.Dj k) (e : k b = some o) : h.un k b = some o := by
  rcases d b with x | x
  · simp [Hp.un, x, e]
  · rw [x] at e; cases e
theorem Hp.un_cases {h k : Hp} {b : Nat} {o : Obj} (e : h.un k b = some o) : h b = some o ∨ k b = some o := by
  simp only [Hp.un, Option.or_eq_some_iff] at e
  rcases e with e | ⟨_, e⟩
  · exact .inl e
  · exact .inr e
theorem Hp.In.un {h k : Hp} {w : World} (a : h.In w) (b : k.In w) : (h.un k).In w := fun c o e => by
  rcases Hp.un_cases e with e | e
  · exact a c o e
  · exact b c o e
theorem Hp.In.left {h k : Hp} {w : World} (a : (h.un k).In w) : h.In w := fun c o e => a c o (Hp.un_left e)
theorem Hp.In.right {h k : Hp} {w : World} (d : h.Dj k) (a : (h.un k).In w) : k.In w := fun c o e => a c o (Hp.un_right d e)
theorem Hp.In.lt {h : Hp} {w : World} (a : h.In w) {b : Nat} {o : Obj} (e : h b = some o) : b < w.heap.size :=
  (Array.getElem?_eq_some_iff.1 (a b o e)).1

/-! ### What a heaplet is -/
def emp : HP := fun h => h = Hp.no
def star (A B : HP) : HP := fun h => ∃ x y, Hp.Dj x y ∧ h = Hp.un x y ∧ A x ∧ B y
def blk (b : Nat) (o : Obj) : HP := fun h => h = Hp.one b o
def pur (p : Prop) : HP := fun h => p ∧ h = Hp.no
def hex {α : Type} (A : α → HP) : HP := fun h => ∃ x, A x h
def all : List HP → HP
  | [] => emp
  | A :: L => star A (all L)

theorem star_comm (A B : HP) : star A B = star B A := by
  funext h
  refine propext ⟨?_, ?_⟩
  · rintro ⟨x, y, d, rfl, a, b⟩; exact ⟨y, x, d.symm, Hp.un_comm d, b, a⟩
  · rintro ⟨x, y, d, rfl, a, b⟩; exact ⟨y, x, d.symm, Hp.un_comm d, b, a⟩
theorem star_assoc (A B C : HP) : star (star A B) C = star A (star B C) := by
  funext h
  refine propext ⟨?_, ?_⟩
  · rintro ⟨_, z, d, rfl, ⟨x, y, d2, rfl, a, b⟩, c⟩
    obtain ⟨d3, d4⟩ := Hp.un_dj.1 d
    exact ⟨x, y.un z, Hp.dj_un.2 ⟨d2, d3⟩, Hp.un_assoc _ _ _, a, y, z, d4, rfl, b, c⟩
  · rintro ⟨x, _, d, rfl, a, y, z, d2, rfl, b, c⟩
    obtain ⟨d3, d4⟩ := Hp.dj_un.1 d
    exact ⟨x.un y, z, Hp.un_dj.2 ⟨d4, d2⟩, (Hp.un_assoc _ _ _).symm, ⟨x, y, d3, rfl, a, b⟩, c⟩
theorem star_left (A B C : HP) : star A (star B C) = star B (star A C) := by
  rw [← star_assoc, star_comm A B, star_assoc]
theorem emp_star (A : HP) : star emp A = A := by
  funext h
  refine propext ⟨?_, fun a => ⟨Hp.no, h, Hp.no_dj _, (Hp.no_un h).symm, rfl, a⟩⟩
  rintro ⟨x, y, d, rfl, rfl, a⟩
  rw [Hp.no_un]; exact a
theorem star_emp (A : HP) : star A emp = A := by rw [star_comm, emp_star]
theorem star_imp {A A' B B' : HP} (f : ∀ h, A h → A' h) (g : ∀ h, B h → B' h) : ∀ h, star A B h → star A' B' h :=
  fun _ ⟨x, y, d, e, a, b⟩ => ⟨x, y, d, e, f _ a, g _ b⟩
theorem all_cons (A : HP) (L : List HP) : all (A :: L) = star A (all L) := rfl
theorem all_append : ∀ (L M : List HP), all (L ++ M) = star (all L) (all M)
  | [], M => (emp_star _).symm
  | A :: L, M => by show star A (all (L ++ M)) = _; rw [all_append L M, ← star_assoc]; rfl
theorem all_front : ∀ {L : List HP} {k : Nat} {A : HP}, L[k]? = some A → all L = star A (all (L.eraseIdx k))
  | [], k, A, h => by simp at h
  | B :: L, 0, A, h => by simp at h; subst h; rfl
  | B :: L, k + 1, A, h => by
    have h' : L[k]? = some A := by simpa using h
    show star B (all L) = star A (star B (all (L.eraseIdx k)))
    rw [all_front h', star_left]
theorem all_set : ∀ {L : List HP} {k : Nat} {A : HP} (B : HP), L[k]? = some A → all (L.set k B) = star B (all (L.eraseIdx k))
  | [], k, A, B, h => by simp at h
  | C :: L, 0, A, B, h => rfl
  | C :: L, k + 1, A, B, h => by
    have h' : L[k]? = some A := by simpa using h
    show star C (all (L.set k B)) = star B (star C (all (L.eraseIdx k)))
    rw [all_set B h', star_left]

/-- Those of a list that a mask lets by; behind the mask all. -/
def msk : List Bool → List HP → List HP
  | [], L => L
  | _, [] => []
  | true :: bs, A :: L => A :: msk bs L
  | false :: bs, _ :: L => msk bs L

/-! ### What a world holds: R is read alone, L is owned -/
structure Sat (e w : World) (R : Hp) (L : List HP) : Prop where
  os : w.os = e.os
  tape : w.tape = e.tape
  output : w.output = e.output
  ro : R.In w
  ex : ∃ h, h.In w ∧ R.Dj h ∧ all L h

section
variable {e w : World} {R : Hp} {L : List HP} {A B : HP}

theorem Sat.cast {M : List HP} (S : Sat e w R L) (h : all L = all M) : Sat e w R M :=
  ⟨S.os, S.tape, S.output, S.ro, h ▸ S.ex⟩
theorem Sat.imp {M : List HP} (S : Sat e w R L) (f : ∀ h, all L h → all M h) : Sat e w R M :=
  ⟨S.os, S.tape, S.output, S.ro, let ⟨h, a, b, c⟩ := S.ex; ⟨h, a, b, f h c⟩⟩
theorem Sat.head (S : Sat e w R (A :: L)) (f : ∀ h, A h → B h) : Sat e w R (B :: L) :=
  S.imp (star_imp f fun _ h => h)
theorem Sat.tail (S : Sat e w R (A :: L)) : Sat e w R L := by
  obtain ⟨h, a, b, x, y, d, rfl, _, c⟩ := S.ex
  exact ⟨S.os, S.tape, S.output, S.ro, y, a.right d, (Hp.dj_un.1 b).2, c⟩
theorem Sat.nil (S : Sat e w R L) : Sat e w R [] :=
  ⟨S.os, S.tape, S.output, S.ro, Hp.no, (fun _ _ h => by cases h), Hp.dj_no _, rfl⟩
theorem Sat.front (S : Sat e w R L) (k : Nat) (h : L[k]? = some A) : Sat e w R (A :: L.eraseIdx k) := S.cast (all_front h)
theorem Sat.back (k : Nat) (h : L[k]? = some A) (S : Sat e w R (B :: L.eraseIdx k)) : Sat e w R (L.set k B) := S.cast (all_set B h).symm
theorem Sat.drop (S : Sat e w R L) (k : Nat) (h : L[k]? = some A) : Sat e w R (L.eraseIdx k) := (S.front k h).tail
theorem Sat.split (S : Sat e w R (star A B :: L)) : Sat e w R (A :: B :: L) := S.cast (star_assoc _ _ _)
theorem Sat.join (S : Sat e w R (A :: B :: L)) : Sat e w R (star A B :: L) := S.cast (star_assoc _ _ _).symm
theorem Sat.emp_ (S : Sat e w R (emp :: L)) : Sat e w R L := S.tail
theorem Sat.mkemp (S : Sat e w R L) : Sat e w R (emp :: L) := S.cast (emp_star _).symm
theorem Sat.open_ {α : Type} {C : α → HP} (S : Sat e w R (hex C :: L)) : ∃ x, Sat e w R (C x :: L) := by
  obtain ⟨h, a, b, x, y, d, rfl, ⟨v, hv⟩, c⟩ := S.ex
  exact ⟨v, S.os, S.tape, S.output, S.ro, _, a, b, x, y, d, rfl, hv, c⟩
theorem Sat.shut {α : Type} {C : α → HP} (x : α) (S : Sat e w R (C x :: L)) : Sat e w R (hex C :: L) := S.head fun _ h => ⟨x, h⟩
theorem Sat.pure_ {p : Prop} (S : Sat e w R (pur p :: L)) : p := by
  obtain ⟨h, a, b, x, y, d, rfl, ⟨hp, _⟩, c⟩ := S.ex
  exact hp
theorem Sat.mkpure {p : Prop} (hp : p) (S : Sat e w R L) : Sat e w R (pur p :: L) :=
  S.imp fun h a => ⟨Hp.no, h, Hp.no_dj _, (Hp.no_un h).symm, ⟨hp, rfl⟩, a⟩
theorem Sat.starpure {p : Prop} (S : Sat e w R (star (pur p) A :: L)) : p ∧ Sat e w R (A :: L) := ⟨S.split.pure_, S.split.tail⟩
theorem Sat.mkstarpure {p : Prop} (hp : p) (S : Sat e w R (A :: L)) : Sat e w R (star (pur p) A :: L) := (S.mkpure hp).join

theorem Sat.dropZ {Z : List HP} (S : Sat e w R (L ++ Z)) : Sat e w R L := by
  obtain ⟨h, a, b, c⟩ := S.ex
  rw [all_append] at c
  obtain ⟨x, y, d, rfl, hx, hy⟩ := c
  exact ⟨S.os, S.tape, S.output, S.ro, x, a.left, (Hp.dj_un.1 b).1, hx⟩
theorem Sat.frontZ {Z : List HP} (S : Sat e w R (L ++ Z)) (k : Nat) (h : L[k]? = some A) : Sat e w R ((A :: L.eraseIdx k) ++ Z) := S.cast (by
  rw [all_append, all_append, all_cons, all_front h])
theorem msk_imp : ∀ (bs : List Bool) (L : List HP) (h : Hp), all L h → ∃ x y, Hp.Dj x y ∧ h = Hp.un x y ∧ all (msk bs L) x
  | [], L, h, a => ⟨h, Hp.no, Hp.dj_no _, (Hp.un_no h).symm, by cases L <;> exact a⟩
  | true :: bs, [], h, a => ⟨h, Hp.no, Hp.dj_no _, (Hp.un_no h).symm, a⟩
  | false :: bs, [], h, a => ⟨h, Hp.no, Hp.dj_no _, (Hp.un_no h).symm, a⟩
  | true :: bs, B :: L, h, ⟨x, y, d, e, hB, hL⟩ => by
    obtain ⟨u, v, d2, rfl, hu⟩ := msk_imp bs L y hL
    subst e
    obtain ⟨d3, d4⟩ := Hp.dj_un.1 d
    exact ⟨x.un u, v, Hp.un_dj.2 ⟨d4, d2⟩, (Hp.un_assoc _ _ _).symm, x, u, d3, rfl, hB, hu⟩
  | false :: bs, B :: L, h, ⟨x, y, d, e, hB, hL⟩ => by
    obtain ⟨u, v, d2, rfl, hu⟩ := msk_imp bs L y hL
    subst e
    obtain ⟨d3, d4⟩ := Hp.dj_un.1 d
    refine ⟨u, x.un v, Hp.dj_un.2 ⟨d3.symm, d2⟩, ?_, hu⟩
    rw [← Hp.un_assoc, Hp.un_comm d3, Hp.un_assoc]
theorem Sat.msk (S : Sat e w R L) (bs : List Bool) : Sat e w R (WH.msk bs L) := by
  obtain ⟨h, a, b, c⟩ := S.ex
  obtain ⟨x, y, d, rfl, hx⟩ := msk_imp bs L h c
  exact ⟨S.os, S.tape, S.output, S.ro, x, a.left, (Hp.dj_un.1 b).1, hx⟩
theorem Sat.mskZ {M Z : List HP} (bs : List Bool) (S : Sat e w R (L ++ Z)) (h : WH.msk bs L = M) : Sat e w R M := h ▸ S.dropZ.msk bs

/-- What is owned becomes what is read alone; and back. -/
theorem Sat.freeze (S : Sat e w R (A :: L)) : ∃ h, A h ∧ R.Dj h ∧ Sat e w (R.un h) L := by
  obtain ⟨h, a, b, x, y, d, rfl, hA, c⟩ := S.ex
  obtain ⟨b1, b2⟩ := Hp.dj_un.1 b
  exact ⟨x, hA, b1, S.os, S.tape, S.output, S.ro.un a.left, y, a.right d, Hp.un_dj.2 ⟨b2, d⟩, c⟩
theorem Sat.thaw {h : Hp} (S : Sat e w (R.un h) L) (d : R.Dj h) (hA : A h) : Sat e w R (A :: L) := by
  obtain ⟨x, a, b, c⟩ := S.ex
  obtain ⟨b1, b2⟩ := Hp.un_dj.1 b
  exact ⟨S.os, S.tape, S.output, S.ro.left, h.un x, (S.ro.right d).un a, Hp.dj_un.2 ⟨d, b1⟩, h, x, b2, rfl, hA, c⟩
theorem Sat.ofun {h : Hp} (S : Sat e w (R.un h) L) : Sat e w R L := by
  obtain ⟨x, a, b, c⟩ := S.ex
  exact ⟨S.os, S.tape, S.output, S.ro.left, x, a, (Hp.un_dj.1 b).1, c⟩

/-! Blocks -/
theorem Sat.rd (S : Sat e w R L) {b : Nat} {o : Obj} (h : R b = some o) : w.heap[b]? = some o := S.ro b o h
theorem Sat.blk (S : Sat e w R L) {k b : Nat} {o : Obj} (h : L[k]? = some (blk b o)) : w.heap[b]? = some o := by
  obtain ⟨_, a, _, x, y, d, rfl, rfl, _⟩ := (S.front k h).ex
  exact a.left b o (by simp [Hp.one])
theorem Sat.drew (S : Sat e w R L) : Sat e w.drew R L := ⟨S.os, S.tape, S.output, S.ro, S.ex⟩
theorem Sat.drewN (S : Sat e w R L) (n : Nat) : Sat e (w.drewN n) R L := ⟨S.os, S.tape, S.output, S.ro, S.ex⟩
/-- Another world that has all that this one has, and a new block. -/
theorem Sat.fresh (S : Sat e w R L) {w1 : World} (hos : w1.os = w.os) (ht : w1.tape = w.tape) (ho : w1.output = w.output)
    (hold : ∀ c, c < w.heap.size → w1.heap[c]? = w.heap[c]?) {b : Nat} {o : Obj} (hb : w.heap.size ≤ b) (hn : w1.heap[b]? = some o) : Sat e w1 R (WH.blk b o :: L) := by
  have mv : ∀ {h : Hp}, h.In w → h.In w1 := fun a c p q => by rw [hold c (a.lt q)]; exact a c p q
  obtain ⟨h, a, d, c⟩ := S.ex
  have far : ∀ {h : Hp}, h.In w → h.Dj (Hp.one b o) := fun {h} a c => by
    by_cases e : c = b
    · left
      cases hc : h c with
      | none => rfl
      | some p => have := a.lt hc; omega
    · right; simp [Hp.one, e]
  refine ⟨hos.trans S.os, ht.trans S.tape, ho.trans S.output, mv S.ro, (Hp.one b o).un h, Hp.In.un (fun c p q => ?_) (mv a), Hp.dj_un.2 ⟨far S.ro, d⟩, Hp.one b o, h, (far a).symm, rfl, rfl, c⟩
  simp only [Hp.one] at q
  split at q
  · rename_i e; subst e; injection q with q; subst q; exact hn
  · cases q
theorem Sat.same (S : Sat e w R L) {w1 : World} (hos : w1.os = w.os) (ht : w1.tape = w.tape) (ho : w1.output = w.output)
    (hold : ∀ c, c < w.heap.size → w1.heap[c]? = w.heap[c]?) : Sat e w1 R L := by
  have mv : ∀ {h : Hp}, h.In w → h.In w1 := fun a c p q => by rw [hold c (a.lt q)]; exact a c p q
  obtain ⟨h, a, d, c⟩ := S.ex
  exact ⟨hos.trans S.os, ht.trans S.tape, ho.trans S.output, mv S.ro, h, mv a, d, c⟩
theorem heap_alloc_ (w : World) (o : Obj) (c : Nat) (hc : c < w.heap.size) : (w.alloc o).heap[c]? = w.heap[c]? := by
  show (w.heap.push o)[c]? = _
  rw [Array.getElem?_push, if_neg (by omega)]
theorem heap_alloc_at (w : World) (o : Obj) : (w.alloc o).heap[w.heap.size]? = some o := by
  show (w.heap.push o)[w.heap.size]? = _
  rw [Array.getElem?_push, if_pos rfl]
theorem heap_setCell_ (w : World) (a : Addr) (u : Value) (k : Nat) (h : k ≠ a.block) : (w.setCell a u).heap[k]? = w.heap[k]? := by
  simp only [World.setCell, Array.getElem?_modify]
  rw [if_neg (by omega)]
theorem Sat.alloc (S : Sat e w R L) (o : Obj) : Sat e (w.alloc o) R (WH.blk w.heap.size o :: L) :=
  S.fresh (w1 := w.alloc o) rfl rfl rfl (fun c hc => heap_alloc_ _ _ _ hc) (Nat.le_refl _) (heap_alloc_at w o)
/-- One owned block is turned. -/
theorem Sat.turn (S : Sat e w R L) {w1 : World} (hos : w1.os = w.os) (ht : w1.tape = w.tape) (ho : w1.output = w.output) {k b : Nat} {o o' : Obj}
    (hk : L[k]? = some (WH.blk b o)) (hold : ∀ c, c < w.heap.size → c ≠ b → w1.heap[c]? = w.heap[c]?) (hn : w1.heap[b]? = some o') : Sat e w1 R (L.set k (WH.blk b o')) := by
  obtain ⟨h, a, d, x, y, dxy, rfl, rfl, c⟩ := (S.front k hk).ex
  obtain ⟨d1, d2⟩ := Hp.dj_un.1 d
  have mv : ∀ {h : Hp}, h.In w → h.Dj (Hp.one b o) → h.In w1 := fun a dj c p q => by
    have hne : c ≠ b := by
      rintro rfl
      rcases dj c with z | z
      · rw [z] at q; cases q
      · simp [Hp.one] at z
    rw [hold c (a.lt q) hne]; exact a c p q
  have far : ∀ {h : Hp}, h.Dj (Hp.one b o) → h.Dj (Hp.one b o') := fun dj c => by
    rcases dj c with z | z
    · exact .inl z
    · right
      simp only [Hp.one] at z ⊢
      split at z
      · cases z
      · rename_i z2; rw [if_neg z2]
  refine Sat.back (B := WH.blk b o') k hk ⟨hos.trans S.os, ht.trans S.tape, ho.trans S.output, mv S.ro d1, (Hp.one b o').un y, Hp.In.un (fun c p q => ?_) (mv (a.right dxy) dxy.symm), Hp.dj_un.2 ⟨far d1, d2⟩, Hp.one b o', y, (far dxy.symm).symm, rfl, rfl, c⟩
  simp only [Hp.one] at q
  split at q
  · rename_i e; subst e; injection q with q; subst q; exact hn
  · cases q
theorem heap_setCell_self (w : World) (b i : Nat) (cs : Array Value) (T : TypeId) (fr : Nat × Nat) (v : Value) (h : w.heap[b]? = some (.cells cs T fr)) :
    (w.setCell ⟨b, i, none⟩ v).heap[b]? = some (.cells (cs.setIfInBounds i v) T fr) := by
  simp [World.setCell, Array.getElem?_modify, h]
theorem Sat.setCell (S : Sat e w R L) {k b i : Nat} {cs : Array Value} {T : TypeId} {fr : Nat × Nat} (hk : L[k]? = some (WH.blk b (.cells cs T fr))) (v : Value) :
    Sat e (w.setCell ⟨b, i, none⟩ v) R (L.set k (WH.blk b (.cells (cs.setIfInBounds i v) T fr))) :=
  S.turn (w1 := w.setCell ⟨b, i, none⟩ v) rfl rfl rfl hk (fun c _ hc => heap_setCell_ _ _ _ _ hc) (heap_setCell_self w b i cs T fr v (S.blk hk))
end
/-! ### Frames -/
def look : Nat → List (Nat × Value) → Option Value
  | _, [] => none
  | t, p :: fs => bif Nat.beq t p.1 then some p.2 else look t fs

structure Slots (n : Nat) (a : Act) (fs : List (Nat × Value)) : Prop where
  size : a.tmps.size = n
  defs : a.defers = []
  at_ : ∀ t v, look t fs = some v → a.tmps[t]? = some v

def evalF (fs : List (Nat × Value)) : Operand → Option Value
  | .tmp t => look t fs
  | .const v => some v
  | .global g => some (.pointer (some ⟨g, 0, none⟩))
  | .func f => some (.func (.func f) #[] #[])
def evalD (fs : List (Nat × Value)) (x : Operand) : Value := match evalF fs x with | some v => v | none => undef
def known (fs : List (Nat × Value)) (x : Operand) : Bool := match evalF fs x with | some _ => true | none => false

theorem Slots.eval {n : Nat} {a : Act} {fs : List (Nat × Value)} (H : Slots n a fs) {x : Operand} {v : Value} (h : evalF fs x = some v) : a.eval x = v := by
  cases x with
  | tmp t =>
    have := H.at_ t v h
    simp [Act.eval, Array.getD_eq_getD_getElem?, this]
  | const u => injection h
  | global g => injection h
  | func f => injection h
theorem Slots.evalD {n : Nat} {a : Act} {fs : List (Nat × Value)} (H : Slots n a fs) {x : Operand} (h : known fs x = true) : a.eval x = WH.evalD fs x := by
  unfold known at h
  unfold WH.evalD
  cases hv : evalF fs x with
  | none => rw [hv] at h; cases h
  | some v => exact H.eval hv
theorem beq_ne {t d : Nat} (h : ¬t = d) : Nat.beq t d = false := by
  cases e : Nat.beq t d with
  | false => rfl
  | true => exact absurd (Nat.eq_of_beq_eq_true e) h
theorem Slots.put {n : Nat} {a : Act} {fs : List (Nat × Value)} (H : Slots n a fs) {d : Nat} (hd : Nat.blt d n = true) (v : Value) : Slots n (a.put (some d) v) ((d, v) :: fs) := by
  have hd' : d < n := Nat.le_of_ble_eq_true hd
  refine ⟨by simp [Act.put, H.size], H.defs, fun t u h => ?_⟩
  simp only [look] at h
  by_cases e : t = d
  · subst e
    simp at h
    subst h
    simp [Act.put, H.size, hd']
  · have : Nat.beq t d = false := beq_ne e
    rw [this] at h
    simp only [cond_false] at h
    simp only [Act.put]
    rw [Array.getElem?_setIfInBounds_ne (Ne.symm e)]
    exact H.at_ t u h
theorem Slots.put0 {n : Nat} {a : Act} {fs : List (Nat × Value)} (H : Slots n a fs) (v : Value) : Slots n (a.put none v) fs := H
/-- What is known of a slot that is not asked for any more may be forgotten; what is the same may be written otherwise. -/
theorem Slots.sub {n : Nat} {a : Act} {fs gs : List (Nat × Value)} (H : Slots n a fs) (h : ∀ p ∈ gs, look p.1 fs = some p.2) (hu : (gs.map (·.1)).Nodup ∨ True) : Slots n a gs := by
  refine ⟨H.size, H.defs, fun t v hv => H.at_ t v ?_⟩
  induction gs with
  | nil => simp [look] at hv
  | cons p gs ih =>
    simp only [look] at hv
    by_cases e : t = p.1
    · subst e
      simp at hv
      subst hv
      exact h p (List.mem_cons_self ..)
    · have : Nat.beq t p.1 = false := beq_ne e
      rw [this] at hv
      exact ih (fun q hq => h q (List.mem_cons_of_mem _ hq)) (.inr trivial) hv
/-- The same, by looking: 'gs' is given, each of its slots is found in 'fs'. -/
def subF (fs : List (Nat × Value)) : List (Nat × Value) → Prop
  | [] => True
  | p :: gs => look p.1 fs = some p.2 ∧ subF fs gs
theorem Slots.sub' {n : Nat} {a : Act} {fs gs : List (Nat × Value)} (H : Slots n a fs) (h : subF fs gs) : Slots n a gs := by
  refine H.sub (fun p hp => ?_) (.inr trivial)
  induction gs with
  | nil => cases hp
  | cons q gs ih =>
    rcases List.mem_cons.1 hp with rfl | hp
    · exact h.1
    · exact ih h.2 hp
/-- Only these slots. -/
def pick (fs : List (Nat × Value)) : List Nat → List (Nat × Value)
  | [] => []
  | t :: ts => match look t fs with | some v => (t, v) :: pick fs ts | none => pick fs ts
theorem look_pick (fs : List (Nat × Value)) : ∀ (ts : List Nat) (t : Nat) (v : Value), look t (pick fs ts) = some v → look t fs = some v
  | [], t, v, h => by simp [pick, look] at h
  | u :: ts, t, v, h => by
    simp only [pick] at h
    split at h
    · rename_i x hx
      simp only [look] at h
      by_cases e : t = u
      · subst e; simp at h; subst h; exact hx
      · have : Nat.beq t u = false := beq_ne e
        rw [this] at h
        exact look_pick fs ts t v h
    · exact look_pick fs ts t v h
theorem Slots.pick {n : Nat} {a : Act} {fs : List (Nat × Value)} (H : Slots n a fs) (ts : List Nat) : Slots n a (WH.pick fs ts) :=
  ⟨H.size, H.defs, fun t v h => H.at_ t v (look_pick fs ts t v h)⟩

/-- Frame and world together. -/
structure St (n : Nat) (e : World) (R : Hp) (a : Act) (w : World) (fs : List (Nat × Value)) (L : List HP) : Prop where
  sl : Slots n a fs
  sat : Sat e w R L

/-! ### One judgement on what is left to do in a frame: a function's own, or a round's of a range over a function -/
/-- Whose a frame is; in which loop's round, if it is a round's; the marks that ranges over functions have left behind the frame's own deferred calls. -/
structure Fk where
  fn : FuncId
  ro : Option Nat
  ds : List Deferred
abbrev fk (f : FuncId) : Fk := ⟨f, none, []⟩
def wd (a : Act) (D : List Deferred) : Act := { a with defers := a.defers ++ D }
theorem wd_eval (a : Act) (D : List Deferred) : (wd a D).eval = a.eval := by
  funext x; cases x <;> rfl
theorem wd_put (a : Act) (D : List Deferred) (dst : Option Tmp) (v : Value) : (wd a D).put dst v = wd (a.put dst v) D := by
  cases dst <;> rfl
theorem wd_nil (a : Act) (h : a.defers = []) (D : List Deferred) : wd a D = { a with defers := D } := by simp [wd, h]
/-- A machine comes to its frame's end. -/
def Fin (P : Program) (f : Fk) (Rr : Ending → World → Prop) (m : Machine) (cs : List Frame) : Prop :=
  match f.ro with
  | none => ∃ e w' fr, Rr e w' ∧ Comes P m (lone fr cs w') e ∧ fr.fn = f.fn ∧ fr.leaving P w' e
  | some _ => ∀ c cs', cs = c :: cs' → ∃ v w', Rr (.returned v) w' ∧ Steps P m (lone (c.finish v) cs' w')
theorem Fin.of_steps {P : Program} {f : Fk} {Rr : Ending → World → Prop} {m m1 : Machine} {cs : List Frame} (h : Steps P m m1) (h' : Fin P f Rr m1 cs) : Fin P f Rr m cs := by
  unfold Fin at *
  split at h'
  · obtain ⟨e, w', fr, r, c, x⟩ := h'
    exact ⟨e, w', fr, r, .of_steps h c, x⟩
  · intro c cs' e
    obtain ⟨v, w', r, s⟩ := h' c cs' e
    exact ⟨v, w', r, h.trans s⟩
def WK (P : Program) (f : Fk) (Rr : Ending → World → Prop) (todo : List Item) (a : Act) (w : World) : Prop :=
  ∀ (b : Frame) (cs : List Frame), b.fn = f.fn → b.kind = .normal → b.roundOf = f.ro → Fin P f Rr (lone (b.atR (wd a f.ds) todo) cs w) cs

section
variable {P : Program} {f : Fk} {Rr : Ending → World → Prop} {k : List Item} {a a' : Act} {w w' : World}

theorem WK.of_steps {todo todo' : List Item} (h : ∀ (b : Frame) cs, b.fn = f.fn → b.kind = .normal → b.roundOf = f.ro → Steps P (lone (b.atR (wd a f.ds) todo) cs w) (lone (b.atR (wd a' f.ds) todo') cs w'))
    (h' : WK P f Rr todo' a' w') : WK P f Rr todo a w := fun b cs hf hk hr => Fin.of_steps (h b cs hf hk hr) (h' b cs hf hk hr)
theorem WK.seq {x y : Code} (h : WK P f Rr (.code x :: .code y :: k) a w) : WK P f Rr (.code (.seq x y) :: k) a w := .of_steps (fun _ _ _ _ _ => .one stepR_seq) h
theorem WK.skip (h : WK P f Rr k a w) : WK P f Rr (.code .skip :: k) a w := .of_steps (fun _ _ _ _ _ => .one stepR_skip) h
theorem WK.label {l : Nat} (h : WK P f Rr k a w) : WK P f Rr (.code (.label l) :: k) a w := .of_steps (fun _ _ _ _ _ => .one stepR_label) h
theorem WK.inBlock {id : Nat} (h : WK P f Rr k a w) : WK P f Rr (.inBlock id :: k) a w := .of_steps (fun _ _ _ _ _ => .one stepR_inBlock) h
theorem WK.block {id : Nat} {c : Code} (h : WK P f Rr (.code c :: .inBlock id :: k) a w) : WK P f Rr (.code (.block id c) :: k) a w := .of_steps (fun _ _ _ _ _ => .one stepR_block) h
theorem WK.exit {id : Nat} {k' : List Item} (he : exitTo id k = some k') (h : WK P f Rr k' a w) : WK P f Rr (.code (.exit id) :: k) a w := .of_steps (fun _ _ _ _ _ => .one (stepR_exit he)) h
theorem WK.goto {l : Nat} {k' : List Item} (he : gotoIn l k = some k') (h : WK P f Rr k' a w) : WK P f Rr (.code (.goto l) :: k) a w := .of_steps (fun _ _ _ _ _ => .one (stepR_goto he)) h
theorem WK.cond {c : Operand} {x y : Code} {t : Bool} (hc : a.eval c = .bool t) (h : WK P f Rr (.code (if t then x else y) :: k) a w) : WK P f Rr (.code (.cond c x y) :: k) a w := .of_steps (fun _ _ _ _ _ => .one (stepR_cond (by rw [wd_eval]; exact hc))) h
theorem step_scope {b : Frame} {cs : List Frame} {c : Code} : step P (lone (b.atR a (.code (.scope c) :: k)) cs w) = .next (lone (b.atR a (.code c :: .inScope c :: k)) cs w) :=
  step_lone_go (by simp [stepG, stepG.exec, Frame.atR])
theorem step_inScope {b : Frame} {cs : List Frame} {c : Code} : step P (lone (b.atR a (.inScope c :: k)) cs w) = .next (lone (b.atR a k) cs w) :=
  step_lone_go (by simp [stepG, stepG.exec, Frame.atR])
theorem WK.scope {c : Code} (h : WK P f Rr (.code c :: .inScope c :: k) a w) : WK P f Rr (.code (.scope c) :: k) a w := .of_steps (fun _ _ _ _ _ => .one step_scope) h
theorem WK.inScope {c : Code} (h : WK P f Rr k a w) : WK P f Rr (.inScope c :: k) a w := .of_steps (fun _ _ _ _ _ => .one step_inScope) h
/-- A loop, by a measure: behind a round the rest of the loop is had. -/
theorem WK.loop {c : Code} (I : Nat → Act → World → Prop) (m : Nat) (h0 : I m a w)
    (h : ∀ m a w, I m a w → (∀ m' a' w', m' < m → I m' a' w' → WK P f Rr (.inLoop c :: k) a' w') → WK P f Rr (.code c :: .inLoop c :: k) a w) :
    WK P f Rr (.code (.loop c) :: k) a w := by
  have key : ∀ m a w, I m a w → WK P f Rr (.inLoop c :: k) a w := by
    intro m
    induction m using Nat.strongRecOn with
    | _ m ih => exact fun a w hI => .of_steps (fun _ _ _ _ _ => .one stepR_inLoop) (h m a w hI fun m' a' w' hm hI' => ih m' hm a' w' hI')
  exact .of_steps (fun _ _ _ _ _ => .one stepR_loop) (h m a w h0 fun m' a' w' _ hI' => key m' a' w' hI')
theorem WK.ret {f : FuncId} {fn : Func} {v : Value} (hf : P.funcs[f]? = some fn) (hd : a.defers = []) (hv : (results fn a.tmps).run P w = .ok v w) (h : Rr (.returned v) w) :
    WK P (fk f) Rr (.code .ret :: k) a w := fun b cs hb hk hr =>
  ⟨.returned v, w, _, h, .one (stepR_ret hr), hb, rfl, by simp [Frame.atR, wd, hd], hk, fn, (show P.funcs[b.fn]? = some fn from (show b.fn = f from hb) ▸ hf), hv⟩
theorem WK.end_ {f : FuncId} {fn : Func} {v : Value} (hf : P.funcs[f]? = some fn) (hd : a.defers = []) (hv : (results fn a.tmps).run P w = .ok v w) (h : Rr (.returned v) w) :
    WK P (fk f) Rr [] a w := fun b cs hb hk hr =>
  ⟨.returned v, w, _, h, .one (stepR_end hr), hb, rfl, by simp [Frame.atR, wd, hd], hk, fn, (show P.funcs[b.fn]? = some fn from (show b.fn = f from hb) ▸ hf), hv⟩
/-- The same behind a range over a function: its mark is taken. -/
theorem WK.ret1 {f : FuncId} {fn : Func} {v : Value} {r : Nat} {as : Array Value} (hf : P.funcs[f]? = some fn) (hd : a.defers = []) (ht : (Instr.takeDeferred r).run P w = .ok [] w') (hv : (results fn a.tmps).run P w' = .ok v w') (h : Rr (.returned v) w') :
    WK P ⟨f, none, [⟨.collected r, as⟩]⟩ Rr (.code .ret :: k) a w := fun b cs hb hk hr => by
  refine ⟨.returned v, w', { b.atR (wd a [⟨.collected r, as⟩]) (.code .ret :: k) with mode := .returning, defers := [] }, h, ?_, hb, rfl, rfl, hk, fn, (show P.funcs[b.fn]? = some fn from (show b.fn = f from hb) ▸ hf), hv⟩
  refine (Steps.one (stepR_ret hr)).trans (Steps.one ?_)
  exact step_collected (d := ⟨.collected r, as⟩) (ds := []) (calls := []) (by simp) (by simp [Frame.atR, wd, hd]) rfl ht
theorem WK.end1 {f : FuncId} {fn : Func} {v : Value} {r : Nat} {as : Array Value} (hf : P.funcs[f]? = some fn) (hd : a.defers = []) (ht : (Instr.takeDeferred r).run P w = .ok [] w') (hv : (results fn a.tmps).run P w' = .ok v w') (h : Rr (.returned v) w') :
    WK P ⟨f, none, [⟨.collected r, as⟩]⟩ Rr [] a w := fun b cs hb hk hr => by
  refine ⟨.returned v, w', { b.atR (wd a [⟨.collected r, as⟩]) [] with mode := .returning, defers := [] }, h, ?_, hb, rfl, rfl, hk, fn, (show P.funcs[b.fn]? = some fn from (show b.fn = f from hb) ▸ hf), hv⟩
  refine (Steps.one (stepR_end hr)).trans (Steps.one ?_)
  exact step_collected (d := ⟨.collected r, as⟩) (ds := []) (calls := []) (by simp) (by simp [Frame.atR, wd, hd]) rfl ht
/-- The end of a round. -/
theorem WK.rend {f : FuncId} {l : Nat} {D : List Deferred} {v : Value} (he : (Instr.endRound l none).run P w = .ok v w') (h : Rr (.returned v) w') : WK P ⟨f, some l, D⟩ Rr [] a w := fun b cs hb hk hr c cs' e => by
  subst e; exact ⟨v, w', h, .one (stepR_round_end hr hk he)⟩
theorem WK.rret {f : FuncId} {l : Nat} {D : List Deferred} {v : Value} (he : (Instr.endRound l (some .ret)).run P w = .ok v w') (h : Rr (.returned v) w') : WK P ⟨f, some l, D⟩ Rr (.code .ret :: k) a w := fun b cs hb hk hr c cs' e => by
  subst e; exact ⟨v, w', h, .one (stepR_round_ret hr hk he)⟩
theorem WK.rexit {f : FuncId} {l id : Nat} {D : List Deferred} {v : Value} (hx : exitTo id k = none) (he : (Instr.endRound l (some (.exit id))).run P w = .ok v w') (h : Rr (.returned v) w') : WK P ⟨f, some l, D⟩ Rr (.code (.exit id) :: k) a w := fun b cs hb hk hr c cs' e => by
  subst e; exact ⟨v, w', h, .one (stepR_round_exit hr hk hx he)⟩
theorem WK.begin_ {f : FuncId} {l : Nat} {D : List Deferred} (he : (Instr.beginRound l).run P w = .ok () w') (h : WK P ⟨f, some l, D⟩ Rr k a w') : WK P ⟨f, some l, D⟩ Rr (.beginRound :: k) a w :=
  .of_steps (fun b cs hb hk hr => .one (stepR_beginRound hr he)) h

/-! ### Regions -/
def Ret (Q : Value → World → Prop) : Ending → World → Prop := fun e w => ∃ v, e = .returned v ∧ Q v w
/-- A round of a range over a function: what yield hands back. -/
def Rounds (P : Program) (l : Nat) (f : FuncId) (tmps : Array Value) (assign body : Code) (w : World) (K : Value → World → Prop) : Prop :=
  ∀ (c : Frame) (cs : List Frame), ∃ v w', K v w' ∧ Steps P (lone (Frame.round l f tmps assign body .normal) (c :: cs) w) (lone (c.finish v) cs w')
def upX (P : Program) (K : Value → World → Prop) : Result Next → Prop
  | .ok (.value v) w' => K v w'
  | .ok .skip w' => K undef w'
  | .ok (.enter f args) w' => Calls P f args w' (Ret K)
  | .ok (.row row args) w' => Rows P row args w' K
  | .ok (.round l f tmps assign body) w' => Rounds P l f tmps assign body w' K
  | _ => False
theorem Ret.mono {K K' : Value → World → Prop} (h : ∀ v w, K v w → K' v w) : ∀ e w, Ret K e w → Ret K' e w := fun _ _ ⟨v, e, hv⟩ => ⟨v, e, h _ _ hv⟩
theorem upX.mono {K K' : Value → World → Prop} (h : ∀ v w, K v w → K' v w) : ∀ {r : Result Next}, upX P K r → upX P K' r := by
  intro r hr
  cases r with
  | ok x w' =>
    cases x <;> simp only [upX] at hr ⊢ <;>
      first
        | exact h _ _ hr
        | exact Calls.mono hr (Ret.mono h)
        | exact Rows.mono hr h
        | exact fun c cs => let ⟨v, w', r, s⟩ := hr c cs; ⟨v, w', h _ _ r, s⟩
  | halt x w' => exact hr
/-- One operation of a region. (Q is not looked at.) -/
def wpOp (P : Program) (ops : Array Oper) (Q : Exit → Act → World → Prop) (i : Nat) (K : Act → World → Prop) (a : Act) (w : World) : Prop :=
  match ops[i]? with
  | none => K a w
  | some o => if Region.wanted o (yielded ops a.tmps) then upX P (fun v w' => K (a.put o.dst v) w') ((execOp a.eval o).run P w) else K (a.put o.dst undef) w
def wpOps (P : Program) (ops : Array Oper) (Q : Exit → Act → World → Prop) : List Nat → Act → World → Prop
  | [], a, w => Q .normal a w
  | i :: rest, a, w => wpOp P ops Q i (wpOps P ops Q rest) a w
theorem wpOps_cons {ops : Array Oper} {Q : Exit → Act → World → Prop} (i : Nat) (rest : List Nat) (a : Act) (w : World) : wpOps P ops Q (i :: rest) a w = wpOp P ops Q i (wpOps P ops Q rest) a w := rfl
theorem wpOp_mono {ops : Array Oper} {Q : Exit → Act → World → Prop} {i : Nat} {K K' : Act → World → Prop} (h : ∀ a w, K a w → K' a w) (hh : wpOp P ops Q i K a w) : wpOp P ops Q i K' a w := by
  unfold wpOp at *
  split
  · rename_i h0; rw [h0] at hh; exact h _ _ hh
  · rename_i o h0
    simp only [h0] at hh
    split
    · rename_i hw; simp only [hw, if_true] at hh; exact upX.mono (fun v w q => h _ _ q) hh
    · rename_i hw; simp only [hw] at hh; exact h _ _ hh
/-- A piece of code whose normal end alone is met. -/
def Norm (Q : Act → World → Prop) : Exit → Act → World → Prop := fun e a w => e = .normal ∧ Q a w
theorem no_defer {ρ : Operand → Value} {o : Oper} {c : Call} (h : o.op = .defer c) {x : Next} {w w' : World} (hr : (execOp ρ o).run P w = .ok x w') : ∃ d, x = .defer d := by
  unfold execOp at hr
  simp only [h, Sem.run_bind] at hr
  cases hd : (resolve ρ c o.type).run P w with
  | ok d w1 => rw [hd] at hr; simp at hr; exact ⟨d, hr.1.symm⟩
  | halt y w1 => rw [hd] at hr; simp at hr
theorem sem_same {ro : Option Nat} {ρ : Operand → Value} {o : Oper} {K : Value → World → Prop} (h : upX P K ((execOp ρ o).run P w)) : o.semAt ro ρ = execOp ρ o := by
  refine Oper.semAt_eq ro ρ o fun c hc => ?_
  cases hr : (execOp ρ o).run P w with
  | ok x w' => obtain ⟨d, rfl⟩ := no_defer hc hr; rw [hr] at h; exact h
  | halt x w' => rw [hr] at h; exact h
theorem ops_steps {ops : Array Oper} {Q : Act → World → Prop} {D : List Deferred} (l : List Nat) : ∀ (a : Act) (w : World), wpOps P ops (Norm Q) l a w → ∀ (b : Frame) (k : List Item) (cs : List Frame), b.kind = .normal →
    ∃ a' w', Q a' w' ∧ Steps P (lone (b.atR (wd a D) (.inRegion ops l :: k)) cs w) (lone (b.atR (wd a' D) k) cs w') := by
  induction l with
  | nil => exact fun a w h b k cs hk => ⟨a, w, h.2, .one stepR_region_end⟩
  | cons i rest ih =>
    intro a w h b k cs hk
    rw [wpOps_cons] at h
    unfold wpOp at h
    cases ho : ops[i]? with
    | none =>
      simp only [ho] at h
      obtain ⟨a', w', hq, harr⟩ := ih a w h b k cs hk
      have hs := stepR_op_skip (P := P) (b := b) (a := wd a D) (k := k) (cs := cs) (w := w) (ops := ops) (i := i) (rest := rest) (by simp [ho])
      simp only [ho, Option.bind_none, Act.put] at hs
      exact ⟨a', w', hq, .head hs harr⟩
    | some o =>
      simp only [ho] at h
      have hfin : ∀ v, (b.atR (wd a D) (.inRegion ops (i :: rest) :: k)).finish v = b.atR (wd (a.put o.dst v) D) (.inRegion ops rest :: k) := by
        intro v; rw [Frame.finish_atR, ho, ← wd_put]; rfl
      by_cases hw : Region.wanted o (yielded ops a.tmps) = true
      · simp only [hw, if_true] at h
        have hg := stepGR_op (P := P) (b := b) (a := wd a D) (k := k) (cs := cs) (w := w) (rest := rest) ho hw
        rw [wd_eval, sem_same h] at hg
        unfold upX at h
        split at h
        · rename_i v w' hr'
          obtain ⟨a', w'', hq, harr⟩ := ih _ _ h b k cs hk
          refine ⟨a', w'', hq, .head (step_lone_go ?_) harr⟩
          rw [hg, ← hfin]; simp [stepG.apply, hr']
        · rename_i w' hr'
          obtain ⟨a', w'', hq, harr⟩ := ih _ _ h b k cs hk
          refine ⟨a', w'', hq, .head (step_lone_go ?_) harr⟩
          rw [hg, ← hfin]; simp [stepG.apply, hr']
        · rename_i f args w' hr'
          obtain ⟨e, w'', fr, ⟨v, rfl, hR⟩, hsteps, hfn, hleave⟩ := h (b.atR (wd a D) (.inRegion ops (i :: rest) :: k) :: cs)
          have henter : step P (lone (b.atR (wd a D) (.inRegion ops (i :: rest) :: k)) cs w) =
              .next (lone (Frame.enter P f args .normal) (b.atR (wd a D) (.inRegion ops (i :: rest) :: k) :: cs) w') :=
            step_lone_go (by rw [hg]; simp [stepG.apply, hr', Frame.atR])
          obtain ⟨a', w₃, hq, harr⟩ := ih _ _ hR b k cs hk
          refine ⟨a', w₃, hq, .head henter (Steps.trans hsteps (.head ?_ harr))⟩
          rw [← hfin]; exact step_leave_returned hleave
        · rename_i row args w' hr'
          obtain ⟨v, w'', hR, hsteps⟩ := h (b.atR (wd a D) (.inRegion ops (i :: rest) :: k)) cs
          have henter : step P (lone (b.atR (wd a D) (.inRegion ops (i :: rest) :: k)) cs w) =
              .next (lone (Frame.ofRow P row args .normal) (b.atR (wd a D) (.inRegion ops (i :: rest) :: k) :: cs) w') :=
            step_lone_go (by rw [hg]; simp [stepG.apply, hr', Frame.atR])
          obtain ⟨a', w₃, hq, harr⟩ := ih _ _ hR b k cs hk
          refine ⟨a', w₃, hq, .head henter (Steps.trans hsteps ?_)⟩
          rw [hfin]; exact harr
        · rename_i l f tmps assign body w' hr'
          obtain ⟨v, w'', hR, hsteps⟩ := h (b.atR (wd a D) (.inRegion ops (i :: rest) :: k)) cs
          have henter : step P (lone (b.atR (wd a D) (.inRegion ops (i :: rest) :: k)) cs w) =
              .next (lone (Frame.round l f tmps assign body .normal) (b.atR (wd a D) (.inRegion ops (i :: rest) :: k) :: cs) w') :=
            step_lone_go (by rw [hg]; simp [stepG.apply, hr', Frame.atR])
          obtain ⟨a', w₃, hq, harr⟩ := ih _ _ hR b k cs hk
          refine ⟨a', w₃, hq, .head henter (Steps.trans hsteps ?_)⟩
          rw [hfin]; exact harr
        · exact h.elim
      · simp only [hw] at h
        obtain ⟨a', w', hq, harr⟩ := ih _ _ h b k cs hk
        have hs := stepR_op_skip (P := P) (b := b) (a := wd a D) (k := k) (cs := cs) (w := w) (ops := ops) (i := i) (rest := rest) (by simp only [ho, Option.map_some, Option.getD_some]; simpa [wd] using hw)
        rw [ho] at hs
        simp only [Option.bind_some, wd_put] at hs
        exact ⟨a', w', hq, .head hs harr⟩
theorem WK.region {id : Nat} {ops : Array Oper} (h : wpOps P ops (Norm fun a' w' => WK P f Rr k a' w') (List.range ops.size) a w) : WK P f Rr (.code (.region id ops false) :: k) a w := fun b cs hb hk hr => by
  obtain ⟨a', w', hq, hs⟩ := ops_steps (D := f.ds) _ a w h b k cs hk
  exact Fin.of_steps ((Steps.one stepR_region).trans hs) (hq b cs hb hk hr)
theorem WK.region_draw {id : Nat} {ops : Array Oper} (h : ∀ t, wpOps P ops (Norm fun a' w' => WK P f Rr k a' w') (Region.schedule (P.follows .mixedOrders) ops t) a w.drew) : WK P f Rr (.code (.region id ops true) :: k) a w := fun b cs hb hk hr => by
  obtain ⟨a', w', hq, hs⟩ := ops_steps (D := f.ds) _ a w.drew (h _) b k cs hk
  exact Fin.of_steps ((Steps.one stepR_region_draw).trans hs) (hq b cs hb hk hr)
theorem calls_of_WK {f : FuncId} {fn : Func} {c : Code} {args : Array Value} (hf : P.funcs[f]? = some fn) (hb : fn.body = some c)
    (h : WK P (fk f) Rr [.code c] { tmps := args ++ Array.replicate (fn.ntmps - args.size) undef, defers := [] } w) : Calls P f args w Rr := by
  intro cs
  let b : Frame := { (default : Frame) with fn := f, kind := .normal, roundOf := none }
  have henter : Frame.enter P f args .normal = b.atR (wd { tmps := args ++ Array.replicate (fn.ntmps - args.size) undef, defers := [] } []) [.code c] := by
    simp [Frame.enter, Frame.atR, hf, hb, b, wd]
  rw [henter]
  exact h b cs rfl rfl rfl
end

/-! ### Whatever order: an operation that yields its value in every world that meets S may be taken first -/
section
variable {P : Program} {ops : Array Oper} {Q : Exit → Act → World → Prop} {md : Region.Mode} {S : World → Prop} {T : List Nat}
def wpAny (P : Program) (md : Region.Mode) (ops : Array Oper) (Q : Exit → Act → World → Prop) : Nat → Array Bool → Act → World → Prop
  | 0, listed, a, w => Region.ready md ops listed = [] ∧ Q .normal a w
  | fuel + 1, listed, a, w => (Region.ready md ops listed = [] → Q .normal a w) ∧ ∀ i ∈ Region.ready md ops listed, wpOp P ops Q i (wpAny P md ops Q fuel (listed.setIfInBounds i true)) a w
/-- An operation that waits for all those of a list. -/
def waitsFor (md : Region.Mode) (ops : Array Oper) (T : List Nat) (j : Nat) : Bool := T.all fun k => k == j || (match ops[j]? with | some o => o.after.any (fun e => Region.binds md e && e.on == k) | none => false)
def wpAnyH (P : Program) (md : Region.Mode) (ops : Array Oper) (Q : Exit → Act → World → Prop) (S : World → Prop) (T : List Nat) : Nat → Array Bool → Act → World → Prop
  | 0, listed, a, w => Region.ready md ops listed = [] ∧ Q .normal a w
  | fuel + 1, listed, a, w => (Region.ready md ops listed = [] → Q .normal a w) ∧ ∀ i ∈ Region.ready md ops listed, wpOp P ops Q i (fun a' w' => (S w → S w' ∨ waitsFor md ops T i = true) ∧ wpAnyH P md ops Q S T fuel (listed.setIfInBounds i true) a' w') a w
theorem wpAny_of_held : ∀ (fuel : Nat) (listed : Array Bool) (a : Act) (w : World), wpAnyH P md ops Q S T fuel listed a w → wpAny P md ops Q fuel listed a w
  | 0, _, _, _, h => h
  | fuel + 1, _, _, _, h => ⟨h.1, fun i hi => wpOp_mono (fun a' w' h' => wpAny_of_held fuel _ a' w' h'.2) (h.2 i hi)⟩
theorem wpAny_sound : ∀ (fuel t : Nat) (listed : Array Bool) (a : Act) (w : World), wpAny P md ops Q fuel listed a w → wpOps P ops Q (Region.linearise.go md ops fuel t listed []) a w := by
  intro fuel
  induction fuel with
  | zero => intro t listed a w h; simpa [Region.linearise.go, wpOps] using h.2
  | succ fuel ih =>
    intro t listed a w ⟨h0, h1⟩
    simp only [Region.linearise.go]
    have key : ∀ rs, rs = Region.ready md ops listed → wpOps P ops Q (match rs[t % rs.length]? with
      | some i => Region.linearise.go md ops fuel (t / rs.length) (listed.setIfInBounds i true) [i]
      | none => [].reverse) a w := by
      intro rs hrs
      rw [← hrs] at h0 h1
      cases hi : rs[t % rs.length]? with
      | none =>
        have : rs = [] := by
          cases rs with
          | nil => rfl
          | cons x xs =>
            have hlt : t % (x :: xs).length < (x :: xs).length := Nat.mod_lt _ (by simp)
            rw [List.getElem?_eq_getElem hlt] at hi; cases hi
        simpa [wpOps] using h0 this
      | some i =>
        simp only []
        rw [linearise_go_acc, List.reverse_singleton, List.singleton_append, wpOps_cons]
        exact wpOp_mono (fun a w => ih _ _ a w) (h1 i (List.mem_of_getElem? hi))
    exact key _ rfl
theorem yieldsIf_wpOp {i : Nat} {o : Oper} {v : Value} {a : Act} (hi : ops[i]? = some o) (hy : YieldsIf P ops S o v a) {K : Act → World → Prop} {w : World} (hS : S w) (h : K (a.put o.dst v) w) : wpOp P ops Q i K a w := by
  unfold wpOp
  simp only [hi]
  rcases hy with ⟨hw, hv⟩ | ⟨hw, rfl⟩
  · simp only [hw, if_true, hv w hS, upX]; exact h
  · simp only [hw, Bool.false_eq_true, if_false]; exact h
theorem wpOp_putIf {j : Nat} {oi oj : Oper} {v : Value} (hj : ops[j]? = some oj) (hap : oi.apart ops oj = true) (hsi : ∀ cs b, oi.op ≠ .select cs b) (hsj : ∀ cs b, oj.op ≠ .select cs b)
    {K : Act → World → Prop} {a : Act} {w : World} (hy : YieldsIf P ops S oi v a) (h : wpOp P ops Q j K (a.put oi.dst v) w) :
    wpOp P ops Q j (fun a' w' => YieldsIf P ops S oi v a' ∧ K (a'.put oi.dst v) w') a w := by
  obtain ⟨h1, h2, h3⟩ := Oper.apart_spec hap
  have keep : ∀ u, YieldsIf P ops S oi v (a.put oj.dst u) := fun u => hy.of_same (execOp_put oi hsi a oj.dst u h3) (wanted_put oi a oj.dst u h3)
  unfold wpOp at *
  simp only [hj] at *
  rw [wanted_put oj a oi.dst v h1, execOp_put oj hsj a oi.dst v h1] at h
  split
  · rename_i hw
    simp only [hw, if_true] at h
    refine upX.mono (fun u w' q => ⟨keep u, ?_⟩) h
    rw [← Act.put_comm a v u h2]; exact q
  · rename_i hw
    simp only [hw] at h
    exact ⟨keep _, by rw [← Act.put_comm a v undef h2]; exact h⟩
theorem wpAnyH_first {i : Nat} {oi : Oper} {v : Value} (hiT : i ∈ T) (hi : ops[i]? = some oi) (hsel : ∀ (j : Nat) (o : Oper) cs b, ops[j]? = some o → o.op ≠ .select cs b) :
    ∀ (fuel : Nat) (listed : Array Bool) (a : Act) (w : World),
      (∀ j oj, ops[j]? = some oj → j ≠ i → listed.getD j true = false → (∀ e ∈ oj.after, Region.binds md e = true → e.on ≠ i) → oi.apart ops oj = true) →
      i ∈ Region.ready md ops listed → YieldsIf P ops S oi v a → S w →
      wpAnyH P md ops Q S T fuel (listed.setIfInBounds i true) (a.put oi.dst v) w → wpAnyH P md ops Q S T (fuel + 1) listed a w := by
  intro fuel
  induction fuel with
  | zero =>
    intro listed a w _ hr hy hS H
    refine ⟨fun h => (by rw [h] at hr; cases hr), fun j hj => ?_⟩
    by_cases hji : j = i
    · subst hji; exact yieldsIf_wpOp hi hy hS ⟨.inl, H⟩
    · have := ready_mono hj hji
      rw [H.1] at this; cases this
  | succ fuel ih =>
    intro listed a w hfree hr hy hS H
    refine ⟨fun h => (by rw [h] at hr; cases hr), fun j hj => ?_⟩
    by_cases hji : j = i
    · subst hji; exact yieldsIf_wpOp hi hy hS ⟨.inl, H⟩
    · obtain ⟨hjun, oj, hoj, hall⟩ := mem_ready.1 hj
      have hnot : ∀ e ∈ oj.after, Region.binds md e = true → e.on ≠ i := fun e he hb heq => by
        have h1 := hall e he hb
        have h0 := (mem_ready.1 hr).1
        rw [heq] at h1
        rcases Nat.lt_or_ge i listed.size with h' | h'
        · simp [h'] at h0 h1; rw [h0] at h1; cases h1
        · simp [Array.getElem?_eq_none h'] at h1
      have h2 := wpOp_putIf hoj (hfree j oj hoj hji hjun hnot) (fun cs b => hsel i oi cs b hi) (fun cs b => hsel j oj cs b hoj) hy (H.2 j (ready_mono hj hji))
      have hir : i ∈ Region.ready md ops (listed.setIfInBounds j true) := ready_mono hr (Ne.symm hji)
      refine wpOp_mono (fun a' w' h3 => ?_) h2
      have hS' : S w' := by
        rcases h3.2.1 hS with h | h
        · exact h
        · exfalso
          have h1 := List.all_eq_true.1 h i hiT
          simp only [hoj, Bool.or_eq_true, beq_iff_eq] at h1
          rcases h1 with h1 | h1
          · exact hji h1.symm
          · rw [Array.any_eq_true] at h1
            obtain ⟨x, hx, h2⟩ := h1
            simp only [Bool.and_eq_true, beq_iff_eq] at h2
            exact hnot _ (Array.getElem_mem hx) h2.1 h2.2
      refine ⟨fun _ => .inl hS', ih (listed.setIfInBounds j true) a' w' (fun k ok hk hki hun hno => ?_) hir h3.1 hS' ?_⟩
      · refine hfree k ok hk hki ?_ hno
        by_cases hjk : j = k
        · subst hjk; exact hjun
        · rw [getD_set_ne true hjk] at hun; exact hun
      · rw [Array.setIfInBounds_comm _ _ hji]
        exact h3.2.2
/-- The same of one that yields its value in whatever world. -/
theorem wpAnyH_first' {i : Nat} {oi : Oper} {v : Value} (hi : ops[i]? = some oi) (hsel : ∀ (j : Nat) (o : Oper) cs b, ops[j]? = some o → o.op ≠ .select cs b) :
    ∀ (fuel : Nat) (listed : Array Bool) (a : Act) (w : World),
      (∀ j oj, ops[j]? = some oj → j ≠ i → listed.getD j true = false → (∀ e ∈ oj.after, Region.binds md e = true → e.on ≠ i) → oi.apart ops oj = true) →
      i ∈ Region.ready md ops listed → YieldsIf P ops (fun _ => True) oi v a →
      wpAnyH P md ops Q S T fuel (listed.setIfInBounds i true) (a.put oi.dst v) w → wpAnyH P md ops Q S T (fuel + 1) listed a w := by
  intro fuel
  induction fuel with
  | zero =>
    intro listed a w _ hr hy H
    refine ⟨fun h => (by rw [h] at hr; cases hr), fun j hj => ?_⟩
    by_cases hji : j = i
    · subst hji; exact yieldsIf_wpOp hi hy trivial ⟨.inl, H⟩
    · have := ready_mono hj hji
      rw [H.1] at this; cases this
  | succ fuel ih =>
    intro listed a w hfree hr hy H
    refine ⟨fun h => (by rw [h] at hr; cases hr), fun j hj => ?_⟩
    by_cases hji : j = i
    · subst hji; exact yieldsIf_wpOp hi hy trivial ⟨.inl, H⟩
    · obtain ⟨hjun, oj, hoj, hall⟩ := mem_ready.1 hj
      have hnot : ∀ e ∈ oj.after, Region.binds md e = true → e.on ≠ i := fun e he hb heq => by
        have h1 := hall e he hb
        have h0 := (mem_ready.1 hr).1
        rw [heq] at h1
        rcases Nat.lt_or_ge i listed.size with h' | h'
        · simp [h'] at h0 h1; rw [h0] at h1; cases h1
        · simp [Array.getElem?_eq_none h'] at h1
      have h2 := wpOp_putIf hoj (hfree j oj hoj hji hjun hnot) (fun cs b => hsel i oi cs b hi) (fun cs b => hsel j oj cs b hoj) hy (H.2 j (ready_mono hj hji))
      have hir : i ∈ Region.ready md ops (listed.setIfInBounds j true) := ready_mono hr (Ne.symm hji)
      refine wpOp_mono (fun a' w' h3 => ⟨h3.2.1, ih (listed.setIfInBounds j true) a' w' (fun k ok hk hki hun hno => ?_) hir h3.1 ?_⟩) h2
      · refine hfree k ok hk hki ?_ hno
        by_cases hjk : j = k
        · subst hjk; exact hjun
        · rw [getD_set_ne true hjk] at hun; exact hun
      · rw [Array.setIfInBounds_comm _ _ hji]
        exact h3.2.2
theorem wpAnyH_move {i : Nat} {oi : Oper} {v : Value} {fuel : Nat} {listed : Array Bool} {a : Act} {w : World} (hi : ops[i]? = some oi)
    (hs : Region.noSelect ops = true) (hf : Region.free md ops listed i = true) (hr : (Region.ready md ops listed).contains i = true) (hy : YieldsIf P ops (fun _ => True) oi v a)
    (h : wpAnyH P md ops Q S T fuel (listed.setIfInBounds i true) (a.put oi.dst v) w) : wpAnyH P md ops Q S T (fuel + 1) listed a w :=
  wpAnyH_first' hi (Region.noSelect_spec hs) fuel listed a w (Region.free_spec hi hf) (by simpa using hr) hy h
theorem wpAnyH_take {i : Nat} {oi : Oper} {v : Value} {fuel : Nat} {listed : Array Bool} {a : Act} {w : World} (hiT : i ∈ T) (hi : ops[i]? = some oi)
    (hs : Region.noSelect ops = true) (hf : Region.free md ops listed i = true) (hr : (Region.ready md ops listed).contains i = true) (hy : YieldsIf P ops S oi v a) (hS : S w)
    (h : wpAnyH P md ops Q S T fuel (listed.setIfInBounds i true) (a.put oi.dst v) w) : wpAnyH P md ops Q S T (fuel + 1) listed a w :=
  wpAnyH_first hiT hi (Region.noSelect_spec hs) fuel listed a w (Region.free_spec hi hf) (by simpa using hr) hy hS h
theorem wpAnyH_all {rs : List Nat} {fuel : Nat} {listed : Array Bool} {a : Act} {w : World} (hr : Region.ready md ops listed = rs) (hne : rs ≠ [])
    (h : ∀ i ∈ rs, wpOp P ops Q i (fun a' w' => (S w → S w' ∨ waitsFor md ops T i = true) ∧ wpAnyH P md ops Q S T fuel (listed.setIfInBounds i true) a' w') a w) : wpAnyH P md ops Q S T (fuel + 1) listed a w :=
  ⟨fun h0 => absurd (hr ▸ h0) hne, hr ▸ h⟩
theorem wpAnyH_done {listed : Array Bool} {a : Act} {w : World} (hr : Region.ready md ops listed = []) (h : Q .normal a w) : ∀ fuel, wpAnyH P md ops Q S T fuel listed a w
  | 0 => ⟨hr, h⟩
  | _ + 1 => ⟨fun _ => h, by rw [hr]; simp⟩
theorem WK.region_held {f : Fk} {Rr : Ending → World → Prop} {k : List Item} {id : Nat} {a : Act} {w : World} (hm : P.follows .mixedOrders = true)
    (h : wpAnyH P .any ops (Norm fun a' w' => WK P f Rr k a' w') S T ops.size (Array.replicate ops.size false) a w.drew) : WK P f Rr (.code (.region id ops true) :: k) a w :=
  WK.region_draw fun t => by
    simp only [Region.schedule, hm, Bool.true_or, if_true]
    exact wpAny_sound ops.size t _ a _ (wpAny_of_held _ _ _ _ h)
end
/-! ### Steps -/
def wantF (ops : Array Oper) (fs : List (Nat × Value)) (o : Oper) : Option Bool :=
  match o.guard with
  | none => some true
  | some (j, want) =>
    match (ops[j]?).bind (·.dst) with
    | none => some false
    | some d =>
      match look d fs with
      | some (.bool b) => some (b == want)
      | some _ => some false
      | none => none
theorem wantF_sound {ops : Array Oper} {n : Nat} {a : Act} {fs : List (Nat × Value)} {o : Oper} {t : Bool} (H : Slots n a fs) (h : wantF ops fs o = some t) :
    Region.wanted o (yielded ops a.tmps) = t := by
  unfold wantF at h
  unfold Region.wanted
  split at h
  · rename_i hg; simp only [hg]; simpa using h
  · rename_i j want hg
    simp only [hg]
    unfold yielded
    split at h
    · rename_i hd; simp only [hd, Option.bind_none]; simpa using h
    · rename_i d hd
      simp only [hd, Option.bind_some]
      split at h
      · rename_i b hb
        rw [H.at_ _ _ hb]
        simpa using h
      · rename_i v hv hb
        rw [H.at_ _ _ hb]
        injection h with h
        subst h
        cases v <;> first | rfl | exact absurd rfl (hv _)
      · cases h
def noSel : Op → Bool
  | .select .. => false
  | _ => true
def putF (n : Nat) (dst : Option Nat) (v : Value) (fs : List (Nat × Value)) : Option (List (Nat × Value)) :=
  match dst with
  | none => some fs
  | some d => bif Nat.blt d n then some ((d, v) :: fs) else none
theorem putF_sound {n : Nat} {a : Act} {fs fs' : List (Nat × Value)} {dst : Option Nat} {v : Value} (H : Slots n a fs) (h : putF n dst v fs = some fs') : Slots n (a.put dst v) fs' := by
  unfold putF at h
  split at h
  · injection h with h; subst h; exact H
  · rename_i d
    cases hb : Nat.blt d n with
    | false => rw [hb] at h; cases h
    | true => rw [hb] at h; injection h with h; subst h; exact H.put hb v
/-- All that operation i names is known, it is wanted: the operation. -/
def opF (ops : Array Oper) (fs : List (Nat × Value)) (i : Nat) : Option Oper :=
  match ops[i]? with
  | none => none
  | some o => match wantF ops fs o with
    | some true => bif o.op.operands.toList.all (known fs) && noSel o.op then some o else none
    | _ => none
theorem opF_sound {ops : Array Oper} {n : Nat} {a : Act} {fs : List (Nat × Value)} {i : Nat} {o : Oper} (H : Slots n a fs) (h : opF ops fs i = some o) :
    ops[i]? = some o ∧ Region.wanted o (yielded ops a.tmps) = true ∧ execOp a.eval o = execOp (evalD fs) o ∧ ∀ x ∈ o.op.operands, known fs x = true := by
  unfold opF at h
  split at h
  · cases h
  · rename_i o' ho
    split at h
    · rename_i hw
      cases hb : (o'.op.operands.toList.all (known fs) && noSel o'.op) with
      | false => rw [hb] at h; cases h
      | true =>
        rw [hb] at h
        injection h with h
        subst h
        simp only [Bool.and_eq_true, List.all_eq_true] at hb
        refine ⟨ho, wantF_sound H hw, execOp_congr o' (fun cs b e => ?_) (fun x hx => H.evalD (hb.1 x (Array.mem_def.1 hx))), fun x hx => hb.1 x (Array.mem_def.1 hx)⟩
        have := hb.2
        rw [e] at this
        cases this
    · cases h

section
variable {P : Program} {ops : Array Oper} {Q : Act → World → Prop} {S : World → Prop} {n i : Nat} {e : World} {R : Hp} {a : Act} {w : World} {fs fs' : List (Nat × Value)} {L : List HP} {r : List (Nat × Bool)} {o : Oper}

theorem wpOp_value {K : Act → World → Prop} {Qx : Exit → Act → World → Prop} {v : Value} {w' : World} (ho : ops[i]? = some o) (hw : Region.wanted o (yielded ops a.tmps) = true)
    (hr : (execOp a.eval o).run P w = .ok (.value v) w') (hk : K (a.put o.dst v) w') : wpOp P ops Qx i K a w := by
  unfold wpOp
  simp only [ho, hw, if_true, hr, upX]
  exact hk
theorem wpOp_skip {K : Act → World → Prop} {Qx : Exit → Act → World → Prop} {w' : World} (ho : ops[i]? = some o) (hw : Region.wanted o (yielded ops a.tmps) = true)
    (hr : (execOp a.eval o).run P w = .ok .skip w') (hk : K (a.put o.dst undef) w') : wpOp P ops Qx i K a w := by
  unfold wpOp
  simp only [ho, hw, if_true, hr, upX]
  exact hk
theorem wpOp_unwanted {K : Act → World → Prop} {Qx : Exit → Act → World → Prop} (ho : ops[i]? = some o) (hw : Region.wanted o (yielded ops a.tmps) = false)
    (hk : K (a.put o.dst undef) w) : wpOp P ops Qx i K a w := by
  unfold wpOp
  simp only [ho, hw, Bool.false_eq_true, if_false]
  exact hk

/-! Operations by what they come to -/
def runX (P : Program) (ops : Array Oper) (fs : List (Nat × Value)) (i : Nat) (w : World) : Option (Option Nat × Value × World) :=
  match opF ops fs i with
  | none => none
  | some o =>
    match (execOp (evalD fs) o).run P w with
    | .ok (.value v) w' => some (o.dst, v, w')
    | _ => none
/-- Operation i leaves v in slot d, in every world that meets S, and does nothing else. -/
def IsVal (P : Program) (ops : Array Oper) (n : Nat) (fs : List (Nat × Value)) (i d : Nat) (v : Value) (S : World → Prop) : Prop :=
  ∃ o, opF ops fs i = some o ∧ o.dst = some d ∧ Nat.blt d n = true ∧ ∀ w, S w → (execOp (evalD fs) o).run P w = .ok (.value v) w
/-- Operation i lays a block. -/
def IsNew (P : Program) (ops : Array Oper) (n : Nat) (fs : List (Nat × Value)) (i d : Nat) (vf : Nat → Value) (ob : Obj) : Prop :=
  ∃ o, opF ops fs i = some o ∧ o.dst = some d ∧ Nat.blt d n = true ∧ ∀ w, (execOp (evalD fs) o).run P w = .ok (.value (vf w.heap.size)) (w.alloc ob)
theorem IsVal.of_run {d : Nat} {v : Value} (hd : Nat.blt d n = true) (h : ∀ w, runX P ops fs i w = some (some d, v, w)) : IsVal P ops n fs i d v S := by
  have h0 := h default
  unfold runX at h0
  split at h0
  · cases h0
  · rename_i o ho
    split at h0
    · rename_i v1 w1 hr
      simp only [Option.some.injEq, Prod.mk.injEq] at h0
      refine ⟨o, ho, h0.1, hd, fun w _ => ?_⟩
      have h1 := h w
      unfold runX at h1
      simp only [ho] at h1
      split at h1
      · rename_i v2 w2 hr2
        simp only [Option.some.injEq, Prod.mk.injEq] at h1
        obtain ⟨_, rfl, rfl⟩ := h1
        exact hr2
      · cases h1
    · cases h0
theorem IsNew.of_run {d : Nat} {vf : Nat → Value} {ob : Obj} (hd : Nat.blt d n = true) (h : ∀ w, runX P ops fs i w = some (some d, vf w.heap.size, w.alloc ob)) : IsNew P ops n fs i d vf ob := by
  have h0 := h default
  unfold runX at h0
  split at h0
  · cases h0
  · rename_i o ho
    split at h0
    · rename_i v1 w1 hr
      simp only [Option.some.injEq, Prod.mk.injEq] at h0
      refine ⟨o, ho, h0.1, hd, fun w => ?_⟩
      have h1 := h w
      unfold runX at h1
      simp only [ho] at h1
      split at h1
      · rename_i v2 w2 hr2
        simp only [Option.some.injEq, Prod.mk.injEq] at h1
        obtain ⟨_, rfl, rfl⟩ := h1
        exact hr2
      · cases h1
    · cases h0
theorem IsVal.mono {d : Nat} {v : Value} {S S' : World → Prop} (h : IsVal P ops n fs i d v S) (hs : ∀ w, S' w → S w) : IsVal P ops n fs i d v S' :=
  let ⟨o, a, b, c, r⟩ := h; ⟨o, a, b, c, fun w hw => r w (hs w hw)⟩
/-- In the order of the text. -/
theorem op_val {d : Nat} {v : Value} {K : Act → World → Prop} {Qx : Exit → Act → World → Prop} (H : St n e R a w fs L) (hv : IsVal P ops n fs i d v (fun w => Sat e w R L)) (h : ∀ a', St n e R a' w ((d, v) :: fs) L → K a' w) : wpOp P ops Qx i K a w := by
  obtain ⟨o, ho, hd, hb, hr⟩ := hv
  obtain ⟨h1, h2, h3, _⟩ := opF_sound H.sl ho
  refine wpOp_value h1 h2 (by rw [h3]; exact hr w H.sat) ?_
  rw [hd]
  exact h _ ⟨H.sl.put hb v, H.sat⟩
theorem op_new {d : Nat} {vf : Nat → Value} {ob : Obj} {K : Act → World → Prop} {Qx : Exit → Act → World → Prop} (H : St n e R a w fs L) (hv : IsNew P ops n fs i d vf ob)
    (h : ∀ a' w' b, St n e R a' w' ((d, vf b) :: fs) (blk b ob :: L) → K a' w') : wpOp P ops Qx i K a w := by
  obtain ⟨o, ho, hd, hb, hr⟩ := hv
  obtain ⟨h1, h2, h3, _⟩ := opF_sound H.sl ho
  refine wpOp_value h1 h2 (by rw [h3]; exact hr w) ?_
  rw [hd]
  exact h _ _ _ ⟨H.sl.put hb _, H.sat.alloc ob⟩
/-- One that is not wanted. -/
theorem op_skip {fs' : List (Nat × Value)} {K : Act → World → Prop} {Qx : Exit → Act → World → Prop} (H : St n e R a w fs L) (ho : ops[i]? = some o) (hw : wantF ops fs o = some false) (hd : putF n o.dst undef fs = some fs')
    (h : ∀ a', St n e R a' w fs' L → K a' w) : wpOp P ops Qx i K a w :=
  wpOp_unwanted ho (wantF_sound H.sl hw) (h _ ⟨putF_sound H.sl hd, H.sat⟩)
/-- Many, one behind the other, that leave the world alone; those that are not wanted among them. -/
def runOp (P : Program) (ops : Array Oper) (n i : Nat) (fs : List (Nat × Value)) (w : World) : Option (List (Nat × Value) × World) :=
  match ops[i]? with
  | none => none
  | some o =>
    match wantF ops fs o with
    | none => none
    | some false => (putF n o.dst undef fs).map (·, w)
    | some true =>
      match opF ops fs i with
      | none => none
      | some o =>
        match (execOp (evalD fs) o).run P w with
        | .ok (.value v) w' => (putF n o.dst v fs).map (·, w')
        | _ => none
def runAll (P : Program) (ops : Array Oper) (n : Nat) : Nat → Nat → List (Nat × Value) → World → Option (List (Nat × Value) × World)
  | _, 0, fs, w => some (fs, w)
  | i, k + 1, fs, w =>
    match runOp P ops n i fs w with
    | some (fs', w') => runAll P ops n (i + 1) k fs' w'
    | none => none
def ordN : Nat → Nat → List Nat
  | _, 0 => []
  | i, m + 1 => i :: ordN (i + 1) m
theorem runOp_sound {w' : World} {fs' : List (Nat × Value)} {K : Act → World → Prop} {Qx : Exit → Act → World → Prop} (H : Slots n a fs) (hp : runOp P ops n i fs w = some (fs', w')) (h : ∀ a', Slots n a' fs' → K a' w') : wpOp P ops Qx i K a w := by
  unfold runOp at hp
  split at hp
  · cases hp
  · rename_i o ho
    split at hp
    · cases hp
    · rename_i hw
      simp only [Option.map_eq_some_iff, Prod.mk.injEq] at hp
      obtain ⟨f1, hf, rfl, rfl⟩ := hp
      exact wpOp_unwanted ho (wantF_sound H hw) (h _ (putF_sound H hf))
    · rename_i hw
      split at hp
      · cases hp
      · rename_i o2 ho2
        split at hp
        · rename_i v w1 hr
          simp only [Option.map_eq_some_iff, Prod.mk.injEq] at hp
          obtain ⟨f1, hf, rfl, rfl⟩ := hp
          obtain ⟨h1, h2, h3, _⟩ := opF_sound H ho2
          exact wpOp_value h1 h2 (by rw [h3]; exact hr) (h _ (putF_sound H hf))
        · cases hp
theorem runAll_sound : ∀ (k i : Nat) {a : Act} {fs fs' : List (Nat × Value)} {w w' : World} (m : Nat) (H : Slots n a fs) (hp : runAll P ops n i k fs w = some (fs', w')) (h : ∀ a', Slots n a' fs' → wpOps P ops (Norm Q) (ordN (i + k) m) a' w'),
    wpOps P ops (Norm Q) (ordN i (k + m)) a w
  | 0, i, a, fs, fs', w, w', m, H, hp, h => by
    simp only [runAll, Option.some.injEq, Prod.mk.injEq] at hp
    obtain ⟨rfl, rfl⟩ := hp
    simpa using h a H
  | k + 1, i, a, fs, fs', w, w', m, H, hp, h => by
    rw [show k + 1 + m = (k + m) + 1 by omega, ordN, wpOps_cons]
    unfold runAll at hp
    split at hp
    · rename_i f1 w1 h1
      refine runOp_sound H h1 fun a' H' => runAll_sound k (i + 1) m H' hp ?_
      rw [show i + 1 + k = i + (k + 1) by omega]
      exact h
    · cases hp
theorem st_run (i k m : Nat) (news : List (Nat × Value)) (H : St n e R a w fs L) (hp : runAll P ops n i k fs w = some (news ++ fs, w)) (h : ∀ a', St n e R a' w (news ++ fs) L → wpOps P ops (Norm Q) (ordN (i + k) m) a' w) : wpOps P ops (Norm Q) (ordN i (k + m)) a w :=
  runAll_sound k i m H.sl hp fun a' Sl => h a' ⟨Sl, H.sat⟩
theorem st_op (i m : Nat) (h : wpOp P ops (Norm Q) i (wpOps P ops (Norm Q) (ordN (i + 1) m)) a w) : wpOps P ops (Norm Q) (ordN i (m + 1)) a w := by
  rw [ordN, wpOps_cons]; exact h
theorem ops_end (i : Nat) (h : Q a w) : wpOps P ops (Norm Q) (ordN i 0) a w := ⟨rfl, h⟩

/-! A Bool that is decided; a number that does not run over -/
theorem Slots.turn {d : Nat} {u v : Value} (H : Slots n a ((d, u) :: fs)) (h : u = v) : Slots n a ((d, v) :: fs) := h ▸ H
theorem St.turn {d : Nat} {u v : Value} (H : St n e R a w ((d, u) :: fs) L) (h : u = v) : St n e R a w ((d, v) :: fs) L := h ▸ H
theorem St.also {d : Nat} {u v : Value} (H : St n e R a w fs L) (hl : look d fs = some u) (h : u = v) : St n e R a w ((d, v) :: fs) L := by
  subst h
  refine ⟨⟨H.sl.size, H.sl.defs, fun t x hx => ?_⟩, H.sat⟩
  simp only [look] at hx
  by_cases e : t = d
  · subst e; simp at hx; subst hx; exact H.sl.at_ _ _ hl
  · have : Nat.beq t d = false := beq_ne e
    rw [this] at hx
    exact H.sl.at_ _ _ hx
theorem St.pick (H : St n e R a w fs L) (ts : List Nat) : St n e R a w (WH.pick fs ts) L := ⟨H.sl.pick ts, H.sat⟩
theorem St.sub' {gs : List (Nat × Value)} (H : St n e R a w fs L) (h : subF fs gs) : St n e R a w gs L := ⟨H.sl.sub' h, H.sat⟩
theorem St.with {M : List HP} (H : St n e R a w fs L) (X : Sat e w R M) : St n e R a w fs M := ⟨H.sl, X⟩

/-! Memory: a load -/
def loadF (P : Program) (t : TypeId) (off : Nat) (cs : Array Value) : Option Value :=
  match P.underlying t with
  | some (.struct _) | some (.array _ _) =>
    match P.info? t with
    | some inf => bif Nat.ble (off + inf.size) cs.size then some (.agg (cs.extract off (off + inf.size))) else none
    | none => none
  | some _ => cs[off]?
  | none => none
def ldF (ops : Array Oper) (fs : List (Nat × Value)) (i : Nat) : Option (Option Nat × TypeId × Addr) :=
  match opF ops fs i with
  | some o => match o.op with
    | .load t x => match evalF fs x with
      | some (.pointer (some p)) => some (o.dst, t, p)
      | _ => none
    | _ => none
  | none => none
theorem ldF_sound {dst : Option Nat} {t : TypeId} {p : Addr} (h : ldF ops fs i = some (dst, t, p)) : ∃ o x, opF ops fs i = some o ∧ o.dst = dst ∧ o.op = .load t x ∧ WH.evalD fs x = .pointer (some p) := by
  unfold ldF at h
  split at h
  · rename_i o ho
    split at h
    · rename_i t' x hop
      split at h
      · rename_i q hq
        simp only [Option.some.injEq, Prod.mk.injEq] at h
        obtain ⟨rfl, rfl, rfl⟩ := h
        exact ⟨o, x, ho, rfl, hop, by simp [WH.evalD, hq]⟩
      · cases h
    · cases h
  · cases h
theorem loadCellsFrom_run (b off : Nat) (cs : Array Value) (T : TypeId) (fr : Nat × Nat) (hb : w.heap[b]? = some (.cells cs T fr)) : ∀ (m j : Nat) (acc : Array Value), off + j + m ≤ cs.size →
    (loadCellsFrom ⟨b, off, none⟩ j m acc).run P w = .ok (acc ++ cs.extract (off + j) (off + j + m)) w
  | 0, j, acc, h => by
    simp only [loadCellsFrom, Sem.run_pure]
    congr 1
    apply Array.ext'
    simp [List.extract_eq_take_drop]
  | m + 1, j, acc, h => by
    have hc : w.cell? ((⟨b, off, none⟩ : Addr).add j) = some (cs[off + j]'(by omega)) := by
      have ha : (⟨b, off, none⟩ : Addr).add j = ⟨b, off + j, none⟩ := by unfold Addr.add; split <;> simp_all
      rw [ha]
      simp [World.cell?, hb, show off + j < cs.size by omega]
    simp only [loadCellsFrom, Sem.run_bind, run_load, hc, Result.andThen_ok]
    rw [loadCellsFrom_run b off cs T fr hb m (j + 1) _ (by omega)]
    congr 1
    apply Array.ext'
    simp only [Array.toList_append, Array.toList_push, Array.toList_extract, List.append_assoc]
    congr 1
    rw [List.extract_eq_take_drop, List.extract_eq_take_drop]
    have h1 : off + (j + 1) + m - (off + (j + 1)) = m := by omega
    have h2 : off + j + (m + 1) - (off + j) = m + 1 := by omega
    rw [h1, h2, show off + (j + 1) = off + j + 1 by omega]
    rw [show cs.toList.drop (off + j) = cs[off + j]'(by omega) :: cs.toList.drop (off + j + 1) from by
      rw [List.drop_eq_getElem_cons (by simpa using (show off + j < cs.size by omega))]; simp]
    simp
theorem load_run {t : TypeId} {b off : Nat} {cs : Array Value} {T : TypeId} {fr : Nat × Nat} {v : Value} (hb : w.heap[b]? = some (.cells cs T fr)) (h : loadF P t off cs = some v) :
    (Instr.loadAt t (.pointer (some ⟨b, off, none⟩))).run P w = .ok v w := by
  unfold loadF at h
  unfold Instr.loadAt Instr.sureAddr loadVar
  cases hu : P.underlying t with
  | none => rw [hu] at h; cases h
  | some D =>
    rw [hu] at h
    have one : ∀ v', cs[off]? = some v' → w.cell? ⟨b, off, none⟩ = some v' := fun v' hv => by simp [World.cell?, hb, hv]
    have agg : ∀ (hagg : (match D with | .struct _ | .array _ _ => true | _ => false) = true) (h : (match P.info? t with
      | some inf => bif Nat.ble (off + inf.size) cs.size then some (Value.agg (cs.extract off (off + inf.size))) else none
      | none => none) = some v), (do if ← isAgg t then pure (.agg (← loadCells ⟨b, off, none⟩ (← sizeOf t))) else load ⟨b, off, none⟩ : Sem Value).run P w = .ok v w := by
      intro hagg h
      cases hi : P.info? t with
      | none => rw [hi] at h; cases h
      | some inf =>
        rw [hi] at h
        simp only at h
        cases hle : Nat.ble (off + inf.size) cs.size with
        | false => rw [hle] at h; cases h
        | true =>
          rw [hle] at h
          have hle' : off + inf.size ≤ cs.size := by simpa using hle
          injection h with h
          subst h
          have hl := loadCellsFrom_run (P := P) (w := w) b off cs T fr hb inf.size 0 #[] (by omega)
          have : (isAgg t).run P w = .ok true w := by
            simp only [isAgg, run_underlying hu, Sem.run_bind, Result.andThen_ok]
            cases D <;> first | rfl | (cases hagg)
          simp only [Sem.run_bind, this, Result.andThen_ok, if_true, sizeOf, typeInfo, hi, loadCells]
          simp [hi, hl]
    have sc : (match D with | .struct _ | .array _ _ => true | _ => false) = false → cs[off]? = some v → (do if ← isAgg t then pure (.agg (← loadCells ⟨b, off, none⟩ (← sizeOf t))) else load ⟨b, off, none⟩ : Sem Value).run P w = .ok v w := by
      intro hagg h
      have : (isAgg t).run P w = .ok false w := by
        simp only [isAgg, run_underlying hu, Sem.run_bind, Result.andThen_ok]
        cases D <;> first | rfl | (cases hagg)
      simp only [Sem.run_bind, this, Result.andThen_ok, Bool.false_eq_true, if_false, run_load, one v h]
    rw [Sem.run_bind, Sem.run_pure, Result.andThen_ok]
    cases D <;> first | exact agg rfl h | exact sc rfl h
theorem ld_exec {dst : Option Nat} {t : TypeId} {b off : Nat} {cs : Array Value} {T : TypeId} {fr : Nat × Nat} {v : Value} {o : Oper} {x : Operand}
    (hop : o.op = .load t x) (hx : WH.evalD fs x = .pointer (some ⟨b, off, none⟩)) (hb : w.heap[b]? = some (.cells cs T fr)) (h : loadF P t off cs = some v) :
    (execOp (WH.evalD fs) o).run P w = .ok (.value v) w := by
  unfold execOp
  simp only [hop, hx, Sem.run_bind, load_run hb h, Result.andThen_ok, Sem.run_pure]
/-- A load out of what is owned, or read alone. -/
theorem val_ld {k d b off : Nat} {t : TypeId} {cs : Array Value} {T : TypeId} {fr : Nat × Nat} {v : Value} (hk : L[k]? = some (blk b (.cells cs T fr)))
    (hl : ldF ops fs i = some (some d, t, ⟨b, off, none⟩)) (hd : Nat.blt d n = true) (hv : loadF P t off cs = some v) : IsVal P ops n fs i d v (fun w => Sat e w R L) := by
  obtain ⟨o, x, ho, hdst, hop, hx⟩ := ldF_sound hl
  exact ⟨o, ho, hdst, hd, fun w X => ld_exec (dst := some d) hop hx (X.blk hk) hv⟩
theorem val_ldR {d b off : Nat} {t : TypeId} {cs : Array Value} {T : TypeId} {fr : Nat × Nat} {v : Value} (hk : R b = some (.cells cs T fr))
    (hl : ldF ops fs i = some (some d, t, ⟨b, off, none⟩)) (hd : Nat.blt d n = true) (hv : loadF P t off cs = some v) : IsVal P ops n fs i d v (fun w => Sat e w R L) := by
  obtain ⟨o, x, ho, hdst, hop, hx⟩ := ldF_sound hl
  exact ⟨o, ho, hdst, hd, fun w X => ld_exec (dst := some d) hop hx (X.rd hk) hv⟩
end
/-! ### Stores -/
section
variable {P : Program} {ops : Array Oper} {Q : Act → World → Prop} {S : World → Prop} {n i : Nat} {e : World} {R : Hp} {a : Act} {w : World} {fs fs' : List (Nat × Value)} {L : List HP} {r : List (Nat × Bool)} {o : Oper}
def putL (cs : Array Value) (off : Nat) : List Value → Array Value
  | [] => cs
  | v :: vs => putL (cs.setIfInBounds off v) (off + 1) vs
def one1 : Value → Bool
  | .agg _ | .tuple _ => false
  | _ => true
theorem putL_size : ∀ (vs : List Value) (cs : Array Value) (off : Nat), (putL cs off vs).size = cs.size
  | [], _, _ => rfl
  | v :: vs, cs, off => by rw [putL, putL_size vs]; simp
theorem store_one {p : Addr} {v u : Value} {k : Sem Unit} (hv : one1 v = true) (hc : w.cell? p = some u) (hf : w.frozen? p = false) :
    (Sem.store .plain p v k).run P w = k.run P (w.setCell p v) := by
  cases v <;> first | (simp [Sem.run, hc, hf]; done) | (simp [one1] at hv)
theorem storeCells_run (b off : Nat) (T : TypeId) (fr : Nat × Nat) : ∀ (vs : List Value) (j : Nat) (w : World) (cs : Array Value), w.heap[b]? = some (.cells cs T fr) → off + j + vs.length ≤ cs.size →
    (∀ v ∈ vs, one1 v = true) → (∀ m, off ≤ m → m < cs.size → ¬ (fr.1 ≤ m ∧ m < fr.2)) →
    ∃ w', (storeCells ⟨b, off, none⟩ vs j).run P w = .ok () w' ∧ w'.heap[b]? = some (.cells (putL cs (off + j) vs) T fr) ∧ w'.os = w.os ∧ w'.tape = w.tape ∧ w'.output = w.output ∧ (∀ c, c ≠ b → w'.heap[c]? = w.heap[c]?)
  | [], j, w, cs, hb, _, _, _ => ⟨w, by simp [storeCells], hb, rfl, rfl, rfl, fun _ _ => rfl⟩
  | v :: vs, j, w, cs, hb, hlen, h1, hfr => by
    have ha : (⟨b, off, none⟩ : Addr).add j = ⟨b, off + j, none⟩ := by unfold Addr.add; split <;> simp_all
    simp only [List.length_cons] at hlen
    have hc : w.cell? ⟨b, off + j, none⟩ = some (cs[off + j]'(by omega)) := by simp [World.cell?, hb, show off + j < cs.size by omega]
    have hf : w.frozen? ⟨b, off + j, none⟩ = false := by
      have := hfr (off + j) (by omega) (by omega)
      obtain ⟨lo, hi⟩ := fr
      simp only [World.frozen?, hb]
      simp only at this
      simpa using this
    obtain ⟨w', e1, e2, e3, e4, e5, e6⟩ := storeCells_run b off T fr vs (j + 1) (w.setCell ⟨b, off + j, none⟩ v) (cs.setIfInBounds (off + j) v) (heap_setCell_self w b _ cs T fr v hb) (by simp; omega)
      (fun u hu => h1 u (List.mem_cons_of_mem _ hu)) (fun m h h' => hfr m h (by simpa using h'))
    refine ⟨w', ?_, by rw [putL]; exact e2, e3, e4, e5, fun c hc => (e6 c hc).trans (heap_setCell_ _ _ _ _ hc)⟩
    simp only [storeCells, Sem.run_bind, ha, store]
    rw [store_one (h1 v (List.mem_cons_self ..)) hc hf]
    simpa using e1
def stF (ops : Array Oper) (fs : List (Nat × Value)) (i : Nat) : Option (Option Nat × TypeId × Addr × Value) :=
  match opF ops fs i with
  | some o => match o.op with
    | .store t x y => match evalF fs x with
      | some (.pointer (some p)) => match evalF fs y with
        | some v => some (o.dst, t, p, v)
        | none => none
      | _ => none
    | _ => none
  | none => none
theorem stF_sound {dst : Option Nat} {t : TypeId} {p : Addr} {v : Value} (h : stF ops fs i = some (dst, t, p, v)) :
    ∃ o x y, opF ops fs i = some o ∧ o.dst = dst ∧ o.op = .store t x y ∧ WH.evalD fs x = .pointer (some p) ∧ WH.evalD fs y = v := by
  unfold stF at h
  split at h
  · rename_i o ho
    split at h
    · rename_i t' x y hop
      split at h
      · rename_i q hq
        split at h
        · rename_i u hu
          simp only [Option.some.injEq, Prod.mk.injEq] at h
          obtain ⟨rfl, rfl, rfl, rfl⟩ := h
          exact ⟨o, x, y, ho, rfl, hop, by simp [WH.evalD, hq], by simp [WH.evalD, hu]⟩
        · cases h
      · cases h
    · cases h
  · cases h
/-- What a store asks of the value: as many cells as its type has, each a cell's value. -/
def stOk (P : Program) (t : TypeId) (off : Nat) (v : Value) (cs : Array Value) : Bool :=
  match P.info? t with
  | some inf => Nat.beq v.cells.size inf.size && v.cells.toList.all one1 && Nat.ble (off + inf.size) cs.size
  | none => false
theorem op_store {k b off : Nat} {t : TypeId} {v : Value} {cs : Array Value} {T : TypeId} {K : Act → World → Prop} {Qx : Exit → Act → World → Prop} (H : St n e R a w fs L) (hk : L[k]? = some (blk b (.cells cs T (0, 0))))
    (hl : stF ops fs i = some (none, t, ⟨b, off, none⟩, v)) (hok : stOk P t off v cs = true)
    (h : ∀ a' w', St n e R a' w' fs (L.set k (blk b (.cells (putL cs off v.cells.toList) T (0, 0)))) → K a' w') : wpOp P ops Qx i K a w := by
  obtain ⟨o, x, y, ho, hdst, hop, hx, hy⟩ := stF_sound hl
  have hb := H.sat.blk hk
  unfold stOk at hok
  split at hok
  · rename_i inf hi
    simp only [Bool.and_eq_true, List.all_eq_true] at hok
    obtain ⟨⟨q1, q2⟩, q3⟩ := hok
    have q1 : v.cells.size = inf.size := Nat.eq_of_beq_eq_true q1
    have q3 : off + inf.size ≤ cs.size := Nat.le_of_ble_eq_true q3
    obtain ⟨w', e1, e2, e3, e4, e5, e6⟩ := storeCells_run (P := P) b off T (0, 0) v.cells.toList 0 w cs hb (by simp; omega) q2 (fun m _ _ => by simp)
    have hr : (execOp (WH.evalD fs) o).run P w = .ok .skip w' := by
      unfold execOp
      have hsz : (sizeOf t).run P w = .ok inf.size w := by simp [sizeOf, typeInfo, hi]
      have h2 : (storeVar t ⟨b, off, none⟩ v).run P w = .ok () w' := by
        unfold storeVar
        rw [Sem.run_bind, hsz, Result.andThen_ok, if_neg (by simpa using q1)]
        exact e1
      have h3 : (Instr.storeAt t (.pointer (some ⟨b, off, none⟩)) v).run P w = .ok () w' := by
        unfold Instr.storeAt Instr.sureAddr
        rw [Sem.run_bind, Sem.run_pure, Result.andThen_ok]
        exact h2
      simp only [hop, hx, hy]
      rw [Sem.run_bind, h3, Result.andThen_ok]
      rfl
    obtain ⟨h1, h2, h3, _⟩ := opF_sound H.sl ho
    have X := H.sat.turn e3 e4 e5 hk (fun c _ hc => e6 c hc) (by simpa using e2)
    exact wpOp_skip h1 h2 (by rw [h3]; exact hr) (by rw [hdst]; exact h a w' ⟨H.sl, X⟩)
  · cases hok

/-! ### Calls -/
def entF (P : Program) (ops : Array Oper) (fs : List (Nat × Value)) (i : Nat) (w : World) : Option (Option Nat × FuncId × Array Value × World) :=
  match opF ops fs i with
  | some o => match (execOp (evalD fs) o).run P w with
    | .ok (.enter f args) w' => some (o.dst, f, args, w')
    | _ => none
  | none => none
theorem op_call {d f : Nat} {args : Array Value} {q : Value → World → Prop} {K : Act → World → Prop} {Qx : Exit → Act → World → Prop} (H : St n e R a w fs L) (hl : entF P ops fs i w = some (some d, f, args, w)) (hd : Nat.blt d n = true)
    (hc : Calls P f args w (Ret q)) (h : ∀ a' v w', q v w' → Slots n a' ((d, v) :: fs) → K a' w') : wpOp P ops Qx i K a w := by
  unfold entF at hl
  split at hl
  · rename_i o ho
    split at hl
    · rename_i f' args' w' hr
      simp only [Option.some.injEq, Prod.mk.injEq] at hl
      obtain ⟨hdst, rfl, rfl, rfl⟩ := hl
      obtain ⟨h1, h2, h3, _⟩ := opF_sound H.sl ho
      unfold wpOp
      simp only [h1, h2, if_true, h3, hr, upX]
      refine hc.mono (Ret.mono fun v w'' hv => ?_)
      have := h (a.put o.dst v) v w'' hv (by rw [hdst]; exact H.sl.put hd v)
      exact this
    · cases hl
  · cases hl
/-- A call whose result goes nowhere. -/
theorem op_call0 {f : Nat} {args : Array Value} {q : Value → World → Prop} {K : Act → World → Prop} {Qx : Exit → Act → World → Prop} (H : St n e R a w fs L) (hl : entF P ops fs i w = some (none, f, args, w))
    (hc : Calls P f args w (Ret q)) (h : ∀ a' v w', q v w' → Slots n a' fs → K a' w') : wpOp P ops Qx i K a w := by
  unfold entF at hl
  split at hl
  · rename_i o ho
    split at hl
    · rename_i f' args' w' hr
      simp only [Option.some.injEq, Prod.mk.injEq] at hl
      obtain ⟨hdst, rfl, rfl, rfl⟩ := hl
      obtain ⟨h1, h2, h3, _⟩ := opF_sound H.sl ho
      unfold wpOp
      simp only [h1, h2, if_true, h3, hr, upX]
      refine hc.mono (Ret.mono fun v w'' hv => ?_)
      have := h (a.put o.dst v) v w'' hv (by rw [hdst]; exact H.sl)
      exact this
    · cases hl
  · cases hl
end

/-! ### The begin and the end of a function -/
def enumF : Nat → List Value → List (Nat × Value)
  | _, [] => []
  | j, v :: vs => (j, v) :: enumF (j + 1) vs
theorem look_enumF : ∀ (vs : List Value) (j t : Nat) (v : Value), look t (enumF j vs) = some v → ∃ m, t = j + m ∧ vs[m]? = some v
  | [], j, t, v, h => by cases h
  | u :: vs, j, t, v, h => by
    simp only [enumF, look] at h
    by_cases e : t = j
    · subst e; simp at h; subst h; exact ⟨0, rfl, rfl⟩
    · rw [beq_ne e] at h
      obtain ⟨m, h1, h2⟩ := look_enumF vs (j + 1) t v h
      exact ⟨m + 1, by omega, by simpa using h2⟩
theorem enter {P : Program} {f n : Nat} {fn : Func} {c : Code} {args : List Value} {Rr : Ending → World → Prop} {e w : World} {R : Hp} {L : List HP}
    (hf : P.funcs[f]? = some fn) (hb : fn.body = some c) (hn : fn.ntmps = n) (hs : Nat.ble args.length n = true) (X : Sat e w R L)
    (h : ∀ a, St n e R a w (enumF 0 args) L → WK P (fk f) Rr [.code c] a w) : Calls P f args.toArray w Rr := by
  have hs' : args.length ≤ n := Nat.le_of_ble_eq_true hs
  refine calls_of_WK hf hb (h _ ⟨⟨?_, rfl, fun t v ht => ?_⟩, X⟩)
  · simp [hn]; omega
  · obtain ⟨m, rfl, hm⟩ := look_enumF args 0 t v ht
    have hlt : m < args.length := (List.getElem?_eq_some_iff.1 hm).1
    show (args.toArray ++ _)[0 + m]? = some v
    rw [Array.getElem?_append_left (by simpa using hlt)]
    simpa using hm

inductive RetV (P : Program) (w : World) (fs : List (Nat × Value)) : List ResultVar → List Value → Prop
  | nil : RetV P w fs [] []
  | tmp {t : Nat} {v : Value} {rs : List ResultVar} {vs : List Value} (h : look t fs = some v) (hr : RetV P w fs rs vs) : RetV P w fs (.tmp t :: rs) (v :: vs)
  | cell {t b : Nat} {ty : TypeId} {cs : Array Value} {T : TypeId} {fr : Nat × Nat} {v : Value} {rs : List ResultVar} {vs : List Value} (h : look t fs = some (.pointer (some ⟨b, 0, none⟩)))
      (hb : w.heap[b]? = some (.cells cs T fr)) (hv : loadF P ty 0 cs = some v) (hr : RetV P w fs rs vs) : RetV P w fs (.cell t ty :: rs) (v :: vs)
theorem retV_run {P : Program} {w : World} {fs : List (Nat × Value)} {n : Nat} {a : Act} (Sl : Slots n a fs) {rs : List ResultVar} {vs : List Value} (h : RetV P w fs rs vs)
    (g : ResultVar → Sem Value) (hg : ∀ t, g (.tmp t) = pure (a.tmps.getD t undef)) (hc : ∀ t ty, g (.cell t ty) = (do loadVar ty (← asAddr (a.tmps.getD t undef)))) : (rs.mapM g).run P w = .ok vs w := by
  have ev : ∀ {t : Nat} {v : Value}, look t fs = some v → a.tmps.getD t undef = v := fun {t v} h => by
    rw [Array.getD_eq_getD_getElem?, Sl.at_ t v h]; rfl
  induction h with
  | nil => simp
  | tmp h hr ih => simp [List.mapM_cons, hg, ih, ev h]
  | cell h hb hv hr ih =>
    have hl := load_run (P := P) hb hv
    unfold Instr.loadAt Instr.sureAddr at hl
    rw [Sem.run_bind, Sem.run_pure, Result.andThen_ok] at hl
    rw [List.mapM_cons, hc, ev h]
    simp [asAddr, hl, ih]
theorem results_of {P : Program} {w : World} {fs : List (Nat × Value)} {n : Nat} {a : Act} (Sl : Slots n a fs) {fn : Func} {rs : List ResultVar} {vs : List Value} (hf : fn.results = rs.toArray) (h : RetV P w fs rs vs) :
    (results fn a.tmps).run P w = .ok (match vs with | [v] => v | vs => .tuple vs.toArray) w := by
  unfold results
  rw [hf, List.mapM_toArray]
  simp only [Sem.run_bind, Sem.run_map]
  rw [retV_run Sl h _ (fun _ => rfl) (fun _ _ => rfl)]
  rcases vs with _ | ⟨v, _ | ⟨v2, vs⟩⟩ <;> simp
section
variable {P : Program} {f n : Nat} {q : Value → World → Prop} {k : List Item} {e : World} {R : Hp} {a : Act} {w : World} {fs : List (Nat × Value)} {L : List HP}
theorem st_ret {fn : Func} {rs : List ResultVar} {vs : List Value} (H : St n e R a w fs L) (hf : P.funcs[f]? = some fn) (hr : fn.results = rs.toArray) (hv : RetV P w fs rs vs)
    (h : q (match vs with | [v] => v | vs => .tuple vs.toArray) w) : WK P (fk f) (Ret q) (.code .ret :: k) a w :=
  WK.ret hf H.sl.defs (results_of H.sl hr hv) ⟨_, rfl, h⟩
theorem st_end {fn : Func} {rs : List ResultVar} {vs : List Value} (H : St n e R a w fs L) (hf : P.funcs[f]? = some fn) (hr : fn.results = rs.toArray) (hv : RetV P w fs rs vs)
    (h : q (match vs with | [v] => v | vs => .tuple vs.toArray) w) : WK P (fk f) (Ret q) [] a w :=
  WK.end_ hf H.sl.defs (results_of H.sl hr hv) ⟨_, rfl, h⟩
theorem st_cond {f : Fk} {Rr : Ending → World → Prop} {c : Operand} {x y : Code} (b : Bool) (H : St n e R a w fs L) (hc : evalF fs c = some (.bool b)) (ht : b = true → WK P f Rr (.code x :: k) a w) (hf : b = false → WK P f Rr (.code y :: k) a w) :
    WK P f Rr (.code (.cond c x y) :: k) a w := by
  cases b with
  | true => exact WK.cond (H.sl.eval hc) (ht rfl)
  | false => exact WK.cond (H.sl.eval hc) (hf rfl)
theorem st_true {f : Fk} {Rr : Ending → World → Prop} {c : Operand} {x y : Code} (H : St n e R a w fs L) (hc : evalF fs c = some (.bool true)) (h : WK P f Rr (.code x :: k) a w) :
    WK P f Rr (.code (.cond c x y) :: k) a w := WK.cond (H.sl.eval hc) h
theorem st_false {f : Fk} {Rr : Ending → World → Prop} {c : Operand} {x y : Code} (H : St n e R a w fs L) (hc : evalF fs c = some (.bool false)) (h : WK P f Rr (.code y :: k) a w) :
    WK P f Rr (.code (.cond c x y) :: k) a w := WK.cond (H.sl.eval hc) h
theorem ordN_range : ∀ (m i : Nat), ordN i m = List.range' i m
  | 0, i => rfl
  | m + 1, i => by rw [ordN, ordN_range m (i + 1), List.range'_succ]
/-- A region in the order of the text. -/
theorem st_text {f : Fk} {Rr : Ending → World → Prop} {id : Nat} {ops : Array Oper} (m : Nat) (hm : ops.size = m) (h : wpOps P ops (Norm fun a' w' => WK P f Rr k a' w') (ordN 0 m) a w) : WK P f Rr (.code (.region id ops false) :: k) a w := by
  refine WK.region ?_
  rw [List.range_eq_range', hm, ← ordN_range]
  exact h
end
/-! ### A region that draws its order, with new blocks that may be laid at any time -/
inductive En where
  | tk (i : Nat)
  | mv (i : Nat)
  | op (i : Nat)
  | dc (i : Nat)
  | fl (i k : Nat)
structure Fl where
  i : Nat
  d : Nat
  vf : Nat → Value
  ob : Obj
def clear (pd : List Fl) (fs : List (Nat × Value)) : Bool := pd.all fun p => match look p.d fs with | none => true | some _ => false
def sets (l : Array Bool) (D : List Nat) : Array Bool := D.foldl (fun l f => l.setIfInBounds f true) l
def apartAt (ops : Array Oper) (i f : Nat) : Bool :=
  match ops[i]?, ops[f]? with
  | some x, some y => x.apart ops y
  | _, _ => false
def okZ (ops : Array Oper) : List En → Array Bool → List Nat → Bool
  | [], l, pd => pd.isEmpty && (Region.ready .any ops l).isEmpty
  | .tk i :: r, l, pd => Region.free .any ops l i && (Region.ready .any ops l).contains i && pd.all (apartAt ops i) && !pd.contains i && okZ ops r (l.setIfInBounds i true) pd
  | .mv i :: r, l, pd => Region.free .any ops l i && (Region.ready .any ops l).contains i && pd.all (apartAt ops i) && !pd.contains i && okZ ops r (l.setIfInBounds i true) pd
  | .op i :: r, l, pd => (Region.ready .any ops (sets l pd) == [i]) && pd.all (apartAt ops i) && !pd.contains i && okZ ops r (l.setIfInBounds i true) pd
  | .dc i :: r, l, pd => (Region.ready .any ops l).contains i && pd.all (apartAt ops i) && pd.all (fun f => apartAt ops f i) && !pd.contains i && okZ ops r l (i :: pd)
  | .fl i k :: r, l, pd => (pd[k]? == some i) && (Region.ready .any ops (sets l (pd.eraseIdx k)) == [i]) && okZ ops r (l.setIfInBounds i true) (pd.eraseIdx k)

section
def opW (ops : Array Oper) (T : List Nat) : En → Bool
  | .op i => waitsFor .any ops T i
  | .mv _ => true
  | _ => false
variable (P : Program) (ops : Array Oper) (n : Nat) (T : List Nat) (e : World) (R : Hp) (M : List HP) (Q : Act → World → Prop)
def FRun (p : Fl) (a : Act) : Prop :=
  ∃ o, ops[p.i]? = some o ∧ o.dst = some p.d ∧ Region.wanted o (yielded ops a.tmps) = true ∧ ∀ w, (execOp a.eval o).run P w = .ok (.value (p.vf w.heap.size)) (w.alloc p.ob)
def wpZ : List En → List Fl → List (Nat × Value) → List HP → Prop
  | [], _, fs, L => ∀ a w Z, Slots n a fs → Sat e w R (L ++ Z) → Q a w
  | .tk i :: r, pd, fs, L => ∃ o v fs', ops[i]? = some o ∧ (∀ a, Slots n a fs → YieldsIf P ops (fun w => Sat e w R M) o v a) ∧ putF n o.dst v fs = some fs' ∧ clear pd fs' = true ∧ wpZ r pd fs' L
  | .mv i :: r, pd, fs, L => ∃ o v fs', ops[i]? = some o ∧ (∀ a, Slots n a fs → YieldsIf P ops (fun _ => True) o v a) ∧ putF n o.dst v fs = some fs' ∧ clear pd fs' = true ∧ wpZ r pd fs' L
  | .op i :: r, pd, fs, L => ∃ o, ops[i]? = some o ∧ ∀ a w Z, Slots n a fs → Sat e w R (L ++ Z) →
      wpOp P ops (Norm Q) i (fun a' w' => ∃ fs' L', Slots n a' fs' ∧ Sat e w' R (L' ++ Z) ∧ ((∀ w Z, Sat e w R (L' ++ Z) → Sat e w R M) ∨ (pd = [] ∧ (En.op i :: r).all (opW ops T) = true)) ∧ clear pd fs' = true ∧ wpZ r pd fs' L') a w
  | .dc i :: r, pd, fs, L => ∃ p : Fl, p.i = i ∧ Nat.blt p.d n = true ∧ clear (p :: pd) fs = true ∧ (∀ a, Slots n a fs → FRun P ops p a) ∧ wpZ r (p :: pd) fs L
  | .fl _ k :: r, pd, fs, L => ∃ p, pd[k]? = some p ∧ ∀ b, clear (pd.eraseIdx k) ((p.d, p.vf b) :: fs) = true ∧ wpZ r (pd.eraseIdx k) ((p.d, p.vf b) :: fs) (blk b p.ob :: L)
end

theorem getD_sets_false : ∀ (D : List Nat) (l : Array Bool) (x : Nat), (sets l D).getD x false = true ↔ (l.getD x false = true ∨ (x ∈ D ∧ x < l.size))
  | [], l, x => by simp [sets]
  | f :: D, l, x => by
    have ih := getD_sets_false D (l.setIfInBounds f true) x
    simp only [sets, List.foldl_cons] at ih ⊢
    rw [ih]
    simp only [Array.size_setIfInBounds, List.mem_cons, Array.getD_eq_getD_getElem?]
    by_cases h : f = x
    · subst h
      by_cases hl : f < l.size
      · simp [hl]
      · simp [hl]
    · rw [Array.getElem?_setIfInBounds_ne h]
      simp [Ne.symm h]
theorem getD_sets_true : ∀ (D : List Nat) (l : Array Bool) (x : Nat), x ∉ D → (sets l D).getD x true = l.getD x true
  | [], l, x, _ => rfl
  | f :: D, l, x, h => by
    have ih := getD_sets_true D (l.setIfInBounds f true) x (fun hx => h (List.mem_cons_of_mem _ hx))
    simp only [sets, List.foldl_cons] at ih ⊢
    rw [ih]
    simp only [Array.getD_eq_getD_getElem?]
    have hne : f ≠ x := fun hfx => h (by rw [hfx]; exact List.mem_cons_self ..)
    rw [Array.getElem?_setIfInBounds_ne hne]
theorem sets_size : ∀ (D : List Nat) (l : Array Bool), (sets l D).size = l.size
  | [], l => rfl
  | f :: D, l => by
    have := sets_size D (l.setIfInBounds f true)
    simp only [sets, List.foldl_cons, Array.size_setIfInBounds] at this ⊢
    exact this
theorem sets_set (i : Nat) : ∀ (D : List Nat) (l : Array Bool), sets (l.setIfInBounds i true) D = (sets l D).setIfInBounds i true
  | [], l => rfl
  | f :: D, l => by
    have ih := sets_set i D (l.setIfInBounds f true)
    simp only [sets, List.foldl_cons] at ih ⊢
    rw [← ih]
    by_cases h : i = f
    · subst h; rfl
    · rw [Array.setIfInBounds_comm _ _ h]
theorem ready_sets {ops : Array Oper} {l : Array Bool} {D D' : List Nat} {j : Nat} (hj : j ∈ Region.ready .any ops (sets l D)) (hn : j ∉ D') (hD : j ∉ D) (hs : ∀ x ∈ D, x ∈ D') :
    j ∈ Region.ready .any ops (sets l D') := by
  obtain ⟨h1, o, h2, h3⟩ := mem_ready.1 hj
  refine mem_ready.2 ⟨?_, o, h2, fun x hx hb => ?_⟩
  · rw [getD_sets_true _ _ _ hD] at h1
    rw [getD_sets_true _ _ _ hn]
    exact h1
  · have := h3 x hx hb
    rw [getD_sets_false] at this ⊢
    exact this.imp id fun ⟨a, b⟩ => ⟨hs _ a, b⟩

section
variable {P : Program} {ops : Array Oper} {n : Nat} {T : List Nat} {e : World} {R : Hp} {M : List HP} {Q : Act → World → Prop}

theorem wpOp_how {i : Nat} {o : Oper} {K : Act → World → Prop} {a : Act} {w : World} (ho : ops[i]? = some o) (h : wpOp P ops (Norm Q) i K a w) (hd : a.defers = []) :
    wpOp P ops (Norm Q) i (fun a' w' => K a' w' ∧ (a'.defers = [] → ∃ v, a' = a.put o.dst v)) a w := by
  unfold wpOp at *
  simp only [ho] at *
  split
  · rename_i hw
    simp only [hw, if_true] at h
    exact upX.mono (fun v w q => ⟨q, fun _ => ⟨v, rfl⟩⟩) h
  · rename_i hw
    simp only [hw] at h
    exact ⟨h, fun _ => ⟨undef, rfl⟩⟩

theorem FRun.put {p : Fl} {a : Act} {i : Nat} {oi : Oper} {v : Value} (h : FRun P ops p a) (hs : Region.noSelect ops = true) (hi : ops[i]? = some oi) (hap : apartAt ops i p.i = true) : FRun P ops p (a.put oi.dst v) := by
  obtain ⟨o, h1, h2, h3, h4⟩ := h
  unfold apartAt at hap
  simp only [hi, h1] at hap
  obtain ⟨q1, q2, q3⟩ := Oper.apart_spec hap
  refine ⟨o, h1, h2, ?_, fun w => ?_⟩
  · rw [wanted_put o a oi.dst v q1]; exact h3
  · rw [execOp_put o (fun cs b => Region.noSelect_spec hs p.i o cs b h1) a oi.dst v q1]; exact h4 w
theorem slot_put {p : Fl} {a : Act} {i : Nat} {oi o : Oper} {v u : Value} (ho : ops[p.i]? = some o) (hd : o.dst = some p.d) (hi : ops[i]? = some oi) (hap : apartAt ops i p.i = true) (h : a.tmps[p.d]? = some u) :
    (a.put oi.dst v).tmps[p.d]? = some u := by
  unfold apartAt at hap
  simp only [hi, ho] at hap
  obtain ⟨q1, q2, q3⟩ := Oper.apart_spec hap
  cases hdi : oi.dst with
  | none => simpa [Act.put] using h
  | some t =>
    have hne : t ≠ p.d := fun hh => q2 t hdi (by rw [hd, hh])
    simp only [Act.put]
    rw [Array.getElem?_setIfInBounds_ne hne]
    exact h
theorem clear_mem {pd : List Fl} {fs : List (Nat × Value)} (h : clear pd fs = true) {p : Fl} (hp : p ∈ pd) : look p.d fs = none := by
  have := List.all_eq_true.1 h p hp
  cases hl : look p.d fs with
  | none => rfl
  | some v => simp [hl] at this
theorem Slots.aside {a : Act} {fs : List (Nat × Value)} (H : Slots n a fs) {d : Nat} (h : look d fs = none) (v : Value) : Slots n (a.put (some d) v) fs := by
  refine ⟨by simp [Act.put, H.size], H.defs, fun t u ht => ?_⟩
  have hne : d ≠ t := by rintro rfl; rw [h] at ht; cases ht
  simp only [Act.put]
  rw [Array.getElem?_setIfInBounds_ne hne]
  exact H.at_ t u ht
theorem Slots.also' {a : Act} {fs : List (Nat × Value)} (H : Slots n a fs) {d : Nat} {v : Value} (h : a.tmps[d]? = some v) : Slots n a ((d, v) :: fs) := by
  refine ⟨H.size, H.defs, fun t u ht => ?_⟩
  simp only [look] at ht
  by_cases hd : t = d
  · subst hd; simp at ht; subst ht; exact h
  · rw [beq_ne hd] at ht; exact H.at_ t u ht

def cost : List En → Nat
  | [] => 0
  | .fl _ _ :: r => cost r
  | _ :: r => cost r + 1
def zs (dn : List (Fl × Nat)) : List HP := dn.map fun x => blk x.2 x.1.ob
theorem nodup_inj : ∀ {pd : List Fl} {p q : Fl}, (pd.map (·.i)).Nodup → p ∈ pd → q ∈ pd → p.i = q.i → p = q
  | [], p, q, _, h, _, _ => by cases h
  | x :: pd, p, q, hn, hp, hq, he => by
    simp only [List.map_cons, List.nodup_cons] at hn
    rcases List.mem_cons.1 hp with e1 | hp <;> rcases List.mem_cons.1 hq with e2 | hq
    · rw [e1, e2]
    · exact absurd (List.mem_map.2 ⟨q, hq, by rw [← he, e1]⟩) hn.1
    · exact absurd (List.mem_map.2 ⟨p, hp, by rw [he, e2]⟩) hn.1
    · exact nodup_inj hn.2 hp hq he
theorem sets_ready {ops : Array Oper} {l : Array Bool} {D : List Nat} {i j : Nat} (h : j ∈ Region.ready .any ops (sets l D)) (hne : j ≠ i) : j ∈ Region.ready .any ops (sets (l.setIfInBounds i true) D) := by
  rw [sets_set]; exact ready_mono h hne
theorem not_in_sets {ops : Array Oper} {l : Array Bool} {D : List Nat} {j : Nat} (h : j ∈ Region.ready .any ops (sets l D)) : j ∉ D := by
  intro hj
  obtain ⟨h1, o, h2, _⟩ := mem_ready.1 h
  have hlt : j < l.size ∨ ¬ j < l.size := Nat.lt_or_ge j l.size |>.imp id Nat.not_lt.2
  rcases hlt with hlt | hlt
  · have := (getD_sets_false D l j).2 (.inr ⟨hj, hlt⟩)
    simp only [Array.getD_eq_getD_getElem?] at h1 this
    cases hh : (sets l D)[j]? with
    | none => rw [hh] at this; cases this
    | some b => rw [hh] at h1 this; simp at h1 this; rw [h1] at this; cases this
  · have : (sets l D)[j]? = none := Array.getElem?_eq_none (by rw [sets_size]; omega)
    simp [Array.getD_eq_getD_getElem?, this] at h1

theorem getD_sets_mono : ∀ (D : List Nat) (l : Array Bool) (x : Nat), l.getD x true = true → (sets l D).getD x true = true
  | [], l, x, h => h
  | f :: D, l, x, h => by
    refine getD_sets_mono D (l.setIfInBounds f true) x ?_
    simp only [Array.getD_eq_getD_getElem?] at h ⊢
    by_cases hf : f = x
    · subst hf
      by_cases hl : f < l.size
      · simp [hl]
      · simp [hl]
    · rw [Array.getElem?_setIfInBounds_ne hf]; exact h
theorem free_sets {ops : Array Oper} {l : Array Bool} {D : List Nat} {i : Nat} (h : Region.free .any ops l i = true) : Region.free .any ops (sets l D) i = true := by
  unfold Region.free at *
  split
  · rename_i h0; rw [h0] at h; exact h
  · rename_i oi h0
    rw [h0] at h
    simp only [List.all_eq_true, List.mem_range, Bool.or_eq_true] at h ⊢
    intro j hj
    rcases h j hj with (h1 | h1) | h1
    · exact .inl (.inl h1)
    · exact .inl (.inr (getD_sets_mono D l j h1))
    · exact .inr h1
theorem mem_eraseIdx_of_nodup : ∀ {pd : List Fl} {k : Nat} {p : Fl}, (pd.map (·.i)).Nodup → pd[k]? = some p → ∀ q, q ∈ pd.eraseIdx k ↔ q ∈ pd ∧ q.i ≠ p.i
  | [], k, p, _, h, q => by simp at h
  | x :: pd, 0, p, hn, h, q => by
    simp at h; subst h
    simp only [List.map_cons, List.nodup_cons] at hn
    simp only [List.eraseIdx_cons_zero, List.mem_cons]
    constructor
    · intro hq; exact ⟨.inr hq, fun he => hn.1 (by rw [← he]; exact List.mem_map.2 ⟨q, hq, rfl⟩)⟩
    · rintro ⟨rfl | hq, he⟩
      · exact absurd rfl he
      · exact hq
  | x :: pd, k + 1, p, hn, h, q => by
    simp only [List.map_cons, List.nodup_cons] at hn
    have h' : pd[k]? = some p := by simpa using h
    simp only [List.eraseIdx_cons_succ, List.mem_cons, mem_eraseIdx_of_nodup hn.2 h' q]
    constructor
    · rintro (rfl | ⟨hq, he⟩)
      · exact ⟨.inl rfl, fun he => hn.1 (by rw [he]; exact List.mem_map.2 ⟨p, List.mem_of_getElem? h', rfl⟩)⟩
      · exact ⟨.inr hq, he⟩
    · rintro ⟨rfl | hq, he⟩
      · exact .inl rfl
      · exact .inr ⟨hq, he⟩
theorem map_eraseIdx_ : ∀ (pd : List Fl) (k : Nat), (pd.eraseIdx k).map (·.i) = (pd.map (·.i)).eraseIdx k
  | [], k => by simp
  | x :: pd, 0 => by simp
  | x :: pd, k + 1 => by simp [map_eraseIdx_ pd k]
theorem sets_append (l : Array Bool) (D D' : List Nat) : sets l (D ++ D') = sets (sets l D) D' := by simp [sets]
theorem sets_out (l : Array Bool) (D1 D2 : List Nat) (i : Nat) : sets l (D1 ++ i :: D2) = sets (l.setIfInBounds i true) (D1 ++ D2) := by
  rw [sets_append, sets_append, sets_set]; rfl

/-- What the walk of a region knows while it goes on. -/
structure Zk (fr : Prop) (P : Program) (ops : Array Oper) (n : Nat) (e : World) (R : Hp) (M : List HP) (pd : List Fl) (fs : List (Nat × Value)) (L : List HP) (l : Array Bool) (un : List Fl) (dn : List (Fl × Nat)) (Z0 : List HP) (a : Act) (w : World) : Prop where
  mem : ∀ p, p ∈ pd ↔ (p ∈ un ∨ p ∈ dn.map (·.1))
  nod : (pd.map (·.i)).Nodup
  apt : ∀ x ∈ pd, ∀ y ∈ pd, x.i ≠ y.i → apartAt ops x.i y.i = true
  dis : ∀ p ∈ un, p.i ∉ dn.map (·.1.i)
  dnn : (dn.map (·.1.i)).Nodup
  sl : Slots n a fs
  sat : Sat e w R (L ++ (zs dn ++ Z0))
  don : ∀ x ∈ dn, a.tmps[x.1.d]? = some (x.1.vf x.2)
  opx : ∀ p ∈ pd, ∃ o, ops[p.i]? = some o ∧ o.dst = some p.d ∧ Nat.blt p.d n = true
  run : ∀ p ∈ un, FRun P ops p a
  rdy : ∀ p ∈ un, p.i ∈ Region.ready .any ops (sets l (dn.map (·.1.i)))
  clr : clear pd fs = true
  stb : (∀ w Z, Sat e w R (L ++ Z) → Sat e w R M) ∨ fr

section
variable {P : Program} {ops : Array Oper} {n : Nat} {T : List Nat} {e : World} {R : Hp} {M : List HP} {Q : Act → World → Prop} {pd un : List Fl} {fs : List (Nat × Value)} {L Z0 : List HP} {l : Array Bool} {dn : List (Fl × Nat)} {a : Act} {w : World}
theorem zs_front (x : Fl × Nat) (dn : List (Fl × Nat)) (L Z0 : List HP) : star (blk x.2 x.1.ob) (all (L ++ (zs dn ++ Z0))) = all (L ++ (zs (dn ++ [x]) ++ Z0)) := by
  have : zs (dn ++ [x]) = zs dn ++ [blk x.2 x.1.ob] := by simp [zs]
  rw [this]
  simp only [all_append, all_cons, all]
  rw [star_emp, star_left, star_left (blk x.2 x.1.ob), star_assoc (all (zs dn)) (blk x.2 x.1.ob)]
/-- A block that may be laid is laid. -/
theorem Zk.lay {fr : Prop} (K : Zk fr P ops n e R M pd fs L l un dn Z0 a w) (hs : Region.noSelect ops = true) {p : Fl} (hp : p ∈ un) {K1 : Act → World → Prop}
    (h : ∀ a' w', Zk fr P ops n e R M pd fs L l (un.filter (·.i != p.i)) (dn ++ [(p, w.heap.size)]) Z0 a' w' → K1 a' w') : wpOp P ops (Norm Q) p.i K1 a w := by
  obtain ⟨o, ho, hd, hw, hrun⟩ := K.run p hp
  have hpp : p ∈ pd := (K.mem p).2 (.inl hp)
  obtain ⟨_, _, _, hbl⟩ := K.opx p hpp
  have mf : ∀ {q}, q ∈ un.filter (·.i != p.i) → q ∈ un ∧ q.i ≠ p.i := fun hq => by simpa using hq
  refine wpOp_value ho hw (hrun w) (h _ _ ?_)
  rw [hd]
  refine { mem := fun q => ?_, nod := K.nod, apt := K.apt, dis := fun q hq => ?_, dnn := ?_, sl := K.sl.aside (clear_mem K.clr hpp) _, sat := (K.sat.alloc p.ob).cast (zs_front (p, w.heap.size) dn L Z0), don := fun x hx => ?_, opx := K.opx, run := fun q hq => ?_, rdy := fun q hq => ?_, clr := K.clr, stb := K.stb }
  · rw [K.mem q]
    simp only [List.mem_filter, bne_iff_ne, ne_eq, List.map_append, List.map_cons, List.map_nil, List.mem_append, List.mem_singleton]
    constructor
    · rintro (hq | hq)
      · by_cases he : q.i = p.i
        · exact .inr (.inr (nodup_inj K.nod ((K.mem q).2 (.inl hq)) hpp he))
        · exact .inl ⟨hq, he⟩
      · exact .inr (.inl hq)
    · rintro (hq | hq | rfl)
      · exact .inl hq.1
      · exact .inr hq
      · exact .inl hp
  · obtain ⟨hq1, hq2⟩ := mf hq
    simp only [List.map_append, List.map_cons, List.map_nil, List.mem_append, List.mem_singleton, not_or]
    exact ⟨K.dis q hq1, hq2⟩
  · rw [List.map_append, List.nodup_append]
    refine ⟨K.dnn, by simp, fun x hx y hy => ?_⟩
    simp only [List.map_cons, List.map_nil, List.mem_singleton] at hy
    subst hy
    rintro rfl
    exact K.dis p hp hx
  · rcases List.mem_append.1 hx with hx | hx
    · have hxp : x.1 ∈ pd := (K.mem x.1).2 (.inr (List.mem_map.2 ⟨x, hx, rfl⟩))
      have hne : p.i ≠ x.1.i := fun h => K.dis p hp (by rw [h]; exact List.mem_map.2 ⟨x, hx, rfl⟩)
      obtain ⟨ox, h1, h2, _⟩ := K.opx x.1 hxp
      have := slot_put (v := p.vf w.heap.size) h1 h2 ho (K.apt p hpp x.1 hxp hne) (K.don x hx)
      rw [hd] at this
      exact this
    · rw [List.mem_singleton] at hx
      subst hx
      have : p.d < a.tmps.size := by rw [K.sl.size]; exact Nat.le_of_ble_eq_true hbl
      simp [Act.put, this]
  · obtain ⟨hq1, hq2⟩ := mf hq
    have := (K.run q hq1).put (v := p.vf w.heap.size) hs ho (K.apt p hpp q ((K.mem q).2 (.inl hq1)) (Ne.symm hq2))
    rw [hd] at this
    exact this
  · obtain ⟨hq1, hq2⟩ := mf hq
    have := ready_mono (K.rdy q hq1) hq2
    simpa [sets, List.map_append, List.foldl_append] using this
theorem filter_lt {un : List Fl} {p : Fl} (hp : p ∈ un) : (un.filter (·.i != p.i)).length < un.length := by
  rw [List.length_filter_lt_length_iff_exists]
  exact ⟨p, hp, by simp⟩
theorem sets_snoc (l : Array Bool) (dn : List (Fl × Nat)) (p : Fl) (b : Nat) : sets l ((dn ++ [(p, b)]).map (·.1.i)) = (sets l (dn.map (·.1.i))).setIfInBounds p.i true := by
  simp [sets, List.map_append, List.foldl_append]

theorem wpZ_sound (hs : Region.noSelect ops = true) : ∀ (r : List En) {pd un : List Fl} {fs : List (Nat × Value)} {L Z0 : List HP} {l : Array Bool} {dn : List (Fl × Nat)} {a : Act} {w : World} (m fuel : Nat),
    un.length = m → okZ ops r l (pd.map (·.i)) = true → (∀ i, En.tk i ∈ r → i ∈ T) → wpZ P ops n T e R M Q r pd fs L → Zk (pd = [] ∧ r.all (opW ops T) = true) P ops n e R M pd fs L l un dn Z0 a w → cost r + un.length ≤ fuel →
    wpAnyH P .any ops (Norm Q) (fun w => Sat e w R M) T fuel (sets l (dn.map (·.1.i))) a w := by
  intro r
  induction r with
  | nil =>
    intro pd un fs L Z0 l dn a w m fuel hm hok hTr hz K hf
    simp only [okZ, Bool.and_eq_true, List.isEmpty_iff, List.map_eq_nil_iff] at hok
    obtain ⟨rfl, hr⟩ := hok
    have hdn0 : dn = [] := by
      cases dn with
      | nil => rfl
      | cons x dn => exact absurd ((K.mem x.1).2 (.inr (by simp))) (by simp)
    subst hdn0
    exact wpAnyH_done hr ⟨rfl, hz a w _ K.sl (by simpa [zs] using K.sat)⟩ fuel
  | cons en r ih =>
    intro pd un fs L Z0 l dn a w m
    induction m using Nat.strongRecOn generalizing un dn a w with
    | _ m ihm =>
    intro fuel hm hok hTr hz K hf
    have hTr' : ∀ i, En.tk i ∈ r → i ∈ T := fun i hi => hTr i (List.mem_cons_of_mem _ hi)
    have hidl : ∀ x ∈ dn, x.1.i ∈ pd.map (·.i) := fun x hx => List.mem_map.2 ⟨x.1, (K.mem x.1).2 (.inr (List.mem_map.2 ⟨x, hx, rfl⟩)), rfl⟩
    have hdsub : ∀ x ∈ dn.map (·.1.i), x ∈ pd.map (·.i) := fun x hx => by
      obtain ⟨y, hy, rfl⟩ := List.mem_map.1 hx; exact hidl y hy
    -- a block that may be laid now is laid now
    have float : ∀ p ∈ un, ∀ fuel', fuel = fuel' + 1 → wpOp P ops (Norm Q) p.i (fun a' w' => (Sat e w R M → Sat e w' R M ∨ waitsFor .any ops T p.i = true) ∧ wpAnyH P .any ops (Norm Q) (fun w => Sat e w R M) T fuel' ((sets l (dn.map (·.1.i))).setIfInBounds p.i true) a' w') a w := by
      intro p hp fuel' hfu
      refine K.lay hs hp fun a' w' K' => ⟨fun _ => .inl ?_, ?_⟩
      · rcases K'.stb with h | ⟨h, _⟩
        · exact h _ _ K'.sat
        · have := (K.mem p).2 (.inl hp)
          rw [h] at this; cases this
      have hlt := filter_lt hp
      have := ihm _ (hm ▸ hlt) fuel' rfl hok hTr hz K' (by omega)
      rw [sets_snoc] at this
      exact this
    cases en with
    | tk i =>
      simp only [okZ, Bool.and_eq_true, Bool.not_eq_true', List.all_eq_true] at hok
      obtain ⟨⟨⟨⟨hfree, hrdy⟩, hap⟩, hnp⟩, hok⟩ := hok
      obtain ⟨o, v, fs', ho, hy, hput, hcl, hz⟩ := hz
      have hni : i ∉ dn.map (·.1.i) := fun h => by
        have := hdsub i h
        rw [← List.contains_iff_mem] at this
        rw [this] at hnp; cases hnp
      simp only [cost] at hf
      obtain ⟨fuel', rfl⟩ : ∃ f, fuel = f + 1 := ⟨fuel - 1, by omega⟩
      have hfree' : Region.free .any ops (sets l (dn.map (·.1.i))) i = true := free_sets hfree
      have hrdy' : (Region.ready .any ops (sets l (dn.map (·.1.i)))).contains i = true := by
        have h0 : i ∈ Region.ready .any ops (sets l []) := by simpa [sets] using hrdy
        have := ready_sets (D' := dn.map (·.1.i)) h0 hni (by simp) (by simp)
        simpa using this
      have hst : ∀ w Z, Sat e w R (L ++ Z) → Sat e w R M := by
        rcases K.stb with h | ⟨_, h⟩
        · exact h
        · simp [opW] at h
      refine wpAnyH_take (hTr i (List.mem_cons_self ..)) ho hs hfree' hrdy' (hy a K.sl) (hst w _ K.sat) ?_
      rw [← sets_set]
      have hap' : ∀ p ∈ pd, apartAt ops i p.i = true := fun p hp => hap p.i (List.mem_map.2 ⟨p, hp, rfl⟩)
      refine ih (Z0 := Z0) m fuel' hm hok hTr' hz ?_ (by omega)
      exact { mem := K.mem, nod := K.nod, apt := K.apt, dis := K.dis, dnn := K.dnn, sl := putF_sound K.sl hput, sat := K.sat,
              don := fun x hx => (let ⟨ox, h1, h2, _⟩ := K.opx x.1 ((K.mem x.1).2 (.inr (List.mem_map.2 ⟨x, hx, rfl⟩))); slot_put h1 h2 ho (hap' x.1 ((K.mem x.1).2 (.inr (List.mem_map.2 ⟨x, hx, rfl⟩)))) (K.don x hx)), opx := K.opx,
              run := fun p hp => (K.run p hp).put hs ho (hap' p ((K.mem p).2 (.inl hp))),
              rdy := fun p hp => sets_ready (K.rdy p hp) (fun h => by
                have := List.mem_map.2 ⟨p, (K.mem p).2 (.inl hp), h⟩
                rw [← List.contains_iff_mem] at this
                rw [this] at hnp; cases hnp), clr := hcl, stb := .inl hst }
    | mv i =>
      simp only [okZ, Bool.and_eq_true, Bool.not_eq_true', List.all_eq_true] at hok
      obtain ⟨⟨⟨⟨hfree, hrdy⟩, hap⟩, hnp⟩, hok⟩ := hok
      obtain ⟨o, v, fs', ho, hy, hput, hcl, hz⟩ := hz
      have hni : i ∉ dn.map (·.1.i) := fun h => by
        have := hdsub i h
        rw [← List.contains_iff_mem] at this
        rw [this] at hnp; cases hnp
      simp only [cost] at hf
      obtain ⟨fuel', rfl⟩ : ∃ f, fuel = f + 1 := ⟨fuel - 1, by omega⟩
      have hfree' : Region.free .any ops (sets l (dn.map (·.1.i))) i = true := free_sets hfree
      have hrdy' : (Region.ready .any ops (sets l (dn.map (·.1.i)))).contains i = true := by
        have h0 : i ∈ Region.ready .any ops (sets l []) := by simpa [sets] using hrdy
        have := ready_sets (D' := dn.map (·.1.i)) h0 hni (by simp) (by simp)
        simpa using this
      refine wpAnyH_move ho hs hfree' hrdy' (hy a K.sl) ?_
      rw [← sets_set]
      have hap' : ∀ p ∈ pd, apartAt ops i p.i = true := fun p hp => hap p.i (List.mem_map.2 ⟨p, hp, rfl⟩)
      refine ih (Z0 := Z0) m fuel' hm hok hTr' hz ?_ (by omega)
      exact { mem := K.mem, nod := K.nod, apt := K.apt, dis := K.dis, dnn := K.dnn, sl := putF_sound K.sl hput, sat := K.sat,
              don := fun x hx => (let ⟨ox, h1, h2, _⟩ := K.opx x.1 ((K.mem x.1).2 (.inr (List.mem_map.2 ⟨x, hx, rfl⟩))); slot_put h1 h2 ho (hap' x.1 ((K.mem x.1).2 (.inr (List.mem_map.2 ⟨x, hx, rfl⟩)))) (K.don x hx)), opx := K.opx,
              run := fun p hp => (K.run p hp).put hs ho (hap' p ((K.mem p).2 (.inl hp))),
              rdy := fun p hp => sets_ready (K.rdy p hp) (fun h => by
                have := List.mem_map.2 ⟨p, (K.mem p).2 (.inl hp), h⟩
                rw [← List.contains_iff_mem] at this
                rw [this] at hnp; cases hnp), clr := hcl, stb := K.stb.imp id fun h => ⟨h.1, by have := h.2; simp only [List.all_cons, Bool.and_eq_true] at this; exact this.2⟩ }
    | op i =>
      simp only [okZ, Bool.and_eq_true, Bool.not_eq_true', List.all_eq_true, beq_iff_eq] at hok
      obtain ⟨⟨⟨hone, hap⟩, hnp⟩, hok⟩ := hok
      obtain ⟨o, ho, hz⟩ := hz
      simp only [cost] at hf
      obtain ⟨fuel', rfl⟩ : ∃ f, fuel = f + 1 := ⟨fuel - 1, by omega⟩
      have hap' : ∀ p ∈ pd, apartAt ops i p.i = true := fun p hp => hap p.i (List.mem_map.2 ⟨p, hp, rfl⟩)
      have hni : i ∉ pd.map (·.i) := fun h => by
        rw [← List.contains_iff_mem] at h
        rw [h] at hnp; cases hnp
      have hne : Region.ready .any ops (sets l (dn.map (·.1.i))) ≠ [] := by
        cases un with
        | cons p un => intro h0; have := K.rdy p (List.mem_cons_self ..); rw [h0] at this; cases this
        | nil =>
          have h1 : i ∈ Region.ready .any ops (sets l (pd.map (·.i))) := by rw [hone]; simp
          have h2 := ready_sets (D' := dn.map (·.1.i)) h1 (fun h => hni (hdsub i h)) hni (fun x hx => by
            obtain ⟨p, hp, rfl⟩ := List.mem_map.1 hx
            rcases (K.mem p).1 hp with h | h
            · cases h
            · obtain ⟨y, hy, rfl⟩ := List.mem_map.1 h; exact List.mem_map.2 ⟨y, hy, rfl⟩)
          intro h0; rw [h0] at h2; cases h2
      refine wpAnyH_all rfl hne fun j hj => ?_
      by_cases hjp : j ∈ pd.map (·.i)
      · obtain ⟨p, hp, rfl⟩ := List.mem_map.1 hjp
        rcases (K.mem p).1 hp with hu | hd
        · exact float p hu fuel' rfl
        · obtain ⟨y, hy, rfl⟩ := List.mem_map.1 hd
          exact absurd (List.mem_map.2 ⟨y, hy, rfl⟩) (not_in_sets hj)
      · have h1 := ready_sets (D' := pd.map (·.i)) hj hjp (not_in_sets hj) hdsub
        rw [hone, List.mem_singleton] at h1
        subst h1
        have h2 := wpOp_how ho (hz a w _ K.sl K.sat) K.sl.defs
        refine wpOp_mono (fun a' w' ⟨⟨fs', L', Sl', X', hst, hcl, hz'⟩, hhow⟩ => ?_) h2
        obtain ⟨v, hv⟩ := hhow Sl'.defs
        refine ⟨fun _ => ?_, ?_⟩
        · rcases hst with hst | ⟨_, h⟩
          · exact .inl (hst _ _ X')
          · simp only [List.all_cons, Bool.and_eq_true, opW] at h
            exact .inr h.1
        rw [← sets_set]
        refine ih (Z0 := Z0) m fuel' hm hok hTr' hz' ?_ (by omega)
        subst hv
        exact { mem := K.mem, nod := K.nod, apt := K.apt, dis := K.dis, dnn := K.dnn, sl := Sl', sat := X',
                don := fun x hx => (let ⟨ox, h1, h2, _⟩ := K.opx x.1 ((K.mem x.1).2 (.inr (List.mem_map.2 ⟨x, hx, rfl⟩))); slot_put h1 h2 ho (hap' x.1 ((K.mem x.1).2 (.inr (List.mem_map.2 ⟨x, hx, rfl⟩)))) (K.don x hx)), opx := K.opx,
                run := fun p hp => (K.run p hp).put hs ho (hap' p ((K.mem p).2 (.inl hp))),
                rdy := fun p hp => sets_ready (K.rdy p hp) (fun h => hni (List.mem_map.2 ⟨p, (K.mem p).2 (.inl hp), h⟩)), clr := hcl, stb := hst.imp id fun h => ⟨h.1, by simp only [List.all_cons, Bool.and_eq_true] at h; exact h.2.2⟩ }
    | dc i =>
      simp only [okZ, Bool.and_eq_true, Bool.not_eq_true', List.all_eq_true] at hok
      obtain ⟨⟨⟨⟨hrdy, hap⟩, hap2⟩, hnp⟩, hok⟩ := hok
      obtain ⟨p, rfl, hbl, hcl, hrun, hz⟩ := hz
      simp only [cost] at hf
      have hni : p.i ∉ pd.map (·.i) := fun h => by
        rw [← List.contains_iff_mem] at h
        rw [h] at hnp; cases hnp
      have hnd : p.i ∉ dn.map (·.1.i) := fun h => hni (hdsub _ h)
      refine ih (Z0 := Z0) (pd := p :: pd) (un := p :: un) (un.length + 1) fuel rfl hok hTr' hz ?_ (by simp only [List.length_cons]; omega)
      obtain ⟨op, ho, hd, _, _⟩ := hrun a K.sl
      exact { mem := fun q => by
                simp only [List.mem_cons]
                rw [K.mem q]
                constructor
                · rintro (h | h | h)
                  · exact .inl (.inl h)
                  · exact .inl (.inr h)
                  · exact .inr h
                · rintro ((h | h) | h)
                  · exact .inl h
                  · exact .inr (.inl h)
                  · exact .inr (.inr h)
              nod := by simp only [List.map_cons, List.nodup_cons]; exact ⟨hni, K.nod⟩
              apt := fun x hx y hy hxy => by
                rcases List.mem_cons.1 hx with e1 | hx1 <;> rcases List.mem_cons.1 hy with e2 | hy1
                · rw [e1, e2] at hxy; exact absurd rfl hxy
                · rw [e1]; exact hap y.i (List.mem_map.2 ⟨y, hy1, rfl⟩)
                · rw [e2]; exact hap2 x.i (List.mem_map.2 ⟨x, hx1, rfl⟩)
                · exact K.apt x hx1 y hy1 hxy
              dis := fun q hq => by
                rcases List.mem_cons.1 hq with rfl | hq
                · exact hnd
                · exact K.dis q hq
              dnn := K.dnn, sl := K.sl, sat := K.sat, don := K.don
              opx := fun q hq => by
                rcases List.mem_cons.1 hq with rfl | hq
                · exact ⟨op, ho, hd, hbl⟩
                · exact K.opx q hq
              run := fun q hq => by
                rcases List.mem_cons.1 hq with rfl | hq
                · exact hrun a K.sl
                · exact K.run q hq
              rdy := fun q hq => by
                rcases List.mem_cons.1 hq with rfl | hq
                · have h0 : q.i ∈ Region.ready .any ops (sets l []) := by simpa [sets] using hrdy
                  exact ready_sets (D' := dn.map (·.1.i)) h0 hnd (by simp) (by simp)
                · exact K.rdy q hq
              clr := hcl, stb := K.stb.imp id fun h => by have := h.2; simp [opW] at this }
    | fl i k =>
      simp only [okZ, Bool.and_eq_true, beq_iff_eq] at hok
      obtain ⟨⟨hk, hone⟩, hok⟩ := hok
      obtain ⟨p, hpk, hz⟩ := hz
      have hpi : p.i = i := by simpa [hpk] using hk
      subst hpi
      have hpp : p ∈ pd := List.mem_of_getElem? hpk
      simp only [cost] at hf
      have herase : ∀ q, q ∈ pd.eraseIdx k ↔ q ∈ pd ∧ q.i ≠ p.i := mem_eraseIdx_of_nodup K.nod hpk
      have hmap : (pd.eraseIdx k).map (·.i) = (pd.map (·.i)).eraseIdx k := map_eraseIdx_ pd k
      rcases (K.mem p).1 hpp with hu | hdn
      · -- it is not laid yet: some block is
        obtain ⟨fuel', rfl⟩ : ∃ f, fuel = f + 1 := ⟨fuel - 1, by have := List.length_pos_of_mem hu; omega⟩
        refine wpAnyH_all rfl (fun h0 => by have := K.rdy p hu; rw [h0] at this; cases this) fun j hj => ?_
        by_cases hjp : j ∈ pd.map (·.i)
        · obtain ⟨q, hq, rfl⟩ := List.mem_map.1 hjp
          rcases (K.mem q).1 hq with hu | hd
          · exact float q hu fuel' rfl
          · obtain ⟨y, hy, rfl⟩ := List.mem_map.1 hd
            exact absurd (List.mem_map.2 ⟨y, hy, rfl⟩) (not_in_sets hj)
        · have hsub : ∀ x ∈ dn.map (·.1.i), x ∈ (pd.map (·.i)).eraseIdx k := fun x hx => by
            obtain ⟨y, hy, rfl⟩ := List.mem_map.1 hx
            rw [← hmap]
            refine List.mem_map.2 ⟨y.1, (herase y.1).2 ⟨(K.mem y.1).2 (.inr (List.mem_map.2 ⟨y, hy, rfl⟩)), fun he => K.dis p hu (by rw [← he]; exact List.mem_map.2 ⟨y, hy, rfl⟩)⟩, rfl⟩
          have h1 := ready_sets (D' := (pd.map (·.i)).eraseIdx k) hj (fun h => hjp (List.mem_of_mem_eraseIdx h)) (not_in_sets hj) hsub
          rw [hone, List.mem_singleton] at h1
          exact absurd (List.mem_map.2 ⟨p, hpp, h1.symm⟩) hjp
      · -- it is laid
        obtain ⟨x, hx, rfl⟩ := List.mem_map.1 hdn
        obtain ⟨hcl, hz⟩ := hz x.2
        obtain ⟨d1, d2, rfl⟩ := List.append_of_mem hx
        have hids : ((d1 ++ x :: d2).map (·.1.i)) = d1.map (·.1.i) ++ x.1.i :: d2.map (·.1.i) := by simp
        have hnn := K.dnn
        rw [hids] at hnn ⊢
        rw [sets_out, ← List.map_append]
        have hnot : ∀ y ∈ d1 ++ d2, y.1.i ≠ x.1.i := fun y hy he => by
          rw [List.nodup_append, List.nodup_cons] at hnn
          rcases List.mem_append.1 hy with hy | hy
          · exact hnn.2.2 _ (List.mem_map.2 ⟨y, hy, rfl⟩) x.1.i (List.mem_cons_self ..) he
          · exact hnn.2.1.1 (by rw [← he]; exact List.mem_map.2 ⟨y, hy, rfl⟩)
        have hsubd : ∀ y ∈ d1 ++ d2, y ∈ d1 ++ x :: d2 := fun y hy => by
          rcases List.mem_append.1 hy with hy | hy
          · exact List.mem_append.2 (.inl hy)
          · exact List.mem_append.2 (.inr (List.mem_cons_of_mem _ hy))
        have hxx : x ∈ d1 ++ x :: d2 := by simp
        refine ih (Z0 := Z0) (pd := pd.eraseIdx k) (un := un) (dn := d1 ++ d2) m fuel hm (by rw [hmap]; exact hok) hTr' hz ?_ hf
        exact { mem := fun q => by
                  rw [herase q, K.mem q]
                  constructor
                  · rintro ⟨h | h, he⟩
                    · exact .inl h
                    · obtain ⟨y, hy, rfl⟩ := List.mem_map.1 h
                      refine .inr (List.mem_map.2 ⟨y, ?_, rfl⟩)
                      rcases List.mem_append.1 hy with hy | hy
                      · exact List.mem_append.2 (.inl hy)
                      · rcases List.mem_cons.1 hy with rfl | hy
                        · exact absurd rfl he
                        · exact List.mem_append.2 (.inr hy)
                  · rintro (h | h)
                    · exact ⟨.inl h, fun he => K.dis q h (by rw [he]; exact List.mem_map.2 ⟨x, hxx, rfl⟩)⟩
                    · obtain ⟨y, hy, rfl⟩ := List.mem_map.1 h
                      exact ⟨.inr (List.mem_map.2 ⟨y, hsubd y hy, rfl⟩), hnot y hy⟩
                nod := by rw [hmap]; exact K.nod.eraseIdx k
                apt := fun x hx y hy => K.apt x ((herase x).1 hx).1 y ((herase y).1 hy).1
                dis := fun q hq h => by
                  obtain ⟨y, hy, he⟩ := List.mem_map.1 h
                  exact K.dis q hq (List.mem_map.2 ⟨y, hsubd y hy, he⟩)
                dnn := by
                  rw [List.map_append]
                  rw [List.nodup_append, List.nodup_cons] at hnn
                  rw [List.nodup_append]
                  exact ⟨hnn.1, hnn.2.1.2, fun a ha b hb => hnn.2.2 a ha b (List.mem_cons_of_mem _ hb)⟩
                sl := K.sl.also' (K.don x hxx)
                sat := K.sat.cast (by
                  simp only [zs, List.map_append, List.map_cons, all_append, all_cons, List.cons_append]
                  rw [star_assoc, star_assoc, star_left (all (List.map _ d1)), star_left (all L)]
                  simp only [star_assoc])
                don := fun y hy => K.don y (hsubd y hy)
                opx := fun q hq => K.opx q ((herase q).1 hq).1
                run := K.run
                rdy := fun q hq => by
                  have := K.rdy q hq
                  rw [hids, sets_out, ← List.map_append] at this
                  exact this
                clr := hcl
                stb := K.stb.imp (fun h w Z X => h w Z (by have := X; exact Sat.tail (A := blk x.2 x.1.ob) this)) fun h => by have := h.2; simp [opW] at this }
end
end
/-- Those that are taken. -/
def takes (r : List En) : List Nat := r.filterMap fun | .tk i => some i | _ => none
theorem mem_takes {r : List En} {i : Nat} (h : En.tk i ∈ r) : i ∈ takes r := List.mem_filterMap.2 ⟨_, h, rfl⟩
/-- The law. -/
theorem st_floats {P : Program} {f : Fk} {n : Nat} {Rr : Ending → World → Prop} {k : List Item} {e : World} {R : Hp} {a : Act} {w : World} {fs : List (Nat × Value)} {L : List HP} {id : Nat} {ops : Array Oper} (M : List HP) (r : List En)
    (hm : P.follows .mixedOrders = true) (hs : Region.noSelect ops = true) (hok : okZ ops r (Array.replicate ops.size false) [] = true) (hc : Nat.ble (cost r) ops.size = true) (H : St n e R a w fs L)
    (hM : ∀ w Z, Sat e w R (L ++ Z) → Sat e w R M) (h : wpZ P ops n (takes r) e R M (fun a' w' => WK P f Rr k a' w') r [] fs L) : WK P f Rr (.code (.region id ops true) :: k) a w := by
  refine WK.region_held (S := fun w => Sat e w R M) (T := takes r) hm ?_
  refine wpZ_sound hs r (pd := []) (un := []) (dn := []) (Z0 := []) (l := Array.replicate ops.size false) 0 ops.size rfl hok (fun i hi => mem_takes hi) h ?_ (by simpa using Nat.le_of_ble_eq_true hc)
  exact { mem := fun p => by simp, nod := by simp, apt := (fun x hx => by cases hx), dis := (fun x hx => by cases hx), dnn := by simp, sl := H.sl, sat := by simpa [zs] using H.sat.drew, don := (fun x hx => by cases hx), opx := (fun x hx => by cases hx), run := (fun x hx => by cases hx), rdy := (fun x hx => by cases hx), clr := rfl, stb := .inl hM }
section
variable {P : Program} {ops : Array Oper} {n : Nat} {T : List Nat} {e : World} {R : Hp} {M : List HP} {Q : Act → World → Prop} {r : List En} {pd : List Fl} {fs : List (Nat × Value)} {L : List HP}
theorem z_tk (i : Nat) {d : Nat} (v : Value) (hv : IsVal P ops n fs i d v (fun w => Sat e w R M)) (hc : clear pd ((d, v) :: fs) = true) (h : wpZ P ops n T e R M Q r pd ((d, v) :: fs) L) : wpZ P ops n T e R M Q (.tk i :: r) pd fs L := by
  obtain ⟨o, ho, hd, hb, hr⟩ := hv
  have ho' : ops[i]? = some o := by
    unfold opF at ho
    split at ho
    · cases ho
    · rename_i o' h1
      split at ho
      · cases hb2 : (o'.op.operands.toList.all (known fs) && noSel o'.op) with
        | false => rw [hb2] at ho; cases ho
        | true => rw [hb2] at ho; injection ho with ho; subst ho; exact h1
      · cases ho
  refine ⟨o, v, (d, v) :: fs, ho', fun a Sl => .inl ?_, by simp [putF, hd, hb], hc, h⟩
  obtain ⟨h1, h2, h3, _⟩ := opF_sound Sl ho
  exact ⟨h2, fun w hw => by rw [h3]; exact hr w hw⟩
theorem z_skip (i : Nat) {o : Oper} {fs' : List (Nat × Value)} (ho : ops[i]? = some o) (hw : wantF ops fs o = some false) (hd : putF n o.dst undef fs = some fs') (hc : clear pd fs' = true) (h : wpZ P ops n T e R M Q r pd fs' L) :
    wpZ P ops n T e R M Q (.tk i :: r) pd fs L :=
  ⟨o, undef, fs', ho, fun a Sl => .inr ⟨wantF_sound Sl hw, rfl⟩, hd, hc, h⟩
theorem z_mv (i : Nat) {d : Nat} (v : Value) (hv : IsVal P ops n fs i d v (fun _ => True)) (hc : clear pd ((d, v) :: fs) = true) (h : wpZ P ops n T e R M Q r pd ((d, v) :: fs) L) : wpZ P ops n T e R M Q (.mv i :: r) pd fs L := by
  obtain ⟨o, ho, hd, hb, hr⟩ := hv
  have ho' : ops[i]? = some o := by
    unfold opF at ho
    split at ho
    · cases ho
    · rename_i o' h1
      split at ho
      · cases hb2 : (o'.op.operands.toList.all (known fs) && noSel o'.op) with
        | false => rw [hb2] at ho; cases ho
        | true => rw [hb2] at ho; injection ho with ho; subst ho; exact h1
      · cases ho
  refine ⟨o, v, (d, v) :: fs, ho', fun a Sl => .inl ?_, by simp [putF, hd, hb], hc, h⟩
  obtain ⟨h1, h2, h3, _⟩ := opF_sound Sl ho
  exact ⟨h2, fun w hw => by rw [h3]; exact hr w hw⟩
theorem z_skipm (i : Nat) {o : Oper} {fs' : List (Nat × Value)} (ho : ops[i]? = some o) (hw : wantF ops fs o = some false) (hd : putF n o.dst undef fs = some fs') (hc : clear pd fs' = true) (h : wpZ P ops n T e R M Q r pd fs' L) :
    wpZ P ops n T e R M Q (.mv i :: r) pd fs L :=
  ⟨o, undef, fs', ho, fun a Sl => .inr ⟨wantF_sound Sl hw, rfl⟩, hd, hc, h⟩
def ZK (P : Program) (ops : Array Oper) (n : Nat) (T : List Nat) (e : World) (R : Hp) (M : List HP) (Q : Act → World → Prop) (i : Nat) (r : List En) (pd : List Fl) (Z : List HP) : Act → World → Prop :=
  fun a' w' => ∃ fs' L', Slots n a' fs' ∧ Sat e w' R (L' ++ Z) ∧ ((∀ w Z, Sat e w R (L' ++ Z) → Sat e w R M) ∨ (pd = [] ∧ (En.op i :: r).all (opW ops T) = true)) ∧ clear pd fs' = true ∧ wpZ P ops n T e R M Q r pd fs' L'
theorem z_op (i : Nat) (ho : (ops[i]?).isSome = true) (h : ∀ a w Z, St n e R a w fs (L ++ Z) → wpOp P ops (Norm Q) i (ZK P ops n T e R M Q i r pd Z) a w) : wpZ P ops n T e R M Q (.op i :: r) pd fs L := by
  obtain ⟨o, ho⟩ := Option.isSome_iff_exists.1 ho
  exact ⟨o, ho, fun a w Z Sl X => h a w Z ⟨Sl, X⟩⟩
theorem z_on {i : Nat} {a : Act} {w : World} {Z : List HP} (L : List HP) (H : St n e R a w fs (L ++ Z)) (hM : ∀ w Z, Sat e w R (L ++ Z) → Sat e w R M) (hc : clear pd fs = true) (h : wpZ P ops n T e R M Q r pd fs L) : ZK P ops n T e R M Q i r pd Z a w :=
  ⟨fs, L, H.sl, H.sat, .inl hM, hc, h⟩
/-- What is left are operations that wait for all that was read: what was read need not stand any more. -/
theorem z_last {i : Nat} {a : Act} {w : World} {Z : List HP} (L : List HP) (H : St n e R a w fs (L ++ Z)) (hl : (En.op i :: r).all (opW ops T) = true) (h : wpZ P ops n T e R M Q r [] fs L) : ZK P ops n T e R M Q i r [] Z a w :=
  ⟨fs, L, H.sl, H.sat, .inr ⟨rfl, hl⟩, rfl, h⟩
theorem z_dc (i : Nat) {d : Nat} (vf : Nat → Value) (ob : Obj) (hv : IsNew P ops n fs i d vf ob) (hc : clear (⟨i, d, vf, ob⟩ :: pd) fs = true) (h : wpZ P ops n T e R M Q r (⟨i, d, vf, ob⟩ :: pd) fs L) : wpZ P ops n T e R M Q (.dc i :: r) pd fs L := by
  obtain ⟨o, ho, hd, hb, hr⟩ := hv
  refine ⟨⟨i, d, vf, ob⟩, rfl, hb, hc, fun a Sl => ?_, h⟩
  obtain ⟨h1, h2, h3, _⟩ := opF_sound Sl ho
  exact ⟨o, h1, hd, h2, fun w => by rw [h3]; exact hr w⟩
theorem z_fl {i : Nat} (k : Nat) {p : Fl} (hk : pd[k]? = some p) (h : ∀ b, clear (pd.eraseIdx k) ((p.d, p.vf b) :: fs) = true ∧ wpZ P ops n T e R M Q r (pd.eraseIdx k) ((p.d, p.vf b) :: fs) (blk b p.ob :: L)) : wpZ P ops n T e R M Q (.fl i k :: r) pd fs L :=
  ⟨p, hk, h⟩
theorem z_end (pd : List Fl) (h : ∀ a w, St n e R a w fs L → Q a w) : wpZ P ops n T e R M Q [] pd fs L := fun a w Z Sl X => h a w ⟨Sl, X.dropZ⟩
theorem wpZ_ext : ∀ (r : List En) {pd : List Fl} {fs fs' : List (Nat × Value)} {L : List HP}, (∀ t, look t fs = look t fs') → wpZ P ops n T e R M Q r pd fs' L → wpZ P ops n T e R M Q r pd fs L
  | [], pd, fs, fs', L, he, h => fun a w Z Sl X => h a w Z ⟨Sl.size, Sl.defs, fun t v ht => Sl.at_ t v (by rw [he]; exact ht)⟩ X
  | .tk i :: r, pd, fs, fs', L, he, h => by
    obtain ⟨o, v, f1, ho, hy, hp, hc, hz⟩ := h
    have cl : ∀ {g g' : List (Nat × Value)}, (∀ t, look t g = look t g') → clear pd g' = true → clear pd g = true := fun hg hc => by
      unfold clear at *; simpa only [hg] using hc
    cases hd : o.dst with
    | none =>
      rw [hd] at hp; simp only [putF, Option.some.injEq] at hp; subst hp
      exact ⟨o, v, fs, ho, fun a Sl => hy a ⟨Sl.size, Sl.defs, fun t u ht => Sl.at_ t u (by rw [he]; exact ht)⟩, by simp [putF, hd], cl he hc, wpZ_ext r he hz⟩
    | some d =>
      rw [hd] at hp
      simp only [putF] at hp
      cases hb : Nat.blt d n with
      | false => rw [hb] at hp; cases hp
      | true =>
        rw [hb] at hp
        simp only [cond_true, Option.some.injEq] at hp
        subst hp
        have he2 : ∀ t, look t ((d, v) :: fs) = look t ((d, v) :: fs') := fun t => by simp only [look, he]
        exact ⟨o, v, (d, v) :: fs, ho, fun a Sl => hy a ⟨Sl.size, Sl.defs, fun t u ht => Sl.at_ t u (by rw [he]; exact ht)⟩, by simp [putF, hd, hb], cl he2 hc, wpZ_ext r he2 hz⟩
  | .mv i :: r, pd, fs, fs', L, he, h => by
    obtain ⟨o, v, f1, ho, hy, hp, hc, hz⟩ := h
    have cl : ∀ {g g' : List (Nat × Value)}, (∀ t, look t g = look t g') → clear pd g' = true → clear pd g = true := fun hg hc => by
      unfold clear at *; simpa only [hg] using hc
    cases hd : o.dst with
    | none =>
      rw [hd] at hp; simp only [putF, Option.some.injEq] at hp; subst hp
      exact ⟨o, v, fs, ho, fun a Sl => hy a ⟨Sl.size, Sl.defs, fun t u ht => Sl.at_ t u (by rw [he]; exact ht)⟩, by simp [putF, hd], cl he hc, wpZ_ext r he hz⟩
    | some d =>
      rw [hd] at hp
      simp only [putF] at hp
      cases hb : Nat.blt d n with
      | false => rw [hb] at hp; cases hp
      | true =>
        rw [hb] at hp
        simp only [cond_true, Option.some.injEq] at hp
        subst hp
        have he2 : ∀ t, look t ((d, v) :: fs) = look t ((d, v) :: fs') := fun t => by simp only [look, he]
        exact ⟨o, v, (d, v) :: fs, ho, fun a Sl => hy a ⟨Sl.size, Sl.defs, fun t u ht => Sl.at_ t u (by rw [he]; exact ht)⟩, by simp [putF, hd, hb], cl he2 hc, wpZ_ext r he2 hz⟩
  | .op i :: r, pd, fs, fs', L, he, h => by
    obtain ⟨o, ho, hz⟩ := h
    exact ⟨o, ho, fun a w Z Sl X => hz a w Z ⟨Sl.size, Sl.defs, fun t u ht => Sl.at_ t u (by rw [he]; exact ht)⟩ X⟩
  | .dc i :: r, pd, fs, fs', L, he, h => by
    obtain ⟨p, hp, hb, hc, hr, hz⟩ := h
    refine ⟨p, hp, hb, by unfold clear at *; simpa only [he] using hc, fun a Sl => hr a ⟨Sl.size, Sl.defs, fun t u ht => Sl.at_ t u (by rw [he]; exact ht)⟩, wpZ_ext r he hz⟩
  | .fl i k :: r, pd, fs, fs', L, he, h => by
    obtain ⟨p, hp, hz⟩ := h
    refine ⟨p, hp, fun b => ?_⟩
    have he2 : ∀ t, look t ((p.d, p.vf b) :: fs) = look t ((p.d, p.vf b) :: fs') := fun t => by simp only [look, he]
    exact ⟨by have := (hz b).1; unfold clear at *; simpa only [he2] using this, wpZ_ext r he2 (hz b).2⟩
theorem z_also {d : Nat} {u : Value} (v : Value) (hl : look d fs = some u) (hu : u = v) (h : wpZ P ops n T e R M Q r pd ((d, v) :: fs) L) : wpZ P ops n T e R M Q r pd fs L :=
  wpZ_ext r (fun t => by
    subst hu
    simp only [look]
    by_cases hd : t = d
    · subst hd; simp [hl]
    · rw [beq_ne hd]; rfl) h
theorem z_turn {d : Nat} {u : Value} (v : Value) (hu : u = v) (h : wpZ P ops n T e R M Q r pd ((d, v) :: fs) L) : wpZ P ops n T e R M Q r pd ((d, u) :: fs) L := hu ▸ h
theorem st_floatsM {f : Fk} {Rr : Ending → World → Prop} {k : List Item} {a : Act} {w : World} {id : Nat} (bs : List Bool) (r : List En)
    (hm : P.follows .mixedOrders = true) (hs : Region.noSelect ops = true) (hok : okZ ops r (Array.replicate ops.size false) [] = true) (hc : Nat.ble (cost r) ops.size = true) (H : St n e R a w fs L)
    (h : wpZ P ops n (takes r) e R (msk bs L) (fun a' w' => WK P f Rr k a' w') r [] fs L) : WK P f Rr (.code (.region id ops true) :: k) a w :=
  st_floats (msk bs L) r hm hs hok hc H (fun w Z X => X.dropZ.msk bs) h
theorem op_storeZ {k b off i : Nat} {t : TypeId} {v : Value} {cs : Array Value} {T : TypeId} {Z : List HP} {a : Act} {w : World} {K : Act → World → Prop} {Qx : Exit → Act → World → Prop} (H : St n e R a w fs (L ++ Z)) (hk : L[k]? = some (blk b (.cells cs T (0, 0))))
    (hl : stF ops fs i = some (none, t, ⟨b, off, none⟩, v)) (hok : stOk P t off v cs = true)
    (h : ∀ a' w', St n e R a' w' fs ((L.set k (blk b (.cells (putL cs off v.cells.toList) T (0, 0)))) ++ Z) → K a' w') : wpOp P ops Qx i K a w := by
  have hlt : k < L.length := (List.getElem?_eq_some_iff.1 hk).1
  refine op_store (k := k) H (by rw [List.getElem?_append_left hlt]; exact hk) hl hok fun a' w' H' => h a' w' ?_
  rw [List.set_append_left _ _ hlt] at H'
  exact H'
end
/-! ### Numbers -/
theorem wI64 {x : Int} (h1 : -9223372036854775808 ≤ x) (h2 : x ≤ 9223372036854775807) : Value.int .i64 (IntKind.i64.wrap x) = Value.int .i64 x := by
  congr 1; simp only [IntKind.wrap, IntKind.bits, IntKind.signed]; simp only [Bool.true_and, decide_eq_true_eq, ge_iff_le, Nat.reduceSub, Int.reducePow]; split <;> omega
theorem wI32 {x : Int} (h1 : -2147483648 ≤ x) (h2 : x ≤ 2147483647) : Value.int .i32 (IntKind.i32.wrap x) = Value.int .i32 x := by
  congr 1; simp only [IntKind.wrap, IntKind.bits, IntKind.signed]; simp only [Bool.true_and, decide_eq_true_eq, ge_iff_le, Nat.reduceSub, Int.reducePow]; split <;> omega
theorem wU8 {x : Int} (h1 : 0 ≤ x) (h2 : x ≤ 255) : Value.int .u8 (IntKind.u8.wrap x) = Value.int .u8 x := by
  congr 1; simp only [IntKind.wrap, IntKind.bits, IntKind.signed, Bool.false_and, Bool.false_eq_true, if_false]; omega
theorem wU16 {x : Int} (h1 : 0 ≤ x) (h2 : x ≤ 65535) : Value.int .u16 (IntKind.u16.wrap x) = Value.int .u16 x := by
  congr 1; simp only [IntKind.wrap, IntKind.bits, IntKind.signed, Bool.false_and, Bool.false_eq_true, if_false]; omega
theorem wU32 {x : Int} (h1 : 0 ≤ x) (h2 : x ≤ 4294967295) : Value.int .u32 (IntKind.u32.wrap x) = Value.int .u32 x := by
  congr 1; simp only [IntKind.wrap, IntKind.bits, IntKind.signed, Bool.false_and, Bool.false_eq_true, if_false]; omega
theorem wU64 {x : Int} (h1 : 0 ≤ x) (h2 : x ≤ 18446744073709551615) : Value.int .u64 (IntKind.u64.wrap x) = Value.int .u64 x := by
  congr 1; simp only [IntKind.wrap, IntKind.bits, IntKind.signed, Bool.false_and, Bool.false_eq_true, if_false]; omega
theorem shr_val (k : IntKind) (x : Int) (n : Int) (h0 : 0 ≤ x) (hn : 0 ≤ n) : Value.int k (Int.fdiv x n) = Value.int k (x / n) := by
  congr 1; exact Int.fdiv_eq_ediv_of_nonneg _ hn
theorem quoI64 {x n : Int} (h0 : 0 ≤ x) (h1 : x ≤ 9223372036854775807) (hn : 1 ≤ n) : Value.int .i64 (IntKind.i64.wrap (Int.tdiv x n)) = Value.int .i64 (x / n) := by
  have h : Int.tdiv x n = x / n := Int.tdiv_eq_ediv_of_nonneg h0
  have h2 : 0 ≤ x / n := Int.ediv_nonneg h0 (by omega)
  have h3 : x / n ≤ x := Int.ediv_le_self _ h0
  rw [h]; exact wI64 (by omega) (by omega)
theorem quoU32 {x n : Int} (h0 : 0 ≤ x) (h1 : x ≤ 4294967295) (hn : 1 ≤ n) : Value.int .u32 (IntKind.u32.wrap (Int.tdiv x n)) = Value.int .u32 (x / n) := by
  have h : Int.tdiv x n = x / n := Int.tdiv_eq_ediv_of_nonneg h0
  have h2 : 0 ≤ x / n := Int.ediv_nonneg h0 (by omega)
  have h3 : x / n ≤ x := Int.ediv_le_self _ h0
  rw [h]; exact wU32 (by omega) (by omega)
theorem rem_val {k : IntKind} {x n : Int} (h0 : 0 ≤ x) : Value.int k (Int.tmod x n) = Value.int k (x % n) := by
  congr 1; exact Int.tmod_eq_emod_of_nonneg h0
theorem min_val (k : IntKind) (x y : Int) : Value.int k (if y < x then y else x) = Value.int k (min x y) := by
  congr 1; split <;> omega
theorem max_val (k : IntKind) (x y : Int) : Value.int k (if x < y then y else x) = Value.int k (max x y) := by
  congr 1; split <;> omega

/-! ### Indices -/
section
variable {P : Program} {ops : Array Oper} {S : World → Prop} {n i : Nat} {w : World} {fs : List (Nat × Value)}
def ixF (ops : Array Oper) (fs : List (Nat × Value)) (i : Nat) : Option (Option Nat × TypeId × Value × IntKind × Int) :=
  match opF ops fs i with
  | some o => match o.op with
    | .indexAddr t x y => match evalF fs x, evalF fs y with
      | some u, some (.int k z) => some (o.dst, t, u, k, z)
      | _, _ => none
    | _ => none
  | none => none
theorem ixF_sound {dst : Option Nat} {t : TypeId} {u : Value} {k : IntKind} {z : Int} (h : ixF ops fs i = some (dst, t, u, k, z)) :
    ∃ o x y, opF ops fs i = some o ∧ o.dst = dst ∧ o.op = .indexAddr t x y ∧ WH.evalD fs x = u ∧ WH.evalD fs y = .int k z := by
  unfold ixF at h
  split at h
  · rename_i o ho
    split at h
    · rename_i t' x y hop
      split at h
      · rename_i u' k' z' hx hy
        simp only [Option.some.injEq, Prod.mk.injEq] at h
        obtain ⟨rfl, rfl, rfl, rfl, rfl⟩ := h
        exact ⟨o, x, y, ho, rfl, hop, by simp [WH.evalD, hx], by simp [WH.evalD, hy]⟩
      · cases h
    · cases h
  · cases h
/-- The size of a slice's element. -/
def elSize (P : Program) (t : TypeId) : Option Nat :=
  match P.underlying t with
  | some (.slice e) => match P.info? e with
    | some inf => some inf.size
    | none => none
  | _ => none
def arSize (P : Program) (t : TypeId) : Option (Nat × Nat) :=
  match P.underlying t with
  | some (.array m e) => match P.info? e with
    | some inf => some (m, inf.size)
    | none => none
  | _ => none
theorem add_plain_ (b off m : Nat) : (⟨b, off, none⟩ : Addr).add m = ⟨b, off + m, none⟩ := by unfold Addr.add; split <;> simp_all
theorem ixa_slN {d b off len cap : Nat} {t : TypeId} {k : IntKind} {z : Int} {sz : Nat} (j : Nat) (hl : ixF ops fs i = some (some d, t, .slice (some ⟨b, off, none⟩) len cap, k, z)) (hd : Nat.blt d n = true)
    (hs : elSize P t = some sz) (hz : z = (j : Int)) (hj : j < len) : IsVal P ops n fs i d (.pointer (some ⟨b, off + j * sz, none⟩)) S := by
  obtain ⟨o, x, y, ho, hdst, hop, hx, hy⟩ := ixF_sound hl
  refine ⟨o, ho, hdst, hd, fun w _ => ?_⟩
  subst hz
  unfold elSize at hs
  split at hs
  · rename_i el hu
    split at hs
    · rename_i inf hi
      injection hs with hs
      have hsz : (sizeOf el).run P w = .ok sz w := by simp [sizeOf, typeInfo, hi, hs]
      unfold execOp
      simp only [hop, hx, hy]
      have hr : (Instr.indexAt t (.slice (some ⟨b, off, none⟩) len cap) (.int k (j : Int))).run P w = .ok (.pointer (some ⟨b, off + j * sz, none⟩)) w := by
        unfold Instr.indexAt
        simp only [asIntOf, Sem.run_bind, Sem.run_pure, Result.andThen_ok, run_underlying hu]
        rw [if_pos ⟨by omega, by omega⟩]
        simp [hsz, add_plain_]
      rw [Sem.run_bind, hr]
      rfl
    · cases hs
  · cases hs
theorem ixa_sl1 {d b off len cap : Nat} {t : TypeId} {k : IntKind} {z : Int} (j : Nat) (hl : ixF ops fs i = some (some d, t, .slice (some ⟨b, off, none⟩) len cap, k, z)) (hd : Nat.blt d n = true)
    (hs : elSize P t = some 1) (hz : z = (j : Int)) (hj : j < len) : IsVal P ops n fs i d (.pointer (some ⟨b, off + j, none⟩)) S := by
  have := ixa_slN (S := S) j hl hd hs hz hj
  rwa [Nat.mul_one] at this
theorem ixa_arN {d b off : Nat} {t : TypeId} {k : IntKind} {z : Int} {len sz : Nat} (j : Nat) (hl : ixF ops fs i = some (some d, t, .pointer (some ⟨b, off, none⟩), k, z)) (hd : Nat.blt d n = true)
    (hs : arSize P t = some (len, sz)) (hz : z = (j : Int)) (hj : j < len) : IsVal P ops n fs i d (.pointer (some ⟨b, off + j * sz, none⟩)) S := by
  obtain ⟨o, x, y, ho, hdst, hop, hx, hy⟩ := ixF_sound hl
  refine ⟨o, ho, hdst, hd, fun w _ => ?_⟩
  subst hz
  unfold arSize at hs
  split at hs
  · rename_i m el hu
    split at hs
    · rename_i inf hi
      injection hs with hs
      injection hs with h1 h2
      have hsz : (sizeOf el).run P w = .ok sz w := by simp [sizeOf, typeInfo, hi, h2]
      unfold execOp
      simp only [hop, hx, hy]
      have hr : (Instr.indexAt t (.pointer (some ⟨b, off, none⟩)) (.int k (j : Int))).run P w = .ok (.pointer (some ⟨b, off + j * sz, none⟩)) w := by
        unfold Instr.indexAt
        simp only [asIntOf, Sem.run_bind, Sem.run_pure, Result.andThen_ok, run_underlying hu, Instr.sureAddr]
        rw [if_pos ⟨by omega, by omega⟩]
        simp [hsz, add_plain_]
      rw [Sem.run_bind, hr]
      rfl
    · cases hs
  · cases hs
end
/-! ### Rows: slices that are read, slices that are owned -/
/-- The slice .slice A n c (elements of sz cells) reads as xs in R. -/
structure Rd (R : Hp) (sz : Nat) (A : Option Addr) (n c : Nat) (xs : List Value) : Prop where
  len : xs.length = n * sz
  le : n ≤ c
  mx : c ≤ 9223372036854775807
  pos : 0 < n → ∃ b off cs T fr, A = some ⟨b, off, none⟩ ∧ R b = some (.cells cs T fr) ∧ ∀ j u, xs[j]? = some u → cs[off + j]? = some u
theorem Rd.left {R h : Hp} {sz n c : Nat} {A : Option Addr} {xs : List Value} (r : Rd R sz A n c xs) : Rd (R.un h) sz A n c xs :=
  ⟨r.len, r.le, r.mx, fun hn => let ⟨b, off, cs, T, fr, q1, q2, q3⟩ := r.pos hn; ⟨b, off, cs, T, fr, q1, Hp.un_left q2, q3⟩⟩
theorem Rd.right {R h : Hp} {sz n c : Nat} {A : Option Addr} {xs : List Value} (d : R.Dj h) (r : Rd h sz A n c xs) : Rd (R.un h) sz A n c xs :=
  ⟨r.len, r.le, r.mx, fun hn => let ⟨b, off, cs, T, fr, q1, q2, q3⟩ := r.pos hn; ⟨b, off, cs, T, fr, q1, Hp.un_right d q2, q3⟩⟩
theorem Rd.nil (R : Hp) (sz : Nat) : Rd R sz none 0 0 [] := ⟨by simp, Nat.le_refl _, by omega, fun h => absurd h (by omega)⟩
/-- Where element j begins. -/
theorem Rd.addr {R : Hp} {sz n c : Nat} {A : Option Addr} {xs : List Value} (r : Rd R sz A n c xs) (h : 0 < n) : ∃ b off, A = some ⟨b, off, none⟩ := by
  obtain ⟨b, off, cs, T, fr, h, _⟩ := r.pos h; exact ⟨b, off, h⟩
theorem Rd.cells {R : Hp} {sz n c b off : Nat} {xs : List Value} (r : Rd R sz (some ⟨b, off, none⟩) n c xs) (h : 0 < n) : ∃ cs T fr, R b = some (.cells cs T fr) ∧ ∀ j u, xs[j]? = some u → cs[off + j]? = some u := by
  obtain ⟨b', off', cs, T, fr, h1, h2, h3⟩ := r.pos h
  injection h1 with h1
  injection h1 with h4 h5
  subst h4; subst h5
  exact ⟨cs, T, fr, h2, h3⟩

/-- A slice of the call's own: nil, or a row of a block of its own, with whatever room behind it. -/
def row (el sz : Nat) (v : Value) (n : Nat) (xs : List Value) : HP := fun h =>
  (v = .slice none 0 0 ∧ n = 0 ∧ xs = [] ∧ h = Hp.no) ∨
  ∃ g cap cur, v = .slice (some ⟨g, 0, none⟩) n cap ∧ h = Hp.one g (.cells cur el (0, 0)) ∧ n ≤ cap ∧ cap ≤ maxLen ∧ cur.size = cap * sz ∧ cur.toList.take (n * sz) = xs ∧ xs.length = n * sz
theorem row_rd {el sz n : Nat} {v : Value} {xs : List Value} {h : Hp} (r : row el sz v n xs h) : ∃ A c, v = .slice A n c ∧ Rd h sz A n c xs := by
  rcases r with ⟨rfl, rfl, rfl, rfl⟩ | ⟨g, cap, cur, rfl, rfl, h1, h2, h3, h4, h5⟩
  · exact ⟨none, 0, rfl, Rd.nil _ _⟩
  · refine ⟨_, cap, rfl, h5, h1, by simp only [maxLen] at h2; omega, fun _ => ⟨g, 0, cur, el, (0, 0), rfl, by simp [Hp.one], fun j u hj => ?_⟩⟩
    rw [← h4, List.getElem?_take] at hj
    split at hj
    · rw [Nat.zero_add, ← Array.getElem?_toList]; exact hj
    · cases hj
section
variable {e w : World} {R : Hp} {L : List HP} {el sz n : Nat} {v : Value} {xs : List Value}
theorem Sat.row_own (S : Sat e w R (row el sz v n xs :: L)) : w.ownsRow 0 el sz v n xs := by
  obtain ⟨_, a, _, x, y, d, rfl, hr, _⟩ := S.ex
  rcases hr with ⟨rfl, rfl, rfl, _⟩ | ⟨g, cap, cur, rfl, rfl, h1, h2, h3, h4, h5⟩
  · exact ⟨by simp, .inl ⟨rfl, rfl⟩⟩
  · exact ⟨h5, .inr ⟨g, cap, cur, rfl, Nat.zero_le _, a.left g _ (by simp [Hp.one]), h1, h2, h3, h4⟩⟩
theorem row_of_own {g cap : Nat} {cur : Array Value} (h1 : n ≤ cap) (h2 : cap ≤ maxLen) (h3 : cur.size = cap * sz) (h4 : cur.toList.take (n * sz) = xs) (h5 : xs.length = n * sz) :
    ∀ h, blk g (.cells cur el (0, 0)) h → row el sz (.slice (some ⟨g, 0, none⟩) n cap) n xs h := fun _ hh => .inr ⟨g, cap, cur, rfl, hh, h1, h2, h3, h4, h5⟩
/-- A law that ends in 'ownsRow' and 'grownBy'. -/
theorem Sat.row_grown {w1 : World} {v1 : Value} {n1 : Nat} {xs1 : List Value} (S : Sat e w R (row el sz v n xs :: L)) (ho : w1.ownsRow 0 el sz v1 n1 xs1) (hg : w.grownBy w1 v.ownBlock)
    (hat : v1.ownBlock = v.ownBlock ∨ v1.ownBlock = some w.heap.size) : Sat e w1 R (row el sz v1 n1 xs1 :: L) := by
  rcases ho.2 with ⟨rfl, rfl⟩ | ⟨g, cap, cur, rfl, _, hb, h1, h2, h3, h4⟩
  · -- nil: then it was nil
    have hx : xs1 = [] := List.eq_nil_of_length_eq_zero (by simpa using ho.1)
    subst hx
    have hv : v.ownBlock = none := by
      rcases hat with hat | hat
      · rw [← hat]; rfl
      · cases hat
    rw [hv] at hg
    have S1 : Sat e w1 R L := (S.tail).same hg.os hg.tape hg.output (fun c hc => hg.block c hc (by simp))
    exact S1.mkemp.head fun h hh => .inl ⟨rfl, rfl, rfl, hh⟩
  · rcases hat with hat | hat
    · -- in its own block
      obtain ⟨hh, a, b, x, y, d, rfl, hr, c⟩ := S.ex
      rcases hr with ⟨rfl, _, _, _⟩ | ⟨g', cap', cur', rfl, rfl, _⟩
      · cases hat
      · have hgg : g = g' := by simpa [Value.ownBlock] using hat
        subst hgg
        have S' : Sat e w R (WH.blk g (.cells cur' el (0, 0)) :: L) := ⟨S.os, S.tape, S.output, S.ro, _, a, b, _, y, d, rfl, rfl, c⟩
        have S1 := S'.turn (k := 0) hg.os hg.tape hg.output rfl (fun c hc hne => hg.block c hc (by simp [Value.ownBlock]; exact hne)) hb
        exact Sat.head (A := WH.blk g (.cells cur el (0, 0))) S1 (row_of_own h1 h2 h3 h4 ho.1)
    · -- in a new one
      have hgg : g = w.heap.size := by simpa [Value.ownBlock] using hat
      subst hgg
      have keep : ∀ {k : Hp}, k.In w → (∀ c o, k c = some o → some c ≠ v.ownBlock) → k.In w1 := fun a hne c o hc => by rw [hg.block c (a.lt hc) (hne c o hc)]; exact a c o hc
      obtain ⟨hh, a, b, x, y, d, rfl, hr, c⟩ := S.ex
      have hx : ∀ k, v.ownBlock = some k → x k ≠ none := by
        intro k hk
        rcases hr with ⟨rfl, _, _, _⟩ | ⟨g', cap', cur', rfl, rfl, _⟩
        · cases hk
        · have : g' = k := by simpa [Value.ownBlock] using hk
          subst this; simp [Hp.one]
      have hR : R.In w1 := keep S.ro fun c o hc he => by
        rcases (Hp.dj_un.1 b).1 c with q | q
        · rw [q] at hc; cases hc
        · exact hx c he.symm q
      have hy : y.In w1 := keep (a.right d) fun c o hc he => by
        rcases d c with q | q
        · exact hx c he.symm q
        · rw [q] at hc; cases hc
      have far : ∀ {k : Hp}, k.In w → k.Dj (Hp.one w.heap.size (.cells cur el (0, 0))) := fun {k} a c => by
        by_cases he : c = w.heap.size
        · left
          cases hc : k c with
          | none => rfl
          | some p => have := a.lt hc; omega
        · right; simp [Hp.one, he]
      refine ⟨hg.os.trans S.os, hg.tape.trans S.tape, hg.output.trans S.output, hR, (Hp.one w.heap.size (.cells cur el (0, 0))).un y, Hp.In.un (fun c p q => ?_) hy, Hp.dj_un.2 ⟨far S.ro, (Hp.dj_un.1 b).2⟩, _, y, (far (a.right d)).symm, rfl, row_of_own h1 h2 h3 h4 ho.1 _ rfl, c⟩
      simp only [Hp.one] at q
      split at q
      · rename_i he; subst he; injection q with q; subst q; exact hb
      · cases q
theorem Sat.row_open (S : Sat e w R (row el sz v n xs :: L)) (hn : 0 < n) : ∃ b cap cur, v = .slice (some ⟨b, 0, none⟩) n cap ∧ n ≤ cap ∧ cap ≤ maxLen ∧ cur.size = cap * sz ∧ cur.toList.take (n * sz) = xs ∧ xs.length = n * sz ∧ Sat e w R (WH.blk b (.cells cur el (0, 0)) :: L) := by
  obtain ⟨hh, a, b, x, y, d, rfl, hr, c⟩ := S.ex
  rcases hr with ⟨_, rfl, _, _⟩ | ⟨g, cap, cur, rfl, rfl, h1, h2, h3, h4, h5⟩
  · omega
  · exact ⟨g, cap, cur, rfl, h1, h2, h3, h4, h5, S.os, S.tape, S.output, S.ro, _, a, b, _, y, d, rfl, rfl, c⟩
theorem Sat.row_shut {b cap : Nat} {cur : Array Value} (S : Sat e w R (WH.blk b (.cells cur el (0, 0)) :: L)) (h1 : n ≤ cap) (h2 : cap ≤ maxLen) (h3 : cur.size = cap * sz) (h4 : cur.toList.take (n * sz) = xs) (h5 : xs.length = n * sz) :
    Sat e w R (row el sz (.slice (some ⟨b, 0, none⟩) n cap) n xs :: L) := S.head (row_of_own h1 h2 h3 h4 h5)
theorem Sat.arr_row {b : Nat} (S : Sat e w R (WH.blk b (.cells xs.toArray el (0, 0)) :: L)) (h5 : xs.length = n * sz) (h2 : n ≤ maxLen) : Sat e w R (row el sz (.slice (some ⟨b, 0, none⟩) n n) n xs :: L) :=
  S.row_shut (Nat.le_refl _) h2 (by simpa using h5) (by rw [← h5]; simp) h5
theorem Sat.nil_row (el sz : Nat) (S : Sat e w R L) : Sat e w R (row el sz (.slice none 0 0) 0 [] :: L) := S.mkemp.head fun h hh => .inl ⟨rfl, rfl, rfl, hh⟩
/-- What is owned is read alone for a while. -/
theorem Sat.row_freeze (S : Sat e w R (row el sz v n xs :: L)) : ∃ h A c, row el sz v n xs h ∧ R.Dj h ∧ v = .slice A n c ∧ Rd (R.un h) sz A n c xs ∧ Sat e w (R.un h) L := by
  obtain ⟨h, hr, d, S⟩ := S.freeze
  obtain ⟨A, c, hv, r⟩ := row_rd hr
  exact ⟨h, A, c, hr, d, hv, r.right d, S⟩
end

/-! Cells in a block that are not written out -/
section
variable {P : Program} {ops : Array Oper} {Q : Act → World → Prop} {S : World → Prop} {n i : Nat} {e : World} {R : Hp} {a : Act} {w : World} {fs : List (Nat × Value)} {L : List HP}
/-- A load of one cell at a place that is not a numeral. -/
theorem loadF_at {t : TypeId} {off : Nat} {cs : Array Value} {v : Value} (ht : (match P.underlying t with | some (.struct _) | some (.array _ _) | none => false | _ => true) = true) (h : cs[off]? = some v) : loadF P t off cs = some v := by
  unfold loadF
  cases hu : P.underlying t with
  | none => rw [hu] at ht; cases ht
  | some D => cases D <;> first | exact h | (rw [hu] at ht; cases ht)
theorem loadF_agg {t : TypeId} {off : Nat} {cs : Array Value} {vs : List Value} {m : Nat} (ht : (match P.underlying t with | some (.struct _) | some (.array _ _) => true | _ => false) = true) (hi : (P.info? t).map (·.size) = some m)
    (hm : vs.length = m) (h : ∀ j u, vs[j]? = some u → cs[off + j]? = some u) (hb : off + m ≤ cs.size) : loadF P t off cs = some (.agg vs.toArray) := by
  obtain ⟨inf, h1, h2⟩ := Option.map_eq_some_iff.1 hi
  have hx : cs.extract off (off + m) = vs.toArray := by
    apply Array.ext'
    apply List.ext_getElem?
    intro j
    simp only [Array.toList_extract, List.extract_eq_take_drop]
    rw [show off + m - off = m by omega, List.getElem?_take, List.getElem?_drop, Array.getElem?_toList]
    split
    · rename_i hj
      cases hv : vs[j]? with
      | none => rw [List.getElem?_eq_none_iff] at hv; omega
      | some u => exact h j u hv
    · rename_i hj
      rw [List.getElem?_eq_none (by omega)]
  unfold loadF
  subst h2
  cases hu : P.underlying t with
  | none => rw [hu] at ht; cases ht
  | some D =>
    cases D <;> first
      | (rw [hu] at ht; cases ht; done)
      | (simp only [h1]
         have : Nat.ble (off + inf.size) cs.size = true := Nat.ble_eq_true_of_le hb
         rw [this, hx]; rfl)
theorem val_ldv {k d b off : Nat} {t : TypeId} {cs : Array Value} {T : TypeId} {fr : Nat × Nat} {v : Value} (hk : L[k]? = some (blk b (.cells cs T fr)))
    (hl : ldF ops fs i = some (some d, t, ⟨b, off, none⟩)) (hd : Nat.blt d n = true) (hv : loadF P t off cs = some v) : IsVal P ops n fs i d v (fun w => Sat e w R L) := val_ld hk hl hd hv
/-- A store of one cell at a place that is not a numeral. -/
theorem op_storeAt {k b off : Nat} {t : TypeId} {v : Value} {xs : List Value} {T : TypeId} {K : Act → World → Prop} {Qx : Exit → Act → World → Prop} (H : St n e R a w fs L) (hk : L[k]? = some (blk b (.cells xs.toArray T (0, 0))))
    (hl : stF ops fs i = some (none, t, ⟨b, off, none⟩, v)) (h1 : one1 v = true) (hc : v.cells = #[v]) (hi : (P.info? t).map (·.size) = some 1) (hlt : off < xs.length)
    (h : ∀ a' w', St n e R a' w' fs (L.set k (blk b (.cells (xs.set off v).toArray T (0, 0)))) → K a' w') : wpOp P ops Qx i K a w := by
  obtain ⟨inf, q1, q2⟩ := Option.map_eq_some_iff.1 hi
  refine op_store (k := k) H hk hl ?_ fun a' w' H' => h a' w' ?_
  · unfold stOk
    rw [q1]
    simp only [hc, q2, Bool.and_eq_true]
    refine ⟨⟨rfl, by simp [h1]⟩, Nat.ble_eq_true_of_le (by simp; omega)⟩
  · rw [hc] at H'
    simpa [putL] using H'
/-- make([]T, m), one cell an element. -/
def mkF (ops : Array Oper) (fs : List (Nat × Value)) (i : Nat) : Option (Option Nat × TypeId × Value × Value) :=
  match opF ops fs i with
  | some o => match o.op with
    | .makeSlice t x y => match evalF fs x, evalF fs y with
      | some u, some v => some (o.dst, t, u, v)
      | _, _ => none
    | _ => none
  | none => none
theorem new_make {d m : Nat} {t el : TypeId} {z : Value} {bytes : Nat} (hl : mkF ops fs i = some (some d, t, .int .i64 (m : Int), .int .i64 (m : Int))) (hd : Nat.blt d n = true)
    (ht : P.underlying t = some (.slice el)) (hinfo : (P.info? el).map (fun i => (i.zero, i.size, i.bytes)) = some (some z, 1, bytes)) (hz : z.cells = #[z]) (hb : bytes * m ≤ 281474976710656) (hm : m ≤ 9223372036854775807) :
    IsNew P ops n fs i d (fun b => .slice (some ⟨b, 0, none⟩) m m) (.cells (List.replicate m z).toArray el) := by
  unfold mkF at hl
  split at hl
  · rename_i o ho
    split at hl
    · rename_i t' x y hop
      split at hl
      · rename_i u v hx hy
        simp only [Option.some.injEq, Prod.mk.injEq] at hl
        obtain ⟨hdst, rfl, rfl, rfl⟩ := hl
        refine ⟨o, ho, hdst, hd, fun w => ?_⟩
        have := run_make_row' (P := P) t' el z bytes ht hinfo hz .i64 .i64 m hb hm w
        have hc : madeCells #[z] m = (List.replicate m z).toArray := by apply Array.ext'; rw [toList_madeCells_one]
        unfold execOp
        simp only [hop, WH.evalD, hx, hy]
        rw [Sem.run_bind, this, hc]
        rfl
      · cases hl
    · cases hl
  · cases hl

/-! append -/
/-- What is appended stands there. -/
def Src (w : World) (A : Option Addr) (m : Nat) (ys : List Value) : Prop := 0 < m → ∃ ad, A = some ad ∧ ∀ j u, ys[j]? = some u → w.cell? (ad.add j) = some u
theorem Src.of_rd {sz c m : Nat} {A : Option Addr} {ys : List Value} (X : Sat e w R L) (r : Rd R sz A m c ys) : Src w A m ys := fun hm => by
  obtain ⟨b, off, cs, T, fr, rfl, h2, h3⟩ := r.pos hm
  refine ⟨_, rfl, fun j u hj => ?_⟩
  rw [add_plain_]
  simp [World.cell?, X.rd h2, h3 j u hj]
theorem Src.of_blk {k b m : Nat} {cs : Array Value} {T : TypeId} {fr : Nat × Nat} {ys : List Value} (X : Sat e w R L) (hk : L[k]? = some (blk b (.cells cs T fr))) (hy : cs.toList = ys) : Src w (some ⟨b, 0, none⟩) m ys := fun hm => by
  refine ⟨_, rfl, fun j u hj => ?_⟩
  rw [add_plain_, Nat.zero_add]
  subst hy
  rw [Array.getElem?_toList] at hj
  simp [World.cell?, X.blk hk, hj]
def appF (ops : Array Oper) (fs : List (Nat × Value)) (i : Nat) : Option (Option Nat × TypeId × Value × Value) :=
  match opF ops fs i with
  | some o => match o.op with
    | .call ⟨.builtin .append, ⟨[x, y]⟩, ⟨[t, t']⟩⟩ => match evalF fs x, evalF fs y with
      | some u, some v => bif Nat.beq t t' then some (o.dst, t, u, v) else none
      | _, _ => none
    | _ => none
  | none => none
theorem appF_sound {dst : Option Nat} {t : TypeId} {u v : Value} (h : appF ops fs i = some (dst, t, u, v)) :
    ∃ o x y, opF ops fs i = some o ∧ o.dst = dst ∧ o.op = .call { callee := .builtin .append, args := #[x, y], argTypes := #[t, t] } ∧ WH.evalD fs x = u ∧ WH.evalD fs y = v := by
  unfold appF at h
  split at h
  · rename_i o ho
    split at h
    · rename_i x y t1 t2 hop
      split at h
      · rename_i u' v' hx hy
        cases hb : Nat.beq t1 t2 with
        | false => rw [hb] at h; cases h
        | true =>
          rw [hb] at h
          have : t1 = t2 := Nat.eq_of_beq_eq_true hb
          subst this
          simp only [cond_true, Option.some.injEq, Prod.mk.injEq] at h
          obtain ⟨rfl, rfl, rfl, rfl⟩ := h
          exact ⟨o, x, y, ho, rfl, hop, by simp [WH.evalD, hx], by simp [WH.evalD, hy]⟩
      · cases h
    · cases h
  · cases h
theorem append_nothing {t ty el : TypeId} {inf : TypeInfo} {v : Value} {m c : Nat} {xs : List Value} {A : Option Addr} {sz : Nat} (ht : P.underlying t = some (.slice el)) (hi : P.info? el = some inf) (ho : w.ownsRow 0 el sz v m xs) :
    (Builtin.append_ #[t, t] ty #[v, .slice A 0 c]).run P w = .ok v w := by
  rcases ho.2 with ⟨rfl, hn⟩ | ⟨g, cap, cur, rfl, _, _, hnc, _⟩
  · cases A <;> simp [Builtin.append_, run_underlying ht, sizeOf, typeInfo, hi, Builtin.lenOf, Builtin.firstCells, loadCells, loadCellsFrom]
  · cases A <;> simp [Builtin.append_, run_underlying ht, sizeOf, typeInfo, hi, Builtin.lenOf, Builtin.firstCells, hnc, storeCells, loadCells, loadCellsFrom]
theorem oneCell_of {v : Value} (h : one1 v = true) : v.oneCell' = true := by cases v <;> first | rfl | (simp [one1] at h)
/-- append(v, x..): v is the call's own, at the head of what is owned. -/
theorem op_append {d m m2 c2 : Nat} {t el : TypeId} {sz bytes : Nat} {z v : Value} {xs ys : List Value} {A : Option Addr} {K : Act → World → Prop} {Qx : Exit → Act → World → Prop} (H : St n e R a w fs (row el sz v m xs :: L))
    (hl : appF ops fs i = some (some d, t, v, .slice A m2 c2)) (hd : Nat.blt d n = true) (ht : P.underlying t = some (.slice el)) (hinfo : (P.info? el).map (fun i => (i.zero, i.size, i.bytes)) = some (some z, sz, bytes)) (hz : z.cells.size = sz) (hsz : 0 < sz) (hby : 0 < bytes)
    (hlen : ys.length = m2 * sz) (hsrc : Src w A m2 ys) (h1 : ∀ u ∈ ys, one1 u = true) (hb : (m + m2) * bytes ≤ 140737488355328)
    (h : ∀ a' w' v', St n e R a' w' ((d, v') :: fs) (row el sz v' (m + m2) (xs ++ ys) :: L) → K a' w') : wpOp P ops Qx i K a w := by
  obtain ⟨inf, hi, hzz⟩ := Option.map_eq_some_iff.1 hinfo
  simp only [Prod.mk.injEq] at hzz
  obtain ⟨hz0, hz1, hz2⟩ := hzz
  obtain ⟨o, x, y, ho, hdst, hop, hx, hy⟩ := appF_sound hl
  obtain ⟨g1, g2, g3, _⟩ := opF_sound H.sl ho
  have own := H.sat.row_own
  have hml : m + m2 ≤ maxLen := by
    have : m + m2 ≤ (m + m2) * bytes := Nat.le_mul_of_pos_right _ hby
    simp only [maxLen]; omega
  have hrun : ∃ v1 w1, (Builtin.append_ #[t, t] o.type #[v, .slice A m2 c2]).run P w = .ok v1 w1 ∧ w1.ownsRow 0 el sz v1 (m + m2) (xs ++ ys) ∧ w.grownBy w1 v.ownBlock ∧ (v1.ownBlock = v.ownBlock ∨ v1.ownBlock = some w.heap.size) := by
    rcases Nat.eq_zero_or_pos m2 with h0 | h0
    · subst h0
      have hy0 : ys = [] := List.eq_nil_of_length_eq_zero (by simpa using hlen)
      subst hy0
      exact ⟨v, w, append_nothing ht hi own, by simpa using own, World.grownBy.refl w _, .inl rfl⟩
    · obtain ⟨ad, rfl, hcell⟩ := hsrc h0
      obtain ⟨v1, w1, r1, r2, r3, _, r5⟩ := run_append_own_at (P := P) w 0 t o.type el inf z sz bytes ht hi hz0 hz1 hz2 hz hsz v m xs own ad m2 c2 ys hlen hcell (fun u hu => oneCell_of (h1 u hu)) hml hb (Nat.zero_le _)
      exact ⟨v1, w1, r1, r2, r3, r5⟩
  obtain ⟨v1, w1, r1, r2, r3, r5⟩ := hrun
  refine wpOp_value g1 g2 (w' := w1) (v := v1) ?_ ?_
  · rw [g3]
    unfold execOp
    simp only [hop, resolve, invoke, builtin, Sem.run_bind, Sem.run_pure, Result.andThen_ok, List.map_toArray, List.map_cons, List.map_nil, hx, hy, r1]
  · rw [hdst]
    exact h _ _ _ ⟨H.sl.put hd v1, H.sat.row_grown r2 r3 r5⟩
end
/-! ### Bytes -/
def byteV (b : UInt8) : Value := .int .u8 (b.toNat : Int)
def bytesV (bs : List UInt8) : List Value := bs.map byteV
theorem bytesV_length (bs : List UInt8) : (bytesV bs).length = bs.length := by simp [bytesV]
theorem bytesV_append (xs ys : List UInt8) : bytesV (xs ++ ys) = bytesV xs ++ bytesV ys := by simp [bytesV]
theorem bytesV_one (bs : List UInt8) : ∀ u ∈ bytesV bs, one1 u = true := by
  intro u hu; obtain ⟨b, _, rfl⟩ := List.mem_map.1 hu; rfl
theorem bytesV_getElem? (bs : List UInt8) (j : Nat) : (bytesV bs)[j]? = (bs[j]?).map byteV := by simp [bytesV]
theorem bytesV_set (bs : List UInt8) (j : Nat) (b : UInt8) : (bytesV bs).set j (byteV b) = bytesV (bs.set j b) := by simp [bytesV, List.map_set]
theorem bytesV_replicate (m : Nat) (b : UInt8) : bytesV (List.replicate m b) = List.replicate m (byteV b) := by simp [bytesV]
theorem bytesV_drop (bs : List UInt8) (m : Nat) : (bytesV bs).drop m = bytesV (bs.drop m) := by simp [bytesV, List.map_drop]
theorem bytesV_take (bs : List UInt8) (m : Nat) : (bytesV bs).take m = bytesV (bs.take m) := by simp [bytesV, List.map_take]
/-- A slice of bytes that is read; one that is owned (el: the number of the type byte). -/
abbrev RdB (R : Hp) (A : Option Addr) (c : Nat) (bs : List UInt8) : Prop := Rd R 1 A bs.length c (bytesV bs)
abbrev bytesR (el : TypeId) (v : Value) (bs : List UInt8) : HP := row el 1 v bs.length (bytesV bs)
theorem Rd.byte {R : Hp} {b off c : Nat} {bs : List UInt8} (r : RdB R (some ⟨b, off, none⟩) c bs) {j : Nat} {x : UInt8} (hj : bs[j]? = some x) : ∃ cs T fr, R b = some (.cells cs T fr) ∧ cs[off + j]? = some (byteV x) := by
  have hlt : j < bs.length := (List.getElem?_eq_some_iff.1 hj).1
  obtain ⟨cs, T, fr, h1, h2⟩ := r.cells (by omega)
  exact ⟨cs, T, fr, h1, h2 j _ (by rw [bytesV_getElem?, hj]; rfl)⟩

/-! Slices of slices -/
def subA (A : Option Addr) (c l sz : Nat) : Option Addr := if c = l then A else A.map (·.add (l * sz))
theorem Rd.sub {R : Hp} {sz n c : Nat} {A : Option Addr} {xs : List Value} (r : Rd R sz A n c xs) {l h : Nat} (h1 : l ≤ h) (h2 : h ≤ n) :
    Rd R sz (subA A c l sz) (h - l) (c - l) ((xs.drop (l * sz)).take ((h - l) * sz)) := by
  have hmul : (h - l) * sz = h * sz - l * sz := Nat.sub_mul _ _ _
  have hle : h * sz ≤ n * sz := Nat.mul_le_mul_right _ h2
  refine ⟨?_, by have := r.le; omega, by have := r.mx; omega, fun hn => ?_⟩
  · rw [List.length_take, List.length_drop, r.len]; omega
  · have hle := r.le
    obtain ⟨b, off, cs, T, fr, rfl, q1, q2⟩ := r.pos (by omega)
    refine ⟨b, off + l * sz, cs, T, fr, ?_, q1, fun j u hj => ?_⟩
    · unfold subA
      rw [if_neg (by omega), Option.map_some, add_plain_]
    · rw [List.getElem?_take] at hj
      split at hj
      · rw [List.getElem?_drop] at hj
        rw [Nat.add_assoc]; exact q2 _ _ hj
      · cases hj
theorem RdB.sub {R : Hp} {c : Nat} {A : Option Addr} {bs : List UInt8} (r : RdB R A c bs) {l h : Nat} (h1 : l ≤ h) (h2 : h ≤ bs.length) : RdB R (subA A c l 1) (c - l) ((bs.drop l).take (h - l)) := by
  have := Rd.sub r h1 h2
  have hl : ((bs.drop l).take (h - l)).length = h - l := by rw [List.length_take, List.length_drop]; omega
  unfold RdB
  rw [hl, ← bytesV_take, ← bytesV_drop]
  simpa using this
section
variable {P : Program} {ops : Array Oper} {Q : Act → World → Prop} {S : World → Prop} {n i : Nat} {e : World} {R : Hp} {a : Act} {w : World} {fs : List (Nat × Value)} {L : List HP}
def evalO (fs : List (Nat × Value)) : Option Operand → Option (Option Value)
  | none => some none
  | some x => match evalF fs x with
    | some v => some (some v)
    | none => none
def slF (ops : Array Oper) (fs : List (Nat × Value)) (i : Nat) : Option (Option Nat × TypeId × Value × Option Value × Option Value × Option Value) :=
  match opF ops fs i with
  | some o => match o.op with
    | .slice t x lo hi mx => match evalF fs x, evalO fs lo, evalO fs hi, evalO fs mx with
      | some u, some a, some b, some c => some (o.dst, t, u, a, b, c)
      | _, _, _, _ => none
    | _ => none
  | none => none
theorem evalO_map {fs : List (Nat × Value)} {x : Option Operand} {v : Option Value} (h : evalO fs x = some v) : x.map (WH.evalD fs) = v := by
  cases x with
  | none => simpa [evalO] using h
  | some y =>
    simp only [evalO] at h
    split at h
    · rename_i u hu; injection h with h; subst h; simp [WH.evalD, hu]
    · cases h
theorem slF_sound {dst : Option Nat} {t : TypeId} {u : Value} {a b c : Option Value} (h : slF ops fs i = some (dst, t, u, a, b, c)) :
    ∃ o, opF ops fs i = some o ∧ o.dst = dst ∧ execOp (WH.evalD fs) o = (do pure (.value (← Instr.sliceAt t u a b c))) := by
  unfold slF at h
  split at h
  · rename_i o ho
    split at h
    · rename_i t' x lo hi mx hop
      split at h
      · rename_i u' a' b' c' hx h1 h2 h3
        simp only [Option.some.injEq, Prod.mk.injEq] at h
        obtain ⟨rfl, rfl, rfl, rfl, rfl, rfl⟩ := h
        refine ⟨o, ho, rfl, ?_⟩
        unfold execOp
        simp only [hop, evalO_map h1, evalO_map h2, evalO_map h3]
        simp [WH.evalD, hx]
      · cases h
    · cases h
  · cases h
theorem sliceBound_run {k : IntKind} {j y : Nat} {code : BoundsCode} (h : j ≤ y) : (Instr.sliceBound (.int k (j : Int)) y code).run P w = .ok j w := by
  unfold Instr.sliceBound
  simp only [asIntOf, Sem.run_bind, Sem.run_pure, Result.andThen_ok]
  rw [if_pos ⟨by omega, by omega⟩]
  simp
/-- x[lo:hi] of a slice. -/
def loV (lo : Option (IntKind × Int × Nat)) : Option Value := lo.map fun p => .int p.1 p.2.1
def loN (lo : Option (IntKind × Int × Nat)) (d : Nat) : Nat := match lo with | some p => p.2.2 | none => d
def loOk : Option (IntKind × Int × Nat) → Prop
  | some p => p.2.1 = (p.2.2 : Int)
  | none => True
theorem val_slice {d m c : Nat} {t : TypeId} {A : Option Addr} {sz : Nat} (lo hi : Option (IntKind × Int × Nat)) (hl : slF ops fs i = some (some d, t, .slice A m c, loV lo, loV hi, none)) (hd : Nat.blt d n = true) (hs : elSize P t = some sz) (k1 : loOk lo) (k2 : loOk hi)
    (h1 : loN lo 0 ≤ loN hi m) (h2 : loN hi m ≤ c) : IsVal P ops n fs i d (.slice (subA A c (loN lo 0) sz) (loN hi m - loN lo 0) (c - loN lo 0)) S := by
  obtain ⟨o, ho, hdst, hex⟩ := slF_sound hl
  refine ⟨o, ho, hdst, hd, fun w _ => ?_⟩
  rw [hex]
  unfold elSize at hs
  split at hs
  · rename_i el hu
    split at hs
    · rename_i inf hi'
      injection hs with hs
      have hsz : (sizeOf el).run P w = .ok sz w := by simp [sizeOf, typeInfo, hi', hs]
      have hb : (Instr.sliceBounds true m c (loV lo) (loV hi) none).run P w = .ok (loN lo 0, loN hi m, c) w := by
        unfold Instr.sliceBounds
        cases lo with
        | none =>
          cases hi with
          | none => simp [loV, loN]
          | some q => obtain ⟨kq, zq, q⟩ := q; simp only [loOk] at k2; subst k2; simp only [loN, loV, Option.map_some] at h1 h2 ⊢; simp [sliceBound_run (P := P) (w := w) (k := kq) h2]
        | some p =>
          obtain ⟨kp, zp, p⟩ := p
          simp only [loOk] at k1; subst k1
          cases hi with
          | none => simp only [loN, loV, Option.map_some] at h1 h2 ⊢; simp [sliceBound_run (P := P) (w := w) (k := kp) h1]
          | some q => obtain ⟨kq, zq, q⟩ := q; simp only [loOk] at k2; subst k2; simp only [loN, loV, Option.map_some] at h1 h2 ⊢; simp [sliceBound_run (P := P) (w := w) (k := kq) h2, sliceBound_run (P := P) (w := w) (k := kp) h1]
      have hr : (Instr.sliceAt t (.slice A m c) (loV lo) (loV hi) none).run P w = .ok (.slice (subA A c (loN lo 0) sz) (loN hi m - loN lo 0) (c - loN lo 0)) w := by
        unfold Instr.sliceAt
        simp only [Sem.run_bind, run_underlying hu, Result.andThen_ok]
        unfold Instr.slice
        simp only [Sem.run_bind, run_underlying hu, Result.andThen_ok, hb, hsz, Sem.run_pure]
        rfl
      rw [Sem.run_bind, hr]
      rfl
    · cases hs
  · cases hs

/-! string(b), b a slice of bytes -/
def cvF (ops : Array Oper) (fs : List (Nat × Value)) (i : Nat) : Option (Option Nat × TypeId × TypeId × Value) :=
  match opF ops fs i with
  | some o => match o.op with
    | .convert src dst x => match evalF fs x with
      | some u => some (o.dst, src, dst, u)
      | none => none
    | _ => none
  | none => none
theorem cvF_sound {dst : Option Nat} {s t : TypeId} {u : Value} (h : cvF ops fs i = some (dst, s, t, u)) :
    ∃ o, opF ops fs i = some o ∧ o.dst = dst ∧ execOp (WH.evalD fs) o = (do pure (.value (← convert s t u))) := by
  unfold cvF at h
  split at h
  · rename_i o ho
    split at h
    · rename_i s' t' x hop
      split at h
      · rename_i u' hx
        simp only [Option.some.injEq, Prod.mk.injEq] at h
        obtain ⟨rfl, rfl, rfl, rfl⟩ := h
        refine ⟨o, ho, rfl, ?_⟩
        unfold execOp
        simp only [hop]
        simp [WH.evalD, hx]
      · cases h
    · cases h
  · cases h
/-- The string of bytes. -/
def strB (bs : List UInt8) : ByteArray := ⟨bs.toArray⟩
theorem strOfNums_bytes (bs : List UInt8) : strOfNums (bs.map fun b => (b.toNat : Int)) = strB bs := by
  unfold strOfNums strB
  congr 2
  rw [List.map_map]
  conv => rhs; rw [← List.map_id bs]
  apply List.map_congr_left
  intro b _
  simp
theorem val_str {d c : Nat} {src dst el : TypeId} {A : Option Addr} {bs : List UInt8} (r : RdB R A c bs) (hl : cvF ops fs i = some (some d, src, dst, .slice A bs.length c)) (hd : Nat.blt d n = true)
    (hs : P.underlying src = some (.slice el)) (he : P.underlying el = some (.int .u8)) (ht : P.underlying dst = some .string) : IsVal P ops n fs i d (.string (strB bs)) (fun w => Sat e w R L) := by
  obtain ⟨o, ho, hdst, hex⟩ := cvF_sound hl
  refine ⟨o, ho, hdst, hd, fun w X => ?_⟩
  rw [hex]
  have hr : (convert src dst (.slice A bs.length c)).run P w = .ok (.string (strB bs)) w := by
    rcases Nat.eq_zero_or_pos bs.length with h0 | h0
    · have hb : bs = [] := List.eq_nil_of_length_eq_zero h0
      subst hb
      cases A with
      | none => exact run_convert_bytes_nil w src el hs he 0 c dst ht
      | some ad =>
        rw [run_convert_bytes_string w src dst el _ _ _ hs he ht]
        simp [Conv.bytesToString, loadCells, loadCellsFrom, strB, ByteArray.empty, ByteArray.emptyWithCapacity]
        rfl
    · obtain ⟨b, off, rfl⟩ := r.addr h0
      obtain ⟨cs, T, fr, h1, h2⟩ := r.cells h0
      have := run_convert_bytes_arg (P := P) (w := w) src el hs he b off bs.length c (bs.map fun b => (b.toNat : Int)) (by simp) (fun j hj => by
        have h3 := h2 j (byteV (bs[j])) (by rw [bytesV_getElem?, List.getElem?_eq_getElem hj]; rfl)
        simp only [World.cell?, X.rd h1, Option.isSome_none, Bool.false_eq_true, if_false, h3, byteV]
        simp [List.getD_eq_getElem?_getD, List.getElem?_eq_getElem hj]) dst ht
      rw [this, strOfNums_bytes]
  rw [Sem.run_bind, hr]
  rfl
/-- A byte of a table that is a constant text: no more than m. -/
def tabF (ops : Array Oper) (fs : List (Nat × Value)) (i m size : Nat) : Option (Option Nat × TypeId × IntKind × Int) :=
  match opF ops fs i with
  | some o => match o.op with
    | .index t (.const (.string s)) y => match evalF fs y with
      | some (.int k z) => bif s.data.toList.all (fun b => Nat.ble b.toNat m) && Nat.beq s.data.toList.length size then some (o.dst, t, k, z) else none
      | _ => none
    | _ => none
  | none => none
theorem val_table {d m size j t : Nat} {k : IntKind} {z : Int} (hl : tabF ops fs i m size = some (some d, t, k, z)) (hd : Nat.blt d n = true) (hu : P.underlying t = some .string) (hz : z = (j : Int)) (hj : j < size) : ∃ b : Nat, b ≤ m ∧ IsVal P ops n fs i d (.int .u8 (b : Int)) S := by
  unfold tabF at hl
  split at hl
  · rename_i o ho
    split at hl
    · rename_i t' s y hop
      split at hl
      · rename_i k' z' hy
        cases hb : (s.data.toList.all (fun b => Nat.ble b.toNat m) && Nat.beq s.data.toList.length size) with
        | false => rw [hb] at hl; cases hl
        | true =>
          rw [hb] at hl
          simp only [cond_true, Option.some.injEq, Prod.mk.injEq] at hl
          obtain ⟨hdst, rfl, rfl, rfl⟩ := hl
          simp only [Bool.and_eq_true, List.all_eq_true] at hb
          subst hz
          have hsz : s.size = size := by
            exact (Array.length_toList (xs := s.data)).symm.trans (Nat.eq_of_beq_eq_true hb.2)
          have hlt : j < s.size := by omega
          have hmem : s[j]'hlt ∈ s.data.toList := by
            show s.data[j] ∈ s.data.toList
            exact Array.getElem_mem_toList ..
          refine ⟨(s[j]'hlt).toNat, Nat.le_of_ble_eq_true (hb.1 _ hmem), o, ho, hdst, hd, fun w _ => ?_⟩
          have hund := hu
          unfold execOp
          have hev : WH.evalD fs y = .int k' (j : Int) := by simp [WH.evalD, hy]
          have hc : WH.evalD fs (.const (.string s)) = .string s := rfl
          simp only [hop, hc, hev]
          have hr : (Instr.index t' (.string s) (.int k' (j : Int))).run P w = .ok (.int .u8 ((s[j]'hlt).toNat : Int)) w := by
            unfold Instr.index
            simp only [asIntOf, Sem.run_bind, Sem.run_pure, Result.andThen_ok, run_underlying hund]
            rw [if_pos (by omega), Int.toNat_natCast]
            rw [getElem?_pos s j hlt]
            rfl
          rw [Sem.run_bind, hr]
          rfl
      · cases hl
    · cases hl
  · cases hl
end
theorem St.arrAt {n : Nat} {e : World} {R : Hp} {a : Act} {w : World} {fs : List (Nat × Value)} {L : List HP} {k b : Nat} {xs : List Value} {T : TypeId} {fr : Nat × Nat} (ys : List Value) (H : St n e R a w fs L)
    (hk : L[k]? = some (blk b (.cells xs.toArray T fr))) (h : xs = ys) : St n e R a w fs (L.set k (blk b (.cells ys.toArray T fr))) := by
  subst h
  have : L.set k (blk b (.cells xs.toArray T fr)) = L := by
    apply List.ext_getElem?
    intro j
    rw [List.getElem?_set]
    split
    · rename_i hj
      subst hj
      split
      · exact hk.symm
      · rename_i hlt; rw [List.getElem?_eq_none (by omega)]
    · rfl
  rw [this]; exact H
/-! ### What is read alone grows -/
def Hp.Le (R R' : Hp) : Prop := ∀ b o, R b = some o → R' b = some o
theorem Hp.Le.refl (R : Hp) : R.Le R := fun _ _ h => h
theorem Hp.Le.trans {R R' R'' : Hp} (h : R.Le R') (k : R'.Le R'') : R.Le R'' := fun b o q => k b o (h b o q)
theorem Hp.Le.un (R h : Hp) : R.Le (R.un h) := fun _ _ q => Hp.un_left q
theorem Sat.le {e w : World} {R R' : Hp} {L : List HP} (h : R.Le R') (S : Sat e w R' L) : Sat e w R L := by
  obtain ⟨x, a, b, c⟩ := S.ex
  refine ⟨S.os, S.tape, S.output, fun b o q => S.ro b o (h b o q), x, a, fun k => ?_, c⟩
  rcases b k with z | z
  · left
    cases hr : R k with
    | none => rfl
    | some o => rw [h k o hr] at z; cases z
  · exact .inr z
theorem Rd.grow {R R' : Hp} {sz n c : Nat} {A : Option Addr} {xs : List Value} (h : R.Le R') (r : Rd R sz A n c xs) : Rd R' sz A n c xs :=
  ⟨r.len, r.le, r.mx, fun hn => let ⟨b, off, cs, T, fr, q1, q2, q3⟩ := r.pos hn; ⟨b, off, cs, T, fr, q1, h _ _ q2, q3⟩⟩
theorem Sat.row_fix {e w : World} {R : Hp} {L : List HP} {el sz n : Nat} {v : Value} {xs : List Value} (S : Sat e w R (row el sz v n xs :: L)) : ∃ R', R.Le R' ∧ ∃ A c, v = .slice A n c ∧ Rd R' sz A n c xs ∧ Sat e w R' L := by
  obtain ⟨h, A, c, _, d, hv, r, S⟩ := S.row_freeze
  exact ⟨_, Hp.Le.un R h, A, c, hv, r, S⟩
/-- Bytes that are owned, as a slice's value. -/
abbrev bytesO (el : TypeId) (A : Option Addr) (c : Nat) (bs : List UInt8) : HP := bytesR el (.slice A bs.length c) bs
theorem Sat.bytesO_fix {e w : World} {R : Hp} {L : List HP} {el : Nat} {A : Option Addr} {c : Nat} {bs : List UInt8} (S : Sat e w R (bytesO el A c bs :: L)) : ∃ R', R.Le R' ∧ RdB R' A c bs ∧ Sat e w R' L := by
  obtain ⟨R', h, A', c', hv, r, X⟩ := S.row_fix
  injection hv with h1 h2 h3
  subst h1; subst h3
  exact ⟨R', h, r, X⟩
theorem Sat.bytesO_of {e w : World} {R : Hp} {L : List HP} {el : Nat} {v : Value} {bs : List UInt8} (S : Sat e w R (bytesR el v bs :: L)) : ∃ A c, v = .slice A bs.length c ∧ Sat e w R (bytesO el A c bs :: L) := by
  obtain ⟨h1, h2, h3, x, y, dj, h4, h5⟩ := S.ex
  obtain ⟨A', c', rfl, _⟩ := row_rd h5.1
  exact ⟨A', c', rfl, S⟩
theorem Sat.bytes_fix {e w : World} {R : Hp} {L : List HP} {el : Nat} {v : Value} {bs : List UInt8} (S : Sat e w R (bytesR el v bs :: L)) : ∃ R', R.Le R' ∧ ∃ A c, v = .slice A bs.length c ∧ RdB R' A c bs ∧ Sat e w R' L := S.row_fix
/-! Pointers into what is read alone -/
def ptrA (A : Option Addr) (k : Nat) : Option Addr := A.map (·.add k)
theorem ptrA_some (b off k : Nat) : ptrA (some ⟨b, off, none⟩) k = some ⟨b, off + k, none⟩ := by simp [ptrA, add_plain_]
section
variable {P : Program} {ops : Array Oper} {Q : Act → World → Prop} {S : World → Prop} {n i : Nat} {e : World} {R : Hp} {a : Act} {w : World} {fs : List (Nat × Value)} {L : List HP}
theorem ixa_rdN {d len cap : Nat} {t : TypeId} {A : Option Addr} {k : IntKind} {z : Int} {sz : Nat} {xs : List Value} (r : Rd R sz A len cap xs) (j : Nat) (hl : ixF ops fs i = some (some d, t, .slice A len cap, k, z)) (hd : Nat.blt d n = true)
    (hs : elSize P t = some sz) (hz : z = (j : Int)) (hj : j < len) : IsVal P ops n fs i d (.pointer (ptrA A (j * sz))) S := by
  obtain ⟨b, off, rfl⟩ := r.addr (by omega)
  have := ixa_slN (S := S) j hl hd hs hz hj
  rw [ptrA_some]; exact this
theorem ixa_rd1 {d len cap : Nat} {t : TypeId} {A : Option Addr} {k : IntKind} {z : Int} {xs : List Value} (r : Rd R 1 A len cap xs) (j : Nat) (hl : ixF ops fs i = some (some d, t, .slice A len cap, k, z)) (hd : Nat.blt d n = true)
    (hs : elSize P t = some 1) (hz : z = (j : Int)) (hj : j < len) : IsVal P ops n fs i d (.pointer (ptrA A j)) S := by
  have := ixa_rdN (S := S) r j hl hd hs hz hj
  rwa [Nat.mul_one] at this
def ldFo (ops : Array Oper) (fs : List (Nat × Value)) (i : Nat) : Option (Option Nat × TypeId × Option Addr) :=
  match opF ops fs i with
  | some o => match o.op with
    | .load t x => match evalF fs x with
      | some (.pointer p) => some (o.dst, t, p)
      | _ => none
    | _ => none
  | none => none
theorem ldFo_some {dst : Option Nat} {t : TypeId} {p : Addr} (h : ldFo ops fs i = some (dst, t, some p)) : ldF ops fs i = some (dst, t, p) := by
  unfold ldFo at h
  unfold ldF
  split at h
  · split at h
    · split at h
      · rename_i q hq
        simp only [Option.some.injEq, Prod.mk.injEq] at h
        obtain ⟨rfl, rfl, rfl⟩ := h
        simp_all
      · cases h
    · cases h
  · cases h
def plainT (P : Program) (t : TypeId) : Bool := match P.underlying t with | some (.struct _) | some (.array _ _) | none => false | _ => true
theorem val_ldA {d k len cap sz : Nat} {t : TypeId} {A : Option Addr} {u : Value} {xs : List Value} (r : Rd R sz A len cap xs) (hl : ldFo ops fs i = some (some d, t, ptrA A k)) (hd : Nat.blt d n = true) (ht : plainT P t = true)
    (hx : xs[k]? = some u) : IsVal P ops n fs i d u (fun w => Sat e w R L) := by
  have hk : k < xs.length := (List.getElem?_eq_some_iff.1 hx).1
  have hlen : 0 < len := by
    have := r.len
    rcases Nat.eq_zero_or_pos len with h | h
    · subst h; simp at this; subst this; simp at hk
    · exact h
  obtain ⟨b, off, rfl⟩ := r.addr hlen
  obtain ⟨cs, T, fr, h1, h2⟩ := r.cells hlen
  rw [ptrA_some] at hl
  exact val_ldR h1 (ldFo_some hl) hd (loadF_at ht (h2 k u hx))
theorem val_ldB {d j cap : Nat} {t : TypeId} {A : Option Addr} {bs : List UInt8} (r : RdB R A cap bs) (hl : ldFo ops fs i = some (some d, t, ptrA A j)) (hd : Nat.blt d n = true) (ht : plainT P t = true)
    (hj : j < bs.length) : IsVal P ops n fs i d (.int .u8 ((bs.getD j 0).toNat : Int)) (fun w => Sat e w R L) := by
  refine val_ldA r hl hd ht (u := .int .u8 ((bs.getD j 0).toNat : Int)) ?_
  rw [bytesV_getElem?, List.getElem?_eq_getElem hj]
  simp [byteV, List.getD_eq_getElem?_getD, List.getElem?_eq_getElem hj]
end
theorem notT {b : Bool} (h : (!b) = true) : b = false := by cases b <;> simp_all
theorem notF {b : Bool} (h : (!b) = false) : b = true := by cases b <;> simp_all
theorem neB {α : Type} [BEq α] [LawfulBEq α] {a b : α} (h : (a == b) = false) : a ≠ b := by rintro rfl; simp at h
theorem RdB.nil (R : Hp) : RdB R none 0 [] := Rd.nil R 1
theorem RdB.grow {R R' : Hp} {c : Nat} {A : Option Addr} {bs : List UInt8} (h : R.Le R') (r : RdB R A c bs) : RdB R' A c bs := Rd.grow h r
theorem and3 (x : Int) : Value.int .i64 (IntKind.i64.wrap (((BitVec.ofInt 64 x &&& BitVec.ofInt 64 3).toNat : Nat) : Int)) = Value.int .i64 (x % 4) := by
  have h : (BitVec.ofInt 64 x &&& BitVec.ofInt 64 3).toNat = (x % 4).toNat := by
    rw [BitVec.toNat_and, BitVec.toNat_ofInt, BitVec.toNat_ofInt]
    have : ((3 : Int) % ((2 ^ 64 : Nat) : Int)).toNat = 2 ^ 2 - 1 := by decide
    rw [this, Nat.and_two_pow_sub_one_eq_mod]
    omega
  rw [h]
  have h0 : 0 ≤ x % 4 := by omega
  rw [Int.toNat_of_nonneg h0]
  exact wI64 (by omega) (by omega)
/-! ### Numbers as bytes -/
/-- The lowest s bytes of a number, the highest first. -/
def be : Nat → Nat → List UInt8
  | 0, _ => []
  | s + 1, n => be s (n / 256) ++ [UInt8.ofNat n]
/-- The number of bytes. -/
def unbe (bs : List UInt8) : Nat := bs.foldl (fun a b => a * 256 + b.toNat) 0
theorem be_length : ∀ (s n : Nat), (be s n).length = s
  | 0, _ => rfl
  | s + 1, n => by simp [be, be_length s]
section
variable {P : Program} {ops : Array Oper} {Q : Act → World → Prop} {S : World → Prop} {n i : Nat} {e : World} {R : Hp} {a : Act} {w : World} {fs : List (Nat × Value)} {L : List HP}
theorem op_table {d m size j t : Nat} {k : IntKind} {z : Int} {K : Act → World → Prop} {Qx : Exit → Act → World → Prop} (H : St n e R a w fs L) (hl : tabF ops fs i m size = some (some d, t, k, z)) (hd : Nat.blt d n = true) (hu : P.underlying t = some .string)
    (hz : z = (j : Int)) (hj : j < size) (h : ∀ b a', b ≤ m → St n e R a' w ((d, .int .u8 (b : Int)) :: fs) L → K a' w) : wpOp P ops Qx i K a w := by
  obtain ⟨b, hb, hv⟩ := val_table (P := P) (S := fun w => Sat e w R L) hl hd hu hz hj
  exact op_val H hv fun a' H' => h b a' hb H'
theorem op_make {d m t el bytes : Nat} {z : Value} {K : Act → World → Prop} {Qx : Exit → Act → World → Prop} (H : St n e R a w fs L) (hl : mkF ops fs i = some (some d, t, .int .i64 (m : Int), .int .i64 (m : Int))) (hd : Nat.blt d n = true)
    (ht : P.underlying t = some (.slice el)) (hinfo : (P.info? el).map (fun i => (i.zero, i.size, i.bytes)) = some (some z, 1, bytes)) (hz : z.cells = #[z]) (hb : bytes * m ≤ 281474976710656) (hm : m ≤ 9223372036854775807)
    (h : ∀ a' w' b, St n e R a' w' ((d, .slice (some ⟨b, 0, none⟩) m m) :: fs) (blk b (.cells (List.replicate m z).toArray el (0, 0)) :: L) → K a' w') : wpOp P ops Qx i K a w :=
  op_new H (new_make hl hd ht hinfo hz hb hm) h
end
theorem wbyte {x : Int} (h0 : 0 ≤ x) : Value.int .u8 (IntKind.u8.wrap x) = byteV (UInt8.ofNat x.toNat) := by
  unfold byteV
  congr 1
  simp only [IntKind.wrap, IntKind.bits, IntKind.signed, Bool.false_and, Bool.false_eq_true, if_false, UInt8.toNat_ofNat']
  omega
theorem be_cons : ∀ (k n : Nat), be (k + 1) n = UInt8.ofNat (n / 256 ^ k) :: be k n
  | 0, n => by simp [be]
  | k + 1, n => by
    rw [be, be_cons k (n / 256)]
    simp only [List.cons_append, be]
    rw [Nat.div_div_eq_div_mul, Nat.pow_succ, Nat.mul_comm 256]
theorem wbyteN (k : Nat) : Value.int .u8 (IntKind.u8.wrap ((k : Nat) : Int)) = Value.int .u8 ((UInt8.ofNat k).toNat : Int) := (wbyte (Int.natCast_nonneg k)).trans (by simp [byteV])
theorem put_step {j k n : Nat} (h : 1 ≤ j) : (List.replicate j (0 : UInt8) ++ be k n).set (j - 1) (UInt8.ofNat (n / 256 ^ k)) = List.replicate (j - 1) 0 ++ be (k + 1) n := by
  obtain ⟨i, rfl⟩ : ∃ i, j = i + 1 := ⟨j - 1, by omega⟩
  rw [be_cons, Nat.add_sub_cancel, List.replicate_succ', List.append_assoc, List.set_append_right _ _ (by simp)]
  simp
theorem Sat.arr_bytes {e w : World} {R : Hp} {L : List HP} {el b s : Nat} {bs : List UInt8} (S : Sat e w R (WH.blk b (.cells (bytesV bs).toArray el (0, 0)) :: L)) (h : bs.length = s) (hm : s ≤ maxLen) :
    Sat e w R (bytesO el (some ⟨b, 0, none⟩) s bs :: L) := by
  subst h
  exact S.arr_row (by simp [bytesV_length]) hm
theorem Sat.nil_bytes {e w : World} {R : Hp} {L : List HP} (el : Nat) (S : Sat e w R L) : Sat e w R (bytesO el none 0 [] :: L) := S.nil_row el 1
section
variable {P : Program} {ops : Array Oper} {Q : Act → World → Prop} {S : World → Prop} {n i : Nat} {e : World} {R : Hp} {a : Act} {w : World} {fs : List (Nat × Value)} {L : List HP}
/-- A store of one cell into cells that are not written out. -/
theorem op_storeC {k b off : Nat} {t : TypeId} {v : Value} {cs : Array Value} {T : TypeId} {K : Act → World → Prop} {Qx : Exit → Act → World → Prop} (H : St n e R a w fs L) (hk : L[k]? = some (blk b (.cells cs T (0, 0))))
    (hl : stF ops fs i = some (none, t, ⟨b, off, none⟩, v)) (h1 : one1 v = true) (hc : v.cells = #[v]) (hi : (P.info? t).map (·.size) = some 1) (hlt : off < cs.size)
    (h : ∀ a' w', St n e R a' w' fs (L.set k (blk b (.cells (cs.setIfInBounds off v) T (0, 0)))) → K a' w') : wpOp P ops Qx i K a w := by
  obtain ⟨inf, q1, q2⟩ := Option.map_eq_some_iff.1 hi
  refine op_store (k := k) H hk hl ?_ fun a' w' H' => h a' w' ?_
  · unfold stOk
    rw [q1]
    simp only [hc, q2, Bool.and_eq_true]
    refine ⟨⟨rfl, by simp [h1]⟩, Nat.ble_eq_true_of_le (by omega)⟩
  · rw [hc] at H'
    simpa [putL] using H'
/-- append(v, x..) of bytes, v the call's own. -/
theorem op_appendB {d c1 c2 bytes : Nat} {t el : TypeId} {z : Value} {bs ys : List UInt8} {A A1 : Option Addr} {K : Act → World → Prop} {Qx : Exit → Act → World → Prop} (H : St n e R a w fs (bytesO el A1 c1 bs :: L)) (r : RdB R A c2 ys)
    (hl : appF ops fs i = some (some d, t, .slice A1 bs.length c1, .slice A ys.length c2)) (hd : Nat.blt d n = true) (ht : P.underlying t = some (.slice el)) (hinfo : (P.info? el).map (fun i => (i.zero, i.size, i.bytes)) = some (some z, 1, bytes)) (hz : z.cells.size = 1) (hby : bytes = 1)
    (hb : bs.length + ys.length ≤ 140737488355328)
    (h : ∀ a' w' A' c', St n e R a' w' ((d, .slice A' (bs ++ ys).length c') :: fs) (bytesO el A' c' (bs ++ ys) :: L) → K a' w') : wpOp P ops Qx i K a w := by
  refine op_append (z := z) H hl hd ht hinfo hz (by omega) (by omega) (by simp [bytesV_length]) (Src.of_rd H.sat r) (bytesV_one ys) (by subst hby; omega) fun a' w' v' H' => ?_
  obtain ⟨h1, h2, x, y, dj, e1, h3, h4⟩ := H'.sat.ex
  obtain ⟨A', c', rfl, _⟩ := row_rd h4.1
  refine h a' w' A' c' ?_
  unfold bytesO bytesR
  rw [List.length_append, bytesV_append]
  exact H'
end
theorem slice_nil {k : TypeId} {fs : List (Nat × Value)} : True := trivial
abbrev blkC (b : Nat) (cs : Array Value) (T : TypeId) : HP := blk b (.cells cs T (0, 0))
theorem get_lt {cs : Array Value} {o : Nat} {v : Value} (h : cs[o]? = some v) : o < cs.size := (Array.getElem?_eq_some_iff.1 h).1
theorem set_get {cs : Array Value} {o p : Nat} {v u : Value} (h : cs[p]? = some v) (hne : o ≠ p) : (cs.setIfInBounds o u)[p]? = some v := by rw [Array.getElem?_setIfInBounds_ne hne]; exact h
theorem set_lt {cs : Array Value} {o p : Nat} {u : Value} (h : p < cs.size) : p < (cs.setIfInBounds o u).size := by simpa using h
section
variable {P : Program} {ops : Array Oper} {Q : Act → World → Prop} {S : World → Prop} {n i : Nat} {e : World} {R : Hp} {a : Act} {w : World} {fs : List (Nat × Value)} {L : List HP}
/-- The bytes of a text. -/
abbrev txt (s : ByteArray) : List UInt8 := s.data.toList
theorem strB_txt (s : ByteArray) : strB (txt s) = s := by cases s; simp [strB, txt]
theorem txt_strB (bs : List UInt8) : txt (strB bs) = bs := by simp [strB, txt]
theorem op_strBytes {d : Nat} {src dst el : TypeId} {s : ByteArray} {K : Act → World → Prop} {Qx : Exit → Act → World → Prop} (H : St n e R a w fs L) (hl : cvF ops fs i = some (some d, src, dst, .string s)) (hd : Nat.blt d n = true)
    (hs : P.underlying src = some .string) (ht : P.underlying dst = some (.slice el)) (he : P.underlying el = some (.int .u8)) (hm : s.size ≤ maxLen)
    (h : ∀ a' w' R' A c, R.Le R' → RdB R' A c (txt s) → St n e R' a' w' ((d, .slice A (txt s).length c) :: fs) L → K a' w') : wpOp P ops Qx i K a w := by
  obtain ⟨o, ho, hdst, hex⟩ := cvF_sound hl
  obtain ⟨g1, g2, g3, _⟩ := opF_sound H.sl ho
  have hr := run_bytes_of_string (P := P) w src dst el s hs ht he
  have hsz : (txt s).length = s.size := Array.length_toList (xs := s.data)
  have hc1 := grownCap_ge w s.size 0 el
  have hc2 := grownCap_le_maxLen w s.size 0 el hm
  obtain ⟨x, hx, dj, X⟩ := (H.sat.drew.alloc (.cells (bytesRow s (grownCap w s.size 0 el)) el ((bytesRow s (grownCap w s.size 0 el)).size, (bytesRow s (grownCap w s.size 0 el)).size + 1))).freeze
  obtain ⟨W, hW⟩ : ∃ W, W = w.drew.alloc (.cells (bytesRow s (grownCap w s.size 0 el)) el ((bytesRow s (grownCap w s.size 0 el)).size, (bytesRow s (grownCap w s.size 0 el)).size + 1)) := ⟨_, rfl⟩
  rw [← hW] at hr X
  refine wpOp_value g1 g2 (w' := W) (v := .slice (some ⟨w.heap.size, 0, none⟩) (txt s).length (grownCap w s.size 0 el)) ?_ ?_
  · rw [g3, hex, Sem.run_bind, hr, hsz]
    rfl
  · rw [hdst]
    refine h _ _ (R.un x) (some ⟨w.heap.size, 0, none⟩) (grownCap w s.size 0 el) (Hp.Le.un R x) ?_ ⟨H.sl.put hd _, X⟩
    refine ⟨by simp [bytesV_length], by omega, by simp only [maxLen] at hc2; omega, fun _ => ⟨_, _, _, _, _, rfl, Hp.un_right dj (by subst hx; exact if_pos rfl), fun j u hj => ?_⟩⟩
    rw [bytesV_getElem?] at hj
    obtain ⟨b, hb, rfl⟩ := Option.map_eq_some_iff.1 hj
    have hlt : j < (txt s).length := (List.getElem?_eq_some_iff.1 hb).1
    rw [Nat.zero_add, bytesRow, Array.getElem?_append_left (by simp [show s.data.size = s.size from rfl]; omega), Array.getElem?_map]
    rw [Array.getElem?_toList] at hb
    rw [hb]; rfl
end
/-! ### == of structs -/
section
variable {P : Program}
def partF (P : Program) (t : TypeId) (cs : Array Value) (off : Nat) : Option Value :=
  match P.underlying t with
  | some (.struct _) | some (.array _ _) =>
    match P.info? t with
    | some inf => some (.agg (cs.extract off (off + inf.size)))
    | none => none
  | some _ => cs[off]?
  | none => none
def eqGo (P : Program) (E : TypeId → Value → Value → Option Bool) (xs ys : Array Value) : List Field → Option Bool
  | [] => some true
  | f :: fs => if f.name = "_" then none else
    match partF P f.type xs f.offset, partF P f.type ys f.offset with
    | some a, some b => match E f.type a b, eqGo P E xs ys fs with
      | some r, some r' => some (r && r')
      | _, _ => none
    | _, _ => none
def eqV (P : Program) : Nat → TypeId → Value → Value → Option Bool
  | 0, _, _, _ => none
  | d + 1, t, x, y =>
    match P.underlying t, x, y with
    | some (.int _), .int k a, .int k' b => if k = k' then some (a == b) else none
    | some .bool, .bool a, .bool b => some (a == b)
    | some .string, .string a, .string b => some (a.toList == b.toList)
    | some (.struct _), .agg xs, .agg ys => bif P.stoodInHeld t then none else eqGo P (eqV P d) xs ys (P.fieldsOf t).toList
    | _, _, _ => none
end
theorem partF_run {P : Program} {t : TypeId} {cs : Array Value} {off : Nat} {v : Value} (w : World) (h : partF P t cs off = some v) : (part t cs off).run P w = .ok v w := by
  unfold partF at h
  unfold part isAgg
  cases hu : P.underlying t with
  | none => rw [hu] at h; cases h
  | some D =>
    rw [hu] at h
    cases D <;> simp only [Sem.run_bind, run_underlying hu, Result.andThen_ok, Sem.run_pure] at h ⊢ <;> first
      | (simp only [Bool.false_eq_true, if_false, h, Sem.run_pure]; done)
      | (split at h
         · rename_i inf hi
           injection h with h
           subst h
           simp [sizeOf, typeInfo, hi]
         · cases h)
theorem eqV_run {P : Program} : ∀ (d : Nat) (t : TypeId) (x y : Value) (b : Bool) (w : World), eqV P d t x y = some b → (Op.equalIn d t x y).run P w = .ok b w
  | 0, t, x, y, b, w, h => by simp [eqV] at h
  | d + 1, t, x, y, b, w, h => by
    have hgo : ∀ (xs ys : Array Value) (fs : List Field) (b : Bool), eqGo P (eqV P d) xs ys fs = some b → (Op.eqFields d xs ys fs).run P w = .ok b w := by
      intro xs ys fs
      induction fs with
      | nil => intro b h; simp [eqGo] at h; subst h; simp [Op.eqFields]
      | cons f fs ih =>
        intro b h
        simp only [eqGo] at h
        split at h
        · cases h
        · rename_i hn
          split at h
          · rename_i va vb h1 h2
            split at h
            · rename_i r r' h3 h4
              injection h with h
              subst h
              have e3 := eqV_run d f.type va vb r w h3
              simp only [Op.eqFields, hn, ne_eq, not_false_eq_true, if_true, Sem.run_bind, partF_run w h1, partF_run w h2, e3, Result.andThen_ok]
              cases r
              · simp
              · simpa using ih r' h4
            · cases h
          · cases h
    unfold eqV at h
    split at h
    · rename_i k k2 a k' b' hu
      split at h
      · rename_i hk
        injection h with h; subst h; subst hk
        exact run_equalIn_int w d t _ _ a b' hu
      · cases h
    · rename_i a b' hu
      injection h with h; subst h
      exact run_equalIn_bool' w d t a b' hu
    · rename_i a b' hu
      injection h with h; subst h
      exact run_equalIn_string w d t a b' hu
    · rename_i fs xs ys hu
      cases hs : P.stoodInHeld t with
      | true => rw [hs] at h; cases h
      | false =>
        rw [hs] at h
        have hf : P.underlying t = some (.struct (P.fieldsOf t)) := by simp [Program.fieldsOf, hu]
        rw [run_equalIn_struct w d t xs ys hf hs]
        exact hgo xs ys _ b h
    · cases h
section
variable {P : Program} {ops : Array Oper} {S : World → Prop} {n i : Nat} {fs : List (Nat × Value)}
def bnF (ops : Array Oper) (fs : List (Nat × Value)) (i : Nat) : Option (Option Nat × Bool × TypeId × Value × Value) :=
  match opF ops fs i with
  | some o => match o.op with
    | .binOp .eql t x y _ => match evalF fs x, evalF fs y with
      | some u, some v => some (o.dst, true, t, u, v)
      | _, _ => none
    | .binOp .neq t x y _ => match evalF fs x, evalF fs y with
      | some u, some v => some (o.dst, false, t, u, v)
      | _, _ => none
    | _ => none
  | none => none
theorem val_eqS {d t : Nat} {xs ys : Array Value} {b : Bool} (hl : bnF ops fs i = some (some d, true, t, .agg xs, .agg ys)) (hd : Nat.blt d n = true) (hg : P.eqGuardType P.depth t = false) (hv : eqV P 10000 t (.agg xs) (.agg ys) = some b) : IsVal P ops n fs i d (.bool b) S := by
  unfold bnF at hl
  split at hl
  · rename_i o ho
    split at hl
    · rename_i t' x y ty hop
      split at hl
      · rename_i u v hx hy
        simp only [Option.some.injEq, Prod.mk.injEq, true_and] at hl
        obtain ⟨hdst, rfl, rfl, rfl⟩ := hl
        refine ⟨o, ho, hdst, hd, fun w _ => ?_⟩
        unfold execOp
        simp only [hop, WH.evalD, hx, hy, Sem.run_bind, run_eqGuard_agg w .eql _ x y xs ys hg, Result.andThen_ok, run_eql_struct, eqV_run 10000 _ _ _ b w hv, Sem.run_pure]
      · cases hl
    · split at hl
      · simp at hl
      · cases hl
    · cases hl
  · cases hl
end
/-! ### A range over a function -/
def isC : Obj → Bool
  | .cells .. => true
  | _ => false
theorem getObj_run {P : Program} {w : World} {r : Nat} {o : Obj} (h : w.heap[r]? = some o) (hc : isC o = false) : (getObj r).run P w = .ok o w := by
  cases o <;> first | (simp [getObj, Sem.run, h]; done) | (simp [isC] at hc)
def objs (w : World) (r : Nat) (o : Obj) : World := { w with heap := w.heap.setIfInBounds r o }
theorem setObj_run {P : Program} {w : World} {r : Nat} {o o' : Obj} (h : w.heap[r]? = some o) (hc : isC o = false) : (setObj r o').run P w = .ok () (objs w r o') := by
  cases o <;> first | (simp [setObj, Sem.run, h, objs]; done) | (simp [isC] at hc)
theorem Sat.objs {e w : World} {R : Hp} {L : List HP} {k r : Nat} {o : Obj} (S : Sat e w R L) (hk : L[k]? = some (WH.blk r o)) (o' : Obj) : Sat e (WH.objs w r o') R (L.set k (WH.blk r o')) := by
  have hb := S.blk hk
  have hlt : r < w.heap.size := (Array.getElem?_eq_some_iff.1 hb).1
  refine S.turn (w1 := WH.objs w r o') rfl rfl rfl hk (fun c _ hc => ?_) ?_
  · show (w.heap.setIfInBounds r o')[c]? = _
    rw [Array.getElem?_setIfInBounds_ne (Ne.symm hc)]
  · show (w.heap.setIfInBounds r o')[r]? = _
    simp [hlt]
def plainFn (P : Program) (g : FuncId) : Bool := match P.funcs[g]? with | some fn => !(fn.name == "runtime.NumGoroutine") && fn.body.isSome | none => false
theorem callFunc_run {P : Program} {g : FuncId} {args : Array Value} {w : World} (h : plainFn P g = true) : (callFunc g args).run P w = .ok (.enter g args) w := by
  unfold plainFn at h
  split at h
  · rename_i fn hf
    simp only [Bool.and_eq_true, Bool.not_eq_true'] at h
    obtain ⟨h1, h2⟩ := h
    have h3 : fn.body.isNone = false := by cases hb : fn.body <;> simp_all
    unfold callFunc
    simp only [Sem.run_bind, run_program, Result.andThen_ok, hf, h1, h3, Bool.false_eq_true, if_false, Sem.run_pure]
  · cases h
abbrev loopO (st : LoopState) (pd : Option Code) (f : FuncId) (tmps : Array Value) (ps : Array Tmp) (as_ body : Code) (r : Nat) : Obj := .loop { state := st, pending := pd, fn := f, tmps := tmps, params := ps, assign := as_, body := body, defers := r }
section
variable {P : Program} {f n : Nat} {Rr : Ending → World → Prop} {k : List Item} {e : World} {R : Hp} {a : Act} {w : World} {fs : List (Nat × Value)} {L : List HP}
/-- for .. := range g { .. } -/
theorem st_range {g : Operand} {ps : Array Tmp} {as_ body : Code} {gf : FuncId} {first cap : Array Value} {D : List Deferred} (H : St n e R a w fs L) (hg : evalF fs g = some (.func (.func gf) first cap)) (hp : plainFn P gf = true)
    (h : ∀ l r w1, Sat e w1 R (blk l (loopO .ready none f a.tmps ps as_ body r) :: blk r (.deferred (some [])) :: L) →
      Calls P gf ((first ++ #[.func (.yield l) #[] #[]]) ++ cap) w1 (Ret fun _ w2 => ∃ st pd R2 L2, st ≠ .busy ∧ Sat e w2 R2 (blk l (loopO st pd f a.tmps ps as_ body r) :: L2) ∧
        ∀ w3, Sat e w3 R2 L2 → WK P ⟨f, none, ⟨.collected r, #[]⟩ :: D⟩ Rr ((pd.map Item.code).toList ++ k) a w3)) :
    WK P ⟨f, none, D⟩ Rr (.code (.rangeFunc g ps as_ body) :: k) a w := by
  intro b cs hb hk hr
  obtain ⟨w1, hw1⟩ : ∃ w1, w1 = (w.alloc (.deferred (some []))).alloc (loopO .ready none f a.tmps ps as_ body w.heap.size) := ⟨_, rfl⟩
  have X1 : Sat e w1 R (blk (w.heap.size + 1) (loopO .ready none f a.tmps ps as_ body w.heap.size) :: blk w.heap.size (.deferred (some [])) :: L) := by
    have := (H.sat.alloc (.deferred (some []))).alloc (loopO .ready none f a.tmps ps as_ body w.heap.size)
    have h2 : (w.alloc (.deferred (some []))).heap.size = w.heap.size + 1 := Array.size_push _
    rw [h2] at this
    rw [hw1]
    exact this
  have he : (Instr.enterLoop b.fn (wd a D).tmps ps as_ body b.roundOf).run P w = .ok (w.heap.size + 1, [⟨.collected w.heap.size, #[]⟩]) w1 := by
    rw [hr, show b.fn = f from hb]
    unfold Instr.enterLoop
    simp only [Sem.run_bind, run_newObj_alloc, Result.andThen_ok, Sem.run_pure, hw1, wd]
    congr 1
    exact Prod.ext (Array.size_push _) rfl
  have hev : a.eval g = .func (.func gf) first cap := H.sl.eval hg
  have hres : (resolve (wd a D).eval (rangeCall g (w.heap.size + 1)) 0).run P w1 = .ok { target := .fn (.func gf) cap, args := first ++ #[.func (.yield (w.heap.size + 1)) #[] #[]] } w1 := by
    rw [wd_eval]
    unfold resolve
    simp only [rangeCall, hev, Deferred.ofValue, Sem.run_pure]
    simp [Act.eval]
  have hinv : (invoke (.fn (.func gf) cap) (first ++ #[.func (.yield (w.heap.size + 1)) #[] #[]])).run P w1 = .ok (.enter gf ((first ++ #[.func (.yield (w.heap.size + 1)) #[] #[]]) ++ cap)) w1 := by
    simp only [invoke]; exact callFunc_run hp
  have s1 := stepR_rangeFunc (P := P) (b := b) (a := wd a D) (k := k) (cs := cs) (w := w) he hres hinv
  obtain ⟨e2, w2, fr, ⟨v, rfl, st, pd, R2, L2, hst, X2, hcont⟩, hsteps, hfn, hleave⟩ := h _ _ _ X1 (b.atR { wd a D with defers := [⟨.collected w.heap.size, #[]⟩] ++ (wd a D).defers } (.inRangeFunc (w.heap.size + 1) :: k) :: cs)
  have s2 := step_leave_returned (c := b.atR { wd a D with defers := [⟨.collected w.heap.size, #[]⟩] ++ (wd a D).defers } (.inRangeFunc (w.heap.size + 1) :: k)) (cs := cs) hleave
  rw [finish_atR_inRangeFunc] at s2
  have hb2 : w2.heap[w.heap.size + 1]? = some (loopO st pd f a.tmps ps as_ body w.heap.size) := X2.blk (k := 0) rfl
  have hend : (Instr.endLoop (w.heap.size + 1)).run P w2 = .ok pd (objs w2 (w.heap.size + 1) (loopO .exhausted pd f a.tmps ps as_ body w.heap.size)) := by
    have hne : (st == LoopState.busy) = false := by cases st <;> first | rfl | exact absurd rfl hst
    simp [Instr.endLoop, Instr.getLoop, getObj_run hb2 rfl, setObj_run hb2 rfl, hst, loopO]
  have X3 := (X2.objs (k := 0) rfl (loopO .exhausted pd f a.tmps ps as_ body w.heap.size)).tail
  have hc := hcont _ X3 b cs hb hk hr
  have hw : { wd a D with defers := [⟨.collected w.heap.size, #[]⟩] ++ (wd a D).defers } = wd a (⟨.collected w.heap.size, #[]⟩ :: D) := by
    simp [wd, H.sl.defs]
  rw [hw] at hsteps s2 s1
  refine Fin.of_steps (.head s1 (Steps.trans hsteps (.head s2 (.one (stepR_endRangeFunc hend))))) ?_
  exact hc
/-- yield(..) : a round. -/
def setAll : List Nat → List Value → List (Nat × Value) → List (Nat × Value)
  | t :: ts, v :: vs, fs => setAll ts vs ((t, v) :: fs)
  | _, _, fs => fs
def tmpsAll : List Nat → List Value → Array Value → Array Value
  | t :: ts, v :: vs, tm => tmpsAll ts vs (tm.setIfInBounds t v)
  | _, _, tm => tm
theorem slots_all : ∀ (ts : List Nat) (vs : List Value) {tm : Array Value} {fs : List (Nat × Value)}, ts.all (Nat.blt · n) = true → Slots n ⟨tm, []⟩ fs → Slots n ⟨tmpsAll ts vs tm, []⟩ (setAll ts vs fs)
  | [], vs, tm, fs, _, S => by cases vs <;> exact S
  | t :: ts, [], tm, fs, _, S => S
  | t :: ts, v :: vs, tm, fs, h, S => by
    simp only [List.all_cons, Bool.and_eq_true] at h
    exact slots_all ts vs h.2 (S.put h.1 v)
theorem foldl_zip : ∀ (ts : List Nat) (vs : List Value) (tm : Array Value), (ts.zip vs).foldl (fun tm (p : Nat × Value) => tm.setIfInBounds p.1 p.2) tm = tmpsAll ts vs tm
  | [], vs, tm => by cases vs <;> rfl
  | t :: ts, [], tm => rfl
  | t :: ts, v :: vs, tm => by simp only [List.zip_cons_cons, List.foldl_cons, tmpsAll]; exact foldl_zip ts vs _
theorem yield_run {l : Nat} {ps : List Nat} {as_ body : Code} {tm : Array Value} {st : LoopState} {pd : Option Code} {r : Nat} {vs : List Value} {fn : FuncId} (hb : w.heap[l]? = some (loopO st pd fn tm ps.toArray as_ body r)) (hl : vs.length = ps.length) :
    (Instr.yield l vs.toArray).run P w = .ok (.round l fn (tmpsAll ps vs tm) as_ body) w := by
  unfold Instr.yield Instr.getLoop
  simp only [Sem.run_bind, getObj_run hb rfl, Result.andThen_ok, loopO, Sem.run_pure]
  rw [if_neg (by simp [hl])]
  simp only [Sem.run_bind, Sem.run_pure, Result.andThen_ok, List.zip_toArray, ← foldl_zip]
  simp
/-- What a round is to do: from the frame that the loop's function had, the parameters laid, the record ready. -/
theorem rounds_of {l : Nat} {as_ body : Code} {tm : Array Value} {q : Value → World → Prop} (h : WK P ⟨f, some l, []⟩ (Ret q) [.code as_, .beginRound, .code body] ⟨tm, []⟩ w) : Rounds P l f tm as_ body w q := by
  intro c cs
  obtain ⟨v, w', ⟨v', e1, hq⟩, hs⟩ := h { (default : Frame) with fn := f, kind := .normal, roundOf := some l } (c :: cs) rfl rfl rfl c cs rfl
  injection e1 with e1
  subst e1
  exact ⟨_, w', hq, hs⟩
theorem st_begin {l : Nat} {D : List Deferred} {kk : Nat} {pd : Option Code} {fn : FuncId} {tm : Array Value} {ps : Array Tmp} {as_ body : Code} {r : Nat} (H : St n e R a w fs L) (hk : L[kk]? = some (blk l (loopO .ready pd fn tm ps as_ body r)))
    (h : ∀ w', St n e R a w' fs (L.set kk (blk l (loopO .busy pd fn tm ps as_ body r))) → WK P ⟨f, some l, D⟩ Rr k a w') : WK P ⟨f, some l, D⟩ Rr (.beginRound :: k) a w := by
  have hb := H.sat.blk hk
  refine WK.begin_ (w' := objs w l (loopO .busy pd fn tm ps as_ body r)) ?_ (h _ ⟨H.sl, H.sat.objs hk _⟩)
  simp [Instr.beginRound, Instr.getLoop, getObj_run hb rfl, setObj_run hb rfl, loopO]
theorem endRound_run {l : Nat} {jump : Option Code} {st : LoopState} {pd : Option Code} {fn : FuncId} {tm : Array Value} {ps : Array Tmp} {as_ body : Code} {r : Nat} (hb : w.heap[l]? = some (loopO st pd fn tm ps as_ body r)) :
    (Instr.endRound l jump).run P w = .ok (.bool jump.isNone) (objs w l (loopO (if jump.isNone then .ready else .done) jump fn tm ps as_ body r)) := by
  simp [Instr.endRound, Instr.getLoop, getObj_run hb rfl, setObj_run hb rfl, loopO]
theorem st_rend {l : Nat} {D : List Deferred} {kk : Nat} {st : LoopState} {pd : Option Code} {fn : FuncId} {tm : Array Value} {ps : Array Tmp} {as_ body : Code} {r : Nat} {q : Value → World → Prop} (H : St n e R a w fs L) (hk : L[kk]? = some (blk l (loopO st pd fn tm ps as_ body r)))
    (h : ∀ w', Sat e w' R (L.set kk (blk l (loopO .ready none fn tm ps as_ body r))) → q (.bool true) w') : WK P ⟨f, some l, D⟩ (Ret q) [] a w :=
  WK.rend (endRound_run (H.sat.blk hk)) ⟨_, rfl, h _ (H.sat.objs hk _)⟩
theorem st_rret {l : Nat} {D : List Deferred} {kk : Nat} {st : LoopState} {pd : Option Code} {fn : FuncId} {tm : Array Value} {ps : Array Tmp} {as_ body : Code} {r : Nat} {q : Value → World → Prop} (H : St n e R a w fs L) (hk : L[kk]? = some (blk l (loopO st pd fn tm ps as_ body r)))
    (h : ∀ w', Sat e w' R (L.set kk (blk l (loopO .done (some .ret) fn tm ps as_ body r))) → q (.bool false) w') : WK P ⟨f, some l, D⟩ (Ret q) (.code .ret :: k) a w :=
  WK.rret (endRound_run (H.sat.blk hk)) ⟨_, rfl, h _ (H.sat.objs hk _)⟩
theorem st_rexit {l id : Nat} {D : List Deferred} {kk : Nat} {st : LoopState} {pd : Option Code} {fn : FuncId} {tm : Array Value} {ps : Array Tmp} {as_ body : Code} {r : Nat} {q : Value → World → Prop} (H : St n e R a w fs L) (hx : exitTo id k = none) (hk : L[kk]? = some (blk l (loopO st pd fn tm ps as_ body r)))
    (h : ∀ w', Sat e w' R (L.set kk (blk l (loopO .done (some (.exit id)) fn tm ps as_ body r))) → q (.bool false) w') : WK P ⟨f, some l, D⟩ (Ret q) (.code (.exit id) :: k) a w :=
  WK.rexit hx (endRound_run (H.sat.blk hk)) ⟨_, rfl, h _ (H.sat.objs hk _)⟩
theorem take_run {r : Nat} (hb : w.heap[r]? = some (.deferred (some []))) : (Instr.takeDeferred r).run P w = .ok [] (objs w r (.deferred none)) := by
  simp [Instr.takeDeferred, getObj_run hb rfl, setObj_run hb rfl]
def retV : List Value → Value
  | [v] => v
  | vs => .tuple vs.toArray
theorem results_of' {P : Program} {w : World} {fs : List (Nat × Value)} {n : Nat} {a : Act} (Sl : Slots n a fs) {fn : Func} {rs : List ResultVar} {vs : List Value} (hf : fn.results = rs.toArray) (h : RetV P w fs rs vs) :
    (results fn a.tmps).run P w = .ok (retV vs) w := by
  rw [results_of Sl hf h]
  rcases vs with _ | ⟨v, _ | ⟨v2, vs⟩⟩ <;> rfl
/-- The end of a function behind a range over a function. -/
theorem st_ret1 {q : Value → World → Prop} {fn : Func} {rs : List ResultVar} {vs : List Value} {kk r : Nat} {as_ : Array Value} (H : St n e R a w fs L) (hk : L[kk]? = some (blk r (.deferred (some [])))) (hf : P.funcs[f]? = some fn) (hr : fn.results = rs.toArray)
    (h : ∀ w', Sat e w' R (L.eraseIdx kk) → RetV P w' fs rs vs ∧ q (retV vs) w') : WK P ⟨f, none, [⟨.collected r, as_⟩]⟩ (Ret q) (.code .ret :: k) a w := by
  have X := ((H.sat.front kk hk).objs (k := 0) rfl (.deferred none)).tail
  obtain ⟨h1, h2⟩ := h _ X
  have hv := results_of' (P := P) H.sl hr h1
  exact WK.ret1 hf H.sl.defs (take_run (H.sat.blk hk)) hv ⟨_, rfl, h2⟩
theorem st_end1 {q : Value → World → Prop} {fn : Func} {rs : List ResultVar} {vs : List Value} {kk r : Nat} {as_ : Array Value} (H : St n e R a w fs L) (hk : L[kk]? = some (blk r (.deferred (some [])))) (hf : P.funcs[f]? = some fn) (hr : fn.results = rs.toArray)
    (h : ∀ w', Sat e w' R (L.eraseIdx kk) → RetV P w' fs rs vs ∧ q (retV vs) w') : WK P ⟨f, none, [⟨.collected r, as_⟩]⟩ (Ret q) [] a w := by
  have X := ((H.sat.front kk hk).objs (k := 0) rfl (.deferred none)).tail
  obtain ⟨h1, h2⟩ := h _ X
  have hv := results_of' (P := P) H.sl hr h1
  exact WK.end1 hf H.sl.defs (take_run (H.sat.blk hk)) hv ⟨_, rfl, h2⟩
/-- An operation that calls yield. -/
def ylF (P : Program) (ops : Array Oper) (fs : List (Nat × Value)) (i : Nat) : Option (Option Nat × Nat × List Value) :=
  match opF ops fs i with
  | some o => match o.op with
    | .call c => match c.callee with
      | .value x => match evalF fs x with
        | some (.func (.yield l) x y) => bif x.isEmpty && y.isEmpty then some (o.dst, l, (c.args.map (evalD fs)).toList) else none
        | _ => none
      | _ => none
    | _ => none
  | none => none
theorem op_yield {ops : Array Oper} {i d l : Nat} {vs : List Value} {q : Value → World → Prop} {K : Act → World → Prop} {Qx : Exit → Act → World → Prop} {ps : List Nat} {as_ body : Code} {tm : Array Value} {st : LoopState} {pd : Option Code} {r kk : Nat} {fn : FuncId} (H : St n e R a w fs L)
    (hl : ylF P ops fs i = some (some d, l, vs)) (hd : Nat.blt d n = true) (hk : L[kk]? = some (blk l (loopO st pd fn tm ps.toArray as_ body r))) (hlen : vs.length = ps.length)
    (hc : Rounds P l fn (tmpsAll ps vs tm) as_ body w q) (h : ∀ a' v w', q v w' → Slots n a' ((d, v) :: fs) → K a' w') : wpOp P ops Qx i K a w := by
  unfold ylF at hl
  split at hl
  · rename_i o ho
    split at hl
    · rename_i c hop
      split at hl
      · rename_i x hcal
        split at hl
        · rename_i l' x1 y1 hx
          cases hxy : (x1.isEmpty && y1.isEmpty) with
          | false => rw [hxy] at hl; cases hl
          | true =>
          rw [hxy] at hl
          simp only [Bool.and_eq_true, Array.isEmpty_iff] at hxy
          obtain ⟨rfl, rfl⟩ := hxy
          simp only [cond_true, Option.some.injEq, Prod.mk.injEq] at hl
          obtain ⟨hdst, rfl, rfl⟩ := hl
          obtain ⟨h1, h2, h3, _⟩ := opF_sound H.sl ho
          have hx' : WH.evalD fs x = .func (.yield l') #[] #[] := by simp [WH.evalD, hx]
          have hrun : (execOp a.eval o).run P w = .ok (.round l' fn (tmpsAll ps (c.args.map (WH.evalD fs)).toList tm) as_ body) w := by
            rw [h3]
            unfold execOp
            simp only [hop, resolve, hcal, hx', Deferred.ofValue, Sem.run_bind, Sem.run_pure, Result.andThen_ok, invoke]
            have := yield_run (P := P) (vs := (c.args.map (WH.evalD fs)).toList) (H.sat.blk hk) hlen
            rw [Array.toArray_toList] at this
            simpa only [List.nil_append, Array.empty_append, Array.append_empty] using this
          unfold wpOp
          simp only [h1, h2, if_true, hrun, upX]
          intro cc cs
          obtain ⟨v, w', hv, hs⟩ := hc cc cs
          exact ⟨v, w', h _ v w' hv (by rw [hdst]; exact H.sl.put hd v), hs⟩
        · cases hl
      · cases hl
    · cases hl
  · cases hl
end
theorem all_step {p : UInt8 → Bool} {bs : List UInt8} {j : Nat} (hj : j < bs.length) (h : (bs.take j).all p = true) (hp : p (bs.getD j 0) = true) : (bs.take (j + 1)).all p = true := by
  rw [List.take_add_one, List.all_append, h, List.getElem?_eq_getElem hj]
  simpa [List.getD_eq_getElem?_getD, List.getElem?_eq_getElem hj] using hp
theorem all_stop {p : UInt8 → Bool} {bs : List UInt8} {j : Nat} (hj : j < bs.length) (hp : p (bs.getD j 0) = false) : bs.all p = false := by
  rw [List.all_eq_false]
  refine ⟨bs[j], List.getElem_mem hj, ?_⟩
  rw [List.getD_eq_getElem?_getD, List.getElem?_eq_getElem hj] at hp
  simpa using hp
theorem byte0 {x : UInt8} (h : ¬ ((x.toNat : Int) > 0)) : (x == 0) = true := by
  have : x.toNat = 0 := by omega
  have : x = 0 := UInt8.toNat_inj.1 this
  simp [this]
theorem byte1 {x : UInt8} (h : (x.toNat : Int) > 0) : (x == 0) = false := by
  have : x ≠ 0 := by rintro rfl; simp at h
  simpa using this
/-- Are the bytes from a on, n of them, 0s? 0, or ErrForm. -/
def zeroE (bs : List UInt8) (a n : Nat) : Int := if ((bs.drop a).take n).all (· == 0) then 0 else 5
/-- The number of the first s bytes; the error. -/
def getV (bs : List UInt8) (s : Nat) : Int := if bs.length < s then 0 else (unbe (bs.take s) : Int)
def getE (bs : List UInt8) (s : Nat) : Int := if bs.length < s then 4 else 0
theorem strB_beq (xs ys : List UInt8) : ((strB xs).toList == (strB ys).toList) = (xs == ys) := by
  simp [strB, ByteArray.toList_eq]
theorem be_length' (s n : Nat) : (be s n).length = s := be_length s n
theorem RdB.sub0 {R : Hp} {c : Nat} {A : Option Addr} {bs : List UInt8} (r : RdB R A c bs) {h : Nat} (h2 : h ≤ bs.length) : RdB R (subA A c 0 1) (c - 0) (bs.take h) := by
  have := RdB.sub r (l := 0) (h := h) (by omega) h2
  simpa using this
theorem RdB.subE {R : Hp} {c : Nat} {A : Option Addr} {bs : List UInt8} (r : RdB R A c bs) {l : Nat} (h2 : l ≤ bs.length) : RdB R (subA A c l 1) (c - l) (bs.drop l) := by
  have := RdB.sub r (l := l) (h := bs.length) h2 (Nat.le_refl _)
  rwa [List.take_of_length_le (by simp)] at this
theorem getE_ok {bs : List UInt8} {s : Nat} (h : getE bs s = 0) : s ≤ bs.length := by
  unfold getE at h; split at h <;> omega
theorem unbe_append (xs ys : List UInt8) : unbe (xs ++ ys) = ys.foldl (fun a b => a * 256 + b.toNat) (unbe xs) := by simp [unbe]
theorem unbe_snoc (xs : List UInt8) (y : UInt8) : unbe (xs ++ [y]) = unbe xs * 256 + y.toNat := by simp [unbe]
theorem unbe_lt' : ∀ (bs : List UInt8) (a : Nat), bs.foldl (fun a b => a * 256 + b.toNat) a < (a + 1) * 256 ^ bs.length
  | [], a => by simp
  | y :: bs, a => by
    have h := unbe_lt' bs (a * 256 + y.toNat)
    have hy := y.toNat_lt
    have h2 : (a * 256 + y.toNat + 1) * 256 ^ bs.length ≤ ((a + 1) * 256) * 256 ^ bs.length := Nat.mul_le_mul_right _ (by omega)
    simp only [List.foldl_cons, List.length_cons, Nat.pow_succ]
    rw [Nat.mul_comm (256 ^ bs.length) 256, ← Nat.mul_assoc]
    omega
theorem unbe_lt (bs : List UInt8) : unbe bs < 256 ^ bs.length := by
  have := unbe_lt' bs 0
  simpa [unbe] using this
theorem getV_lt (bs : List UInt8) (s : Nat) : 0 ≤ getV bs s ∧ getV bs s < (256 ^ s : Nat) := by
  unfold getV
  split
  · have : 0 < 256 ^ s := Nat.pow_pos (by omega)
    omega
  · rename_i h
    have := unbe_lt (bs.take s)
    rw [List.length_take, Nat.min_eq_left (by omega)] at this
    omega
/-- What is left to tell, and the first error. -/
structure Rdr where
  left : List UInt8
  e : Int
def Rdr.fail (r : Rdr) (is : Bool) (k : Int) : Rdr := bif r.e == 0 then (bif is then ⟨r.left, k⟩ else r) else r
def Rdr.num (r : Rdr) (s : Nat) : Int × Rdr := bif r.e == 0 then (bif getE r.left s == 0 then (getV r.left s, ⟨r.left.drop s, r.e⟩) else (0, ⟨r.left, getE r.left s⟩)) else (0, r)
theorem Rdr.num_lt (r : Rdr) (s : Nat) : 0 ≤ (r.num s).1 ∧ (r.num s).1 < (256 ^ s : Nat) := by
  unfold Rdr.num
  have := getV_lt r.left s
  have h0 : 0 < 256 ^ s := Nat.pow_pos (by omega)
  cases r.e == 0 <;> cases getE r.left s == 0 <;> simp only [cond_true, cond_false] <;> omega
def Rdr.err (r : Rdr) : Int := bif r.e == 0 then (bif decide (((r.left.length : Nat) : Int) > 0) then 5 else r.e) else r.e
def padN (n : Int) : Nat := ((0 - n) % 4).toNat
def Rdr.bytes3 (r : Rdr) (n : Int) : List UInt8 × Rdr :=
  bif r.e == 0 then (r.left.take n.toNat, ⟨r.left.drop (n + (0 - n) % 4).toNat, r.e⟩) else ([], r)
def Rdr.bytes2 (r : Rdr) (n : Int) : List UInt8 × Rdr :=
  bif r.e == 0 then (r.fail (!(zeroE r.left n.toNat ((0 - n) % 4).toNat == 0)) 5).bytes3 n else ([], r)
def Rdr.bytes1 (r : Rdr) (n : Int) : List UInt8 × Rdr :=
  bif r.e == 0 then (r.fail (decide (((r.left.length : Nat) : Int) < n + (0 - n) % 4)) 4).bytes2 n else ([], r)
def Rdr.bytes (r : Rdr) (most : Int) : List UInt8 × Rdr :=
  ((r.num 4).2.fail (decide ((r.num 4).1 > max most 0)) 3).bytes1 (r.num 4).1
theorem Rdr.fail_ok {r : Rdr} {is : Bool} {k : Int} (h : ((r.fail is k).e == 0) = true) (hk : k ≠ 0 := by decide) : is = false ∧ r.fail is k = r := by
  unfold Rdr.fail at *
  cases h1 : r.e == 0 with
  | false => rw [h1] at h; simp only [cond_false] at h; rw [h1] at h; cases h
  | true =>
    rw [h1] at h
    cases is with
    | false => exact ⟨rfl, rfl⟩
    | true => simp only [cond_true, beq_iff_eq] at h; exact absurd h hk
/-- Bytes as they are laid. -/
def laid (ys : List UInt8) : List UInt8 := be 4 ys.length ++ ys ++ List.replicate ((0 - (ys.length : Int)) % 4).toNat 0
theorem laid_length (ys : List UInt8) : (laid ys).length ≤ ys.length + 8 := by
  simp only [laid, List.length_append, be_length, List.length_replicate]; omega
/-! ### Calls -/
structure CallS where
  client : Int
  inc : Int
  seq : Int
  kind : Int
  ino : Int
  gen : Int
  name : ByteArray
  toIno : Int
  toGen : Int
  toName : ByteArray
  off : Int
  size : Int
  data : List UInt8
structure CallS.Wf (c : CallS) : Prop where
  client : 0 ≤ c.client ∧ c.client ≤ 255
  inc : 0 ≤ c.inc ∧ c.inc ≤ 4294967295
  seq : 0 ≤ c.seq ∧ c.seq ≤ 18446744073709551615
  kind : 0 ≤ c.kind ∧ c.kind ≤ 255
  ino : 0 ≤ c.ino ∧ c.ino ≤ 4294967295
  gen : 0 ≤ c.gen ∧ c.gen ≤ 4294967295
  toIno : 0 ≤ c.toIno ∧ c.toIno ≤ 4294967295
  toGen : 0 ≤ c.toGen ∧ c.toGen ≤ 4294967295
  off : 0 ≤ c.off ∧ c.off ≤ 4294967295
  size : 0 ≤ c.size ∧ c.size ≤ 4294967295
def CallS.zero : CallS := ⟨0, 0, 0, 0, 0, 0, ByteArray.empty, 0, 0, ByteArray.empty, 0, 0, []⟩
def isText (k : Int) : Bool := bif k == 3 then true else bif k == 7 then true else bif k == 8 then true else bif k == 9 then true else k == 10
/-- What is laid of the fields that a kind has. -/
def fieldsB (c : CallS) : List UInt8 :=
  bif decide (c.kind < 1) then [] else bif decide (c.kind > 12) then [] else
  be 4 c.ino.toNat ++ (be 4 c.gen.toNat ++
    (bif c.kind == 2 then be 4 c.size.toNat else
     bif c.kind == 3 then laid (txt c.name) else bif c.kind == 7 then laid (txt c.name) else bif c.kind == 8 then laid (txt c.name) else bif c.kind == 9 then laid (txt c.name) else bif c.kind == 10 then laid (txt c.name) else
     bif c.kind == 4 then be 4 c.off.toNat ++ be 4 c.size.toNat else
     bif c.kind == 5 then be 4 c.off.toNat ++ laid c.data else
     bif c.kind == 11 then laid (txt c.name) ++ (be 4 c.toIno.toNat ++ (be 4 c.toGen.toNat ++ laid (txt c.toName))) else []))
def hasKind (c : CallS) : Bool := bif decide (c.kind < 1) then false else !decide (c.kind > 12)
def fieldsR2 (k : Int) (c : CallS) (r : Rdr) : CallS × Rdr :=
  bif k == 2 then ({ c with size := (r.num 4).1 }, (r.num 4).2) else
  bif k == 3 then ({ c with name := strB (r.bytes 4096).1 }, (r.bytes 4096).2) else
  bif k == 7 then ({ c with name := strB (r.bytes 4096).1 }, (r.bytes 4096).2) else
  bif k == 8 then ({ c with name := strB (r.bytes 4096).1 }, (r.bytes 4096).2) else
  bif k == 9 then ({ c with name := strB (r.bytes 4096).1 }, (r.bytes 4096).2) else
  bif k == 10 then ({ c with name := strB (r.bytes 4096).1 }, (r.bytes 4096).2) else
  bif k == 4 then ({ c with off := (r.num 4).1, size := ((r.num 4).2.num 4).1 }, ((r.num 4).2.num 4).2) else
  bif k == 5 then ({ c with off := (r.num 4).1, data := ((r.num 4).2.bytes 4096).1 }, ((r.num 4).2.bytes 4096).2) else
  bif k == 11 then
    ({ c with name := strB (r.bytes 4096).1, toIno := ((r.bytes 4096).2.num 4).1, toGen := (((r.bytes 4096).2.num 4).2.num 4).1, toName := strB ((((r.bytes 4096).2.num 4).2.num 4).2.bytes 4096).1 }, ((((r.bytes 4096).2.num 4).2.num 4).2.bytes 4096).2)
  else (c, r)
def fieldsR (c : CallS) (r : Rdr) : CallS × Rdr :=
  bif decide (c.kind < 1) then (c, r) else bif decide (c.kind > 12) then (c, r) else
  fieldsR2 c.kind { c with ino := (r.num 4).1, gen := ((r.num 4).2.num 4).1 } ((r.num 4).2.num 4).2
def bareB (c : CallS) : List UInt8 := be 4 c.client.toNat ++ be 4 c.inc.toNat ++ be 8 c.seq.toNat ++ be 4 c.kind.toNat ++ fieldsB c
def readP (bs : List UInt8) : CallS × Int × Int :=
  let r0 : Rdr := ⟨bs, 0⟩
  let r1 := (r0.num 4).2
  let r2 := (r1.num 4).2
  let r3 := (r2.num 8).2
  let r4 := (r3.num 4).2
  let c0 : CallS := ⟨(r0.num 4).1 % 256, (r1.num 4).1, (r2.num 8).1, 0, 0, 0, ByteArray.empty, 0, 0, ByteArray.empty, 0, 0, []⟩
  bif r4.e == 0 then
    let c1 : CallS := { c0 with kind := min (r3.num 4).1 255 }
    bif hasKind c1 then ((fieldsR c1 r4).1, (r0.num 4).1, (fieldsR c1 r4).2.err) else ((fieldsR c1 r4).1, (r0.num 4).1, 5)
  else (c0, (r0.num 4).1, r4.e)
theorem wU8m (x : Int) : Value.int .u8 (IntKind.u8.wrap x) = Value.int .u8 (x % 256) := by
  congr 1
theorem wU32m (x : Int) : Value.int .u32 (IntKind.u32.wrap x) = Value.int .u32 (x % 4294967296) := by
  congr 1
/-! ### Names -/
def namedR (r : Int) : Bool := bif decide (r ≥ 32) then (bif !(r == 127) then !(r == 47) else false) else false
/-- Every rune from a place on is one that a name may have (the model's own decoder). -/
def namedAll (s : ByteArray) : Nat → Nat → Bool
  | 0, _ => true
  | k + 1, pos => bif decide (pos < s.size) then
      (bif (bif (((Utf8.decode s pos).1 : Int) == 65533) then decide (((Utf8.decode s pos).2 : Int) < 2) else false) then false else bif namedR ((Utf8.decode s pos).1 : Int) then namedAll s k (pos + (Utf8.decode s pos).2) else false) else true
theorem namedAll_end (s : ByteArray) : ∀ (k p : Nat), s.size ≤ p → namedAll s k p = true
  | 0, _, _ => rfl
  | k + 1, p, h => by
    have : decide (p < s.size) = false := decide_eq_false (by omega)
    simp only [namedAll, this, cond_false]
def nameIs (s : ByteArray) : Bool :=
  bif s.toList == (⟨#[]⟩ : ByteArray).toList then false else bif decide (((s.size : Nat) : Int) > 32) then false else bif s.toList == (⟨#[46]⟩ : ByteArray).toList then false else bif s.toList == (⟨#[46, 46]⟩ : ByteArray).toList then false else namedAll s s.size 0
theorem nameIs_size {s : ByteArray} (h : nameIs s = true) : s.size ≤ 32 := by
  unfold nameIs at h
  cases h1 : (s.toList == (⟨#[]⟩ : ByteArray).toList) with
  | true => rw [h1] at h; cases h
  | false =>
    cases h2 : decide (((s.size : Nat) : Int) > 32) with
    | true => rw [h1, h2] at h; cases h
    | false => have := of_decide_eq_false h2; omega
def wholeP (c : CallS) : Bool :=
  bif c.kind == 2 then decide (c.size ≤ 4096) else
  bif c.kind == 3 then nameIs c.name else bif c.kind == 7 then nameIs c.name else bif c.kind == 8 then nameIs c.name else bif c.kind == 9 then nameIs c.name else bif c.kind == 10 then nameIs c.name else
  bif c.kind == 4 then (bif decide (c.off ≤ 4096) then decide (c.size ≤ 64) else false) else
  bif c.kind == 5 then (bif decide (c.off ≤ 4032) then (bif decide (((c.data.length : Nat) : Int) > 0) then decide (((c.data.length : Nat) : Int) ≤ 64) else false) else false) else
  bif c.kind == 11 then (bif nameIs c.name then nameIs c.toName else false) else true
theorem txt_length (s : ByteArray) : (txt s).length = s.size := Array.length_toList (xs := s.data)
theorem fieldsB_length (c : CallS) (hn : c.kind = 3 ∨ c.kind = 7 ∨ c.kind = 8 ∨ c.kind = 9 ∨ c.kind = 10 ∨ c.kind = 11 → c.name.size ≤ 1000000) (hn2 : c.kind = 11 → c.toName.size ≤ 1000000) (hy : c.kind = 5 → c.data.length ≤ 1000000) : (fieldsB c).length ≤ 3000000 := by
  have l1 := laid_length (txt c.name)
  have l2 := laid_length (txt c.toName)
  have l3 := laid_length c.data
  rw [txt_length] at l1 l2
  have ek : ∀ k : Int, (c.kind == k) = decide (c.kind = k) := fun k => rfl
  unfold fieldsB
  simp only [ek]
  by_cases h0 : c.kind < 1
  · simp [h0]
  by_cases h1 : c.kind > 12
  · simp [h0, h1]
  by_cases h2 : c.kind = 2
  · simp [h2, be_length]
  by_cases h3 : c.kind = 3
  · have := hn (.inl h3); simp [h3, be_length]; omega
  by_cases h7 : c.kind = 7
  · have := hn (.inr (.inl h7)); simp [h7, be_length]; omega
  by_cases h8 : c.kind = 8
  · have := hn (.inr (.inr (.inl h8))); simp [h8, be_length]; omega
  by_cases h9 : c.kind = 9
  · have := hn (.inr (.inr (.inr (.inl h9)))); simp [h9, be_length]; omega
  by_cases h10 : c.kind = 10
  · have := hn (.inr (.inr (.inr (.inr (.inl h10))))); simp [h10, be_length]; omega
  by_cases h4 : c.kind = 4
  · simp [h4, be_length]
  by_cases h5 : c.kind = 5
  · have := hy h5; simp [h5, be_length]; omega
  by_cases h11 : c.kind = 11
  · have := hn (.inr (.inr (.inr (.inr (.inr h11))))); have := hn2 h11; simp [h11, be_length]; omega
  simp [h0, h1, h2, h3, h7, h8, h9, h10, h4, h5, h11, be_length]
def changesP (n : Int) : Bool :=
  bif n == 2 then true else bif n == 5 then true else bif n == 6 then true else bif n == 7 then true else bif n == 8 then true else bif n == 9 then true else bif n == 10 then true else n == 11
def headEq (x y : CallS) : Bool :=
  (x.client == y.client) && ((x.inc == y.inc) && ((x.seq == y.seq) && ((x.kind == y.kind) && (((x.ino == y.ino) && ((x.gen == y.gen) && true)) && (((x.toIno == y.toIno) && ((x.toGen == y.toGen) && true)) && ((x.name.toList == y.name.toList) && ((x.toName.toList == y.toName.toList) && ((x.off == y.off) && ((x.size == y.size) && true)))))))))
def sameP (x y : CallS) : Bool := bif x.data == y.data then headEq x y else false
/-! ### Shifts, ranges over strings, tables, orders of bits -/
section
variable {P : Program} {ops : Array Oper} {Q : Act → World → Prop} {S : World → Prop} {n i : Nat} {e : World} {R : Hp} {a : Act} {w : World} {fs : List (Nat × Value)} {L : List HP}
def bn2F (ops : Array Oper) (fs : List (Nat × Value)) (i : Nat) : Option (Option Nat × BinOp × TypeId × Value × Value) :=
  match opF ops fs i with
  | some o => match o.op with
    | .binOp b t x y _ => match evalF fs x, evalF fs y with
      | some u, some v => some (o.dst, b, t, u, v)
      | _, _ => none
    | _ => none
  | none => none
theorem bn2F_sound {dst : Option Nat} {b : BinOp} {t : TypeId} {u v : Value} (h : bn2F ops fs i = some (dst, b, t, u, v)) :
    ∃ o x y, opF ops fs i = some o ∧ o.dst = dst ∧ execOp (WH.evalD fs) o = (do pure (.value (← (do eqGuard b t x y u v; binOp b t u v)))) := by
  unfold bn2F at h
  split at h
  · rename_i o ho
    split at h
    · rename_i b' t' x y ty hop
      split at h
      · rename_i u' v' hx hy
        simp only [Option.some.injEq, Prod.mk.injEq] at h
        obtain ⟨rfl, rfl, rfl, rfl, rfl⟩ := h
        refine ⟨o, x, y, ho, rfl, ?_⟩
        unfold execOp
        simp only [hop]
        simp [WH.evalD, hx, hy]
      · cases h
    · cases h
  · cases h
theorem val_shl {d t : Nat} {k yk : IntKind} {x y : Int} (j : Nat) (hl : bn2F ops fs i = some (some d, .shl, t, .int k x, .int yk y)) (hd : Nat.blt d n = true) (hy : y = (j : Int)) : IsVal P ops n fs i d (.int k (k.wrap (x * 2 ^ min j k.bits))) S := by
  obtain ⟨o, p, q, ho, hdst, hex⟩ := bn2F_sound hl
  refine ⟨o, ho, hdst, hd, fun w _ => ?_⟩
  rw [hex]
  subst hy
  simp [eqGuard, binOp, Op.shift, show ¬ ((j : Int) < 0) by omega]
theorem val_shr {d t : Nat} {k yk : IntKind} {x y : Int} (j : Nat) (hl : bn2F ops fs i = some (some d, .shr, t, .int k x, .int yk y)) (hd : Nat.blt d n = true) (hy : y = (j : Int)) : IsVal P ops n fs i d (.int k (x.fdiv (2 ^ min j k.bits))) S := by
  obtain ⟨o, p, q, ho, hdst, hex⟩ := bn2F_sound hl
  refine ⟨o, ho, hdst, hd, fun w _ => ?_⟩
  rw [hex]
  subst hy
  simp [eqGuard, binOp, Op.shift, show ¬ ((j : Int) < 0) by omega]
/-- next, of a string. -/
def nxF (ops : Array Oper) (fs : List (Nat × Value)) (i : Nat) : Option (Option Nat × Bool × Nat) :=
  match opF ops fs i with
  | some o => match o.op with
    | .next x s => match evalF fs x with
      | some (.pointer (some ⟨b, 0, none⟩)) => some (o.dst, s, b)
      | _ => none
    | _ => none
  | none => none
theorem nxF_sound {dst : Option Nat} {s : Bool} {b : Nat} (h : nxF ops fs i = some (dst, s, b)) : ∃ o, opF ops fs i = some o ∧ o.dst = dst ∧ execOp (WH.evalD fs) o = (do pure (.value (← Instr.next (.pointer (some ⟨b, 0, none⟩)) s o.type))) := by
  unfold nxF at h
  split at h
  · rename_i o ho
    split at h
    · rename_i x s' hop
      split at h
      · rename_i b' hx
        simp only [Option.some.injEq, Prod.mk.injEq] at h
        obtain ⟨rfl, rfl, rfl⟩ := h
        refine ⟨o, ho, rfl, ?_⟩
        unfold execOp
        simp only [hop]
        simp [WH.evalD, hx]
      · cases h
    · cases h
  · cases h
theorem op_nextS {d k b pos : Nat} {s : ByteArray} {K : Act → World → Prop} {Qx : Exit → Act → World → Prop} (H : St n e R a w fs L) (hk : L[k]? = some (blk b (.stringIter s pos))) (hl : nxF ops fs i = some (some d, true, b)) (hd : Nat.blt d n = true)
    (h1 : pos < s.size → ∀ a' w', St n e R a' w' ((d, .tuple #[.bool true, .int .i64 (pos : Int), .int .i32 ((Utf8.decode s pos).1 : Int)]) :: fs) (L.set k (blk b (.stringIter s (pos + (Utf8.decode s pos).2)))) → K a' w')
    (h2 : s.size ≤ pos → ∀ a', St n e R a' w ((d, .tuple #[.bool false]) :: fs) L → K a' w) : wpOp P ops Qx i K a w := by
  obtain ⟨o, ho, hdst, hex⟩ := nxF_sound hl
  obtain ⟨g1, g2, g3, _⟩ := opF_sound H.sl ho
  have hb := H.sat.blk hk
  by_cases hp : pos < s.size
  · refine wpOp_value g1 g2 (v := .tuple #[.bool true, .int .i64 (pos : Int), .int .i32 ((Utf8.decode s pos).1 : Int)]) (w' := objs w b (.stringIter s (pos + (Utf8.decode s pos).2))) ?_ ?_
    · rw [g3, hex]
      simp [Instr.next, getObj_run hb rfl, setObj_run hb rfl, hp, goInt]
    · rw [hdst]; exact h1 hp _ _ ⟨H.sl.put hd _, H.sat.objs hk _⟩
  · refine wpOp_value g1 g2 (v := .tuple #[.bool false]) (w' := w) ?_ ?_
    · rw [g3, hex]
      simp [Instr.next, getObj_run hb rfl, hp]
    · rw [hdst]; exact h2 (by omega) _ ⟨H.sl.put hd _, H.sat⟩
theorem op_newO {d : Nat} {vf : Nat → Value} {ob : Obj} {K : Act → World → Prop} {Qx : Exit → Act → World → Prop} (H : St n e R a w fs L) (hv : IsNew P ops n fs i d vf ob)
    (h : ∀ a' w' b, St n e R a' w' ((d, vf b) :: fs) (blk b ob :: L) → K a' w') : wpOp P ops Qx i K a w := op_new H hv h
/-- s[lo:] of a string. -/
theorem val_strFrom {d t j : Nat} {k : IntKind} {z : Int} {s : ByteArray} (hl : slF ops fs i = some (some d, t, .string s, some (.int k z), none, none)) (hd : Nat.blt d n = true) (ht : P.underlying t = some .string) (hz : z = (j : Int)) (hj : j ≤ s.size) : IsVal P ops n fs i d (.string (s.extract j s.size)) S := by
  obtain ⟨o, ho, hdst, hex⟩ := slF_sound hl
  refine ⟨o, ho, hdst, hd, fun w _ => ?_⟩
  rw [hex]
  subst hz
  have hr : (Instr.sliceAt t (.string s) (some (.int k (j : Int))) none none).run P w = .ok (.string (s.extract j s.size)) w := by
    unfold Instr.sliceAt
    simp only [Sem.run_bind, run_underlying ht, Result.andThen_ok]
    simp [Instr.slice, Instr.sliceBounds, run_underlying ht, sliceBound_run (P := P) (w := w) (k := k) hj]
  rw [Sem.run_bind, hr]
  rfl
end
theorem Sat.below {e w w' : World} {R : Hp} {L : List HP} (S : Sat e w R L) (h : RowKit.Below w.heap.size w w') : Sat e w' R L := S.same h.os h.tape h.output h.block
theorem unbe_cons (y : UInt8) (ys : List UInt8) : unbe (y :: ys) = y.toNat * 256 ^ ys.length + unbe ys := by
  have key : ∀ (zs : List UInt8) (a : Nat), zs.foldl (fun a b => a * 256 + b.toNat) a = a * 256 ^ zs.length + zs.foldl (fun a b => a * 256 + b.toNat) 0 := by
    intro zs
    induction zs with
    | nil => intro a; simp
    | cons z zs ih =>
      intro a
      simp only [List.foldl_cons, List.length_cons, Nat.pow_succ]
      rw [ih (a * 256 + z.toNat), ih (0 * 256 + z.toNat), Nat.add_mul, Nat.zero_mul, Nat.zero_add, Nat.mul_assoc, Nat.mul_comm 256 (256 ^ zs.length)]
      omega
  have := key ys y.toNat
  simpa [unbe] using this
theorem or_bytes (y : UInt8) (ys : List UInt8) (m : Nat) (hm : m = ys.length) (h : m ≤ 7) :
    Value.int .u64 (IntKind.u64.wrap (((BitVec.ofInt 64 (unbe ys : Int) ||| BitVec.ofInt 64 (IntKind.u64.wrap ((y.toNat : Int) * 2 ^ min (8 * m) IntKind.u64.bits))).toNat : Nat) : Int)) = Value.int .u64 (unbe (y :: ys) : Int) := by
  have hlt := unbe_lt ys
  have hy := y.toNat_lt
  have hp : (256 : Nat) ^ ys.length = 2 ^ (8 * m) := by rw [show (256 : Nat) = 2 ^ 8 from rfl, ← Nat.pow_mul, hm]
  rw [hp] at hlt
  have hle : 2 ^ (8 * m) ≤ 2 ^ 56 := Nat.pow_le_pow_right (by omega) (by omega)
  have h56 : (2 : Nat) ^ 56 * 256 = 18446744073709551616 := by decide
  have hmul : y.toNat * 2 ^ (8 * m) ≤ 255 * 2 ^ (8 * m) := Nat.mul_le_mul_right _ (by omega)
  have hbits : min (8 * m) IntKind.u64.bits = 8 * m := by
    have : IntKind.u64.bits = 64 := rfl
    omega
  have hb : (y.toNat : Int) * 2 ^ min (8 * m) IntKind.u64.bits = ((y.toNat * 2 ^ (8 * m) : Nat) : Int) := by
    rw [hbits]; simp
  have hw : ∀ N : Nat, N < 18446744073709551616 → IntKind.u64.wrap (N : Int) = (N : Int) := fun N hN => by
    have := wU64 (x := (N : Int)) (by omega) (by omega)
    injection this
  have hor : unbe ys ||| y.toNat * 2 ^ (8 * m) = y.toNat * 2 ^ (8 * m) + unbe ys := by
    rw [Nat.or_comm, ← Nat.shiftLeft_eq, ← Nat.shiftLeft_add_eq_or_of_lt hlt]
  have hz : ∀ N : Nat, N < 18446744073709551616 → (BitVec.ofInt 64 (N : Int)).toNat = N := fun N hN => by
    rw [BitVec.toNat_ofInt]; omega
  rw [hb, hw (y.toNat * 2 ^ (8 * m)) (by omega), BitVec.toNat_or, hz _ (by omega), hz _ (by omega), hor, hw _ (by omega), unbe_cons, hp]
theorem decode_pos (s : ByteArray) (i : Nat) : 1 ≤ (Utf8.decode s i).2 := by
  unfold Utf8.decode
  simp only []
  repeat' split
  all_goals simp
theorem set_self {α : Type} {L : List α} {k : Nat} {x : α} (h : L[k]? = some x) : L.set k x = L := by
  apply List.ext_getElem?
  intro j
  rw [List.getElem?_set]
  split
  · rename_i hj
    subst hj
    split
    · exact h.symm
    · rename_i hlt; rw [List.getElem?_eq_none (by omega)]
  · rfl
theorem Sat.cells_eq {e w : World} {R : Hp} {L : List HP} {k b : Nat} {cs cs' : Array Value} {T : TypeId} {fr : Nat × Nat} (S : Sat e w R L) (hk : L[k]? = some (WH.blk b (.cells cs T fr))) (h : cs = cs') : Sat e w R (L.set k (WH.blk b (.cells cs' T fr))) := by
  subst h; rw [set_self hk]; exact S
theorem Sat.res_eq {e w : World} {R : Hp} {L : List HP} {k : Nat} {A B : HP} (S : Sat e w R L) (hk : L[k]? = some A) (h : A = B) : Sat e w R (L.set k B) := by
  subst h; rw [set_self hk]; exact S
/-! ### Methods of values, called through an interface that holds a pointer -/
section
variable {P : Program} {ops : Array Oper} {Q : Act → World → Prop} {S : World → Prop} {n i : Nat} {e : World} {R : Hp} {a : Act} {w : World} {fs : List (Nat × Value)} {L : List HP}
def ivF (ops : Array Oper) (fs : List (Nat × Value)) (i : Nat) : Option (Option Nat × TypeId × Value × String × List Value) :=
  match opF ops fs i with
  | some o => match o.op with
    | .call c => match c.callee with
      | .invoke x name => match evalF fs x with
        | some (.iface t v) => some (o.dst, t, v, name, (c.args.map (WH.evalD fs)).toList)
        | _ => none
      | _ => none
    | _ => none
  | none => none
theorem ivF_sound {dst : Option Nat} {t : TypeId} {v : Value} {name : String} {args : List Value} (h : ivF ops fs i = some (dst, t, v, name, args)) :
    ∃ o, opF ops fs i = some o ∧ o.dst = dst ∧ execOp (WH.evalD fs) o = callMethod (.iface t v) name args.toArray := by
  unfold ivF at h
  split at h
  · rename_i o ho
    split at h
    · rename_i c hop
      split at h
      · rename_i x nm hc
        split at h
        · rename_i t' v' hx
          simp only [Option.some.injEq, Prod.mk.injEq] at h
          obtain ⟨rfl, rfl, rfl, rfl, rfl⟩ := h
          refine ⟨o, ho, rfl, ?_⟩
          have hx' : WH.evalD fs x = .iface t' v' := by simp [WH.evalD, hx]
          unfold execOp
          simp only [hop, resolve, hc, hx', pure_bind, invoke]
          have e1 : ((#[Value.iface t' v'] ++ Array.map (WH.evalD fs) c.args)[0]? : Option Value) = some (.iface t' v') := by
            rw [Array.getElem?_append_left (by simp)]; rfl
          have e2 : (#[Value.iface t' v'] ++ Array.map (WH.evalD fs) c.args).extract 1 (#[Value.iface t' v'] ++ Array.map (WH.evalD fs) c.args).size = Array.map (WH.evalD fs) c.args := by
            apply Array.ext'
            simp only [Array.toList_extract, Array.toList_append, Array.toList_map, List.extract_eq_take_drop]
            simp only [List.drop_one, List.cons_append, List.nil_append, List.tail_cons, Array.size_append, Array.size_map]
            rw [List.take_of_length_le (by simp)]
          rw [e1]
          simp only [e2, Array.toArray_toList]
        · cases h
      · cases h
    · cases h
  · cases h
/-- A method of a value, its receiver behind a pointer: which function, of which type. -/
def valM (P : Program) (t : TypeId) (name : String) : Option (FuncId × TypeId) :=
  match P.info? t with
  | some inf => match inf.methods.find? (·.name == name) with
    | some m => match m.path.toList, m.func with
      | [], some (f, false) => match P.underlying t with
        | some (.pointer e) => some (f, e)
        | _ => none
      | _, _ => none
    | none => none
  | none => none
theorem wrapchk {xt : TypeId} {p : Addr} {nm : String} : (Builtin.ssaWrapNilChk_ #[xt] xt #[.pointer (some p), strVal "", strVal nm]).run P w = .ok (.pointer (some p)) w := rfl
theorem method_run {t e : TypeId} {f b off : Nat} {cs : Array Value} {T : TypeId} {fr : Nat × Nat} {v : Value} {name : String} {k : Nat} (hm : valM P t name = some (f, e)) (hb : w.heap[b]? = some (.cells cs T fr)) (hv : loadF P e off cs = some v) :
    (method (k + 1) t (.pointer (some ⟨b, off, none⟩)) name).run P w = .ok (f, v) w := by
  unfold valM at hm
  split at hm
  · rename_i inf hi
    split at hm
    · rename_i m hf
      split at hm
      · rename_i g hp hg
        split at hm
        · rename_i el hu
          simp only [Option.some.injEq, Prod.mk.injEq] at hm
          obtain ⟨rfl, rfl⟩ := hm
          have hl := load_run (P := P) hb hv
          unfold Instr.loadAt Instr.sureAddr at hl
          rw [Sem.run_bind, Sem.run_pure, Result.andThen_ok] at hl
          unfold method
          simp only [typeInfo, hi, hf, Sem.run_bind, run_program, Result.andThen_ok, Sem.run_pure, hp, follow, hg, receiverAt, run_underlying hu, Place.get]
          have he : m.path.isEmpty = true := by
            rw [Array.isEmpty_iff]; exact Array.ext' (by simpa using hp)
          simp [he, wrapchk, asAddr, hl]
        · cases hm
      · cases hm
    · cases hm
  · cases hm
theorem op_invoke {d f b off : Nat} {t el : TypeId} {k : Nat} {cs : Array Value} {T : TypeId} {fr : Nat × Nat} {v : Value} {name : String} {args : List Value} {q : Value → World → Prop} {K : Act → World → Prop} {Qx : Exit → Act → World → Prop} (H : St n e R a w fs L)
    (hl : ivF ops fs i = some (some d, t, .pointer (some ⟨b, off, none⟩), name, args)) (hd : Nat.blt d n = true) (hm : valM P t name = some (f, el)) (hp : plainFn P f = true) (hk : L[k]? = some (blk b (.cells cs T fr))) (hv : loadF P el off cs = some v)
    (hc : Calls P f (v :: args).toArray w (Ret q)) (h : ∀ a' u w', q u w' → Slots n a' ((d, u) :: fs) → K a' w') : wpOp P ops Qx i K a w := by
  obtain ⟨o, ho, hdst, hex⟩ := ivF_sound hl
  obtain ⟨h1, h2, h3, _⟩ := opF_sound H.sl ho
  have hrun : (execOp a.eval o).run P w = .ok (.enter f (v :: args).toArray) w := by
    rw [h3, hex]
    unfold callMethod
    have hmr := method_run (P := P) (k := P.types.size + 99) hm (H.sat.blk hk) hv
    simp only [Sem.run_bind, run_program, Result.andThen_ok, show P.types.size + Made.depth = P.types.size + 99 + 1 from rfl, hmr]
    rw [callFunc_run hp]
    simp
  unfold wpOp
  simp only [h1, h2, if_true, hrun, upX]
  refine hc.mono (Ret.mono fun u w'' hu => ?_)
  exact h _ u w'' hu (by rw [hdst]; exact H.sl.put hd u)
end
/-! ### Slices of texts -/
abbrev RdS (R : Hp) (A : Option Addr) (c : Nat) (xs : List ByteArray) : Prop := Rd R 1 A xs.length c (xs.map Value.string)
theorem RdS.nil (R : Hp) : RdS R none 0 [] := Rd.nil R 1
theorem RdS.grow {R R' : Hp} {c : Nat} {A : Option Addr} {xs : List ByteArray} (h : R.Le R') (r : RdS R A c xs) : RdS R' A c xs := Rd.grow h r
theorem val_ldS {P : Program} {ops : Array Oper} {n i : Nat} {e : World} {R : Hp} {fs : List (Nat × Value)} {L : List HP} {d j cap : Nat} {t : TypeId} {A : Option Addr} {xs : List ByteArray} (r : RdS R A cap xs) (hl : ldFo ops fs i = some (some d, t, ptrA A j)) (hd : Nat.blt d n = true) (ht : plainT P t = true)
    (hj : j < xs.length) : IsVal P ops n fs i d (.string (xs.getD j ByteArray.empty)) (fun w => Sat e w R L) := by
  refine val_ldA r hl hd ht (u := .string (xs.getD j ByteArray.empty)) ?_
  rw [List.getElem?_map, List.getElem?_eq_getElem hj]
  simp [List.getD_eq_getElem?_getD, List.getElem?_eq_getElem hj]
/-- A row of one's own that is not empty, as a block. -/
theorem Sat.row_blk {e w : World} {R : Hp} {L : List HP} {el sz n : Nat} {v : Value} {xs : List Value} (S : Sat e w R (row el sz v n xs :: L)) (hn : 0 < n) : ∃ (g cap : Nat) (cur : Array Value), v = .slice (some ⟨g, 0, none⟩) n cap ∧ n ≤ cap ∧ cap ≤ maxLen ∧ (∀ (j : Nat) (u : Value), xs[j]? = some u → cur[j]? = some u) ∧ Sat e w R (WH.blk g (.cells cur el (0, 0)) :: L) := by
  obtain ⟨g, cap, cur, h1, h2, h3, h4, h5, h6, X⟩ := S.row_open hn
  refine ⟨g, cap, cur, h1, h2, h3, fun j u hj => ?_, X⟩
  rw [← h5, List.getElem?_take] at hj
  split at hj
  · rw [← Array.getElem?_toList]; exact hj
  · cases hj
end Go.WH
