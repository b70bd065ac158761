/- The tables of unicode/utf8. -/
import Derived.Test.YtldnpolfcickaaaDoorBase
import Derived.Shelf.Spec.BytesIndexFunc
import Derived.Test.YtldnpolfcickaaaDoorShelf
namespace Go.WH
open Go
/-- unicode/utf8's two tables are read. -/
structure Tabs (g3 g4 : Nat) (R : Hp) : Prop where
  first : ∃ cs T fr, R g3 = some (.cells cs T fr) ∧ ∀ c, c < 256 → cs[c]? = some (.int .u8 (Lib.firstT c))
  accept : ∃ cs T fr, R g4 = some (.cells cs T fr) ∧ ∀ i, i < 16 → cs[2 * i]? = some (.int .u8 (Lib.accLo i)) ∧ cs[2 * i + 1]? = some (.int .u8 (Lib.accHi i))
theorem Tabs.grow {g3 g4 : Nat} {R R' : Hp} (h : R.Le R') (t : Tabs g3 g4 R) : Tabs g3 g4 R' :=
  ⟨let ⟨cs, T, fr, a, b⟩ := t.first; ⟨cs, T, fr, h _ _ a, b⟩, let ⟨cs, T, fr, a, b⟩ := t.accept; ⟨cs, T, fr, h _ _ a, b⟩⟩
theorem Tabs.utf8 {g3 g4 : Nat} {e w : World} {R : Hp} {L : List HP} (t : Tabs g3 g4 R) (X : Sat e w R L) : Lib.Utf8Tabs g3 g4 w := by
  obtain ⟨⟨c3, T3, f3, h3, k3⟩, ⟨c4, T4, f4, h4, k4⟩⟩ := t
  refine ⟨fun c hc => ?_, fun i hi => ⟨?_, ?_⟩⟩
  · simp [World.cell?, X.rd h3, k3 c hc]
  · simp [World.cell?, X.rd h4, (k4 i hi).1]
  · simp [World.cell?, X.rd h4, (k4 i hi).2]
theorem decode_le4 (s : ByteArray) (i : Nat) : (Utf8.decode s i).2 ≤ 4 := by
  unfold Utf8.decode
  simp only []
  repeat' split
  all_goals simp
end Go.WH
