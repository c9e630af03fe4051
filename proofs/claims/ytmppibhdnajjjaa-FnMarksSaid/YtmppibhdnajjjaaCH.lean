/- What Go's library answers where the walks call it: the place of a text, or of a byte, in a text. Condition: the cell of the library's variable MaxLen holds a number. -/
import Derived.Test.YtmppibhdnajjjaaXWords
import Derived.Test.YtmppibhdnajjjaaCS
namespace Go.Proofs.Ytmppibhdnajjjaa.C
set_option linter.unusedVariables false
set_option linter.unusedSimpArgs false
open Go.RowKit Go.Proofs.Ytmppibhdnajjjaa Go.Proofs.YtmppibhdnajjjaaW.PrintWords Go.Proofs.YtmppibhdnajjjaaW.PrintLast
def ML (w : World) : Prop := ∃ m : Int, w.cell? ⟨0, 0, none⟩ = some (.int .i64 m)
theorem ML_below {w w' : World} (hM : ML w) (hB : Below w.heap.size w w') : ML w' := by
  obtain ⟨m, h⟩ := hM
  exact ⟨m, (hB.cell (World.block_lt_of_cell? w _ h)).trans h⟩
theorem ML_drew {w : World} (hM : ML w) : ML w.drew := hM
theorem ML_drewN {w : World} (hM : ML w) (n : Nat) : ML (w.drewN n) := hM
theorem ML_alloc {w : World} (hM : ML w) (o : Obj) : ML (w.alloc o) := ML_below hM (below_alloc (Below.refl _ _) o)
theorem ML_shaped {w : World} (h : w.ShapedOpen Try.prog) : ML w := Try.laysM143.s1_3 w h
def strings_Index.f (a0 a1 : ByteArray) : Option Int := if a0.size < 4294967281 then some (Lib.index a0.data.toList a1.data.toList) else none
theorem strings_Index.calls (a0 a1 : ByteArray) (r : Int) (w : World) (hM : ML w) (h : strings_Index.f a0 a1 = some r) :
    Calls Try.prog 70 #[.string a0, .string a1] w fun e w' => e = .returned (.int .i64 r) ∧ Drawn0 w w' := by
  unfold strings_Index.f at h
  by_cases hs : a0.size < 4294967281
  · rw [if_pos hs] at h
    obtain rfl := Option.some.inj h
    obtain ⟨m, hm⟩ := hM
    refine (Any.strings_Index { Try.laysM143 with } a0 a1 m w hs hm).mono ?_
    rintro e w' ⟨rfl, rfl⟩
    exact ⟨rfl, Drawn0.refl _⟩
  · rw [if_neg hs] at h; cases h
def strings_IndexByte.f (a0 : ByteArray) (a1 : Int) : Option Int := some (Lib.indexByte a0.data.toList a1.toNat.toUInt8)
theorem strings_IndexByte.calls (a0 : ByteArray) (a1 : Int) (r : Int) (w : World) (h : strings_IndexByte.f a0 a1 = some r) :
    Calls Try.prog 35 #[.string a0, .int .u8 a1] w fun e w' => e = .returned (.int .i64 r) ∧ Drawn0 w w' := by
  obtain rfl := Option.some.inj h
  refine (Try.strings_IndexByte a0 a1 w).mono ?_
  rintro e w' ⟨rfl, rfl⟩
  exact ⟨rfl, Drawn0.refl _⟩
end Go.Proofs.Ytmppibhdnajjjaa.C
