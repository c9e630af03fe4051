/- What Go's library answers where the walks call it: a number's decimal digits. Condition: the library's table of powers of ten holds them. -/
import Derived.Test.YtmppibhdnajjjaaDoorXWords
import Derived.Test.YtmppibhdnajjjaaDoorXLaid
import Derived.Test.YtmppibhdnajjjaaDoorES
import Derived.Test.YtmppibhdnajjjaaDoorRows
import Derived.Lib.SmallJoins
import Derived.Lib.AppendIntMem
namespace Go.Proofs.YtmppibhdnajjjaaDoor.E
set_option linter.unusedVariables false
set_option linter.unusedSimpArgs false
open Go.RowKit Go.Proofs.YtmppibhdnajjjaaDoor Go.Proofs.YtmppibhdnajjjaaDoorW.PrintWords Go.Proofs.YtmppibhdnajjjaaDoorW.PrintLast
theorem gTab : Tryd.prog.globalNamed "internal/strconv.uint64pow10" = some 2 := by kernel_rfl
def ML (w : World) : Prop := Lib.TabIs Tryd.prog w "internal/strconv.uint64pow10" .u64 Lib.pow10Tab
theorem ML_below {w w' : World} (hM : ML w) (hB : Below w.heap.size w w') : ML w' := Joins.tab_stays gTab hM hB (Nat.le_refl _)
theorem ML_drew {w : World} (hM : ML w) : ML w.drew := hM
theorem ML_drewN {w : World} (hM : ML w) (n : Nat) : ML (w.drewN n) := hM
theorem ML_alloc {w : World} (hM : ML w) (o : Obj) : ML (w.alloc o) := ML_below hM (below_alloc (Below.refl _ _) o)
theorem ML_laid {d1 d2 : DataW Unit} {rest : List (String × DataW Unit)} {w : World} (h : laidMet Tryd.prog (("math/bits.deBruijn32tab", d1) :: ("math/bits.deBruijn64tab", d2) :: ("internal/strconv.uint64pow10", Rows.laid_internal_strconv_uint64pow10) :: rest) w) : ML w :=
  Lib.tabIs_of_head gTab (t := 188) (e := 154) (n := 20) (by kernel_rfl) Tryd.underlying188 Tryd.underlying154 (by kernel_rfl) (by kernel_rfl) (laid_tail (laid_tail h))
def strconv_FormatInt_90.f (a0 a1 : Int) : Option ByteArray := if a1 = 10 ∧ -9223372036854775808 ≤ a0 ∧ a0 ≤ 9223372036854775807 then some ⟨(Lib.itoa a0).toArray⟩ else none
theorem strconv_FormatInt_90.calls (a0 a1 : Int) (r : ByteArray) (w : World) (hM : ML w) (h : strconv_FormatInt_90.f a0 a1 = some r) :
    Calls Tryd.prog 90 #[.int .i64 a0, .int .i64 a1] w fun e w' => e = .returned (.string r) ∧ Below w.heap.size w w' := by
  unfold strconv_FormatInt_90.f at h
  by_cases hs : a1 = 10 ∧ -9223372036854775808 ≤ a0 ∧ a0 ≤ 9223372036854775807
  · rw [if_pos hs] at h
    obtain rfl := Option.some.inj h
    obtain ⟨rfl, h0, h1⟩ := hs
    refine (Any.strconv_FormatInt_10 Tryd.laysM173 a0 h0 h1 w hM).mono ?_
    rintro e w' ⟨rfl, k, os, rfl⟩
    exact ⟨rfl, Lib.below_grow _ w (Nat.le_refl _) k os⟩
  · rw [if_neg hs] at h; cases h
end Go.Proofs.YtmppibhdnajjjaaDoor.E
