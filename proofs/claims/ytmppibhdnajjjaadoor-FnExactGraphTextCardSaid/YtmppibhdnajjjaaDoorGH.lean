/- What Go's library answers where the walks call it: a number's decimal digits; the words of the program's table. Condition: the library's table of powers of ten and the program's table of words hold what their texts say. -/
import Derived.Test.YtmppibhdnajjjaaDoorXWords
import Derived.Test.YtmppibhdnajjjaaDoorXLaid
import Derived.Test.YtmppibhdnajjjaaDoorGS
import Derived.Test.YtmppibhdnajjjaaDoorRows
import Derived.Lib.SmallJoins
import Derived.Lib.AppendIntMem
namespace Go.Proofs.YtmppibhdnajjjaaDoor.G
set_option linter.unusedVariables false
set_option linter.unusedSimpArgs false
open Go.RowKit Go.Proofs.YtmppibhdnajjjaaDoor Go.Proofs.YtmppibhdnajjjaaDoorW.PrintWords Go.Proofs.YtmppibhdnajjjaaDoorW.PrintLast
theorem gTab : Tryd.prog.globalNamed "internal/strconv.uint64pow10" = some 2 := by kernel_rfl
theorem gWords : Tryd.prog.globalNamed "loop.example/g00343/impl.nodeWords" = some 0 := by kernel_rfl
def words : List (List UInt8) := [[115, 116, 97, 114, 116], [101, 110, 100], [116, 97, 115, 107], [119, 97, 105, 116], [116, 105, 109, 101, 114], [115, 101, 116], [115, 112, 108, 105, 116], [106, 111, 105, 110], [102, 111, 114, 107], [109, 101, 101, 116], [111, 112, 101, 110], [99, 108, 111, 115, 101], [109, 101, 114, 103, 101]]
/-- The table's cells. -/
def WT (w : World) : Prop := ∀ j, j < 13 → w.cell? ⟨0, j, none⟩ = some (.string ⟨(words.getD j []).toArray⟩)
theorem cells_of_words {P : Program} {w : World} {base : Nat} {sp : Nat → Bool} {held : Bool} {fuel : Nat} {t e : TypeId} {n : Nat} {cs : List Value} {ls : List (List UInt8)} {p : List MemPlace} {enc : TypeId × Value → Unit}
    (ht : P.underlying t = some (.array n e)) (he : P.underlying e = some .string) (hce : P.cellsOf e = 1) (hct : P.cellsOf t = n)
    (h : DataW.trod enc P w base sp held fuel t cs = some (.agg (ls.map fun l => .lit (.string l)), p)) : ∀ i, i < n → ∃ l, ls[i]? = some l ∧ cs[i]? = some (.string ⟨l.toArray⟩) := by
  cases fuel with
  | zero => simp [DataW.trod] at h
  | succ fuel =>
    simp only [DataW.trod, ht, hce, hct, Nat.mul_one] at h
    split at h
    · rename_i hl
      obtain ⟨xs, hm, hx⟩ := Option.map_eq_some_iff.1 h
      have hxs : xs.map (·.1) = ls.map fun l => (DataW.lit (.string l) : DataW Unit) := by
        have := congrArg Prod.fst hx
        simpa using this
      intro i hi
      obtain ⟨b, hb, hf⟩ := Lib.mapM_at hm i i (by simp [hi])
      have h2 : (xs.map (·.1))[i]? = some b.1 := by simp [hb]
      rw [hxs] at h2
      simp only [List.getElem?_map, Option.map_eq_some_iff] at h2
      obtain ⟨l, hl2, hb1⟩ := h2
      refine ⟨l, hl2, ?_⟩
      obtain ⟨s, hcs, hbe, _⟩ := DataW.trod_string he hf
      have hc0 : cs[i]? = ((cs.drop i).take 1)[0]? := by simp [List.getElem?_take, List.getElem?_drop]
      rw [hc0, hcs]
      rw [hbe] at hb1
      obtain rfl : l = s.data.toList := by simpa using hb1
      rfl
    · cases h
def ML (w : World) : Prop := Lib.TabIs Tryd.prog w "internal/strconv.uint64pow10" .u64 Lib.pow10Tab ∧ WT w
theorem ML_below {w w' : World} (hM : ML w) (hB : Below w.heap.size w w') : ML w' :=
  ⟨Joins.tab_stays gTab hM.1 hB (Nat.le_refl _), fun j hj => (hB.cell (World.block_lt_of_cell? w _ (hM.2 j hj))).trans (hM.2 j hj)⟩
theorem ML_drew {w : World} (hM : ML w) : ML w.drew := hM
theorem ML_drewN {w : World} (hM : ML w) (n : Nat) : ML (w.drewN n) := hM
theorem ML_alloc {w : World} (hM : ML w) (o : Obj) : ML (w.alloc o) := ML_below hM (below_alloc (Below.refl _ _) o)
theorem WT_of_head {d : DataW Unit} {rest : List (String × DataW Unit)} {w : World} (hd : d = .agg (words.map fun l => .lit (.string l))) (h : laidMet Tryd.prog (("loop.example/g00343/impl.nodeWords", d) :: rest) w) : WT w := by
  subst hd
  obtain ⟨ps, ⟨g', t', cs, fuel, p, q, hg', ht', hvar, hd, _, _⟩, _⟩ := h
  obtain rfl := Option.some.inj (gWords.symm.trans hg')
  have ht2 : (Tryd.prog.globals[0]?).map (·.type) = some 108 := by kernel_rfl
  obtain rfl := Option.some.inj (ht2.symm.trans ht')
  intro j hj
  obtain ⟨l, hl, hc⟩ := cells_of_words (n := 13) (e := 9) Tryd.underlying108 Tryd.underlying9 (by kernel_rfl) (by kernel_rfl) hd j hj
  rw [World.var?_cell gWords hvar j, List.getD_eq_getElem?_getD, hl]
  simpa using hc
theorem ML_laid {d1 d2 : DataW Unit} {rest : List (String × DataW Unit)} {w : World} (h : laidMet Tryd.prog (("math/bits.deBruijn32tab", d1) :: ("math/bits.deBruijn64tab", d2) :: ("internal/strconv.uint64pow10", Rows.laid_internal_strconv_uint64pow10) :: ("loop.example/g00343/impl.nodeWords", Rows.laid_loop_example_g00343_impl_nodeWords) :: rest) w) : ML w :=
  ⟨Lib.tabIs_of_head gTab (t := 188) (e := 154) (n := 20) (by kernel_rfl) Tryd.underlying188 Tryd.underlying154 (by kernel_rfl) (by kernel_rfl) (laid_tail (laid_tail h)), WT_of_head rfl (laid_tail (laid_tail (laid_tail h)))⟩
def strconv_FormatInt_90.f (a0 a1 : Int) : Option ByteArray := if a1 = 10 ∧ -9223372036854775808 ≤ a0 ∧ a0 ≤ 9223372036854775807 then some ⟨(Lib.itoa a0).toArray⟩ else none
theorem strconv_FormatInt_90.calls (a0 a1 : Int) (r : ByteArray) (w : World) (hM : ML w) (h : strconv_FormatInt_90.f a0 a1 = some r) :
    Calls Tryd.prog 90 #[.int .i64 a0, .int .i64 a1] w fun e w' => e = .returned (.string r) ∧ Below w.heap.size w w' := by
  unfold strconv_FormatInt_90.f at h
  by_cases hs : a1 = 10 ∧ -9223372036854775808 ≤ a0 ∧ a0 ≤ 9223372036854775807
  · rw [if_pos hs] at h
    obtain rfl := Option.some.inj h
    obtain ⟨rfl, h0, h1⟩ := hs
    refine (Any.strconv_FormatInt_10 Tryd.laysM173 a0 h0 h1 w hM.1).mono ?_
    rintro e w' ⟨rfl, k, os, rfl⟩
    exact ⟨rfl, Lib.below_grow _ w (Nat.le_refl _) k os⟩
  · rw [if_neg hs] at h; cases h
end Go.Proofs.YtmppibhdnajjjaaDoor.G
