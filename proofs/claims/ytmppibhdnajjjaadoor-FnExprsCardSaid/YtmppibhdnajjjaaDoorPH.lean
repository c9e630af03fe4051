/- What Go's library answers where the walks call it: a number's digits, the number that digits are, the place of a byte; and the program's own small functions over these. Condition: the library's table of powers of ten holds them, and its two errors are not nil. -/
import Derived.Test.YtmppibhdnajjjaaDoorXWords
import Derived.Test.YtmppibhdnajjjaaDoorXLaid
import Derived.Test.YtmppibhdnajjjaaDoorPS
import Derived.Test.YtmppibhdnajjjaaDoorRows
import Derived.Lib.SmallJoins
import Derived.Lib.AppendIntMem
import Derived.Stop.LaidErr
import Derived.LaidEql
namespace Go.Proofs.YtmppibhdnajjjaaDoor.P
set_option linter.unusedVariables false
set_option linter.unusedSimpArgs false
open Go.RowKit Go.Proofs.YtmppibhdnajjjaaDoor Go.Proofs.YtmppibhdnajjjaaDoorW.PrintWords Go.Proofs.YtmppibhdnajjjaaDoorW.PrintLast
theorem gTab : Tryd.prog.globalNamed "internal/strconv.uint64pow10" = some 2 := by kernel_rfl
theorem gSyn : Tryd.prog.globalNamed "strconv.ErrSyntax" = some 3 := by kernel_rfl
theorem gRan : Tryd.prog.globalNamed "strconv.ErrRange" = some 4 := by kernel_rfl
/-- A variable holds an error that is not nil. -/
def ErrIs (w : World) (n : String) : Prop := ∃ tp p, w.var? Tryd.prog n = some #[.iface tp p]
theorem ErrIs_below {w w' : World} {n : String} {g : Nat} (hg : Tryd.prog.globalNamed n = some g) (h : ErrIs w n) (hB : Below w.heap.size w w') : ErrIs w' n := by
  obtain ⟨tp, p, h⟩ := h
  refine ⟨tp, p, ?_⟩
  have hc := World.var?_cell hg h 0
  have hlt := World.block_lt_of_cell? w _ hc
  unfold World.var? at h ⊢
  rw [hg, Option.bind_some] at h ⊢
  rw [hB.block g hlt]
  exact h
def ML (w : World) : Prop := Lib.TabIs Tryd.prog w "internal/strconv.uint64pow10" .u64 Lib.pow10Tab ∧ ErrIs w "strconv.ErrSyntax" ∧ ErrIs w "strconv.ErrRange"
theorem ML_below {w w' : World} (hM : ML w) (hB : Below w.heap.size w w') : ML w' := ⟨Joins.tab_stays gTab hM.1 hB (Nat.le_refl _), ErrIs_below gSyn hM.2.1 hB, ErrIs_below gRan hM.2.2 hB⟩
theorem ML_drew {w : World} (hM : ML w) : ML w.drew := hM
theorem ML_drewN {w : World} (hM : ML w) (n : Nat) : ML (w.drewN n) := hM
theorem ML_alloc {w : World} (hM : ML w) (o : Obj) : ML (w.alloc o) := ML_below hM (below_alloc (Below.refl _ _) o)
def impl_decimal.f (a0 : Int) : Option ByteArray := if -9223372036854775808 ≤ a0 ∧ a0 ≤ 9223372036854775807 then some ⟨(Lib.itoa a0).toArray⟩ else none
theorem impl_decimal.calls (a0 : Int) (r : ByteArray) (w : World) (hM : ML w) (h : impl_decimal.f a0 = some r) :
    Calls Tryd.prog 60 #[.int .i64 a0] w fun e w' => e = .returned (.string r) ∧ Below w.heap.size w w' := by
  unfold impl_decimal.f at h
  by_cases hs : -9223372036854775808 ≤ a0 ∧ a0 ≤ 9223372036854775807
  · rw [if_pos hs] at h
    obtain rfl := Option.some.inj h
    go_enter Tryd.func60, Tryd.ntmps60
    go_wp2_with (go_at_call 90; refine (Any.strconv_FormatInt_10 Tryd.laysM173 a0 hs.1 hs.2 w hM.1).mono ?_; rintro e w' ⟨rfl, k, os, rfl⟩)
    go_ret
    exact ⟨rfl, Lib.below_grow _ w (Nat.le_refl _) k os⟩
  · rw [if_neg hs] at h; cases h
/-- What the library makes of a text of digits: the number, or an error that is not nil. -/
theorem parseInt_calls (a0 : ByteArray) (hs : a0.size ≤ 281474976710656) (w : World) (hM : ML w) : ∃ (n : Int) (e : Value), (match Lib.parseIntB 64 a0.data.toList with | .ok v => n = v ∧ e = .nilIface | .syntax => n = 0 ∧ ∃ t p, e = .iface t p | .range => n = Lib.intSat 64 a0.data.toList ∧ ∃ t p, e = .iface t p) ∧
    Calls Tryd.prog 117 #[.string a0, .int .i64 10, .int .i64 64] w fun o w' => (∃ e', o = .returned (.tuple #[.int .i64 n, e']) ∧ (e = .nilIface → e' = .nilIface) ∧ (e ≠ .nilIface → ∃ t p, e' = .iface t p)) ∧ Below w.heap.size w w' := by
  obtain ⟨t1, p1, h1⟩ := hM.2.1
  obtain ⟨t2, p2, h2⟩ := hM.2.2
  cases hp : Lib.parseIntB 64 a0.data.toList with
  | ok v =>
    refine ⟨v, .nilIface, ⟨rfl, rfl⟩, (Any.strconv_ParseInt_10_at64_ok Tryd.laysC174 a0 (by omega) v hp w).mono ?_⟩
    rintro o w' ⟨rfl, hw⟩
    refine ⟨⟨_, rfl, fun _ => rfl, fun h => absurd rfl h⟩, ?_⟩
    rcases hw with rfl | ⟨t, rfl⟩
    · exact Below.refl _ _
    · exact Lib.bytesWorld_below w _ t
  | «syntax» =>
    refine ⟨0, .iface 0 .nilIface, ⟨rfl, _, _, rfl⟩, (Any.strconv_ParseInt_10_at64_syntax_var Tryd.laysC174 a0 hs hp t1 p1 w h1).mono ?_⟩
    rintro o w' ⟨N, rfl, _, _, hb⟩
    exact ⟨⟨_, rfl, fun h => (by cases h), fun _ => ⟨_, _, rfl⟩⟩, hb⟩
  | range =>
    refine ⟨_, .iface 0 .nilIface, ⟨rfl, _, _, rfl⟩, (Any.strconv_ParseInt_10_at64_range_var Tryd.laysC174 a0 hs hp t2 p2 w h2).mono ?_⟩
    rintro o w' ⟨N, rfl, _, _, hb⟩
    exact ⟨⟨_, rfl, fun h => (by cases h), fun _ => ⟨_, _, rfl⟩⟩, hb⟩
/-- A number that a text of at most so many digits is. -/
def impl_number.f (a0 : ByteArray) (a1 : Int) : Option (Int × Bool) :=
  if a0.size ≤ 281474976710656 then (match Lib.parseIntB 64 a0.data.toList with
    | .ok v => if -9223372036854775808 ≤ v ∧ v ≤ 9223372036854775807 then some (v, if 0 ≤ v then (if (⟨(Lib.itoa v).toArray⟩ : ByteArray).toList = a0.toList then decide ((a0.size : Int) ≤ a1) else false) else false) else none
    | .syntax => some (0, false)
    | .range => some (Lib.intSat 64 a0.data.toList, false))
  else none
theorem impl_number.calls (a0 : ByteArray) (a1 : Int) (r0 : Int) (r1 : Bool) (w : World) (hM : ML w) (h : impl_number.f a0 a1 = some (r0, r1)) :
    Calls Tryd.prog 106 #[.string a0, .int .i64 a1] w fun e w' => e = .returned (.tuple #[.int .i64 r0, .bool r1]) ∧ Below w.heap.size w w' := by
  unfold impl_number.f at h
  by_cases hs : a0.size ≤ 281474976710656
  · rw [if_pos hs] at h
    obtain ⟨n, er, hn, hc⟩ := parseInt_calls a0 hs w hM
    by_cases he : er = .nilIface
    · have hok : ∃ v, Lib.parseIntB 64 a0.data.toList = .ok v ∧ n = v := by
        cases hp : Lib.parseIntB 64 a0.data.toList with
        | ok v => rw [hp] at hn; exact ⟨v, rfl, hn.1⟩
        | «syntax» => rw [hp] at hn; obtain ⟨_, t, p, e⟩ := hn; rw [e] at he; cases he
        | range => rw [hp] at hn; obtain ⟨_, t, p, e⟩ := hn; rw [e] at he; cases he
      obtain ⟨v, hp, rfl⟩ := hok
      rw [hp] at h
      simp only at h
      by_cases hb : -9223372036854775808 ≤ n ∧ n ≤ 9223372036854775807
      · rw [if_pos hb] at h
        obtain ⟨rfl, rfl⟩ := Prod.mk.injEq .. ▸ Option.some.inj h
        by_cases h0 : 0 ≤ n
        · have dc := fun w1 hM1 => impl_decimal.calls n ⟨(Lib.itoa n).toArray⟩ w1 hM1 (by unfold impl_decimal.f; rw [if_pos hb])
          have g0 : decide (n ≥ 0) = true := decide_eq_true h0
          rw [if_pos h0]
          by_cases hq : (⟨(Lib.itoa n).toArray⟩ : ByteArray).toList = a0.toList
          · rw [if_pos hq]
            have q0 : ((⟨(Lib.itoa n).toArray⟩ : ByteArray).toList == a0.toList) = true := beq_iff_eq.2 hq
            go_enter Tryd.func106, Tryd.ntmps106
            go_wp2_with (first | (go_at_call 117; refine hc.mono ?_; rintro e w1 ⟨⟨e1, rfl, h1, _⟩, hb1⟩; obtain rfl := h1 he) | (go_at_call 60; refine (dc _ (ML_below hM hb1)).mono ?_; rintro e w2 ⟨rfl, hb2⟩))
            go_ret2
            exact ⟨rfl, below_step hb1 hb2⟩
          · rw [if_neg hq]
            have q0 : ((⟨(Lib.itoa n).toArray⟩ : ByteArray).toList == a0.toList) = false := beq_eq_false_iff_ne.2 hq
            have q1 : (Lib.itoa n == a0.toList) = false := by simpa using q0
            have q2 : ¬ Lib.itoa n = a0.toList := by simpa using hq
            go_enter Tryd.func106, Tryd.ntmps106
            go_wp2_with (first | (go_at_call 117; refine hc.mono ?_; rintro e w1 ⟨⟨e1, rfl, h1, _⟩, hb1⟩; obtain rfl := h1 he) | (go_at_call 60; refine (dc _ (ML_below hM hb1)).mono ?_; rintro e w2 ⟨rfl, hb2⟩))
            go_ret2
            exact ⟨rfl, below_step hb1 hb2⟩
        · have g0 : decide (n ≥ 0) = false := decide_eq_false h0
          rw [if_neg h0]
          go_enter Tryd.func106, Tryd.ntmps106
          go_wp2_with (go_at_call 117; refine hc.mono ?_; rintro e w1 ⟨⟨e1, rfl, h1, _⟩, hb1⟩; obtain rfl := h1 he)
          go_ret2
          exact ⟨rfl, hb1⟩
      · rw [if_neg hb] at h; cases h
    · have hno : r0 = n ∧ r1 = false := by
        cases hp : Lib.parseIntB 64 a0.data.toList with
        | ok v => rw [hp] at hn; exact absurd hn.2 he
        | «syntax» =>
          rw [hp] at hn h
          obtain ⟨rfl, rfl⟩ := Prod.mk.injEq .. ▸ Option.some.inj h
          exact ⟨hn.1.symm, rfl⟩
        | range =>
          rw [hp] at hn h
          obtain ⟨rfl, rfl⟩ := Prod.mk.injEq .. ▸ Option.some.inj h
          exact ⟨hn.1.symm, rfl⟩
      obtain ⟨rfl, rfl⟩ := hno
      go_enter Tryd.func106, Tryd.ntmps106
      go_wp2_with (go_at_call 117; refine hc.mono ?_; rintro e w1 ⟨⟨e1, rfl, _, h1⟩, hb1⟩; obtain ⟨t, p, rfl⟩ := h1 he)
      go_ret2
      exact ⟨rfl, hb1⟩
  · rw [if_neg hs] at h; cases h
def strings_IndexByte.f (a0 : ByteArray) (a1 : Int) : Option Int := some (Lib.indexByte a0.data.toList a1.toNat.toUInt8)
theorem strings_IndexByte.calls (a0 : ByteArray) (a1 : Int) (r : Int) (w : World) (h : strings_IndexByte.f a0 a1 = some r) :
    Calls Tryd.prog 78 #[.string a0, .int .u8 a1] w fun e w' => e = .returned (.int .i64 r) ∧ Drawn0 w w' := by
  obtain rfl := Option.some.inj h
  refine (Tryd.strings_IndexByte a0 a1 w).mono ?_
  rintro e w' ⟨rfl, rfl⟩
  exact ⟨rfl, Drawn0.refl _⟩
theorem star : "*" ++ "errors.errorString" = "*errors.errorString" := by decide
theorem rowErr (u : TypeId) (h : Tryd.prog.typeName? 3 u = some "*errors.errorString") : u = 200 :=
  typeName_ptr_named (nm := "errors.errorString") (by rw [star]; kernel_rfl) (by kernel_rfl) (by decide) u (by rw [star]; exact h)
theorem ErrIs_head {n : String} {g : Nat} {text : List UInt8} {r : List (String × DataW Unit)} {w : World} (hg : Tryd.prog.globalNamed n = some g) (ht : (Tryd.prog.globals[g]?).map (·.type) = some 105)
    (h : laidMet Tryd.prog ((n, .iface "*errors.errorString" (.ptr (.agg [.lit (.string text)]))) :: r) w) : ErrIs w n := by
  obtain ⟨a, s, hv, _⟩ := laid_sentinel h hg ht Tryd.underlying105 rowErr Tryd.underlying200 Tryd.underlying202 rfl rfl Tryd.underlying9 (by kernel_rfl) (by kernel_rfl)
  exact ⟨_, _, hv⟩
theorem ML_laid {d1 d2 : DataW Unit} {rest : List (String × DataW Unit)} {w : World} (h : laidMet Tryd.prog (("math/bits.deBruijn32tab", d1) :: ("math/bits.deBruijn64tab", d2) :: ("internal/strconv.uint64pow10", Rows.laid_internal_strconv_uint64pow10) :: ("strconv.ErrRange", Rows.laid_strconv_ErrRange) :: ("strconv.ErrSyntax", Rows.laid_strconv_ErrSyntax) :: rest) w) : ML w :=
  ⟨Lib.tabIs_of_head gTab (t := 188) (e := 154) (n := 20) (by kernel_rfl) Tryd.underlying188 Tryd.underlying154 (by kernel_rfl) (by kernel_rfl) (laid_tail (laid_tail h)),
    ErrIs_head gSyn (by kernel_rfl) (laid_tail (laid_tail (laid_tail (laid_tail h)))), ErrIs_head gRan (by kernel_rfl) (laid_tail (laid_tail (laid_tail h)))⟩
end Go.Proofs.YtmppibhdnajjjaaDoor.P
