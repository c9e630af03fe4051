/- What Go's library answers where the walks call it: how many bits a number has; a row of numbers without what is told twice in turn. No condition. -/
import Derived.Test.YtmppibhdnajjjaaXWords
import Derived.Test.YtmppibhdnajjjaaVS
import Derived.Lib.OwnBridge
namespace Go.Proofs.Ytmppibhdnajjjaa.V
set_option linter.unusedVariables false
set_option linter.unusedSimpArgs false
open Go.RowKit Go.Proofs.Ytmppibhdnajjjaa Go.Proofs.YtmppibhdnajjjaaW.PrintWords Go.Proofs.YtmppibhdnajjjaaW.PrintLast
def bits_Len.f (a0 : Int) : Option Int := if 0 ≤ a0 ∧ a0 ≤ 18446744073709551615 then some ((Lib.bitLen a0.toNat : Nat) : Int) else none
theorem bits_Len.calls (a0 : Int) (r : Int) (w : World) (h : bits_Len.f a0 = some r) :
    Calls Try.prog 77 #[.int .u64 a0] w fun e w' => e = .returned (.int .i64 r) ∧ Drawn0 w w' := by
  unfold bits_Len.f at h
  by_cases hs : 0 ≤ a0 ∧ a0 ≤ 18446744073709551615
  · rw [if_pos hs] at h
    obtain rfl := Option.some.inj h
    refine (Try.bits_Len a0 w hs.1 hs.2).mono ?_
    rintro e w' ⟨rfl, rfl⟩
    exact ⟨rfl, Drawn0.refl _⟩
  · rw [if_neg hs] at h; cases h
theorem compact_len (l : List Int) : (Lib.compactUpTo l.toArray l.toArray.size).length ≤ l.length := by
  unfold Lib.compactUpTo
  rw [List.length_map]
  have := List.length_filter_le (Lib.keeps l.toArray) (List.range l.toArray.size)
  simpa using this
def slices_Compact_int64_int64.f (l0 : List Int) : Option (List Int) := if l0.length ≤ 9223372036854775807 then some (Lib.compactUpTo l0.toArray l0.toArray.size) else none
theorem slices_Compact_int64_int64.calls (P0_ : Nat → Prop) (u9000_ : Value) (l0 r : List Int) (w0 w : World) (hB : Below w0.heap.size w0 w) (ho0 : Kd.R (Kd.int .i64) 2 w w0.heap.size P0_ u9000_ l0) (h : slices_Compact_int64_int64.f l0 = some r) :
    Calls Try.prog 50 #[u9000_] w fun e w' => ∃ v1_ : Value, e = .returned v1_ ∧ Kd.R (Kd.int .i64) 2 w' w0.heap.size (fun k_ => (P0_ k_ ∨ w.heap.size ≤ k_)) v1_ r ∧ Below w0.heap.size w0 w' ∧ Kept w w' (fun k_ => P0_ k_) := by
  unfold slices_Compact_int64_int64.f at h
  by_cases hs : l0.length ≤ 9223372036854775807
  · rw [if_pos hs] at h
    obtain rfl := Option.some.inj h
    have hown := Kd.own_of_R (enc := Value.int .i64) (h1 := fun _ => rfl) ho0
    by_cases hn : u9000_ = .slice none 0 0
    · subst hn
      have hl : l0 = [] := by
        rcases hown.2 with ⟨_, h0⟩ | ⟨g, cap, cur, h0, _⟩
        · exact List.length_eq_zero_iff.1 h0
        · cases h0
      subst hl
      go_enter Try.func50, Try.ntmps50
      go_wp2
      go_ret
      exact ⟨_, rfl, Kd.R_nil _ _ _ _ _, hB, Kept.refl _ _⟩
    · obtain ⟨g, cap, rfl, hb, hg, hc, hm, _, hH⟩ := Lib.holds_of_ownsRow (enc := Value.int .i64) (zs := l0) hown hn
      have hle := compact_len l0
      have c := AnyE.slices_Compact Try.laysE43_f50 (Value.int .i64) (fun _ => rfl) (EqlAt.intD _ _ _) (NeqAt.intD _ _ _) (0 : Int) Try.zeroValue2 g 0 cap l0.toArray w hH (by simpa using hs) (by simpa using hc)
      refine c.mono ?_
      rintro e w' ⟨rfl, q, rfl⟩
      have hy : (Lib.compactUpTo l0.toArray l0.toArray.size ++ List.replicate (l0.toArray.size - (Lib.compactUpTo l0.toArray l0.toArray.size).length) (0 : Int)).length = l0.length := by
        rw [List.length_append, List.length_replicate]
        simp only [List.size_toArray] at hle ⊢
        omega
      have hu := Lib.ownsRow_putRow (enc := Value.int .i64) (q := q) hown hy hle
      rw [List.take_left] at hu
      refine ⟨_, rfl, Kd.R_of_own (enc := Value.int .i64) (h1 := fun _ => rfl) hu (fun k hk => .inl (ho0.1 k hk)), Lib.below_putRow hB hb, ?_, ?_⟩
      · simp [Sort.putRow, Sort.mapBlock, Sort.ahead]
      · intro k hk hne
        have : g ≠ k := fun e => hne (ho0.1 k (by rw [← e]; rfl))
        simp [Sort.putRow, Sort.mapBlock, Sort.ahead, Array.getElem?_modify, this]
  · rw [if_neg hs] at h; cases h
end Go.Proofs.Ytmppibhdnajjjaa.V
