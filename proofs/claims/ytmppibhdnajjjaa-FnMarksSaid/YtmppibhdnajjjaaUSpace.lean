/- What the program and the reference say of blanks: both the same. No condition. -/
import Derived.Test.YtmppibhdnajjjaaXPure
import Derived.Test.YtmppibhdnajjjaaC5
namespace Go.Proofs.Ytmppibhdnajjjaa.C
set_option linter.unusedVariables false
set_option linter.unusedSimpArgs false
open Go.RowKit Go.Proofs.Ytmppibhdnajjjaa Go.Proofs.YtmppibhdnajjjaaW.PrintWords Go.Proofs.YtmppibhdnajjjaaW.PrintLast
theorem isBlank_eq (c : UInt8) : impl_isBlank.f (c.toNat : Int) = some (Pl.blankB c) := by
  unfold impl_isBlank.f Pl.blankB
  by_cases h : (c.toNat : Int) = 32
  · rw [if_pos h]; congr 1; rw [eq_comm, decide_eq_true_eq]; omega
  · rw [if_neg h]; congr 1; rw [Bool.eq_iff_iff, decide_eq_true_eq, beq_iff_eq]; omega
theorem areBlank_l {s : ByteArray} {l : List UInt8} (hl : s.data.toList = l) (hs : l.length < 9223372036854775807) : ∀ i, i ≤ l.length → Ev (fun k => impl_areAll__impl_isBlank.l0 k s (l.length : Int) (i : Int)) ((l.drop i).all Pl.blankB) := by
  have hz := Pl.size_l hl
  refine Pl.loop0 (g := fun k i => impl_areAll__impl_isBlank.l0 k s (l.length : Int) i) ?_ ?_
  · refine Ev.step (fun k => by rw [impl_areAll__impl_isBlank.l0]) ?_
    simp [Pl.ev_some]
  · intro i hi ih
    refine Ev.step (fun k => by rw [impl_areAll__impl_isBlank.l0]) ?_
    rw [Pl.drop_get hi]
    simp only [Pl.ev_ite, Pl.ev_some, Pl.ev_none, Pl.bt_l hl i hi, hz, isBlank_eq, Option.bind_some, Pl.wrap_nat (show i < 9223372036854775807 by omega), List.all_cons]
    rw [if_pos (by omega), if_pos (by omega), if_pos (by omega)]
    cases h : Pl.blankB l[i]
    · rfl
    · simpa [h] using ih
theorem specSpace_l {s : ByteArray} {l : List UInt8} (hl : s.data.toList = l) (hs : l.length < 9223372036854775807) : ∀ i, i ≤ l.length → Ev (fun k => spec_IsSpace.l0 k s (i : Int)) ((l.drop i).all Pl.blankB) := by
  have hz := Pl.size_l hl
  refine Pl.loop0 (g := fun k i => spec_IsSpace.l0 k s i) ?_ ?_
  · refine Ev.step (fun k => by rw [spec_IsSpace.l0]) ?_
    simp [Pl.ev_some, hz]
  · intro i hi ih
    refine Ev.step (fun k => by rw [spec_IsSpace.l0]) ?_
    rw [Pl.drop_get hi]
    simp only [Pl.ev_ite, Pl.ev_some, Pl.ev_none, Pl.bt_l hl i hi, hz, Pl.wrap_nat (show i < 9223372036854775807 by omega), List.all_cons]
    rw [if_pos (by omega), if_pos (by omega)]
    by_cases h : Pl.blankB l[i] = true
    · have h' := of_decide_eq_true h
      rw [h, Bool.true_and]
      by_cases h1 : ((l[i]).toNat : Int) = 32
      · rw [if_pos h1]; exact ih
      · rw [if_neg h1, if_pos (by omega)]; exact ih
    · have h' : ¬ ((l[i]).toNat = 32 ∨ (l[i]).toNat = 10) := fun e => h (decide_eq_true e)
      rw [Bool.not_eq_true] at h
      rw [if_neg (by omega), if_neg (by omega), h]
      rfl
theorem space_ev (s : ByteArray) (hs : s.size < 9223372036854775807) : ∃ b, Ev (fun k => spec_IsSpace.f k s) b ∧ Ev (fun k => impl_IsSpace.f k s) b := by
  have hl : s.data.toList.length < 9223372036854775807 := by rw [Pl.size_toList]; omega
  have h1 := specSpace_l (s := s) rfl hl 0 (Nat.zero_le _)
  have h2 := areBlank_l (s := s) rfl hl 0 (Nat.zero_le _)
  rw [Pl.size_toList] at h2
  refine ⟨(s.data.toList.drop 0).all Pl.blankB, ?_, ?_⟩
  · unfold spec_IsSpace.f
    exact h1
  · unfold impl_IsSpace.f impl_areAll__impl_isBlank.f
    exact Pl.ev_bind' h2 (Ev.now _)
end Go.Proofs.Ytmppibhdnajjjaa.C
