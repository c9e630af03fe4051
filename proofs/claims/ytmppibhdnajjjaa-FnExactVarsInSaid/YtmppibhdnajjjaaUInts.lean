/- What the laws' own comparisons, marks and looks at whole numbers come to. No condition. -/
import Derived.Test.YtmppibhdnajjjaaXPure
import Derived.Test.YtmppibhdnajjjaaV6
import Derived.Test.YtmppibhdnajjjaaV7
import Derived.Test.YtmppibhdnajjjaaXMark
namespace Go.Proofs.Ytmppibhdnajjjaa.V
set_option linter.unusedVariables false
set_option linter.unusedSimpArgs false
open Go.RowKit Go.Proofs.Ytmppibhdnajjjaa Go.Proofs.YtmppibhdnajjjaaW.PrintWords Go.Proofs.YtmppibhdnajjjaaW.PrintLast
theorem eqInt64S_ev (l : List Int) (hl : l.length ≤ 1048576) : Ev (fun k => laws_eqInt64S.f k l l) true := by
  unfold laws_eqInt64S.f
  refine Pl.ev_ite_pos rfl ?_
  refine Pl.loop0 (n := l.length) (g := fun k i => laws_eqInt64S.l0 k l l i) (F := fun _ => true) ?_ (fun i hi ih => ?_) 0 (Nat.zero_le _)
  · refine Ev.step (fun k => by rw [laws_eqInt64S.l0]) ?_
    exact Pl.ev_ite_neg (by omega) (Ev.now _)
  · refine Ev.step (fun k => by rw [laws_eqInt64S.l0]) ?_
    rw [Pl.wrap_nat (show i < 9223372036854775807 by omega)]
    exact Pl.ev_ite_pos (by omega) (Pl.ev_ite_pos (by omega) (Pl.ev_ite_pos (by omega) (Pl.ev_ite_pos rfl ih)))
theorem eqInts_ev (c : Int) (l : List Int) (hl : l.length ≤ 1048576) : Ev (fun k => laws_eqIntsResult.f k c l c l) true := by
  unfold laws_eqIntsResult.f
  exact Pl.ev_ite_pos rfl (Pl.ev_bind' (eqInt64S_ev l hl) (Pl.ev_ite_pos rfl (Ev.now _)))
/-- The marks: one and on. -/
def marksL (n : Nat) : List Int := (List.range n).map fun (j : Nat) => (j : Int) + 1
theorem marksL_len (n : Nat) : (marksL n).length = n := by simp [marksL]
theorem markInts_ev (c : Int) (l : List Int) (hl : l.length ≤ 1048576) : Ev (fun k => laws_markIntsResult.f k c l 1) ((l.length : Int) + 1, marksL l.length) := by
  unfold laws_markIntsResult.f laws_markInt64S.f
  refine Pl.ev_bind' (a := ((l.length : Int) + 1, marksL l.length)) ?_ (Ev.now _)
  refine Pl.loop (σ := List Int × Int) (n := l.length) (g := fun k i s => laws_markInt64S.l0 k s.1 s.2 i) (F := fun _ _ => ((l.length : Int) + 1, marksL l.length)) (fun i s => s.1.length = l.length ∧ s.1.take i = marksL i ∧ s.2 = (i : Int) + 1) ?_ ?_ 0 (l, 1) (Nat.zero_le _) ⟨rfl, by simp [marksL], rfl⟩
  · rintro ⟨x0, x1⟩ ⟨h1, h2, h3⟩
    simp only at h1 h2 h3 ⊢
    refine Ev.step (fun k => by rw [laws_markInt64S.l0]) ?_
    refine Pl.ev_ite_neg (by omega) ?_
    rw [List.take_of_length_le (by omega)] at h2
    rw [h2, h3]
    exact Ev.now _
  · rintro i ⟨x0, x1⟩ hi ⟨h1, h2, h3⟩ ih
    simp only at h1 h2 h3 ih ⊢
    refine Ev.step (fun k => by rw [laws_markInt64S.l0]) ?_
    refine Pl.ev_ite_pos (by omega) (Pl.ev_ite_pos (by omega) ?_)
    rw [Pl.wrap_nat (show i < 9223372036854775807 by omega), Int.toNat_natCast]
    refine ih (x0.set i x1, wrap64 (x1 + 1)) ⟨by simp [h1], ?_, ?_⟩
    · simp only
      rw [List.take_add_one, List.take_set_of_le (Nat.le_refl _), h2, List.getElem?_set_self (by omega)]
      unfold marksL
      rw [List.range_succ, List.map_append, h3]
      rfl
    · simp only
      rw [h3, Pl.wrap_in (by omega) (by omega)]
      omega
theorem heldInts_ev (c : Int) (n : Nat) (hn : n ≤ 1048576) : Ev (fun k => laws_heldIntsResult.f k c (marksL n) 1) ((n : Int) + 1) := by
  unfold laws_heldIntsResult.f laws_heldInt64S.f
  refine Pl.ev_bind' (a := (n : Int) + 1) ?_ (Pl.ev_ite_neg (by omega) (Ev.now _))
  refine Pl.loop (σ := Int) (n := n) (g := fun k i s => laws_heldInt64S.l0 k (marksL n) s i) (F := fun _ _ => (n : Int) + 1) (fun i s => s = (i : Int) + 1) ?_ ?_ 0 1 (Nat.zero_le _) rfl
  · intro s hs
    refine Ev.step (fun k => by rw [laws_heldInt64S.l0]) ?_
    rw [marksL_len, hs]
    exact Pl.ev_ite_neg (by omega) (Ev.now _)
  · intro i s hi hs ih
    refine Ev.step (fun k => by rw [laws_heldInt64S.l0]) ?_
    rw [marksL_len, Pl.wrap_nat (show i < 9223372036854775807 by omega), hs]
    refine Pl.ev_ite_pos (by omega) (Pl.ev_ite_pos (by omega) (Pl.ev_ite_pos ?_ ?_))
    · rw [Pl.rd_get _ i (by rw [marksL_len]; exact hi)]
      simp [marksL]
    · rw [Pl.wrap_in (by omega) (by omega)]
      exact ih _ (by omega)
/-- What is behind a law's marks: all the same once more. -/
theorem ups_nat : ∀ (m : Nat) (k : Int), 0 ≤ k → k + m ≤ 9223372036854775807 → ups m k = k + m
  | 0, k, _, _ => by simp [ups]
  | m + 1, k, h0, h1 => by
    rw [ups, ups_nat m k h0 (by omega), Pl.wrap_in (by omega) (by omega)]
    omega
end Go.Proofs.Ytmppibhdnajjjaa.V
