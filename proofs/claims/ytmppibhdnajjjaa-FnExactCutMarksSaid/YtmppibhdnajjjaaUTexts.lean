/- What the laws' own comparisons, marks and looks at lists of texts come to. No condition. -/
import Derived.Test.YtmppibhdnajjjaaXPure
import Derived.Test.YtmppibhdnajjjaaC3
namespace Go.Proofs.Ytmppibhdnajjjaa.C
set_option linter.unusedVariables false
set_option linter.unusedSimpArgs false
open Go.RowKit Go.Proofs.Ytmppibhdnajjjaa Go.Proofs.YtmppibhdnajjjaaW.PrintWords Go.Proofs.YtmppibhdnajjjaaW.PrintLast
theorem eqStringS_ev (l : List ByteArray) (hl : l.length ≤ 1048576) : Ev (fun k => laws_eqStringS.f k l l) true := by
  unfold laws_eqStringS.f
  refine Pl.ev_ite_pos rfl ?_
  refine Pl.loop0 (n := l.length) (g := fun k i => laws_eqStringS.l0 k l l i) (F := fun _ => true) ?_ (fun i hi ih => ?_) 0 (Nat.zero_le _)
  · refine Ev.step (fun k => by rw [laws_eqStringS.l0]) ?_
    exact Pl.ev_ite_neg (by omega) (Ev.now _)
  · refine Ev.step (fun k => by rw [laws_eqStringS.l0]) ?_
    rw [Pl.wrap_nat (show i < 9223372036854775807 by omega)]
    exact Pl.ev_ite_pos (by omega) (Pl.ev_ite_pos (by omega) (Pl.ev_ite_pos (by omega) (Pl.ev_ite_pos rfl ih)))
theorem eqTexts_ev (c : Int) (l : List ByteArray) (hl : l.length ≤ 1048576) : Ev (fun k => laws_eqTextsResult.f k c l c l) true := by
  unfold laws_eqTextsResult.f
  exact Pl.ev_ite_pos rfl (Pl.ev_bind' (eqStringS_ev l hl) (Pl.ev_ite_pos rfl (Ev.now _)))
/-- A mark's text: what it is is no matter. -/
theorem markText_l : ∀ d x : Nat, x ≤ d → x ≤ 1000000000 → ∀ y : ByteArray, y.size + x ≤ 2000000000 → ∃ b, Ev (fun k => laws_markText.l0 k (x : Int) y) b := by
  intro d
  induction d with
  | zero =>
    intro x hx _ y hy
    refine ⟨_, Ev.step (fun k => by rw [laws_markText.l0]) (Pl.ev_ite_neg (by omega) (Pl.ev_ite_pos (by omega) (Ev.now _)))⟩
  | succ d ih =>
    intro x hx hm y hy
    by_cases h : x = 0
    · exact ⟨_, Ev.step (fun k => by rw [laws_markText.l0]) (Pl.ev_ite_neg (by omega) (Pl.ev_ite_pos (by omega) (Ev.now _)))⟩
    · have e : wrap64 (Int.tdiv (x : Int) 10) = ((x / 10 : Nat) : Int) := by
        rw [Int.tdiv_eq_ediv_of_nonneg (by omega), Pl.wrap_in (by omega) (by omega)]
        omega
      have sz : ∀ v : Int, (strOfNums [v]).size = 1 := fun v => strOfNums_size [v]
      obtain ⟨b, hb⟩ := ih (x / 10) (by omega) (by omega) (strOfNums [(wrap64 (48 + (Int.tmod x 10))) % 256] ++ y) (by rw [ByteArray.size_append, sz]; omega)
      refine ⟨b, Ev.step (fun k => by rw [laws_markText.l0]) (Pl.ev_ite_pos (by omega) ?_)⟩
      rw [e]
      simp only [Option.bind_some]
      exact Pl.ev_ite_pos (by rw [sz]; omega) hb
theorem markText_ev : ∃ F : Nat → ByteArray, ∀ x : Nat, x ≤ 1000000000 → Ev (fun k => laws_markText.f k (x : Int)) (F x) := by
  have h : ∀ x : Nat, ∃ b, x ≤ 1000000000 → Ev (fun k => laws_markText.f k (x : Int)) b := by
    intro x
    by_cases hx : x ≤ 1000000000
    · by_cases h0 : x = 0
      · refine ⟨(⟨#[109, 48]⟩ : ByteArray), fun _ => ?_⟩
        unfold laws_markText.f
        exact Pl.ev_ite_pos (by omega) (Ev.now _)
      · obtain ⟨b, hb⟩ := markText_l x x (Nat.le_refl _) hx (⟨#[]⟩ : ByteArray) (by show 0 + x ≤ _; omega)
        refine ⟨b, fun _ => ?_⟩
        unfold laws_markText.f
        exact Pl.ev_ite_neg (by omega) hb
    · exact ⟨ByteArray.empty, fun h => absurd h hx⟩
  exact ⟨fun x => (h x).choose, fun x => (h x).choose_spec⟩
noncomputable def mtext : Nat → ByteArray := markText_ev.choose
theorem mtext_ev (x : Nat) (hx : x ≤ 1000000000) : Ev (fun k => laws_markText.f k (x : Int)) (mtext x) := markText_ev.choose_spec x hx
/-- The marks of a list of texts: one and on. -/
noncomputable def marksT (n : Nat) : List ByteArray := (List.range n).map fun j => mtext (j + 1)
theorem marksT_len (n : Nat) : (marksT n).length = n := by simp [marksT]
theorem markStringS_ev (l : List ByteArray) (hl : l.length ≤ 1048576) : Ev (fun k => laws_markStringS.f k l 1) ((l.length : Int) + 1, marksT l.length) := by
  unfold laws_markStringS.f
  refine Pl.loop (σ := List ByteArray × Int) (n := l.length) (g := fun k i s => laws_markStringS.l0 k s.1 s.2 i) (F := fun _ _ => ((l.length : Int) + 1, marksT l.length)) (fun i s => s.1.length = l.length ∧ s.1.take i = marksT i ∧ s.2 = (i : Int) + 1) ?_ ?_ 0 (l, 1) (Nat.zero_le _) ⟨rfl, by simp [marksT], rfl⟩
  · rintro ⟨x0, x1⟩ ⟨h1, h2, h3⟩
    simp only at h1 h2 h3 ⊢
    refine Ev.step (fun k => by rw [laws_markStringS.l0]) ?_
    refine Pl.ev_ite_neg (by omega) ?_
    rw [List.take_of_length_le (by omega)] at h2
    rw [h2, h3]
    exact Ev.now _
  · rintro i ⟨x0, x1⟩ hi ⟨h1, h2, h3⟩ ih
    simp only at h1 h2 h3 ih ⊢
    refine Ev.step (fun k => by rw [laws_markStringS.l0]) ?_
    have hm := mtext_ev (i + 1) (by omega)
    have e : x1 = ((i + 1 : Nat) : Int) := by omega
    subst e
    refine Pl.ev_ite_pos (by omega) (Pl.ev_bind' hm (Pl.ev_ite_pos (by omega) ?_))
    rw [Pl.wrap_nat (show i < 9223372036854775807 by omega), Int.toNat_natCast]
    refine ih (x0.set i (mtext (i + 1)), wrap64 (((i + 1 : Nat) : Int) + 1)) ⟨by simp [h1], ?_, ?_⟩
    · simp only
      rw [List.take_add_one, List.take_set_of_le (Nat.le_refl _), h2, List.getElem?_set_self (by omega)]
      unfold marksT
      rw [List.range_succ, List.map_append]
      rfl
    · simp only
      rw [Pl.wrap_in (by omega) (by omega)]
theorem markTexts_ev (c : Int) (l : List ByteArray) (hl : l.length ≤ 1048576) : Ev (fun k => laws_markTextsResult.f k c l 1) ((l.length : Int) + 1, marksT l.length) := by
  unfold laws_markTextsResult.f
  exact Pl.ev_bind' (markStringS_ev l hl) (Ev.now _)
theorem heldTexts_ev (c : Int) (n : Nat) (hn : n ≤ 1048576) : Ev (fun k => laws_heldTextsResult.f k c (marksT n) 1) ((n : Int) + 1) := by
  unfold laws_heldTextsResult.f laws_heldStringS.f
  refine Pl.ev_bind' (a := (n : Int) + 1) ?_ (Pl.ev_ite_neg (by omega) (Ev.now _))
  refine Pl.loop (σ := Int) (n := n) (g := fun k i s => laws_heldStringS.l0 k (marksT n) s i) (F := fun _ _ => (n : Int) + 1) (fun i s => s = (i : Int) + 1) ?_ ?_ 0 1 (Nat.zero_le _) rfl
  · intro s hs
    refine Ev.step (fun k => by rw [laws_heldStringS.l0]) ?_
    rw [marksT_len, hs]
    exact Pl.ev_ite_neg (by omega) (Ev.now _)
  · intro i s hi hs ih
    refine Ev.step (fun k => by rw [laws_heldStringS.l0]) ?_
    have hm := mtext_ev (i + 1) (by omega)
    have e : s = ((i + 1 : Nat) : Int) := by omega
    subst e
    rw [marksT_len, Pl.wrap_nat (show i < 9223372036854775807 by omega)]
    refine Pl.ev_ite_pos (by omega) (Pl.ev_ite_pos (by omega) (Pl.ev_bind' hm (Pl.ev_ite_pos ?_ ?_)))
    · unfold rdOf
      rw [Pl.getD_get (by rw [marksT_len]; exact hi)]
      simp [marksT]
    · rw [Pl.wrap_in (by omega) (by omega)]
      exact ih _ (by omega)
end Go.Proofs.Ytmppibhdnajjjaa.C
