/- What the program and the reference say of the parents of elements: the same. No condition. -/
import Derived.Test.YtbjakfnfjndccaaUCode
import Derived.Test.YtbjakfnfjndccaaUIn
import Derived.Test.YtbjakfnfjndccaaUTree
import Derived.Test.YtbjakfnfjndccaaT1
import Derived.Test.YtbjakfnfjndccaaT4
namespace Go.Proofs.Ytbjakfnfjndccaa.T
set_option linter.unusedVariables false
set_option linter.unusedSimpArgs false
open Go.RowKit Go.Proofs.Ytbjakfnfjndccaa Go.Proofs.YtbjakfnfjndccaaW.PrintWords Go.Proofs.YtbjakfnfjndccaaW.PrintLast
abbrev StE := S48
abbrev prE (p : List StE) (j : Int) : Int := (rd_T48 p j).f1
/-! parents and depths -/
def treeOkE (p : List StE) (n : Nat) : Prop := ∀ j : Nat, j < n → (j = 0 → prE p j = -1) ∧ (0 < j → 0 ≤ prE p j ∧ prE p j ≤ (j : Int) - 1)
theorem treeOk_ltE {p : List StE} {n : Nat} (h : treeOkE p n) {at' : Int} (h0 : 0 ≤ at') (h1 : at' < n) : -1 ≤ prE p at' ∧ prE p at' < at' := by
  obtain ⟨j, rfl⟩ := Int.eq_ofNat_of_zero_le h0
  obtain ⟨a, b⟩ := h j (by omega)
  by_cases hj : j = 0
  · have := a hj; omega
  · have := b (by omega); omega
def deepFE (p : List StE) : Nat → Int → Int
  | 0, _ => 0
  | f + 1, at' => if at' < 0 then 0 else deepFE p f (prE p at') + 1
def deepE (p : List StE) (at' : Int) : Int := deepFE p (at'.toNat + 1) at'
theorem deepF_moreE {p : List StE} {n : Nat} (h : treeOkE p n) : ∀ (f g : Nat) (at' : Int), -1 ≤ at' → at' < n → at' < f → at' < g → deepFE p f at' = deepFE p g at'
  | 0, 0, _, _, _, _, _ => rfl
  | 0, g + 1, at', h0, _, hf, _ => by rw [deepFE, deepFE, if_pos (by omega)]
  | f + 1, 0, at', h0, _, _, hg => by rw [deepFE, deepFE, if_pos (by omega)]
  | f + 1, g + 1, at', h0, h1, hf, hg => by
    rw [deepFE, deepFE]
    by_cases hn : at' < 0
    · rw [if_pos hn, if_pos hn]
    · rw [if_neg hn, if_neg hn]
      obtain ⟨a, b⟩ := treeOk_ltE h (by omega) h1
      rw [deepF_moreE h f g _ a (by omega) (by omega) (by omega)]
theorem deep_negE (p : List StE) : deepE p (-1) = 0 := rfl
theorem deep_atE {p : List StE} {n : Nat} (h : treeOkE p n) {i : Int} (h0 : 0 ≤ i) (hp : -1 ≤ prE p i ∧ prE p i < i) (hn : i ≤ n) : deepE p i = deepE p (prE p i) + 1 := by
  unfold deepE
  rw [deepFE, if_neg (by omega), deepF_moreE h i.toNat ((prE p i).toNat + 1) _ hp.1 (by omega) (by omega) (by omega)]
theorem deep_leE {p : List StE} {n : Nat} (h : treeOkE p n) : ∀ (m : Nat) (at' : Int), at'.toNat + 1 = m → -1 ≤ at' → at' < n → 0 ≤ deepE p at' ∧ deepE p at' ≤ at' + 1 := by
  intro m
  induction m using Nat.strongRecOn with
  | _ m ih =>
    intro at' hm h0 h1
    by_cases hn : at' < 0
    · obtain rfl : at' = -1 := by omega
      rw [deep_negE]; omega
    · obtain ⟨a, b⟩ := treeOk_ltE h (by omega) h1
      rw [deep_atE h (by omega) ⟨a, b⟩ (by omega)]
      by_cases h2 : prE p at' < 0
      · obtain h3 : prE p at' = -1 := by omega
        rw [h3, deep_negE]; omega
      · have := ih ((prE p at').toNat + 1) (by omega) _ rfl a (by omega)
        omega
theorem specDeep_evE {p : List StE} {n : Nat} (h : treeOkE p n) (hn : n ≤ p.length) (h24 : n ≤ 40) : ∀ (m : Nat) (at' : Int), at'.toNat + 1 = m → -1 ≤ at' → at' < n → ∀ c, 0 ≤ c → c + deepE p at' ≤ 50 → Ev (fun k => spec_l2Deep.l0 k p at' c) (c + deepE p at') := by
  intro m
  induction m using Nat.strongRecOn with
  | _ m ih =>
    intro at' hm h0 h1 c hc hd
    have hle := deep_leE h _ at' rfl h0 h1
    refine Ev.step (fun k => by rw [spec_l2Deep.l0]) ?_
    simp only [Pl.ev_ite, Pl.ev_none, Pl.ev_some]
    by_cases hn' : at' < 0
    · obtain rfl : at' = -1 := by omega
      rw [if_neg (by omega), deep_negE]; omega
    · obtain ⟨a, b⟩ := treeOk_ltE h (by omega) h1
      have e := deep_atE h (by omega) ⟨a, b⟩ (by omega)
      have hle2 := deep_leE h _ (prE p at') rfl a (by omega)
      rw [if_pos (by omega), if_pos (by omega), if_pos (by omega), if_pos (by omega), Pl.wrap_in (by omega) (by omega), e, show c + (deepE p (prE p at') + 1) = c + 1 + deepE p (prE p at') from by omega]
      by_cases h2 : prE p at' < 0
      · refine Ev.step (fun k => by rw [spec_l2Deep.l0]) ?_
        simp only [Pl.ev_ite, Pl.ev_none, Pl.ev_some]
        have h3 : prE p at' = -1 := by omega
        have h4 : (rd_T48 p at').f1 = -1 := h3
        have h5 : deepE p (prE p at') = 0 := by rw [h3, deep_negE]
        rw [h4, h5]
        simp
      · exact ih ((prE p at').toNat + 1) (by omega) _ rfl a (by omega) (c + 1) (by omega) (by omega)
/-- The parents and the depths of the first steps. -/
def plE (p : List StE) (i : Nat) : List Int := (List.range i).map fun (j : Nat) => prE p (j : Int)
def dlE (p : List StE) (i : Nat) : List Int := (List.range i).map fun (j : Nat) => deepE p (j : Int)
theorem pl_lenE (p : List StE) (i : Nat) : (plE p i).length = i := by simp [plE]
theorem dl_lenE (p : List StE) (i : Nat) : (dlE p i).length = i := by simp [dlE]
theorem pl_rdE (p : List StE) (i : Nat) (j : Int) (h0 : 0 ≤ j) (h : j < i) : rd (plE p i) j = prE p j := by
  obtain ⟨j, rfl⟩ := Int.eq_ofNat_of_zero_le h0
  rw [Pl.rd_get _ j (by rw [pl_lenE]; omega)]
  simp [plE]
theorem dl_rdE (p : List StE) (i : Nat) (j : Int) (h0 : 0 ≤ j) (h : j < i) : rd (dlE p i) j = deepE p j := by
  obtain ⟨j, rfl⟩ := Int.eq_ofNat_of_zero_le h0
  rw [Pl.rd_get _ j (by rw [dl_lenE]; omega)]
  simp [dlE]
theorem pl_succE (p : List StE) (i : Nat) : plE p i ++ [prE p (i : Int)] = plE p (i + 1) := by simp [plE, List.range_succ]
theorem dl_succE (p : List StE) (i : Nat) : dlE p i ++ [deepE p (i : Int)] = dlE p (i + 1) := by simp [dlE, List.range_succ]
/-- What the way up says. -/
theorem line_evE {p : List StE} {i : Nat} (hi : i < p.length) (h24 : p.length ≤ 40) (h : treeOkE p i) (hq0 : -1 ≤ prE p i) (hq1 : prE p i < i) : ∀ (m : Nat) (at' : Int), at'.toNat + 1 = m → -1 ≤ at' → at' < i →
    ∃ b : Bool, Ev (fun k => spec_l2Line.l0 k p i at') (b && decide (0 ≤ prE p i)) ∧ (at' < prE p i → b = false) ∧ Ev (fun k => impl_parents_next.l0 k (prE p i) at' (plE p i) (dlE p i)) (if b = true then (0, plE p (i + 1), dlE p (i + 1)) else (1, plE p i, dlE p i)) := by
  have hdeep := deep_atE (i := (i : Int)) h (by omega) ⟨hq0, hq1⟩ (by omega)
  have fin : Ev (fun k => impl_parents_next.l0 k (prE p i) (prE p i) (plE p i) (dlE p i)) (0, plE p (i + 1), dlE p (i + 1)) := by
    refine Ev.step (fun k => by rw [impl_parents_next.l0]) ?_
    simp only [Pl.ev_ite, Pl.ev_none, Pl.ev_some, Option.bind_some, pl_lenE, dl_lenE, List.length_singleton]
    rw [if_neg (by omega), if_pos trivial]
    by_cases hq : prE p i ≥ 0
    · rw [if_pos hq, if_pos (by omega), if_pos (by omega), if_pos (by omega), if_pos (by omega), dl_rdE p i _ (by omega) (by omega)]
      have hle := deep_leE h _ (prE p i) rfl hq0 (by omega)
      rw [Pl.wrap_in (by omega) (by omega), ← hdeep, pl_succE, dl_succE]
    · rw [if_neg hq, if_pos (by omega), if_pos (by omega)]
      have e : prE p i = -1 := by omega
      have e2 : deepE p (i : Int) = 1 := by rw [hdeep, e, deep_negE]; rfl
      rw [← pl_succE, ← dl_succE, e2]
  intro m
  induction m using Nat.strongRecOn with
  | _ m ih =>
    intro at' hm h0 h1
    by_cases hn : at' < 0
    · obtain rfl : at' = -1 := by omega
      by_cases hq : prE p i < 0
      · have e : prE p i = -1 := by omega
        refine ⟨true, ?_, fun h' => by omega, ?_⟩
        · refine Ev.step (fun k => by rw [spec_l2Line.l0]) ?_
          simp only [Pl.ev_ite, Pl.ev_none, Pl.ev_some]
          rw [if_neg (by omega)]
          simp; omega
        · rw [e] at fin ⊢
          simpa using fin
      · refine ⟨false, ?_, fun _ => rfl, ?_⟩
        · refine Ev.step (fun k => by rw [spec_l2Line.l0]) ?_
          simp only [Pl.ev_ite, Pl.ev_none, Pl.ev_some]
          rw [if_neg (by omega)]
          simp
        · refine Ev.step (fun k => by rw [impl_parents_next.l0]) ?_
          simp only [Pl.ev_ite, Pl.ev_none, Pl.ev_some]
          rw [if_neg (by omega), if_neg (by omega)]
          simp
    · obtain ⟨a, b⟩ := treeOk_ltE h (by omega) h1
      by_cases e : at' = prE p i
      · refine ⟨true, ?_, fun h' => by omega, ?_⟩
        · refine Ev.step (fun k => by rw [spec_l2Line.l0]) ?_
          simp only [Pl.ev_ite, Pl.ev_none, Pl.ev_some]
          rw [if_pos (by omega), if_pos (by omega), if_pos (by omega), if_pos e]
          simp; omega
        · rw [e]
          simpa using fin
      · have hs : ∀ r : Bool, Ev (fun k => spec_l2Line.l0 k p i (prE p at')) r → Ev (fun k => spec_l2Line.l0 k p i at') r := fun r hr => by
          refine Ev.step (fun k => by rw [spec_l2Line.l0]) ?_
          simp only [Pl.ev_ite, Pl.ev_none, Pl.ev_some]
          rw [if_pos (by omega), if_pos (by omega), if_pos (by omega), if_neg e, if_pos (by omega), if_pos (by omega)]
          exact hr
        have step : ∃ b : Bool, Ev (fun k => spec_l2Line.l0 k p i (prE p at')) (b && decide (0 ≤ prE p i)) ∧ (prE p at' < prE p i → b = false) ∧ Ev (fun k => impl_parents_next.l0 k (prE p i) (prE p at') (plE p i) (dlE p i)) (if b = true then (0, plE p (i + 1), dlE p (i + 1)) else (1, plE p i, dlE p i)) := by
          by_cases h2 : prE p at' < 0
          · have h3 : prE p at' = -1 := by omega
            rw [h3]
            by_cases hq : prE p i < 0
            · have e' : prE p i = -1 := by omega
              refine ⟨true, ?_, fun h' => by omega, ?_⟩
              · refine Ev.step (fun k => by rw [spec_l2Line.l0]) ?_
                simp only [Pl.ev_ite, Pl.ev_none, Pl.ev_some]
                rw [if_neg (by omega)]
                simp; omega
              · rw [e'] at fin ⊢
                simpa using fin
            · refine ⟨false, ?_, fun _ => rfl, ?_⟩
              · refine Ev.step (fun k => by rw [spec_l2Line.l0]) ?_
                simp only [Pl.ev_ite, Pl.ev_none, Pl.ev_some]
                rw [if_neg (by omega)]
                simp
              · refine Ev.step (fun k => by rw [impl_parents_next.l0]) ?_
                simp only [Pl.ev_ite, Pl.ev_none, Pl.ev_some]
                rw [if_neg (by omega), if_neg (by omega)]
                simp
          · exact ih ((prE p at').toNat + 1) (by omega) _ rfl a (by omega)
        obtain ⟨c, h1', h2', h3'⟩ := step
        by_cases hlt : at' < prE p i
        · have hc := h2' (by omega)
          subst hc
          refine ⟨false, hs _ h1', fun _ => rfl, ?_⟩
          refine Ev.step (fun k => by rw [impl_parents_next.l0]) ?_
          simp only [Pl.ev_ite, Pl.ev_none, Pl.ev_some]
          rw [if_neg (by omega), if_neg (by omega)]
          simp
        · refine ⟨c, hs _ h1', fun h' => absurd h' hlt, ?_⟩
          refine Ev.step (fun k => by rw [impl_parents_next.l0]) ?_
          simp only [Pl.ev_ite, Pl.ev_none, Pl.ev_some, pl_lenE]
          rw [if_pos (by omega), if_pos (by omega), if_pos (by omega), pl_rdE p i _ (by omega) (by omega)]
          exact h3'
def rangeOkE (p : List StE) (i : Nat) : Prop := (i = 0 → prE p i = -1) ∧ (0 < i → 0 ≤ prE p i ∧ prE p i ≤ (i : Int) - 1)
instance (p : List StE) (i : Nat) : Decidable (rangeOkE p i) := by unfold rangeOkE; infer_instance
/-- What the next parent comes to; and what the reference says of the way up. -/
theorem next_evE {p : List StE} {i : Nat} (hi : i < p.length) (h24 : p.length ≤ 40) (h : treeOkE p i) :
    (¬ rangeOkE p i ∧ Ev (fun k => impl_parents_next.f k (plE p i) (dlE p i) (prE p i)) (3, plE p i, dlE p i)) ∨
    (rangeOkE p i ∧ ∃ b : Bool, (0 < i → Ev (fun k => spec_l2Line.f k p i) b) ∧ (i = 0 → b = true) ∧ Ev (fun k => impl_parents_next.f k (plE p i) (dlE p i) (prE p i)) (if b = true then (0, plE p (i + 1), dlE p (i + 1)) else (1, plE p i, dlE p i))) := by
  have go : ∀ (bad : Bool) r, Ev (fun k => impl_parents_next.j0 k (prE p i) (i : Int) bad (plE p i) (dlE p i)) r → bad = decide (¬ rangeOkE p i) → Ev (fun k => impl_parents_next.f k (plE p i) (dlE p i) (prE p i)) r := by
    intro bad r hr hb
    unfold impl_parents_next.f
    simp only [Pl.ev_ite, Pl.ev_none, Pl.ev_some, pl_lenE, inRange_eq, Option.bind_some]
    unfold rangeOkE at hb
    by_cases h0 : i = 0
    · subst h0
      rw [if_pos (by omega)]
      by_cases hq : prE p ((0 : Nat) : Int) = -1
      · rw [if_pos hq, if_neg (by omega)]
        have : bad = false := by rw [hb]; simpa using hq
        subst this
        exact hr
      · rw [if_neg hq]
        have : bad = true := by rw [hb]; simpa using hq
        subst this
        exact hr
    · rw [if_neg (by omega), if_pos (by omega), Pl.wrap_in (by omega) (by omega)]
      have : bad = !decide (0 ≤ prE p i ∧ prE p i ≤ (i : Int) - 1) := by
        rw [hb, ← decide_not, decide_eq_decide]
        constructor
        · intro h' h''
          exact h' ⟨fun h' => absurd h' h0, fun _ => h''⟩
        · intro h' h''
          exact h' (h''.2 (by omega))
      rw [← this]
      exact hr
  by_cases hr : rangeOkE p i
  · right
    refine ⟨hr, ?_⟩
    have hq : -1 ≤ prE p i ∧ prE p i < i := by
      by_cases h0 : i = 0
      · have := hr.1 h0; omega
      · have := hr.2 (by omega); omega
    obtain ⟨b, b1, b2, b3⟩ := line_evE hi h24 h hq.1 hq.2 _ ((i : Int) - 1) rfl (by omega) (by omega)
    refine ⟨b, fun h0 => ?_, fun h0 => ?_, ?_⟩
    · unfold spec_l2Line.f
      rw [Pl.wrap_in (by omega) (by omega)]
      have := hr.2 h0
      have e : (b && decide (0 ≤ prE p i)) = b := by rw [decide_eq_true this.1, Bool.and_true]
      rwa [e] at b1
    · subst h0
      have hq := hr.1 rfl
      cases b
      · exfalso
        have f2 : Ev (fun k => impl_parents_next.l0 k (prE p ((0 : Nat) : Int)) (((0 : Nat) : Int) - 1) (plE p 0) (dlE p 0)) (0, [-1], [1]) := by
          refine Ev.step (fun k => by rw [impl_parents_next.l0]) ?_
          simp only [Pl.ev_ite, Pl.ev_none, Pl.ev_some, Option.bind_some, pl_lenE, dl_lenE, List.length_singleton]
          rw [hq]
          simp [plE, dlE]
        have := Pl.ev_unique f2 b3
        simp at this
      · rfl
    · refine go false _ ?_ (by simpa using hr)
      refine Ev.step (fun k => by rw [impl_parents_next.j0]) ?_
      simp only [Pl.ev_ite, Pl.ev_none, Pl.ev_some]
      rw [if_neg (by simp), Pl.wrap_in (by omega) (by omega)]
      exact b3
  · left
    refine ⟨hr, go true _ ?_ (by simpa using hr)⟩
    refine Ev.step (fun k => by rw [impl_parents_next.j0]) ?_
    simp only [Pl.ev_ite, Pl.ev_none, Pl.ev_some]
    simp
end Go.Proofs.Ytbjakfnfjndccaa.T
