/- FnExactStepsUnder: for every list of steps and every place the program's StepsUnder answers what the reference's answers, turns none of the steps, keeps nothing of them, and its answer owns its memory; no condition. -/
import Derived.Test.YtcpcenhpmcfmjaaUAll
import Derived.Test.YtcpcenhpmcfmjaaLSFnExactStepsUnder
import Derived.Test.YtcpcenhpmcfmjaaL20
namespace Go.Proofs.Ytcpcenhpmcfmjaa.L
set_option linter.unusedVariables false
set_option linter.unusedSimpArgs false
open Go.RowKit Go.Proofs.Ytcpcenhpmcfmjaa Go.Proofs.YtcpcenhpmcfmjaaW.PrintWords Go.Proofs.YtcpcenhpmcfmjaaW.PrintLast
/-- Whether a step is another one, or below it: by the way up. -/
def underC (p : List St) : Nat → Int → Int → Bool
  | 0, _, _ => false
  | f + 1, at', a => if at' > a then underC p f (pr p at') a else decide (at' = a)
theorem underC_more {p : List St} {n : Nat} (h : treeOk p n) (a : Int) (ha : 0 ≤ a) : ∀ (f g : Nat) (at' : Int), -1 ≤ at' → at' < n → at' < f → at' < g → 0 < f → 0 < g → underC p f at' a = underC p g at' a
  | 0, _, _, _, _, _, _, h0, _ => absurd h0 (by omega)
  | _ + 1, 0, _, _, _, _, _, _, h0 => absurd h0 (by omega)
  | f + 1, g + 1, at', h0, h1, hf, hg, _, _ => by
    rw [underC, underC]
    by_cases hn : at' > a
    · rw [if_pos hn, if_pos hn]
      obtain ⟨b, c⟩ := treeOk_lt h (by omega) h1
      exact underC_more h a ha f g _ b (by omega) (by omega) (by omega) (by omega) (by omega)
    · rw [if_neg hn, if_neg hn]
def under (p : List St) (at' a : Int) : Bool := underC p (at'.toNat + 1) at' a
theorem under_up {p : List St} {n : Nat} (h : treeOk p n) {a at' : Int} (ha : 0 ≤ a) (h1 : at' < n) (hn : at' > a) : under p at' a = under p (pr p at') a := by
  obtain ⟨b, c⟩ := treeOk_lt h (by omega) h1
  unfold under
  rw [underC, if_pos hn]
  exact underC_more h a ha _ _ _ b (by omega) (by omega) (by omega) (by omega) (by omega)
theorem under_at {p : List St} {a at' : Int} (hn : ¬ at' > a) : under p at' a = decide (at' = a) := by
  unfold under
  rw [underC, if_neg hn]
theorem implUnder_ev {p : List St} {n : Nat} (h : treeOk p n) (hn : n ≤ p.length) (a : Int) (ha : 0 ≤ a) : ∀ (m : Nat) (at' : Int), at'.toNat + 1 = m → -1 ≤ at' → at' < n → Ev (fun k => impl_isUnder.l0 k p at' a) (under p at' a) := by
  intro m
  induction m using Nat.strongRecOn with
  | _ m ih =>
    intro at' hm h0 h1
    refine Ev.step (fun k => by rw [impl_isUnder.l0]) ?_
    by_cases hq : at' > a
    · obtain ⟨b, c⟩ := treeOk_lt h (by omega) h1
      refine Pl.ev_ite_pos hq (Pl.ev_ite_pos (by omega) (Pl.ev_ite_pos (by omega) ?_))
      rw [under_up h ha h1 hq]
      by_cases h2 : pr p at' < 0
      · have h3 : pr p at' = -1 := by omega
        have h4 : (rd_T78 p at').f1 = -1 := h3
        rw [h3, h4]
        refine Ev.step (fun k => by rw [impl_isUnder.l0]) ?_
        rw [under_at (by omega)]
        refine Pl.ev_ite_neg (by omega) (Pl.ev_to (Ev.now _) ?_)
        rw [Bool.eq_iff_iff]
        simp
      · exact ih ((pr p at').toNat + 1) (by omega) (pr p at') rfl b (by omega)
    · rw [under_at hq]
      refine Pl.ev_ite_neg hq (Pl.ev_to (Ev.now _) ?_)
      rw [Bool.eq_iff_iff]
      simp
/-- Each step's parent is on the way up from the one ahead of it. -/
def lineOk (p : List St) (n : Nat) : Prop := ∀ i : Nat, 0 < i → i < n → under p ((i : Int) - 1) (pr p (i : Int)) = true
/-- On the way up from a step: what is up there has the rest of the way in common. -/
theorem under_trans {p : List St} {n : Nat} (h : treeOk p n) {a b : Int} (ha : 0 ≤ a) (hb : a ≤ b) : ∀ (m : Nat) (at' : Int), at'.toNat + 1 = m → -1 ≤ at' → at' < n → under p at' b = true → under p at' a = under p b a := by
  intro m
  induction m using Nat.strongRecOn with
  | _ m ih =>
    intro at' hm h0 h1 hu
    by_cases hq : at' > b
    · obtain ⟨c, d⟩ := treeOk_lt h (by omega) h1
      rw [under_up h (by omega) h1 hq] at hu
      rw [under_up h ha h1 (by omega)]
      exact ih ((pr p at').toNat + 1) (by
        by_cases h2 : pr p at' < 0
        · exfalso
          rw [under_at (by omega)] at hu
          have := of_decide_eq_true hu
          omega
        · omega) _ rfl c (by omega) hu
    · rw [under_at hq] at hu
      rw [of_decide_eq_true hu]
theorem deep_under {p : List St} {n : Nat} (h : treeOk p n) {a : Int} (ha : 0 ≤ a) : ∀ (m : Nat) (at' : Int), at'.toNat + 1 = m → -1 ≤ at' → at' < n → under p at' a = true → a ≤ at' ∧ (a < at' → deep p a < deep p at') := by
  intro m
  induction m using Nat.strongRecOn with
  | _ m ih =>
    intro at' hm h0 h1 hu
    by_cases hq : at' > a
    · obtain ⟨c, d⟩ := treeOk_lt h (by omega) h1
      rw [under_up h ha h1 hq] at hu
      have hc : 0 ≤ pr p at' := by
        by_cases h2 : pr p at' < 0
        · exfalso
          rw [under_at (by omega)] at hu
          have := of_decide_eq_true hu
          omega
        · omega
      obtain ⟨e, f⟩ := ih ((pr p at').toNat + 1) (by omega) _ rfl c (by omega) hu
      have g := deep_at h (by omega) ⟨c, d⟩ (by omega)
      refine ⟨by omega, fun _ => ?_⟩
      by_cases e' : a = pr p at'
      · rw [g, ← e']; omega
      · have := f (by omega)
        omega
    · rw [under_at hq] at hu
      have := of_decide_eq_true hu
      exact ⟨by omega, fun h' => by omega⟩
/-- Of two on the way up from a step, the deeper one is below the other. -/
theorem under_deep {p : List St} {n : Nat} (h : treeOk p n) {a b : Int} (ha : 0 ≤ a) (hb : 0 ≤ b) {at' : Int} (h0 : -1 ≤ at') (h1 : at' < n) (hua : under p at' a = true) (hub : under p at' b = true) (hd : deep p a ≤ deep p b) : under p b a = true := by
  by_cases hab : a ≤ b
  · rw [under_trans h ha hab _ at' rfl h0 h1 hub] at hua
    exact hua
  · exfalso
    have h2 := under_trans h hb (show b ≤ a by omega) _ at' rfl h0 h1 hua
    rw [hub] at h2
    obtain ⟨_, f⟩ := deep_under h hb _ a rfl (by omega) (by
      have := (deep_under h ha _ at' rfl h0 h1 hua).1
      omega) h2.symm
    have := f (by omega)
    omega
/-- What is under a step stands behind it in one piece: the next one is under it if it is deeper; and behind the first that isn't, none is. -/
theorem next_under {p : List St} {n : Nat} (h : treeOk p n) (hl : lineOk p n) {a : Int} (ha : 0 ≤ a) {i : Nat} (hi : a < (i : Int)) (hn : i < n) : (under p ((i : Int) - 1) a = true → (under p (i : Int) a = true ↔ deep p (i : Int) > deep p a)) ∧ (under p ((i : Int) - 1) a = false → under p (i : Int) a = false) := by
  have hln := hl i (by omega) hn
  obtain ⟨c, d⟩ := treeOk_lt h (at' := (i : Int)) (by omega) (by omega)
  have hq : 0 ≤ pr p (i : Int) := ((h i hn).2 (by omega)).1
  have hup := under_up h (at' := (i : Int)) ha (by omega) hi
  have g := deep_at h (i := (i : Int)) (by omega) ⟨c, d⟩ (by omega)
  refine ⟨fun hu => ⟨fun hi' => ?_, fun hd => ?_⟩, fun hu => ?_⟩
  · exact (deep_under h ha _ (i : Int) rfl (by omega) (by omega) hi').2 hi
  · rw [hup]
    exact under_deep h ha hq (by omega) (by omega) hu hln (by omega)
  · rw [hup]
    by_cases hpa : a ≤ pr p (i : Int)
    · rw [← under_trans h ha hpa _ ((i : Int) - 1) rfl (by omega) (by omega) hln]
      exact hu
    · rw [under_at (by omega)]
      exact decide_eq_false (by omega)
/-- The places under a step, from it on up to one. -/
def undersC (p : List St) (a : Int) (n : Nat) : List Int := ((List.range n).filter fun (j : Nat) => decide (a ≤ (j : Int)) && under p (j : Int) a).map fun (j : Nat) => (j : Int)
theorem undersC_len (p : List St) (a : Int) (n : Nat) : (undersC p a n).length ≤ n := by
  unfold undersC
  rw [List.length_map]
  have := List.length_filter_le (fun (j : Nat) => decide (a ≤ (j : Int)) && under p (j : Int) a) (List.range n)
  simpa using this
theorem undersC_succ (p : List St) (a : Int) (n : Nat) (h : a ≤ (n : Int)) : undersC p a (n + 1) = undersC p a n ++ (if under p (n : Int) a = true then [(n : Int)] else []) := by
  unfold undersC
  rw [List.range_succ, List.filter_append, List.map_append]
  congr 1
  by_cases hu : under p (n : Int) a = true
  · simp [hu, h]
  · simp [hu]
theorem undersC_0 (p : List St) (a : Nat) : undersC p (a : Int) a = [] := by
  unfold undersC
  rw [List.map_eq_nil_iff, List.filter_eq_nil_iff]
  intro j hj
  have := List.mem_range.1 hj
  simp
  omega
theorem undersC_flat (p : List St) (a : Int) (i : Nat) (ha : a ≤ (i : Int)) : ∀ d, (∀ j : Nat, i ≤ j → j < i + d → under p (j : Int) a = false) → undersC p a (i + d) = undersC p a i
  | 0, _ => rfl
  | d + 1, h => by
    rw [show i + (d + 1) = i + d + 1 from rfl, undersC_succ p a (i + d) (by omega), undersC_flat p a i ha d (fun j h1 h2 => h j h1 (by omega)), if_neg (by rw [h (i + d) (by omega) (by omega)]; simp), List.append_nil]
theorem unders_impl {p : List St} (h : treeOk p p.length) (h24 : p.length ≤ 24) (a : Nat) (ha : a < p.length) : Ev (fun k => impl_under.f k p (a : Int)) (undersC p (a : Int) p.length) := by
  unfold impl_under.f
  have main := Pl.loop (σ := List Int) (n := p.length) (g := fun k i s => impl_under.l0 k p (a : Int) s i) (F := fun _ _ => undersC p (a : Int) p.length) (fun i s => s = undersC p (a : Int) i ∧ a ≤ i) ?_ ?_ a [] (by omega) ⟨(undersC_0 p a).symm, Nat.le_refl _⟩
  · exact main
  · rintro s ⟨hs, _⟩
    refine Ev.step (fun k => by rw [impl_under.l0]) ?_
    rw [hs]
    exact Pl.ev_ite_neg (by omega) (Ev.now _)
  · rintro i s hi ⟨hs, hai⟩ ih
    have e := undersC_succ p (a : Int) i (by omega)
    have hle := undersC_len p (a : Int) i
    refine Ev.step (fun k => by rw [impl_under.l0]) ?_
    rw [Pl.wrap_nat (show i < 9223372036854775807 by omega)]
    refine Pl.ev_ite_pos (by omega) (Pl.ev_bind' (by unfold impl_isUnder.f; exact implUnder_ev h (Nat.le_refl _) (a : Int) (by omega) _ (i : Int) rfl (by omega) (by omega)) ?_)
    by_cases hu : under p (i : Int) (a : Int) = true
    · rw [if_pos hu] at e
      exact Pl.ev_ite_pos hu (Pl.ev_ite_pos (by rw [hs]; omega) (ih _ ⟨by rw [hs, e], by omega⟩))
    · rw [if_neg hu, List.append_nil] at e
      exact Pl.ev_ite_neg hu (ih _ ⟨by rw [hs, e], by omega⟩)
theorem unders_spec {p : List St} (h : treeOk p p.length) (hl : lineOk p p.length) (h24 : p.length ≤ 24) (a : Nat) (ha : a < p.length) : Ev (fun k => spec_l4Under.f k p (a : Int)) (undersC p (a : Int) p.length) := by
  unfold spec_l4Under.f
  have hself : under p (a : Int) (a : Int) = true := by rw [under_at (by omega)]; exact decide_eq_true rfl
  have h1 : undersC p (a : Int) (a + 1) = [(a : Int)] := by
    rw [undersC_succ p (a : Int) a (Int.le_refl _), undersC_0, if_pos hself]
    rfl
  rw [Pl.wrap_nat (show a < 9223372036854775807 by omega)]
  have hda := deep_le h _ (a : Int) rfl (by omega) (by omega)
  have hdA : Ev (fun k => spec_l4Deep.f k p (a : Int)) (deep p (a : Int)) := by
    have := specDeep_ev h (Nat.le_refl _) h24 _ (a : Int) rfl (by omega) (by omega) 0 (by omega) (by omega)
    rw [Int.zero_add] at this
    exact this
  have main := Pl.loop (σ := List Int) (n := p.length) (g := fun k i s => spec_l4Under.l0 k p (a : Int) s i) (F := fun _ _ => undersC p (a : Int) p.length) (fun i s => s = undersC p (a : Int) i ∧ a < i ∧ under p ((i : Int) - 1) (a : Int) = true) ?_ ?_ (a + 1) [(a : Int)] (by omega) ⟨h1.symm, by omega, by rw [show (((a + 1 : Nat) : Int) - 1) = (a : Int) from by omega]; exact hself⟩
  · rw [show ((a + 1 : Nat) : Int) = (a : Int) + 1 from by omega] at main
    exact main
  · rintro s ⟨hs, _, _⟩
    refine Ev.step (fun k => by rw [spec_l4Under.l0]) ?_
    rw [hs]
    exact Pl.ev_ite_neg (by omega) (Ev.now _)
  · rintro i s hi ⟨hs, hai, hun⟩ ih
    have e := undersC_succ p (a : Int) i (by omega)
    have hle := undersC_len p (a : Int) i
    have hdi := deep_le h _ (i : Int) rfl (by omega) (by omega)
    have hdI : Ev (fun k => spec_l4Deep.f k p (i : Int)) (deep p (i : Int)) := by
      have := specDeep_ev h (Nat.le_refl _) h24 _ (i : Int) rfl (by omega) (by omega) 0 (by omega) (by omega)
      rw [Int.zero_add] at this
      exact this
    obtain ⟨n1, n2⟩ := next_under h hl (a := (a : Int)) (by omega) (i := i) (by omega) hi
    refine Ev.step (fun k => by rw [spec_l4Under.l0]) ?_
    rw [Pl.wrap_nat (show i < 9223372036854775807 by omega)]
    refine Pl.ev_ite_pos (by omega) (Pl.ev_bind' hdI (Pl.ev_bind' hdA ?_))
    by_cases hd : deep p (i : Int) > deep p (a : Int)
    · have hu := (n1 hun).2 hd
      rw [if_pos hu] at e
      exact Pl.ev_ite_pos hd (Pl.ev_ite_pos (by rw [hs]; omega) (ih _ ⟨by rw [hs, e], by omega, by rw [show (((i + 1 : Nat) : Int) - 1) = (i : Int) from by omega]; exact hu⟩))
    · refine Pl.ev_ite_neg hd (Pl.ev_to (Ev.now _) ?_)
      have hu : under p (i : Int) (a : Int) = false := by
        cases hb : under p (i : Int) (a : Int)
        · rfl
        · exact absurd ((n1 hun).1 hb) hd
      have all : ∀ d j : Nat, j = i + d → j < p.length → under p (j : Int) (a : Int) = false := by
        intro d
        induction d with
        | zero => rintro j rfl _; exact hu
        | succ d ihd =>
          rintro j rfl hj
          have := (next_under h hl (a := (a : Int)) (by omega) (i := i + (d + 1)) (by omega) hj).2
          refine this ?_
          rw [show (((i + (d + 1) : Nat) : Int) - 1) = ((i + d : Nat) : Int) from by omega]
          exact ihd (i + d) rfl (by omega)
      have := undersC_flat p (a : Int) i (by omega) (p.length - i) (fun j j1 j2 => all (j - i) j (by omega) (by omega))
      rw [show i + (p.length - i) = p.length from by omega] at this
      rw [hs, this]
theorem lineOk_of {p : List St} (h : treeOk p p.length) (h24 : p.length ≤ 24) (hs : ∀ i : Nat, 0 < i → i < p.length → Ev (fun k => spec_l4Line.f k p (i : Int)) true) : lineOk p p.length := by
  intro i h0 hi
  have hp := (h i hi).2 h0
  have main : ∀ (m : Nat) (at' : Int), at'.toNat + 1 = m → -1 ≤ at' → at' < i → Ev (fun k => spec_l4Line.l0 k p (i : Int) at') (under p at' (pr p (i : Int))) := by
    intro m
    induction m using Nat.strongRecOn with
    | _ m ih =>
      intro at' hm h0' h1
      refine Ev.step (fun k => by rw [spec_l4Line.l0]) ?_
      by_cases hn : at' < 0
      · obtain rfl : at' = -1 := by omega
        rw [under_at (by omega)]
        exact Pl.ev_ite_neg (by omega) (Pl.ev_to (Ev.now _) (by rw [eq_comm, decide_eq_false_iff_not]; omega))
      · obtain ⟨c, d⟩ := treeOk_lt h (by omega) (show at' < (p.length : Int) by omega)
        refine Pl.ev_ite_pos (by omega) (Pl.ev_ite_pos (by omega) (Pl.ev_ite_pos (by omega) ?_))
        by_cases e : at' = pr p (i : Int)
        · rw [under_at (by omega)]
          exact Pl.ev_ite_pos e (Pl.ev_to (Ev.now _) (decide_eq_true e).symm)
        · refine Pl.ev_ite_neg e (Pl.ev_ite_pos (by omega) (Pl.ev_ite_pos (by omega) ?_))
          have low : ∀ (m' : Nat) (b : Int), b.toNat + 1 = m' → -1 ≤ b → b < pr p (i : Int) → Ev (fun k => spec_l4Line.l0 k p (i : Int) b) false := by
            intro m'
            induction m' using Nat.strongRecOn with
            | _ m' ih' =>
              intro b hb b0 b1
              refine Ev.step (fun k => by rw [spec_l4Line.l0]) ?_
              by_cases hn' : b < 0
              · exact Pl.ev_ite_neg (by omega) (Ev.now _)
              · obtain ⟨c', d'⟩ := treeOk_lt h (by omega) (show b < (p.length : Int) by omega)
                refine Pl.ev_ite_pos (by omega) (Pl.ev_ite_pos (by omega) (Pl.ev_ite_pos (by omega) (Pl.ev_ite_neg (show ¬ b = pr p (i : Int) by omega) (Pl.ev_ite_pos (by omega) (Pl.ev_ite_pos (by omega) ?_)))))
                by_cases hz : pr p b < 0
                · have hz1 : (rd_T78 p b).f1 = -1 := show pr p b = -1 by omega
                  rw [hz1]
                  refine Ev.step (fun k => by rw [spec_l4Line.l0]) ?_
                  exact Pl.ev_ite_neg (by omega) (Ev.now _)
                · exact ih' ((pr p b).toNat + 1) (by omega) (pr p b) rfl c' (by omega)
          by_cases hq : at' > pr p (i : Int)
          · rw [under_up h (by omega) (show at' < (p.length : Int) by omega) hq]
            by_cases hz : pr p at' < 0
            · have hz1 : pr p at' = -1 := by omega
              have hz2 : (rd_T78 p at').f1 = -1 := hz1
              rw [hz1, hz2, under_at (by omega)]
              refine Ev.step (fun k => by rw [spec_l4Line.l0]) ?_
              exact Pl.ev_ite_neg (by omega) (Pl.ev_to (Ev.now _) (by rw [eq_comm, decide_eq_false_iff_not]; omega))
            · exact ih ((pr p at').toNat + 1) (by omega) (pr p at') rfl c (by omega)
          · rw [under_at hq, decide_eq_false e]
            by_cases hz : pr p at' < 0
            · have hz2 : (rd_T78 p at').f1 = -1 := show pr p at' = -1 by omega
              rw [hz2]
              refine Ev.step (fun k => by rw [spec_l4Line.l0]) ?_
              exact Pl.ev_ite_neg (by omega) (Ev.now _)
            · exact low ((pr p at').toNat + 1) (pr p at') rfl c (by omega)
  have h1 := main _ ((i : Int) - 1) rfl (by omega) (by omega)
  have h2 := hs i h0 hi
  unfold spec_l4Line.f at h2
  rw [Pl.wrap_in (by omega) (by omega)] at h2
  exact (Pl.ev_unique h1 h2)
theorem stepsUnder_ev (p : List St) (a : Int) (hl : p.length ≤ 1048576) (hz : sized p) : ∃ (c : Int) (l : List Int), l.length ≤ 1048576 ∧ Ev (fun k => spec_StepsUnder.f k p a) (c, l) ∧ Ev (fun k => impl_StepsUnder.f k p a) (c, l) := by
  obtain ⟨c, s, m, n⟩ := proc_ev p hl hz
  have hpl : impl_isPlace.f a (p.length : Int) = some (decide (0 ≤ a ∧ a ≤ (p.length : Int) - 1)) := by
    unfold impl_isPlace.f
    rw [inRange_eq, Option.bind_some, Pl.wrap_in (by omega) (by omega)]
  have hin : spec_l1In.f a 0 (wrap64 ((p.length : Int) - 1)) = some (decide (0 ≤ a ∧ a ≤ (p.length : Int) - 1)) := by rw [l1In_eq, Pl.wrap_in (by omega) (by omega)]
  by_cases hc : c = 0
  · by_cases hr : 0 ≤ a ∧ a ≤ (p.length : Int) - 1
    · obtain ⟨⟨_, h24⟩, ht, hln⟩ := n hc
      obtain ⟨a', rfl⟩ := Int.eq_ofNat_of_zero_le hr.1
      have hlo := lineOk_of ht h24 (fun i h0 hi => (hln.1 i hi).2.2 h0)
      refine ⟨0, undersC p (a' : Int) p.length, Nat.le_trans (undersC_len _ _ _) hl, ?_, ?_⟩
      · unfold spec_StepsUnder.f
        refine Pl.ev_bind' s (Pl.ev_ite_pos hc ?_)
        simp only [hin, Option.bind_some]
        exact Pl.ev_ite_pos (decide_eq_true hr) (Pl.ev_bind' (unders_spec ht hlo h24 a' (by omega)) (Ev.now _))
      · unfold impl_StepsUnder.f
        refine Pl.ev_bind' m ?_
        simp only [hpl, codeIf_eq, Option.bind_some]
        refine Pl.ev_bind' (firstCode_ev _ (by simp)) ?_
        rw [f1of2, decide_eq_true hr, hc]
        exact Pl.ev_ite_pos (by simp) (Pl.ev_bind' (unders_impl ht h24 a' (by omega)) (Ev.now _))
    · refine ⟨3, [], by simp, ?_, ?_⟩
      · unfold spec_StepsUnder.f
        refine Pl.ev_bind' s (Pl.ev_ite_pos hc ?_)
        simp only [hin, Option.bind_some]
        exact Pl.ev_ite_neg (by simpa using hr) (Ev.now _)
      · unfold impl_StepsUnder.f
        refine Pl.ev_bind' m ?_
        simp only [hpl, codeIf_eq, Option.bind_some]
        refine Pl.ev_bind' (firstCode_ev _ (by simp)) ?_
        rw [f1of2, decide_eq_false hr, hc]
        exact Pl.ev_ite_neg (by simp) (Pl.ev_to (Ev.now _) (by simp))
  · refine ⟨c, [], by simp, ?_, ?_⟩
    · unfold spec_StepsUnder.f
      exact Pl.ev_bind' s (Pl.ev_ite_neg hc (Ev.now _))
    · unfold impl_StepsUnder.f
      refine Pl.ev_bind' m ?_
      simp only [hpl, codeIf_eq, Option.bind_some]
      refine Pl.ev_bind' (firstCode_ev _ (by simp)) ?_
      rw [f1of2, if_neg hc]
      exact Pl.ev_ite_neg hc (Ev.now _)
end Go.Proofs.Ytcpcenhpmcfmjaa.L
namespace Go.Proofs.Ytcpcenhpmcfmjaa.Pure
open Go.RowKit Go.Proofs.Ytcpcenhpmcfmjaa Go.Proofs.Ytcpcenhpmcfmjaa.L Go.Proofs.YtcpcenhpmcfmjaaW.PrintWords Go.Proofs.YtcpcenhpmcfmjaaW.PrintLast
theorem FnExactStepsUnder : laws_FnExactStepsUnder.Pure := by
  intro a at' ha hat
  refine Ev.rounds (g := fun k => laws_FnExactStepsUnder.f k a at') ?_
  unfold laws_FnExactStepsUnder.f
  obtain ⟨r, r0, r1, r2, r3⟩ := szStepS_ev a ha.1 ha.2 1048576 (by omega) (by omega)
  refine Pl.ev_bind' r3 ?_
  by_cases hr : r < 0
  · exact Pl.ev_ite_pos hr (Ev.now _)
  · refine Pl.ev_ite_neg hr ?_
    obtain ⟨a1, a2⟩ := r2 (by omega)
    have ta := toStepS_ev a a1 a2
    have la : (a.map toStep).length ≤ 1048576 := by simpa using a1
    have ba : ∀ y ∈ a.map toStep, y.f4.length ≤ 1048576 ∧ y.f5.length ≤ 1048576 := by
      intro y hy
      obtain ⟨z, hz, rfl⟩ := List.mem_map.1 hy
      have := a2 z hz
      simpa [toStep] using this.2
    obtain ⟨c, l, hl, s, m⟩ := stepsUnder_ev (a.map toStep) at' la (sized_map a a2)
    obtain ⟨t, ht, h0⟩ := markStep_some (a.map toStep) la ba
    have eqi := eqInts_ev c l hl
    have mk := markInts_ev c l hl
    have hd := heldInts_ev c l.length hl
    refine Pl.ev_bind' ta (Pl.ev_bind' s (Pl.ev_bind' ta (Pl.ev_bind' m (Pl.ev_bind' eqi (Pl.ev_ite_pos rfl (Pl.ev_bind' ta (Pl.ev_bind' (eqStepS_ev _ la ba) (Pl.ev_ite_pos rfl ?_))))))))
    simp only [ht, Option.bind_some]
    refine Pl.ev_ite_neg h0 (Pl.ev_bind' eqi ?_)
    refine Ev.step (fun k => by rw [laws_FnExactStepsUnder.j0]) ?_
    refine Pl.ev_ite_neg (by simp) (Pl.ev_bind' mk (Pl.ev_bind' hd (Pl.ev_ite_neg (by omega) (Pl.ev_ite_pos rfl (Pl.ev_bind' ta (Pl.ev_bind' m (Pl.ev_bind' eqi (Pl.ev_ite_pos rfl (Pl.ev_bind' hd (Pl.ev_ite_neg (by omega) (Pl.ev_ite_pos rfl (Ev.now _))))))))))))
end Go.Proofs.Ytcpcenhpmcfmjaa.Pure
