/- What the program and the reference say of an expression's nodes and of whether it is one: both the same. No condition. -/
import Derived.Test.YtmppibhdnajjjaaDoorUCode
import Derived.Test.YtmppibhdnajjjaaDoorUIn
import Derived.Test.YtmppibhdnajjjaaDoorUNode
import Derived.Test.YtmppibhdnajjjaaDoorPlExpr
import Derived.Test.YtmppibhdnajjjaaDoorP1
import Derived.Test.YtmppibhdnajjjaaDoorP6
import Derived.Test.YtmppibhdnajjjaaDoorP5
import Derived.Test.YtmppibhdnajjjaaDoorP4
namespace Go.Proofs.YtmppibhdnajjjaaDoor.P
set_option linter.unusedVariables false
set_option linter.unusedSimpArgs false
open Go.RowKit Go.Proofs.YtmppibhdnajjjaaDoor Go.Proofs.YtmppibhdnajjjaaDoorW.PrintWords Go.Proofs.YtmppibhdnajjjaaDoorW.PrintLast
theorem l3Two_eq (k : Int) : spec_l3Two.f k = some (Pl.two k) := by unfold spec_l3Two.f; rw [l1In_eq]; rfl
theorem isTwo_eq (k : Int) : impl_isTwo.f k = some (Pl.two k) := by unfold impl_isTwo.f; rw [inRange_eq]; rfl
/-- The code of a node at a place. -/
def nodeC (K V L R i : Int) : Int :=
  if K = 1 ∨ K = 2 then (if L ≠ 0 ∨ R ≠ 0 then 1 else if 0 ≤ V ∧ V ≤ (if K = 2 then 3 else 9999) then 0 else 3)
  else if K = 10 then (if V ≠ 0 ∨ R ≠ 0 then 1 else if 0 ≤ L ∧ L ≤ i - 1 then 0 else 3)
  else if 3 ≤ K ∧ K ≤ 9 then (if V ≠ 0 then 1 else if (0 ≤ L ∧ L ≤ i - 1) ∧ (0 ≤ R ∧ R ≤ i - 1) then 0 else 3)
  else 1
theorem first2 (a b c d : Int) (p q : Prop) [Decidable p] [Decidable q] (hc : c ≠ 0) : Pl.firstC [if p then c else 0, if q then d else 0] = if p then c else if q then d else 0 := by
  by_cases hp : p
  · simp [Pl.firstC, hp, hc]
  · by_cases hq : q
    · simp only [Pl.firstC, hp, hq, if_true, if_false]; split <;> simp_all
    · simp [Pl.firstC, hp, hq]
theorem implNode_ev (K V L R i : Int) (h0 : 0 ≤ i) (h1 : i ≤ 100) : Ev (fun k => impl_nodeFault.f k K V L R i) (nodeC K V L R i) := by
  have ew : wrap64 (i - 1) = i - 1 := Pl.wrap_in (by omega) (by omega)
  have j0 : ∀ b : Bool, b = decide (K = 1 ∨ K = 2) → Ev (fun k => impl_nodeFault.j0 k i b K V L R) (nodeC K V L R i) := by
    intro b hb
    refine Ev.step (fun k => by rw [impl_nodeFault.j0]) ?_
    simp only [codeIf_eq, inRange_eq, isTwo_eq, Option.bind_some, Pl.ev_ite, ew]
    unfold nodeC
    by_cases h : K = 1 ∨ K = 2
    · rw [if_pos (by rw [hb]; simpa using h), if_pos h]
      by_cases h2 : K = 2
      · rw [if_pos h2, if_pos h2]
        refine Ev.step (fun k => by rw [impl_nodeFault.j1]) ?_
        simp only [codeIf_eq, inRange_eq, Option.bind_some, Pl.ev_ite]
        split
        · rename_i hL
          refine Pl.ev_bind' (firstCode_ev _ (by simp)) (Pl.ev_some.2 ?_)
          by_cases hR : R = 0
          · by_cases hV : 0 ≤ V ∧ V ≤ 3 <;> simp [Pl.firstC, hL, hR, hV]
          · simp [Pl.firstC, hL, hR]
        · rename_i hL
          refine Pl.ev_bind' (firstCode_ev _ (by simp)) (Pl.ev_some.2 ?_)
          simp [Pl.firstC, hL]
      · rw [if_neg h2, if_neg h2]
        refine Ev.step (fun k => by rw [impl_nodeFault.j1]) ?_
        simp only [codeIf_eq, inRange_eq, Option.bind_some, Pl.ev_ite]
        split
        · rename_i hL
          refine Pl.ev_bind' (firstCode_ev _ (by simp)) (Pl.ev_some.2 ?_)
          by_cases hR : R = 0
          · by_cases hV : 0 ≤ V ∧ V ≤ 9999 <;> simp [Pl.firstC, hL, hR, hV]
          · simp [Pl.firstC, hL, hR]
        · rename_i hL
          refine Pl.ev_bind' (firstCode_ev _ (by simp)) (Pl.ev_some.2 ?_)
          simp [Pl.firstC, hL]
    · rw [if_neg (by rw [hb]; simpa using h), if_neg h]
      by_cases hN : K = 10
      · rw [if_pos hN, if_pos hN]
        by_cases hV : V = 0
        · rw [if_pos hV]
          refine Pl.ev_bind' (firstCode_ev _ (by simp)) (Pl.ev_some.2 ?_)
          by_cases hR : R = 0
          · by_cases hL : 0 ≤ L ∧ L ≤ i - 1 <;> simp [Pl.firstC, hV, hR, hL]
          · simp [Pl.firstC, hV, hR]
        · rw [if_neg hV]
          refine Pl.ev_bind' (firstCode_ev _ (by simp)) (Pl.ev_some.2 ?_)
          simp [Pl.firstC, hV]
      · rw [if_neg hN, if_neg hN]
        by_cases hT : 3 ≤ K ∧ K ≤ 9
        · have e : Pl.two K = true := decide_eq_true hT
          rw [if_pos e, if_pos hT]
          by_cases hL : 0 ≤ L ∧ L ≤ i - 1
          · rw [if_pos (by simpa using hL)]
            refine Pl.ev_bind' (firstCode_ev _ (by simp)) (Pl.ev_some.2 ?_)
            by_cases hV : V = 0
            · by_cases hR : 0 ≤ R ∧ R ≤ i - 1 <;> simp [Pl.firstC, hV, hR, hL]
            · simp [Pl.firstC, hV]
          · rw [if_neg (by simpa using hL)]
            refine Pl.ev_bind' (firstCode_ev _ (by simp)) (Pl.ev_some.2 ?_)
            by_cases hV : V = 0
            · have hL' : ¬ ((0 ≤ L ∧ L ≤ i - 1) ∧ 0 ≤ R ∧ R ≤ i - 1) := fun h => hL h.1
              simp only [Pl.firstC, hV, ne_eq, not_true_eq_false, if_false, if_neg hL']
              simp
            · simp [Pl.firstC, hV]
        · have e : ¬ Pl.two K = true := fun h => hT (of_decide_eq_true h)
          rw [if_neg e, if_neg hT]
          exact Pl.ev_some.2 rfl
  unfold impl_nodeFault.f
  simp only [Pl.ev_ite]
  split
  · rename_i h
    exact j0 _ (by simp [h])
  · rename_i h
    exact j0 _ (by rw [Bool.eq_iff_iff]; simp [h])
theorem rd_one (x : S45) : rd_T45 [x] 0 = x := rfl
theorem specNode_ev (x : S45) (i : Int) (h0 : 0 ≤ i) (h1 : i ≤ 100) : Ev (fun k => spec_l3Node.f k x i) (nodeC x.f0 x.f1 x.f2 x.f3 i) := by
  obtain ⟨K, V, L, R⟩ := x
  have ew : wrap64 (i - 1) = i - 1 := Pl.wrap_in (by omega) (by omega)
  have j1 : ∀ b : Bool, 1 ≤ K → K ≤ 10 → Ev (fun k => spec_l3Node.j1 k ⟨K, V, L, R⟩ i (decide (K ≤ 2)) b) (if b = true then 3 else if K ≤ 2 then 0 else if 0 ≤ L ∧ L ≤ i - 1 then (if 3 ≤ K ∧ K ≤ 9 then (if 0 ≤ R ∧ R ≤ i - 1 then 0 else 3) else 0) else 3) := by
    intro b hK1 hK2
    refine Ev.step (fun k => by rw [spec_l3Node.j1]) ?_
    simp only [l1In_eq, l3Two_eq, Option.bind_some, Pl.ev_ite, ew, rd_one, Pl.two, decide_eq_true_eq, Pl.ev_some]
    cases b
    · by_cases h2 : K ≤ 2
      · have : ¬ (3 ≤ K ∧ K ≤ 9) := by omega
        simp [h2, this]
      · by_cases hL : 0 ≤ L ∧ L ≤ i - 1 <;> by_cases hT : 3 ≤ K ∧ K ≤ 9 <;> by_cases hR : 0 ≤ R ∧ R ≤ i - 1 <;> simp [h2, hL, hT, hR]
    · simp
  have j0 : ∀ b : Bool, 1 ≤ K → K ≤ 10 → b = decide (K ≤ 2 ∧ (L ≠ 0 ∨ R ≠ 0) ∨ ¬ K ≤ 2 ∧ V ≠ 0 ∨ K = 10 ∧ R ≠ 0) → Ev (fun k => spec_l3Node.j0 k ⟨K, V, L, R⟩ i (decide (K ≤ 2)) b) (nodeC K V L R i) := by
    intro b hK1 hK2 hb
    refine Ev.step (fun k => by rw [spec_l3Node.j0]) ?_
    simp only [l1In_eq, Option.bind_some, Pl.ev_ite, rd_one]
    by_cases hB : K ≤ 2 ∧ (L ≠ 0 ∨ R ≠ 0) ∨ ¬ K ≤ 2 ∧ V ≠ 0 ∨ K = 10 ∧ R ≠ 0
    · rw [if_pos (by rw [hb]; simpa using hB)]
      refine Pl.ev_some.2 ?_
      unfold nodeC
      rcases hB with ⟨a, b⟩ | ⟨a, b⟩ | ⟨a, b⟩
      · rw [if_pos (by omega), if_pos b]
      · rw [if_neg (by omega)]
        by_cases h10 : K = 10
        · rw [if_pos h10, if_pos (.inl b)]
        · rw [if_neg h10, if_pos (by omega), if_pos b]
      · rw [if_neg (by omega), if_pos a, if_pos (.inr b)]
    · rw [if_neg (by rw [hb]; simpa using hB)]
      have h1 := fun b => j1 b hK1 hK2
      by_cases e1 : K = 1
      · rw [if_pos e1]
        by_cases e2 : 0 ≤ V ∧ V ≤ 9999
        · rw [if_pos (by simpa using e2), if_neg (by omega)]
          exact Pl.ev_to (h1 false) (by unfold nodeC; repeat' split <;> first | rfl | omega | simp_all)
        · rw [if_neg (by simpa using e2)]
          exact Pl.ev_to (h1 true) (by unfold nodeC; repeat' split <;> first | rfl | omega | simp_all)
      · rw [if_neg e1]
        by_cases e3 : K = 2
        · rw [if_pos e3]
          by_cases e2 : 0 ≤ V ∧ V ≤ 3
          · exact Pl.ev_to (h1 (!decide (0 ≤ V ∧ V ≤ 3))) (by unfold nodeC; simp only [e2, e3]; repeat' split <;> first | rfl | omega | simp_all)
          · exact Pl.ev_to (h1 (!decide (0 ≤ V ∧ V ≤ 3))) (by unfold nodeC; simp only [e2, e3]; repeat' split <;> first | rfl | omega | simp_all)
        · rw [if_neg e3]
          exact Pl.ev_to (h1 false) (by unfold nodeC; repeat' split <;> first | rfl | omega | simp_all)
  have jj : ∀ b : Bool, 1 ≤ K → K ≤ 10 → b = decide (K ≤ 2 ∧ (L ≠ 0 ∨ R ≠ 0) ∨ ¬ K ≤ 2 ∧ V ≠ 0 ∨ K = 10 ∧ R ≠ 0) → Ev (fun k => spec_l3Node.j0 k ⟨K, V, L, R⟩ i (decide (K ≤ 2)) b) (nodeC K V L R i) := j0
  unfold spec_l3Node.f
  rw [rd_one]
  simp only [l1In_eq, Option.bind_some, Pl.ev_ite]
  by_cases hK : 1 ≤ K ∧ K ≤ 10
  · rw [if_pos (by simpa using hK)]
    obtain ⟨hK1, hK2⟩ := hK
    have fin : ∀ b5 b : Bool, b5 = decide (K ≤ 2) → (b = true ↔ (K ≤ 2 ∧ (L ≠ 0 ∨ R ≠ 0) ∨ ¬ K ≤ 2 ∧ V ≠ 0 ∨ K = 10 ∧ R ≠ 0)) → Ev (fun k => spec_l3Node.j0 k ⟨K, V, L, R⟩ i b5 b) (nodeC K V L R i) := fun b5 b h5 h => h5 ▸ jj b hK1 hK2 (by rw [Bool.eq_iff_iff, decide_eq_true_eq]; exact h)
    repeat' split
    all_goals (refine fin _ _ (by first | rfl | (symm; simp; omega)) ?_; first | (simp; omega) | (simp only [bne_iff_ne]; omega) | omega)
  · rw [if_neg (by simpa using hK)]
    refine Pl.ev_some.2 ?_
    unfold nodeC
    repeat' split <;> first | rfl | omega
end Go.Proofs.YtmppibhdnajjjaaDoor.P
