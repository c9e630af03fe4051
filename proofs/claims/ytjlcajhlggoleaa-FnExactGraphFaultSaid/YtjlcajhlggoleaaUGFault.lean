/- The code of a graph: the program and the reference say the same. No condition. -/
import Derived.Test.YtjlcajhlggoleaaUGraph
import Derived.Test.YtjlcajhlggoleaaUMark
import Derived.Test.YtjlcajhlggoleaaUIn
import Derived.Test.YtjlcajhlggoleaaH6
import Derived.Test.YtjlcajhlggoleaaH5
import Derived.Test.YtjlcajhlggoleaaH10
import Derived.Test.YtjlcajhlggoleaaH8
import Derived.Test.YtjlcajhlggoleaaH9
namespace Go.Proofs.Ytjlcajhlggoleaa.H
set_option linter.unusedVariables false
set_option linter.unusedSimpArgs false
open Go.RowKit Go.Proofs.Ytjlcajhlggoleaa Go.Proofs.YtjlcajhlggoleaaW.PrintWords Go.Proofs.YtjlcajhlggoleaaW.PrintLast
abbrev GN := S115
abbrev FL := S119
/-- That a node holds nothing that its kind has no place for. -/
def bareC (x : GN) : Prop := (x.f0 = 3 ∨ x.f2.toList = []) ∧ ((x.f0 = 4 ∨ x.f0 = 5 ∨ x.f0 = 6 ∨ x.f0 = 11) ∨ x.f3 = 0) ∧ (x.f0 = 6 ∨ x.f4.length = 0) ∧ (x.f0 = 1 ∨ x.f0 = 2 → x.f1 = 0)
instance (x : GN) : Decidable (bareC x) := by unfold bareC; infer_instance
def gnC (x : GN) : Int :=
  if (1 ≤ x.f0 ∧ x.f0 ≤ 13) ∧ bareC x then
    (if (0 ≤ x.f1 ∧ x.f1 ≤ 23) ∧ (0 ≤ x.f3 ∧ x.f3 ≤ 99) then (if 16 < x.f4.length then 2 else if x.f0 = 3 then Pl.nameC x.f2.data.toList else 0) else 3)
  else 1
def flC (n : Nat) (fl : List FL) (i : Nat) (x : FL) : Int :=
  if (0 ≤ x.f0 ∧ x.f0 ≤ (n : Int) - 1) ∧ (0 ≤ x.f1 ∧ x.f1 ≤ (n : Int) - 1) then (if 16 < x.f2.length then 2 else if 0 < i ∧ x.f0 < (rd_T119 fl ((i - 1 : Nat) : Int)).f0 then 1 else 0) else 3
/-- The first code of a list's elements. -/
def codesC {α : Type} (c : Nat → α → Int) : Nat → List α → Int
  | _, [] => 0
  | i, x :: l => if c i x = 0 then codesC c (i + 1) l else c i x
def grC (g : List GN) (f : List FL) : Int :=
  if (2 ≤ g.length ∧ g.length ≤ 60) ∧ f.length ≤ 80 then (if codesC (fun _ => gnC) 0 g = 0 then codesC (flC g.length f) 0 f else codesC (fun _ => gnC) 0 g) else 2
theorem rd_oneG (x : S62) : rd_T62 [x] 0 = x := rfl
theorem rd_oneN (x : GN) : rd_T115 [x] 0 = x := rfl
theorem bare_eq (x : GN) : spec_l6Bare.f x = some (decide (bareC x)) := by
  unfold spec_l6Bare.f
  rw [rd_oneN]
  simp only [l1In_eq, Option.bind_some]
  obtain ⟨K, S, N, G, E⟩ := x
  unfold bareC
  simp only
  by_cases h1 : K = 1
  · subst h1
    by_cases hN : N.toList = [] <;> by_cases hG : G = 0 <;> by_cases hE : E.length = 0 <;> by_cases hS : S = 0 <;> simp [hN, hG, hE, hS]
  by_cases h2 : K = 2
  · subst h2
    by_cases hN : N.toList = [] <;> by_cases hG : G = 0 <;> by_cases hE : E.length = 0 <;> by_cases hS : S = 0 <;> simp [hN, hG, hE, hS]
  by_cases h3 : K = 3
  · subst h3
    by_cases hG : G = 0 <;> by_cases hE : E.length = 0 <;> simp [hG, hE]
  by_cases h4 : K = 4
  · subst h4
    by_cases hN : N.toList = [] <;> by_cases hE : E.length = 0 <;> simp [hN, hE]
  by_cases h5 : K = 5
  · subst h5
    by_cases hN : N.toList = [] <;> by_cases hE : E.length = 0 <;> simp [hN, hE]
  by_cases h6 : K = 6
  · subst h6
    by_cases hN : N.toList = [] <;> simp [hN]
  by_cases h11 : K = 11
  · subst h11
    by_cases hN : N.toList = [] <;> by_cases hE : E.length = 0 <;> simp [hN, hE]
  have h46 : ¬ (4 ≤ K ∧ K ≤ 6) := by omega
  by_cases hN : N.toList = [] <;> by_cases hG : G = 0 <;> by_cases hE : E.length = 0 <;> simp [h1, h2, h3, h4, h5, h6, h11, h46, hN, hG, hE]
theorem implN_ev (x : GN) (h2 : x.f2.size ≤ 1048576) : Ev (fun k => impl_gnodeFault.f k x.f0 x.f1 x.f2 x.f3 x.f4) (gnC x) := by
  obtain ⟨K, S, N, G, E⟩ := x
  simp only at h2 ⊢
  have hname := impl_name (s := N) rfl (by rw [Pl.size_toList]; omega)
  have j1 : ∀ b c : Bool, (c = true ↔ ¬ bareC ⟨K, S, N, G, E⟩) → Ev (fun k => impl_gnodeFault.j1 k b c K S N G E) (gnC ⟨K, S, N, G, E⟩) := by
    intro b c hc
    refine Ev.step (fun k => by rw [impl_gnodeFault.j1]) ?_
    simp only [inRange_eq, codeIf_eq, Option.bind_some, Pl.ev_ite, decide_eq_true_eq]
    have j2 : ∀ v : Int, gnC ⟨K, S, N, G, E⟩ = (if v = 0 then (if K = 3 then Pl.nameC N.data.toList else 0) else v) → Ev (fun k => impl_gnodeFault.j2 k b c v K S N G E) (gnC ⟨K, S, N, G, E⟩) := by
      intro v hv
      rw [hv]
      refine Ev.step (fun k => by rw [impl_gnodeFault.j2]) ?_
      simp only [Pl.ev_ite, Pl.ev_some]
      by_cases hv0 : v = 0
      · rw [if_pos hv0, if_pos hv0]
        by_cases h3 : K = 3
        · rw [if_pos h3, if_pos h3]
          exact Pl.ev_bind' hname (Ev.now _)
        · rw [if_neg h3, if_neg h3]
      · rw [if_neg hv0, if_neg hv0]
    unfold gnC at j2 ⊢
    simp only at j2 ⊢
    by_cases hK : 1 ≤ K ∧ K ≤ 13
    · rw [if_pos hK]
      by_cases hS : 0 ≤ S ∧ S ≤ 23
      · rw [if_pos hS]
        refine Pl.ev_bind' (firstCode_ev _ (by simp)) (j2 _ ?_)
        by_cases hB : bareC ⟨K, S, N, G, E⟩
        · have e : c = false := by
            cases hcc : c
            · rfl
            · exact absurd hB (hc.1 hcc)
          rw [if_pos ⟨hK, hB⟩, e]
          by_cases hG : 0 ≤ G ∧ G ≤ 99
          · rw [if_pos ⟨hS, hG⟩]
            by_cases hE : 16 < E.length
            · have : (E.length : Int) > 16 := by omega
              simp [Pl.firstC, hG, hE, this]
            · have : ¬ ((E.length : Int) > 16) := by omega
              simp [Pl.firstC, hG, hE, this]
          · rw [if_neg (fun h => hG h.2)]
            simp [Pl.firstC, hG]
        · rw [if_neg (fun h => hB h.2), hc.2 hB]
          simp [Pl.firstC]
      · rw [if_neg hS]
        refine Pl.ev_bind' (firstCode_ev _ (by simp)) (j2 _ ?_)
        by_cases hB : bareC ⟨K, S, N, G, E⟩
        · have e : c = false := by
            cases hcc : c
            · rfl
            · exact absurd hB (hc.1 hcc)
          rw [if_pos ⟨hK, hB⟩, e, if_neg (fun h => hS h.1)]
          simp [Pl.firstC]
        · rw [if_neg (fun h => hB h.2), hc.2 hB]
          simp [Pl.firstC]
    · rw [if_neg hK]
      have e1 : (if (1 ≤ K ∧ K ≤ 13) ∧ bareC ⟨K, S, N, G, E⟩ then (if (0 ≤ S ∧ S ≤ 23) ∧ (0 ≤ G ∧ G ≤ 99) then (if 16 < E.length then 2 else if K = 3 then Pl.nameC N.data.toList else 0) else 3) else 1) = (1 : Int) := if_neg (fun h => hK h.1)
      by_cases hS : 0 ≤ S ∧ S ≤ 23
      · rw [if_pos hS]
        refine Pl.ev_bind' (firstCode_ev _ (by simp)) (j2 _ ?_)
        rw [e1]
        simp [Pl.firstC]
      · rw [if_neg hS]
        refine Pl.ev_bind' (firstCode_ev _ (by simp)) (j2 _ ?_)
        rw [e1]
        simp [Pl.firstC]
  have j0 : ∀ b : Bool, (b = true ↔ (K = 4 ∨ K = 5 ∨ K = 6 ∨ K = 11)) → Ev (fun k => impl_gnodeFault.j0 k b K S N G E) (gnC ⟨K, S, N, G, E⟩) := by
    intro b hb
    refine Ev.step (fun k => by rw [impl_gnodeFault.j0]) ?_
    simp only [Pl.ev_ite]
    unfold bareC at j1
    simp only at j1
    repeat' split
    all_goals (refine j1 _ _ ?_; clear j1 hname; first | (simp_all; done) | (simp_all; omega) | (simp_all; intro he; subst he; simp_all))
  unfold impl_gnodeFault.f
  simp only [Pl.ev_ite]
  repeat' split
  all_goals (refine j0 _ ?_; simp_all)
theorem codes_ev {α : Type} {l : List α} {c : Nat → α → Int} {d : Int} {g : Nat → Int → Option Int} (hend : Ev (fun k => g k (l.length : Int)) d)
    (hstep : ∀ i (hi : i < l.length), ∀ R, (c i l[i] = 0 → Ev (fun k => g k ((i : Int) + 1)) R) → (c i l[i] ≠ 0 → R = c i l[i]) → Ev (fun k => g k (i : Int)) R) :
    Ev (fun k => g k 0) (if codesC c 0 l = 0 then d else codesC c 0 l) := by
  have := Pl.loop0 (n := l.length) (g := g) (F := fun i => if codesC c i (l.drop i) = 0 then d else codesC c i (l.drop i)) ?_ (fun i hi ih => ?_) 0 (Nat.zero_le _)
  · simpa using this
  · rw [List.drop_length]
    simpa [codesC] using hend
  · rw [Pl.drop_get hi]
    unfold codesC
    refine hstep i hi _ (fun h0 => ?_) (fun h0 => ?_)
    · simp only [h0, if_true]
      exact ih
    · simp only [if_neg h0]
theorem implGraph_ev (g : List GN) (f : List FL) (hg : cG g) (hf : cF f) : Ev (fun k => impl_GraphFault.f k g f) (grC g f) := by
  obtain ⟨hgl, hgb⟩ := hg
  obtain ⟨hfl, hfb⟩ := hf
  have flows : Ev (fun k => impl_GraphFault.l1 k f (f.length : Int) 0 g f) (if codesC (flC g.length f) 0 f = 0 then 0 else codesC (flC g.length f) 0 f) := by
    refine codes_ev (g := fun k i => impl_GraphFault.l1 k f (f.length : Int) i g f) ?_ (fun i hi R h1 h2 => ?_)
    · refine Ev.step (fun k => by rw [impl_GraphFault.l1]) ?_
      simp [Pl.ev_some]
    · refine Ev.step (fun k => by rw [impl_GraphFault.l1]) ?_
      have ew : wrap64 ((g.length : Int) - 1) = (g.length : Int) - 1 := Pl.wrap_in (by omega) (by omega)
      simp only [Pl.ev_ite, Pl.ev_none, rd_iFlow f i hi, impl_isPlace.f, inRange_eq, ew, Option.bind_some, decide_eq_true_eq]
      rw [if_pos (by omega), if_pos (by omega), if_pos (by omega)]
      have j3 : ∀ b : Bool, (b = true ↔ (0 ≤ f[i].f0 ∧ f[i].f0 ≤ (g.length : Int) - 1) ∧ (0 ≤ f[i].f1 ∧ f[i].f1 ≤ (g.length : Int) - 1)) → Ev (fun k => impl_GraphFault.j3 k (i : Int) b f (f.length : Int) (i : Int) g f f[i].f0 f[i].f1 f[i].f2) R := by
        intro b hb
        have fin : ∀ lt : Bool, (lt = true ↔ 0 < i ∧ f[i].f0 < (rd_T119 f ((i - 1 : Nat) : Int)).f0) → Ev (fun k => (impl_firstCode.f k ([if (!b) = true then 3 else 0, if decide ((f[i].f2.length : Int) > 16) = true then 2 else 0, if lt = true then 1 else 0] : List Int)).bind fun t => if t = 0 then impl_GraphFault.l1 k f (f.length : Int) ((i : Int) + 1) g f else some t) R := by
          intro lt hlt
          have e : Pl.firstC [if (!b) = true then 3 else 0, if decide ((f[i].f2.length : Int) > 16) = true then 2 else 0, if lt = true then 1 else 0] = flC g.length f i f[i] := by
            unfold flC
            by_cases hp : (0 ≤ f[i].f0 ∧ f[i].f0 ≤ (g.length : Int) - 1) ∧ (0 ≤ f[i].f1 ∧ f[i].f1 ≤ (g.length : Int) - 1)
            · rw [if_pos hp, hb.2 hp]
              by_cases hE : 16 < f[i].f2.length
              · rw [if_pos hE]
                have : (f[i].f2.length : Int) > 16 := by omega
                simp [Pl.firstC, this]
              · rw [if_neg hE]
                have : ¬ ((f[i].f2.length : Int) > 16) := by omega
                by_cases hl : 0 < i ∧ f[i].f0 < (rd_T119 f ((i - 1 : Nat) : Int)).f0
                · rw [if_pos hl, hlt.2 hl]; simp [Pl.firstC, this]
                · rw [if_neg hl]
                  have : lt = false := by
                    cases hx : lt
                    · rfl
                    · exact absurd (hlt.1 hx) hl
                  rw [this]; simp [Pl.firstC, *]
            · rw [if_neg hp]
              have : b = false := by
                cases hx : b
                · rfl
                · exact absurd (hb.1 hx) hp
              rw [this]; simp [Pl.firstC]
          refine Pl.ev_bind' (Pl.ev_to (firstCode_ev _ (by simp)) e) ?_
          simp only [Pl.ev_ite, Pl.ev_some]
          by_cases h0 : flC g.length f i f[i] = 0
          · rw [if_pos h0]; exact h1 h0
          · rw [if_neg h0]; exact (h2 h0).symm
        refine Ev.step (fun k => by rw [impl_GraphFault.j3]) ?_
        simp only [codeIf_eq, Option.bind_some, Pl.ev_ite, Pl.ev_none, Pl.wrap_nat (show i < 9223372036854775807 by omega)]
        by_cases hi0 : 0 < i
        · have ei : wrap64 ((i : Int) - 1) = ((i - 1 : Nat) : Int) := by rw [Pl.wrap_in (by omega) (by omega)]; omega
          rw [if_pos (by omega), ei, if_pos (by omega), if_pos (by omega)]
          exact fin _ (by rw [decide_eq_true_eq]; exact ⟨fun h => ⟨hi0, h⟩, fun h => h.2⟩)
        · rw [if_neg (by omega)]
          exact fin false (by simp; omega)
      split
      · rename_i hp; exact j3 _ (by rw [decide_eq_true_eq]; exact ⟨fun h => ⟨hp, h⟩, fun h => h.2⟩)
      · rename_i hp; exact j3 _ (by simp only [Bool.false_eq_true, false_iff]; exact fun h => hp h.1)
  have nodes : Ev (fun k => impl_GraphFault.l0 k g (g.length : Int) 0 g f) (if codesC (fun _ => gnC) 0 g = 0 then codesC (flC g.length f) 0 f else codesC (fun _ => gnC) 0 g) := by
    refine codes_ev (c := fun _ => gnC) (g := fun k i => impl_GraphFault.l0 k g (g.length : Int) i g f) ?_ (fun i hi R h1 h2 => ?_)
    · refine Ev.step (fun k => by rw [impl_GraphFault.l0]) ?_
      simp only [Pl.ev_ite]
      rw [if_neg (by omega)]
      refine Pl.ev_to flows ?_
      split
      · rename_i h; exact h.symm
      · rfl
    · refine Ev.step (fun k => by rw [impl_GraphFault.l0]) ?_
      simp only [Pl.ev_ite, Pl.ev_none, rd_iGNode g i hi, Pl.wrap_nat (show i < 9223372036854775807 by omega)]
      rw [if_pos (by omega), if_pos (by omega), if_pos (by omega)]
      refine Pl.ev_bind' (implN_ev g[i] (hgb _ (List.getElem_mem hi)).1) ?_
      simp only [Pl.ev_ite, Pl.ev_some]
      by_cases h0 : gnC g[i] = 0
      · rw [if_pos h0]; exact h1 h0
      · rw [if_neg h0]; exact (h2 h0).symm
  unfold impl_GraphFault.f
  have j0 : ∀ b : Bool, (b = true ↔ ¬ ((2 ≤ g.length ∧ g.length ≤ 60) ∧ f.length ≤ 80)) → Ev (fun k => impl_GraphFault.j0 k b g f) (grC g f) := by
    intro b hb
    refine Ev.step (fun k => by rw [impl_GraphFault.j0]) ?_
    unfold grC
    simp only [Pl.ev_ite, Pl.ev_some]
    by_cases h : (2 ≤ g.length ∧ g.length ≤ 60) ∧ f.length ≤ 80
    · rw [if_neg (fun hx => (hb.1 hx) h), if_pos h]; exact nodes
    · rw [if_pos (hb.2 h), if_neg h]
  simp only [inRange_eq, Option.bind_some, Pl.ev_ite, decide_eq_true_eq]
  split
  · rename_i h; exact j0 _ (by simp; omega)
  · rename_i h; exact j0 _ (by simp; omega)
theorem specGraph_ev (g : List GN) (f : List FL) (hg : cG g) (hf : cF f) : Ev (fun k => spec_GraphFault.f k g f) (grC g f) := by
  obtain ⟨hgl, hgb⟩ := hg
  obtain ⟨hfl, hfb⟩ := hf
  unfold spec_GraphFault.f
  refine Pl.ev_bind' (a := grC g f) ?_ (Ev.now _)
  have flows : (2 ≤ g.length ∧ g.length ≤ 60) → Ev (fun k => spec_l6Fault.l1 k ⟨g, f⟩ 0) (if codesC (flC g.length f) 0 f = 0 then 0 else codesC (flC g.length f) 0 f) := by
    intro _
    refine codes_ev (g := fun k i => spec_l6Fault.l1 k ⟨g, f⟩ i) ?_ (fun i hi R h1 h2 => ?_)
    · refine Ev.step (fun k => by rw [spec_l6Fault.l1, rd_oneG]) ?_
      simp [Pl.ev_some]
    · refine Ev.step (fun k => by rw [spec_l6Fault.l1, rd_oneG]) ?_
      have ew : wrap64 ((g.length : Int) - 1) = (g.length : Int) - 1 := Pl.wrap_in (by omega) (by omega)
      simp only [Pl.ev_ite, Pl.ev_none, rd_iFlow f i hi, l1In_eq, ew, Option.bind_some, decide_eq_true_eq]
      rw [if_pos (by omega), if_pos (by omega)]
      have j5 : ∀ b : Bool, (b = true ↔ ¬ ((0 ≤ f[i].f0 ∧ f[i].f0 ≤ (g.length : Int) - 1) ∧ (0 ≤ f[i].f1 ∧ f[i].f1 ≤ (g.length : Int) - 1))) → Ev (fun k => spec_l6Fault.j5 k ⟨g, f⟩ (i : Int) f b) R := by
        intro b hb
        refine Ev.step (fun k => by rw [spec_l6Fault.j5, rd_oneG]) ?_
        simp only [Pl.ev_ite, Pl.ev_none, Pl.ev_some, rd_iFlow f i hi, Pl.wrap_nat (show i < 9223372036854775807 by omega)]
        unfold flC at h1 h2
        by_cases hp : (0 ≤ f[i].f0 ∧ f[i].f0 ≤ (g.length : Int) - 1) ∧ (0 ≤ f[i].f1 ∧ f[i].f1 ≤ (g.length : Int) - 1)
        · rw [if_pos hp] at h1 h2
          rw [if_neg (fun hx => (hb.1 hx) hp), if_pos (by omega), if_pos (by omega)]
          by_cases hE : 16 < f[i].f2.length
          · rw [if_pos hE] at h1 h2
            rw [if_pos (by omega)]; exact (h2 (by omega)).symm
          · rw [if_neg hE] at h1 h2
            rw [if_neg (by omega)]
            by_cases hi0 : 0 < i
            · have ei : wrap64 ((i : Int) - 1) = ((i - 1 : Nat) : Int) := by rw [Pl.wrap_in (by omega) (by omega)]; omega
              rw [if_pos (by omega), ei, if_pos (by omega), if_pos (by omega)]
              by_cases hl : f[i].f0 < (rd_T119 f ((i - 1 : Nat) : Int)).f0
              · rw [if_pos ⟨hi0, hl⟩] at h1 h2
                rw [if_pos hl]; exact (h2 (by omega)).symm
              · rw [if_neg (fun h => hl h.2)] at h1 h2
                rw [if_neg hl]; exact h1 rfl
            · rw [if_neg (fun h => hi0 h.1)] at h1 h2
              rw [if_neg (by omega)]; exact h1 rfl
        · rw [if_neg hp] at h1 h2
          rw [if_pos (hb.2 hp)]; exact (h2 (by omega)).symm
      split
      · rename_i hp; exact j5 _ (by simp only [Bool.not_eq_true', decide_eq_false_iff_not]; exact ⟨fun h hx => h hx.2, fun h hx => h ⟨hp, hx⟩⟩)
      · rename_i hp; exact j5 _ (by simp only [true_iff]; exact fun h => hp h.1)
  have nodes : (2 ≤ g.length ∧ g.length ≤ 60) → Ev (fun k => spec_l6Fault.l0 k ⟨g, f⟩ 0) (if codesC (fun _ => gnC) 0 g = 0 then codesC (flC g.length f) 0 f else codesC (fun _ => gnC) 0 g) := by
    intro hlen
    refine codes_ev (c := fun _ => gnC) (g := fun k i => spec_l6Fault.l0 k ⟨g, f⟩ i) ?_ (fun i hi R h1 h2 => ?_)
    · refine Ev.step (fun k => by rw [spec_l6Fault.l0, rd_oneG]) ?_
      simp only [Pl.ev_ite]
      rw [if_neg (by omega)]
      refine Pl.ev_to (flows hlen) ?_
      split
      · rename_i h; exact h.symm
      · rfl
    · refine Ev.step (fun k => by rw [spec_l6Fault.l0, rd_oneG]) ?_
      simp only [Pl.ev_ite, Pl.ev_none, rd_iGNode g i hi, l1In_eq, bare_eq, Option.bind_some, decide_eq_true_eq]
      rw [if_pos (by omega), if_pos (by omega)]
      have hname := l1Name_ev (s := g[i].f2) rfl (by rw [Pl.size_toList]; have := (hgb _ (List.getElem_mem hi)).1; omega)
      have j3 : ∀ b : Bool, ((1 ≤ g[i].f0 ∧ g[i].f0 ≤ 13) ∧ bareC g[i]) → (b = true ↔ ¬ ((0 ≤ g[i].f1 ∧ g[i].f1 ≤ 23) ∧ (0 ≤ g[i].f3 ∧ g[i].f3 ≤ 99))) → Ev (fun k => spec_l6Fault.j3 k ⟨g, f⟩ (i : Int) g b) R := by
        intro b hA hb
        refine Ev.step (fun k => by rw [spec_l6Fault.j3]) ?_
        simp only [Pl.ev_ite, Pl.ev_none, Pl.ev_some, rd_iGNode g i hi, Pl.wrap_nat (show i < 9223372036854775807 by omega)]
        unfold gnC at h1 h2
        rw [if_pos hA] at h1 h2
        by_cases hp : (0 ≤ g[i].f1 ∧ g[i].f1 ≤ 23) ∧ (0 ≤ g[i].f3 ∧ g[i].f3 ≤ 99)
        · rw [if_pos hp] at h1 h2
          rw [if_neg (fun hx => (hb.1 hx) hp), if_pos (by omega), if_pos (by omega)]
          by_cases hE : 16 < g[i].f4.length
          · rw [if_pos hE] at h1 h2
            rw [if_pos (by omega)]; exact (h2 (by omega)).symm
          · rw [if_neg hE] at h1 h2
            rw [if_neg (by omega)]
            by_cases h3 : g[i].f0 = 3
            · rw [if_pos h3] at h1 h2
              rw [if_pos h3]
              refine Pl.ev_bind' hname ?_
              simp only [Pl.ev_ite, Pl.ev_some]
              by_cases h0 : Pl.nameC g[i].f2.data.toList = 0
              · rw [if_pos h0]; exact h1 h0
              · rw [if_neg h0]; exact (h2 h0).symm
            · rw [if_neg h3] at h1 h2
              rw [if_neg h3]; exact h1 rfl
        · rw [if_neg hp] at h1 h2
          rw [if_pos (hb.2 hp)]; exact (h2 (by omega)).symm
      have j2 : ∀ b : Bool, (b = true ↔ ¬ ((1 ≤ g[i].f0 ∧ g[i].f0 ≤ 13) ∧ bareC g[i])) → Ev (fun k => spec_l6Fault.j2 k ⟨g, f⟩ (i : Int) g b) R := by
        intro b hb
        refine Ev.step (fun k => by rw [spec_l6Fault.j2]) ?_
        simp only [Pl.ev_ite, Pl.ev_none, Pl.ev_some, rd_iGNode g i hi, l1In_eq, Option.bind_some, decide_eq_true_eq]
        by_cases hA : (1 ≤ g[i].f0 ∧ g[i].f0 ≤ 13) ∧ bareC g[i]
        · rw [if_neg (fun hx => (hb.1 hx) hA), if_pos (by omega), if_pos (by omega)]
          split
          · rename_i hp; exact j3 _ hA (by simp only [Bool.not_eq_true', decide_eq_false_iff_not]; exact ⟨fun h hx => h hx.2, fun h hx => h ⟨hp, hx⟩⟩)
          · rename_i hp; exact j3 _ hA (by simp only [true_iff]; exact fun h => hp h.1)
        · unfold gnC at h1 h2
          rw [if_neg hA] at h1 h2
          rw [if_pos (hb.2 hA)]; exact (h2 (by omega)).symm
      split
      · rename_i hp; exact j2 _ (by simp only [Bool.not_eq_true', decide_eq_false_iff_not]; exact ⟨fun h hx => h hx.2, fun h hx => h ⟨hp, hx⟩⟩)
      · rename_i hp; exact j2 _ (by simp only [true_iff]; exact fun h => hp h.1)
  have j0 : ∀ b : Bool, (b = true ↔ ¬ ((2 ≤ g.length ∧ g.length ≤ 60) ∧ f.length ≤ 80)) → Ev (fun k => spec_l6Fault.j0 k ⟨g, f⟩ b) (grC g f) := by
    intro b hb
    refine Ev.step (fun k => by rw [spec_l6Fault.j0]) ?_
    unfold grC
    simp only [Pl.ev_ite, Pl.ev_some]
    by_cases h : (2 ≤ g.length ∧ g.length ≤ 60) ∧ f.length ≤ 80
    · rw [if_neg (fun hx => (hb.1 hx) h), if_pos h]; exact nodes h.1
    · rw [if_pos (hb.2 h), if_neg h]
  unfold spec_l6Fault.f
  rw [rd_oneG]
  simp only [Pl.ev_ite]
  repeat' split
  all_goals (refine j0 _ ?_; simp; omega)
end Go.Proofs.Ytjlcajhlggoleaa.H
