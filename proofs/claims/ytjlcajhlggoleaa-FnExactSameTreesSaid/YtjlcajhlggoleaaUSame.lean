/- Two lists of elements: the program and the reference say the same of whether they are the same. No condition. -/
import Derived.Test.YtjlcajhlggoleaaUTree
import Derived.Test.YtjlcajhlggoleaaQ13
import Derived.Test.YtjlcajhlggoleaaQ14
namespace Go.Proofs.Ytjlcajhlggoleaa.Q
set_option linter.unusedVariables false
set_option linter.unusedSimpArgs false
open Go.RowKit Go.Proofs.Ytjlcajhlggoleaa Go.Proofs.YtjlcajhlggoleaaW.PrintWords Go.Proofs.YtjlcajhlggoleaaW.PrintLast
def sameA (x y : S90) : Bool := (x.f0.toList == y.f0.toList) && (x.f1.toList == y.f1.toList)
def sameAs : List S90 → List S90 → Bool
  | [], [] => true
  | x :: l, y :: m => sameA x y && sameAs l m
  | _, _ => false
def sameE (x y : S88) : Bool := (x.f0.toList == y.f0.toList) && (x.f1 == y.f1) && sameAs x.f2 y.f2
def sameEs : List S88 → List S88 → Bool
  | [], [] => true
  | x :: l, y :: m => sameE x y && sameEs l m
  | _, _ => false
theorem sameAs_len : ∀ l m, l.length ≠ m.length → sameAs l m = false
  | [], [], h => absurd rfl h
  | [], _ :: _, _ => rfl
  | _ :: _, [], _ => rfl
  | x :: l, y :: m, h => by rw [sameAs, sameAs_len l m (fun e => h (by simp [e])), Bool.and_false]
theorem sameEs_len : ∀ l m, l.length ≠ m.length → sameEs l m = false
  | [], [], h => absurd rfl h
  | [], _ :: _, _ => rfl
  | _ :: _, [], _ => rfl
  | x :: l, y :: m, h => by rw [sameEs, sameEs_len l m (fun e => h (by simp [e])), Bool.and_false]
theorem or_not (a b : Bool) : ((!a || !b) = true) ↔ ¬ ((a && b) = true) := by cases a <;> cases b <;> simp
theorem implA_ev (l m : List S90) (hl : l.length ≤ 1048576) : Ev (fun k => slices_Equal_Attr_Attr.f k l m) (sameAs l m) := by
  unfold slices_Equal_Attr_Attr.f
  simp only [Pl.ev_ite]
  split
  · rename_i h
    have hm : l.length = m.length := by omega
    have := Pl.loop0 (n := l.length) (g := fun k i => slices_Equal_Attr_Attr.l0 k l m (l.length : Int) i) (F := fun i => sameAs (l.drop i) (m.drop i)) ?_ (fun i hi ih => ?_) 0 (Nat.zero_le _)
    · simpa using this
    · refine Ev.step (fun k => by rw [slices_Equal_Attr_Attr.l0]) ?_
      simp only [Pl.ev_ite, Pl.ev_some]
      rw [if_neg (by omega), List.drop_length, show List.drop l.length m = [] from by rw [hm]; exact List.drop_length]
      rfl
    · refine Ev.step (fun k => by rw [slices_Equal_Attr_Attr.l0]) ?_
      have hi' : i < m.length := by omega
      simp only [Pl.ev_ite, Pl.ev_some, Pl.ev_none, rd_iAttr l i hi, rd_iAttr m i hi', Pl.drop_get hi, Pl.drop_get hi', sameAs, or_not, Pl.wrap_nat (show i < 9223372036854775807 by omega)]
      rw [if_pos (by omega), if_pos (by omega), if_pos (by omega), if_pos (by omega)]
      cases h2 : sameA l[i] m[i]
      · rw [if_pos (by unfold sameA at h2; simp [h2])]
        rfl
      · rw [if_neg (by unfold sameA at h2; simp [h2])]
        exact ih
  · rename_i h
    exact Pl.ev_some.2 (sameAs_len l m (by omega)).symm
theorem implE_ev (x y : S88) (hx : x.f2.length ≤ 1048576) : Ev (fun k => impl_SameTrees_1.f k x.f0 x.f1 x.f2 y.f0 y.f1 y.f2) (sameE x y) := by
  unfold impl_SameTrees_1.f sameE
  simp only [Pl.ev_ite]
  split
  · rename_i h
    split
    · rename_i h2
      refine Pl.ev_bind' (implA_ev x.f2 y.f2 hx) (Pl.ev_some.2 ?_)
      simp [h, h2]
    · rename_i h2
      exact Pl.ev_some.2 (by simp [h2])
  · rename_i h
    exact Pl.ev_some.2 (by simp [h])
theorem implEs_ev (l m : List S88) (hl : l.length ≤ 1048576) (hb : ∀ y ∈ l, y.f2.length ≤ 1048576) : Ev (fun k => impl_SameTrees.f k l m) (sameEs l m) := by
  unfold impl_SameTrees.f
  refine Pl.ev_bind' (a := sameEs l m) ?_ (Ev.now _)
  unfold slices_EqualFunc_Elem_Elem_Elem_Elem__impl_SameTrees_1.f
  simp only [Pl.ev_ite]
  split
  · rename_i h
    have hm : l.length = m.length := by omega
    have := Pl.loop0 (n := l.length) (g := fun k i => slices_EqualFunc_Elem_Elem_Elem_Elem__impl_SameTrees_1.l0 k m l (l.length : Int) i) (F := fun i => sameEs (l.drop i) (m.drop i)) ?_ (fun i hi ih => ?_) 0 (Nat.zero_le _)
    · simpa using this
    · refine Ev.step (fun k => by rw [slices_EqualFunc_Elem_Elem_Elem_Elem__impl_SameTrees_1.l0]) ?_
      simp only [Pl.ev_ite, Pl.ev_some]
      rw [if_neg (by omega), List.drop_length, show List.drop l.length m = [] from by rw [hm]; exact List.drop_length]
      rfl
    · refine Ev.step (fun k => by rw [slices_EqualFunc_Elem_Elem_Elem_Elem__impl_SameTrees_1.l0]) ?_
      have hi' : i < m.length := by omega
      simp only [Pl.ev_ite, Pl.ev_some, Pl.ev_none, rd_iElem l i hi, rd_iElem m i hi', Pl.drop_get hi, Pl.drop_get hi', sameEs, Pl.wrap_nat (show i < 9223372036854775807 by omega)]
      rw [if_pos (by omega), if_pos (by omega), if_pos (by omega), if_pos (by omega)]
      refine Pl.ev_bind' (implE_ev l[i] m[i] (hb _ (List.getElem_mem hi))) ?_
      cases h2 : sameE l[i] m[i]
      · exact Pl.ev_some.2 rfl
      · simpa [h2] using ih
  · rename_i h
    exact Pl.ev_some.2 (sameEs_len l m (by omega)).symm
theorem specEs_ev (l m : List S88) (hl : l.length ≤ 1048576) (hb : ∀ y ∈ l, y.f2.length ≤ 1048576) : Ev (fun k => spec_SameTrees.f k l m) (sameEs l m) := by
  unfold spec_SameTrees.f
  simp only [Pl.ev_ite]
  split
  · rename_i h
    have hm : l.length = m.length := by omega
    have := Pl.loop0 (n := l.length) (g := fun k i => spec_SameTrees.l0 k l m i) (F := fun i => sameEs (l.drop i) (m.drop i)) ?_ (fun i hi ih => ?_) 0 (Nat.zero_le _)
    · simpa using this
    · refine Ev.step (fun k => by rw [spec_SameTrees.l0]) ?_
      simp only [Pl.ev_ite, Pl.ev_some]
      rw [if_neg (by omega), List.drop_length, show List.drop l.length m = [] from by rw [hm]; exact List.drop_length]
      rfl
    · refine Ev.step (fun k => by rw [spec_SameTrees.l0]) ?_
      have hi' : i < m.length := by omega
      simp only [Pl.ev_ite, Pl.ev_some, Pl.ev_none, rd_iElem l i hi, rd_iElem m i hi', Pl.drop_get hi, Pl.drop_get hi', sameEs]
      rw [if_pos (by omega), if_pos (by omega), if_pos (by omega)]
      have no : ∀ r, r = false → Ev (fun k => spec_SameTrees.j1 k l m (i : Int) true) r := fun r hr => by
        refine Ev.step (fun k => by rw [spec_SameTrees.j1]) ?_
        simp [Pl.ev_some, hr]
      by_cases h1 : l[i].f0.toList = m[i].f0.toList
      · rw [if_pos h1]
        by_cases h2 : l[i].f1 = m[i].f1
        · rw [if_pos h2]
          by_cases h3 : l[i].f2.length = m[i].f2.length
          · refine Ev.step (fun k => by rw [spec_SameTrees.j1]) ?_
            simp only [h3, bne_self_eq_false, Bool.false_eq_true, if_false]
            have hf : l[i].f2.length ≤ 1048576 := hb _ (List.getElem_mem hi)
            have := Pl.loop0 (n := l[i].f2.length) (g := fun k j => spec_SameTrees.l1 k l m (i : Int) j) (F := fun j => sameAs (l[i].f2.drop j) (m[i].f2.drop j) && sameEs (l.drop (i + 1)) (m.drop (i + 1))) ?_ (fun j hj ihj => ?_) 0 (Nat.zero_le _)
            · simpa [sameE, h1, h2] using this
            · refine Ev.step (fun k => by rw [spec_SameTrees.l1]) ?_
              simp only [Pl.ev_ite, Pl.ev_some, Pl.ev_none, rd_iElem l i hi, rd_iElem m i hi', Pl.wrap_nat (show i < 9223372036854775807 by omega)]
              rw [if_pos (by omega), if_pos (by omega), if_neg (by omega)]
              rw [show List.drop l[i].f2.length m[i].f2 = [] from by rw [h3]; exact List.drop_length, List.drop_length, show sameAs [] [] = true from rfl, Bool.true_and]
              exact ih
            · refine Ev.step (fun k => by rw [spec_SameTrees.l1]) ?_
              have hj' : j < m[i].f2.length := by omega
              simp only [Pl.ev_ite, Pl.ev_some, Pl.ev_none, rd_iElem l i hi, rd_iElem m i hi', rd_iAttr _ j hj, rd_iAttr _ j hj', Pl.drop_get hj, Pl.drop_get hj', sameAs, or_not, Pl.wrap_nat (show j < 9223372036854775807 by omega)]
              rw [if_pos (by omega), if_pos (by omega), if_pos (by omega), if_pos (by omega), if_pos (by omega), if_pos (by omega)]
              cases h4 : sameA l[i].f2[j] m[i].f2[j]
              · rw [if_pos (by unfold sameA at h4; simp [h4])]
                rfl
              · rw [if_neg (by unfold sameA at h4; simp [h4])]
                exact ihj
          · have e : (((l[i].f2.length : Int)) != (m[i].f2.length : Int)) = true := by rw [bne_iff_ne]; omega
            rw [e]
            exact no _ (by simp [sameE, sameAs_len _ _ h3])
        · rw [if_neg h2]
          exact no _ (by simp [sameE, h2])
      · rw [if_neg h1]
        exact no _ (by simp [sameE, h1])
  · rename_i h
    exact Pl.ev_some.2 (sameEs_len l m (by omega)).symm
end Go.Proofs.Ytjlcajhlggoleaa.Q
