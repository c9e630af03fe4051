/- Two lists of steps: the program and the reference say the same of whether they are the same. No condition. -/
import Derived.Test.YtjlcajhlggoleaaUStep
import Derived.Test.YtjlcajhlggoleaaQ17
import Derived.Test.YtjlcajhlggoleaaQ19
import Derived.Test.YtjlcajhlggoleaaQ18
namespace Go.Proofs.Ytjlcajhlggoleaa.Q
set_option linter.unusedVariables false
set_option linter.unusedSimpArgs false
open Go.RowKit Go.Proofs.Ytjlcajhlggoleaa Go.Proofs.YtjlcajhlggoleaaW.PrintWords Go.Proofs.YtjlcajhlggoleaaW.PrintLast
def sameN (x y : S77) : Bool := (x.f0 == y.f0) && ((x.f1 == y.f1) && ((x.f2 == y.f2) && (x.f3 == y.f3)))
def sameNs : List S77 → List S77 → Bool
  | [], [] => true
  | x :: l, y :: m => sameN x y && sameNs l m
  | _, _ => false
def sameS (x y : S100) : Bool := (x.f0 == y.f0) && (x.f1 == y.f1) && (x.f2.toList == y.f2.toList) && (x.f3 == y.f3) && sameNs x.f4 y.f4 && sameNs x.f5 y.f5
def sameSs : List S100 → List S100 → Bool
  | [], [] => true
  | x :: l, y :: m => sameS x y && sameSs l m
  | _, _ => false
theorem sameNs_len : ∀ l m, l.length ≠ m.length → sameNs l m = false
  | [], [], h => absurd rfl h
  | [], _ :: _, _ => rfl
  | _ :: _, [], _ => rfl
  | x :: l, y :: m, h => by rw [sameNs, sameNs_len l m (fun e => h (by simp [e])), Bool.and_false]
theorem sameSs_len : ∀ l m, l.length ≠ m.length → sameSs l m = false
  | [], [], h => absurd rfl h
  | [], _ :: _, _ => rfl
  | _ :: _, [], _ => rfl
  | x :: l, y :: m, h => by rw [sameSs, sameSs_len l m (fun e => h (by simp [e])), Bool.and_false]
theorem sameN_test (x y : S77) : ((!(x.f0 == y.f0) || (!(x.f1 == y.f1) || (!(x.f2 == y.f2) || (!(x.f3 == y.f3))))) = true) ↔ sameN x y = false := by
  unfold sameN
  cases (x.f0 == y.f0) <;> cases (x.f1 == y.f1) <;> cases (x.f2 == y.f2) <;> cases (x.f3 == y.f3) <;> simp
theorem implNs_ev (l m : List S77) (hl : l.length ≤ 1048576) : Ev (fun k => impl_sameExpr.f k l m) (sameNs l m) := by
  unfold impl_sameExpr.f
  refine Pl.ev_bind' (a := sameNs l m) ?_ (Ev.now _)
  unfold slices_Equal_Node_Node.f
  simp only [Pl.ev_ite]
  split
  · rename_i h
    have hm : l.length = m.length := by omega
    have := Pl.loop0 (n := l.length) (g := fun k i => slices_Equal_Node_Node.l0 k l m (l.length : Int) i) (F := fun i => sameNs (l.drop i) (m.drop i)) ?_ (fun i hi ih => ?_) 0 (Nat.zero_le _)
    · simpa using this
    · refine Ev.step (fun k => by rw [slices_Equal_Node_Node.l0]) ?_
      simp only [Pl.ev_ite, Pl.ev_some]
      rw [if_neg (by omega), List.drop_length, show List.drop l.length m = [] from by rw [hm]; exact List.drop_length]
      rfl
    · refine Ev.step (fun k => by rw [slices_Equal_Node_Node.l0]) ?_
      have hi' : i < m.length := by omega
      simp only [Pl.ev_ite, Pl.ev_some, Pl.ev_none, rd_iNode l i hi, rd_iNode m i hi', Pl.drop_get hi, Pl.drop_get hi', sameNs, sameN_test, Pl.wrap_nat (show i < 9223372036854775807 by omega)]
      rw [if_pos (by omega), if_pos (by omega), if_pos (by omega), if_pos (by omega)]
      cases h2 : sameN l[i] m[i]
      · simp
      · simpa using ih
  · rename_i h
    exact Pl.ev_some.2 (sameNs_len l m (by omega)).symm
theorem specNs_ev (l m : List S77) (hl : l.length ≤ 1048576) : Ev (fun k => spec_l4SameExpr.f k l m) (sameNs l m) := by
  unfold spec_l4SameExpr.f
  simp only [Pl.ev_ite]
  split
  · rename_i h
    have hm : l.length = m.length := by omega
    have := Pl.loop0 (n := l.length) (g := fun k i => spec_l4SameExpr.l0 k l m i) (F := fun i => sameNs (l.drop i) (m.drop i)) ?_ (fun i hi ih => ?_) 0 (Nat.zero_le _)
    · simpa using this
    · refine Ev.step (fun k => by rw [spec_l4SameExpr.l0]) ?_
      simp only [Pl.ev_ite, Pl.ev_some]
      rw [if_neg (by omega), List.drop_length, show List.drop l.length m = [] from by rw [hm]; exact List.drop_length]
      rfl
    · refine Ev.step (fun k => by rw [spec_l4SameExpr.l0]) ?_
      have hi' : i < m.length := by omega
      simp only [Pl.ev_ite, Pl.ev_some, Pl.ev_none, rd_iNode l i hi, rd_iNode m i hi', Pl.drop_get hi, Pl.drop_get hi', sameNs, sameN_test, Pl.wrap_nat (show i < 9223372036854775807 by omega)]
      rw [if_pos (by omega), if_pos (by omega), if_pos (by omega)]
      cases h2 : sameN l[i] m[i]
      · simp
      · simpa using ih
  · rename_i h
    exact Pl.ev_some.2 (sameNs_len l m (by omega)).symm
theorem implS_ev (x y : S100) (h4 : x.f4.length ≤ 1048576) (h5 : x.f5.length ≤ 1048576) : Ev (fun k => impl_SameProcs_1.f k x.f0 x.f1 x.f2 x.f3 x.f4 x.f5 y.f0 y.f1 y.f2 y.f3 y.f4 y.f5) (sameS x y) := by
  unfold impl_SameProcs_1.f sameS
  simp only [Pl.ev_ite]
  by_cases e0 : x.f0 = y.f0
  · rw [if_pos e0]
    by_cases e1 : x.f1 = y.f1
    · rw [if_pos e1]
      by_cases e2 : x.f2.toList = y.f2.toList
      · rw [if_pos e2]
        by_cases e3 : x.f3 = y.f3
        · rw [if_pos e3]
          refine Pl.ev_bind' (implNs_ev _ _ h4) ?_
          cases e4 : sameNs x.f4 y.f4
          · simp [Pl.ev_some]
          · simp only [if_true]
            exact Pl.ev_bind' (implNs_ev _ _ h5) (by simp [Pl.ev_some, e0, e1, e2, e3])
        · rw [if_neg e3]; exact Pl.ev_some.2 (by simp [e3])
      · rw [if_neg e2]; exact Pl.ev_some.2 (by simp [e2])
    · rw [if_neg e1]; exact Pl.ev_some.2 (by simp [e1])
  · rw [if_neg e0]; exact Pl.ev_some.2 (by simp [e0])
theorem implSs_ev (l m : List S100) (hl : l.length ≤ 1048576) (hb : ∀ y ∈ l, y.f4.length ≤ 1048576 ∧ y.f5.length ≤ 1048576) : Ev (fun k => impl_SameProcs.f k l m) (sameSs l m) := by
  unfold impl_SameProcs.f
  refine Pl.ev_bind' (a := sameSs l m) ?_ (Ev.now _)
  unfold slices_EqualFunc_Step_Step_Step_Step__impl_SameProcs_1.f
  simp only [Pl.ev_ite]
  split
  · rename_i h
    have hm : l.length = m.length := by omega
    have := Pl.loop0 (n := l.length) (g := fun k i => slices_EqualFunc_Step_Step_Step_Step__impl_SameProcs_1.l0 k m l (l.length : Int) i) (F := fun i => sameSs (l.drop i) (m.drop i)) ?_ (fun i hi ih => ?_) 0 (Nat.zero_le _)
    · simpa using this
    · refine Ev.step (fun k => by rw [slices_EqualFunc_Step_Step_Step_Step__impl_SameProcs_1.l0]) ?_
      simp only [Pl.ev_ite, Pl.ev_some]
      rw [if_neg (by omega), List.drop_length, show List.drop l.length m = [] from by rw [hm]; exact List.drop_length]
      rfl
    · refine Ev.step (fun k => by rw [slices_EqualFunc_Step_Step_Step_Step__impl_SameProcs_1.l0]) ?_
      have hi' : i < m.length := by omega
      simp only [Pl.ev_ite, Pl.ev_some, Pl.ev_none, rd_iStep l i hi, rd_iStep m i hi', Pl.drop_get hi, Pl.drop_get hi', sameSs, Pl.wrap_nat (show i < 9223372036854775807 by omega)]
      rw [if_pos (by omega), if_pos (by omega), if_pos (by omega), if_pos (by omega)]
      have b := hb _ (List.getElem_mem hi)
      refine Pl.ev_bind' (implS_ev l[i] m[i] b.1 b.2) ?_
      cases h2 : sameS l[i] m[i]
      · exact Pl.ev_some.2 rfl
      · simpa [h2] using ih
  · rename_i h
    exact Pl.ev_some.2 (sameSs_len l m (by omega)).symm
theorem specSs_ev (l m : List S100) (hl : l.length ≤ 1048576) (hb : ∀ y ∈ l, y.f4.length ≤ 1048576 ∧ y.f5.length ≤ 1048576) : Ev (fun k => spec_SameProcs.f k l m) (sameSs l m) := by
  unfold spec_SameProcs.f
  simp only [Pl.ev_ite]
  split
  · rename_i h
    have hm : l.length = m.length := by omega
    have := Pl.loop0 (n := l.length) (g := fun k i => spec_SameProcs.l0 k l m i) (F := fun i => sameSs (l.drop i) (m.drop i)) ?_ (fun i hi ih => ?_) 0 (Nat.zero_le _)
    · simpa using this
    · refine Ev.step (fun k => by rw [spec_SameProcs.l0]) ?_
      simp only [Pl.ev_ite, Pl.ev_some]
      rw [if_neg (by omega), List.drop_length, show List.drop l.length m = [] from by rw [hm]; exact List.drop_length]
      rfl
    · refine Ev.step (fun k => by rw [spec_SameProcs.l0]) ?_
      have hi' : i < m.length := by omega
      simp only [Pl.ev_ite, Pl.ev_some, Pl.ev_none, rd_iStep l i hi, rd_iStep m i hi', Pl.drop_get hi, Pl.drop_get hi', sameSs, Pl.wrap_nat (show i < 9223372036854775807 by omega)]
      rw [if_pos (by omega), if_pos (by omega), if_pos (by omega)]
      have b := hb _ (List.getElem_mem hi)
      generalize l[i] = x at b ⊢
      generalize m[i] = y
      unfold sameS
      by_cases e0 : x.f0 = y.f0
      · rw [if_pos e0]
        by_cases e1 : x.f1 = y.f1
        · rw [if_pos e1]
          by_cases e2 : x.f2.toList = y.f2.toList
          · rw [if_pos e2]
            by_cases e3 : x.f3 = y.f3
            · rw [if_pos e3]
              refine Pl.ev_bind' (specNs_ev _ _ b.1) ?_
              cases e4 : sameNs x.f4 y.f4
              · simp [Pl.ev_some]
              · simp only [if_true]
                refine Pl.ev_bind' (specNs_ev _ _ b.2) ?_
                cases e5 : sameNs x.f5 y.f5
                · simp [Pl.ev_some]
                · simpa [e0, e1, e2, e3] using ih
            · rw [if_neg e3]; simp [e3]
          · rw [if_neg e2]; simp [e2]
        · rw [if_neg e1]; simp [e1]
      · rw [if_neg e0]; simp [e0]
  · rename_i h
    exact Pl.ev_some.2 (sameSs_len l m (by omega)).symm
end Go.Proofs.Ytjlcajhlggoleaa.Q
