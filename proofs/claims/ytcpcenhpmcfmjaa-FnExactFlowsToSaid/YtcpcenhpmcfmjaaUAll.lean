/- What the program's picks of a code come to. No condition. What the checks of a range come to. No condition. What the program and the reference say of names, as plain functions: both the same. No condition. What the laws' own sizes, copies and comparisons of nodes come to. No condition. What the laws' own comparisons, marks and looks at whole numbers come to. No condition. What the laws' own sizes, copies and comparisons of graphs come to. No condition. The code of a graph: the program and the reference say the same. No condition. How many marks a graph takes. No condition. -/
import Derived.Test.YtcpcenhpmcfmjaaXPure
import Derived.Test.YtcpcenhpmcfmjaaF4
import Derived.Test.YtcpcenhpmcfmjaaF1
import Derived.Test.YtcpcenhpmcfmjaaF5
import Derived.Test.YtcpcenhpmcfmjaaF3
import Derived.Test.YtcpcenhpmcfmjaaF8
import Derived.Test.YtcpcenhpmcfmjaaFO
import Derived.Test.YtcpcenhpmcfmjaaF10
import Derived.Test.YtcpcenhpmcfmjaaXMark
import Derived.Test.YtcpcenhpmcfmjaaF9
import Derived.Test.YtcpcenhpmcfmjaaF2
import Derived.Test.YtcpcenhpmcfmjaaF7
import Derived.Test.YtcpcenhpmcfmjaaF6
import Derived.Test.YtcpcenhpmcfmjaaFM
namespace Go.Proofs.Ytcpcenhpmcfmjaa.F
set_option linter.unusedVariables false
set_option linter.unusedSimpArgs false
open Go.RowKit Go.Proofs.Ytcpcenhpmcfmjaa Go.Proofs.YtcpcenhpmcfmjaaW.PrintWords Go.Proofs.YtcpcenhpmcfmjaaW.PrintLast
theorem codeIf_eq (b : Bool) (c : Int) : impl_codeIf.f b c = some (if b = true then c else 0) := by
 unfold impl_codeIf.f
 cases b <;> rfl
theorem firstCode_l (l : List Int) (hl : l.length < 1000) : ∀ i, i ≤ l.length → Ev (fun k => impl_firstCode.l0 k l (l.length : Int) (i : Int)) (Pl.firstC (l.drop i)) := by
 refine Pl.loop0 (g := fun k i => impl_firstCode.l0 k l (l.length : Int) i) ?_ ?_
 ·refine Ev.step (fun k => by rw [impl_firstCode.l0]) ?_
  simp [Pl.ev_some, Pl.firstC]
 ·intro i hi ih
  refine Ev.step (fun k => by rw [impl_firstCode.l0]) ?_
  rw [Pl.drop_get hi]
  have e := Pl.rd_get l i hi
  simp only [Pl.ev_ite, Pl.ev_some, Pl.ev_none, Pl.firstC, e, Pl.wrap_nat (show i < 9223372036854775807 by omega)]
  rw [if_pos (by omega), if_pos (by omega), if_pos (by omega)]
  split
  ·exact ih
  ·rfl
theorem firstCode_ev (l : List Int) (hl : l.length < 1000) : Ev (fun k => impl_firstCode.f k l) (Pl.firstC l) := firstCode_l l hl 0 (Nat.zero_le _)
theorem l1In_eq (a lo hi : Int) : spec_l1In.f a lo hi = some (decide (lo ≤ a ∧ a ≤ hi)) := by
 unfold spec_l1In.f
 by_cases h : a ≥ lo
 ·rw [if_pos h]; congr 1; rw [decide_eq_decide]; omega
 ·rw [if_neg h]; congr 1; rw [eq_comm, decide_eq_false_iff_not]; omega
theorem inRange_eq (a lo hi : Int) : impl_inRange.f a lo hi = some (decide (lo ≤ a ∧ a ≤ hi)) := by
 unfold impl_inRange.f
 by_cases h : lo ≤ a
 ·rw [if_pos h]; congr 1; rw [decide_eq_decide]; omega
 ·rw [if_neg h]; congr 1; rw [eq_comm, decide_eq_false_iff_not]; omega
theorem l1Name_l {s : ByteArray} {l : List UInt8} (hl : s.data.toList = l) (hs : l.length < 9223372036854775807) : ∀ i, i ≤ l.length → Ev (fun k => spec_l1Name.l0 k s (i : Int)) (bif (l.drop i).all Pl.smallB then (if l = [] then 5 else if l.length > 8 then 2 else 0) else 5) := by
 have hz := Pl.size_l hl
 refine Pl.loop0 (g := fun k i => spec_l1Name.l0 k s i) ?_ ?_
 ·refine Ev.step (fun k => by rw [spec_l1Name.l0]) ?_
  simp only [Pl.ev_ite, Pl.ev_some, Pl.toList_l hl, hz, Pl.drop_end, List.all_nil, cond_true]
  rw [if_neg (by omega)]
  split
  ·rfl
  ·split
   ·rw [if_pos (by omega)]
   ·rw [if_neg (by omega)]
 ·intro i hi ih
  refine Ev.step (fun k => by rw [spec_l1Name.l0]) ?_
  rw [Pl.drop_get hi]
  simp only [Pl.ev_ite, Pl.ev_some, Pl.ev_none, Pl.bt_l hl i hi, hz, Pl.wrap_nat (show i < 9223372036854775807 by omega), List.all_cons]
  rw [if_pos (by omega), if_pos (by omega)]
  by_cases h : Pl.smallB l[i] = true
  ·have h' := of_decide_eq_true h
   rw [if_neg (by omega), if_neg (by omega), h, Bool.true_and]
   exact ih
  ·have h' : ¬ (97 ≤ (l[i]).toNat ∧ (l[i]).toNat ≤ 122) := fun e => h (decide_eq_true e)
   rw [Bool.not_eq_true] at h
   rw [h, Bool.false_and, cond_false]
   split
   ·rfl
   ·rw [if_pos (by omega)]
theorem l1Name_ev {s : ByteArray} {l : List UInt8} (hl : s.data.toList = l) (hs : l.length < 9223372036854775807) : Ev (fun k => spec_l1Name.f k s) (Pl.nameC l) := by
 have h := l1Name_l hl hs 0 (Nat.zero_le _)
 unfold spec_l1Name.f
 refine Pl.ev_to h ?_
 rw [List.drop_zero]
 unfold Pl.nameC
 split
 ·rename_i h0
  subst h0
  rfl
 ·cases l.all Pl.smallB <;> rfl
theorem isSmall_eq (c : UInt8) : impl_isSmall.f (c.toNat : Int) = some (Pl.smallB c) := by
 unfold impl_isSmall.f Pl.smallB
 by_cases h : (c.toNat : Int) ≥ 97
 ·rw [if_pos h]; congr 1; rw [decide_eq_decide]; omega
 ·rw [if_neg h]; congr 1; rw [eq_comm, decide_eq_false_iff_not]; omega
theorem areSmall_l {s : ByteArray} {l : List UInt8} (hl : s.data.toList = l) (hs : l.length < 9223372036854775807) : ∀ i, i ≤ l.length → Ev (fun k => impl_areAll__impl_isSmall.l0 k s (l.length : Int) (i : Int)) ((l.drop i).all Pl.smallB) := by
 have hz := Pl.size_l hl
 refine Pl.loop0 (g := fun k i => impl_areAll__impl_isSmall.l0 k s (l.length : Int) i) ?_ ?_
 ·refine Ev.step (fun k => by rw [impl_areAll__impl_isSmall.l0]) ?_
  simp [Pl.ev_some]
 ·intro i hi ih
  refine Ev.step (fun k => by rw [impl_areAll__impl_isSmall.l0]) ?_
  rw [Pl.drop_get hi]
  simp only [Pl.ev_ite, Pl.ev_some, Pl.ev_none, Pl.bt_l hl i hi, hz, isSmall_eq, Option.bind_some, Pl.wrap_nat (show i < 9223372036854775807 by omega), List.all_cons]
  rw [if_pos (by omega), if_pos (by omega), if_pos (by omega)]
  cases h : Pl.smallB l[i]
  ·rfl
  ·simpa [h] using ih
theorem impl_name {s : ByteArray} {l : List UInt8} (hl : s.data.toList = l) (hs : l.length < 9223372036854775807) : Ev (fun k => impl_NameFault.f k s) (Pl.nameC l) := by
 have hz := Pl.size_l hl
 have h := areSmall_l hl hs 0 (Nat.zero_le _)
 rw [List.drop_zero, ← hz] at h
 unfold impl_NameFault.f
 simp only [codeIf_eq, Option.bind_some, Pl.ev_ite, Pl.toList_l hl]
 unfold Pl.nameC
 split
 ·refine Pl.ev_bind' (firstCode_ev _ (by simp)) ?_
  simp [Pl.ev_some, Pl.firstC]
 ·refine Pl.ev_bind' h ?_
  refine Pl.ev_bind' (firstCode_ev _ (by simp)) ?_
  simp only [Pl.ev_some, Pl.firstC, hz]
  cases h1 : l.all Pl.smallB
  ·simp
  ·by_cases h2 : l.length > 8
   ·simp [h2]; rw [if_neg (by omega), if_pos (by omega)]
   ·simp [h2]; omega
theorem rd_lNode (l : List S149) (i : Nat) (h : i < l.length) : rd_T149 l (i : Int) = l[i] := Pl.getD_get h
theorem rd_iNode (l : List S139) (i : Nat) (h : i < l.length) : rd_T139 l (i : Int) = l[i] := Pl.getD_get h
def toNode (x : S149) : S139 := ⟨x.f0, x.f1, x.f2, x.f3⟩
theorem szNodeS_ev (l : List S149) (hl : l.length ≤ 9223372036854775807) (x : Int) (h0 : 0 ≤ x) (h1 : x ≤ 1048576) : ∃ r, -1 ≤ r ∧ r ≤ x ∧ (0 ≤ r → l.length ≤ 1048576) ∧ laws_szNodeS.f l x = some r := by
 have e : wrap64 (x - (l.length : Int)) = x - (l.length : Int) := Pl.wrap_in (by omega) (by omega)
 unfold laws_szNodeS.f
 rw [e]
 by_cases h : x - (l.length : Int) < 0
 ·rw [if_pos h]
  exact ⟨-1, by omega, by omega, by omega, rfl⟩
 ·rw [if_neg h]
  exact ⟨_, by omega, by omega, fun _ => by omega, rfl⟩
theorem toNodeS_ev (l : List S149) (hl : l.length ≤ 1048576) : Ev (fun k => laws_toNodeS.f k l) (l.map toNode) := by
 unfold laws_toNodeS.f
 simp only [Pl.ev_ite]
 rw [if_pos (by omega), if_pos (by simp; omega)]
 rw [show ((l.length : Int) : Int).toNat = l.length from by omega]
 refine Pl.fill (g := fun k i acc => laws_toNodeS.l0 k l acc i) (fun acc _ => ?_) (fun i hi acc ha ih => ?_)
 ·refine Ev.step (fun k => by rw [laws_toNodeS.l0]) ?_
  simp [Pl.ev_some]
 ·refine Ev.step (fun k => by rw [laws_toNodeS.l0]) ?_
  simp only [Pl.ev_ite, Pl.ev_some, Pl.ev_none, laws_toNode.f, Option.bind_some, rd_lNode l i hi, Pl.wrap_nat (show i < 9223372036854775807 by omega), Int.toNat_natCast]
  rw [if_pos (by omega), if_pos (by omega), if_pos (by omega)]
  exact ih
theorem eqNodeS_ev (l : List S139) (hl : l.length ≤ 1048576) : Ev (fun k => laws_eqNodeS.f k l l) true := by
 unfold laws_eqNodeS.f
 simp only [if_true]
 refine Pl.loop0 (n := l.length) (g := fun k i => laws_eqNodeS.l0 k l l i) (F := fun _ => true) ?_ (fun i hi ih => ?_) 0 (Nat.zero_le _)
 ·refine Ev.step (fun k => by rw [laws_eqNodeS.l0]) ?_
  simp [Pl.ev_some]
 ·refine Ev.step (fun k => by rw [laws_eqNodeS.l0]) ?_
  simp only [Pl.ev_ite, Pl.ev_some, Pl.ev_none, laws_eqNode.f, if_true, Option.bind_some, Pl.wrap_nat (show i < 9223372036854775807 by omega)]
  rw [if_pos (by omega), if_pos (by omega), if_pos (by omega)]
  exact ih
theorem eqInt64S_ev (l : List Int) (hl : l.length ≤ 1048576) : Ev (fun k => laws_eqInt64S.f k l l) true := by
 unfold laws_eqInt64S.f
 refine Pl.ev_ite_pos rfl ?_
 refine Pl.loop0 (n := l.length) (g := fun k i => laws_eqInt64S.l0 k l l i) (F := fun _ => true) ?_ (fun i hi ih => ?_) 0 (Nat.zero_le _)
 ·refine Ev.step (fun k => by rw [laws_eqInt64S.l0]) ?_
  exact Pl.ev_ite_neg (by omega) (Ev.now _)
 ·refine Ev.step (fun k => by rw [laws_eqInt64S.l0]) ?_
  rw [Pl.wrap_nat (show i < 9223372036854775807 by omega)]
  exact Pl.ev_ite_pos (by omega) (Pl.ev_ite_pos (by omega) (Pl.ev_ite_pos (by omega) (Pl.ev_ite_pos rfl ih)))
theorem eqInts_ev (c : Int) (l : List Int) (hl : l.length ≤ 1048576) : Ev (fun k => laws_eqIntsResult.f k c l c l) true := by
 unfold laws_eqIntsResult.f
 exact Pl.ev_ite_pos rfl (Pl.ev_bind' (eqInt64S_ev l hl) (Pl.ev_ite_pos rfl (Ev.now _)))
def marksL (n : Nat) : List Int := (List.range n).map fun (j : Nat) => (j : Int) + 1
theorem marksL_len (n : Nat) : (marksL n).length = n := by simp [marksL]
theorem markInts_ev (c : Int) (l : List Int) (hl : l.length ≤ 1048576) : Ev (fun k => laws_markIntsResult.f k c l 1) ((l.length : Int) + 1, marksL l.length) := by
 unfold laws_markIntsResult.f laws_markInt64S.f
 refine Pl.ev_bind' (a := ((l.length : Int) + 1, marksL l.length)) ?_ (Ev.now _)
 refine Pl.loop (σ := List Int × Int) (n := l.length) (g := fun k i s => laws_markInt64S.l0 k s.1 s.2 i) (F := fun _ _ => ((l.length : Int) + 1, marksL l.length)) (fun i s => s.1.length = l.length ∧ s.1.take i = marksL i ∧ s.2 = (i : Int) + 1) ?_ ?_ 0 (l, 1) (Nat.zero_le _) ⟨rfl, by simp [marksL], rfl⟩
 ·rintro ⟨x0, x1⟩ ⟨h1, h2, h3⟩
  simp only at h1 h2 h3 ⊢
  refine Ev.step (fun k => by rw [laws_markInt64S.l0]) ?_
  refine Pl.ev_ite_neg (by omega) ?_
  rw [List.take_of_length_le (by omega)] at h2
  rw [h2, h3]
  exact Ev.now _
 ·rintro i ⟨x0, x1⟩ hi ⟨h1, h2, h3⟩ ih
  simp only at h1 h2 h3 ih ⊢
  refine Ev.step (fun k => by rw [laws_markInt64S.l0]) ?_
  refine Pl.ev_ite_pos (by omega) (Pl.ev_ite_pos (by omega) ?_)
  rw [Pl.wrap_nat (show i < 9223372036854775807 by omega), Int.toNat_natCast]
  refine ih (x0.set i x1, wrap64 (x1 + 1)) ⟨by simp [h1], ?_, ?_⟩
  ·simp only
   rw [List.take_add_one, List.take_set_of_le (Nat.le_refl _), h2, List.getElem?_set_self (by omega)]
   unfold marksL
   rw [List.range_succ, List.map_append, h3]
   rfl
  ·simp only
   rw [h3, Pl.wrap_in (by omega) (by omega)]
   omega
theorem heldInts_ev (c : Int) (n : Nat) (hn : n ≤ 1048576) : Ev (fun k => laws_heldIntsResult.f k c (marksL n) 1) ((n : Int) + 1) := by
 unfold laws_heldIntsResult.f laws_heldInt64S.f
 refine Pl.ev_bind' (a := (n : Int) + 1) ?_ (Pl.ev_ite_neg (by omega) (Ev.now _))
 refine Pl.loop (σ := Int) (n := n) (g := fun k i s => laws_heldInt64S.l0 k (marksL n) s i) (F := fun _ _ => (n : Int) + 1) (fun i s => s = (i : Int) + 1) ?_ ?_ 0 1 (Nat.zero_le _) rfl
 ·intro s hs
  refine Ev.step (fun k => by rw [laws_heldInt64S.l0]) ?_
  rw [marksL_len, hs]
  exact Pl.ev_ite_neg (by omega) (Ev.now _)
 ·intro i s hi hs ih
  refine Ev.step (fun k => by rw [laws_heldInt64S.l0]) ?_
  rw [marksL_len, Pl.wrap_nat (show i < 9223372036854775807 by omega), hs]
  refine Pl.ev_ite_pos (by omega) (Pl.ev_ite_pos (by omega) (Pl.ev_ite_pos ?_ ?_))
  ·rw [Pl.rd_get _ i (by rw [marksL_len]; exact hi)]
   simp [marksL]
  ·rw [Pl.wrap_in (by omega) (by omega)]
   exact ih _ (by omega)
theorem ups_nat : ∀ (m : Nat) (k : Int), 0 ≤ k → k + m ≤ 9223372036854775807 → ups m k = k + m
 | 0, k, _, _ => by simp [ups]
 | m + 1, k, h0, h1 => by
  rw [ups, ups_nat m k h0 (by omega), Pl.wrap_in (by omega) (by omega)]
  omega
theorem rd_lGNode (l : List S100) (i : Nat) (h : i < l.length) : rd_T100 l (i : Int) = l[i] := Pl.getD_get h
theorem rd_iGNode (l : List S108) (i : Nat) (h : i < l.length) : rd_T108 l (i : Int) = l[i] := Pl.getD_get h
theorem rd_lFlow (l : List S103) (i : Nat) (h : i < l.length) : rd_T103 l (i : Int) = l[i] := Pl.getD_get h
theorem rd_iFlow (l : List S106) (i : Nat) (h : i < l.length) : rd_T106 l (i : Int) = l[i] := Pl.getD_get h
def toGNode (x : S100) : S108 := ⟨x.f0, x.f1, x.f2, x.f3, x.f4.map toNode⟩
def toFlow (x : S103) : S106 := ⟨x.f0, x.f1, x.f2.map toNode⟩
def bGNode (x : S100) : Prop := x.f2.size ≤ 1048576 ∧ x.f4.length ≤ 1048576
def bFlow (x : S103) : Prop := x.f2.length ≤ 1048576
theorem szGNode_ev (a : S100) (hw : wf100 a) (x : Int) (h0 : 0 ≤ x) (h1 : x ≤ 1048576) : ∃ r, -1 ≤ r ∧ r ≤ x ∧ (0 ≤ r → bGNode a) ∧ laws_szGNode.f a.f0 a.f1 a.f2 a.f3 a.f4 x = some r := by
 obtain ⟨w0, w1, w2, w3, w4⟩ := hw
 have e : wrap64 (x - (a.f2.size : Int)) = x - (a.f2.size : Int) := Pl.wrap_in (by omega) (by omega)
 unfold laws_szGNode.f
 rw [e]
 by_cases h : x - (a.f2.size : Int) < 0
 ·rw [if_pos h]
  exact ⟨-1, by omega, by omega, by omega, rfl⟩
 ·rw [if_neg h]
  obtain ⟨r, p, q, c, d⟩ := szNodeS_ev a.f4 w4.1 (x - (a.f2.size : Int)) (by omega) (by omega)
  rw [d, Option.bind_some]
  by_cases hr : r < 0
  ·rw [if_pos hr]
   exact ⟨-1, by omega, by omega, by omega, rfl⟩
  ·rw [if_neg hr]
   exact ⟨r, p, by omega, fun _ => ⟨by omega, c (by omega)⟩, rfl⟩
theorem szFlow_ev (a : S103) (hw : wf103 a) (x : Int) (h0 : 0 ≤ x) (h1 : x ≤ 1048576) : ∃ r, -1 ≤ r ∧ r ≤ x ∧ (0 ≤ r → bFlow a) ∧ laws_szFlow.f a.f0 a.f1 a.f2 x = some r := by
 obtain ⟨w0, w1, w2⟩ := hw
 unfold laws_szFlow.f
 obtain ⟨r, p, q, c, d⟩ := szNodeS_ev a.f2 w2.1 x h0 h1
 rw [d, Option.bind_some]
 by_cases hr : r < 0
 ·rw [if_pos hr]
  exact ⟨-1, by omega, by omega, by omega, rfl⟩
 ·rw [if_neg hr]
  exact ⟨r, p, by omega, fun _ => c (by omega), rfl⟩
theorem szGNodeS_ev (l : List S100) (hl : l.length ≤ 9223372036854775807) (hw : ∀ y ∈ l, wf100 y) (x : Int) (h0 : 0 ≤ x) (h1 : x ≤ 1048576) : ∃ r, -1 ≤ r ∧ r ≤ x ∧ (0 ≤ r → l.length ≤ 1048576 ∧ ∀ y ∈ l, bGNode y) ∧ Ev (fun k => laws_szGNodeS.f k l x) r := by
 have e : wrap64 (x - (l.length : Int)) = x - (l.length : Int) := Pl.wrap_in (by omega) (by omega)
 unfold laws_szGNodeS.f
 rw [e]
 by_cases h : x - (l.length : Int) < 0
 ·simp only [if_pos h]
  exact ⟨-1, by omega, by omega, by omega, Ev.now _⟩
 ·simp only [if_neg h]
  obtain ⟨r, a, b, c, d⟩ := Pl.left (l := l) (B := bGNode) (g := fun k i x => laws_szGNodeS.l0 k l x i) (fun x => by
   refine Ev.step (fun k => by rw [laws_szGNodeS.l0]) ?_
   simp [Pl.ev_some]) (fun i hi x h0 h1 => by
   obtain ⟨r, a, b, c, d⟩ := szGNode_ev l[i] (hw _ (List.getElem_mem hi)) x h0 h1
   refine ⟨r, a, b, c, fun hr => ?_, fun hr R hR => ?_⟩
   ·refine Ev.step (fun k => by rw [laws_szGNodeS.l0]) ?_
    simp only [Pl.ev_ite, rd_lGNode l i hi, d, Option.bind_some, if_pos hr]
    rw [if_pos (by omega), if_pos (by omega)]
    exact Ev.now _
   ·refine Ev.step (fun k => by rw [laws_szGNodeS.l0]) ?_
    simp only [Pl.ev_ite, rd_lGNode l i hi, d, Option.bind_some, if_neg (show ¬ r < 0 by omega), Pl.wrap_nat (show i < 9223372036854775807 by omega)]
    rw [if_pos (by omega), if_pos (by omega)]
    exact hR) (x - (l.length : Int)) (by omega) (by omega)
  exact ⟨r, a, by omega, fun hr => ⟨by omega, c hr⟩, d⟩
theorem szFlowS_ev (l : List S103) (hl : l.length ≤ 9223372036854775807) (hw : ∀ y ∈ l, wf103 y) (x : Int) (h0 : 0 ≤ x) (h1 : x ≤ 1048576) : ∃ r, -1 ≤ r ∧ r ≤ x ∧ (0 ≤ r → l.length ≤ 1048576 ∧ ∀ y ∈ l, bFlow y) ∧ Ev (fun k => laws_szFlowS.f k l x) r := by
 have e : wrap64 (x - (l.length : Int)) = x - (l.length : Int) := Pl.wrap_in (by omega) (by omega)
 unfold laws_szFlowS.f
 rw [e]
 by_cases h : x - (l.length : Int) < 0
 ·simp only [if_pos h]
  exact ⟨-1, by omega, by omega, by omega, Ev.now _⟩
 ·simp only [if_neg h]
  obtain ⟨r, a, b, c, d⟩ := Pl.left (l := l) (B := bFlow) (g := fun k i x => laws_szFlowS.l0 k l x i) (fun x => by
   refine Ev.step (fun k => by rw [laws_szFlowS.l0]) ?_
   simp [Pl.ev_some]) (fun i hi x h0 h1 => by
   obtain ⟨r, a, b, c, d⟩ := szFlow_ev l[i] (hw _ (List.getElem_mem hi)) x h0 h1
   refine ⟨r, a, b, c, fun hr => ?_, fun hr R hR => ?_⟩
   ·refine Ev.step (fun k => by rw [laws_szFlowS.l0]) ?_
    simp only [Pl.ev_ite, rd_lFlow l i hi, d, Option.bind_some, if_pos hr]
    rw [if_pos (by omega), if_pos (by omega)]
    exact Ev.now _
   ·refine Ev.step (fun k => by rw [laws_szFlowS.l0]) ?_
    simp only [Pl.ev_ite, rd_lFlow l i hi, d, Option.bind_some, if_neg (show ¬ r < 0 by omega), Pl.wrap_nat (show i < 9223372036854775807 by omega)]
    rw [if_pos (by omega), if_pos (by omega)]
    exact hR) (x - (l.length : Int)) (by omega) (by omega)
  exact ⟨r, a, by omega, fun hr => ⟨by omega, c hr⟩, d⟩
def bGraph (a : S25) : Prop := (a.f0.length ≤ 1048576 ∧ ∀ y ∈ a.f0, bGNode y) ∧ a.f1.length ≤ 1048576 ∧ ∀ y ∈ a.f1, bFlow y
theorem szGraph_ev (a : S25) (hw : wf25 a) (x : Int) (h0 : 0 ≤ x) (h1 : x ≤ 1048576) : ∃ r, -1 ≤ r ∧ r ≤ x ∧ (0 ≤ r → bGraph a) ∧ Ev (fun k => laws_szGraph.f k a.f0 a.f1 x) r := by
 unfold laws_szGraph.f
 obtain ⟨w0, w1⟩ := hw
 obtain ⟨r, p, q, c, d⟩ := szGNodeS_ev a.f0 w0.1 w0.2 x h0 h1
 by_cases hr : r < 0
 ·exact ⟨-1, by omega, by omega, by omega, Pl.ev_bind' d (by simp only [if_pos hr]; exact Ev.now _)⟩
 ·obtain ⟨r', p', q', c', d'⟩ := szFlowS_ev a.f1 w1.1 w1.2 r (by omega) (by omega)
  by_cases hr' : r' < 0
  ·exact ⟨-1, by omega, by omega, by omega, Pl.ev_bind' d (by simp only [if_neg hr]; exact Pl.ev_bind' d' (by simp only [if_pos hr']; exact Ev.now _))⟩
  ·exact ⟨r', p', by omega, fun _ => ⟨c (by omega), c' (by omega)⟩, Pl.ev_bind' d (by simp only [if_neg hr]; exact Pl.ev_bind' d' (by simp only [if_neg hr']; exact Ev.now _))⟩
theorem toGNodeS_ev (l : List S100) (hl : l.length ≤ 1048576) (hb : ∀ y ∈ l, bGNode y) : Ev (fun k => laws_toGNodeS.f k l) (l.map toGNode) := by
 unfold laws_toGNodeS.f
 simp only [Pl.ev_ite]
 rw [if_pos (by omega), if_pos (by simp; omega)]
 rw [show ((l.length : Int) : Int).toNat = l.length from by omega]
 refine Pl.fill (g := fun k i acc => laws_toGNodeS.l0 k l acc i) (fun acc _ => ?_) (fun i hi acc ha ih => ?_)
 ·refine Ev.step (fun k => by rw [laws_toGNodeS.l0]) ?_
  simp [Pl.ev_some]
 ·refine Ev.step (fun k => by rw [laws_toGNodeS.l0]) ?_
  simp only [Pl.ev_ite, Pl.ev_some, Pl.ev_none, rd_lGNode l i hi, Pl.wrap_nat (show i < 9223372036854775807 by omega), Int.toNat_natCast]
  rw [if_pos (by omega), if_pos (by omega)]
  obtain ⟨b1, b2⟩ := hb _ (List.getElem_mem hi)
  refine Pl.ev_bind' (a := (l[i].f0, l[i].f1, l[i].f2, l[i].f3, l[i].f4.map toNode)) (Pl.ev_bind' (toNodeS_ev l[i].f4 b2) (Ev.now _)) ?_
  simp only [Pl.ev_ite]
  rw [if_pos (by omega)]
  exact ih
theorem toFlowS_ev (l : List S103) (hl : l.length ≤ 1048576) (hb : ∀ y ∈ l, bFlow y) : Ev (fun k => laws_toFlowS.f k l) (l.map toFlow) := by
 unfold laws_toFlowS.f
 simp only [Pl.ev_ite]
 rw [if_pos (by omega), if_pos (by simp; omega)]
 rw [show ((l.length : Int) : Int).toNat = l.length from by omega]
 refine Pl.fill (g := fun k i acc => laws_toFlowS.l0 k l acc i) (fun acc _ => ?_) (fun i hi acc ha ih => ?_)
 ·refine Ev.step (fun k => by rw [laws_toFlowS.l0]) ?_
  simp [Pl.ev_some]
 ·refine Ev.step (fun k => by rw [laws_toFlowS.l0]) ?_
  simp only [Pl.ev_ite, Pl.ev_some, Pl.ev_none, rd_lFlow l i hi, Pl.wrap_nat (show i < 9223372036854775807 by omega), Int.toNat_natCast]
  rw [if_pos (by omega), if_pos (by omega)]
  have b2 := hb _ (List.getElem_mem hi)
  refine Pl.ev_bind' (a := (l[i].f0, l[i].f1, l[i].f2.map toNode)) (Pl.ev_bind' (toNodeS_ev l[i].f2 b2) (Ev.now _)) ?_
  simp only [Pl.ev_ite]
  rw [if_pos (by omega)]
  exact ih
theorem toGraph_ev (a : S25) (hb : bGraph a) : Ev (fun k => laws_toGraph.f k a.f0 a.f1) (a.f0.map toGNode, a.f1.map toFlow) := by
 unfold laws_toGraph.f
 obtain ⟨⟨h1, h2⟩, h3, h4⟩ := hb
 exact Pl.ev_bind' (toGNodeS_ev _ h1 h2) (Pl.ev_bind' (toFlowS_ev _ h3 h4) (Ev.now _))
def cG (g : List S108) : Prop := g.length ≤ 1048576 ∧ ∀ y ∈ g, y.f2.size ≤ 1048576 ∧ y.f4.length ≤ 1048576
def cF (f : List S106) : Prop := f.length ≤ 1048576 ∧ ∀ y ∈ f, y.f2.length ≤ 1048576
theorem cG_to (a : S25) (hb : bGraph a) : cG (a.f0.map toGNode) := by
 refine ⟨by simpa using hb.1.1, fun y hy => ?_⟩
 obtain ⟨x, hx, rfl⟩ := List.mem_map.1 hy
 have := hb.1.2 x hx
 exact ⟨this.1, by simpa [toGNode] using this.2⟩
theorem cF_to (a : S25) (hb : bGraph a) : cF (a.f1.map toFlow) := by
 refine ⟨by simpa using hb.2.1, fun y hy => ?_⟩
 obtain ⟨x, hx, rfl⟩ := List.mem_map.1 hy
 have : x.f2.length ≤ 1048576 := hb.2.2 x hx
 simpa [toFlow] using this
theorem eqGNodeS_ev (l : List S108) (hc : cG l) : Ev (fun k => laws_eqGNodeS.f k l l) true := by
 obtain ⟨hl, hb⟩ := hc
 unfold laws_eqGNodeS.f
 simp only [if_true]
 refine Pl.loop0 (n := l.length) (g := fun k i => laws_eqGNodeS.l0 k l l i) (F := fun _ => true) ?_ (fun i hi ih => ?_) 0 (Nat.zero_le _)
 ·refine Ev.step (fun k => by rw [laws_eqGNodeS.l0]) ?_
  simp [Pl.ev_some]
 ·refine Ev.step (fun k => by rw [laws_eqGNodeS.l0]) ?_
  simp only [Pl.ev_ite, Pl.ev_some, Pl.ev_none, laws_eqGNode.f, if_true, rd_iGNode l i hi, Pl.wrap_nat (show i < 9223372036854775807 by omega)]
  rw [if_pos (by omega), if_pos (by omega), if_pos (by omega)]
  have b := (hb _ (List.getElem_mem hi)).2
  refine Pl.ev_bind' (a := true) (Pl.ev_bind' (eqNodeS_ev l[i].f4 b) (by simp [Pl.ev_some])) ?_
  simp only [if_true]
  exact ih
theorem eqFlowS_ev (l : List S106) (hc : cF l) : Ev (fun k => laws_eqFlowS.f k l l) true := by
 obtain ⟨hl, hb⟩ := hc
 unfold laws_eqFlowS.f
 simp only [if_true]
 refine Pl.loop0 (n := l.length) (g := fun k i => laws_eqFlowS.l0 k l l i) (F := fun _ => true) ?_ (fun i hi ih => ?_) 0 (Nat.zero_le _)
 ·refine Ev.step (fun k => by rw [laws_eqFlowS.l0]) ?_
  simp [Pl.ev_some]
 ·refine Ev.step (fun k => by rw [laws_eqFlowS.l0]) ?_
  simp only [Pl.ev_ite, Pl.ev_some, Pl.ev_none, laws_eqFlow.f, if_true, rd_iFlow l i hi, Pl.wrap_nat (show i < 9223372036854775807 by omega)]
  rw [if_pos (by omega), if_pos (by omega), if_pos (by omega)]
  have b := hb _ (List.getElem_mem hi)
  refine Pl.ev_bind' (a := true) (Pl.ev_bind' (eqNodeS_ev l[i].f2 b) (by simp [Pl.ev_some])) ?_
  simp only [if_true]
  exact ih
theorem eqGraph_ev (g : List S108) (f : List S106) (hg : cG g) (hf : cF f) : Ev (fun k => laws_eqGraph.f k g f g f) true := by
 unfold laws_eqGraph.f
 refine Pl.ev_bind' (eqGNodeS_ev g hg) ?_
 simp only [if_true]
 exact Pl.ev_bind' (eqFlowS_ev f hf) (by simp only [if_true]; exact Ev.now _)
abbrev GN := S108
abbrev FL := S106
def bareC (x : GN) : Prop := (x.f0 = 3 ∨ x.f2.toList = []) ∧ ((x.f0 = 4 ∨ x.f0 = 5 ∨ x.f0 = 6 ∨ x.f0 = 11) ∨ x.f3 = 0) ∧ (x.f0 = 6 ∨ x.f4.length = 0) ∧ (x.f0 = 1 ∨ x.f0 = 2 → x.f1 = 0)
instance (x : GN) : Decidable (bareC x) := by unfold bareC; infer_instance
def gnC (x : GN) : Int :=
 if (1 ≤ x.f0 ∧ x.f0 ≤ 13) ∧ bareC x then
  (if (0 ≤ x.f1 ∧ x.f1 ≤ 23) ∧ (0 ≤ x.f3 ∧ x.f3 ≤ 99) then (if 16 < x.f4.length then 2 else if x.f0 = 3 then Pl.nameC x.f2.data.toList else 0) else 3)
 else 1
def flC (n : Nat) (fl : List FL) (i : Nat) (x : FL) : Int :=
 if (0 ≤ x.f0 ∧ x.f0 ≤ (n : Int) - 1) ∧ (0 ≤ x.f1 ∧ x.f1 ≤ (n : Int) - 1) then (if 16 < x.f2.length then 2 else if 0 < i ∧ x.f0 < (rd_T106 fl ((i - 1 : Nat) : Int)).f0 then 1 else 0) else 3
def codesC {α : Type} (c : Nat → α → Int) : Nat → List α → Int
 | _, [] => 0
 | i, x :: l => if c i x = 0 then codesC c (i + 1) l else c i x
def grC (g : List GN) (f : List FL) : Int :=
 if (2 ≤ g.length ∧ g.length ≤ 60) ∧ f.length ≤ 80 then (if codesC (fun _ => gnC) 0 g = 0 then codesC (flC g.length f) 0 f else codesC (fun _ => gnC) 0 g) else 2
theorem rd_oneG (x : S34) : rd_T34 [x] 0 = x := rfl
theorem rd_oneN (x : GN) : rd_T108 [x] 0 = x := rfl
theorem bare_eq (x : GN) : spec_l6Bare.f x = some (decide (bareC x)) := by
 unfold spec_l6Bare.f
 rw [rd_oneN]
 simp only [l1In_eq, Option.bind_some]
 obtain ⟨K, S, N, G, E⟩ := x
 unfold bareC
 simp only
 by_cases h1 : K = 1
 ·subst h1
  by_cases hN : N.toList = [] <;> by_cases hG : G = 0 <;> by_cases hE : E.length = 0 <;> by_cases hS : S = 0 <;> simp [hN, hG, hE, hS]
 by_cases h2 : K = 2
 ·subst h2
  by_cases hN : N.toList = [] <;> by_cases hG : G = 0 <;> by_cases hE : E.length = 0 <;> by_cases hS : S = 0 <;> simp [hN, hG, hE, hS]
 by_cases h3 : K = 3
 ·subst h3
  by_cases hG : G = 0 <;> by_cases hE : E.length = 0 <;> simp [hG, hE]
 by_cases h4 : K = 4
 ·subst h4
  by_cases hN : N.toList = [] <;> by_cases hE : E.length = 0 <;> simp [hN, hE]
 by_cases h5 : K = 5
 ·subst h5
  by_cases hN : N.toList = [] <;> by_cases hE : E.length = 0 <;> simp [hN, hE]
 by_cases h6 : K = 6
 ·subst h6
  by_cases hN : N.toList = [] <;> simp [hN]
 by_cases h11 : K = 11
 ·subst h11
  by_cases hN : N.toList = [] <;> by_cases hE : E.length = 0 <;> simp [hN, hE]
 have h46 : ¬ (4 ≤ K ∧ K ≤ 6) := by omega
 by_cases hN : N.toList = [] <;> by_cases hG : G = 0 <;> by_cases hE : E.length = 0 <;> simp [h1, h2, h3, h4, h5, h6, h11, h46, hN, hG, hE]
theorem implN_ev (x : GN) (h2 : x.f2.size ≤ 1048576) : Ev (fun k => impl_gnodeFault.f k x.f0 x.f1 x.f2 x.f3 x.f4) (gnC x) := by
 obtain ⟨K, S, N, G, E⟩ := x
 simp only at h2 ⊢
 have hname := impl_name (s := N) rfl (by rw [Pl.size_toList]; omega)
 have j1 : ∀ b c : Bool, (c = true ↔ ¬ bareC ⟨K, S, N, G, E⟩) → Ev (fun k => impl_gnodeFault.j1 k b c K S N G E) (gnC ⟨K, S, N, G, E⟩) := by
  intro b c hc
  refine Ev.step (fun k => by rw [impl_gnodeFault.j1]) ?_
  simp only [inRange_eq, codeIf_eq, Option.bind_some, Pl.ev_ite, decide_eq_true_eq]
  have j2 : ∀ v : Int, gnC ⟨K, S, N, G, E⟩ = (if v = 0 then (if K = 3 then Pl.nameC N.data.toList else 0) else v) → Ev (fun k => impl_gnodeFault.j2 k b c v K S N G E) (gnC ⟨K, S, N, G, E⟩) := by
   intro v hv
   rw [hv]
   refine Ev.step (fun k => by rw [impl_gnodeFault.j2]) ?_
   simp only [Pl.ev_ite, Pl.ev_some]
   by_cases hv0 : v = 0
   ·rw [if_pos hv0, if_pos hv0]
    by_cases h3 : K = 3
    ·rw [if_pos h3, if_pos h3]
     exact Pl.ev_bind' hname (Ev.now _)
    ·rw [if_neg h3, if_neg h3]
   ·rw [if_neg hv0, if_neg hv0]
  unfold gnC at j2 ⊢
  simp only at j2 ⊢
  by_cases hK : 1 ≤ K ∧ K ≤ 13
  ·rw [if_pos hK]
   by_cases hS : 0 ≤ S ∧ S ≤ 23
   ·rw [if_pos hS]
    refine Pl.ev_bind' (firstCode_ev _ (by simp)) (j2 _ ?_)
    by_cases hB : bareC ⟨K, S, N, G, E⟩
    ·have e : c = false := by
      cases hcc : c
      ·rfl
      ·exact absurd hB (hc.1 hcc)
     rw [if_pos ⟨hK, hB⟩, e]
     by_cases hG : 0 ≤ G ∧ G ≤ 99
     ·rw [if_pos ⟨hS, hG⟩]
      by_cases hE : 16 < E.length
      ·have : (E.length : Int) > 16 := by omega
       simp [Pl.firstC, hG, hE, this]
      ·have : ¬ ((E.length : Int) > 16) := by omega
       simp [Pl.firstC, hG, hE, this]
     ·rw [if_neg (fun h => hG h.2)]
      simp [Pl.firstC, hG]
    ·rw [if_neg (fun h => hB h.2), hc.2 hB]
     simp [Pl.firstC]
   ·rw [if_neg hS]
    refine Pl.ev_bind' (firstCode_ev _ (by simp)) (j2 _ ?_)
    by_cases hB : bareC ⟨K, S, N, G, E⟩
    ·have e : c = false := by
      cases hcc : c
      ·rfl
      ·exact absurd hB (hc.1 hcc)
     rw [if_pos ⟨hK, hB⟩, e, if_neg (fun h => hS h.1)]
     simp [Pl.firstC]
    ·rw [if_neg (fun h => hB h.2), hc.2 hB]
     simp [Pl.firstC]
  ·rw [if_neg hK]
   have e1 : (if (1 ≤ K ∧ K ≤ 13) ∧ bareC ⟨K, S, N, G, E⟩ then (if (0 ≤ S ∧ S ≤ 23) ∧ (0 ≤ G ∧ G ≤ 99) then (if 16 < E.length then 2 else if K = 3 then Pl.nameC N.data.toList else 0) else 3) else 1) = (1 : Int) := if_neg (fun h => hK h.1)
   by_cases hS : 0 ≤ S ∧ S ≤ 23
   ·rw [if_pos hS]
    refine Pl.ev_bind' (firstCode_ev _ (by simp)) (j2 _ ?_)
    rw [e1]
    simp [Pl.firstC]
   ·rw [if_neg hS]
    refine Pl.ev_bind' (firstCode_ev _ (by simp)) (j2 _ ?_)
    rw [e1]
    simp [Pl.firstC]
 have j0 : ∀ b : Bool, (b = true ↔ (K = 4 ∨ K = 5 ∨ K = 6 ∨ K = 11)) → Ev (fun k => impl_gnodeFault.j0 k b K S N G E) (gnC ⟨K, S, N, G, E⟩) := by
  intro b hb
  refine Ev.step (fun k => by rw [impl_gnodeFault.j0]) ?_
  simp only [Pl.ev_ite]
  unfold bareC at j1
  simp only at j1
  repeat' split
  all_goals (refine j1 _ _ ?_; clear j1 hname; first | (simp_all; done) | (simp_all; omega) | (simp_all; intro he; subst he; simp_all))
 unfold impl_gnodeFault.f
 simp only [Pl.ev_ite]
 repeat' split
 all_goals (refine j0 _ ?_; simp_all)
theorem codes_ev {α : Type} {l : List α} {c : Nat → α → Int} {d : Int} {g : Nat → Int → Option Int} (hend : Ev (fun k => g k (l.length : Int)) d)
  (hstep : ∀ i (hi : i < l.length), ∀ R, (c i l[i] = 0 → Ev (fun k => g k ((i : Int) + 1)) R) → (c i l[i] ≠ 0 → R = c i l[i]) → Ev (fun k => g k (i : Int)) R) :
  Ev (fun k => g k 0) (if codesC c 0 l = 0 then d else codesC c 0 l) := by
 have := Pl.loop0 (n := l.length) (g := g) (F := fun i => if codesC c i (l.drop i) = 0 then d else codesC c i (l.drop i)) ?_ (fun i hi ih => ?_) 0 (Nat.zero_le _)
 ·simpa using this
 ·rw [List.drop_length]
  simpa [codesC] using hend
 ·rw [Pl.drop_get hi]
  unfold codesC
  refine hstep i hi _ (fun h0 => ?_) (fun h0 => ?_)
  ·simp only [h0, if_true]
   exact ih
  ·simp only [if_neg h0]
theorem implGraph_ev (g : List GN) (f : List FL) (hg : cG g) (hf : cF f) : Ev (fun k => impl_GraphFault.f k g f) (grC g f) := by
 obtain ⟨hgl, hgb⟩ := hg
 obtain ⟨hfl, hfb⟩ := hf
 have flows : Ev (fun k => impl_GraphFault.l1 k f (f.length : Int) 0 g f) (if codesC (flC g.length f) 0 f = 0 then 0 else codesC (flC g.length f) 0 f) := by
  refine codes_ev (g := fun k i => impl_GraphFault.l1 k f (f.length : Int) i g f) ?_ (fun i hi R h1 h2 => ?_)
  ·refine Ev.step (fun k => by rw [impl_GraphFault.l1]) ?_
   simp [Pl.ev_some]
  ·refine Ev.step (fun k => by rw [impl_GraphFault.l1]) ?_
   have ew : wrap64 ((g.length : Int) - 1) = (g.length : Int) - 1 := Pl.wrap_in (by omega) (by omega)
   simp only [Pl.ev_ite, Pl.ev_none, rd_iFlow f i hi, impl_isPlace.f, inRange_eq, ew, Option.bind_some, decide_eq_true_eq]
   rw [if_pos (by omega), if_pos (by omega), if_pos (by omega)]
   have j3 : ∀ b : Bool, (b = true ↔ (0 ≤ f[i].f0 ∧ f[i].f0 ≤ (g.length : Int) - 1) ∧ (0 ≤ f[i].f1 ∧ f[i].f1 ≤ (g.length : Int) - 1)) → Ev (fun k => impl_GraphFault.j3 k (i : Int) b f (f.length : Int) (i : Int) g f f[i].f0 f[i].f1 f[i].f2) R := by
    intro b hb
    have fin : ∀ lt : Bool, (lt = true ↔ 0 < i ∧ f[i].f0 < (rd_T106 f ((i - 1 : Nat) : Int)).f0) → Ev (fun k => (impl_firstCode.f k ([if (!b) = true then 3 else 0, if decide ((f[i].f2.length : Int) > 16) = true then 2 else 0, if lt = true then 1 else 0] : List Int)).bind fun t => if t = 0 then impl_GraphFault.l1 k f (f.length : Int) ((i : Int) + 1) g f else some t) R := by
     intro lt hlt
     have e : Pl.firstC [if (!b) = true then 3 else 0, if decide ((f[i].f2.length : Int) > 16) = true then 2 else 0, if lt = true then 1 else 0] = flC g.length f i f[i] := by
      unfold flC
      by_cases hp : (0 ≤ f[i].f0 ∧ f[i].f0 ≤ (g.length : Int) - 1) ∧ (0 ≤ f[i].f1 ∧ f[i].f1 ≤ (g.length : Int) - 1)
      ·rw [if_pos hp, hb.2 hp]
       by_cases hE : 16 < f[i].f2.length
       ·rw [if_pos hE]
        have : (f[i].f2.length : Int) > 16 := by omega
        simp [Pl.firstC, this]
       ·rw [if_neg hE]
        have : ¬ ((f[i].f2.length : Int) > 16) := by omega
        by_cases hl : 0 < i ∧ f[i].f0 < (rd_T106 f ((i - 1 : Nat) : Int)).f0
        ·rw [if_pos hl, hlt.2 hl]; simp [Pl.firstC, this]
        ·rw [if_neg hl]
         have : lt = false := by
          cases hx : lt
          ·rfl
          ·exact absurd (hlt.1 hx) hl
         rw [this]; simp [Pl.firstC, *]
      ·rw [if_neg hp]
       have : b = false := by
        cases hx : b
        ·rfl
        ·exact absurd (hb.1 hx) hp
       rw [this]; simp [Pl.firstC]
     refine Pl.ev_bind' (Pl.ev_to (firstCode_ev _ (by simp)) e) ?_
     simp only [Pl.ev_ite, Pl.ev_some]
     by_cases h0 : flC g.length f i f[i] = 0
     ·rw [if_pos h0]; exact h1 h0
     ·rw [if_neg h0]; exact (h2 h0).symm
    refine Ev.step (fun k => by rw [impl_GraphFault.j3]) ?_
    simp only [codeIf_eq, Option.bind_some, Pl.ev_ite, Pl.ev_none, Pl.wrap_nat (show i < 9223372036854775807 by omega)]
    by_cases hi0 : 0 < i
    ·have ei : wrap64 ((i : Int) - 1) = ((i - 1 : Nat) : Int) := by rw [Pl.wrap_in (by omega) (by omega)]; omega
     rw [if_pos (by omega), ei, if_pos (by omega), if_pos (by omega)]
     exact fin _ (by rw [decide_eq_true_eq]; exact ⟨fun h => ⟨hi0, h⟩, fun h => h.2⟩)
    ·rw [if_neg (by omega)]
     exact fin false (by simp; omega)
   split
   ·rename_i hp; exact j3 _ (by rw [decide_eq_true_eq]; exact ⟨fun h => ⟨hp, h⟩, fun h => h.2⟩)
   ·rename_i hp; exact j3 _ (by simp only [Bool.false_eq_true, false_iff]; exact fun h => hp h.1)
 have nodes : Ev (fun k => impl_GraphFault.l0 k g (g.length : Int) 0 g f) (if codesC (fun _ => gnC) 0 g = 0 then codesC (flC g.length f) 0 f else codesC (fun _ => gnC) 0 g) := by
  refine codes_ev (c := fun _ => gnC) (g := fun k i => impl_GraphFault.l0 k g (g.length : Int) i g f) ?_ (fun i hi R h1 h2 => ?_)
  ·refine Ev.step (fun k => by rw [impl_GraphFault.l0]) ?_
   simp only [Pl.ev_ite]
   rw [if_neg (by omega)]
   refine Pl.ev_to flows ?_
   split
   ·rename_i h; exact h.symm
   ·rfl
  ·refine Ev.step (fun k => by rw [impl_GraphFault.l0]) ?_
   simp only [Pl.ev_ite, Pl.ev_none, rd_iGNode g i hi, Pl.wrap_nat (show i < 9223372036854775807 by omega)]
   rw [if_pos (by omega), if_pos (by omega), if_pos (by omega)]
   refine Pl.ev_bind' (implN_ev g[i] (hgb _ (List.getElem_mem hi)).1) ?_
   simp only [Pl.ev_ite, Pl.ev_some]
   by_cases h0 : gnC g[i] = 0
   ·rw [if_pos h0]; exact h1 h0
   ·rw [if_neg h0]; exact (h2 h0).symm
 unfold impl_GraphFault.f
 have j0 : ∀ b : Bool, (b = true ↔ ¬ ((2 ≤ g.length ∧ g.length ≤ 60) ∧ f.length ≤ 80)) → Ev (fun k => impl_GraphFault.j0 k b g f) (grC g f) := by
  intro b hb
  refine Ev.step (fun k => by rw [impl_GraphFault.j0]) ?_
  unfold grC
  simp only [Pl.ev_ite, Pl.ev_some]
  by_cases h : (2 ≤ g.length ∧ g.length ≤ 60) ∧ f.length ≤ 80
  ·rw [if_neg (fun hx => (hb.1 hx) h), if_pos h]; exact nodes
  ·rw [if_pos (hb.2 h), if_neg h]
 simp only [inRange_eq, Option.bind_some, Pl.ev_ite, decide_eq_true_eq]
 split
 ·rename_i h; exact j0 _ (by simp; omega)
 ·rename_i h; exact j0 _ (by simp; omega)
theorem specG6_ev (g : List GN) (f : List FL) (hg : cG g) (hf : cF f) : Ev (fun k => spec_l6Fault.f k (⟨g, f⟩ : S34)) (grC g f) := by
 obtain ⟨hgl, hgb⟩ := hg
 obtain ⟨hfl, hfb⟩ := hf
 have flows : (2 ≤ g.length ∧ g.length ≤ 60) → Ev (fun k => spec_l6Fault.l1 k ⟨g, f⟩ 0) (if codesC (flC g.length f) 0 f = 0 then 0 else codesC (flC g.length f) 0 f) := by
  intro _
  refine codes_ev (g := fun k i => spec_l6Fault.l1 k ⟨g, f⟩ i) ?_ (fun i hi R h1 h2 => ?_)
  ·refine Ev.step (fun k => by rw [spec_l6Fault.l1, rd_oneG]) ?_
   simp [Pl.ev_some]
  ·refine Ev.step (fun k => by rw [spec_l6Fault.l1, rd_oneG]) ?_
   have ew : wrap64 ((g.length : Int) - 1) = (g.length : Int) - 1 := Pl.wrap_in (by omega) (by omega)
   simp only [Pl.ev_ite, Pl.ev_none, rd_iFlow f i hi, l1In_eq, ew, Option.bind_some, decide_eq_true_eq]
   rw [if_pos (by omega), if_pos (by omega)]
   have j5 : ∀ b : Bool, (b = true ↔ ¬ ((0 ≤ f[i].f0 ∧ f[i].f0 ≤ (g.length : Int) - 1) ∧ (0 ≤ f[i].f1 ∧ f[i].f1 ≤ (g.length : Int) - 1))) → Ev (fun k => spec_l6Fault.j5 k ⟨g, f⟩ (i : Int) f b) R := by
    intro b hb
    refine Ev.step (fun k => by rw [spec_l6Fault.j5, rd_oneG]) ?_
    simp only [Pl.ev_ite, Pl.ev_none, Pl.ev_some, rd_iFlow f i hi, Pl.wrap_nat (show i < 9223372036854775807 by omega)]
    unfold flC at h1 h2
    by_cases hp : (0 ≤ f[i].f0 ∧ f[i].f0 ≤ (g.length : Int) - 1) ∧ (0 ≤ f[i].f1 ∧ f[i].f1 ≤ (g.length : Int) - 1)
    ·rw [if_pos hp] at h1 h2
     rw [if_neg (fun hx => (hb.1 hx) hp), if_pos (by omega), if_pos (by omega)]
     by_cases hE : 16 < f[i].f2.length
     ·rw [if_pos hE] at h1 h2
      rw [if_pos (by omega)]; exact (h2 (by omega)).symm
     ·rw [if_neg hE] at h1 h2
      rw [if_neg (by omega)]
      by_cases hi0 : 0 < i
      ·have ei : wrap64 ((i : Int) - 1) = ((i - 1 : Nat) : Int) := by rw [Pl.wrap_in (by omega) (by omega)]; omega
       rw [if_pos (by omega), ei, if_pos (by omega), if_pos (by omega)]
       by_cases hl : f[i].f0 < (rd_T106 f ((i - 1 : Nat) : Int)).f0
       ·rw [if_pos ⟨hi0, hl⟩] at h1 h2
        rw [if_pos hl]; exact (h2 (by omega)).symm
       ·rw [if_neg (fun h => hl h.2)] at h1 h2
        rw [if_neg hl]; exact h1 rfl
      ·rw [if_neg (fun h => hi0 h.1)] at h1 h2
       rw [if_neg (by omega)]; exact h1 rfl
    ·rw [if_neg hp] at h1 h2
     rw [if_pos (hb.2 hp)]; exact (h2 (by omega)).symm
   split
   ·rename_i hp; exact j5 _ (by simp only [Bool.not_eq_true', decide_eq_false_iff_not]; exact ⟨fun h hx => h hx.2, fun h hx => h ⟨hp, hx⟩⟩)
   ·rename_i hp; exact j5 _ (by simp only [true_iff]; exact fun h => hp h.1)
 have nodes : (2 ≤ g.length ∧ g.length ≤ 60) → Ev (fun k => spec_l6Fault.l0 k ⟨g, f⟩ 0) (if codesC (fun _ => gnC) 0 g = 0 then codesC (flC g.length f) 0 f else codesC (fun _ => gnC) 0 g) := by
  intro hlen
  refine codes_ev (c := fun _ => gnC) (g := fun k i => spec_l6Fault.l0 k ⟨g, f⟩ i) ?_ (fun i hi R h1 h2 => ?_)
  ·refine Ev.step (fun k => by rw [spec_l6Fault.l0, rd_oneG]) ?_
   simp only [Pl.ev_ite]
   rw [if_neg (by omega)]
   refine Pl.ev_to (flows hlen) ?_
   split
   ·rename_i h; exact h.symm
   ·rfl
  ·refine Ev.step (fun k => by rw [spec_l6Fault.l0, rd_oneG]) ?_
   simp only [Pl.ev_ite, Pl.ev_none, rd_iGNode g i hi, l1In_eq, bare_eq, Option.bind_some, decide_eq_true_eq]
   rw [if_pos (by omega), if_pos (by omega)]
   have hname := l1Name_ev (s := g[i].f2) rfl (by rw [Pl.size_toList]; have := (hgb _ (List.getElem_mem hi)).1; omega)
   have j3 : ∀ b : Bool, ((1 ≤ g[i].f0 ∧ g[i].f0 ≤ 13) ∧ bareC g[i]) → (b = true ↔ ¬ ((0 ≤ g[i].f1 ∧ g[i].f1 ≤ 23) ∧ (0 ≤ g[i].f3 ∧ g[i].f3 ≤ 99))) → Ev (fun k => spec_l6Fault.j3 k ⟨g, f⟩ (i : Int) g b) R := by
    intro b hA hb
    refine Ev.step (fun k => by rw [spec_l6Fault.j3]) ?_
    simp only [Pl.ev_ite, Pl.ev_none, Pl.ev_some, rd_iGNode g i hi, Pl.wrap_nat (show i < 9223372036854775807 by omega)]
    unfold gnC at h1 h2
    rw [if_pos hA] at h1 h2
    by_cases hp : (0 ≤ g[i].f1 ∧ g[i].f1 ≤ 23) ∧ (0 ≤ g[i].f3 ∧ g[i].f3 ≤ 99)
    ·rw [if_pos hp] at h1 h2
     rw [if_neg (fun hx => (hb.1 hx) hp), if_pos (by omega), if_pos (by omega)]
     by_cases hE : 16 < g[i].f4.length
     ·rw [if_pos hE] at h1 h2
      rw [if_pos (by omega)]; exact (h2 (by omega)).symm
     ·rw [if_neg hE] at h1 h2
      rw [if_neg (by omega)]
      by_cases h3 : g[i].f0 = 3
      ·rw [if_pos h3] at h1 h2
       rw [if_pos h3]
       refine Pl.ev_bind' hname ?_
       simp only [Pl.ev_ite, Pl.ev_some]
       by_cases h0 : Pl.nameC g[i].f2.data.toList = 0
       ·rw [if_pos h0]; exact h1 h0
       ·rw [if_neg h0]; exact (h2 h0).symm
      ·rw [if_neg h3] at h1 h2
       rw [if_neg h3]; exact h1 rfl
    ·rw [if_neg hp] at h1 h2
     rw [if_pos (hb.2 hp)]; exact (h2 (by omega)).symm
   have j2 : ∀ b : Bool, (b = true ↔ ¬ ((1 ≤ g[i].f0 ∧ g[i].f0 ≤ 13) ∧ bareC g[i])) → Ev (fun k => spec_l6Fault.j2 k ⟨g, f⟩ (i : Int) g b) R := by
    intro b hb
    refine Ev.step (fun k => by rw [spec_l6Fault.j2]) ?_
    simp only [Pl.ev_ite, Pl.ev_none, Pl.ev_some, rd_iGNode g i hi, l1In_eq, Option.bind_some, decide_eq_true_eq]
    by_cases hA : (1 ≤ g[i].f0 ∧ g[i].f0 ≤ 13) ∧ bareC g[i]
    ·rw [if_neg (fun hx => (hb.1 hx) hA), if_pos (by omega), if_pos (by omega)]
     split
     ·rename_i hp; exact j3 _ hA (by simp only [Bool.not_eq_true', decide_eq_false_iff_not]; exact ⟨fun h hx => h hx.2, fun h hx => h ⟨hp, hx⟩⟩)
     ·rename_i hp; exact j3 _ hA (by simp only [true_iff]; exact fun h => hp h.1)
    ·unfold gnC at h1 h2
     rw [if_neg hA] at h1 h2
     rw [if_pos (hb.2 hA)]; exact (h2 (by omega)).symm
   split
   ·rename_i hp; exact j2 _ (by simp only [Bool.not_eq_true', decide_eq_false_iff_not]; exact ⟨fun h hx => h hx.2, fun h hx => h ⟨hp, hx⟩⟩)
   ·rename_i hp; exact j2 _ (by simp only [true_iff]; exact fun h => hp h.1)
 have j0 : ∀ b : Bool, (b = true ↔ ¬ ((2 ≤ g.length ∧ g.length ≤ 60) ∧ f.length ≤ 80)) → Ev (fun k => spec_l6Fault.j0 k ⟨g, f⟩ b) (grC g f) := by
  intro b hb
  refine Ev.step (fun k => by rw [spec_l6Fault.j0]) ?_
  unfold grC
  simp only [Pl.ev_ite, Pl.ev_some]
  by_cases h : (2 ≤ g.length ∧ g.length ≤ 60) ∧ f.length ≤ 80
  ·rw [if_neg (fun hx => (hb.1 hx) h), if_pos h]; exact nodes h.1
  ·rw [if_pos (hb.2 h), if_neg h]
 unfold spec_l6Fault.f
 rw [rd_oneG]
 simp only [Pl.ev_ite]
 repeat' split
 all_goals (refine j0 _ ?_; simp; omega)
theorem foldl_le {α : Type} (f : α → Nat) (B : Nat) : ∀ (l : List α) (m : Nat), (∀ x ∈ l, f x ≤ B) → l.foldl (fun m x => m + f x) m ≤ m + l.length * B
 | [], m, _ => by simp
 | x :: l, m, h => by
  have h1 := foldl_le f B l (m + f x) (fun y hy => h y (List.mem_cons_of_mem _ hy))
  have h2 := h x List.mem_cons_self
  rw [List.foldl_cons, List.length_cons, Nat.succ_mul]
  omega
theorem manyNode_le (l : List S139) : laws_markNodeS.many l ≤ 4 * l.length := by
 have := foldl_le (fun _ : S139 => 4) 4 l 0 (fun _ _ => Nat.le_refl _)
 unfold laws_markNodeS.many
 omega
theorem markGraph_some (g : List S108) (f : List S106) (hg : cG g) (hf : cF f) : ∃ t : Int, laws_markGraph.f g f 1 = some t ∧ ¬ t < 0 := by
 refine ⟨_, rfl, ?_⟩
 have h1 : laws_markGNodeS.many g ≤ g.length * 4194308 := by
  have := foldl_le (fun x : S108 => 4 + laws_markNodeS.many x.f4) 4194308 g 0 (fun x hx => by
   have h4 := manyNode_le x.f4
   have := (hg.2 x hx)
   omega)
  unfold laws_markGNodeS.many
  omega
 have h2 : laws_markFlowS.many f ≤ f.length * 4194308 := by
  have := foldl_le (fun x : S106 => 2 + laws_markNodeS.many x.f2) 4194308 f 0 (fun x hx => by
   have h4 := manyNode_le x.f2
   have := (hf.2 x hx)
   omega)
  unfold laws_markFlowS.many
  omega
 have h3 : g.length * 4194308 ≤ 1048576 * 4194308 := Nat.mul_le_mul_right _ hg.1
 have h4 : f.length * 4194308 ≤ 1048576 * 4194308 := Nat.mul_le_mul_right _ hf.1
 rw [ups_nat _ 1 (by omega) (by omega), ups_nat _ _ (by omega) (by omega)]
 omega
end Go.Proofs.Ytcpcenhpmcfmjaa.F
