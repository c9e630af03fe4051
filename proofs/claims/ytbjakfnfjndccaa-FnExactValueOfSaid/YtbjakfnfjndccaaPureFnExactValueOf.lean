/- FnExactValueOf: for every list of elements, place and name the program's ValueOf answers what the reference's answers, and turns none of the elements; no condition. -/
import Derived.Test.YtbjakfnfjndccaaUTFault
import Derived.Test.YtbjakfnfjndccaaTSFnExactValueOf
import Derived.Test.YtbjakfnfjndccaaT10
import Derived.Test.YtbjakfnfjndccaaT8
namespace Go.Proofs.Ytbjakfnfjndccaa.T
set_option linter.unusedVariables false
set_option linter.unusedSimpArgs false
open Go.RowKit Go.Proofs.Ytbjakfnfjndccaa Go.Proofs.YtbjakfnfjndccaaW.PrintWords Go.Proofs.YtbjakfnfjndccaaW.PrintLast
def valC : List At → List UInt8 → ByteArray × Bool
  | [], _ => ((⟨#[]⟩ : ByteArray), false)
  | y :: l, s => if y.f0.toList = s then (y.f1, true) else valC l s
theorem find_val (l : List At) (s : List UInt8) : ∀ d i : Nat, l.length - i = d → i ≤ l.length →
    (findC (l.drop i) s i = -1 ∧ valC (l.drop i) s = ((⟨#[]⟩ : ByteArray), false)) ∨ (∃ j : Nat, ∃ h : j < l.length, findC (l.drop i) s i = (j : Int) ∧ valC (l.drop i) s = (l[j].f1, true)) := by
  intro d
  induction d with
  | zero =>
    intro i hd hi
    left
    rw [List.drop_of_length_le (by omega)]
    exact ⟨rfl, rfl⟩
  | succ d ih =>
    intro i hd hi
    have hi' : i < l.length := by omega
    rw [Pl.drop_get hi', findC, valC]
    by_cases h : l[i].f0.toList = s
    · right
      exact ⟨i, hi', by rw [if_pos h], by rw [if_pos h]⟩
    · rw [if_neg h, if_neg h]
      exact ih (i + 1) (by omega) (by omega)
theorem specVal_ev (e : StE) (h : e.f2.length ≤ 1048576) (s : ByteArray) : Ev (fun k => spec_l2Value.f k e s) (valC e.f2 s.toList) := by
  unfold spec_l2Value.f
  refine Pl.ev_bind' (specAttr_ev e.f2 h s) ?_
  have e0 : (rd_T48 [e] 0).f2 = e.f2 := rfl
  rw [e0]
  rcases find_val e.f2 s.toList _ 0 rfl (Nat.zero_le _) with ⟨h1, h2⟩ | ⟨j, hj, h1, h2⟩
  · rw [List.drop_zero] at h1 h2
    rw [h1, h2]
    exact Pl.ev_ite_pos (by omega) (Ev.now _)
  · rw [List.drop_zero] at h1 h2
    rw [h1, h2, rd_iAttr e.f2 j hj]
    exact Pl.ev_ite_neg (by omega) (Pl.ev_ite_pos (by omega) (Pl.ev_ite_pos (by omega) (Ev.now _)))
theorem implVal_ev (t : ByteArray) (q : Int) (l : List At) (h : l.length ≤ 1048576) (s : ByteArray) : Ev (fun k => impl_valueOf.f k t q l s) (valC l s.toList) := by
  unfold impl_valueOf.f
  have main := Pl.loop0 (n := l.length) (g := fun k i => impl_valueOf.l0 k s l (l.length : Int) i) (F := fun i => valC (l.drop i) s.toList) ?_ ?_ 0 (Nat.zero_le _)
  · simpa using main
  · refine Ev.step (fun k => by rw [impl_valueOf.l0]) ?_
    rw [List.drop_length]
    exact Pl.ev_ite_neg (by omega) (Ev.now _)
  · intro i hi ih
    refine Ev.step (fun k => by rw [impl_valueOf.l0]) ?_
    rw [Pl.drop_get hi, Pl.wrap_nat (show i < 9223372036854775807 by omega), rd_iAttr l i hi]
    refine Pl.ev_ite_pos (by omega) (Pl.ev_ite_pos (by omega) (Pl.ev_ite_pos (by omega) ?_))
    by_cases h : l[i].f0.toList = s.toList
    · exact Pl.ev_to (Pl.ev_ite_pos h (Ev.now _)) (by rw [valC, if_pos h])
    · exact Pl.ev_to (Pl.ev_ite_neg h ih) (by rw [valC, if_neg h])
theorem value_ev (p : List StE) (hl : p.length ≤ 1048576) (hz : sizedE p) (a : Int) (s : ByteArray) : ∃ r : Int × ByteArray, Ev (fun k => spec_ValueOf.f k p a s) r ∧ Ev (fun k => impl_ValueOf.f k p a s) r := by
  obtain ⟨c, sp, im, _⟩ := tree_ev p hl hz
  have hpl : impl_isPlace.f a (p.length : Int) = some (decide (0 ≤ a ∧ a ≤ (p.length : Int) - 1)) := by
    unfold impl_isPlace.f
    rw [inRange_eq, Option.bind_some, Pl.wrap_in (by omega) (by omega)]
  have hin : spec_l1In.f a 0 (wrap64 ((p.length : Int) - 1)) = some (decide (0 ≤ a ∧ a ≤ (p.length : Int) - 1)) := by rw [l1In_eq, Pl.wrap_in (by omega) (by omega)]
  have impl : ∀ R, (c = 0 → (0 ≤ a ∧ a ≤ (p.length : Int) - 1) → Ev (fun k => if 0 ≤ a then (if a < (p.length : Int) then ((impl_valueOf.f k ((rd_T48 p a).f0) ((rd_T48 p a).f1) ((rd_T48 p a).f2) s).bind fun bt308 => (if bt308.2 = true then (some (0, bt308.1)) else (some (4, (⟨#[]⟩ : ByteArray))))) else (none)) else (none)) R) → (c = 0 → ¬ (0 ≤ a ∧ a ≤ (p.length : Int) - 1) → R = (3, (⟨#[]⟩ : ByteArray))) → (c ≠ 0 → R = (c, (⟨#[]⟩ : ByteArray))) → Ev (fun k => impl_ValueOf.f k p a s) R := by
    intro R h1 h2 h3
    unfold impl_ValueOf.f
    refine Pl.ev_bind' im ?_
    simp only [hpl, codeIf_eq, Option.bind_some]
    refine Pl.ev_bind' (firstCode_ev _ (by simp)) ?_
    rw [f1of2]
    by_cases hc : c = 0
    · rw [if_pos hc]
      by_cases hr : 0 ≤ a ∧ a ≤ (p.length : Int) - 1
      · rw [decide_eq_true hr]
        exact Pl.ev_ite_pos rfl (h1 hc hr)
      · rw [decide_eq_false hr, h2 hc hr]
        exact Pl.ev_ite_neg (by simp) (Ev.now _)
    · rw [if_neg hc, h3 hc]
      exact Pl.ev_ite_neg hc (Ev.now _)
  by_cases hc : c = 0
  · by_cases hr : 0 ≤ a ∧ a ≤ (p.length : Int) - 1
    · obtain ⟨n, rfl⟩ := Int.eq_ofNat_of_zero_le hr.1
      obtain ⟨z1, z2⟩ := hz n (by omega)
      have sv := specVal_ev (rdE p n) z2.1 s
      have iv := implVal_ev (rdE p n).f0 (rdE p n).f1 (rdE p n).f2 z2.1 s
      have fin : ∃ R : Int × ByteArray, Ev (fun _ => if (valC (rdE p n).f2 s.toList).2 = true then (some ((0 : Int), (valC (rdE p n).f2 s.toList).1)) else (some (4, (⟨#[]⟩ : ByteArray)))) R := by
        by_cases hv : (valC (rdE p n).f2 s.toList).2 = true
        · exact ⟨_, Pl.ev_ite_pos hv (Ev.now _)⟩
        · exact ⟨_, Pl.ev_ite_neg hv (Ev.now _)⟩
      obtain ⟨R, fin⟩ := fin
      refine ⟨R, ?_, impl R (fun _ _ => Pl.ev_ite_pos hr.1 (Pl.ev_ite_pos (by omega) (Pl.ev_bind' iv fin))) (fun _ h' => absurd hr h') (fun h' => absurd hc h')⟩
      unfold spec_ValueOf.f
      refine Pl.ev_bind' sp (Pl.ev_ite_pos hc ?_)
      simp only [hin, Option.bind_some]
      exact Pl.ev_ite_pos (decide_eq_true hr) (Pl.ev_ite_pos hr.1 (Pl.ev_ite_pos (by omega) (Pl.ev_bind' sv fin)))
    · refine ⟨(3, (⟨#[]⟩ : ByteArray)), ?_, impl _ (fun _ h' => absurd h' hr) (fun _ _ => rfl) (fun h' => absurd hc h')⟩
      unfold spec_ValueOf.f
      refine Pl.ev_bind' sp (Pl.ev_ite_pos hc ?_)
      simp only [hin, Option.bind_some]
      exact Pl.ev_ite_neg (by simpa using hr) (Ev.now _)
  · refine ⟨(c, (⟨#[]⟩ : ByteArray)), ?_, impl _ (fun h' => absurd h' hc) (fun h' => absurd h' hc) (fun _ => rfl)⟩
    unfold spec_ValueOf.f
    exact Pl.ev_bind' sp (Pl.ev_ite_neg hc (Ev.now _))
end Go.Proofs.Ytbjakfnfjndccaa.T
namespace Go.Proofs.Ytbjakfnfjndccaa.Pure
open Go.RowKit Go.Proofs.Ytbjakfnfjndccaa Go.Proofs.Ytbjakfnfjndccaa.T Go.Proofs.YtbjakfnfjndccaaW.PrintWords Go.Proofs.YtbjakfnfjndccaaW.PrintLast
theorem FnExactValueOf : laws_FnExactValueOf.Pure := by
  intro a at' name ha hat hname
  refine Ev.rounds (g := fun k => laws_FnExactValueOf.f k a at' name) ?_
  unfold laws_FnExactValueOf.f
  by_cases hs : (name.size : Int) > 1048576
  · exact Pl.ev_ite_pos hs (Ev.now _)
  · refine Pl.ev_ite_neg hs ?_
    obtain ⟨r, r0, r1, r2, r3⟩ := szElemS_ev a ha.1 ha.2 1048576 (by omega) (by omega)
    refine Pl.ev_bind' r3 ?_
    by_cases hr : r < 0
    · exact Pl.ev_ite_pos hr (Ev.now _)
    · refine Pl.ev_ite_neg hr ?_
      obtain ⟨a1, a2⟩ := r2 (by omega)
      have ta := toElemS_ev a a1 a2
      have la : (a.map toElem).length ≤ 1048576 := by simpa using a1
      have ba : ∀ y ∈ a.map toElem, y.f2.length ≤ 1048576 := by
        intro y hy
        obtain ⟨z, hz, rfl⟩ := List.mem_map.1 hy
        simpa [toElem] using (a2 z hz).2.1
      obtain ⟨⟨c, v⟩, s, m⟩ := value_ev (a.map toElem) la (sizedE_map a a2) at' name
      have eqt : laws_eqTextResult.f c v c v = some true := by
        unfold laws_eqTextResult.f
        rw [if_pos rfl, if_pos rfl]
      refine Pl.ev_bind' ta (Pl.ev_bind' s (Pl.ev_bind' ta (Pl.ev_bind' m ?_)))
      simp only [eqt, Option.bind_some]
      exact Pl.ev_ite_pos trivial (Pl.ev_bind' ta (Pl.ev_bind' (eqElemS_ev _ la ba) (Pl.ev_ite_pos rfl (Ev.now _))))
end Go.Proofs.Ytbjakfnfjndccaa.Pure
