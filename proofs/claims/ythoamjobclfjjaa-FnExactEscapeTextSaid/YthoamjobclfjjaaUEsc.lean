/- The written form of a text: the program's and the reference's code of a text, the reference's loop. No condition but the text's size. -/
import Derived.Test.YthoamjobclfjjaaUCode
import Derived.Test.YthoamjobclfjjaaRH
import Derived.Test.YthoamjobclfjjaaR1
namespace Go.Proofs.Ythoamjobclfjjaa.R
set_option linter.unusedVariables false
set_option linter.unusedSimpArgs false
open Go.RowKit Go.Proofs.Ythoamjobclfjjaa Go.Proofs.YthoamjobclfjjaaW.PrintWords Go.Proofs.YthoamjobclfjjaaW.PrintLast
/-! values -/
theorem l1Plain_eq (c : UInt8) : spec_l1Plain.f (c.toNat : Int) = some (Pl.printB c) := by
  unfold spec_l1Plain.f Pl.printB
  by_cases h : (c.toNat : Int) ≥ 32
  · rw [if_pos h]; congr 1; rw [decide_eq_decide]; omega
  · rw [if_neg h]; congr 1; rw [eq_comm, decide_eq_false_iff_not]; omega
theorem isPrint_eq (c : UInt8) : impl_isPrint.f (c.toNat : Int) = some (Pl.printB c) := by
  unfold impl_isPrint.f Pl.printB
  by_cases h : (c.toNat : Int) ≥ 32
  · rw [if_pos h]; congr 1; rw [decide_eq_decide]; omega
  · rw [if_neg h]; congr 1; rw [eq_comm, decide_eq_false_iff_not]; omega
theorem l1Value_ev {s : ByteArray} {l : List UInt8} (hl : s.data.toList = l) : Ev (fun k => spec_l1Value.f k s) (Pl.valueC l) := by
  have hz := Pl.size_l hl
  unfold spec_l1Value.f Pl.valueC
  by_cases h40 : l.length > 40
  · rw [if_pos h40]
    exact Pl.ev_ite_pos (by omega) (Ev.now _)
  · rw [if_neg h40]
    refine Pl.ev_ite_neg (by omega) ?_
    have main := Pl.loop0 (n := l.length) (g := fun k i => spec_l1Value.l0 k s i) (F := fun i => if (l.drop i).all Pl.printB = true then (0 : Int) else 5) ?_ ?_ 0 (Nat.zero_le _)
    · simpa using main
    · refine Ev.step (fun k => by rw [spec_l1Value.l0]) ?_
      refine Pl.ev_ite_neg (by omega) (Pl.ev_to (Ev.now _) (by simp))
    · intro i hi ih
      refine Ev.step (fun k => by rw [spec_l1Value.l0]) ?_
      rw [Pl.drop_get hi, Pl.bt_l hl i hi, Pl.wrap_nat (show i < 9223372036854775807 by omega)]
      simp only [l1Plain_eq, Option.bind_some, List.all_cons]
      refine Pl.ev_ite_pos (by omega) (Pl.ev_ite_pos (by omega) ?_)
      by_cases h : Pl.printB l[i] = true
      · exact Pl.ev_ite_pos h (Pl.ev_to ih (by simp [h]))
      · exact Pl.ev_ite_neg h (Pl.ev_to (Ev.now _) (by simp [h]))
theorem arePrint_l {s : ByteArray} {l : List UInt8} (hl : s.data.toList = l) (hs : l.length < 9223372036854775807) : Ev (fun k => impl_areAll__impl_isPrint.f k s) (l.all Pl.printB) := by
  have hz := Pl.size_l hl
  unfold impl_areAll__impl_isPrint.f
  rw [hz]
  have main := Pl.loop0 (n := l.length) (g := fun k i => impl_areAll__impl_isPrint.l0 k s (l.length : Int) i) (F := fun i => (l.drop i).all Pl.printB) ?_ ?_ 0 (Nat.zero_le _)
  · simpa using main
  · refine Ev.step (fun k => by rw [impl_areAll__impl_isPrint.l0]) ?_
    exact Pl.ev_ite_neg (by omega) (Pl.ev_to (Ev.now _) (by simp))
  · intro i hi ih
    refine Ev.step (fun k => by rw [impl_areAll__impl_isPrint.l0]) ?_
    rw [Pl.drop_get hi, Pl.bt_l hl i hi, Pl.wrap_nat (show i < 9223372036854775807 by omega)]
    simp only [isPrint_eq, Option.bind_some, List.all_cons]
    refine Pl.ev_ite_pos (by omega) (Pl.ev_ite_pos (by omega) (Pl.ev_ite_pos (by omega) ?_))
    cases h : Pl.printB l[i]
    · exact Pl.ev_ite_neg (by simp) (Ev.now _)
    · refine Pl.ev_ite_pos rfl ?_
      rw [Bool.true_and]
      exact ih
theorem implValue_ev {s : ByteArray} {l : List UInt8} (hl : s.data.toList = l) (hs : l.length < 9223372036854775807) : Ev (fun k => impl_valueFault.f k s) (Pl.valueC l) := by
  have hz := Pl.size_l hl
  unfold impl_valueFault.f
  simp only [codeIf_eq, Option.bind_some]
  refine Pl.ev_bind' (arePrint_l hl hs) ?_
  refine Pl.ev_bind' (firstCode_ev _ (by simp)) (Pl.ev_to (Ev.now _) ?_)
  unfold Pl.valueC
  by_cases h40 : l.length > 40
  · rw [if_pos h40]
    simp [Pl.firstC, hz]
    omega
  · rw [if_neg h40]
    cases l.all Pl.printB
    · simp [Pl.firstC, hz]
      omega
    · simp [Pl.firstC, hz]
      omega
/-! the written form -/
theorem app_arr (L M : List UInt8) : (⟨L.toArray⟩ : ByteArray) ++ ⟨M.toArray⟩ = ⟨(L ++ M).toArray⟩ := by
  apply ByteArray.ext
  rw [ByteArray.data_append]
  simp
theorem extract_one (s : ByteArray) (i : Nat) (hi : i < s.data.toList.length) : s.extract i (i + 1) = ⟨[s.data.toList[i]].toArray⟩ := by
  apply ByteArray.ext
  rw [ByteArray.data_extract]
  have hi' : i < s.data.size := by simpa using hi
  have hzz : s.data.size = s.size := rfl
  apply Array.ext
  · simp
    omega
  · intro k h1 h2
    have : k = 0 := by simp at h2; exact h2
    subst this
    simp
theorem arr_size (L : List UInt8) : (⟨L.toArray⟩ : ByteArray).size = L.length := by simp [ByteArray.size]
theorem specEsc_ev (s : ByteArray) (hs : s.size ≤ 1000000) : Ev (fun k => spec_l1Escape.f k s) (escB s) := by
  have hz : s.data.toList.length = s.size := rfl
  unfold spec_l1Escape.f
  have main := Pl.loop (n := s.data.toList.length) (g := fun k i acc => spec_l1Escape.l0 k s acc i) (F := fun _ _ => escB s) (fun i acc => acc = ⟨(escL (s.data.toList.take i)).toArray⟩) ?_ ?_ 0 (⟨#[]⟩ : ByteArray) (Nat.zero_le _) rfl
  · exact main
  · rintro acc rfl
    refine Ev.step (fun k => by rw [spec_l1Escape.l0]) ?_
    refine Pl.ev_ite_neg (by omega) (Pl.ev_to (Ev.now _) ?_)
    rw [List.take_length]
    rfl
  · rintro i acc hi rfl ih
    refine Ev.step (fun k => by rw [spec_l1Escape.l0]) ?_
    have hle := (escL_le (s.data.toList.take i)).2
    have hlt : (s.data.toList.take i).length = i := List.length_take_of_le (Nat.le_of_lt hi)
    have hst := escL_step s.data.toList i hi
    rw [Pl.bt_l rfl i hi, Pl.wrap_nat (show i < 9223372036854775807 by omega)]
    refine Pl.ev_ite_pos (by omega) (Pl.ev_ite_pos (by omega) ?_)
    rw [arr_size]
    rcases repOf_cases s.data.toList[i] with ⟨e, e2⟩ | ⟨e, e2⟩ | ⟨e, e2⟩ | ⟨e, e2⟩ | ⟨n1, n2, n3, n4, e2⟩
    · rw [e]
      refine Pl.ev_ite_neg (by decide) (Pl.ev_ite_neg (by decide) (Pl.ev_ite_neg (by decide) (Pl.ev_ite_pos (by decide) (Pl.ev_ite_pos (by omega) ?_))))
      refine ih _ ?_
      rw [hst, esc1_some e2]
      exact app_arr _ [38, 113, 117, 111, 116, 59]
    · rw [e]
      refine Pl.ev_ite_neg (by decide) (Pl.ev_ite_neg (by decide) (Pl.ev_ite_pos (by decide) (Pl.ev_ite_pos (by omega) ?_)))
      refine ih _ ?_
      rw [hst, esc1_some e2]
      exact app_arr _ [38, 97, 109, 112, 59]
    · rw [e]
      refine Pl.ev_ite_neg (by decide) (Pl.ev_ite_pos (by decide) (Pl.ev_ite_pos (by omega) ?_))
      refine ih _ ?_
      rw [hst, esc1_some e2]
      exact app_arr _ [38, 103, 116, 59]
    · rw [e]
      refine Pl.ev_ite_pos (by decide) (Pl.ev_ite_pos (by omega) ?_)
      refine ih _ ?_
      rw [hst, esc1_some e2]
      exact app_arr _ [38, 108, 116, 59]
    · have ne : ∀ m : UInt8, s.data.toList[i] ≠ m → ((s.data.toList[i].toNat : Nat) : Int) ≠ ((m.toNat : Nat) : Int) := fun m h e => h (UInt8.toNat_inj.1 (by omega))
      refine Pl.ev_ite_neg (ne 60 n4) (Pl.ev_ite_neg (ne 62 n3) (Pl.ev_ite_neg (ne 38 n2) (Pl.ev_ite_neg (ne 34 n1) (Pl.ev_ite_pos (by omega) (Pl.ev_ite_pos (by omega) ?_)))))
      have ex : s.extract (i : Int).toNat ((i : Int) + 1).toNat = ⟨[s.data.toList[i]].toArray⟩ := by
        rw [show ((i : Int)).toNat = i by omega, show ((i : Int) + 1).toNat = i + 1 by omega]
        exact extract_one s i hi
      rw [ex, arr_size]
      refine Pl.ev_ite_pos (by simp; omega) ?_
      refine ih _ ?_
      rw [hst, esc1_none e2]
      exact app_arr _ _
end Go.Proofs.Ythoamjobclfjjaa.R
