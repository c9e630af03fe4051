/- The code of a tree: the program and the reference say the same. No condition. -/
import Derived.Test.YtbjakfnfjndccaaUPar
import Derived.Test.YtbjakfnfjndccaaUMark
import Derived.Test.YtbjakfnfjndccaaT2
import Derived.Test.YtbjakfnfjndccaaT1
import Derived.Test.YtbjakfnfjndccaaT6
import Derived.Test.YtbjakfnfjndccaaT5
namespace Go.Proofs.Ytbjakfnfjndccaa.T
set_option linter.unusedVariables false
set_option linter.unusedSimpArgs false
open Go.RowKit Go.Proofs.Ytbjakfnfjndccaa Go.Proofs.YtbjakfnfjndccaaW.PrintWords Go.Proofs.YtbjakfnfjndccaaW.PrintLast
abbrev At := S78
/-! values -/
theorem l1Plain_eq (c : UInt8) : spec_l1Plain.f (c.toNat : Int) = some (Pl.printB c) := by
  unfold spec_l1Plain.f Pl.printB
  by_cases h : (c.toNat : Int) ≥ 32
  · rw [if_pos h]; congr 1; rw [decide_eq_decide]; omega
  · rw [if_neg h]; congr 1; rw [eq_comm, decide_eq_false_iff_not]; omega
theorem isPrint_eq (c : UInt8) : impl_isPrint.f (c.toNat : Int) = some (Pl.printB c) := by
  unfold impl_isPrint.f Pl.printB
  by_cases h : (c.toNat : Int) ≥ 32
  · rw [if_pos h]; congr 1; rw [decide_eq_decide]; omega
  · rw [if_neg h]; congr 1; rw [eq_comm, decide_eq_false_iff_not]; omega
theorem l1Value_ev {s : ByteArray} {l : List UInt8} (hl : s.data.toList = l) : Ev (fun k => spec_l1Value.f k s) (Pl.valueC l) := by
  have hz := Pl.size_l hl
  unfold spec_l1Value.f Pl.valueC
  by_cases h40 : l.length > 40
  · rw [if_pos h40]
    exact Pl.ev_ite_pos (by omega) (Ev.now _)
  · rw [if_neg h40]
    refine Pl.ev_ite_neg (by omega) ?_
    have main := Pl.loop0 (n := l.length) (g := fun k i => spec_l1Value.l0 k s i) (F := fun i => if (l.drop i).all Pl.printB = true then (0 : Int) else 5) ?_ ?_ 0 (Nat.zero_le _)
    · simpa using main
    · refine Ev.step (fun k => by rw [spec_l1Value.l0]) ?_
      refine Pl.ev_ite_neg (by omega) (Pl.ev_to (Ev.now _) (by simp))
    · intro i hi ih
      refine Ev.step (fun k => by rw [spec_l1Value.l0]) ?_
      rw [Pl.drop_get hi, Pl.bt_l hl i hi, Pl.wrap_nat (show i < 9223372036854775807 by omega)]
      simp only [l1Plain_eq, Option.bind_some, List.all_cons]
      refine Pl.ev_ite_pos (by omega) (Pl.ev_ite_pos (by omega) ?_)
      by_cases h : Pl.printB l[i] = true
      · exact Pl.ev_ite_pos h (Pl.ev_to ih (by simp [h]))
      · exact Pl.ev_ite_neg h (Pl.ev_to (Ev.now _) (by simp [h]))
theorem arePrint_l {s : ByteArray} {l : List UInt8} (hl : s.data.toList = l) (hs : l.length < 9223372036854775807) : Ev (fun k => impl_areAll__impl_isPrint.f k s) (l.all Pl.printB) := by
  have hz := Pl.size_l hl
  unfold impl_areAll__impl_isPrint.f
  rw [hz]
  have main := Pl.loop0 (n := l.length) (g := fun k i => impl_areAll__impl_isPrint.l0 k s (l.length : Int) i) (F := fun i => (l.drop i).all Pl.printB) ?_ ?_ 0 (Nat.zero_le _)
  · simpa using main
  · refine Ev.step (fun k => by rw [impl_areAll__impl_isPrint.l0]) ?_
    exact Pl.ev_ite_neg (by omega) (Pl.ev_to (Ev.now _) (by simp))
  · intro i hi ih
    refine Ev.step (fun k => by rw [impl_areAll__impl_isPrint.l0]) ?_
    rw [Pl.drop_get hi, Pl.bt_l hl i hi, Pl.wrap_nat (show i < 9223372036854775807 by omega)]
    simp only [isPrint_eq, Option.bind_some, List.all_cons]
    refine Pl.ev_ite_pos (by omega) (Pl.ev_ite_pos (by omega) (Pl.ev_ite_pos (by omega) ?_))
    cases h : Pl.printB l[i]
    · exact Pl.ev_ite_neg (by simp) (Ev.now _)
    · refine Pl.ev_ite_pos rfl ?_
      rw [Bool.true_and]
      exact ih
theorem implValue_ev {s : ByteArray} {l : List UInt8} (hl : s.data.toList = l) (hs : l.length < 9223372036854775807) : Ev (fun k => impl_valueFault.f k s) (Pl.valueC l) := by
  have hz := Pl.size_l hl
  unfold impl_valueFault.f
  simp only [codeIf_eq, Option.bind_some]
  refine Pl.ev_bind' (arePrint_l hl hs) ?_
  refine Pl.ev_bind' (firstCode_ev _ (by simp)) (Pl.ev_to (Ev.now _) ?_)
  unfold Pl.valueC
  by_cases h40 : l.length > 40
  · rw [if_pos h40]
    simp [Pl.firstC, hz]
    omega
  · rw [if_neg h40]
    cases l.all Pl.printB
    · simp [Pl.firstC, hz]
      omega
    · simp [Pl.firstC, hz]
      omega
/-! attrs -/
def findC : List At → List UInt8 → Nat → Int
  | [], _, _ => -1
  | y :: l, s, i => if y.f0.toList = s then (i : Int) else findC l s (i + 1)
theorem findC_end (s : List UInt8) (i : Nat) : findC [] s i = -1 := rfl
theorem specAttr_ev (l : List At) (hl : l.length ≤ 1048576) (s : ByteArray) : Ev (fun k => spec_l2Attr.f k l s) (findC l s.toList 0) := by
  unfold spec_l2Attr.f
  have main := Pl.loop0 (n := l.length) (g := fun k i => spec_l2Attr.l0 k l s i) (F := fun i => findC (l.drop i) s.toList i) ?_ ?_ 0 (Nat.zero_le _)
  · simpa using main
  · refine Ev.step (fun k => by rw [spec_l2Attr.l0]) ?_
    rw [List.drop_length]
    exact Pl.ev_ite_neg (by omega) (Ev.now _)
  · intro i hi ih
    refine Ev.step (fun k => by rw [spec_l2Attr.l0]) ?_
    rw [Pl.drop_get hi, Pl.wrap_nat (show i < 9223372036854775807 by omega), rd_iAttr l i hi]
    refine Pl.ev_ite_pos (by omega) (Pl.ev_ite_pos (by omega) ?_)
    by_cases h : l[i].f0.toList = s.toList
    · exact Pl.ev_to (Pl.ev_ite_pos h (Ev.now _)) (by rw [findC, if_pos h])
    · exact Pl.ev_to (Pl.ev_ite_neg h ih) (by rw [findC, if_neg h])
theorem implIndex_ev (l : List At) (hl : l.length ≤ 1048576) (s : ByteArray) : Ev (fun k => slices_IndexFunc_Attr_Attr__impl_isTaken_1.f k l s) (findC l s.toList 0) := by
  unfold slices_IndexFunc_Attr_Attr__impl_isTaken_1.f
  have main := Pl.loop0 (n := l.length) (g := fun k i => slices_IndexFunc_Attr_Attr__impl_isTaken_1.l0 k l (l.length : Int) i s) (F := fun i => findC (l.drop i) s.toList i) ?_ ?_ 0 (Nat.zero_le _)
  · simpa using main
  · refine Ev.step (fun k => by rw [slices_IndexFunc_Attr_Attr__impl_isTaken_1.l0]) ?_
    rw [List.drop_length]
    exact Pl.ev_ite_neg (by omega) (Ev.now _)
  · intro i hi ih
    refine Ev.step (fun k => by rw [slices_IndexFunc_Attr_Attr__impl_isTaken_1.l0]) ?_
    rw [Pl.drop_get hi, Pl.wrap_nat (show i < 9223372036854775807 by omega), rd_iAttr l i hi]
    refine Pl.ev_ite_pos (by omega) (Pl.ev_ite_pos (by omega) (Pl.ev_ite_pos (by omega) ?_))
    refine Pl.ev_bind' (a := (l[i].f0.toList == s.toList)) (Ev.now _) ?_
    by_cases h : l[i].f0.toList = s.toList
    · exact Pl.ev_to (Pl.ev_ite_pos (beq_iff_eq.2 h) (Ev.now _)) (by rw [findC, if_pos h])
    · exact Pl.ev_to (Pl.ev_ite_neg (by simpa using h) ih) (by rw [findC, if_neg h])
theorem implTaken_ev (l : List At) (hl : l.length ≤ 1048576) (s : ByteArray) : Ev (fun k => impl_isTaken.f k l s) (decide (findC l s.toList 0 ≥ 0)) := by
  unfold impl_isTaken.f slices_ContainsFunc_Attr_Attr__impl_isTaken_1.f
  exact Pl.ev_bind' (Pl.ev_bind' (implIndex_ev l hl s) (Ev.now _)) (Ev.now _)
def attrC (l : List At) (i : Nat) (x : At) : Int := Pl.firstC [Pl.nameC x.f0.data.toList, if findC (l.take i) x.f0.toList 0 ≥ 0 then 6 else 0, Pl.valueC x.f1.data.toList]
def attrsC (l : List At) : Nat → List At → Int
  | _, [] => 0
  | i, x :: r => if attrC l i x = 0 then attrsC l (i + 1) r else attrC l i x
def okA (l : List At) : Prop := l.length ≤ 1048576 ∧ ∀ y ∈ l, y.f0.size ≤ 1048576 ∧ y.f1.size ≤ 1048576
theorem f1of3 (a b c : Int) : Pl.firstC [a, b, c] = if a = 0 then (if b = 0 then c else b) else a := by
  unfold Pl.firstC Pl.firstC Pl.firstC Pl.firstC
  by_cases ha : a = 0
  · rw [if_pos ha, if_pos ha]
    by_cases hb : b = 0
    · rw [if_pos hb, if_pos hb]
      by_cases hc : c = 0
      · rw [if_pos hc, hc]
      · rw [if_neg hc]
    · rw [if_neg hb, if_neg hb]
  · rw [if_neg ha, if_neg ha]
theorem specAttrs_ev (l : List At) (h : okA l) : Ev (fun k => spec_l2Attrs.f k l) (attrsC l 0 l) := by
  obtain ⟨hl, hb⟩ := h
  unfold spec_l2Attrs.f
  have main := Pl.loop0 (n := l.length) (g := fun k i => spec_l2Attrs.l0 k l i) (F := fun i => attrsC l i (l.drop i)) ?_ ?_ 0 (Nat.zero_le _)
  · simpa using main
  · refine Ev.step (fun k => by rw [spec_l2Attrs.l0]) ?_
    rw [List.drop_length]
    exact Pl.ev_ite_neg (by omega) (Ev.now _)
  · intro i hi ih
    obtain ⟨b1, b2⟩ := hb _ (List.getElem_mem hi)
    have z1 : l[i].f0.data.toList.length < 9223372036854775807 := by rw [Pl.size_toList]; omega
    refine Ev.step (fun k => by rw [spec_l2Attrs.l0]) ?_
    rw [Pl.drop_get hi, Pl.wrap_nat (show i < 9223372036854775807 by omega), rd_iAttr l i hi, Int.toNat_natCast]
    refine Pl.ev_ite_pos (by omega) (Pl.ev_ite_pos (by omega) (Pl.ev_bind' (l1Name_ev rfl z1) ?_))
    unfold attrsC attrC
    rw [f1of3]
    by_cases hn : Pl.nameC l[i].f0.data.toList = 0
    · refine Pl.ev_ite_pos hn (Pl.ev_ite_pos (by omega) (Pl.ev_bind' (specAttr_ev (l.take i) (by rw [List.length_take]; omega) _) ?_))
      rw [if_pos hn]
      by_cases hf : findC (l.take i) l[i].f0.toList 0 ≥ 0
      · simp only [if_pos hf]
        exact Pl.ev_to (Ev.now _) (by simp)
      · simp only [if_neg hf, if_true]
        refine Pl.ev_bind' (l1Value_ev rfl) ?_
        by_cases hv : Pl.valueC l[i].f1.data.toList = 0
        · exact Pl.ev_to (Pl.ev_ite_pos hv ih) (by rw [if_pos hv])
        · exact Pl.ev_to (Pl.ev_ite_neg hv (Ev.now _)) (by rw [if_neg hv])
    · exact Pl.ev_to (Pl.ev_ite_neg hn (Ev.now _)) (by rw [if_neg hn, if_neg hn])
theorem implAttrs_ev (l : List At) (h : okA l) : Ev (fun k => impl_attrsFault.f k l) (attrsC l 0 l) := by
  obtain ⟨hl, hb⟩ := h
  unfold impl_attrsFault.f
  have main := Pl.loop0 (n := l.length) (g := fun k i => impl_attrsFault.l0 k l l (l.length : Int) i) (F := fun i => attrsC l i (l.drop i)) ?_ ?_ 0 (Nat.zero_le _)
  · simpa using main
  · refine Ev.step (fun k => by rw [impl_attrsFault.l0]) ?_
    rw [List.drop_length]
    exact Pl.ev_ite_neg (by omega) (Ev.now _)
  · intro i hi ih
    obtain ⟨b1, b2⟩ := hb _ (List.getElem_mem hi)
    have z1 : l[i].f0.data.toList.length < 9223372036854775807 := by rw [Pl.size_toList]; omega
    have z2 : l[i].f1.data.toList.length < 9223372036854775807 := by rw [Pl.size_toList]; omega
    refine Ev.step (fun k => by rw [impl_attrsFault.l0]) ?_
    rw [Pl.drop_get hi, Pl.wrap_nat (show i < 9223372036854775807 by omega), rd_iAttr l i hi, Int.toNat_natCast]
    refine Pl.ev_ite_pos (by omega) (Pl.ev_ite_pos (by omega) (Pl.ev_ite_pos (by omega) (Pl.ev_bind' (impl_name rfl z1) (Pl.ev_ite_pos (by omega) (Pl.ev_bind' (implTaken_ev (l.take i) (by rw [List.length_take]; omega) _) ?_)))))
    simp only [codeIf_eq, Option.bind_some]
    refine Pl.ev_bind' (implValue_ev rfl z2) (Pl.ev_bind' (firstCode_ev _ (by simp)) ?_)
    rw [show Pl.firstC [Pl.nameC l[i].f0.data.toList, if decide (findC (l.take i) l[i].f0.toList 0 ≥ 0) = true then (6 : Int) else 0, Pl.valueC l[i].f1.data.toList] = attrC l i l[i] from by unfold attrC; simp only [decide_eq_true_eq]]
    unfold attrsC
    by_cases hc : attrC l i l[i] = 0
    · exact Pl.ev_to (Pl.ev_ite_pos hc ih) (by rw [if_pos hc])
    · exact Pl.ev_to (Pl.ev_ite_neg hc (Ev.now _)) (by rw [if_neg hc])
/-! elements -/
abbrev rdE (p : List StE) (j : Int) : StE := rd_T48 p j
def sizedE (p : List StE) : Prop := ∀ i : Nat, i < p.length → (rdE p i).f0.size ≤ 1048576 ∧ okA (rdE p i).f2
theorem f1of2 (a b : Int) : Pl.firstC [a, b] = if a = 0 then b else a := by
  unfold Pl.firstC Pl.firstC Pl.firstC
  by_cases ha : a = 0
  · by_cases hb : b = 0
    · rw [if_pos ha, if_pos hb, if_pos ha, hb]
    · rw [if_pos ha, if_neg hb, if_pos ha]
  · rw [if_neg ha, if_neg ha]
/-- One element: a code; where it is 0, all goes on. -/
theorem oneE_ev {p : List StE} {i : Nat} (hi : i < p.length) (h40 : p.length ≤ 40) (h : treeOkE p i) (hz : sizedE p) :
    ∃ c : Int, (∀ R, (c ≠ 0 → R = c) → (c = 0 → Ev (fun k => spec_l2Fault.l0 k p ((i : Int) + 1)) R) → Ev (fun k => spec_l2Fault.l0 k p i) R) ∧
      (∀ R, (c ≠ 0 → R = c) → (c = 0 → Ev (fun k => impl_TreeFault.l0 k p (p.length : Int) ((i : Int) + 1) (plE p (i + 1)) (dlE p (i + 1))) R) → Ev (fun k => impl_TreeFault.l0 k p (p.length : Int) i (plE p i) (dlE p i)) R) ∧ (c = 0 → treeOkE p (i + 1)) := by
  obtain ⟨hz1, hz2⟩ := hz i hi
  have z1 : (rdE p i).f0.data.toList.length < 9223372036854775807 := by rw [Pl.size_toList]; omega
  -- the reference, behind the name
  have spec : ∀ R, (Pl.nameC (rdE p i).f0.data.toList ≠ 0 → R = Pl.nameC (rdE p i).f0.data.toList) → (Pl.nameC (rdE p i).f0.data.toList = 0 → ∀ bad : Bool, (bad = true ↔ ¬ rangeOkE p i) → Ev (fun k => spec_l2Fault.j2 k p i bad) R) → Ev (fun k => spec_l2Fault.l0 k p i) R := by
    intro R h1 h2
    refine Ev.step (fun k => by rw [spec_l2Fault.l0]) ?_
    refine Pl.ev_ite_pos (by omega) (Pl.ev_ite_pos (by omega) (Pl.ev_bind' (l1Name_ev rfl z1) ?_))
    by_cases hn : Pl.nameC (rdE p i).f0.data.toList = 0
    · refine Pl.ev_ite_pos hn ?_
      have h3 := h2 hn
      by_cases h0 : i = 0
      · refine Pl.ev_ite_pos (by omega) ?_
        by_cases hq : prE p i = -1
        · refine Pl.ev_ite_pos hq (Pl.ev_ite_neg (by omega) ?_)
          exact h3 false ⟨fun h' => by simp at h', fun h' => absurd ⟨fun _ => hq, fun h'' => by omega⟩ h'⟩
        · refine Pl.ev_ite_neg hq ?_
          exact h3 true ⟨fun _ h' => hq (h'.1 h0), fun _ => rfl⟩
      · refine Pl.ev_ite_neg (by omega) (Pl.ev_ite_pos (by omega) ?_)
        simp only [l1In_eq, Option.bind_some]
        rw [Pl.wrap_in (by omega) (by omega)]
        refine h3 _ ⟨fun h' h'' => ?_, fun h' => ?_⟩
        · have := h''.2 (by omega)
          simp only [Bool.not_eq_true', decide_eq_false_iff_not] at h'
          exact h' this
        · simp only [Bool.not_eq_true', decide_eq_false_iff_not]
          exact fun h'' => h' ⟨fun h0' => absurd h0' h0, fun _ => h''⟩
    · rw [h1 hn]
      exact Pl.ev_ite_neg hn (Ev.now _)
  have implpre : ∀ (nc : Int) (L1 L2 : List Int) R, Ev (fun k => impl_parents_next.f k (plE p i) (dlE p i) (prE p i)) (nc, L1, L2) → ((if Pl.nameC (rdE p i).f0.data.toList = 0 then nc else Pl.nameC (rdE p i).f0.data.toList) ≠ 0 → R = (if Pl.nameC (rdE p i).f0.data.toList = 0 then nc else Pl.nameC (rdE p i).f0.data.toList)) →
      (Pl.nameC (rdE p i).f0.data.toList = 0 → nc = 0 → Ev (fun k => (impl_parents_last.f L1 L2).bind fun bt243 => (if bt243.1 > 8 then ((impl_codeIf.f true 2).bind fun t250 => ((impl_attrsFault.f k ((rdE p i).f2)).bind fun t251 => ((impl_firstCode.f k (([t250, t251] : List Int))).bind fun t255 => (if t255 = 0 then (impl_TreeFault.l0 k p (p.length : Int) ((i : Int) + 1) bt243.2.1 bt243.2.2) else (some t255))))) else ((impl_codeIf.f (decide ((((rdE p i).f2).length : Int) > 6)) 2).bind fun t256 => ((impl_attrsFault.f k ((rdE p i).f2)).bind fun t257 => ((impl_firstCode.f k (([t256, t257] : List Int))).bind fun t261 => (if t261 = 0 then (impl_TreeFault.l0 k p (p.length : Int) ((i : Int) + 1) bt243.2.1 bt243.2.2) else (some t261))))))) R) → Ev (fun k => impl_TreeFault.l0 k p (p.length : Int) i (plE p i) (dlE p i)) R := by
    intro nc L1 L2 R hn h1 h2
    refine Ev.step (fun k => by rw [impl_TreeFault.l0]) ?_
    rw [Pl.wrap_nat (show i < 9223372036854775807 by omega)]
    refine Pl.ev_ite_pos (by omega) (Pl.ev_ite_pos (by omega) (Pl.ev_ite_pos (by omega) (Pl.ev_bind' (impl_name rfl z1) (Pl.ev_bind' hn (Pl.ev_bind' (firstCode_ev _ (by simp)) ?_)))))
    rw [f1of2]
    by_cases hc : (if Pl.nameC (rdE p i).f0.data.toList = 0 then nc else Pl.nameC (rdE p i).f0.data.toList) = 0
    · have hn0 : Pl.nameC (rdE p i).f0.data.toList = 0 := by
        by_cases q : Pl.nameC (rdE p i).f0.data.toList = 0
        · exact q
        · rw [if_neg q] at hc; exact absurd hc q
      have hc' := hc
      rw [if_pos hn0] at hc'
      exact Pl.ev_ite_pos hc (h2 hn0 hc')
    · rw [h1 hc]
      exact Pl.ev_ite_neg hc (Ev.now _)
  by_cases hn : Pl.nameC (rdE p i).f0.data.toList = 0
  · rcases next_evE hi h40 h with ⟨hr, nx⟩ | ⟨hr, b, b1, b2, nx⟩
    · refine ⟨3, fun R h1 _ => spec R (fun h' => absurd hn h') (fun _ bad hbad => ?_), fun R h1 _ => implpre 3 _ _ R nx (fun _ => ?_) (fun _ h' => absurd h' (by omega)), fun h' => absurd h' (by omega)⟩
      · obtain rfl := hbad.2 hr
        rw [h1 (by omega)]
        refine Ev.step (fun k => by rw [spec_l2Fault.j2]) ?_
        exact Pl.ev_ite_pos rfl (Ev.now _)
      · rw [if_pos hn]
        exact h1 (by omega)
    · have j2 : ∀ R, (b = true → Ev (fun k => spec_l2Fault.j3 k p i false) R) → (b = false → R = 1) → ∀ bad : Bool, (bad = true ↔ ¬ rangeOkE p i) → Ev (fun k => spec_l2Fault.j2 k p i bad) R := by
        intro R h1 h2 bad hbad
        obtain rfl : bad = false := by cases bad; rfl; exact absurd hr (hbad.1 rfl)
        refine Ev.step (fun k => by rw [spec_l2Fault.j2]) ?_
        refine Pl.ev_ite_neg (by simp) ?_
        by_cases h0 : i = 0
        · exact Pl.ev_ite_neg (by omega) (h1 (b2 h0))
        · refine Pl.ev_ite_pos (by omega) (Pl.ev_bind' (b1 (by omega)) ?_)
          cases hb : b
          · rw [h2 hb]
            refine Ev.step (fun k => by rw [spec_l2Fault.j3]) ?_
            exact Pl.ev_ite_pos rfl (Ev.now _)
          · exact h1 hb
      cases hb : b
      · rw [hb] at nx
        refine ⟨1, fun R h1 _ => spec R (fun h' => absurd hn h') (fun _ => j2 R (fun h' => by rw [hb] at h'; cases h') (fun _ => h1 (by omega))), fun R h1 _ => implpre 1 _ _ R nx (fun _ => ?_) (fun _ h' => absurd h' (by omega)), fun h' => absurd h' (by omega)⟩
        rw [if_pos hn]
        exact h1 (by omega)
      · rw [hb] at nx
        have ht : treeOkE p (i + 1) := by
          intro j hj
          by_cases hj' : j < i
          · exact h j hj'
          · obtain rfl : j = i := by omega
            exact hr
        have hdl := deep_leE ht _ (i : Int) rfl (by omega) (by omega)
        have hdeep := specDeep_evE ht (by omega) (by omega) _ (i : Int) rfl (by omega) (by omega) 0 (by omega) (by omega)
        rw [Int.zero_add] at hdeep
        have hlast : impl_parents_last.f (plE p (i + 1)) (dlE p (i + 1)) = some (deepE p i, plE p (i + 1), dlE p (i + 1)) := by
          unfold impl_parents_last.f
          rw [dl_lenE, Pl.wrap_in (by omega) (by omega), if_pos (by omega), if_pos (by omega), show (((i + 1 : Nat) : Int) - 1) = (i : Int) from by omega, dl_rdE p (i + 1) _ (by omega) (by omega)]
        have sA := specAttrs_ev _ hz2
        have mA := implAttrs_ev _ hz2
        by_cases hm : deepE p i > 8 ∨ ((rdE p i).f2.length : Int) > 6
        · have j4 : Ev (fun k => spec_l2Fault.j4 k p i true) 2 := by
            refine Ev.step (fun k => by rw [spec_l2Fault.j4]) ?_
            exact Pl.ev_ite_pos rfl (Ev.now _)
          refine ⟨2, fun R h1 _ => spec R (fun h' => absurd hn h') (fun _ => j2 R (fun _ => ?_) (fun h' => by rw [hb] at h'; cases h')), fun R h1 _ => implpre 0 _ _ R nx (fun h' => absurd (if_pos hn) h') (fun _ _ => ?_), fun h' => absurd h' (by omega)⟩
          · rw [h1 (by omega)]
            refine Ev.step (fun k => by rw [spec_l2Fault.j3]) ?_
            refine Pl.ev_ite_neg (by simp) (Pl.ev_bind' (by unfold spec_l2Deep.f; exact hdeep) ?_)
            by_cases hd : deepE p i > 8
            · exact Pl.ev_ite_pos hd j4
            · refine Pl.ev_ite_neg hd (Pl.ev_ite_pos (by omega) (Pl.ev_ite_pos (by omega) ?_))
              rw [decide_eq_true (show ((rd_T48 p (i : Int)).f2.length : Int) > 6 from hm.resolve_left hd)]
              exact j4
          · rw [h1 (by omega)]
            simp only [hlast, codeIf_eq, Option.bind_some]
            by_cases hd : deepE p i > 8
            · refine Pl.ev_ite_pos hd (Pl.ev_bind' mA (Pl.ev_bind' (firstCode_ev _ (by simp)) ?_))
              rw [f1of2]
              exact Pl.ev_ite_neg (by simp) (Pl.ev_to (Ev.now _) (by simp))
            · refine Pl.ev_ite_neg hd (Pl.ev_bind' mA (Pl.ev_bind' (firstCode_ev _ (by simp)) ?_))
              rw [f1of2, decide_eq_true (hm.resolve_left hd)]
              exact Pl.ev_ite_neg (by simp) (Pl.ev_to (Ev.now _) (by simp))
        · have hd : ¬ deepE p i > 8 := fun h' => hm (Or.inl h')
          have ha : ¬ ((rdE p i).f2.length : Int) > 6 := fun h' => hm (Or.inr h')
          refine ⟨attrsC (rdE p i).f2 0 (rdE p i).f2, fun R h1 h2 => spec R (fun h' => absurd hn h') (fun _ => j2 R (fun _ => ?_) (fun h' => by rw [hb] at h'; cases h')), fun R h1 h2 => implpre 0 _ _ R nx (fun h' => absurd (if_pos hn) h') (fun _ _ => ?_), fun _ => ht⟩
          · refine Ev.step (fun k => by rw [spec_l2Fault.j3]) ?_
            refine Pl.ev_ite_neg (by simp) (Pl.ev_bind' (by unfold spec_l2Deep.f; exact hdeep) ?_)
            refine Pl.ev_ite_neg hd (Pl.ev_ite_pos (by omega) (Pl.ev_ite_pos (by omega) ?_))
            rw [decide_eq_false (show ¬ ((rd_T48 p (i : Int)).f2.length : Int) > 6 from ha)]
            refine Ev.step (fun k => by rw [spec_l2Fault.j4]) ?_
            rw [Pl.wrap_nat (show i < 9223372036854775807 by omega)]
            refine Pl.ev_ite_neg (by simp) (Pl.ev_ite_pos (by omega) (Pl.ev_ite_pos (by omega) (Pl.ev_bind' sA ?_)))
            by_cases hc : attrsC (rdE p i).f2 0 (rdE p i).f2 = 0
            · exact Pl.ev_ite_pos hc (h2 hc)
            · rw [h1 hc]
              exact Pl.ev_ite_neg hc (Ev.now _)
          · simp only [hlast, codeIf_eq, Option.bind_some]
            refine Pl.ev_ite_neg hd (Pl.ev_bind' mA (Pl.ev_bind' (firstCode_ev _ (by simp)) ?_))
            rw [f1of2, decide_eq_false ha]
            simp only [Bool.false_eq_true, if_false, if_true]
            by_cases hc : attrsC (rdE p i).f2 0 (rdE p i).f2 = 0
            · exact Pl.ev_ite_pos hc (h2 hc)
            · rw [h1 hc]
              exact Pl.ev_ite_neg hc (Ev.now _)
  · refine ⟨Pl.nameC (rdE p i).f0.data.toList, fun R h1 _ => spec R (fun h' => h1 h') (fun h' => absurd h' hn), fun R h1 _ => ?_, fun h' => absurd h' hn⟩
    rcases next_evE hi h40 h with ⟨hr, nx⟩ | ⟨hr, b, b1, b2, nx⟩
    · exact implpre _ _ _ R nx (fun _ => by rw [if_neg hn]; exact h1 hn) (fun h' => absurd h' hn)
    · cases hb : b
      · rw [hb] at nx
        exact implpre _ _ _ R nx (fun _ => by rw [if_neg hn]; exact h1 hn) (fun h' => absurd h' hn)
      · rw [hb] at nx
        exact implpre _ _ _ R nx (fun _ => by rw [if_neg hn]; exact h1 hn) (fun h' => absurd h' hn)
/-- The whole: the program and the reference say the same code. -/
theorem tree_ev (p : List StE) (hl : p.length ≤ 1048576) (hz : sizedE p) : ∃ c : Int, Ev (fun k => spec_l2Fault.f k p) c ∧ Ev (fun k => impl_TreeFault.f k p) c ∧ (c = 0 → (1 ≤ p.length ∧ p.length ≤ 40) ∧ treeOkE p p.length) := by
  by_cases hb : 1 ≤ p.length ∧ p.length ≤ 40
  · have main : ∀ d i : Nat, p.length - i = d → i ≤ p.length → treeOkE p i → ∃ c : Int, Ev (fun k => spec_l2Fault.l0 k p i) c ∧ Ev (fun k => impl_TreeFault.l0 k p (p.length : Int) i (plE p i) (dlE p i)) c ∧ (c = 0 → (1 ≤ p.length ∧ p.length ≤ 40) ∧ treeOkE p p.length) := by
      intro d
      induction d with
      | zero =>
        intro i hd hi ht
        obtain rfl : i = p.length := by omega
        refine ⟨0, ?_, ?_, fun _ => ⟨hb, ht⟩⟩
        · refine Ev.step (fun k => by rw [spec_l2Fault.l0]) ?_
          exact Pl.ev_ite_neg (by omega) (Ev.now _)
        · refine Ev.step (fun k => by rw [impl_TreeFault.l0]) ?_
          exact Pl.ev_ite_neg (by omega) (Ev.now _)
      | succ d ih =>
        intro i hd hi ht
        obtain ⟨c, s, m, n⟩ := oneE_ev (show i < p.length by omega) hb.2 ht hz
        by_cases hc : c = 0
        · obtain ⟨c2, s2, m2, n2⟩ := ih (i + 1) (by omega) (by omega) (n hc)
          rw [show ((i + 1 : Nat) : Int) = (i : Int) + 1 from by omega] at s2 m2
          exact ⟨c2, s c2 (fun h' => absurd hc h') (fun _ => s2), m c2 (fun h' => absurd hc h') (fun _ => m2), n2⟩
        · exact ⟨c, s c (fun _ => rfl) (fun h' => absurd h' hc), m c (fun _ => rfl) (fun h' => absurd h' hc), fun h' => absurd h' hc⟩
    obtain ⟨c, s, m, n⟩ := main p.length 0 (by omega) (by omega) (fun j hj => absurd hj (by omega))
    refine ⟨c, ?_, ?_, n⟩
    · unfold spec_l2Fault.f
      refine Pl.ev_ite_neg (by omega) ?_
      refine Ev.step (fun k => by rw [spec_l2Fault.j0]) ?_
      exact Pl.ev_ite_neg (by simp; omega) s
    · unfold impl_TreeFault.f
      simp only [inRange_eq, Option.bind_some]
      exact Pl.ev_ite_pos (by simp; omega) m
  · refine ⟨2, ?_, ?_, fun h' => absurd h' (by omega)⟩
    · unfold spec_l2Fault.f
      have out : Ev (fun k => spec_l2Fault.j0 k p true) 2 := by
        refine Ev.step (fun k => by rw [spec_l2Fault.j0]) ?_
        exact Pl.ev_ite_pos rfl (Ev.now _)
      by_cases h1 : (p.length : Int) < 1
      · exact Pl.ev_ite_pos h1 out
      · refine Pl.ev_ite_neg h1 ?_
        rw [decide_eq_true (show (p.length : Int) > 40 by omega)]
        exact out
    · unfold impl_TreeFault.f
      simp only [inRange_eq, Option.bind_some]
      exact Pl.ev_ite_neg (by simp; omega) (Ev.now _)
theorem sizedE_map (a : List S45) (h : ∀ y ∈ a, bElem y) : sizedE (a.map toElem) := by
  intro i hi
  rw [List.length_map] at hi
  have e : rdE (a.map toElem) (i : Int) = toElem a[i] := by
    show rd_T48 (a.map toElem) (i : Int) = _
    rw [rd_iElem _ i (by simpa using hi)]
    simp
  rw [e]
  obtain ⟨b1, b2, b3⟩ := h _ (List.getElem_mem hi)
  refine ⟨b1, by simpa [toElem] using b2, fun y hy => ?_⟩
  obtain ⟨z, hz, rfl⟩ := List.mem_map.1 (show y ∈ a[i].f2.map toAttr from hy)
  exact b3 z hz
end Go.Proofs.Ytbjakfnfjndccaa.T
