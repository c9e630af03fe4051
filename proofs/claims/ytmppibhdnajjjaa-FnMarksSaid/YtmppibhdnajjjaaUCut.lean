/- What the program and the reference cut out of a text, as plain functions: both the same. No condition. -/
import Derived.Test.YtmppibhdnajjjaaXPure
import Derived.Lib.IndexMore
import Derived.Test.YtmppibhdnajjjaaC1
import Derived.Test.YtmppibhdnajjjaaC2
import Derived.Test.YtmppibhdnajjjaaCH
namespace Go.Proofs.Ytmppibhdnajjjaa.C
set_option linter.unusedVariables false
set_option linter.unusedSimpArgs false
open Go.RowKit Go.Proofs.Ytmppibhdnajjjaa Go.Proofs.YtmppibhdnajjjaaW.PrintWords Go.Proofs.YtmppibhdnajjjaaW.PrintLast
theorem ba_ext {a b : ByteArray} (h : a.data.toList = b.data.toList) : a = b := by
  obtain ⟨⟨x⟩⟩ := a
  obtain ⟨⟨y⟩⟩ := b
  simp at h
  rw [h]
theorem pre_take (s p : List UInt8) (h : p.length ≤ s.length) : (s.take p.length == p) = p.isPrefixOf s := by
  have := Lib.hasPrefix_of_take s p
  rw [decide_eq_true h, Bool.true_and] at this
  exact this
theorem pre_len {s p : List UInt8} (h : p.isPrefixOf s = true) : p.length ≤ s.length := by
  rw [List.isPrefixOf_iff_prefix] at h
  exact h.length_le
theorem starts_eq (t w : ByteArray) (i : Nat) (h0 : 0 < w.size) (h : i + w.size < 9223372036854775807) : spec_l1Starts.f t (i : Int) w = some (w.data.toList.isPrefixOf (t.data.toList.drop i)) := by
  unfold spec_l1Starts.f
  rw [Pl.wrap_in (by omega) (by omega)]
  have hw := Pl.size_toList w
  have ht := Pl.size_toList t
  by_cases hle : (i : Int) + (w.size : Int) ≤ (t.size : Int)
  · rw [if_pos hle, if_pos (by omega), if_pos (by omega), Lib.extract_toList, Lib.toList_data]
    congr 1
    rw [← pre_take _ _ (by rw [List.length_drop]; omega)]
    have e1 : ((i : Int)).toNat = i := by omega
    have e2 : ((i : Int) + (w.size : Int)).toNat - ((i : Int)).toNat = w.data.toList.length := by omega
    rw [e2, e1]
  · rw [if_neg hle]
    congr 1
    rw [eq_comm, Bool.eq_false_iff]
    intro h'
    have := pre_len h'
    rw [List.length_drop] at this
    omega
theorem cutPrefix_eq (a p : ByteArray) : strings_CutPrefix.f a p = some (if p.data.toList.isPrefixOf a.data.toList = true then (a.extract p.size a.size, true) else (a, false)) := by
  unfold strings_CutPrefix.f stringslite_CutPrefix.f stringslite_HasPrefix.f
  have hw := Pl.size_toList p
  have ht := Pl.size_toList a
  by_cases hle : (a.size : Int) ≥ (p.size : Int)
  · rw [if_pos hle, if_pos (by omega), if_pos (by omega), Lib.extract_toList, Lib.toList_data]
    have e : (a.data.toList.drop 0).take (((p.size : Int)).toNat - 0) = a.data.toList.take p.data.toList.length := by rw [List.drop_zero, hw]; rfl
    rw [e, pre_take _ _ (by omega), Option.bind_some]
    by_cases hp : p.data.toList.isPrefixOf a.data.toList = true
    · rw [if_pos hp, if_pos hp, if_pos (by omega), if_pos (by omega)]
      rfl
    · rw [if_neg hp, if_neg hp]
      rfl
  · rw [if_neg hle]
    have hp : ¬ p.data.toList.isPrefixOf a.data.toList = true := fun h' => by
      have := pre_len h'
      omega
    rw [if_neg hp]
    rfl
theorem index_one (c : UInt8) : ∀ l : List UInt8, Lib.index l [c] = Lib.indexByte l c
  | [] => rfl
  | b :: l => by
    have e : [c].isPrefixOf (b :: l) = (b == c) := by
      simp only [List.isPrefixOf, Bool.and_true]
      rw [Bool.eq_iff_iff]
      simp only [beq_iff_eq]
      exact eq_comm
    rw [Lib.index, Lib.indexByte, e, index_one c l]
/-- Where the mark that begins a text ends; 0: nowhere. -/
def endI (l : List UInt8) : Int :=
  if [60, 33, 45, 45].isPrefixOf l = true then (if Lib.index (l.drop 4) [45, 45, 62] < 0 then 0 else Lib.index (l.drop 4) [45, 45, 62] + 7)
  else (if Lib.index (l.drop 1) [62] < 0 then 0 else Lib.index (l.drop 1) [62] + 2)
theorem endLoop (t w : ByteArray) (hw : w.data.toList ≠ []) (hs : t.size + w.size < 4294967296) : ∀ i, i ≤ t.size → Ev (fun k => spec_l1End.l0 k t w (i : Int)) (if Lib.index (t.data.toList.drop i) w.data.toList < 0 then 0 else (i : Int) + Lib.index (t.data.toList.drop i) w.data.toList + w.size) := by
  have ht := Pl.size_toList t
  refine Pl.loop0 (g := fun k i => spec_l1End.l0 k t w i) (F := fun i => if Lib.index (t.data.toList.drop i) w.data.toList < 0 then 0 else (i : Int) + Lib.index (t.data.toList.drop i) w.data.toList + w.size) ?_ (fun i hi ih => ?_)
  · refine Ev.step (fun k => by rw [spec_l1End.l0]) ?_
    have e : Lib.index (t.data.toList.drop t.size) w.data.toList = -1 := by
      rw [← ht, Pl.drop_end, Lib.index]
      cases h : w.data.toList with
      | nil => exact absurd h hw
      | cons a l => rfl
    show Ev _ (if Lib.index (t.data.toList.drop t.size) w.data.toList < 0 then (0 : Int) else _)
    rw [e]
    exact Pl.ev_ite_neg (by omega) (Ev.now _)
  · refine Ev.step (fun k => by rw [spec_l1End.l0]) ?_
    rw [starts_eq t w i (by cases h : w.data.toList with | nil => exact absurd h hw | cons a l => have := Pl.size_toList w; rw [h] at this; simp at this; omega) (by omega), Pl.wrap_in (x := (i : Int) + 1) (by omega) (by omega)]
    simp only [Option.bind_some]
    refine Pl.ev_ite_pos (by omega) ?_
    have hi' : i < t.data.toList.length := by omega
    have hdr := Pl.drop_get (l := t.data.toList) hi'
    have hge := Lib.index_ge (t.data.toList.drop (i + 1)) w.data.toList
    by_cases hp : w.data.toList.isPrefixOf (t.data.toList.drop i) = true
    · refine Pl.ev_ite_pos hp ?_
      have e : Lib.index (t.data.toList.drop i) w.data.toList = 0 := by
        rw [hdr] at hp ⊢
        rw [Lib.index, if_pos hp]
      rw [e, if_neg (by omega), Pl.wrap_in (by omega) (by omega), Int.add_zero]
      exact Ev.now _
    · refine Pl.ev_ite_neg hp ?_
      have e : Lib.index (t.data.toList.drop i) w.data.toList = if Lib.index (t.data.toList.drop (i + 1)) w.data.toList = -1 then -1 else Lib.index (t.data.toList.drop (i + 1)) w.data.toList + 1 := by
        rw [hdr] at hp ⊢
        rw [Lib.index, if_neg hp]
        by_cases h : Lib.index (t.data.toList.drop (i + 1)) w.data.toList = -1
        · rw [if_pos h, h]; rfl
        · rw [if_neg h, if_neg (by simpa using h)]
      refine Pl.ev_to ih ?_
      rw [e]
      by_cases h : Lib.index (t.data.toList.drop (i + 1)) w.data.toList = -1
      · rw [h]; rfl
      · rw [if_neg h, if_neg (by omega), if_neg (by omega)]
        omega
theorem specEnd_ev (t : ByteArray) (p : Nat) (hs : t.size < 4294967281) (hp : p < t.size) : Ev (fun k => spec_l1End.f k t (p : Int)) (if endI (t.data.toList.drop p) = 0 then 0 else (p : Int) + endI (t.data.toList.drop p)) := by
  have ht := Pl.size_toList t
  unfold spec_l1End.f
  rw [starts_eq t _ p (by show 0 < 4; omega) (by show p + 4 < _; omega)]
  simp only [Option.bind_some]
  by_cases h : ([60, 33, 45, 45] : List UInt8).isPrefixOf (t.data.toList.drop p) = true
  · refine Pl.ev_ite_pos h ?_
    have hl := pre_len h
    rw [List.length_drop] at hl
    have hl' : p + 4 ≤ t.size := by simp at hl; omega
    rw [Pl.wrap_in (by omega) (by omega)]
    refine Ev.step (fun k => by rw [spec_l1End.j0]) ?_
    have := endLoop t (⟨#[45, 45, 62]⟩ : ByteArray) (by simp) (by show t.size + 3 < _; omega) (p + 4) hl'
    refine Pl.ev_to this ?_
    unfold endI
    rw [if_pos h, List.drop_drop]
    have hge := Lib.index_ge (t.data.toList.drop (p + 4)) [45, 45, 62]
    show (if Lib.index (t.data.toList.drop (p + 4)) [45, 45, 62] < 0 then (0 : Int) else ((p + 4 : Nat) : Int) + Lib.index (t.data.toList.drop (p + 4)) [45, 45, 62] + ((3 : Nat) : Int)) = _
    by_cases hn : Lib.index (t.data.toList.drop (p + 4)) [45, 45, 62] < 0
    · rw [if_pos hn, if_pos hn, if_pos rfl]
    · rw [if_neg hn, if_neg hn, if_neg (by omega)]
      omega
  · refine Pl.ev_ite_neg h ?_
    rw [Pl.wrap_in (by omega) (by omega)]
    refine Ev.step (fun k => by rw [spec_l1End.j0]) ?_
    have := endLoop t (⟨#[62]⟩ : ByteArray) (by simp) (by show t.size + 1 < _; omega) (p + 1) hp
    refine Pl.ev_to this ?_
    unfold endI
    rw [if_neg h, List.drop_drop]
    have hge := Lib.index_ge (t.data.toList.drop (p + 1)) [62]
    show (if Lib.index (t.data.toList.drop (p + 1)) [62] < 0 then (0 : Int) else ((p + 1 : Nat) : Int) + Lib.index (t.data.toList.drop (p + 1)) [62] + ((1 : Nat) : Int)) = _
    by_cases hn : Lib.index (t.data.toList.drop (p + 1)) [62] < 0
    · rw [if_pos hn, if_pos hn, if_pos rfl]
    · rw [if_neg hn, if_neg hn, if_neg (by omega)]
      omega
theorem endI_le (l : List UInt8) (h : endI l ≠ 0) : 0 < endI l ∧ endI l ≤ l.length := by
  unfold endI at h ⊢
  by_cases hp : ([60, 33, 45, 45] : List UInt8).isPrefixOf l = true
  · rw [if_pos hp] at h ⊢
    have hl := pre_len hp
    by_cases hn : Lib.index (l.drop 4) [45, 45, 62] < 0
    · rw [if_pos hn] at h
      exact absurd rfl h
    · rw [if_neg hn]
      have := Lib.index_room (l.drop 4) [45, 45, 62] (by omega)
      rw [List.length_drop] at this
      simp at hl this
      omega
  · rw [if_neg hp] at h ⊢
    by_cases hn : Lib.index (l.drop 1) [62] < 0
    · rw [if_pos hn] at h
      exact absurd rfl h
    · rw [if_neg hn]
      have := Lib.index_room (l.drop 1) [62] (by omega)
      rw [List.length_drop] at this
      simp only [List.length_cons, List.length_nil] at this
      omega
theorem extract_tail (x : ByteArray) (m : Nat) : (x.extract m x.size).data.toList = x.data.toList.drop m := by
  rw [Lib.extract_data, List.take_of_length_le (by rw [List.length_drop, Pl.size_toList]; omega)]
theorem index_eq (a b : ByteArray) (h : a.size < 4294967281) : strings_Index.f a b = some (Lib.index a.data.toList b.data.toList) := by
  unfold strings_Index.f
  rw [if_pos h]
theorem markEnd_eq (x : ByteArray) (hx : x.size < 4294967281) : ∃ n ok, impl_markEnd.f x = some (n, ok) ∧ (x.data.toList.head? = some 60 → ok = decide (endI x.data.toList ≠ 0) ∧ (endI x.data.toList ≠ 0 → n = endI x.data.toList)) := by
  have ht := Pl.size_toList x
  unfold impl_markEnd.f
  rw [cutPrefix_eq, Option.bind_some]
  by_cases h : ([60, 33, 45, 45] : List UInt8).isPrefixOf x.data.toList = true
  · have hl := pre_len h
    simp at hl
    have e : (x.extract 4 x.size).data.toList = x.data.toList.drop 4 := extract_tail x 4
    have es : (x.extract 4 x.size).size ≤ x.size := by rw [← Pl.size_toList, e, List.length_drop]; omega
    have hge := Lib.index_ge (x.data.toList.drop 4) [45, 45, 62]
    have hro := fun h => Lib.index_room (x.data.toList.drop 4) [45, 45, 62] h
    rw [if_pos h]
    show ∃ n ok, (if true = true then (strings_Index.f (x.extract 4 x.size) (⟨#[45, 45, 62]⟩ : ByteArray)).bind _ else _) = some (n, ok) ∧ _
    rw [if_pos rfl, index_eq _ _ (by omega), Option.bind_some, e]
    refine ⟨_, _, rfl, fun _ => ?_⟩
    unfold endI
    rw [if_pos h]
    show (decide (Lib.index (x.data.toList.drop 4) [45, 45, 62] ≥ 0) = _) ∧ (_ → wrap64 (wrap64 (4 + Lib.index (x.data.toList.drop 4) [45, 45, 62]) + 3) = _)
    by_cases hn : Lib.index (x.data.toList.drop 4) [45, 45, 62] < 0
    · rw [if_pos hn]
      refine ⟨by simp; omega, fun h => absurd rfl h⟩
    · rw [if_neg hn]
      have := hro (by omega)
      rw [List.length_drop] at this
      refine ⟨by rw [decide_eq_decide]; omega, fun _ => ?_⟩
      rw [Pl.wrap_in (x := 4 + _) (by omega) (by omega), Pl.wrap_in (by omega) (by omega)]
      omega
  · rw [if_neg h]
    show ∃ n ok, (if false = true then _ else (strings_IndexByte.f x 62).bind _) = some (n, ok) ∧ _
    rw [if_neg (by simp)]
    refine ⟨_, _, rfl, fun hh => ?_⟩
    unfold endI
    rw [if_neg h, index_one]
    cases hl : x.data.toList with
    | nil => rw [hl] at hh; cases hh
    | cons b l =>
      rw [hl] at hh
      obtain rfl : b = 60 := by simpa using hh
      have e : Lib.indexByte (60 :: l) (62 : Int).toNat.toUInt8 = if Lib.indexByte l 62 = -1 then -1 else Lib.indexByte l 62 + 1 := by
        show Lib.indexByte (60 :: l) 62 = _
        rw [Lib.indexByte, if_neg (by decide)]
        by_cases h : Lib.indexByte l 62 = -1
        · rw [if_pos h, h]; rfl
        · rw [if_neg h, if_neg (by simpa using h)]
      have hge := Lib.indexByte_ge l 62
      have hro : 0 ≤ Lib.indexByte l 62 → Lib.indexByte l 62 + 1 ≤ l.length := by
        intro h0
        have := Lib.index_room l [62] (by rw [index_one]; exact h0)
        rw [index_one] at this
        simpa using this
      rw [hl] at ht
      simp at ht
      simp only [List.drop_succ_cons, List.drop_zero, e]
      by_cases hn : Lib.indexByte l 62 = -1
      · rw [if_pos hn, if_pos (by omega)]
        exact ⟨by simp, fun h => absurd rfl h⟩
      · rw [if_neg hn, if_neg (by omega)]
        have := hro (by omega)
        refine ⟨by rw [decide_eq_decide]; omega, fun _ => ?_⟩
        rw [Pl.wrap_in (by omega) (by omega)]
        omega
/-- How many bytes ahead of the next mark; none where there is a closing sign among them. -/
def scan : List UInt8 → Option Nat
  | [] => some 0
  | c :: r => if c = 60 then some 0 else if c = 62 then none else (scan r).map (· + 1)
theorem scan_le : ∀ (l : List UInt8) (m : Nat), scan l = some m → m ≤ l.length ∧ (l.drop m = [] ∨ (l.drop m).head? = some 60)
  | [], m, h => by
    obtain rfl : 0 = m := Option.some.inj h
    simp
  | c :: r, m, h => by
    rw [scan] at h
    by_cases h1 : c = 60
    · rw [if_pos h1] at h
      obtain rfl : 0 = m := Option.some.inj h
      simp [h1]
    · rw [if_neg h1] at h
      by_cases h2 : c = 62
      · rw [if_pos h2] at h; cases h
      · rw [if_neg h2] at h
        cases h3 : scan r with
        | none => rw [h3] at h; cases h
        | some m' =>
          rw [h3] at h
          obtain rfl : m' + 1 = m := Option.some.inj h
          obtain ⟨a, b⟩ := scan_le r m' h3
          exact ⟨by simp; omega, by simpa using b⟩
theorem scan_impl : ∀ l : List UInt8, (Lib.indexByte l 60 < 0 → (0 ≤ Lib.index l [62] → scan l = none) ∧ (¬ 0 ≤ Lib.index l [62] → scan l = some l.length)) ∧ (0 ≤ Lib.indexByte l 60 → Lib.indexByte l 60 ≤ l.length ∧ (0 ≤ Lib.index (l.take (Lib.indexByte l 60).toNat) [62] → scan l = none) ∧ (¬ 0 ≤ Lib.index (l.take (Lib.indexByte l 60).toNat) [62] → scan l = some (Lib.indexByte l 60).toNat))
  | [] => by simp [Lib.indexByte, Lib.index, scan]
  | c :: r => by
    obtain ⟨ih1, ih2⟩ := scan_impl r
    have g1 := Lib.indexByte_ge r 60
    simp only [index_one] at ih1 ih2 ⊢
    by_cases h1 : c = 60
    · subst h1
      have e : Lib.indexByte (60 :: r) 60 = 0 := by rw [Lib.indexByte]; rfl
      rw [e]
      refine ⟨fun h => by omega, fun _ => ⟨by simp; omega, fun h => ?_, fun _ => rfl⟩⟩
      simp [Lib.indexByte] at h
    · have e : Lib.indexByte (c :: r) 60 = if Lib.indexByte r 60 = -1 then -1 else Lib.indexByte r 60 + 1 := by
        rw [Lib.indexByte, if_neg (by simpa using h1)]
        by_cases h : Lib.indexByte r 60 = -1
        · rw [if_pos h, h]; rfl
        · rw [if_neg h, if_neg (by simpa using h)]
      have e2 : ∀ q : List UInt8, ¬ c = 62 → (0 ≤ Lib.indexByte (c :: q) 62 ↔ 0 ≤ Lib.indexByte q 62) := by
        intro q h2
        have g := Lib.indexByte_ge q 62
        rw [Lib.indexByte, if_neg (by simpa using h2)]
        by_cases h : Lib.indexByte q 62 = -1
        · rw [h]; rfl
        · rw [if_neg (by simpa using h)]; omega
      have e3 : ∀ q : List UInt8, Lib.indexByte (62 :: q) 62 = 0 := by intro q; rw [Lib.indexByte]; rfl
      rw [e]
      by_cases hn : Lib.indexByte r 60 = -1
      · rw [if_pos hn]
        obtain ⟨a, b⟩ := ih1 (by omega)
        refine ⟨fun _ => ⟨fun h => ?_, fun h => ?_⟩, fun h => by omega⟩
        · rw [scan, if_neg h1]
          by_cases h2 : c = 62
          · rw [if_pos h2]
          · rw [if_neg h2, a ((e2 r h2).1 h)]; rfl
        · rw [scan, if_neg h1]
          by_cases h2 : c = 62
          · subst h2; rw [e3] at h; omega
          · rw [if_neg h2, b (fun h' => h ((e2 r h2).2 h'))]; rfl
      · rw [if_neg hn]
        obtain ⟨hl, a, b⟩ := ih2 (by omega)
        have et : (Lib.indexByte r 60 + 1).toNat = (Lib.indexByte r 60).toNat + 1 := by omega
        refine ⟨fun h => by omega, fun _ => ⟨by simp; omega, fun h => ?_, fun h => ?_⟩⟩
        · rw [et, List.take_succ_cons] at h
          rw [scan, if_neg h1]
          by_cases h2 : c = 62
          · rw [if_pos h2]
          · rw [if_neg h2, a ((e2 _ h2).1 h)]; rfl
        · rw [et, List.take_succ_cons] at h
          rw [scan, if_neg h1, et]
          by_cases h2 : c = 62
          · subst h2; rw [e3] at h; omega
          · rw [if_neg h2, b (fun h' => h ((e2 _ h2).2 h'))]; rfl
theorem scan_spec (t : ByteArray) (acc : List ByteArray) (p : Nat) (hs : t.size < 4294967281) (ha : acc.length < 8796093022208) (R : List ByteArray × Bool) : ∀ d i, t.size - i = d → i ≤ t.size → p ≤ i →
    (∀ m, scan (t.data.toList.drop i) = some m → Ev (fun k => spec_l1Cut.l0 k t (acc ++ [t.extract p (i + m)]) ((i + m : Nat) : Int)) R) → (scan (t.data.toList.drop i) = none → R = ([], false)) → Ev (fun k => spec_l1Cut.l1 k t acc (i : Int) (p : Int)) R := by
  have ht := Pl.size_toList t
  have stop : ∀ i, i ≤ t.size → p ≤ i → Ev (fun k => spec_l1Cut.l0 k t (acc ++ [t.extract p i]) (i : Int)) R → Ev (fun k => spec_l1Cut.j2 k t acc (i : Int) (p : Int) false) R := by
    intro i hi hp h
    refine Ev.step (fun k => by rw [spec_l1Cut.j2]) ?_
    exact Pl.ev_ite_neg (by simp) (Pl.ev_ite_pos (by omega) (Pl.ev_ite_pos (by omega) (Pl.ev_ite_pos (by omega) (Pl.ev_ite_pos ha (by simpa using h)))))
  intro d
  induction d with
  | zero =>
    intro i hd hi hp h1 _
    obtain rfl : i = t.size := by omega
    refine Ev.step (fun k => by rw [spec_l1Cut.l1]) ?_
    refine Pl.ev_ite_neg (by omega) (stop _ hi hp ?_)
    have := h1 0 (by rw [← ht, Pl.drop_end]; rfl)
    simpa using this
  | succ d ih =>
    intro i hd hi hp h1 h2
    have hi' : i < t.data.toList.length := by omega
    have hdr := Pl.drop_get (l := t.data.toList) hi'
    have hb := Pl.bt_get t i (by omega)
    refine Ev.step (fun k => by rw [spec_l1Cut.l1]) ?_
    refine Pl.ev_ite_pos (by omega) (Pl.ev_ite_pos (by omega) ?_)
    rw [hb]
    by_cases c1 : t.data.toList[i] = 60
    · have e : ((((t.data.toList[i]'hi').toNat : Int)) != 60) = false := by rw [c1]; rfl
      rw [e]
      refine stop i hi hp ?_
      have := h1 0 (by rw [hdr, scan, if_pos c1])
      simpa using this
    · have e : ((((t.data.toList[i]'hi').toNat : Int)) != 60) = true := by
        rw [bne_iff_ne]
        intro h
        exact c1 (UInt8.toNat_inj.1 (by show _ = 60; omega))
      rw [e]
      refine Ev.step (fun k => by rw [spec_l1Cut.j2]) ?_
      refine Pl.ev_ite_pos rfl (Pl.ev_ite_pos (by omega) (Pl.ev_ite_pos (by omega) ?_))
      rw [hb]
      by_cases c2 : t.data.toList[i] = 62
      · refine Pl.ev_ite_pos (by rw [c2]; rfl) ?_
        rw [h2 (by rw [hdr, scan, if_neg c1, if_pos c2])]
        exact Ev.now _
      · refine Pl.ev_ite_neg (fun h => c2 (UInt8.toNat_inj.1 (by show _ = 62; omega))) ?_
        rw [Pl.wrap_in (x := (i : Int) + 1) (by omega) (by omega)]
        refine ih (i + 1) (by omega) (by omega) (by omega) (fun m hm => ?_) (fun hm => ?_)
        · have := h1 (m + 1) (by rw [hdr, scan, if_neg c1, if_neg c2, hm]; rfl)
          have e : i + (m + 1) = i + 1 + m := by omega
          rwa [e] at this
        · exact h2 (by rw [hdr, scan, if_neg c1, if_neg c2, hm]; rfl)
/-- Pieces that a text is cut into: none is empty, and behind one that is no mark there is a mark. -/
def goodP : List ByteArray → List UInt8 → Prop
  | [], l => l = []
  | b :: ps, l => b.data.toList ≠ [] ∧ ∃ r, l = b.data.toList ++ r ∧ goodP ps r ∧ (b.data.toList.head? ≠ some 60 → r = [] ∨ r.head? = some 60)
theorem cut_both (t : ByteArray) (hn : t.size ≤ 1500) : ∀ d p (acc : List ByteArray), p ≤ t.size → t.size - p ≤ d → acc.length ≤ p →
    ∃ (ok : Bool) (ps : List ByteArray), ps.length ≤ t.size - p ∧ Ev (fun k => spec_l1Cut.l0 k t acc (p : Int)) (if ok = true then (acc ++ ps, true) else ([], false)) ∧
      (∀ x : ByteArray, x.data.toList = t.data.toList.drop p → Ev (fun k => impl_CutMarks.l0 k x 0 acc) (if ok = true then (0, acc ++ ps) else (5, []))) ∧ (ok = true → goodP ps (t.data.toList.drop p)) := by
  have ht := Pl.size_toList t
  have full : ∀ (acc : List ByteArray), ∃ (ok : Bool) (ps : List ByteArray), ps.length ≤ t.size - t.size ∧ Ev (fun k => spec_l1Cut.l0 k t acc (t.size : Int)) (if ok = true then (acc ++ ps, true) else ([], false)) ∧
      (∀ x : ByteArray, x.data.toList = t.data.toList.drop t.size → Ev (fun k => impl_CutMarks.l0 k x 0 acc) (if ok = true then (0, acc ++ ps) else (5, []))) ∧ (ok = true → goodP ps (t.data.toList.drop t.size)) := by
    intro acc
    refine ⟨true, [], by simp, ?_, fun x hx => ?_, fun _ => by rw [← ht, Pl.drop_end]; rfl⟩
    · refine Ev.step (fun k => by rw [spec_l1Cut.l0]) ?_
      rw [if_pos rfl, List.append_nil]
      exact Pl.ev_ite_neg (by omega) (Ev.now _)
    · refine Ev.step (fun k => by rw [impl_CutMarks.l0]) ?_
      rw [if_pos rfl, List.append_nil]
      rw [← ht, Pl.drop_end] at hx
      exact Pl.ev_ite_pos (by rw [Lib.toList_data]; exact hx) (Ev.now _)
  intro d
  induction d with
  | zero =>
    intro p acc hp hd ha
    obtain rfl : p = t.size := by omega
    exact full acc
  | succ d ih =>
    intro p acc hp hd ha
    by_cases hpe : p = t.size
    · subst hpe
      exact full acc
    · have hi' : p < t.data.toList.length := by omega
      have hdr := Pl.drop_get (l := t.data.toList) hi'
      have hb := Pl.bt_get t p (by omega)
      -- behind a piece of m bytes
      have next : ∀ (m : Nat), 0 < m → p + m ≤ t.size → ∃ (ok : Bool) (ps : List ByteArray), ps.length ≤ t.size - (p + m) ∧ Ev (fun k => spec_l1Cut.l0 k t (acc ++ [t.extract p (p + m)]) ((p + m : Nat) : Int)) (if ok = true then (acc ++ (t.extract p (p + m) :: ps), true) else ([], false)) ∧
          (∀ x : ByteArray, x.data.toList = t.data.toList.drop (p + m) → Ev (fun k => impl_CutMarks.l0 k x 0 (acc ++ [t.extract p (p + m)])) (if ok = true then (0, acc ++ (t.extract p (p + m) :: ps)) else (5, []))) ∧ (ok = true → goodP ps (t.data.toList.drop (p + m))) := by
        intro m hm hle
        obtain ⟨ok, ps, a, b, c, e⟩ := ih (p + m) (acc ++ [t.extract p (p + m)]) hle (by omega) (by simp; omega)
        refine ⟨ok, ps, a, ?_, ?_, e⟩
        · simpa [List.append_assoc] using b
        · simpa [List.append_assoc] using c
      have piece : ∀ m, p + m ≤ t.size → (t.extract p (p + m)).data.toList = (t.data.toList.drop p).take m := by
        intro m hm
        rw [Lib.extract_data]
        congr 1
        omega
      have same : ∀ (x : ByteArray) m, p + m ≤ t.size → x.data.toList = t.data.toList.drop p → x.extract 0 m = t.extract p (p + m) := by
        intro x m hm hx
        refine ba_ext ?_
        rw [piece m hm, Lib.extract_data, hx, List.drop_zero, Nat.sub_zero]
      have rest : ∀ (x : ByteArray) m, x.data.toList = t.data.toList.drop p → (x.extract m x.size).data.toList = t.data.toList.drop (p + m) := by
        intro x m hx
        rw [extract_tail, hx, List.drop_drop]
      have good : ∀ m (ps : List ByteArray), 0 < m → p + m ≤ t.size → goodP ps (t.data.toList.drop (p + m)) → (t.data.toList[p] ≠ 60 → t.data.toList.drop (p + m) = [] ∨ (t.data.toList.drop (p + m)).head? = some 60) → goodP (t.extract p (p + m) :: ps) (t.data.toList.drop p) := by
        intro m ps hm hle hg hc
        refine ⟨?_, t.data.toList.drop (p + m), ?_, hg, ?_⟩
        · rw [piece m hle, hdr]
          intro h
          have := congrArg List.length h
          simp at this
          omega
        · rw [piece m hle, ← List.drop_drop]
          exact (List.take_append_drop m _).symm
        · intro h
          refine hc (fun h' => h ?_)
          rw [piece m hle, hdr, h']
          obtain ⟨m', rfl⟩ : ∃ m', m = m' + 1 := ⟨m - 1, by omega⟩
          rfl
      have x0 : ∀ x : ByteArray, x.data.toList = t.data.toList.drop p → x.size = t.size - p ∧ bt x 0 = ((t.data.toList[p]'hi').toNat : Int) ∧ x.toList ≠ [] := by
        intro x hx
        have h1 : x.size = t.size - p := by rw [← Pl.size_toList, hx, List.length_drop]; omega
        refine ⟨h1, ?_, ?_⟩
        · have := Pl.bt_get x 0 (by omega)
          rw [show ((0 : Nat) : Int) = 0 from rfl] at this
          rw [this]
          simp [hx]
        · rw [Lib.toList_data, hx, hdr]
          simp
      by_cases c1 : t.data.toList[p] = 60
      · have hc1 : ((t.data.toList[p]'hi').toNat : Int) = 60 := by rw [c1]; rfl
        have hh : (t.data.toList.drop p).head? = some 60 := by rw [hdr, c1]; rfl
        have se := specEnd_ev t p (by omega) (by omega)
        by_cases he : endI (t.data.toList.drop p) = 0
        · refine ⟨false, [], by simp, ?_, fun x hx => ?_, fun h => by cases h⟩
          · refine Ev.step (fun k => by rw [spec_l1Cut.l0]) ?_
            rw [if_pos he] at se
            rw [hb]
            exact Pl.ev_ite_pos (by omega) (Pl.ev_ite_pos (by omega) (Pl.ev_ite_pos hc1 (Pl.ev_bind' se (Pl.ev_ite_pos rfl (Ev.now _)))))
          · obtain ⟨h1, h2, h3⟩ := x0 x hx
            obtain ⟨n, ok, em, ho⟩ := markEnd_eq x (by omega)
            rw [hx] at ho
            obtain ⟨ho, _⟩ := ho hh
            refine Ev.step (fun k => by rw [impl_CutMarks.l0]) ?_
            rw [em, h2]
            simp only [Option.bind_some]
            refine Pl.ev_ite_neg h3 (Pl.ev_ite_pos (by omega) (Pl.ev_ite_pos hc1 (Pl.ev_ite_neg (by rw [ho]; simp [he]) (Ev.now _))))
        · obtain ⟨e0, e1⟩ := endI_le _ he
          rw [List.length_drop] at e1
          obtain ⟨m, hm⟩ : ∃ m : Nat, endI (t.data.toList.drop p) = m := ⟨(endI (t.data.toList.drop p)).toNat, by omega⟩
          obtain ⟨ok, ps, a, b, c, g⟩ := next m (by omega) (by omega)
          refine ⟨ok, t.extract p (p + m) :: ps, by simp; omega, ?_, fun x hx => ?_, fun h => good m ps (by omega) (by omega) (g h) (fun h' => absurd c1 h')⟩
          · refine Ev.step (fun k => by rw [spec_l1Cut.l0]) ?_
            rw [if_neg he, hm] at se
            rw [hb]
            refine Pl.ev_ite_pos (by omega) (Pl.ev_ite_pos (by omega) (Pl.ev_ite_pos hc1 (Pl.ev_bind' se (Pl.ev_ite_neg (by omega) (Pl.ev_ite_pos (by omega) (Pl.ev_ite_pos (by omega) (Pl.ev_ite_pos (by omega) ?_)))))))
            have e1 : ((p : Int)).toNat = p := by omega
            have e2 : ((p : Int) + (m : Int)).toNat = p + m := by omega
            rw [e1, e2]
            exact b
          · obtain ⟨h1, h2, h3⟩ := x0 x hx
            obtain ⟨n, ok', em, ho⟩ := markEnd_eq x (by omega)
            rw [hx] at ho
            obtain ⟨ho', hn'⟩ := ho hh
            clear ho
            have hn2 : n = m := by rw [hn' he, hm]
            subst hn2
            refine Ev.step (fun k => by rw [impl_CutMarks.l0]) ?_
            rw [em, h2]
            simp only [Option.bind_some]
            refine Pl.ev_ite_neg h3 (Pl.ev_ite_pos (by omega) (Pl.ev_ite_pos hc1 (Pl.ev_ite_pos (by rw [ho']; simp [he]) (Pl.ev_ite_pos (by omega) (Pl.ev_ite_pos (by omega) (Pl.ev_ite_pos (by omega) ?_))))))
            rw [Int.toNat_natCast, same x m (by omega) hx]
            exact c _ (rest x m hx)
      · have hc1 : ¬ ((t.data.toList[p]'hi').toNat : Int) = 60 := fun h => c1 (UInt8.toNat_inj.1 (by show _ = 60; omega))
        obtain ⟨s1, s2⟩ := scan_impl (t.data.toList.drop p)
        have sp := fun R => scan_spec t acc p (by omega) (by omega) R (t.size - p) p rfl hp (Nat.le_refl _)
        have con : ∀ y : ByteArray, y.size < 4294967281 → strings_Contains.f y (⟨#[62]⟩ : ByteArray) = some (decide (0 ≤ Lib.index y.data.toList [62])) := by
          intro y hy
          unfold strings_Contains.f
          rw [index_eq _ _ hy]
          rfl
        have ib : ∀ x : ByteArray, x.data.toList = t.data.toList.drop p → strings_IndexByte.f x 60 = some (Lib.indexByte (t.data.toList.drop p) 60) := by
          intro x hx
          unfold strings_IndexByte.f
          rw [hx]
          rfl
        -- the program's way
        have way : ∀ x : ByteArray, x.data.toList = t.data.toList.drop p → ∀ R, (∀ m, scan (t.data.toList.drop p) = some m → Ev (fun k => impl_CutMarks.l0 k (x.extract m x.size) 0 (acc ++ [x.extract 0 m])) R) → (scan (t.data.toList.drop p) = none → R = (5, [])) → Ev (fun k => impl_CutMarks.l0 k x 0 acc) R := by
          intro x hx R r1 r2
          obtain ⟨h1, h2, h3⟩ := x0 x hx
          have hxs := Pl.size_toList x
          obtain ⟨n, ok', em, ho⟩ := markEnd_eq x (by omega)
          refine Ev.step (fun k => by rw [impl_CutMarks.l0]) ?_
          rw [em, h2, ib x hx]
          simp only [Option.bind_some]
          refine Pl.ev_ite_neg h3 (Pl.ev_ite_pos (by omega) (Pl.ev_ite_neg hc1 ?_))
          by_cases hr : Lib.indexByte (t.data.toList.drop p) 60 < 0
          · refine Pl.ev_ite_pos hr (Pl.ev_ite_pos (by omega) (Pl.ev_ite_pos (by omega) ?_))
            rw [con x (by omega), hx]
            simp only [Option.bind_some]
            obtain ⟨q1, q2⟩ := s1 hr
            by_cases hq : 0 ≤ Lib.index (t.data.toList.drop p) [62]
            · rw [r2 (q1 hq)]
              exact Pl.ev_ite_pos (decide_eq_true hq) (Ev.now _)
            · refine Pl.ev_ite_neg (by simpa using hq) (Pl.ev_ite_pos (by omega) ?_)
              have := r1 _ (q2 hq)
              rw [← hx, hxs] at this
              have e1 : x.extract x.size x.size = ByteArray.empty := by
                refine ba_ext ?_
                rw [extract_tail, ← hxs, Pl.drop_end]
                rfl
              have e2 : x.extract 0 x.size = x := by
                refine ba_ext ?_
                rw [extract_tail, List.drop_zero]
              rwa [e1, e2] at this
          · refine Pl.ev_ite_neg hr ?_
            obtain ⟨q0, q1, q2⟩ := s2 (by omega)
            rw [List.length_drop] at q0
            refine Pl.ev_ite_pos (by omega) (Pl.ev_ite_pos (by omega) ?_)
            have hes : (x.extract 0 (Lib.indexByte (t.data.toList.drop p) 60).toNat).data.toList = (t.data.toList.drop p).take (Lib.indexByte (t.data.toList.drop p) 60).toNat := by rw [Lib.extract_data, hx, List.drop_zero, Nat.sub_zero]
            have hsz : (x.extract 0 (Lib.indexByte (t.data.toList.drop p) 60).toNat).size < 4294967281 := by
              rw [← Pl.size_toList, hes, List.length_take, List.length_drop]
              omega
            rw [con _ hsz, hes]
            simp only [Option.bind_some]
            by_cases hq : 0 ≤ Lib.index ((t.data.toList.drop p).take (Lib.indexByte (t.data.toList.drop p) 60).toNat) [62]
            · rw [r2 (q1 hq)]
              exact Pl.ev_ite_pos (decide_eq_true hq) (Ev.now _)
            · exact Pl.ev_ite_neg (by simpa using hq) (Pl.ev_ite_pos (by omega) (r1 _ (q2 hq)))
        cases hsc : scan (t.data.toList.drop p) with
        | none =>
          refine ⟨false, [], by simp, ?_, fun x hx => way x hx _ (fun m hm => by rw [hsc] at hm; cases hm) (fun _ => rfl), fun h => by cases h⟩
          refine Ev.step (fun k => by rw [spec_l1Cut.l0]) ?_
          rw [hb]
          refine Pl.ev_ite_pos (by omega) (Pl.ev_ite_pos (by omega) (Pl.ev_ite_neg hc1 ?_))
          exact sp _ (fun m hm => by rw [hsc] at hm; cases hm) (fun _ => rfl)
        | some m =>
          obtain ⟨hm1, hm2⟩ := scan_le _ _ hsc
          rw [List.length_drop] at hm1
          rw [List.drop_drop] at hm2
          have hm0 : 0 < m := by
            rw [hdr, scan, if_neg c1] at hsc
            by_cases c2 : t.data.toList[p] = 62
            · rw [if_pos c2] at hsc; cases hsc
            · rw [if_neg c2] at hsc
              cases h3 : scan (t.data.toList.drop (p + 1)) with
              | none => rw [h3] at hsc; cases hsc
              | some m' => rw [h3] at hsc; have : m' + 1 = m := Option.some.inj hsc; omega
          obtain ⟨ok, ps, a, b, c, g⟩ := next m hm0 (by omega)
          refine ⟨ok, t.extract p (p + m) :: ps, by simp; omega, ?_, fun x hx => way x hx _ (fun m' hm' => ?_) (fun h => by rw [hsc] at h; cases h), fun h => good m ps hm0 (by omega) (g h) (fun _ => hm2)⟩
          · refine Ev.step (fun k => by rw [spec_l1Cut.l0]) ?_
            rw [hb]
            refine Pl.ev_ite_pos (by omega) (Pl.ev_ite_pos (by omega) (Pl.ev_ite_neg hc1 ?_))
            refine sp _ (fun m' hm' => ?_) (fun h => by rw [hsc] at h; cases h)
            rw [hsc] at hm'
            obtain rfl : m = m' := Option.some.inj hm'
            exact b
          · rw [hsc] at hm'
            obtain rfl : m = m' := Option.some.inj hm'
            rw [same x m (by omega) hx]
            exact c _ (rest x m hx)
theorem cutMarks_ev (t : ByteArray) : ∃ (c : Int) (ps : List ByteArray), ps.length ≤ 1500 ∧ Ev (fun k => spec_CutMarks.f k t) (c, ps) ∧ Ev (fun k => impl_CutMarks.f k t) (c, ps) ∧ (c = 0 → goodP ps t.data.toList) := by
  by_cases h : (t.size : Int) > 1500
  · refine ⟨2, [], by simp, ?_, ?_, fun h => by cases h⟩
    · unfold spec_CutMarks.f
      exact Pl.ev_ite_pos h (Ev.now _)
    · unfold impl_CutMarks.f
      exact Pl.ev_ite_pos h (Ev.now _)
  · obtain ⟨ok, ps, a, b, c, g⟩ := cut_both t (by omega) t.size 0 [] (Nat.zero_le _) (by omega) (by simp)
    have c := c t (by rw [List.drop_zero])
    cases ok with
    | true =>
      refine ⟨0, ps, by omega, ?_, ?_, fun _ => by simpa using g rfl⟩
      · unfold spec_CutMarks.f spec_l1Cut.f
        exact Pl.ev_ite_neg h (Pl.ev_bind' b (Ev.now _))
      · unfold impl_CutMarks.f
        exact Pl.ev_ite_neg h c
    | false =>
      refine ⟨5, [], by simp, ?_, ?_, fun h => by cases h⟩
      · unfold spec_CutMarks.f spec_l1Cut.f
        exact Pl.ev_ite_neg h (Pl.ev_bind' b (Ev.now _))
      · unfold impl_CutMarks.f
        exact Pl.ev_ite_neg h c
end Go.Proofs.Ytmppibhdnajjjaa.C
