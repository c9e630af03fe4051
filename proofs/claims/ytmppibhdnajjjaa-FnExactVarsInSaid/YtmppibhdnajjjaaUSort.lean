/- What the library's sort of a short row of numbers, and what is left of a sorted row without repeats, come to. No condition. -/
import Derived.Test.YtmppibhdnajjjaaXPure
import Derived.Test.YtmppibhdnajjjaaVH
import Derived.Test.YtmppibhdnajjjaaV5
namespace Go.Proofs.Ytmppibhdnajjjaa.V
set_option linter.unusedVariables false
set_option linter.unusedSimpArgs false
open Go.RowKit Go.Proofs.Ytmppibhdnajjjaa Go.Proofs.YtmppibhdnajjjaaW.PrintWords Go.Proofs.YtmppibhdnajjjaaW.PrintLast
theorem less_eq (a b : Int) : cmp_Less_int64.f a b = some (decide (a < b)) := by
  unfold cmp_Less_int64.f cmp_isNaN_int64.f
  rw [Option.bind_some, if_neg (by simp)]
theorem rd_set (l : List Int) (i k : Nat) (v : Int) (hi : i < l.length) : rd (l.set i v) (k : Int) = if k = i then v else rd l (k : Int) := by
  unfold rd
  simp only [Int.toNat_natCast, List.getD_eq_getElem?_getD]
  by_cases h : k = i
  · subst h
    rw [if_pos rfl, List.getElem?_set_self hi]
    rfl
  · rw [if_neg h, List.getElem?_set_ne (fun e => h e.symm)]
def upTo (l : List Int) (m : Nat) : Prop := ∀ i j : Nat, i < j → j < m → rd l (i : Int) ≤ rd l (j : Int)
def has (l : List Int) (v : Int) : Prop := ∃ k : Nat, k < l.length ∧ rd l (k : Int) = v
theorem has_iff (l : List Int) (v : Int) : has l v ↔ v ∈ l := by
  constructor
  · rintro ⟨k, hk, rfl⟩
    rw [Pl.rd_get l k hk]
    exact List.getElem_mem hk
  · intro h
    obtain ⟨k, hk, rfl⟩ := List.getElem_of_mem h
    exact ⟨k, hk, Pl.rd_get l k hk⟩
theorem sort_in (n x6 : Nat) (h6 : x6 < n) (hn : n ≤ 1000) : ∀ (x7 : Nat) (x : List Int), x7 ≤ x6 → x.length = n →
    (∀ i j : Nat, i < j → j ≤ x6 → i ≠ x7 → j ≠ x7 → rd x (i : Int) ≤ rd x (j : Int)) → (∀ j : Nat, x7 < j → j ≤ x6 → rd x (x7 : Int) ≤ rd x (j : Int)) →
    ∃ y : List Int, y.length = n ∧ upTo y (x6 + 1) ∧ (∀ v, has y v ↔ has x v) ∧ ∀ R, Ev (fun k => slices_insertionSortOrdered_int64.l0 k y 0 (n : Int) ((x6 : Int) + 1)) R → Ev (fun k => slices_insertionSortOrdered_int64.l1 k x 0 (n : Int) (x6 : Int) (x7 : Int)) R := by
  intro x7
  induction x7 with
  | zero =>
    intro x h7 hl i1 i2
    refine ⟨x, hl, fun i j hij hj => ?_, fun v => Iff.rfl, fun R hR => ?_⟩
    · by_cases hi : i = 0
      · subst hi
        exact i2 j hij (by omega)
      · exact i1 i j hij (by omega) hi (by omega)
    · refine Ev.step (fun k => by rw [slices_insertionSortOrdered_int64.l1]) ?_
      refine Pl.ev_ite_neg (by omega) ?_
      rw [Pl.wrap_nat (show x6 < 9223372036854775807 by omega)]
      exact hR
  | succ x7 ih =>
    intro x h7 hl i1 i2
    have e : wrap64 (((x7 + 1 : Nat) : Int) - 1) = (x7 : Int) := by rw [Pl.wrap_in (by omega) (by omega)]; omega
    by_cases hc : rd x ((x7 + 1 : Nat) : Int) < rd x (x7 : Int)
    · have r : ∀ k : Nat, rd ((x.set (x7 + 1) (rd x (x7 : Int))).set x7 (rd x ((x7 + 1 : Nat) : Int))) (k : Int) = if k = x7 then rd x ((x7 + 1 : Nat) : Int) else if k = x7 + 1 then rd x (x7 : Int) else rd x (k : Int) := by
        intro k
        rw [rd_set _ _ _ _ (by rw [List.length_set]; omega), rd_set _ _ _ _ (by omega)]
      obtain ⟨y, y1, y2, y3, y4⟩ := ih ((x.set (x7 + 1) (rd x (x7 : Int))).set x7 (rd x ((x7 + 1 : Nat) : Int))) (by omega) (by simp [hl]) (fun i j hij hj hi' hj' => by
        rw [r, r, if_neg hi', if_neg hj']
        by_cases a : i = x7 + 1
        · rw [if_pos a, if_neg (by omega)]
          exact i1 x7 j (by omega) hj (by omega) (by omega)
        · rw [if_neg a]
          by_cases b : j = x7 + 1
          · rw [if_pos b]
            exact i1 i x7 (by omega) (by omega) a (by omega)
          · rw [if_neg b]
            exact i1 i j hij hj a b) (fun j hj hj' => by
        rw [r, r, if_pos rfl, if_neg (by omega)]
        by_cases b : j = x7 + 1
        · rw [if_pos b]
          omega
        · rw [if_neg b]
          exact i2 j (by omega) hj')
      refine ⟨y, y1, y2, fun v => (y3 v).trans ?_, fun R hR => ?_⟩
      · constructor
        · rintro ⟨k, hk, rfl⟩
          rw [r]
          by_cases a : k = x7
          · rw [if_pos a]
            exact ⟨x7 + 1, by omega, rfl⟩
          · rw [if_neg a]
            by_cases b : k = x7 + 1
            · rw [if_pos b]
              exact ⟨x7, by omega, rfl⟩
            · rw [if_neg b]
              exact ⟨k, by simpa using hk, rfl⟩
        · rintro ⟨k, hk, rfl⟩
          by_cases a : k = x7
          · subst a
            exact ⟨k + 1, by simp; omega, by rw [r, if_neg (by omega), if_pos rfl]⟩
          · by_cases b : k = x7 + 1
            · subst b
              exact ⟨x7, by simp; omega, by rw [r, if_pos rfl]⟩
            · exact ⟨k, by simpa using hk, by rw [r, if_neg a, if_neg b]⟩
      · refine Ev.step (fun k => by rw [slices_insertionSortOrdered_int64.l1]) ?_
        rw [e, less_eq]
        simp only [Option.bind_some]
        refine Pl.ev_ite_pos (by omega) (Pl.ev_ite_pos (by omega) (Pl.ev_ite_pos (by omega) (Pl.ev_ite_pos (by omega) (Pl.ev_ite_pos (by omega) (Pl.ev_ite_pos (decide_eq_true hc) ?_)))))
        rw [Int.toNat_natCast, Int.toNat_natCast]
        exact y4 R hR
    · refine ⟨x, hl, fun i j hij hj => ?_, fun v => Iff.rfl, fun R hR => ?_⟩
      · by_cases a : i = x7 + 1
        · subst a
          exact i2 j hij (by omega)
        · by_cases b : j = x7 + 1
          · subst b
            by_cases c : i = x7
            · subst c; omega
            · have := i1 i x7 (by omega) (by omega) a (by omega)
              omega
          · exact i1 i j hij (by omega) a b
      · refine Ev.step (fun k => by rw [slices_insertionSortOrdered_int64.l1]) ?_
        rw [e, less_eq]
        simp only [Option.bind_some]
        refine Pl.ev_ite_pos (by omega) (Pl.ev_ite_pos (by omega) (Pl.ev_ite_pos (by omega) (Pl.ev_ite_pos (by omega) (Pl.ev_ite_pos (by omega) (Pl.ev_ite_neg (by simpa using hc) ?_)))))
        rw [Pl.wrap_nat (show x6 < 9223372036854775807 by omega)]
        exact hR
theorem sort_ev (l : List Int) (hl : l.length ≤ 12) : ∃ s : List Int, s.length = l.length ∧ upTo s l.length ∧ (∀ v, v ∈ s ↔ v ∈ l) ∧ Ev (fun k => slices_Sort_int64_int64.f k l) s := by
  have main : ∀ d m : Nat, l.length - m = d → m ≤ l.length → ∀ x : List Int, x.length = l.length → upTo x m → ∃ s : List Int, s.length = l.length ∧ upTo s l.length ∧ (∀ v, has s v ↔ has x v) ∧ Ev (fun k => slices_insertionSortOrdered_int64.l0 k x 0 (l.length : Int) (m : Int)) s := by
    intro d
    induction d with
    | zero =>
      intro m hd hm x hx hs
      obtain rfl : m = l.length := by omega
      exact ⟨x, hx, hs, fun _ => Iff.rfl, Ev.step (fun k => by rw [slices_insertionSortOrdered_int64.l0]) (Pl.ev_ite_neg (by omega) (Ev.now _))⟩
    | succ d ih =>
      intro m hd hm x hx hs
      obtain ⟨y, a, b, c, e⟩ := sort_in l.length m (by omega) (by omega) m x (Nat.le_refl _) hx (fun i j hij hj hi hj' => hs i j hij (by omega)) (fun j hj hj' => by omega)
      obtain ⟨s, s1, s2, s3, s4⟩ := ih (m + 1) (by omega) (by omega) y a b
      exact ⟨s, s1, s2, fun v => (s3 v).trans (c v), Ev.step (fun k => by rw [slices_insertionSortOrdered_int64.l0]) (Pl.ev_ite_pos (by omega) (e s (by simpa using s4)))⟩
  have top : ∃ s : List Int, s.length = l.length ∧ upTo s l.length ∧ (∀ v, has s v ↔ has l v) ∧ Ev (fun k => slices_insertionSortOrdered_int64.l0 k l 0 (l.length : Int) 1) s := by
    by_cases h0 : l.length = 0
    · exact ⟨l, rfl, fun i j _ h => by omega, fun _ => Iff.rfl, Ev.step (fun k => by rw [slices_insertionSortOrdered_int64.l0]) (Pl.ev_ite_neg (by omega) (Ev.now _))⟩
    · exact main (l.length - 1) 1 rfl (by omega) l rfl (fun i j _ h => by omega)
  obtain ⟨s, s1, s2, s3, s4⟩ := top
  refine ⟨s, s1, s2, fun v => by rw [← has_iff, ← has_iff]; exact s3 v, ?_⟩
  unfold slices_Sort_int64_int64.f
  have eb : ∃ b, bits_Len.f (IntKind.u64.wrap (l.length : Int)) = some b := by
    have e : IntKind.u64.wrap (l.length : Int) = (l.length : Int) := by
      simp [IntKind.wrap, IntKind.signed, IntKind.bits]
      omega
    unfold bits_Len.f
    rw [e, if_pos (by omega)]
    exact ⟨_, rfl⟩
  obtain ⟨b, eb⟩ := eb
  rw [eb]
  simp only [Option.bind_some]
  refine Pl.ev_bind' (a := s) (Ev.step (fun k => by rw [slices_pdqsortOrdered_int64.f]) (Ev.step (fun k => by rw [slices_pdqsortOrdered_int64.l0]) ?_)) (Ev.now _)
  rw [Pl.wrap_in (by omega) (by omega)]
  refine Pl.ev_ite_pos (by omega) (Pl.ev_bind' ?_ (Ev.now _))
  unfold slices_insertionSortOrdered_int64.f
  rw [show wrap64 (0 + 1) = 1 by rw [Pl.wrap_in (by omega) (by omega)]; rfl]
  exact s4
theorem strict_ext : ∀ l m : List Int, l.Pairwise (· < ·) → m.Pairwise (· < ·) → (∀ x, x ∈ l ↔ x ∈ m) → l = m
  | [], [], _, _, _ => rfl
  | [], b :: m, _, _, h => by have := (h b).2 List.mem_cons_self; simp at this
  | a :: l, [], _, _, h => by have := (h a).1 List.mem_cons_self; simp at this
  | a :: l, b :: m, hl, hm, h => by
    rw [List.pairwise_cons] at hl hm
    have h1 := (h a).1 List.mem_cons_self
    have h2 := (h b).2 List.mem_cons_self
    have e : a = b := by
      rcases List.mem_cons.1 h1 with h1 | h1
      · exact h1
      · rcases List.mem_cons.1 h2 with h2 | h2
        · exact h2.symm
        · have := hl.1 b h2
          have := hm.1 a h1
          omega
    subst e
    rw [strict_ext l m hl.2 hm.2 (fun x => ?_)]
    constructor
    · intro hx
      rcases List.mem_cons.1 ((h x).1 (List.mem_cons_of_mem _ hx)) with h3 | h3
      · have := hl.1 x hx
        omega
      · exact h3
    · intro hx
      rcases List.mem_cons.1 ((h x).2 (List.mem_cons_of_mem _ hx)) with h3 | h3
      · have := hm.1 x hx
        omega
      · exact h3
theorem bang_rd (s : List Int) (j : Nat) (h : j < s.length) : s.toArray[j]! = rd s (j : Int) := by
  rw [Pl.rd_get s j h, getElem!_pos _ j (by simpa using h)]
  simp
theorem compact_spec (s : List Int) (hs : upTo s s.length) : (Lib.compactUpTo s.toArray s.toArray.size).Pairwise (· < ·) ∧ ∀ v, v ∈ Lib.compactUpTo s.toArray s.toArray.size ↔ v ∈ s := by
  have es : s.toArray.size = s.length := by simp
  rw [es]
  unfold Lib.compactUpTo
  constructor
  · rw [List.pairwise_map, List.pairwise_filter]
    refine List.pairwise_lt_range.imp_of_mem ?_
    intro i j hi hj hij _ kj
    rw [List.mem_range] at hi hj
    rw [bang_rd s i hi, bang_rd s j hj]
    have kj' := of_decide_eq_true kj
    rcases kj' with k0 | k1
    · omega
    · rw [bang_rd s j hj, bang_rd s (j - 1) (by omega)] at k1
      have a : rd s (i : Int) ≤ rd s ((j - 1 : Nat) : Int) := by
        by_cases e : i = j - 1
        · rw [e]; exact Int.le_refl _
        · exact hs i (j - 1) (by omega) (by omega)
      have b := hs (j - 1) j (by omega) hj
      omega
  · intro v
    rw [List.mem_map]
    constructor
    · rintro ⟨j, hj, rfl⟩
      have := List.mem_range.1 (List.mem_filter.1 hj).1
      rw [bang_rd s j this, Pl.rd_get s j this]
      exact List.getElem_mem this
    · intro hv
      have hh := (has_iff s v).2 hv
      obtain ⟨k, hk, hkv⟩ := hh
      have least : ∀ k : Nat, k < s.length → rd s (k : Int) = v → ∃ j, j < s.length ∧ rd s (j : Int) = v ∧ Lib.keeps s.toArray j = true := by
        intro k
        induction k with
        | zero => intro hk hkv; exact ⟨0, hk, hkv, decide_eq_true (.inl rfl)⟩
        | succ k ih =>
          intro hk hkv
          by_cases e : rd s (k : Int) = v
          · exact ih (by omega) e
          · refine ⟨k + 1, hk, hkv, decide_eq_true (.inr ?_)⟩
            rw [bang_rd s (k + 1) hk, Nat.add_sub_cancel, bang_rd s k (by omega), hkv]
            exact fun h => e h.symm
      obtain ⟨j, hj, hjv, hjk⟩ := least k hk hkv
      exact ⟨j, List.mem_filter.2 ⟨List.mem_range.2 hj, hjk⟩, by rw [bang_rd s j hj]; exact hjv⟩
end Go.Proofs.Ytmppibhdnajjjaa.V
