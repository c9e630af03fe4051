/- Plain words on expressions: the nodes below a node, in order; when they stand as they have to. No condition. -/
import Derived.Test.YtmppibhdnajjjaaDoorXPure
namespace Go.Proofs.YtmppibhdnajjjaaDoor
set_option linter.unusedVariables false
set_option linter.unusedSimpArgs false
namespace Pl
/-- A kind with two parts. -/
def two (k : Int) : Bool := decide (3 ≤ k ∧ k ≤ 9)
section
variable (K : Nat → Int) (L R : Nat → Nat)
/-- The nodes below one, and it: at most so deep. -/
def segF : Nat → Nat → List Nat
  | 0, _ => []
  | f + 1, i => (if 2 < K i then segF f (L i) else []) ++ (if two (K i) = true then segF f (R i) else []) ++ [i]
def seg (i : Nat) : List Nat := segF K L R (i + 1) i
def sz (i : Nat) : Nat := (seg K L R i).length
/-- Parts stand ahead. -/
def ahead (n : Nat) : Prop := ∀ i, i < n → (2 < K i → L i < i) ∧ (two (K i) = true → R i < i)
/-- A node's parts stand where they have to. -/
def ok (i : Nat) : Prop := (K i = 10 → L i + 1 = i) ∧ (two (K i) = true → R i + 1 = i ∧ L i + 1 + sz K L R (R i) = i)
variable {K L R}
theorem two_inner {k : Int} (h : two k = true) : 2 < k := by have := of_decide_eq_true h; omega
theorem segF_more {n : Nat} (ha : ahead K L R n) : ∀ f g i, i < n → i < f → i < g → segF K L R f i = segF K L R g i
  | 0, _, _, _, h, _ => absurd h (by omega)
  | _, 0, _, _, _, h => absurd h (by omega)
  | f + 1, g + 1, i, hn, hf, hg => by
    obtain ⟨h1, h2⟩ := ha i hn
    unfold segF
    congr 2
    · split
      · rename_i h; have := h1 h; exact segF_more ha f g (L i) (by omega) (by omega) (by omega)
      · rfl
    · split
      · rename_i h; have := h2 h; exact segF_more ha f g (R i) (by omega) (by omega) (by omega)
      · rfl
theorem seg_eq {n : Nat} (ha : ahead K L R n) {i : Nat} (hn : i < n) : seg K L R i = (if 2 < K i then seg K L R (L i) else []) ++ (if two (K i) = true then seg K L R (R i) else []) ++ [i] := by
  obtain ⟨h1, h2⟩ := ha i hn
  unfold seg
  rw [segF]
  congr 2
  · split
    · rename_i h; have := h1 h; exact segF_more ha _ _ (L i) (by omega) (by omega) (by omega)
    · rfl
  · split
    · rename_i h; have := h2 h; exact segF_more ha _ _ (R i) (by omega) (by omega) (by omega)
    · rfl
theorem sz_eq {n : Nat} (ha : ahead K L R n) {i : Nat} (hn : i < n) : sz K L R i = (if 2 < K i then sz K L R (L i) else 0) + (if two (K i) = true then sz K L R (R i) else 0) + 1 := by
  unfold sz
  rw [seg_eq ha hn]
  simp only [List.length_append, List.length_singleton]
  congr 2
  · split <;> rfl
  · split <;> rfl
theorem sz_pos {n : Nat} (ha : ahead K L R n) {i : Nat} (hn : i < n) : 1 ≤ sz K L R i := by rw [sz_eq ha hn]; omega
theorem sz_le {n : Nat} (ha : ahead K L R n) : ∀ i, i < n → sz K L R i + 1 ≤ 2 ^ (i + 1) := by
  intro i
  induction i using Nat.strongRecOn with
  | _ i ih =>
    intro hn
    obtain ⟨h1, h2⟩ := ha i hn
    rw [sz_eq ha hn]
    have p : ∀ j, j < i → sz K L R j + 1 ≤ 2 ^ i := fun j hj => Nat.le_trans (ih j hj (by omega)) (Nat.pow_le_pow_right (by omega) (by omega))
    have q : 1 ≤ 2 ^ i := Nat.one_le_two_pow
    rw [Nat.pow_succ]
    split
    · rename_i h
      have := p _ (h1 h)
      split
      · rename_i h'
        have := p _ (h2 h')
        omega
      · omega
    · rename_i h
      rw [if_neg (fun h' => h (two_inner h'))]
      omega
theorem seg_last {n : Nat} (ha : ahead K L R n) {i : Nat} (hn : i < n) : ∃ l, seg K L R i = l ++ [i] := ⟨_, seg_eq ha hn⟩
/-- Where all stands as it has to, the nodes below one stand ahead of it in one piece. -/
theorem seg_range {n : Nat} (ha : ahead K L R n) : ∀ i, i < n → (∀ j, j ≤ i → K j ≤ 10 ∧ ok K L R j) → sz K L R i ≤ i + 1 ∧ seg K L R i = List.range' (i + 1 - sz K L R i) (sz K L R i) := by
  intro i
  induction i using Nat.strongRecOn with
  | _ i ih =>
    intro hn hok
    obtain ⟨h1, h2⟩ := ha i hn
    obtain ⟨hk, o1, o2⟩ := hok i (Nat.le_refl _)
    have es := sz_eq ha hn
    rw [seg_eq ha hn]
    by_cases hT : two (K i) = true
    · have hI := two_inner hT
      obtain ⟨o3, o4⟩ := o2 hT
      have hl := h1 hI
      have hr := h2 hT
      obtain ⟨a1, a2⟩ := ih (L i) hl (by omega) (fun j hj => hok j (by omega))
      obtain ⟨b1, b2⟩ := ih (R i) hr (by omega) (fun j hj => hok j (by omega))
      rw [if_pos hI, if_pos hT] at es ⊢
      refine ⟨by omega, ?_⟩
      rw [a2, b2, es]
      rw [show i + 1 - (sz K L R (L i) + sz K L R (R i) + 1) = L i + 1 - sz K L R (L i) from by omega]
      rw [show R i + 1 - sz K L R (R i) = L i + 1 - sz K L R (L i) + sz K L R (L i) from by omega]
      rw [← List.range'_append_1, ← List.range'_append_1]
      congr 1
      rw [List.range'_one]
      congr 1
      omega
    · by_cases hI : 2 < K i
      · have h10 : K i = 10 := by
          have : ¬ (3 ≤ K i ∧ K i ≤ 9) := fun e => hT (decide_eq_true e)
          omega
        have o3 := o1 h10
        obtain ⟨a1, a2⟩ := ih (L i) (h1 hI) (by omega) (fun j hj => hok j (by omega))
        rw [if_pos hI, if_neg hT] at es ⊢
        refine ⟨by omega, ?_⟩
        rw [a2, es, List.append_nil]
        rw [show i + 1 - (sz K L R (L i) + 0 + 1) = L i + 1 - sz K L R (L i) from by omega, Nat.add_zero, ← List.range'_append_1]
        congr 1
        rw [List.range'_one]
        congr 1
        omega
      · rw [if_neg hI, if_neg hT] at es ⊢
        refine ⟨by omega, ?_⟩
        rw [es]
        simp
theorem append_last {α : Type} {l m : List α} {x y : α} (h : l ++ [x] = m ++ [y]) : l = m ∧ x = y := by
  have := List.append_inj' h rfl
  simpa using this
theorem range_split {a n : Nat} {l m : List Nat} (h : List.range' a n = l ++ m) : l = List.range' a l.length ∧ m = List.range' (a + l.length) m.length := by
  have hn : n = l.length + m.length := by have := congrArg List.length h; simpa using this
  rw [hn, ← List.range'_append_1] at h
  have := List.append_inj h (by simp)
  exact ⟨this.1.symm, this.2.symm⟩
/-- Where the nodes below one stand in one piece, all of them have their parts where they have to be. -/
theorem range_ok {n : Nat} (ha : ahead K L R n) : ∀ i, i < n → ∀ a m, seg K L R i = List.range' a m → ∀ j ∈ seg K L R i, ok K L R j := by
  intro i
  induction i using Nat.strongRecOn with
  | _ i ih =>
    intro hn a m h
    obtain ⟨h1, h2⟩ := ha i hn
    have e := seg_eq ha hn
    rw [h, List.append_assoc] at e
    obtain ⟨e1, e2⟩ := range_split e
    obtain ⟨e3, e4⟩ := range_split e2.symm
    have e5 := e4
    simp only [List.length_singleton, List.range'_one, List.cons.injEq, and_true] at e5
    rw [seg_eq ha hn]
    intro j hj
    simp only [List.mem_append, List.mem_singleton] at hj
    by_cases hT : two (K i) = true
    · have hI := two_inner hT
      have hl := h1 hI
      have hr := h2 hT
      rw [if_pos hI, if_pos hT] at hj
      rw [if_pos hI] at e1 e3 e5
      rw [if_pos hT] at e3 e5
      have sl : (seg K L R (L i)).length = sz K L R (L i) := rfl
      have sr : (seg K L R (R i)).length = sz K L R (R i) := rfl
      rcases hj with (hj | hj) | rfl
      · exact ih (L i) hl (by omega) _ _ e1 j hj
      · exact ih (R i) hr (by omega) _ _ e3 j hj
      · obtain ⟨l, hl'⟩ := seg_last ha (show L j < n by omega)
        obtain ⟨m', hm'⟩ := seg_last ha (show R j < n by omega)
        have pl := sz_pos ha (show L j < n by omega)
        have pr := sz_pos ha (show R j < n by omega)
        rw [sl] at e1 e3 e5
        rw [sr] at e3 e5
        have f1 : L j + 1 = a + sz K L R (L j) := by
          rw [hl'] at e1
          rw [show sz K L R (L j) = (sz K L R (L j) - 1) + 1 from by omega, ← List.range'_append_1, List.range'_one] at e1
          have := (append_last e1).2
          omega
        have f2 : R j + 1 = a + sz K L R (L j) + sz K L R (R j) := by
          rw [hm'] at e3
          rw [show sz K L R (R j) = (sz K L R (R j) - 1) + 1 from by omega, ← List.range'_append_1, List.range'_one] at e3
          have := (append_last e3).2
          omega
        refine ⟨fun h10 => ?_, fun _ => ⟨by omega, by omega⟩⟩
        have := of_decide_eq_true hT
        omega
    · by_cases hI : 2 < K i
      · have hl := h1 hI
        rw [if_pos hI, if_neg hT] at hj
        rw [if_pos hI] at e1 e5
        rw [if_neg hT] at e5
        have sl : (seg K L R (L i)).length = sz K L R (L i) := rfl
        rcases hj with (hj | hj) | rfl
        · exact ih (L i) hl (by omega) _ _ e1 j hj
        · simp at hj
        · obtain ⟨l, hl'⟩ := seg_last ha (show L j < n by omega)
          have pl := sz_pos ha (show L j < n by omega)
          rw [sl] at e1 e5
          have f1 : L j + 1 = a + sz K L R (L j) := by
            rw [hl'] at e1
            rw [show sz K L R (L j) = (sz K L R (L j) - 1) + 1 from by omega, ← List.range'_append_1, List.range'_one] at e1
            have := (append_last e1).2
            omega
          refine ⟨fun _ => ?_, fun h => absurd h hT⟩
          simp at e5
          omega
      · rw [if_neg hI, if_neg hT] at hj
        rcases hj with (hj | hj) | rfl
        · simp at hj
        · simp at hj
        · exact ⟨fun h => absurd (by omega : 2 < K j) hI, fun h => absurd h hT⟩
variable (K L R)
/-- The walk of the reference: it ends where there are too many. -/
def walkF : Nat → Nat → List Int → List Int
  | 0, _, out => out
  | f + 1, i, out => if 16 < out.length then out else
      (if two (K i) = true then walkF f (R i) (if 2 < K i then walkF f (L i) out else out) else (if 2 < K i then walkF f (L i) out else out)) ++ [(i : Int)]
variable {K L R}
theorem walkF_short : ∀ f i out, (walkF K L R f i out).length ≤ 16 → i < f → (∀ n, i < n → ahead K L R n → walkF K L R f i out = out ++ (segF K L R f i).map Int.ofNat) := by
  intro f
  induction f with
  | zero => intro i out _ h; omega
  | succ f ih =>
    intro i out hlen hf n hn ha
    obtain ⟨h1, h2⟩ := ha i hn
    unfold walkF at hlen ⊢
    unfold segF
    by_cases h : 16 < out.length
    · rw [if_pos h] at hlen; omega
    · rw [if_neg h] at hlen ⊢
      by_cases hI : 2 < K i
      · have hl := h1 hI
        simp only [if_pos hI] at hlen ⊢
        by_cases hT : two (K i) = true
        · have hr := h2 hT
          simp only [if_pos hT, List.length_append, List.length_singleton] at hlen ⊢
          have e1 := ih (R i) (walkF K L R f (L i) out) (by omega) (by omega) n (by omega) ha
          have e2 := ih (L i) out (by rw [e1] at hlen; simp at hlen; omega) (by omega) n (by omega) ha
          rw [e1, e2]
          simp
        · simp only [if_neg hT, List.length_append, List.length_singleton] at hlen ⊢
          have e2 := ih (L i) out (by omega) (by omega) n (by omega) ha
          rw [e2]
          simp
      · have hT : ¬ two (K i) = true := fun e => hI (two_inner e)
        simp [hI, hT]
theorem walkF_fits : ∀ f i out, out.length + (segF K L R f i).length ≤ 16 → i < f → (∀ n, i < n → ahead K L R n → walkF K L R f i out = out ++ (segF K L R f i).map Int.ofNat) := by
  intro f
  induction f with
  | zero => intro i out _ h; omega
  | succ f ih =>
    intro i out hlen hf n hn ha
    obtain ⟨h1, h2⟩ := ha i hn
    unfold walkF
    unfold segF at hlen ⊢
    simp only [List.length_append, List.length_singleton] at hlen
    rw [if_neg (by omega)]
    by_cases hI : 2 < K i
    · have hl := h1 hI
      simp only [if_pos hI] at hlen ⊢
      have e2 := ih (L i) out (by omega) (by omega) n (by omega) ha
      by_cases hT : two (K i) = true
      · have hr := h2 hT
        simp only [if_pos hT] at hlen ⊢
        have e1 := ih (R i) (walkF K L R f (L i) out) (by rw [e2]; simp; omega) (by omega) n (by omega) ha
        rw [e1, e2]
        simp
      · simp only [if_neg hT] at hlen ⊢
        rw [e2]
        simp
    · have hT : ¬ two (K i) = true := fun e => hI (two_inner e)
      simp [hI, hT]
/-- The walk comes to all nodes in order just where all stands as it has to, and below the last one are all. -/
theorem walk_iff {n : Nat} (h0 : 0 < n) (h16 : n ≤ 16) (ha : ahead K L R n) (hk : ∀ i, i < n → K i ≤ 10) :
    walkF K L R n (n - 1) [] = (List.range n).map Int.ofNat ↔ (∀ j, j < n → ok K L R j) ∧ sz K L R (n - 1) = n := by
  have es : segF K L R n (n - 1) = seg K L R (n - 1) := by unfold seg; rw [show n - 1 + 1 = n from by omega]
  constructor
  · intro h
    have e := walkF_short n (n - 1) [] (by rw [h]; simpa using h16) (by omega) n (by omega) ha
    rw [h, es, List.nil_append] at e
    have e' : List.range n = seg K L R (n - 1) := by
      have inj : ∀ (l m : List Nat), l.map Int.ofNat = m.map Int.ofNat → l = m := fun l m hlm => (List.map_inj_right (fun a b hab => Int.ofNat.inj hab)).1 hlm
      exact inj _ _ e
    have hr : seg K L R (n - 1) = List.range' 0 n := by rw [← e', List.range_eq_range']
    refine ⟨fun j hj => range_ok ha (n - 1) (by omega) 0 n hr j ?_, ?_⟩
    · rw [← e']; exact List.mem_range.2 hj
    · unfold sz; rw [← e']; simp
  · rintro ⟨hok, hs⟩
    obtain ⟨_, e⟩ := seg_range ha (n - 1) (by omega) (fun j hj => ⟨hk j (by omega), hok j (by omega)⟩)
    rw [hs, show n - 1 + 1 - n = 0 from by omega] at e
    rw [walkF_fits n (n - 1) [] (by rw [es, e]; simpa using h16) (by omega) n (by omega) ha, es, e, List.range_eq_range']
    rfl
end
end Pl
end Go.Proofs.YtmppibhdnajjjaaDoor
