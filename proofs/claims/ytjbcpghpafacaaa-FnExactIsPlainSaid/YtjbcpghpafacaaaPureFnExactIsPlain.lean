/- FnExactIsPlain: for every list of steps the program's IsPlain answers what the reference's answers, and turns none of them; no condition. -/
import Derived.Test.YtjbcpghpafacaaaUAll
import Derived.Test.YtjbcpghpafacaaaISFnExactIsPlain
namespace Go.Proofs.Ytjbcpghpafacaaa.I
set_option linter.unusedVariables false
set_option linter.unusedSimpArgs false
open Go.RowKit Go.Proofs.Ytjbcpghpafacaaa Go.Proofs.YtjbcpghpafacaaaW.PrintWords Go.Proofs.YtjbcpghpafacaaaW.PrintLast
def bS (s : Sp) : Prop := s.f4.length ≤ 1048576 ∧ s.f5.length ≤ 1048576
/-- All steps of a tree are of some size at most. -/
inductive AT : Tr → Prop
  | mk (s : Sp) (ks : List Tr) : bS s → (∀ x ∈ ks, AT x) → AT ⟨s, ks⟩
theorem AT.st {t : Tr} (h : AT t) : bS t.st := by
  cases h with
  | mk _ _ h1 _ => exact h1
theorem AT.kids {t : Tr} (h : AT t) : ∀ x ∈ t.kids, AT x := by
  cases h with
  | mk _ _ _ h2 => exact h2
theorem at_flat {b : Bool} {ks : List Tr} (h : ∀ x ∈ ks, AT x) : ∀ x ∈ ks.flatMap (takeIn b), AT x := by
  intro x hx
  obtain ⟨y, hy, hxy⟩ := List.mem_flatMap.1 hx
  unfold takeIn at hxy
  split at hxy
  · exact (h y hy).kids x hxy
  · rw [List.mem_singleton] at hxy
    rw [hxy]
    exact h y hy
theorem at_rnd {s : Sp} {ks : List Tr} (hs : bS s) (h : ∀ x ∈ ks, AT x) : AT (rnd s ks) := by
  have hf := at_flat (b := isSeq ⟨s, ks⟩) h
  unfold rnd
  split
  · rename_i hq
    rw [Bool.and_eq_true, decide_eq_true_eq] at hq
    obtain ⟨x, hx⟩ := List.length_eq_one_iff.1 hq.2
    rw [hx] at hf ⊢
    have hx' := hf x (List.mem_singleton.2 rfl)
    show AT (onlyOf s x)
    unfold onlyOf
    split
    · exact AT.mk _ _ ⟨hs.1, hx'.st.2⟩ hx'.kids
    · exact hx'
  · exact AT.mk _ _ hs hf
theorem at_pln : ∀ t : Tr, AT t → AT (pln t) := by
  intro t
  induction t using Tr.ind with
  | h s ks ih =>
    intro h
    rw [pln_eq]
    refine at_rnd h.st (fun x hx => ?_)
    obtain ⟨y, hy, rfl⟩ := List.mem_map.1 hx
    exact ih y hy (h.kids y hy)
theorem lay_b : ∀ (t : Tr) (b : List Sp) (q : Int), AT t → (∀ y ∈ b, bS y) → ∀ y ∈ lay b t q, bS y := by
  intro t
  induction t using Tr.ind with
  | h s ks ih =>
    intro b q ht hb
    rw [lay_eq]
    have main : ∀ (l : List Tr) (c : List Sp) (n : Int), (∀ x ∈ l, x ∈ ks) → (∀ y ∈ c, bS y) → ∀ y ∈ l.foldl (fun b' x => lay b' x n) c, bS y := by
      intro l
      induction l with
      | nil => intro c n _ hc; exact hc
      | cons x l ihl =>
        intro c n hl hc
        exact ihl _ n (fun y hy => hl y (List.mem_cons_of_mem _ hy)) (ih x (hl x (List.mem_cons_self ..)) c n (ht.kids x (hl x (List.mem_cons_self ..))) hc)
    refine main ks _ _ (fun _ h => h) (fun y hy => ?_)
    rcases List.mem_append.1 hy with hy | hy
    · exact hb y hy
    · rw [List.mem_singleton] at hy
      rw [hy]
      exact ht.st
theorem at_tree {p : List St} (ht : treeOk p p.length) (hz : sized p) : ∀ d a, p.length - a = d → a < p.length → AT (tree p a) := by
  intro d
  induction d using Nat.strongRecOn with
  | _ d ih =>
    intro a hd ha
    rw [tree_eq ht ha]
    refine AT.mk _ _ ⟨(hz a ha).2.1, (hz a ha).2.2⟩ (fun x hx => ?_)
    obtain ⟨k, hk, rfl⟩ := List.mem_map.1 hx
    have := kidsN_behind ht hk
    have := (kidsN_mem.1 hk).1
    exact ih (p.length - k) (by omega) k rfl (by omega)
theorem copy_ev (q : List St) (hl : q.length ≤ 1000000) (hb : ∀ y ∈ q, bS y) : Ev (fun k => spec_l4Copy.f k q) q := by
  unfold spec_l4Copy.f
  refine Pl.loop (n := q.length) (g := fun k i acc => spec_l4Copy.l0 k q acc i) (F := fun _ _ => q) (fun i acc => acc = q.take i) ?_ ?_ 0 [] (Nat.zero_le _) rfl
  · rintro acc rfl
    refine Ev.step (fun k => by rw [spec_l4Copy.l0]) ?_
    exact Pl.ev_ite_neg (by omega) (Pl.ev_to (Ev.now _) (by simp))
  · rintro i acc hi rfl ih
    obtain ⟨b1, b2⟩ := hb _ (List.getElem_mem hi)
    refine Ev.step (fun k => by rw [spec_l4Copy.l0]) ?_
    rw [Pl.wrap_nat (show i < 9223372036854775807 by omega), rd_iStep q i hi]
    simp only [Option.bind_some, List.nil_append, List.length_nil, Nat.zero_add]
    refine Pl.ev_ite_pos (by omega) (Pl.ev_ite_pos (by omega) (Pl.ev_ite_pos (by omega) (Pl.ev_ite_pos (by omega) (Pl.ev_ite_pos (by rw [List.length_take]; omega) (ih _ ?_)))))
    rw [List.take_succ_eq_append_getElem hi]
theorem same_refl : ∀ p : List St, sameSs p p = true
  | [] => rfl
  | x :: l => by
    have hn : ∀ m : List S74, sameNs m m = true := by
      intro m
      induction m with
      | nil => rfl
      | cons y m ih => rw [sameNs, ih]; simp [sameN]
    rw [sameSs, same_refl l]
    simp [sameS, hn]
def okI (p : List St) : Nat → Nat → Bool
  | 0, _ => true
  | m + 1, i => condB p i && okI p m (i + 1)
theorem okI_iff (p : List St) : ∀ m i, okI p m i = true ↔ ∀ j, i ≤ j → j < i + m → condB p j = true
  | 0, i => by
    constructor
    · intro _ j h1 h2; omega
    · intro _; rfl
  | m + 1, i => by
    rw [okI, Bool.and_eq_true, okI_iff p m (i + 1)]
    constructor
    · rintro ⟨h1, h2⟩ j h3 h4
      by_cases h : j = i
      · rw [h]; exact h1
      · exact h2 j (by omega) (by omega)
    · intro h
      exact ⟨h i (by omega) (by omega), fun j h1 h2 => h j (by omega) (by omega)⟩
theorem plainI_ev {p : List St} (h24 : p.length ≤ 24) (ht : treeOk p p.length) : ∀ m i, i + m ≤ p.length → Ev (fun k => plainI k p m i) (okI p m i)
  | 0, _, _ => Ev.now _
  | m + 1, i, hi => by
    have ih := plainI_ev h24 ht m (i + 1) (by omega)
    have hK := implKids_ev p h24 (fun h0 => (ht 0 h0).1 rfl) (i : Int) (by omega)
    have hin : inR p (kidsC p (i : Int) p.length) = true := by
      unfold inR
      rw [kidsC_N, List.all_eq_true]
      intro x hx
      obtain ⟨k, hk, rfl⟩ := List.mem_map.1 hx
      have := (kidsN_mem.1 hk).1
      exact decide_eq_true ⟨by omega, by omega⟩
    have hlen : (kidsC p (i : Int) p.length).length = (kidsN p i).length := by rw [kidsC_N, List.length_map]
    rw [okI]
    unfold condB
    simp only [plainI]
    refine Pl.ev_bind' hK (Pl.ev_ite_pos hin ?_)
    cases hs : seqAt p (i : Int)
    · refine Pl.ev_ite_neg (by simp) (Pl.ev_to ih (by simp))
    · refine Pl.ev_ite_pos rfl ?_
      by_cases h1 : (kidsN p i).length = 1
      · exact Pl.ev_to (Pl.ev_ite_pos (hlen.trans h1) (Ev.now _)) (by rw [decide_eq_true h1]; rfl)
      · refine Pl.ev_ite_neg (fun h => h1 (hlen.symm.trans h)) ?_
        cases ha : (kidsC p (i : Int) p.length).any (seqAt p)
        · exact Pl.ev_ite_neg (by simp) (Pl.ev_to ih (by rw [decide_eq_false h1]; rfl))
        · exact Pl.ev_to (Pl.ev_ite_pos rfl (Ev.now _)) (by rw [decide_eq_false h1]; rfl)
/-- The program and the reference say the same. -/
theorem plain_ev (p : List St) (hl : p.length ≤ 1048576) (hz : sized p) : ∃ b : Bool, Ev (fun k => spec_IsPlain.f k p) b ∧ Ev (fun k => impl_IsPlain.f k p) b := by
  obtain ⟨c, s, m, n⟩ := proc_ev p hl hz
  by_cases hc : c = 0
  · obtain ⟨⟨h1, h24⟩, ht, hln⟩ := n hc
    have hlo := lineOk_of ht h24 (fun i h0 hi => (hln.1 i hi).2.2 h0)
    obtain ⟨t1, t2⟩ := tree_all ht hlo h1
    have hpt := pt_iff ht h1
    have hok : okI p p.length 0 = true ↔ PT (tree p 0) := by
      rw [hpt, okI_iff]
      exact ⟨fun h i hi => h i (by omega) (by omega), fun h j _ hj => h j (by omega)⟩
    obtain ⟨l1, l2⟩ := pln_less (tree p 0)
    have hq := lay_len (pln (tree p 0)) [] (-1)
    have hqn : (lay [] (pln (tree p 0)) (-1)).length = cnt (pln (tree p 0)) := by rw [hq]; simp
    have hqb := lay_b (pln (tree p 0)) [] (-1) (at_pln _ (at_tree ht hz _ 0 rfl (by omega))) (fun y hy => by cases hy)
    have hG : Ev (fun k => growF k p 0) (tree p 0) := growF_ev h24 ht _ 0 rfl (by omega)
    refine ⟨okI p p.length 0, ?_, ?_⟩
    · unfold spec_IsPlain.f
      refine Pl.ev_bind' s (Pl.ev_ite_pos hc ?_)
      have hO : Ev (fun k => spec_l7PlainOf.f k p) (lay [] (pln (tree p 0)) (-1)) := by
        unfold spec_l7PlainOf.f
        refine Pl.ev_bind' hG (Pl.ev_bind' (plainF_ev _ (by omega)) (Pl.ev_bind' (flatF_ev _ [] (-1) (by show 0 + _ ≤ _; omega)) ?_))
        exact copy_ev _ (by omega) hqb
      refine Pl.ev_bind' hO ?_
      by_cases hp : PT (tree p 0)
      · rw [pln_self _ hp, t2, hok.2 hp]
        refine Pl.ev_to (specSs_ev p p hl (fun y hy => ?_)) (same_refl p)
        obtain ⟨i, hi, rfl⟩ := List.mem_iff_getElem.1 hy
        have := hz i hi
        rw [show rdS p (i : Int) = p[i] from rd_iStep p i hi] at this
        exact this.2
      · have hb : okI p p.length 0 = false := by
          cases hq : okI p p.length 0
          · rfl
          · exact absurd (hok.1 hq) hp
        have := l2 hp
        rw [hb]
        unfold spec_SameProcs.f
        exact Pl.ev_ite_neg (by omega) (Ev.now _)
    · unfold impl_IsPlain.f
      exact Pl.ev_bind' m (Pl.ev_ite_pos hc (plainI_ev h24 ht _ 0 (by omega)))
  · refine ⟨false, ?_, ?_⟩
    · unfold spec_IsPlain.f
      exact Pl.ev_bind' s (Pl.ev_ite_neg hc (Ev.now _))
    · unfold impl_IsPlain.f
      exact Pl.ev_bind' m (Pl.ev_ite_neg hc (Ev.now _))
end Go.Proofs.Ytjbcpghpafacaaa.I
namespace Go.Proofs.Ytjbcpghpafacaaa.Pure
open Go.RowKit Go.Proofs.Ytjbcpghpafacaaa Go.Proofs.Ytjbcpghpafacaaa.I Go.Proofs.YtjbcpghpafacaaaW.PrintWords Go.Proofs.YtjbcpghpafacaaaW.PrintLast
theorem FnExactIsPlain : laws_FnExactIsPlain.Pure := by
  intro a ha
  refine Ev.rounds (g := fun k => laws_FnExactIsPlain.f k a) ?_
  unfold laws_FnExactIsPlain.f
  obtain ⟨r, r0, r1, r2, r3⟩ := szStepS_ev a ha.1 ha.2 1048576 (by omega) (by omega)
  refine Pl.ev_bind' r3 ?_
  by_cases hr : r < 0
  · exact Pl.ev_ite_pos hr (Ev.now _)
  · refine Pl.ev_ite_neg hr ?_
    obtain ⟨a1, a2⟩ := r2 (by omega)
    have ta := toStepS_ev a a1 a2
    have la : (a.map toStep).length ≤ 1048576 := by simpa using a1
    have ba : ∀ y ∈ a.map toStep, y.f4.length ≤ 1048576 ∧ y.f5.length ≤ 1048576 := by
      intro y hy
      obtain ⟨z, hz, rfl⟩ := List.mem_map.1 hy
      exact ⟨by simpa [toStep] using (a2 z hz).2.1, by simpa [toStep] using (a2 z hz).2.2⟩
    obtain ⟨b, s, m⟩ := plain_ev (a.map toStep) la (sized_map a a2)
    refine Pl.ev_bind' ta (Pl.ev_bind' s (Pl.ev_bind' ta (Pl.ev_bind' m (Pl.ev_ite_neg (by simp) (Pl.ev_bind' ta (Pl.ev_bind' (eqStepS_ev _ la ba) (Pl.ev_ite_pos rfl (Ev.now _))))))))
end Go.Proofs.Ytjbcpghpafacaaa.Pure
