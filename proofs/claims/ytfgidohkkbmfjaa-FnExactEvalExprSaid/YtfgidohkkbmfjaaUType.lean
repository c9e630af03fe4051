/- The type of an expression: the program and the reference say the same. No condition. -/
import Derived.Test.YtfgidohkkbmfjaaUExpr3
import Derived.Test.YtfgidohkkbmfjaaQ2
import Derived.Test.YtfgidohkkbmfjaaQ7
namespace Go.Proofs.Ytfgidohkkbmfjaa.Q
set_option linter.unusedVariables false
set_option linter.unusedSimpArgs false
open Go.RowKit Go.Proofs.Ytfgidohkkbmfjaa Go.Proofs.YtfgidohkkbmfjaaW.PrintWords Go.Proofs.YtfgidohkkbmfjaaW.PrintLast
def wantC (K : Int) : Int := if K ≤ 8 then 1 else 2
def giveC (K : Int) : Int := if K ≤ 6 then 1 else 2
theorem partType_eq (K : Int) : impl_partType.f K = some (wantC K, giveC K) := by
  unfold impl_partType.f wantC giveC
  by_cases h : K ≤ 6
  · rw [if_pos h, if_pos (by omega), if_pos h]
  · rw [if_neg h, if_neg h]
    by_cases h' : K ≤ 8
    · rw [if_pos h', if_pos h']
    · rw [if_neg h', if_neg h']
def goodC (x : Nd) (acc : List Int) : Prop := (2 < x.f0 → rd acc x.f2 = wantC x.f0) ∧ (Pl.two x.f0 = true → rd acc x.f3 = wantC x.f0)
instance (x : Nd) (acc : List Int) : Decidable (goodC x acc) := by unfold goodC; infer_instance
/-- The types of nodes, one by one; none where a part has another type than it has to have. -/
def typesC : List Nd → List Int → Option (List Int)
  | [], acc => some acc
  | x :: l, acc => if goodC x acc then typesC l (acc ++ [giveC x.f0]) else none
theorem specTypes_ev (e : List Nd) (hl : e.length ≤ 16) (hf : fineN e) : Ev (fun k => spec_l3Types.f k e) ((typesC e []).elim (([] : List Int), false) fun t => (t, true)) := by
  unfold spec_l3Types.f
  have main := Pl.loop (σ := List Int) (n := e.length) (g := fun k i s => spec_l3Types.l0 k e s i) (F := fun i s => (typesC (e.drop i) s).elim (([] : List Int), false) fun t => (t, true)) (fun i s => s.length = i) ?_ ?_ 0 [] (Nat.zero_le _) rfl
  · simpa using main
  · intro s _
    refine Ev.step (fun k => by rw [spec_l3Types.l0]) ?_
    simp only [Pl.ev_ite, Pl.ev_none, Pl.ev_some]
    rw [if_neg (by omega), List.drop_length]
    rfl
  · intro i s hi hs ih
    have h0 := nodeC_0 (hf i hi)
    rw [Pl.drop_get hi]
    unfold typesC
    have key : Ev (fun k => spec_l3Types.j2 k e s (i : Int) (wantC e[i].f0) 1 e[i].f0 e[i].f1 e[i].f2 e[i].f3) ((if goodC e[i] s then typesC (e.drop (i + 1)) (s ++ [giveC e[i].f0]) else none).elim (([] : List Int), false) fun t => (t, true)) := by
      generalize e[i] = x at h0 ih ⊢
      obtain ⟨K, V, L, R⟩ := x
      simp only at h0 ⊢
      have next : Ev (fun k => spec_l3Types.l0 k e (s ++ [giveC K]) ((i : Int) + 1)) ((typesC (e.drop (i + 1)) (s ++ [giveC K])).elim (([] : List Int), false) fun t => (t, true)) := ih _ (by simp [hs])
      have lim : i < 17592186044416 := by omega
      refine Ev.step (fun k => by rw [spec_l3Types.j2]) ?_
      simp only [Pl.ev_ite, Pl.ev_none, Pl.ev_some, l3Two_eq, Option.bind_some, Pl.wrap_nat (show i < 9223372036854775807 by omega), lim, if_true, gt_iff_lt, ge_iff_le, hs]
      have good_iff : goodC ⟨K, V, L, R⟩ s ↔ (2 < K → rd s L = wantC K) ∧ (Pl.two K = true → rd s R = wantC K) := Iff.rfl
      have bT : Pl.two K = true → 0 ≤ R ∧ R < (i : Int) := fun h => by have := h0.2.2.1 (of_decide_eq_true h); omega
      have bI : 2 < K → 0 ≤ L ∧ L < (i : Int) := fun h => by have := h0.2.1 h; omega
      by_cases h7 : 7 ≤ K
      · have eg : giveC K = 2 := if_neg (by omega)
        have hI : 2 < K := by omega
        obtain ⟨b1, b2⟩ := bI hI
        rw [eg] at next ⊢
        simp only [h7, hI, if_true, b1, b2]
        by_cases hw : rd s L = wantC K
        · simp only [hw, if_true]
          by_cases hT : Pl.two K = true
          · obtain ⟨b3, b4⟩ := bT hT
            simp only [hT, if_true, b3, b4]
            by_cases hw2 : rd s R = wantC K
            · simp only [hw2, if_true]
              rw [if_pos (good_iff.2 ⟨fun _ => hw, fun _ => hw2⟩)]
              exact next
            · simp only [if_neg hw2]
              rw [if_neg (fun h => hw2 ((good_iff.1 h).2 hT))]
              rfl
          · simp only [if_neg hT]
            rw [if_pos (good_iff.2 ⟨fun _ => hw, fun h => absurd h hT⟩)]
            exact next
        · simp only [if_neg hw]
          rw [if_neg (fun h => hw ((good_iff.1 h).1 hI))]
          rfl
      · have eg : giveC K = 1 := if_pos (by omega)
        rw [eg] at next ⊢
        simp only [h7, if_false]
        by_cases hI : 2 < K
        · obtain ⟨b1, b2⟩ := bI hI
          simp only [hI, if_true, b1, b2]
          by_cases hw : rd s L = wantC K
          · simp only [hw, if_true]
            by_cases hT : Pl.two K = true
            · obtain ⟨b3, b4⟩ := bT hT
              simp only [hT, if_true, b3, b4]
              by_cases hw2 : rd s R = wantC K
              · simp only [hw2, if_true]
                rw [if_pos (good_iff.2 ⟨fun _ => hw, fun _ => hw2⟩)]
                exact next
              · simp only [if_neg hw2]
                rw [if_neg (fun h => hw2 ((good_iff.1 h).2 hT))]
                rfl
            · simp only [if_neg hT]
              rw [if_pos (good_iff.2 ⟨fun _ => hw, fun h => absurd h hT⟩)]
              exact next
          · simp only [if_neg hw]
            rw [if_neg (fun h => hw ((good_iff.1 h).1 hI))]
            rfl
        · have hT : ¬ Pl.two K = true := fun h => hI (Pl.two_inner h)
          simp only [if_neg hI, if_neg hT]
          rw [if_pos (good_iff.2 ⟨fun h => absurd h hI, fun h => absurd h hT⟩)]
          exact next
    have j1 : ∀ b : Bool, (b = true ↔ 8 < e[i].f0) → Ev (fun k => spec_l3Types.j1 k e s (i : Int) 1 1 b e[i].f0 e[i].f1 e[i].f2 e[i].f3) ((if goodC e[i] s then typesC (e.drop (i + 1)) (s ++ [giveC e[i].f0]) else none).elim (([] : List Int), false) fun t => (t, true)) := by
      intro b hb
      refine Ev.step (fun k => by rw [spec_l3Types.j1]) ?_
      simp only [Pl.ev_ite]
      unfold wantC at key
      by_cases h8 : 8 < e[i].f0
      · rw [if_pos (hb.2 h8)]
        rw [if_neg (by omega)] at key
        exact key
      · rw [if_neg (fun h => h8 (hb.1 h))]
        rw [if_pos (by omega)] at key
        exact key
    refine Ev.step (fun k => by rw [spec_l3Types.l0]) ?_
    simp only [Pl.ev_ite, Pl.ev_none, rd_iNode e i hi]
    rw [if_pos (by omega), if_pos (by omega)]
    split
    · exact j1 _ (by simp; omega)
    · exact j1 _ (by simp; omega)
theorem typesC_len : ∀ (l : List Nd) (acc t : List Int), typesC l acc = some t → t.length = acc.length + l.length
  | [], acc, t => by intro h; simp [typesC] at h; simp [h]
  | x :: l, acc, t => by
    intro h
    unfold typesC at h
    split at h
    · have := typesC_len l _ t h
      simp at this ⊢
      omega
    · simp at h
/-- An expression's type with its code ahead. -/
noncomputable def typeC (e : List Nd) : Int × Int := if exprC e = 0 then ((typesC e []).elim (7, 0) fun t => (0, rd t ((e.length - 1 : Nat) : Int))) else (exprC e, 0)
theorem exprC_0 {e : List Nd} (h : exprC e = 0) : (1 ≤ e.length ∧ e.length ≤ 16) ∧ fineN e := by
  unfold exprC at h
  by_cases hl : 1 ≤ e.length ∧ e.length ≤ 16
  · rw [if_pos hl] at h
    by_cases hn : nodesC 0 e = 0
    · exact ⟨hl, (nodesC_fine e).1 hn⟩
    · rw [if_neg hn] at h; exact absurd h hn
  · rw [if_neg hl] at h; exact absurd h (by omega)
theorem spec3Type_ev (e : List Nd) (hl0 : e.length ≤ 1048576) : Ev (fun k => spec_l3Type.f k e) ((typeC e).2, (typeC e).1) := by
  unfold spec_l3Type.f
  refine Pl.ev_bind' (spec3Fault_ev e hl0) ?_
  unfold typeC
  simp only [Pl.ev_ite]
  by_cases h : exprC e = 0
  · obtain ⟨⟨l1, l2⟩, hf⟩ := exprC_0 h
    rw [if_pos h, if_pos h]
    refine Pl.ev_bind' (specTypes_ev e l2 hf) ?_
    cases ht : typesC e [] with
    | none => simp only [Option.elim]; exact Ev.now _
    | some t =>
      have := typesC_len e [] t ht
      simp only [List.length_nil, Nat.zero_add] at this
      have ew : wrap64 ((t.length : Int) - 1) = ((e.length - 1 : Nat) : Int) := by rw [Pl.wrap_in (by omega) (by omega)]; omega
      simp only [Option.elim, if_true, ew, Pl.ev_ite, Pl.ev_none, Pl.ev_some]
      rw [if_pos (by omega), if_pos (by omega)]
      trivial
  · rw [if_neg h, if_neg h]
    exact Ev.now _
theorem implType_ev (e : List Nd) : Ev (fun k => impl_TypeOf.f k e) (typeC e) := by
  unfold impl_TypeOf.f
  refine Pl.ev_bind' (implExpr_ev e) ?_
  unfold typeC
  simp only [Pl.ev_ite]
  by_cases h : exprC e = 0
  · obtain ⟨⟨l1, l2⟩, hf⟩ := exprC_0 h
    rw [if_pos h, if_pos h]
    have main := Pl.loop (σ := List Int) (n := e.length) (g := fun k i s => impl_TypeOf.l0 k s e (e.length : Int) i) (F := fun i s => (typesC (e.drop i) s).elim ((7, 0) : Int × Int) fun t => (0, rd t ((e.length - 1 : Nat) : Int))) (fun i s => s.length = i) ?_ ?_ 0 [] (Nat.zero_le _) rfl
    · simpa using main
    · intro s hs
      have ew : wrap64 ((s.length : Int) - 1) = ((e.length - 1 : Nat) : Int) := by rw [Pl.wrap_in (by omega) (by omega)]; omega
      refine Ev.step (fun k => by rw [impl_TypeOf.l0]) ?_
      simp only [Pl.ev_ite, Pl.ev_none, Pl.ev_some, ew]
      rw [if_neg (by omega), if_pos (by omega), if_pos (by omega), List.drop_length]
      rfl
    · intro i s hi hs ih
      have h0 := nodeC_0 (hf i hi)
      rw [Pl.drop_get hi]
      unfold typesC
      refine Ev.step (fun k => by rw [impl_TypeOf.l0]) ?_
      simp only [Pl.ev_ite, Pl.ev_none, rd_iNode e i hi]
      rw [if_pos (by omega), if_pos (by omega), if_pos (by omega)]
      generalize e[i] = x at h0 ih ⊢
      obtain ⟨K, V, L, R⟩ := x
      simp only at h0 ⊢
      have next : Ev (fun k => impl_TypeOf.l0 k (s ++ [giveC K]) e (e.length : Int) ((i : Int) + 1)) ((typesC (e.drop (i + 1)) (s ++ [giveC K])).elim ((7, 0) : Int × Int) fun t => (0, rd t ((e.length - 1 : Nat) : Int))) := ih _ (by simp [hs])
      have lim : i < 17592186044416 := by omega
      simp only [partType_eq, Pl.ev_ite, Pl.ev_none, Pl.ev_some, isTwo_eq, Option.bind_some, Pl.wrap_nat (show i < 9223372036854775807 by omega), lim, if_true, gt_iff_lt, ge_iff_le, hs]
      have good_iff : goodC ⟨K, V, L, R⟩ s ↔ (2 < K → rd s L = wantC K) ∧ (Pl.two K = true → rd s R = wantC K) := Iff.rfl
      have bT : Pl.two K = true → 0 ≤ R ∧ R < (i : Int) := fun h => by have := h0.2.2.1 (of_decide_eq_true h); omega
      have bI : 2 < K → 0 ≤ L ∧ L < (i : Int) := fun h => by have := h0.2.1 h; omega
      by_cases hI : 2 < K
      · obtain ⟨b1, b2⟩ := bI hI
        simp only [hI, if_true, b1, b2]
        by_cases hw : rd s L = wantC K
        · simp only [hw, if_true]
          by_cases hT : Pl.two K = true
          · obtain ⟨b3, b4⟩ := bT hT
            simp only [hT, if_true, b3, b4]
            by_cases hw2 : rd s R = wantC K
            · simp only [hw2, if_true]
              rw [if_pos (good_iff.2 ⟨fun _ => hw, fun _ => hw2⟩)]
              exact next
            · simp only [if_neg hw2]
              rw [if_neg (fun h => hw2 ((good_iff.1 h).2 hT))]
              rfl
          · simp only [if_neg hT]
            rw [if_pos (good_iff.2 ⟨fun _ => hw, fun h => absurd h hT⟩)]
            exact next
        · simp only [if_neg hw]
          rw [if_neg (fun h => hw ((good_iff.1 h).1 hI))]
          rfl
      · have hT : ¬ Pl.two K = true := fun h => hI (Pl.two_inner h)
        simp only [if_neg hI, if_neg hT]
        rw [if_pos (good_iff.2 ⟨fun h => absurd h hI, fun h => absurd h hT⟩)]
        exact next
  · rw [if_neg h, if_neg h]
    exact Ev.now _
end Go.Proofs.Ytfgidohkkbmfjaa.Q
