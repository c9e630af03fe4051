/- FnKids: for every code each element but the first of the drawn list is a kid of just one, each attr's value is told by its name, and both read the drawn mark alike. No condition but the code's size, which the law asks itself. -/
import Derived.Test.YtbibioffldkanaaGreatDoorUAll
import Derived.Test.YtbibioffldkanaaGreatDoorK13
import Derived.Test.YtbibioffldkanaaGreatDoorK11
import Derived.Test.YtbibioffldkanaaGreatDoorK10
namespace Go.Proofs.YtbibioffldkanaaGreatDoor.K
set_option linter.unusedVariables false
set_option linter.unusedSimpArgs false
open Go.RowKit Go.Proofs.YtbibioffldkanaaGreatDoor Go.Proofs.YtbibioffldkanaaGreatDoorW.PrintWords Go.Proofs.YtbibioffldkanaaGreatDoorW.PrintLast
theorem Cb (f : Nat → Int) (i : Nat) : ∀ l : List Nat, (l.filter fun j => decide (0 ≤ f j ∧ f j < (i : Int))).length + (l.filter fun j => decide (f j = (i : Int))).length = (l.filter fun j => decide (0 ≤ f j ∧ f j < ((i + 1 : Nat) : Int))).length
  | [] => rfl
  | j :: l => by
    have ih := Cb f i l
    simp only [List.filter_cons]
    by_cases h1 : 0 ≤ f j ∧ f j < (i : Int)
    · rw [if_pos (decide_eq_true h1), if_neg (by simp; omega), if_pos (decide_eq_true (by omega)), List.length_cons, List.length_cons]
      omega
    · by_cases h2 : f j = (i : Int)
      · rw [if_neg (by simp; omega), if_pos (decide_eq_true h2), if_pos (decide_eq_true (by omega)), List.length_cons, List.length_cons]
        omega
      · rw [if_neg (by simp; omega), if_neg (by simp; omega), if_neg (by simp; omega)]
        exact ih
def uA (p : List StE) (i : Nat) : Nat := ((List.range p.length).filter fun (j : Nat) => decide (0 ≤ prE p (j : Int) ∧ prE p (j : Int) < (i : Int))).length
theorem Hm (p : List StE) (i : Nat) : uA p i + (oV p (i : Int) p.length).length = uA p (i + 1) := by
  unfold uA oV
  rw [List.length_map]
  exact Cb (fun j => prE p (j : Int)) i (List.range p.length)
theorem IU (p : List StE) : uA p 0 = 0 := by
  unfold uA
  rw [List.length_eq_zero_iff, List.filter_eq_nil_iff]
  intro j _
  simp
theorem cnt_end {p : List StE} (ht : nX p p.length) (h1 : 1 ≤ p.length) : uA p p.length + 1 = p.length := by
  unfold uA
  obtain ⟨m, hm⟩ : ∃ m, p.length = m + 1 := ⟨p.length - 1, by omega⟩
  have h0 := (ht 0 (by omega)).1 rfl
  have hr : List.range p.length = 0 :: (List.range m).map Nat.succ := by rw [hm, List.range_succ_eq_map]
  rw [hr, List.filter_cons, if_neg (by
    simp only [decide_eq_true_eq]
    rw [h0]
    omega), List.filter_eq_self.2 (fun j hj => ?_)]
  · rw [List.length_map, List.length_range, hm]
  · obtain ⟨q, hq, rfl⟩ := List.mem_map.1 hj
    have hq := List.mem_range.1 hq
    have := (ht (q + 1) (by omega)).2 (by omega)
    apply decide_eq_true
    constructor
    · exact this.1
    · have h2 := this.2
      show prE p ((q + 1 : Nat) : Int) < _
      omega
theorem Ig {p : List StE} {a x : Int} {n : Nat} (h : x ∈ oV p a n) : ∃ j : Nat, j < n ∧ prE p (j : Int) = a ∧ x = (j : Int) := by
  unfold oV at h
  obtain ⟨j, hj, rfl⟩ := List.mem_map.1 h
  obtain ⟨h1, h2⟩ := List.mem_filter.1 hj
  exact ⟨j, List.mem_range.1 h1, of_decide_eq_true h2, rfl⟩
theorem Eu (l : List At) : ∀ d i : Nat, l.length - i = d → i ≤ l.length → qm l i (l.drop i) = 0 → ∀ q (hq : q < l.length), i ≤ q → wC l q l[q] = 0 := by
  intro d
  induction d with
  | zero => intro i hd hi _ q hq hiq; omega
  | succ d ih =>
    intro i hd hi h q hq hiq
    have hi' : i < l.length := by omega
    rw [List.drop_eq_getElem_cons hi', qm] at h
    by_cases h0 : wC l i l[i] = 0
    · rw [if_pos h0] at h
      by_cases he : q = i
      · subst he; exact h0
      · exact ih (i + 1) (by omega) (by omega) h q hq (by omega)
    · rw [if_neg h0] at h
      exact absurd h h0
theorem EJ : ∀ (a : List At) (y : At) (b : List At) (s : List UInt8), (∀ z ∈ a, z.f0.toList ≠ s) → y.f0.toList = s → AX (a ++ y :: b) s = (y.f1, true)
  | [], y, b, s, _, h => by
    rw [List.nil_append, AX, if_pos h]
  | z :: a, y, b, s, hz, h => by
    rw [List.cons_append, AX, if_neg (hz z (List.mem_cons_self ..))]
    exact EJ a y b s (fun w hw => hz w (List.mem_cons_of_mem _ hw)) h
theorem JK {l : List At} (h : qm l 0 l = 0) (q : Nat) (hq : q < l.length) : AX l l[q].f0.toList = (l[q].f1, true) := by
  have h0 := Eu l l.length 0 (by omega) (Nat.zero_le _) (by rw [List.drop_zero]; exact h) q hq (Nat.zero_le _)
  have e : l.take q ++ l[q] :: l.drop (q + 1) = l := by rw [← List.drop_eq_getElem_cons hq, List.take_append_drop]
  generalize l[q] = y at h0 e ⊢
  unfold wC at h0
  rw [Kq] at h0
  have hf : ¬ nz (l.take q) y.f0.toList 0 ≥ 0 := by
    intro hge
    rw [if_pos hge] at h0
    by_cases hn : Pl.kW y.f0.data.toList = 0
    · rw [if_pos hn, if_neg (by decide)] at h0
      exact absurd h0 (by decide)
    · rw [if_neg hn] at h0
      exact hn h0
  have hall := Af 0 (by omega : nz (l.take q) y.f0.toList 0 < 0)
  have := EJ (l.take q) y (l.drop (q + 1)) y.f0.toList hall rfl
  rw [e] at this
  exact this
theorem xP : ∀ l : List At, tN l l = true
  | [] => rfl
  | x :: l => by
    have ih := xP l
    simp [tN, BN, ih]
theorem yh : ∀ l : List StE, tV l l = true
  | [] => rfl
  | x :: l => by
    have ih := yh l
    simp [tV, CE, xP, ih]
end Go.Proofs.YtbibioffldkanaaGreatDoor.K
namespace Go.Proofs.YtbibioffldkanaaGreatDoor.Pure
open Go.RowKit Go.Proofs.YtbibioffldkanaaGreatDoor Go.Proofs.YtbibioffldkanaaGreatDoor.K Go.Proofs.YtbibioffldkanaaGreatDoorW.PrintWords Go.Proofs.YtbibioffldkanaaGreatDoorW.PrintLast
theorem FnKids : gz.Pure := by
  intro c _ _ hw
  refine Ev.rounds (g := fun k => gz.f k c) ?_
  unfold gz.f pV.f
  simp only [Option.bind_some]
  by_cases hb : (c.length : Int) > 1048576
  · exact Pl.fA (decide_eq_true hb) (Ev.now _)
  refine Pl.fG (by simpa using hb) ?_
  have hc := FP hb hw
  obtain ⟨p, hl, hz, hd⟩ := Dp c hc
  obtain ⟨cc, sp, im, good⟩ := tree_good p hl hz
  refine Pl.iw hd (Pl.iw im ?_)
  have hpl : ∀ a : Int, mM.f a (p.length : Int) = some (decide (0 ≤ a ∧ a ≤ (p.length : Int) - 1)) := fun a => by
    unfold mM.f
    rw [uj, Option.bind_some, Pl.wrap_in (by omega) (by omega)]
  by_cases h0 : cc = 0
  case neg =>
    refine Pl.fG h0 (Pl.iw (a := cc) ?_ (Pl.fA rfl ?_))
    · unfold kN.f
      exact Pl.iw sp (Ev.now _)
    · refine Pl.iw (a := (cc, [])) ?_ (Pl.lJ (Ev.now _) (by simp))
      unfold kX.f
      refine Pl.iw im ?_
      simp only [hpl, oz, Option.bind_some]
      refine Pl.iw (lw _ (by simp)) ?_
      rw [xQ, if_neg h0]
      exact Pl.fG h0 (Ev.now _)
  refine Pl.fA h0 ?_
  obtain ⟨⟨len1, len40⟩, ht, hgood⟩ := good h0
  subst h0
  have kids : ∀ i : Nat, i < p.length → Ev (fun k => kX.f k p (i : Int)) (0, oV p (i : Int) p.length) := by
    intro i hi
    unfold kX.f
    refine Pl.iw im ?_
    simp only [hpl, oz, Option.bind_some]
    refine Pl.iw (lw _ (by simp)) ?_
    rw [decide_eq_true (show (0 : Int) ≤ (i : Int) ∧ (i : Int) ≤ (p.length : Int) - 1 by omega), xQ, if_pos rfl]
    exact Pl.fA rfl (Pl.iw (Dj p hl ht (i : Int) (by omega)) (Ev.now _))
  have vals : ∀ i : Nat, i < p.length → ∀ q (hq : q < (rdE p (i : Int)).f2.length), Ev (fun k => lu.f k p (i : Int) ((rdE p (i : Int)).f2[q]).f0) (0, ((rdE p (i : Int)).f2[q]).f1) := by
    intro i hi q hq
    unfold lu.f
    refine Pl.iw im ?_
    simp only [hpl, oz, Option.bind_some]
    refine Pl.iw (lw _ (by simp)) ?_
    rw [decide_eq_true (show (0 : Int) ≤ (i : Int) ∧ (i : Int) ≤ (p.length : Int) - 1 by omega), xQ, if_pos rfl]
    have hv := D7 (rdE p (i : Int)).f0 (rdE p (i : Int)).f1 (rdE p (i : Int)).f2 (hz i hi).2.1 ((rdE p (i : Int)).f2[q]).f0
    rw [JK (hgood i hi).2.2 q hq] at hv
    exact Pl.fA rfl (Pl.fA (by omega) (Pl.fA (by omega) (Pl.iw hv (Pl.fA rfl (Ev.now _)))))
  have main : ∀ d i : Nat, p.length - i = d → i ≤ p.length → Ev (fun k => gz.l0 k c p ((1 + uA p i : Nat) : Int) (i : Int)) true := by
    intro d
    induction d with
    | zero =>
      intro i hd hi
      obtain rfl : i = p.length := by omega
      obtain ⟨m, hm, hdr⟩ := DC c hc
      obtain ⟨R, r1, r2, r3, r4⟩ := Hy m hm
      have hce := cnt_end ht len1
      refine Ev.step (fun k => by rw [gz.l0]) (Pl.fG (by omega) (Pl.iw hdr (Pl.iw r1 (Pl.fA (show ((1 + uA p p.length : Nat) : Int) = (p.length : Int) by omega) (Pl.iw r2 (Pl.fA rfl (Pl.iw r2 ?_)))))))
      have hs := Fa R.2.2 R.2.2 (by omega) r4
      rw [yh] at hs
      exact Pl.iw hs (Ev.now _)
    | succ d ih =>
      intro i hd hi
      have hi' : i < p.length := by omega
      have hcs := Hm p i
      have hkl := xg p (i : Int) p.length
      refine Ev.step (fun k => by rw [gz.l0]) (Pl.fA (by omega) (Pl.iw (kids i hi') ?_))
      have hcl : uA p i ≤ p.length := by
        unfold uA
        have := List.length_filter_le (fun (j : Nat) => decide (0 ≤ prE p (j : Int) ∧ prE p (j : Int) < (i : Int))) (List.range p.length)
        simpa using this
      show Ev (fun k => gz.l1 k c p (wrap64 (((1 + uA p i : Nat) : Int) + ((oV p (i : Int) p.length).length : Int))) (i : Int) 0 0 (oV p (i : Int) p.length)) true
      rw [Pl.wrap_in (by omega) (by omega), show ((1 + uA p i : Nat) : Int) + ((oV p (i : Int) p.length).length : Int) = ((1 + uA p (i + 1) : Nat) : Int) by omega]
      -- its attrs
      have l2 : Ev (fun k => gz.l2 k c p ((1 + uA p (i + 1) : Nat) : Int) (i : Int) 0) true := by
        have hfl : (fJ p (i : Int)).f2.length ≤ 6 := (hgood i hi').2.1
        refine Pl.rF (n := (fJ p (i : Int)).f2.length) (g := fun k x => gz.l2 k c p ((1 + uA p (i + 1) : Nat) : Int) (i : Int) x) (F := fun _ => true) ?_ ?_ 0 (Nat.zero_le _)
        · refine Ev.step (fun k => by rw [gz.l2]) (Pl.fA (by omega) (Pl.fA (by omega) (Pl.fG (by omega) ?_)))
          rw [Pl.kV (show i < 9223372036854775807 by omega)]
          exact ih (i + 1) (by omega) (by omega)
        · intro q hq ih2
          refine Ev.step (fun k => by rw [gz.l2]) (Pl.fA (by omega) (Pl.fA (by omega) (Pl.fA (by omega) (Pl.fA (by omega) ?_))))
          rw [qg (fJ p (i : Int)).f2 q hq, Pl.kV (show q < 9223372036854775807 by omega)]
          exact Pl.iw (vals i hi' q hq) (Pl.fA rfl (Pl.fA rfl ih2))
      refine Pl.rF (n := (oV p (i : Int) p.length).length) (g := fun k x => gz.l1 k c p ((1 + uA p (i + 1) : Nat) : Int) (i : Int) x 0 (oV p (i : Int) p.length)) (F := fun _ => true) ?_ ?_ 0 (Nat.zero_le _)
      · exact Ev.step (fun k => by rw [gz.l1]) (Pl.fG (by omega) l2)
      · intro q hq ih2
        obtain ⟨j, j1, j2, j3⟩ := Ig (List.getElem_mem hq)
        have hr : rd (oV p (i : Int) p.length) (q : Int) = (j : Int) := by rw [Pl.yR _ q hq, j3]
        have hj := (ht j j1).2
        have hj0 := (ht j j1).1
        have hjp : 0 < j := by
          rcases Nat.eq_zero_or_pos j with h | h
          · have := hj0 h
            omega
          · exact h
        have := hj hjp
        refine Ev.step (fun k => by rw [gz.l1]) (Pl.fA (by omega) (Pl.fA (by omega) ?_))
        rw [hr, Pl.kV (show q < 9223372036854775807 by omega)]
        exact Pl.fG (by omega) (Pl.fG (by omega) (Pl.fA (by omega) (Pl.fA (by omega) (Pl.fA j2 ih2))))
  have := main p.length 0 (by omega) (by omega)
  rw [IU] at this
  exact this
end Go.Proofs.YtbibioffldkanaaGreatDoor.Pure
