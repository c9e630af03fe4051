/- FnEscapes: for every code, what is written of the drawn value reads as it was, holds no mark, and what is read of a drawn text is written and read again. No condition but the code's size, which the law asks itself. -/
import Derived.Test.YthoamjobclfjjaaGreatDoorUAll
import Derived.Test.YthoamjobclfjjaaGreatDoorK7
import Derived.Test.YthoamjobclfjjaaGreatDoorK5
import Derived.Test.YthoamjobclfjjaaGreatDoorK4
import Derived.Test.YthoamjobclfjjaaGreatDoorK1
namespace Go.Proofs.YthoamjobclfjjaaGreatDoor.K
set_option linter.unusedVariables false
set_option linter.unusedSimpArgs false
open Go.RowKit Go.Proofs.YthoamjobclfjjaaGreatDoor Go.Proofs.YthoamjobclfjjaaGreatDoorW.PrintWords Go.Proofs.YthoamjobclfjjaaGreatDoorW.PrintLast
def drawPieces : List ByteArray := [(⟨#[97]⟩ : ByteArray), (⟨#[38, 108, 116, 59]⟩ : ByteArray), (⟨#[38, 97, 109, 112, 59]⟩ : ByteArray), (⟨#[38, 35, 54, 53, 59]⟩ : ByteArray), (⟨#[38, 97, 112, 111, 115, 59]⟩ : ByteArray), (⟨#[38, 113, 117, 111, 116, 59]⟩ : ByteArray), (⟨#[38]⟩ : ByteArray), (⟨#[38, 35, 57, 59]⟩ : ByteArray), (⟨#[60]⟩ : ByteArray), (⟨#[38, 35, 49, 48, 48, 48, 59]⟩ : ByteArray), (⟨#[38, 103, 116]⟩ : ByteArray)]
theorem rdOf_size (l : List ByteArray) (m : Nat) (h : ∀ b ∈ l, b.size ≤ m) (w : Int) : (rdOf ByteArray.empty l w).size ≤ m := by
  unfold rdOf
  rw [List.getD_eq_getElem?_getD]
  cases hq : l[w.toNat]? with
  | none => simp
  | some x => exact h x (List.mem_of_getElem? hq)
theorem drawU_ev (c : List Int) (hc : codeOk c) : ∃ t : ByteArray, t.size ≤ 4000 ∧ Ev (fun k => spec_DrawUnescapeText.f k c) t := by
  have main : ∀ d n : Nat, n = d → ∀ (t : ByteArray) (a : Int), 0 ≤ a → a ≤ 1000 - 3 * n → n ≤ 100 → t.size + 12 * n ≤ 4000 → ∃ t' : ByteArray, t'.size ≤ 4000 ∧ Ev (fun k => spec_DrawUnescapeText.l0 k t (n : Int) c a) t' := by
    intro d
    induction d with
    | zero =>
      intro n hn t a h0 h1 h2 h3
      subst hn
      obtain ⟨v, e, v0, v1⟩ := next_ev hc a h0 (by omega) 30 (by omega) (by omega)
      have ec : spec_l1Chance.f c a 30 = some (v == 0, a + 1) := by
        unfold spec_l1Chance.f
        rw [e, Option.bind_some]
      by_cases hv : (v == 0) = true
      · refine ⟨strOfNums (List.replicate 401 0), by rw [strOfNums_size, List.length_replicate]; omega, Ev.step (fun k => by rw [spec_DrawUnescapeText.l0]) (Pl.ev_ite_neg (by omega) ?_)⟩
        rw [ec]
        simp only [Option.bind_some]
        exact Pl.ev_ite_pos hv (Pl.ev_ite_pos (by omega) (Ev.now _))
      · refine ⟨t, by omega, Ev.step (fun k => by rw [spec_DrawUnescapeText.l0]) (Pl.ev_ite_neg (by omega) ?_)⟩
        rw [ec]
        simp only [Option.bind_some]
        exact Pl.ev_ite_neg hv (Ev.now _)
    | succ d ih =>
      intro n hn t a h0 h1 h2 h3
      subst hn
      obtain ⟨v, e, v0, v1⟩ := next_ev hc a h0 (by omega) 11 (by omega) (by omega)
      obtain ⟨u, eu, hu⟩ := pick_ev hc (a + 1) (by omega) (by omega) [0, 1, 2, 3, 4, 5, 0, 1, v] (by simp) (by simp)
      have hu' : 0 ≤ u ∧ u < 11 := by
        simp only [List.mem_cons, List.not_mem_nil, or_false] at hu
        omega
      have hz : (rdOf ByteArray.empty drawPieces u).size ≤ 12 := by
        refine rdOf_size _ 12 ?_ u
        intro b hb
        unfold drawPieces at hb
        simp only [List.mem_cons, List.not_mem_nil, or_false] at hb
        rcases hb with rfl | rfl | rfl | rfl | rfl | rfl | rfl | rfl | rfl | rfl | rfl <;> simp [ByteArray.size]
      obtain ⟨t', ht', hev⟩ := ih d rfl (t ++ rdOf ByteArray.empty drawPieces u) (a + 1 + 1) (by omega) (by omega) (by omega) (by rw [ByteArray.size_append]; omega)
      refine ⟨t', ht', Ev.step (fun k => by rw [spec_DrawUnescapeText.l0]) (Pl.ev_ite_pos (by omega) ?_)⟩
      simp only [Option.bind_some]
      rw [e]
      simp only [Option.bind_some]
      rw [eu]
      simp only [Option.bind_some]
      rw [Pl.wrap_in (by omega) (by omega)]
      refine Pl.ev_ite_pos hu'.1 (Pl.ev_ite_pos hu'.2 (Pl.ev_ite_pos (show t.size + (rdOf ByteArray.empty drawPieces u).size ≤ 9223372036854775807 by omega) ?_))
      have ed : ((d + 1 : Nat) : Int) - 1 = (d : Int) := by omega
      rw [ed]
      exact hev
  unfold spec_DrawUnescapeText.f
  obtain ⟨v, e, v0, v1⟩ := next_ev hc 0 (by omega) (by omega) 7 (by omega) (by omega)
  have es : spec_l1Source.f c = some (c, 0) := rfl
  rw [es]
  simp only [Option.bind_some]
  rw [e]
  simp only [Option.bind_some]
  obtain ⟨n, rfl⟩ : ∃ n : Nat, v = n := ⟨v.toNat, by omega⟩
  exact main n n rfl (⟨#[]⟩ : ByteArray) 1 (by omega) (by omega) (by omega) (by show 0 + 12 * n ≤ 4000; omega)
theorem drawV_ev (c : List Int) (hc : codeOk c) (a : Int) (h0 : 0 ≤ a) (h1 : a ≤ 1000) : ∃ (t : ByteArray) (a' : Int), t.size ≤ 8 ∧ a ≤ a' ∧ a' ≤ a + 20 ∧ Ev (fun k => spec_l1DrawValue.f k c a) (t, a') := by
  have main : ∀ d n : Nat, n = d → ∀ (x : List Int) (a : Int), 0 ≤ a → a + n ≤ 2000 → x.length + n ≤ 8 → ∃ (t : ByteArray) (a' : Int), t.size ≤ 8 ∧ a ≤ a' ∧ a' ≤ a + n ∧ Ev (fun k => spec_l1DrawValue.l0 k x (n : Int) c a) (t, a') := by
    intro d
    induction d with
    | zero =>
      intro n hn x a h0 h1 h2
      subst hn
      refine ⟨strOfNums x, a, by rw [strOfNums_size]; omega, by omega, by omega, Ev.step (fun k => by rw [spec_l1DrawValue.l0]) (Pl.ev_ite_neg (by omega) (Ev.now _))⟩
    | succ d ih =>
      intro n hn x a h0 h1 h2
      subst hn
      obtain ⟨u, eu, hu⟩ := pick_ev hc a (by omega) (by omega) [97, 98, 60, 62, 38, 34, 39, 32] (by simp) (by simp)
      obtain ⟨t, a', q1, q2, q3, q4⟩ := ih d rfl (x ++ [u % 256]) (a + 1) (by omega) (by omega) (by rw [List.length_append]; show x.length + 1 + d ≤ 8; omega)
      refine ⟨t, a', q1, by omega, by omega, Ev.step (fun k => by rw [spec_l1DrawValue.l0]) (Pl.ev_ite_pos (by omega) ?_)⟩
      rw [eu]
      simp only [Option.bind_some]
      rw [Pl.wrap_in (by omega) (by omega), show ((d + 1 : Nat) : Int) - 1 = (d : Int) by omega]
      exact Pl.ev_ite_pos (by omega) q4
  unfold spec_l1DrawValue.f
  obtain ⟨v, e, v0, v1⟩ := next_ev hc a h0 (by omega) 8 (by omega) (by omega)
  obtain ⟨n, rfl⟩ : ∃ n : Nat, v = n := ⟨v.toNat, by omega⟩
  obtain ⟨t, a', q1, q2, q3, q4⟩ := main n n rfl [] (a + 1) (by omega) (by omega) (by show 0 + n ≤ 8; omega)
  refine ⟨t, a', q1, by omega, by omega, ?_⟩
  rw [e]
  simp only [Option.bind_some]
  exact q4
theorem drawE_ev (c : List Int) (hc : codeOk c) : ∃ t : ByteArray, t.size ≤ 41 ∧ Ev (fun k => spec_DrawEscapeText.f k c) t := by
  unfold spec_DrawEscapeText.f
  have es : spec_l1Source.f c = some (c, 0) := rfl
  rw [es]
  simp only [Option.bind_some]
  obtain ⟨t1, a1, p1, p2, p3, p4⟩ := drawV_ev c hc 0 (by omega) (by omega)
  obtain ⟨t2, a2, q1, q2, q3, q4⟩ := drawV_ev c hc a1 (by omega) (by omega)
  obtain ⟨t3, a3, r1, r2, r3, r4⟩ := drawV_ev c hc a2 (by omega) (by omega)
  obtain ⟨v, e, v0, v1⟩ := next_ev hc a3 (by omega) (by omega) 6 (by omega) (by omega)
  refine ⟨_, ?_, Pl.ev_bind' p4 (Pl.ev_bind' q4 (Pl.ev_bind' r4 (Pl.ev_ite_pos (by omega) (Pl.ev_bind' (a := (v, a3 + 1)) (by rw [e]; exact Ev.now _) (Pl.ev_ite_pos v0 (Pl.ev_ite_pos v1 (Ev.now _)))))))⟩
  refine rdOf_size _ 41 ?_ v
  intro b hb
  simp only [List.mem_cons, List.not_mem_nil, or_false] at hb
  rcases hb with rfl | rfl | rfl | rfl | rfl | rfl
  · omega
  · omega
  · omega
  · simp [ByteArray.size]
  · rw [strOfNums_size, List.length_replicate]
    omega
  · simp [ByteArray.size]
end Go.Proofs.YthoamjobclfjjaaGreatDoor.K
namespace Go.Proofs.YthoamjobclfjjaaGreatDoor.Pure
open Go.RowKit Go.Proofs.YthoamjobclfjjaaGreatDoor Go.Proofs.YthoamjobclfjjaaGreatDoor.K Go.Proofs.YthoamjobclfjjaaGreatDoorW.PrintWords Go.Proofs.YthoamjobclfjjaaGreatDoorW.PrintLast
theorem short_of {t : ByteArray} (h : Pl.valueC t.data.toList = 0) : t.size ≤ 40 := by
  rcases valueC_cases t.data.toList with ⟨_, h40⟩ | e
  · rw [Pl.size_toList] at h40
    exact h40
  · exact absurd h e
theorem escR_ok {t : ByteArray} (h : Pl.valueC t.data.toList = 0) : escR t = (0, escB t) := if_pos h
theorem behind (c : List Int) (hc : codeOk c) : Ev (fun k => laws_FnEscapes.j0 k c false) true := by
  obtain ⟨t, ht, hd⟩ := drawE_ev c hc
  refine Ev.step (fun k => by rw [laws_FnEscapes.j0]) (Pl.ev_ite_neg (by simp) (Pl.ev_bind' hd (Pl.ev_bind' (esc_ev t (by omega)).2 ?_)))
  by_cases h : Pl.valueC t.data.toList = 0
  · rw [escR_ok h]
    have hs := short_of h
    have hz : (escB t).size ≤ 6 * t.size := by
      have h2 := (escL_le t.data.toList).2
      rw [Pl.size_toList] at h2
      have e : (escB t).size = (escL t.data.toList).length := by simp [escB, ByteArray.size]
      omega
    refine Pl.ev_ite_pos rfl (Pl.ev_bind' (un_ev (escB t) (by omega)).2 ?_)
    rw [un_esc t h]
    have hl : (escB t).data.toList = escL t.data.toList := by simp [escB]
    have hls := Pl.size_l hl
    refine Pl.loop0 (n := (escB t).size) (g := fun k i => laws_FnEscapes.l0 k t i 0 (escB t) 0 t) (F := fun _ => true) ?_ ?_ 0 (Nat.zero_le _)
    · refine Ev.step (fun k => by rw [laws_FnEscapes.l0]) (Pl.ev_ite_neg (by omega) (Pl.ev_ite_pos rfl (Pl.ev_ite_pos rfl (Pl.ev_bind' (esc_ev t (by omega)).1 ?_))))
      rw [escR_ok h]
      exact Pl.ev_to (Ev.now _) (by simp)
    · intro i hi ih
      have hx := escL_not t.data.toList _ (List.getElem_mem (by omega : i < (escL t.data.toList).length))
      have hb := Pl.bt_l hl i (by omega)
      refine Ev.step (fun k => by rw [laws_FnEscapes.l0]) ?_
      rw [hb, Pl.wrap_nat (show i < 9223372036854775807 by omega)]
      have ne : ∀ m : UInt8, (escL t.data.toList)[i] ≠ m → (((escL t.data.toList)[i].toNat : Nat) : Int) ≠ ((m.toNat : Nat) : Int) := fun m h e => h (UInt8.toNat_inj.1 (by omega))
      exact Pl.ev_ite_pos (by omega) (Pl.ev_ite_pos (by omega) (Pl.ev_ite_neg (ne 60 hx.1) (Pl.ev_ite_neg (ne 62 hx.2.1) (Pl.ev_ite_neg (ne 34 hx.2.2) ih))))
  · have e : escR t = (Pl.valueC t.data.toList, (⟨#[]⟩ : ByteArray)) := if_neg h
    refine Pl.ev_ite_neg (by rw [e]; exact h) (Pl.ev_bind' (esc_ev t (by omega)).1 ?_)
    exact Pl.ev_to (Ev.now _) (by simp)
theorem FnEscapes : laws_FnEscapes.Pure := by
  intro c _ _ hw
  refine Ev.rounds (g := fun k => laws_FnEscapes.f k c) ?_
  unfold laws_FnEscapes.f laws_lwBig.f
  simp only [Option.bind_some]
  by_cases hb : (c.length : Int) > 1048576
  · exact Pl.ev_ite_pos (decide_eq_true hb) (Ev.now _)
  · refine Pl.ev_ite_neg (by simpa using hb) ?_
    have hc := codeOk_of hb hw
    obtain ⟨t, ht, hd⟩ := drawU_ev c hc
    refine Pl.ev_bind' hd (Pl.ev_bind' (un_ev t (by omega)).2 ?_)
    by_cases h : (unR t).1 = 0
    · have hv := un_ok t h
      have hs := short_of hv
      refine Pl.ev_ite_pos h (Pl.ev_bind' (esc_ev _ (by omega)).2 ?_)
      rw [escR_ok hv]
      have hz : (escB (unR t).2).size ≤ 6 * (unR t).2.size := by
        have h2 := (escL_le (unR t).2.data.toList).2
        rw [Pl.size_toList] at h2
        have e : (escB (unR t).2).size = (escL (unR t).2.data.toList).length := by simp [escB, ByteArray.size]
        omega
      refine Pl.ev_bind' (un_ev _ (by show (escB (unR t).2).size ≤ 1048576; omega)).2 ?_
      rw [show unR ((0 : Int), escB (unR t).2).2 = (0, (unR t).2) from un_esc _ hv]
      rw [show ((((0 : Int), (unR t).2).2.toList != (unR t).2.toList)) = false by simp]
      exact behind c hc
    · refine Pl.ev_ite_neg h (Pl.ev_bind' (un_ev t (by omega)).1 (Pl.ev_ite_pos rfl (behind c hc)))
end Go.Proofs.YthoamjobclfjjaaGreatDoor.Pure
