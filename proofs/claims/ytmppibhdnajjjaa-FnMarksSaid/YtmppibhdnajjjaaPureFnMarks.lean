/- FnMarks: for every code the law on the program's CutMarks and IsSpace holds at what the code draws; no condition. -/
import Derived.Test.YtmppibhdnajjjaaUCut
import Derived.Test.YtmppibhdnajjjaaUDraw
import Derived.Test.YtmppibhdnajjjaaUSpace
import Derived.Test.YtmppibhdnajjjaaC5
import Derived.Test.YtmppibhdnajjjaaC6
namespace Go.Proofs.Ytmppibhdnajjjaa.C
set_option linter.unusedVariables false
set_option linter.unusedSimpArgs false
open Go.RowKit Go.Proofs.Ytmppibhdnajjjaa Go.Proofs.YtmppibhdnajjjaaW.PrintWords Go.Proofs.YtmppibhdnajjjaaW.PrintLast
theorem lwTexts_ev (l : List ByteArray) (hl : l.length ≤ 1048576) : Ev (fun k => laws_lwTexts.f k l l) true := by
  unfold laws_lwTexts.f
  refine Pl.ev_ite_pos rfl ?_
  refine Pl.loop0 (n := l.length) (g := fun k i => laws_lwTexts.l0 k l l i) (F := fun _ => true) ?_ (fun i hi ih => ?_) 0 (Nat.zero_le _)
  · refine Ev.step (fun k => by rw [laws_lwTexts.l0]) ?_
    exact Pl.ev_ite_neg (by omega) (Ev.now _)
  · refine Ev.step (fun k => by rw [laws_lwTexts.l0]) ?_
    rw [Pl.wrap_nat (show i < 9223372036854775807 by omega)]
    exact Pl.ev_ite_pos (by omega) (Pl.ev_ite_pos (by omega) (Pl.ev_ite_pos (by omega) (Pl.ev_ite_pos rfl ih)))
theorem goodP_at : ∀ (ps : List ByteArray) (l : List UInt8), goodP ps l → (∀ b ∈ ps, b.data.toList ≠ []) ∧ (ps.map fun b => b.data.toList).flatten = l ∧ (∀ i (h : i + 1 < ps.length), (ps[i + 1]'h).data.toList.head? = some 60 ∨ (ps[i]'(by omega)).data.toList.head? = some 60)
  | [], l, h => by
    obtain rfl : l = [] := h
    simp
  | b :: ps, l, h => by
    obtain ⟨h1, r, rfl, hg, hc⟩ := h
    obtain ⟨a1, a2, a3⟩ := goodP_at ps r hg
    refine ⟨?_, ?_, ?_⟩
    · intro x hx
      rcases List.mem_cons.1 hx with rfl | hx
      · exact h1
      · exact a1 x hx
    · rw [List.map_cons, List.flatten_cons, a2]
    · intro i h
      cases i with
      | succ i =>
        have := a3 i (by simpa using h)
        simpa using this
      | zero =>
        by_cases hb : b.data.toList.head? = some 60
        · exact Or.inr hb
        · left
          cases ps with
          | nil => simp at h
          | cons b' ps =>
            obtain ⟨q1, r', hr, _, _⟩ := hg
            rcases hc hb with hr' | hr'
            · rw [hr'] at hr
              have := congrArg List.length hr
              simp at this
              cases hq : b'.data.toList with
              | nil => exact absurd hq q1
              | cons x y => have := Pl.size_toList b'; rw [hq] at this; simp at this; omega
            · show b'.data.toList.head? = some 60
              rw [hr] at hr'
              cases hq : b'.data.toList with
              | nil => exact absurd hq q1
              | cons x y => rw [hq] at hr'; simpa using hr'
def drawPieces : List ByteArray := [(⟨#[60, 97, 62]⟩ : ByteArray), (⟨#[32]⟩ : ByteArray), (⟨#[60, 98, 32, 120, 61, 34, 49, 34, 47, 62]⟩ : ByteArray), (⟨#[60, 47, 97, 62]⟩ : ByteArray), (⟨#[60, 33, 45, 45, 32, 60, 120, 62, 32, 45, 45, 62]⟩ : ByteArray), (⟨#[10]⟩ : ByteArray), (⟨#[116]⟩ : ByteArray), (⟨#[60]⟩ : ByteArray), (⟨#[62]⟩ : ByteArray), (⟨#[60, 33, 45, 45, 32, 97]⟩ : ByteArray)]
theorem draw_ev (c : List Int) (hc : codeOk c) : ∃ t : ByteArray, t.size ≤ 4000 ∧ Ev (fun k => spec_DrawCutMarks.f k c) t := by
  have main : ∀ d n : Nat, n = d → ∀ (t : ByteArray) (a : Int), 0 ≤ a → a ≤ 1000 - 3 * n → n ≤ 100 → t.size + 12 * n ≤ 4000 → ∃ t' : ByteArray, t'.size ≤ 4000 ∧ Ev (fun k => spec_DrawCutMarks.l0 k t (n : Int) c a) t' := by
    intro d
    induction d with
    | zero =>
      intro n hn t a h0 h1 h2 h3
      subst hn
      obtain ⟨v, e, v0, v1⟩ := next_ev hc a h0 (by omega) 40 (by omega) (by omega)
      have ec : spec_l1Chance.f c a 40 = some (v == 0, a + 1) := by
        unfold spec_l1Chance.f
        rw [e, Option.bind_some]
      by_cases hv : (v == 0) = true
      · refine ⟨strOfNums (List.replicate 1501 0), by rw [strOfNums_size, List.length_replicate]; omega, Ev.step (fun k => by rw [spec_DrawCutMarks.l0]) (Pl.ev_ite_neg (by omega) ?_)⟩
        rw [ec]
        simp only [Option.bind_some]
        exact Pl.ev_ite_pos hv (Pl.ev_ite_pos (by omega) (Ev.now _))
      · refine ⟨t, by omega, Ev.step (fun k => by rw [spec_DrawCutMarks.l0]) (Pl.ev_ite_neg (by omega) ?_)⟩
        rw [ec]
        simp only [Option.bind_some]
        exact Pl.ev_ite_neg hv (Ev.now _)
    | succ d ih =>
      intro n hn t a h0 h1 h2 h3
      subst hn
      obtain ⟨v, e, v0, v1⟩ := next_ev hc a h0 (by omega) 10 (by omega) (by omega)
      obtain ⟨u, eu, hu⟩ := pick_ev hc (a + 1) (by omega) (by omega) [0, 1, 2, 3, 4, 5, 6, 0, 2, v] (by simp) (by simp)
      have hu' : 0 ≤ u ∧ u < 10 := by
        simp only [List.mem_cons, List.not_mem_nil, or_false] at hu
        omega
      have sz : ∀ w : Int, (rdOf ByteArray.empty drawPieces w).size ≤ 12 := by
        intro w
        have all : ∀ b ∈ drawPieces, b.size ≤ 12 := by
          intro b hb
          unfold drawPieces at hb
          simp only [List.mem_cons, List.not_mem_nil, or_false] at hb
          rcases hb with rfl | rfl | rfl | rfl | rfl | rfl | rfl | rfl | rfl | rfl <;> simp [ByteArray.size]
        unfold rdOf
        rw [List.getD_eq_getElem?_getD]
        cases h : drawPieces[w.toNat]? with
        | none => simp
        | some x => exact all x (List.mem_of_getElem? h)
      have hz := sz u
      obtain ⟨t', ht', hev⟩ := ih d rfl (t ++ rdOf ByteArray.empty drawPieces u) (a + 1 + 1) (by omega) (by omega) (by omega) (by rw [ByteArray.size_append]; omega)
      refine ⟨t', ht', Ev.step (fun k => by rw [spec_DrawCutMarks.l0]) (Pl.ev_ite_pos (by omega) ?_)⟩
      rw [e]
      simp only [Option.bind_some]
      rw [eu]
      simp only [Option.bind_some]
      rw [Pl.wrap_in (by omega) (by omega)]
      refine Pl.ev_ite_pos hu'.1 (Pl.ev_ite_pos hu'.2 (Pl.ev_ite_pos (show t.size + (rdOf ByteArray.empty drawPieces u).size ≤ 9223372036854775807 by omega) ?_))
      have ed : ((d + 1 : Nat) : Int) - 1 = (d : Int) := by omega
      rw [ed]
      exact hev
  unfold spec_DrawCutMarks.f
  obtain ⟨v, e, v0, v1⟩ := next_ev hc 0 (by omega) (by omega) 7 (by omega) (by omega)
  have es : spec_l1Source.f c = some (c, 0) := rfl
  rw [es]
  simp only [Option.bind_some]
  rw [e]
  simp only [Option.bind_some]
  obtain ⟨n, rfl⟩ : ∃ n : Nat, v = n := ⟨v.toNat, by omega⟩
  exact main n n rfl (⟨#[]⟩ : ByteArray) 1 (by omega) (by omega) (by omega) (by show 0 + 12 * n ≤ 4000; omega)
end Go.Proofs.Ytmppibhdnajjjaa.C
namespace Go.Proofs.Ytmppibhdnajjjaa.Pure
open Go.RowKit Go.Proofs.Ytmppibhdnajjjaa Go.Proofs.Ytmppibhdnajjjaa.C Go.Proofs.YtmppibhdnajjjaaW.PrintWords Go.Proofs.YtmppibhdnajjjaaW.PrintLast
theorem FnMarks : laws_FnMarks.Pure := by
  intro c _ _ hw
  refine Ev.rounds (g := fun k => laws_FnMarks.f k c) ?_
  unfold laws_FnMarks.f laws_lwBig.f
  simp only [Option.bind_some]
  by_cases hb : (c.length : Int) > 1048576
  · exact Pl.ev_ite_pos (decide_eq_true hb) (Ev.now _)
  · refine Pl.ev_ite_neg (by simpa using hb) ?_
    obtain ⟨t, ht, hd⟩ := draw_ev c (codeOk_of hb hw)
    obtain ⟨r, ps, hl, s, m, g⟩ := cutMarks_ev t
    refine Pl.ev_bind' hd (Pl.ev_bind' m ?_)
    by_cases hr : r = 0
    · refine Pl.ev_ite_pos hr ?_
      obtain ⟨g1, g2, g3⟩ := goodP_at ps _ (g hr)
      have hts := Pl.size_toList t
      refine Pl.loop (σ := ByteArray) (n := ps.length) (g := fun k i x => laws_FnMarks.l0 k t x i r ps) (F := fun _ _ => true) (fun i x => x.data.toList = ((ps.take i).map fun b => b.data.toList).flatten) ?_ ?_ 0 (⟨#[]⟩ : ByteArray) (Nat.zero_le _) (by simp)
      · intro x hx
        refine Ev.step (fun k => by rw [laws_FnMarks.l0]) ?_
        rw [List.take_length, g2] at hx
        refine Pl.ev_ite_neg (by omega) (Pl.ev_ite_pos (by rw [Lib.toList_data, Lib.toList_data, hx]) (Pl.ev_bind' s (Pl.ev_bind' (lwTexts_ev ps (by omega)) (Pl.ev_ite_pos rfl ?_))))
        obtain ⟨b, b1, b2⟩ := space_ev t (by omega)
        refine Pl.ev_bind' b2 (Pl.ev_bind' b1 ?_)
        show Ev (fun _ => some (b == b)) true
        rw [beq_self_eq_true]
        exact Ev.now _
      · intro i x hi hx ih
        have hxs := Pl.size_toList x
        have hbs := Pl.size_toList ps[i]
        have et : ((ps.take (i + 1)).map fun b => b.data.toList).flatten = x.data.toList ++ ps[i].data.toList := by
          rw [List.take_add_one, List.getElem?_eq_getElem hi, Option.toList_some, List.map_append, List.flatten_append, hx]
          simp
        have hle : x.size + ps[i].size ≤ t.size := by
          have h1 := congrArg List.length et
          have h2 : ((ps.map fun b => b.data.toList).flatten).length = ((ps.take (i + 1)).map fun b => b.data.toList).flatten.length + ((ps.drop (i + 1)).map fun b => b.data.toList).flatten.length := by
            rw [← List.length_append, ← List.flatten_append, ← List.map_append, List.take_append_drop]
          rw [g2] at h2
          rw [List.length_append] at h1
          omega
        have rdi : rdOf ByteArray.empty ps (i : Int) = ps[i] := by unfold rdOf; rw [Pl.getD_get hi]
        have hne := g1 ps[i] (List.getElem_mem hi)
        have pos : ∀ b : ByteArray, b.data.toList ≠ [] → 0 < (b.size : Int) := by
          intro b hb
          have := Pl.size_toList b
          cases h : b.data.toList with
          | nil => exact absurd h hb
          | cons y z => rw [h] at this; simp at this; omega
        have hd0 : ∀ b : ByteArray, b.data.toList.head? = some 60 → bt b 0 = 60 := by
          intro b hb
          cases h : b.data.toList with
          | nil => rw [h] at hb; cases hb
          | cons y z =>
            have hs : 0 < b.size := by have := Pl.size_toList b; rw [h] at this; simp at this; omega
            have := Pl.bt_get b 0 hs
            rw [show ((0 : Nat) : Int) = 0 from rfl] at this
            rw [this]
            rw [h] at hb
            obtain rfl : y = 60 := by simpa using hb
            simp [h]
        have go : Ev (fun k => laws_FnMarks.l0 k t (x ++ ps[i]) ((i : Int) + 1) r ps) true := ih _ (by rw [et]; simp [ByteArray.data_append])
        refine Ev.step (fun k => by rw [laws_FnMarks.l0]) ?_
        rw [Pl.wrap_nat (show i < 9223372036854775807 by omega), rdi]
        refine Pl.ev_ite_pos (by omega) (Pl.ev_ite_pos (by omega) (Pl.ev_ite_neg (by rw [Lib.toList_data]; exact hne) ?_))
        by_cases h0 : (i : Int) > 0
        · refine Pl.ev_ite_pos h0 (Pl.ev_ite_pos (pos _ hne) ?_)
          by_cases h6 : bt ps[i] 0 = 60
          · exact Pl.ev_ite_pos h6 (Pl.ev_ite_pos (by omega) go)
          · obtain ⟨j, rfl⟩ : ∃ j, i = j + 1 := ⟨i - 1, by omega⟩
            have ej : wrap64 (((j + 1 : Nat) : Int) - 1) = (j : Int) := by rw [Pl.wrap_in (by omega) (by omega)]; omega
            have rdj : rdOf ByteArray.empty ps (j : Int) = ps[j] := by unfold rdOf; rw [Pl.getD_get (by omega)]
            rw [ej, rdj]
            have hj := g1 ps[j] (List.getElem_mem (by omega))
            have h7 : bt ps[j] 0 = 60 := by
              rcases g3 j hi with h | h
              · exact absurd (hd0 _ h) h6
              · exact hd0 _ h
            exact Pl.ev_ite_neg h6 (Pl.ev_ite_pos (by omega) (Pl.ev_ite_pos (by omega) (Pl.ev_ite_pos (pos _ hj) (Pl.ev_ite_pos h7 (Pl.ev_ite_pos (by omega) go)))))
        · exact Pl.ev_ite_neg h0 (Pl.ev_ite_pos (by omega) go)
    · refine Pl.ev_ite_neg hr (Pl.ev_bind' s ?_)
      show Ev (fun _ => some (r == r)) true
      rw [beq_self_eq_true]
      exact Ev.now _
end Go.Proofs.Ytmppibhdnajjjaa.Pure
