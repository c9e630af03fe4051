/- FnExactGraphText: for every graph the program's GraphText answers what the reference's answers, and turns nothing of the graph; no condition beyond the row's own. -/
import Derived.Test.YtmppibhdnajjjaaDoorUAll
import Derived.Test.YtmppibhdnajjjaaDoorGW
import Derived.Test.YtmppibhdnajjjaaDoorGSFnExactGraphText
import Derived.Test.YtmppibhdnajjjaaDoorG4
import Derived.Test.YtmppibhdnajjjaaDoorG1
namespace Go.Proofs.YtmppibhdnajjjaaDoor.G
set_option linter.unusedVariables false
set_option linter.unusedSimpArgs false
open Go.RowKit Go.Proofs.YtmppibhdnajjjaaDoor Go.Proofs.YtmppibhdnajjjaaDoorW.PrintWords Go.Proofs.YtmppibhdnajjjaaDoorW.PrintLast
theorem codesC_all {α : Type} {c : Nat → α → Int} : ∀ (l : List α) (a : Nat), codesC c a l = 0 → ∀ i (h : i < l.length), c (a + i) l[i] = 0
  | [], _, _, i, h => by simp at h
  | x :: l, a, hc, i, h => by
    unfold codesC at hc
    by_cases h0 : c a x = 0
    · rw [if_pos h0] at hc
      cases i with
      | zero => exact h0
      | succ i =>
        have := codesC_all l (a + 1) hc i (by simpa using h)
        rw [show a + (i + 1) = a + 1 + i by omega]
        exact this
    · rw [if_neg h0] at hc
      exact absurd hc h0
/-- What a graph without a fault keeps. -/
theorem grC_ok {g : List GN} {f : List FL} (h : grC g f = 0) : g.length ≤ 60 ∧ f.length ≤ 80 ∧ (∀ i (hi : i < g.length), 1 ≤ g[i].f0 ∧ g[i].f0 ≤ 13) ∧ ∀ i (hi : i < f.length), 0 ≤ f[i].f1 ∧ f[i].f1 ≤ 60 := by
  unfold grC at h
  by_cases hs : (2 ≤ g.length ∧ g.length ≤ 60) ∧ f.length ≤ 80
  · rw [if_pos hs] at h
    by_cases hg : codesC (fun _ => gnC) 0 g = 0
    · rw [if_pos hg] at h
      refine ⟨hs.1.2, hs.2, fun i hi => ?_, fun i hi => ?_⟩
      · have := codesC_all g 0 hg i hi
        have hh : gnC g[i] = 0 := this
        unfold gnC at hh
        by_cases hk : (1 ≤ g[i].f0 ∧ g[i].f0 ≤ 13) ∧ bareC g[i]
        · exact hk.1
        · rw [if_neg hk] at hh; cases hh
      · have hh := codesC_all f 0 h i hi
        unfold flC at hh
        by_cases hk : (0 ≤ f[i].f0 ∧ f[i].f0 ≤ (g.length : Int) - 1) ∧ (0 ≤ f[i].f1 ∧ f[i].f1 ≤ (g.length : Int) - 1)
        · have := hk.2
          omega
        · rw [if_neg hk] at hh; cases hh
    · rw [if_neg hg] at h; exact absurd h hg
  · rw [if_neg hs] at h; cases h
def flowX (f : List FL) : List Int → List UInt8
  | [] => []
  | q :: fs => 32 :: (Lib.decDigits (rdF f q).f1.toNat ++ flowX f fs)
def nodeX (g : List GN) (f : List FL) : Nat → Nat → List UInt8
  | 0, _ => []
  | n + 1, i => Lib.decDigits i ++ 58 :: 32 :: (words.getD ((rd_T94 g (i : Int)).f0 - 1).toNat [] ++ (flowX f (flowsC f (i : Int) f.length) ++ 10 :: nodeX g f n (i + 1)))
/-- A graph as the text wants it. -/
structure okG (g : List GN) (f : List FL) : Prop where
  gl : g.length ≤ 60
  fl : f.length ≤ 80
  gk : ∀ i (hi : i < g.length), 1 ≤ g[i].f0 ∧ g[i].f0 ≤ 13
  ft : ∀ i (hi : i < f.length), 0 ≤ f[i].f1 ∧ f[i].f1 ≤ 60
theorem okG.to {g : List GN} {f : List FL} (h : okG g f) {q : Int} (h0 : 0 ≤ q) (h1 : q < (f.length : Int)) : ∃ n : Nat, n ≤ 60 ∧ (rdF f q).f1 = (n : Int) := by
  obtain ⟨m, rfl⟩ := Int.eq_ofNat_of_zero_le h0
  have hm : m < f.length := by omega
  have := h.ft m hm
  have e : rdF f (m : Int) = f[m] := rd_iFlow f m hm
  rw [e]
  exact ⟨f[m].f1.toNat, by omega, by omega⟩
theorem flowsC_in (f : List FL) (a : Int) : ∀ n, n ≤ f.length → ∀ q ∈ flowsC f a n, 0 ≤ q ∧ q < (f.length : Int) := by
  intro n hn q hq
  unfold flowsC at hq
  simp only [List.mem_map, List.mem_filter, List.mem_range] at hq
  obtain ⟨j, ⟨hj, _⟩, rfl⟩ := hq
  omega
theorem flowX_ok {g : List GN} {f : List FL} (h : okG g f) : ∀ fs : List Int, (∀ q ∈ fs, 0 ≤ q ∧ q < (f.length : Int)) → flowT f fs = some (flowX f fs) ∧ (flowX f fs).length ≤ 5 * fs.length
  | [], _ => ⟨rfl, by simp [flowX]⟩
  | q :: fs, hq => by
    obtain ⟨i1, i2⟩ := flowX_ok h fs (fun x hx => hq x (List.mem_cons_of_mem _ hx))
    have hq0 := hq q List.mem_cons_self
    obtain ⟨n, hn, en⟩ := h.to hq0.1 hq0.2
    have h4 := decDigits_4 n (by omega)
    have ed : (rdF f q).f1.toNat = n := by rw [en]; rfl
    constructor
    · show (if 0 ≤ q ∧ q < (f.length : Int) then (impl_decimal.f (rdF f q).f1).bind _ else none) = _
      rw [if_pos hq0, en, decimal_eq n (by omega), Option.bind_some, i1, Option.bind_some, bs_data]
      show _ = some (32 :: (Lib.decDigits (rdF f q).f1.toNat ++ flowX f fs))
      rw [ed]
    · show (32 :: (Lib.decDigits (rdF f q).f1.toNat ++ flowX f fs)).length ≤ 5 * (fs.length + 1)
      rw [ed]
      simp only [List.length_cons, List.length_append]
      omega
theorem word_len : ∀ j, (words.getD j []).length ≤ 5 := by
  intro j
  by_cases h : j < 13
  · match j, h with
    | 0, _ => decide
    | 1, _ => decide
    | 2, _ => decide
    | 3, _ => decide
    | 4, _ => decide
    | 5, _ => decide
    | 6, _ => decide
    | 7, _ => decide
    | 8, _ => decide
    | 9, _ => decide
    | 10, _ => decide
    | 11, _ => decide
    | 12, _ => decide
  · rw [List.getD_eq_getElem?_getD, List.getElem?_eq_none (by show 13 ≤ j; omega)]
    simp
theorem nodeX_ok {g : List GN} {f : List FL} (h : okG g f) : ∀ n i, n + i = g.length → Ev (fun k => nodeT k g f n i) (nodeX g f n i) ∧ (nodeX g f n i).length ≤ 500 * n
  | 0, i, _ => ⟨Ev.now _, by simp [nodeX]⟩
  | n + 1, i, hn => by
    obtain ⟨i1, i2⟩ := nodeX_ok h n (i + 1) (by omega)
    have hi : i < g.length := by omega
    have hg60 := h.gl
    have hf80 := h.fl
    have hk := h.gk i hi
    have ek : rd_T94 g (i : Int) = g[i] := rd_iGNode g i hi
    have hfl := flowsC_len f (i : Int) f.length
    obtain ⟨f1, f2⟩ := flowX_ok h (flowsC f (i : Int) f.length) (flowsC_in f (i : Int) f.length (Nat.le_refl _))
    have h4 := decDigits_4 i (by omega)
    have hw := word_len ((rd_T94 g (i : Int)).f0 - 1).toNat
    constructor
    · show Ev (fun k => (impl_decimal.f (i : Int)).bind fun d => if 1 ≤ (rd_T94 g (i : Int)).f0 ∧ (rd_T94 g (i : Int)).f0 ≤ 13 then (impl_Graph_flowsFrom.f k g f (i : Int)).bind fun fs => (flowT f fs).bind fun ft => (nodeT k g f n (i + 1)).bind fun r => some (d.data.toList ++ 58 :: 32 :: (words.getD ((rd_T94 g (i : Int)).f0 - 1).toNat [] ++ (ft ++ 10 :: r))) else none) _
      rw [decimal_eq i (by omega)]
      simp only [Option.bind_some, bs_data]
      refine Pl.ev_ite_pos (by rw [ek]; exact hk) (Pl.ev_bind' (implFlows_ev g f (by omega) (i : Int)) ?_)
      simp only [f1, Option.bind_some]
      exact Pl.ev_bind' i1 (Ev.now _)
    · show (Lib.decDigits i ++ 58 :: 32 :: (words.getD ((rd_T94 g (i : Int)).f0 - 1).toNat [] ++ (flowX f (flowsC f (i : Int) f.length) ++ 10 :: nodeX g f n (i + 1)))).length ≤ _
      simp only [List.length_append, List.length_cons]
      omega
def wordsS : List ByteArray := [(⟨#[]⟩ : ByteArray), (⟨#[115, 116, 97, 114, 116]⟩ : ByteArray), (⟨#[101, 110, 100]⟩ : ByteArray), (⟨#[116, 97, 115, 107]⟩ : ByteArray), (⟨#[119, 97, 105, 116]⟩ : ByteArray), (⟨#[116, 105, 109, 101, 114]⟩ : ByteArray), (⟨#[115, 101, 116]⟩ : ByteArray), (⟨#[115, 112, 108, 105, 116]⟩ : ByteArray), (⟨#[106, 111, 105, 110]⟩ : ByteArray), (⟨#[102, 111, 114, 107]⟩ : ByteArray), (⟨#[109, 101, 101, 116]⟩ : ByteArray), (⟨#[111, 112, 101, 110]⟩ : ByteArray), (⟨#[99, 108, 111, 115, 101]⟩ : ByteArray), (⟨#[109, 101, 114, 103, 101]⟩ : ByteArray)]
theorem wordS_is (x : Int) (h : 1 ≤ x ∧ x ≤ 13) : rdOf ByteArray.empty wordsS x = bs (words.getD (x - 1).toNat []) := by
  obtain ⟨j, rfl⟩ : ∃ j : Nat, x = (j : Int) + 1 := ⟨(x - 1).toNat, by omega⟩
  have hj : j < 13 := by omega
  match j, hj with
  | 0, _ => rfl
  | 1, _ => rfl
  | 2, _ => rfl
  | 3, _ => rfl
  | 4, _ => rfl
  | 5, _ => rfl
  | 6, _ => rfl
  | 7, _ => rfl
  | 8, _ => rfl
  | 9, _ => rfl
  | 10, _ => rfl
  | 11, _ => rfl
  | 12, _ => rfl
theorem rdInt_at (fs : List Int) (q : Nat) (h : q < fs.length) : rd fs (q : Int) = fs[q] := Pl.rd_get fs q h
/-- The reference's inner loop: one node's flows. -/
theorem specIn {g : List GN} {f : List FL} (h : okG g f) (i : Nat) (fs : List Int) (hfs : ∀ q ∈ fs, 0 ≤ q ∧ q < (f.length : Int)) (R : Int × ByteArray) : ∀ m q (l : List UInt8), q + m = fs.length → fs.length ≤ 80 → l.length + 5 * m ≤ 1000000 →
    Ev (fun k => spec_GraphText.l0 k wordsS (bs (l ++ (flowX f (fs.drop q) ++ [10]))) (wrap64 ((i : Int) + 1)) g f) R → Ev (fun k => spec_GraphText.l1 k wordsS (bs l) (i : Int) fs (q : Int) g f) R := by
  intro m
  induction m with
  | zero =>
    intro q l hq h80 hl hR
    rw [List.drop_eq_nil_of_le (by omega)] at hR
    refine Ev.step (fun k => by rw [spec_GraphText.l1]) (Pl.ev_ite_neg (by omega) ?_)
    refine Pl.ev_ite_pos (by rw [bs_size]; omega) ?_
    have e : bs l ++ (⟨#[10]⟩ : ByteArray) = bs (l ++ (flowX f [] ++ [10])) := bs_append l [10]
    rw [e]
    exact hR
  | succ m ih =>
    intro q l hq h80 hl hR
    have hqi : q < fs.length := by omega
    rw [List.drop_eq_getElem_cons hqi] at hR
    have hb := hfs fs[q] (List.getElem_mem hqi)
    obtain ⟨n, hn, en⟩ := h.to hb.1 hb.2
    have ed : (rdF f fs[q]).f1.toNat = n := by rw [en]; rfl
    have h4 := decDigits_4 n (by omega)
    have e1 : bs l ++ (⟨#[32]⟩ : ByteArray) = bs (l ++ [32]) := bs_append l [32]
    refine Ev.step (fun k => by rw [spec_GraphText.l1, rdInt_at fs q hqi, Pl.wrap_nat (show q < 9223372036854775807 by omega)]) ?_
    refine Pl.ev_ite_pos (by omega) (Pl.ev_ite_pos (by rw [bs_size]; omega) (Pl.ev_ite_pos (by omega) (Pl.ev_ite_pos hb.1 (Pl.ev_ite_pos hb.2 ?_))))
    refine Pl.ev_bind' (a := bs (Lib.decDigits n)) ?_ ?_
    · have := digits_ev n (by omega)
      rw [← en] at this
      exact this
    · rw [e1]
      refine Pl.ev_ite_pos (by rw [bs_size, bs_size]; simp; omega) ?_
      rw [bs_append]
      have := ih (q + 1) (l ++ [32] ++ Lib.decDigits n) (by omega) h80 (by simp; omega) (by
        refine Pl.ev_to ?_ rfl
        have e2 : l ++ [32] ++ Lib.decDigits n ++ (flowX f (fs.drop (q + 1)) ++ [10]) = l ++ (flowX f (fs[q] :: fs.drop (q + 1)) ++ [10]) := by
          show _ = l ++ (32 :: (Lib.decDigits (rdF f fs[q]).f1.toNat ++ flowX f (fs.drop (q + 1))) ++ [10])
          rw [ed]
          simp
        rw [e2]
        exact hR)
      exact this
theorem specOut {g : List GN} {f : List FL} (h : okG g f) : ∀ n i (l : List UInt8), n + i = g.length → l.length + 500 * n ≤ 900000 → Ev (fun k => spec_GraphText.l0 k wordsS (bs l) (i : Int) g f) (0, bs (l ++ nodeX g f n i)) := by
  intro n
  induction n with
  | zero =>
    intro i l hn hl
    refine Ev.step (fun k => by rw [spec_GraphText.l0]) (Pl.ev_ite_neg (by omega) (Pl.ev_to (Ev.now _) ?_))
    show _ = (0, bs (l ++ []))
    rw [List.append_nil]
  | succ n ih =>
    intro i l hn hl
    have hi : i < g.length := by omega
    have hg60 := h.gl
    have hf80 := h.fl
    have hk := h.gk i hi
    have ek : rd_T94 g (i : Int) = g[i] := rd_iGNode g i hi
    have hfl := flowsC_len f (i : Int) f.length
    have hin := flowsC_in f (i : Int) f.length (Nat.le_refl _)
    obtain ⟨f1, f2⟩ := flowX_ok h (flowsC f (i : Int) f.length) hin
    have h4 := decDigits_4 i (by omega)
    have hw := word_len (g[i].f0 - 1).toNat
    have hW := wordS_is _ hk
    obtain ⟨wd, hwd⟩ : ∃ wd, wd = words.getD (g[i].f0 - 1).toNat [] := ⟨_, rfl⟩
    rw [← hwd] at hw hW
    have e58 : (⟨#[58, 32]⟩ : ByteArray) = bs [58, 32] := rfl
    refine Ev.step (fun k => by rw [spec_GraphText.l0]) (Pl.ev_ite_pos (by omega) (Pl.ev_bind' (digits_ev i (by omega)) ?_))
    rw [ek, hW, e58, bs_append, bs_append, bs_append]
    refine Pl.ev_ite_pos (by rw [bs_size, bs_size]; omega) (Pl.ev_ite_pos (by rw [bs_size]; simp only [List.length_append]; omega) (Pl.ev_ite_pos (by omega) (Pl.ev_ite_pos (by omega) (Pl.ev_ite_pos (by show g[i].f0 < 14; omega) (Pl.ev_ite_pos (by rw [bs_size, bs_size]; simp only [List.length_append, List.length_cons, List.length_nil]; omega) ?_)))))
    refine Pl.ev_bind' (specFlows_ev g f (by omega) (i : Int)) ?_
    refine specIn h i (flowsC f (i : Int) f.length) hin _ (flowsC f (i : Int) f.length).length 0 _ (by omega) (by omega) (by simp only [List.length_append, List.length_cons, List.length_nil]; omega) ?_
    rw [Pl.wrap_nat (show i < 9223372036854775807 by omega), List.drop_zero]
    have := ih (i + 1) (l ++ Lib.decDigits i ++ [58, 32] ++ wd ++ (flowX f (flowsC f (i : Int) f.length) ++ [10])) (by omega) (by simp only [List.length_append, List.length_cons, List.length_nil]; omega)
    refine Pl.ev_to this ?_
    show _ = (0, bs (l ++ (Lib.decDigits i ++ 58 :: 32 :: (words.getD ((rd_T94 g (i : Int)).f0 - 1).toNat [] ++ (flowX f (flowsC f (i : Int) f.length) ++ 10 :: nodeX g f n (i + 1))))))
    rw [ek, ← hwd]
    simp
theorem text_both (g : List GN) (f : List FL) (hg : cG g) (hf : cF f) : ∃ (c : Int) (t : ByteArray), Ev (fun k => spec_GraphText.f k g f) (c, t) ∧ Ev (fun k => impl_GraphText.f k g f) (c, t) := by
  have s := specG6_ev g f hg hf
  have m := implGraph_ev g f hg hf
  by_cases hc : grC g f = 0
  · rw [hc] at s m
    obtain ⟨q1, q2, q3, q4⟩ := grC_ok hc
    have ok : okG g f := ⟨q1, q2, q3, q4⟩
    obtain ⟨e1, e2⟩ := nodeX_ok ok g.length 0 rfl
    refine ⟨0, bs (nodeX g f g.length 0), ?_, ?_⟩
    · unfold spec_GraphText.f
      refine Pl.ev_bind' s (Pl.ev_ite_pos rfl ?_)
      exact specOut ok g.length 0 [] rfl (by simp; omega)
    · unfold impl_GraphText.f
      exact Pl.ev_bind' m (Pl.ev_ite_pos rfl (Pl.ev_bind' e1 (Pl.ev_ite_pos ⟨by omega, by omega⟩ (Ev.now _))))
  · refine ⟨grC g f, (⟨#[]⟩ : ByteArray), ?_, ?_⟩
    · unfold spec_GraphText.f
      exact Pl.ev_bind' s (Pl.ev_ite_neg hc (Ev.now _))
    · unfold impl_GraphText.f
      exact Pl.ev_bind' m (Pl.ev_ite_neg hc (Ev.now _))
theorem eqText_refl (c : Int) (t : ByteArray) : laws_eqTextResult.f c t c t = some true := by
  unfold laws_eqTextResult.f
  rw [if_pos rfl, if_pos rfl]
end Go.Proofs.YtmppibhdnajjjaaDoor.G
namespace Go.Proofs.YtmppibhdnajjjaaDoor.Pure
open Go.RowKit Go.Proofs.YtmppibhdnajjjaaDoor Go.Proofs.YtmppibhdnajjjaaDoor.G Go.Proofs.YtmppibhdnajjjaaDoorW.PrintWords Go.Proofs.YtmppibhdnajjjaaDoorW.PrintLast
theorem FnExactGraphText : laws_FnExactGraphText.Pure := by
  intro a ha
  refine Ev.rounds (g := fun k => laws_FnExactGraphText.f k a.f0 a.f1) ?_
  unfold laws_FnExactGraphText.f
  obtain ⟨r, r0, r1, r2, r3⟩ := szGraph_ev a ha 1048576 (by omega) (by omega)
  refine Pl.ev_bind' r3 ?_
  by_cases hr : r < 0
  · exact Pl.ev_ite_pos hr (Ev.now _)
  · refine Pl.ev_ite_neg hr ?_
    have ba := r2 (by omega)
    have ta := toGraph_ev a ba
    have hg := cG_to a ba
    have hf := cF_to a ba
    obtain ⟨c, t, s, m⟩ := text_both _ _ hg hf
    refine Pl.ev_bind' ta (Pl.ev_bind' s (Pl.ev_bind' ta (Pl.ev_bind' m ?_)))
    simp only [eqText_refl, Option.bind_some]
    refine Pl.ev_ite_pos trivial (Pl.ev_bind' ta (Pl.ev_bind' (eqGraph_ev _ _ hg hf) (Pl.ev_ite_pos rfl ?_)))
    exact Ev.now _
end Go.Proofs.YtmppibhdnajjjaaDoor.Pure
