/- Expressions as trees: their nodes in order, and their texts. No condition. Decimal digits: the number that they are, and back. No condition. What the reference's reader of expressions reads: a tree's text, and no other. No condition. The reference's reader of expressions: what it reads is a tree's text, and it reads every tree's text. No condition. The program's reader of expressions: it ends on every text, and reads every tree's text. No condition. What the law's marks on an expression's nodes come to. No condition. -/
import Derived.Test.YtmppibhdnajjjaaDoorUText3
import Derived.Lib.ParseIntBTie
import Derived.Lib.ParseIntBCases
import Derived.Test.YtmppibhdnajjjaaDoorP1
import Derived.Test.YtmppibhdnajjjaaDoorP2
import Derived.Test.YtmppibhdnajjjaaDoorP3
import Derived.Test.YtmppibhdnajjjaaDoorP7
import Derived.Test.YtmppibhdnajjjaaDoorP8
import Derived.Test.YtmppibhdnajjjaaDoorUNode
import Derived.Test.YtmppibhdnajjjaaDoorP10
namespace Go.Proofs.YtmppibhdnajjjaaDoor.P
set_option linter.unusedVariables false
set_option linter.unusedSimpArgs false
open Go.RowKit Go.Proofs.YtmppibhdnajjjaaDoor Go.Proofs.YtmppibhdnajjjaaDoorW.PrintWords Go.Proofs.YtmppibhdnajjjaaDoorW.PrintLast
inductive Ex where
 | con (v : Nat) : Ex
 | var (v : Nat) : Ex
 | nt (a : Ex) : Ex
 | two (k : Int) (a b : Ex) : Ex
namespace Ex
def size : Ex → Nat
 | con _ => 1
 | var _ => 1
 | nt a => a.size + 1
 | two _ a b => a.size + b.size + 1
def nodes : Ex → Nat → List Nd
 | con v, _ => [⟨1, v, 0, 0⟩]
 | var v, _ => [⟨2, v, 0, 0⟩]
 | nt a, b => a.nodes b ++ [⟨10, 0, ((b + a.size - 1 : Nat) : Int), 0⟩]
 | two k a c, b => a.nodes b ++ (c.nodes (b + a.size) ++ [⟨k, 0, ((b + a.size - 1 : Nat) : Int), ((b + a.size + c.size - 1 : Nat) : Int)⟩])
def txt : Ex → List UInt8
 | con v => Lib.decDigits v
 | var v => 118 :: Lib.decDigits v
 | nt a => 33 :: a.txt
 | two k a b => 40 :: (a.txt ++ signB k :: (b.txt ++ [41]))
def okT : Ex → Prop
 | con v => v ≤ 9999
 | var v => v ≤ 9
 | nt a => a.okT
 | two k a b => (3 ≤ k ∧ k ≤ 9) ∧ a.okT ∧ b.okT
theorem size_pos : ∀ T : Ex, 1 ≤ T.size
 | con _ => Nat.le_refl _
 | var _ => Nat.le_refl _
 | nt a => by simp [size]
 | two _ a b => by simp [size]
theorem nodes_len : ∀ (T : Ex) (b : Nat), (T.nodes b).length = T.size
 | con _, _ => rfl
 | var _, _ => rfl
 | nt a, b => by simp [nodes, size, nodes_len a b]
 | two k a c, b => by simp [nodes, size, nodes_len a b, nodes_len c (b + a.size)]; omega
end Ex
theorem getD_mid {α : Type} {l m r : List α} {i : Nat} {z : α} (h1 : l.length ≤ i) (h2 : i < l.length + m.length) : (l ++ (m ++ r)).getD i z = m.getD (i - l.length) z := by
 rw [List.getD_eq_getElem?_getD, List.getD_eq_getElem?_getD, List.getElem?_append_right h1, List.getElem?_append_left (by omega)]
theorem txtF_tree (e : List Nd) : ∀ (T : Ex), T.okT → ∀ (l r : List Nd), e = l ++ (T.nodes l.length ++ r) → ∀ f, l.length + T.size ≤ f → txtF e f (l.length + T.size - 1) = T.txt
 | .con v, ht, l, r, he, f, hf => by
  obtain ⟨f, rfl⟩ : ∃ f', f = f' + 1 := ⟨f - 1, by simp [Ex.size] at hf; omega⟩
  have g : e.getD l.length z45 = ⟨1, v, 0, 0⟩ := by
   rw [he, getD_mid (Nat.le_refl _) (by simp [Ex.nodes])]
   simp [Ex.nodes]
  have i : l.length + (Ex.con v).size - 1 = l.length := rfl
  rw [i, txtF]
  unfold kK
  rw [g]
  rfl
 | .var v, ht, l, r, he, f, hf => by
  obtain ⟨f, rfl⟩ : ∃ f', f = f' + 1 := ⟨f - 1, by simp [Ex.size] at hf; omega⟩
  have g : e.getD l.length z45 = ⟨2, v, 0, 0⟩ := by
   rw [he, getD_mid (Nat.le_refl _) (by simp [Ex.nodes])]
   simp [Ex.nodes]
  have i : l.length + (Ex.var v).size - 1 = l.length := rfl
  rw [i, txtF]
  unfold kK
  rw [g]
  rfl
 | .nt a, ht, l, r, he, f, hf => by
  obtain ⟨f, rfl⟩ : ∃ f', f = f' + 1 := ⟨f - 1, by simp [Ex.size] at hf; omega⟩
  have hn := Ex.nodes_len a l.length
  have hp := Ex.size_pos a
  have g : e.getD (l.length + a.size) z45 = ⟨10, 0, ((l.length + a.size - 1 : Nat) : Int), 0⟩ := by
   rw [he, getD_mid (by omega) (by simp [Ex.nodes, hn])]
   simp [Ex.nodes, List.getD_eq_getElem?_getD, List.getElem?_append_right, hn]
  have i : l.length + (Ex.nt a).size - 1 = l.length + a.size := by simp [Ex.size]; try omega
  rw [i, txtF]
  have eK : kK e (l.length + a.size) = 10 := by unfold kK; rw [g]
  have eL : kL e (l.length + a.size) = l.length + a.size - 1 := by unfold kL; rw [g]; rfl
  rw [if_neg (by omega), if_neg (by omega), if_pos eK, eL]
  rw [txtF_tree e a ht l ([⟨10, 0, ((l.length + a.size - 1 : Nat) : Int), 0⟩] ++ r) (by rw [he]; simp [Ex.nodes]) f (by simp [Ex.size] at hf; omega)]
  rfl
 | .two k a c, ht, l, r, he, f, hf => by
  obtain ⟨f, rfl⟩ : ∃ f', f = f' + 1 := ⟨f - 1, by simp [Ex.size] at hf; omega⟩
  obtain ⟨hk, ha, hc⟩ := ht
  have hn := Ex.nodes_len a l.length
  have hm := Ex.nodes_len c (l.length + a.size)
  have hp := Ex.size_pos a
  have hq := Ex.size_pos c
  have g : e.getD (l.length + a.size + c.size) z45 = ⟨k, 0, ((l.length + a.size - 1 : Nat) : Int), ((l.length + a.size + c.size - 1 : Nat) : Int)⟩ := by
   rw [he, getD_mid (by omega) (by simp [Ex.nodes, hn, hm]; omega)]
   have e1 : l.length + a.size + c.size - l.length = a.size + c.size := by omega
   rw [e1]
   simp only [Ex.nodes, List.getD_eq_getElem?_getD]
   rw [List.getElem?_append_right (by omega), List.getElem?_append_right (by omega), hn, hm]
   have e2 : a.size + c.size - a.size - c.size = 0 := by omega
   rw [e2]
   rfl
  have i : l.length + (Ex.two k a c).size - 1 = l.length + a.size + c.size := by simp [Ex.size]; omega
  rw [i, txtF]
  have eK : kK e (l.length + a.size + c.size) = k := by unfold kK; rw [g]
  have eL : kL e (l.length + a.size + c.size) = l.length + a.size - 1 := by unfold kL; rw [g]; rfl
  have eR : kR e (l.length + a.size + c.size) = l.length + a.size + c.size - 1 := by unfold kR; rw [g]; rfl
  rw [if_neg (by omega), if_neg (by omega), if_neg (by omega), eK, eL, eR]
  have hfa : l.length + a.size ≤ f := by simp [Ex.size] at hf; omega
  have hfc : l.length + a.size + c.size ≤ f := by simp [Ex.size] at hf; omega
  rw [txtF_tree e a ha l (c.nodes (l.length + a.size) ++ ([⟨k, 0, ((l.length + a.size - 1 : Nat) : Int), ((l.length + a.size + c.size - 1 : Nat) : Int)⟩] ++ r)) (by rw [he]; simp [Ex.nodes]) f hfa]
  have t2 := txtF_tree e c hc (l ++ a.nodes l.length) ([⟨k, 0, ((l.length + a.size - 1 : Nat) : Int), ((l.length + a.size + c.size - 1 : Nat) : Int)⟩] ++ r) (by rw [he]; simp [Ex.nodes, hn]) f (by simp [hn]; omega)
  have e3 : (l ++ a.nodes l.length).length = l.length + a.size := by simp [hn]
  rw [e3] at t2
  rw [t2]
  rfl
theorem textE_tree (T : Ex) (ht : T.okT) : textE (T.nodes 0) = T.txt := by
 unfold textE
 have hn := Ex.nodes_len T 0
 have := txtF_tree (T.nodes 0) T ht [] [] (by simp) T.size (by simp)
 rw [hn]
 simpa using this
theorem node_leaf (x : Nd) {i : Nat} (h : ndC x i = 0) (hk : x.f0 ≤ 2) : x = ⟨x.f0, x.f1, 0, 0⟩ := by
 obtain ⟨a, b, c, d⟩ := x
 unfold ndC nodeC at h
 simp only at h hk ⊢
 have h2 : c = 0 ∧ d = 0 := by
  by_cases hc : c = 0 ∧ d = 0
  ·exact hc
  ·exfalso
   repeat (first | omega | split at h)
 rw [h2.1, h2.2]
theorem node_eta (x : Nd) {i : Nat} (h : ndC x i = 0) (hk : x.f0 = 10) : x = ⟨10, 0, x.f2, 0⟩ := by
 obtain ⟨a, b, c, d⟩ := x
 unfold ndC nodeC at h
 simp only at h hk ⊢
 have h2 : b = 0 ∧ d = 0 := by
  by_cases hc : b = 0 ∧ d = 0
  ·exact hc
  ·exfalso
   repeat (first | omega | split at h)
 rw [h2.1, h2.2, hk]
theorem node_eta2 (x : Nd) {i : Nat} (h : ndC x i = 0) (hk : 3 ≤ x.f0 ∧ x.f0 ≤ 9) : x = ⟨x.f0, 0, x.f2, x.f3⟩ := by
 obtain ⟨a, b, c, d⟩ := x
 unfold ndC nodeC at h
 simp only at h hk ⊢
 have h2 : b = 0 := by
  by_cases hc : b = 0
  ·exact hc
  ·exfalso
   repeat (first | omega | split at h)
 rw [h2]
theorem tree_leaf {e : List Nd} (hf : fineN e) {i : Nat} (hi : i < e.length) (hk : kK e i ≤ 2) : ∃ T : Ex, T.okT ∧ T.size = Pl.sz (kK e) (kL e) (kR e) i ∧ T.size ≤ i + 1 ∧ (e.drop (i + 1 - T.size)).take T.size = T.nodes (i + 1 - T.size) := by
 have ha := fineN_ahead hf
 have h0 := nodeC_0 (hf i hi)
 have eK := kK_at e i hi
 have hsz := Pl.sz_eq ha hi
 rw [if_neg (by omega), if_neg (fun h => by have := Pl.two_inner h; omega)] at hsz
 have hn := node_leaf e[i] (hf i hi) (by rw [← eK]; exact hk)
 have one : (e.drop i).take 1 = [e[i]] := by
  rw [Pl.drop_get hi]
  rfl
 by_cases h1 : kK e i = 1
 ·have hv := h0.2.2.2.2 (by rw [← eK]; exact h1)
  refine ⟨.con e[i].f1.toNat, by show _ ≤ 9999; omega, by rw [hsz]; rfl, by show 1 ≤ _; omega, ?_⟩
  show (e.drop (i + 1 - 1)).take 1 = [⟨1, ((e[i].f1.toNat : Nat) : Int), 0, 0⟩]
  rw [Nat.add_sub_cancel, one]
  congr 1
  refine hn.trans ?_
  rw [← eK, h1]
  congr 1
  omega
 ·have h2 : kK e i = 2 := by have := h0.1; omega
  have hv := h0.2.2.2.1 (by rw [← eK]; exact h2)
  refine ⟨.var e[i].f1.toNat, by show _ ≤ 9; omega, by rw [hsz]; rfl, by show 1 ≤ _; omega, ?_⟩
  show (e.drop (i + 1 - 1)).take 1 = [⟨2, ((e[i].f1.toNat : Nat) : Int), 0, 0⟩]
  rw [Nat.add_sub_cancel, one]
  congr 1
  refine hn.trans ?_
  rw [← eK, h2]
  congr 1
  omega
theorem tree_of {e : List Nd} (h : exprC e = 0) : ∃ T : Ex, T.okT ∧ e = T.nodes 0 := by
 obtain ⟨⟨h1, h16⟩, hf⟩ := exprC_len h
 have ha := fineN_ahead hf
 have hle := fineN_le hf
 have hsh : (∀ j, j < e.length → Pl.ok (kK e) (kL e) (kR e) j) ∧ Pl.sz (kK e) (kL e) (kR e) (e.length - 1) = e.length := by
  unfold exprC at h
  rw [if_pos ⟨h1, h16⟩, if_pos ((nodesC_fine e).2 hf)] at h
  unfold shapeC at h
  by_cases hs : (∀ j, j < e.length → Pl.ok (kK e) (kL e) (kR e) j) ∧ Pl.sz (kK e) (kL e) (kR e) (e.length - 1) = e.length
  ·exact hs
  ·rw [if_neg hs] at h; exact absurd h (by omega)
 obtain ⟨hok, hs⟩ := hsh
 have main : ∀ d i, i ≤ d → i < e.length → ∃ T : Ex, T.okT ∧ T.size = Pl.sz (kK e) (kL e) (kR e) i ∧ T.size ≤ i + 1 ∧ (e.drop (i + 1 - T.size)).take T.size = T.nodes (i + 1 - T.size) := by
  intro d
  induction d with
  | zero =>
   intro i hd hi
   obtain rfl : i = 0 := by omega
   have h0 := nodeC_0 (hf 0 hi)
   obtain ⟨a1, a2⟩ := ha 0 hi
   have eK := kK_at e 0 hi
   exact tree_leaf hf hi (by
    by_cases h2 : 2 < kK e 0
    ·have := a1 h2; omega
    ·omega)
  | succ d ih =>
   intro i hd hi
   have h0 := nodeC_0 (hf i hi)
   obtain ⟨a1, a2⟩ := ha i hi
   have eK := kK_at e i hi
   by_cases h2 : kK e i ≤ 2
   ·exact tree_leaf hf hi h2
   ·have hI : 2 < kK e i := by omega
    have hL := a1 hI
    have hsz := Pl.sz_eq ha hi
    obtain ⟨o1, o2⟩ := hok i hi
    by_cases h10 : kK e i = 10
    ·have hl : kL e i + 1 = i := o1 h10
     rw [if_pos hI, if_neg (fun h => by have := of_decide_eq_true h; omega)] at hsz
     obtain ⟨T, t1, t2, t3, t4⟩ := ih (kL e i) (by omega) (by omega)
     have hp := Ex.size_pos T
     refine ⟨.nt T, t1, by simp [Ex.size]; omega, by simp [Ex.size]; omega, ?_⟩
     have e1 : i + 1 - (Ex.nt T).size = kL e i + 1 - T.size := by simp [Ex.size]; omega
     rw [e1]
     have e2 : (Ex.nt T).size = T.size + 1 := rfl
     have hx : (e.drop (kL e i + 1 - T.size))[T.size]? = some e[i] := by
      rw [List.getElem?_drop]
      have e3 : kL e i + 1 - T.size + T.size = i := by omega
      rw [e3, List.getElem?_eq_getElem hi]
     rw [e2, List.take_add_one, hx, t4]
     show T.nodes _ ++ [e[i]] = T.nodes _ ++ [⟨10, 0, ((kL e i + 1 - T.size + T.size - 1 : Nat) : Int), 0⟩]
     congr 1
     rw [node_eta (e[i]) ((hf i hi)) (by rw [← eK]; exact h10)]
     congr 1
     have := h0.2.1 (by rw [← eK]; exact hI)
     have eL := kL_at e i hi
     congr 1
     omega
    ·have hle := hle i hi
     have hk : 3 ≤ kK e i ∧ kK e i ≤ 9 := by omega
     have hT : Pl.two (kK e i) = true := decide_eq_true hk
     obtain ⟨q1, q2⟩ := o2 hT
     have hR := a2 hT
     rw [if_pos hI, if_pos hT] at hsz
     obtain ⟨A, t1, t2, t3, t4⟩ := ih (kL e i) (by omega) (by omega)
     obtain ⟨C, u1, u2, u3, u4⟩ := ih (kR e i) (by omega) (by omega)
     have hp := Ex.size_pos A
     have hq := Ex.size_pos C
     refine ⟨.two (kK e i) A C, ⟨hk, t1, u1⟩, by simp [Ex.size]; omega, by simp [Ex.size]; omega, ?_⟩
     have e1 : i + 1 - (Ex.two (kK e i) A C).size = kL e i + 1 - A.size := by simp [Ex.size]; omega
     rw [e1]
     have e2 : (Ex.two (kK e i) A C).size = A.size + (C.size + 1) := by simp [Ex.size]; omega
     have hx : (e.drop (kR e i + 1 - C.size))[C.size]? = some e[i] := by
      rw [List.getElem?_drop]
      have e3 : kR e i + 1 - C.size + C.size = i := by omega
      rw [e3, List.getElem?_eq_getElem hi]
     have e4 : kL e i + 1 - A.size + A.size = kR e i + 1 - C.size := by omega
     rw [e2, List.take_add, List.drop_drop, e4, List.take_add_one, hx, t4, u4]
     show A.nodes _ ++ (C.nodes _ ++ [e[i]]) = A.nodes _ ++ (C.nodes (kL e i + 1 - A.size + A.size) ++ [⟨kK e i, 0, ((kL e i + 1 - A.size + A.size - 1 : Nat) : Int), ((kL e i + 1 - A.size + A.size + C.size - 1 : Nat) : Int)⟩])
     rw [e4]
     congr 2
     rw [node_eta2 (e[i]) (hf i hi) (by rw [← eK]; exact hk), ← eK]
     have l1 := h0.2.1 (by rw [← eK]; exact hI)
     have r1 := h0.2.2.1 (by rw [← eK]; exact hk)
     have eL := kL_at e i hi
     have eR := kR_at e i hi
     congr 2
     ·omega
     ·omega
 obtain ⟨T, t1, t2, t3, t4⟩ := main (e.length - 1) (e.length - 1) (Nat.le_refl _) (by omega)
 refine ⟨T, t1, ?_⟩
 have e0 : e.length - 1 + 1 - T.size = 0 := by omega
 rw [e0, List.drop_zero, List.take_of_length_le (by omega)] at t4
 exact t4
def valF (a : Nat) (d : List UInt8) : Nat := d.foldl (fun a c => a * 10 + (c.toNat - 48)) a
def valD (d : List UInt8) : Nat := valF 0 d
theorem valD_snoc (d : List UInt8) (c : UInt8) : valD (d ++ [c]) = valD d * 10 + (c.toNat - 48) := by
 unfold valD valF
 rw [List.foldl_append]
 rfl
theorem dig_in {c : UInt8} (h : Pl.digitB c = true) : 48 ≤ c.toNat ∧ c.toNat ≤ 57 := of_decide_eq_true h
def okD (d : List UInt8) : Bool := decide (d ≠ [] ∧ (d.head? ≠ some 48 ∨ d.length = 1))
theorem u8_of (c : UInt8) (n : Nat) (h : c.toNat = n) : UInt8.ofNat n = c := by
 rw [← h]
 simp
theorem dec_of : ∀ (n : Nat) (d : List UInt8), d.length = n → d.all Pl.digitB = true → okD d = true → Lib.decDigits (valD d) = d ∧ (2 ≤ n → 10 ≤ valD d) ∧ (d.head? ≠ some 48 → 1 ≤ valD d) := by
 intro n
 induction n with
 | zero =>
  intro d hd _ ho
  have := (of_decide_eq_true ho).1
  exact absurd (List.length_eq_zero_iff.1 hd) this
 | succ n ih =>
  intro d hd ha ho
  obtain ⟨l, c, rfl⟩ : ∃ l c, d = l ++ [c] := by
   rcases List.eq_nil_or_concat d with h | ⟨l, c, h⟩
   ·rw [h] at hd; simp at hd
   ·exact ⟨l, c, by simpa using h⟩
  have hl : l.length = n := by simpa using hd
  rw [List.all_append, Bool.and_eq_true] at ha
  have hc := dig_in (by simpa using ha.2)
  rw [valD_snoc]
  by_cases h0 : l = []
  ·subst h0
   simp only [List.length_nil] at hl
   subst hl
   have e : valD ([] : List UInt8) = 0 := rfl
   rw [e]
   refine ⟨?_, fun h => by omega, fun h => ?_⟩
   ·rw [Lib.decDigits, dif_pos (by omega)]
    show [UInt8.ofNat (48 + (0 * 10 + (c.toNat - 48)))] = [c]
    rw [u8_of c _ (by omega)]
   ·have : c.toNat ≠ 48 := fun e => h (by
     show some c = some 48
     rw [← u8_of c 48 e]
     rfl)
    omega
  ·have hlen : 1 ≤ l.length := by
    cases l with
    | nil => exact absurd rfl h0
    | cons x y => simp
   have ho' := of_decide_eq_true ho
   have hh : (l ++ [c]).head? = l.head? := by
    cases l with
    | nil => exact absurd rfl h0
    | cons x y => rfl
   have h48 : l.head? ≠ some 48 := by
    rcases ho'.2 with h | h
    ·rwa [hh] at h
    ·rw [List.length_append, List.length_cons, List.length_nil] at h; omega
   obtain ⟨i1, i2, i3⟩ := ih l hl ha.1 (decide_eq_true ⟨h0, .inl h48⟩)
   have h1 := i3 h48
   refine ⟨?_, fun _ => by omega, fun _ => by omega⟩
   rw [Lib.decDigits, dif_neg (by omega)]
   have e1 : (valD l * 10 + (c.toNat - 48)) / 10 = valD l := by omega
   have e2 : (valD l * 10 + (c.toNat - 48)) % 10 = c.toNat - 48 := by omega
   rw [e1, e2, i1, u8_of c _ (by omega)]
theorem valD_lt : ∀ (n : Nat) (d : List UInt8), d.length = n → d.all Pl.digitB = true → valD d < 10 ^ n := by
 intro n
 induction n with
 | zero =>
  intro d hd _
  rw [List.length_eq_zero_iff.1 hd]
  decide
 | succ n ih =>
  intro d hd ha
  obtain ⟨l, c, rfl⟩ : ∃ l c, d = l ++ [c] := by
   rcases List.eq_nil_or_concat d with h | ⟨l, c, h⟩
   ·rw [h] at hd; simp at hd
   ·exact ⟨l, c, by simpa using h⟩
  rw [List.all_append, Bool.and_eq_true] at ha
  have hc := dig_in (by simpa using ha.2)
  have := ih l (by simpa using hd) ha.1
  rw [valD_snoc, Nat.pow_succ]
  omega
theorem dig_mk (n : Nat) (h : n < 10) : (UInt8.ofNat (48 + n)).toNat = 48 + n := by
 simp [UInt8.toNat_ofNat']
 omega
theorem dec_is (v : Nat) : (Lib.decDigits v).all Pl.digitB = true ∧ valD (Lib.decDigits v) = v ∧ Lib.decDigits v ≠ [] ∧ (1 ≤ v → (Lib.decDigits v).head? ≠ some 48) := by
 induction v using Nat.strongRecOn with
 | _ v ih =>
  rw [Lib.decDigits]
  by_cases h : v < 10
  ·rw [dif_pos h]
   have hm := dig_mk v h
   refine ⟨by simp [Pl.digitB, hm]; omega, ?_, by simp, fun h1 e => ?_⟩
   ·show 0 * 10 + ((UInt8.ofNat (48 + v)).toNat - 48) = v
    omega
   ·have e' : UInt8.ofNat (48 + v) = 48 := by simpa using e
    have := congrArg UInt8.toNat e'
    rw [hm] at this
    have h48 : (48 : UInt8).toNat = 48 := rfl
    omega
  ·rw [dif_neg h]
   obtain ⟨i1, i2, i3, i4⟩ := ih (v / 10) (by omega)
   have hm := dig_mk (v % 10) (by omega)
   refine ⟨?_, ?_, by simp, fun _ => ?_⟩
   ·rw [List.all_append, i1]
    simp [Pl.digitB, hm]
    omega
   ·rw [valD_snoc, i2]
    omega
   ·have := i4 (by omega)
    cases hd : Lib.decDigits (v / 10) with
    | nil => exact absurd hd i3
    | cons x y =>
     rw [hd] at this
     simpa using this
theorem dec_ok (v : Nat) : okD (Lib.decDigits v) = true := by
 obtain ⟨_, _, h3, h4⟩ := dec_is v
 refine decide_eq_true ⟨h3, ?_⟩
 by_cases h : 1 ≤ v
 ·exact .inl (h4 h)
 ·obtain rfl : v = 0 := by omega
  right
  rw [Lib.decDigits, dif_pos (by omega)]
  rfl
theorem valF_ge : ∀ (d : List UInt8) (a : Nat), a ≤ valF a d
 | [], a => Nat.le_refl _
 | c :: d, a => by
  have := valF_ge d (a * 10 + (c.toNat - 48))
  show a ≤ valF (a * 10 + (c.toNat - 48)) d
  omega
theorem parseM_ok : ∀ (d : List UInt8) (a : Nat), d.all Pl.digitB = true → valF a d ≤ 1000000 → Lib.parseUintM (2 ^ 64 - 1) a d = .ok (valF a d)
 | [], a, _, _ => rfl
 | c :: d, a, ha, hv => by
  rw [List.all_cons, Bool.and_eq_true] at ha
  have hc := dig_in ha.1
  have h1 := valF_ge d (a * 10 + (c.toNat - 48))
  have e : valF a (c :: d) = valF (a * 10 + (c.toNat - 48)) d := rfl
  rw [e] at hv ⊢
  rw [Lib.parseUintM, if_pos hc, if_neg (by omega), if_neg (by omega)]
  exact parseM_ok d _ ha.2 hv
theorem parse_dec (v : Nat) (hv : v ≤ 1000000) : Lib.parseIntB 64 (Lib.decDigits v) = .ok (v : Int) := by
 obtain ⟨h1, h2, h3, _⟩ := dec_is v
 cases hd : Lib.decDigits v with
 | nil => exact absurd hd h3
 | cons c r =>
  have hc : 48 ≤ c.toNat ∧ c.toNat ≤ 57 := by
   rw [hd, List.all_cons, Bool.and_eq_true] at h1
   exact dig_in h1.1
  have hp : Lib.parseUintB 64 (c :: r) = .ok v := by
   unfold Lib.parseUintB
   rw [if_neg (by simp), ← hd, parseM_ok _ 0 h1 (by show valD _ ≤ _; omega)]
   show Lib.NumEnd.ok (valD (Lib.decDigits v)) = _
   rw [h2]
  unfold Lib.parseIntB
  have n1 : ¬ (c.toNat = 43 ∨ c.toNat = 45) := by omega
  have n2 : ¬ c.toNat = 45 := by omega
  have n3 : ¬ c.toNat = 43 := by omega
  simp only [n3, n2, or_self, not_false_eq_true, true_and, false_and, if_false]
  rw [hp]
  have e63 : ¬ (2 : Nat) ^ (64 - 1) ≤ v := by
   have : (2 : Nat) ^ (64 - 1) = 9223372036854775808 := by decide
   omega
  show (if (2 : Nat) ^ (64 - 1) ≤ v then Lib.NumEnd.range else Lib.NumEnd.ok (v : Int)) = _
  rw [if_neg e63]
theorem number_dec (v : Nat) (hv : v ≤ 9999) : impl_number.f (bs (Lib.decDigits v)) 4 = some ((v : Int), true) := by
 have h4 := decDigits_4 v hv
 unfold impl_number.f
 rw [bs_size, if_pos (by omega), bs_data, parse_dec v (by omega)]
 simp only
 rw [if_pos (by omega), if_pos (by omega)]
 have e : (⟨(Lib.itoa (v : Int)).toArray⟩ : ByteArray) = bs (Lib.decDigits v) := by
  unfold Lib.itoa bs
  rw [if_neg (by omega), Int.toNat_natCast]
 rw [e, if_pos rfl]
 congr 2
 exact decide_eq_true (by omega)
theorem number_some (x : ByteArray) (hs : x.size ≤ 1000) (a1 : Int) : ∃ n ok, impl_number.f x a1 = some (n, ok) := by
 unfold impl_number.f
 rw [if_pos (by omega)]
 cases hp : Lib.parseIntB 64 x.data.toList with
 | ok v =>
  have hb := Lib.parseIntB_bounds hp
  simp only
  rw [if_pos (by omega)]
  exact ⟨_, _, rfl⟩
 | «syntax» => exact ⟨_, _, rfl⟩
 | range => exact ⟨_, _, rfl⟩
def noDig (l : List UInt8) : Prop := ∀ c r, l = c :: r → Pl.digitB c = false
theorem span_is : ∀ (D E a b : List UInt8) (m : Nat), D.all Pl.digitB = true → E.all Pl.digitB = true → D ++ a = E ++ b → noDig b → D.length ≤ m → E.length ≤ m → (D.length < m → noDig a) → D = E
 | [], [], _, _, _, _, _, _, _, _, _, _ => rfl
 | [], e :: E, a, b, m, _, hE, h, _, _, hm, ha => by
  rw [List.all_cons, Bool.and_eq_true] at hE
  have h' : a = e :: (E ++ b) := h
  have := ha (by simp at hm ⊢; omega) e _ h'
  rw [hE.1] at this
  exact absurd this (by simp)
 | d :: D, [], a, b, m, hD, _, h, hb, _, _, _ => by
  rw [List.all_cons, Bool.and_eq_true] at hD
  have h' : b = d :: (D ++ a) := h.symm
  have := hb d _ h'
  rw [hD.1] at this
  exact absurd this (by simp)
 | d :: D, e :: E, a, b, m, hD, hE, h, hb, h1, h2, ha => by
  rw [List.all_cons, Bool.and_eq_true] at hD hE
  have h' : d :: (D ++ a) = e :: (E ++ b) := h
  injection h' with e1 e2
  rw [e1, span_is D E a b (m - 1) hD.2 hE.2 e2 hb (by simp at h1; omega) (by simp at h2; omega) (fun h => ha (by simp; omega))]
theorem at_head {s : ByteArray} {a : Nat} {c : UInt8} {r : List UInt8} (h : s.data.toList.drop a = c :: r) : a < s.size ∧ bt s (a : Int) = (c.toNat : Int) ∧ s.data.toList.drop (a + 1) = r := by
 have h1 : a < s.data.toList.length := by
  by_cases hh : a < s.data.toList.length
  ·exact hh
  ·rw [List.drop_eq_nil_of_le (by omega)] at h; exact absurd h (by simp)
 have h2 : a < s.size := by rw [← Pl.size_toList]; exact h1
 rw [Pl.drop_get h1] at h
 injection h with e1 e2
 exact ⟨h2, by rw [Pl.bt_get s a h2, e1], e2⟩
theorem take_hit {s : ByteArray} {a : Nat} {c : UInt8} {r : List UInt8} (hs : s.size ≤ 200) (h : s.data.toList.drop a = c :: r) (ex : List Nd) (x : Int) (hx : x = (c.toNat : Int)) : spec_l3Take.f s (a : Int) ex x = some (true, s, ((a + 1 : Nat) : Int), ex) := by
 obtain ⟨h1, h2, _⟩ := at_head h
 unfold spec_l3Take.f
 rw [if_pos (by omega), if_pos (by omega), h2, if_pos hx.symm, Pl.wrap_nat (by omega)]
 rfl
theorem take_miss {s : ByteArray} {a : Nat} {c : UInt8} {r : List UInt8} (h : s.data.toList.drop a = c :: r) (ex : List Nd) (x : Int) (hx : x ≠ (c.toNat : Int)) : spec_l3Take.f s (a : Int) ex x = some (false, s, (a : Int), ex) := by
 obtain ⟨h1, h2, _⟩ := at_head h
 unfold spec_l3Take.f
 rw [if_pos (by omega), if_pos (by omega), h2, if_neg (fun e => hx e.symm)]
theorem take_end {s : ByteArray} {a : Nat} (h : s.size ≤ a) (ex : List Nd) (x : Int) : spec_l3Take.f s (a : Int) ex x = some (false, s, (a : Int), ex) := by
 unfold spec_l3Take.f
 rw [if_neg (by omega)]
theorem drop_end {s : ByteArray} {a : Nat} (h : s.data.toList.drop a = []) : s.size ≤ a := by
 rw [← Pl.size_toList]
 exact List.drop_eq_nil_iff.1 h
theorem put_eq (s : ByteArray) (a : Nat) (ex : List Nd) (he : ex.length ≤ 1000) (p q r t : Int) : spec_l3Put.f s (a : Int) ex p q r t = some ((ex.length : Int), s, (a : Int), ex ++ [⟨p, q, r, t⟩]) := by
 unfold spec_l3Put.f
 rw [if_pos (by omega), Option.bind_some]
 have : wrap64 (((ex ++ [(⟨p, q, r, t⟩ : Nd)]).length : Int) - 1) = (ex.length : Int) := by
  have el : (ex ++ [(⟨p, q, r, t⟩ : Nd)]).length = ex.length + 1 := by simp
  rw [el, Pl.wrap_in (by omega) (by omega)]
  omega
 rw [this]
theorem okD_one (d : List UInt8) (c : UInt8) (r : List UInt8) (h : d = c :: r) : okD d = if (c.toNat : Int) = 48 then (r.length == 0) else true := by
 subst h
 unfold okD
 by_cases hc : (c.toNat : Int) = 48
 ·have e : c = 48 := by
   rw [← u8_of c 48 (by omega)]
   rfl
  rw [if_pos hc, e]
  by_cases hr : r.length = 0
  ·simp [hr]
  ·simp [hr]
 ·have e : ¬ c = 48 := fun e => hc (by rw [e]; rfl)
  rw [if_neg hc]
  simp [e]
theorem num_end {s : ByteArray} {a : Nat} (hs : s.size ≤ 200) (ex : List Nd) (d : List UInt8) (hd : s.data.toList.drop a = d ++ s.data.toList.drop (a + d.length)) :
  (if ((a + d.length : Nat) : Int) > (a : Int) then (if 0 ≤ (a : Int) then (if (a : Int) < (s.size : Int) then (if (bt s (a : Int)) = 48 then (some (((valD d : Nat) : Int), (((a + d.length : Nat) : Int) == (wrap64 ((a : Int) + 1))), s, ((a + d.length : Nat) : Int), ex)) else (some (((valD d : Nat) : Int), true, s, ((a + d.length : Nat) : Int), ex))) else (none)) else (none)) else (some (((valD d : Nat) : Int), false, s, ((a + d.length : Nat) : Int), ex))) = some (((valD d : Nat) : Int), okD d, s, ((a + d.length : Nat) : Int), ex) := by
 cases d with
 | nil =>
  rw [if_neg (by simp)]
  rfl
 | cons c r =>
  obtain ⟨h1, h2, _⟩ := at_head (a := a) (c := c) (r := r ++ s.data.toList.drop (a + (c :: r).length)) (by rw [hd]; rfl)
  rw [if_pos (by simp; omega), if_pos (by omega), if_pos (by omega), h2, okD_one (c :: r) c r rfl, Pl.wrap_nat (by omega)]
  by_cases hc : (c.toNat : Int) = 48
  ·rw [if_pos hc, if_pos hc]
   congr 3
   by_cases hr : r.length = 0
   ·simp [hr]
   ·have : ¬ (((a + (c :: r).length : Nat) : Int) = (a : Int) + 1) := by simp; omega
    rw [beq_eq_false_iff_ne.2 this, beq_eq_false_iff_ne.2 hr]
  ·rw [if_neg hc, if_neg hc]
theorem num_loop {s : ByteArray} (hs : s.size ≤ 200) (a : Nat) (ex : List Nd) (m : Nat) (hm : m ≤ 4) : ∀ j (d : List UInt8), d.length + j = m → d.all Pl.digitB = true → s.data.toList.drop a = d ++ s.data.toList.drop (a + d.length) →
  ∃ D : List UInt8, Ev (fun k => spec_l3Num.l0 k (m : Int) ((valD d : Nat) : Int) (a : Int) s ((a + d.length : Nat) : Int) ex) (((valD D : Nat) : Int), okD D, s, ((a + D.length : Nat) : Int), ex) ∧ D.all Pl.digitB = true ∧ D.length ≤ m ∧ s.data.toList.drop a = D ++ s.data.toList.drop (a + D.length) ∧ (D.length < m → noDig (s.data.toList.drop (a + D.length))) := by
 intro j
 induction j with
 | zero =>
  intro d hj ha hd
  have ne := num_end hs ex d hd
  refine ⟨d, ?_, ha, by omega, hd, fun h => by omega⟩
  refine Ev.step (fun k => by rw [spec_l3Num.l0]) ?_
  rw [ne]
  have w : ¬ (wrap64 (((a + d.length : Nat) : Int) - (a : Int)) < (m : Int)) ∨ s.size < a + d.length + 1 := by
   by_cases h : a + d.length < s.size
   ·left
    rw [Pl.wrap_in (by omega) (by omega)]
    omega
   ·right; omega
  rcases w with w | w
  ·by_cases c0 : ((a + d.length : Nat) : Int) < (s.size : Int)
   ·refine Pl.ev_ite_pos c0 (Pl.ev_ite_pos (by omega) ?_)
    simp only [if_neg w]
    simp only [ite_self]
    exact Ev.now _
   ·exact Pl.ev_ite_neg c0 (Ev.now _)
  ·exact Pl.ev_ite_neg (by omega) (Ev.now _)
 | succ j ih =>
  intro d hj ha hd
  have ne := num_end hs ex d hd
  cases hr : s.data.toList.drop (a + d.length) with
  | nil =>
   have hz := drop_end hr
   refine ⟨d, ?_, ha, by omega, hd, fun _ c r h => by rw [hr] at h; exact absurd h (by simp)⟩
   refine Ev.step (fun k => by rw [spec_l3Num.l0]) ?_
   rw [ne]
   exact Pl.ev_ite_neg (by omega) (Ev.now _)
  | cons c r =>
   obtain ⟨h1, h2, h3⟩ := at_head hr
   by_cases hc : Pl.digitB c = true
   ·have hb := dig_in hc
    have k1 : ((a + d.length : Nat) : Int) < (s.size : Int) := by omega
    have k2 : 0 ≤ ((a + d.length : Nat) : Int) := by omega
    have k3 : (c.toNat : Int) ≥ 48 := by omega
    have k4 : (c.toNat : Int) ≤ 57 := by omega
    have k5 : (d.length : Int) < (m : Int) := by omega
    have ev : valD (d ++ [c]) = valD d * 10 + (c.toNat - 48) := valD_snoc d c
    have hlt := valD_lt d.length d rfl ha
    have hp : 10 ^ d.length ≤ 10 ^ 4 := Nat.pow_le_pow_right (by omega) (by omega)
    have hp4 : (10 : Nat) ^ 4 = 10000 := by decide
    have hd' : s.data.toList.drop a = (d ++ [c]) ++ s.data.toList.drop (a + (d ++ [c]).length) := by
     have e : a + (d ++ [c]).length = a + d.length + 1 := by simp; omega
     rw [e, h3, hd, hr]
     simp
    obtain ⟨D, q1, q2, q3, q4, q5⟩ := ih (d ++ [c]) (by simp; omega) (by rw [List.all_append, ha]; simp [hc]) hd'
    refine ⟨D, ?_, q2, q3, q4, q5⟩
    refine Ev.step (fun k => by rw [spec_l3Num.l0]) ?_
    rw [h2]
    have w1 : wrap64 (((a + d.length : Nat) : Int) - (a : Int)) = (d.length : Int) := by rw [Pl.wrap_in (by omega) (by omega)]; omega
    have w2 : wrap64 (wrap64 (((valD d : Nat) : Int) * 10) + (((c.toNat : Int) - 48) % 256)) = ((valD (d ++ [c]) : Nat) : Int) := by
     rw [Pl.wrap_in (x := ((valD d : Nat) : Int) * 10) (by omega) (by omega), Pl.wrap_in (by omega) (by omega), ev]
     omega
    have w3 : wrap64 (((a + d.length : Nat) : Int) + 1) = ((a + (d ++ [c]).length : Nat) : Int) := by
     rw [Pl.wrap_nat (by omega)]
     simp
     omega
    rw [w1, w2, w3]
    exact Pl.ev_ite_pos k1 (Pl.ev_ite_pos k2 (Pl.ev_ite_pos k3 (Pl.ev_ite_pos k4 (Pl.ev_ite_pos k5 q1))))
   ·have hb : ¬ (48 ≤ c.toNat ∧ c.toNat ≤ 57) := fun h => hc (decide_eq_true h)
    refine ⟨d, ?_, ha, by omega, hd, fun _ c' r' h => by
     rw [hr] at h
     injection h with e1 _
     rw [← e1]
     simpa using hc⟩
    refine Ev.step (fun k => by rw [spec_l3Num.l0]) ?_
    rw [ne, h2]
    refine Pl.ev_ite_pos (by omega) (Pl.ev_ite_pos (by omega) ?_)
    by_cases g : (c.toNat : Int) ≥ 48
    ·exact Pl.ev_ite_pos g (Pl.ev_ite_neg (by omega) (Ev.now _))
    ·exact Pl.ev_ite_neg g (Ev.now _)
theorem num_ev {s : ByteArray} (hs : s.size ≤ 200) (a : Nat) (ex : List Nd) (m : Nat) (hm : m ≤ 4) :
  ∃ D : List UInt8, Ev (fun k => spec_l3Num.f k s (a : Int) ex (m : Int)) (((valD D : Nat) : Int), okD D, s, ((a + D.length : Nat) : Int), ex) ∧ D.all Pl.digitB = true ∧ D.length ≤ m ∧ s.data.toList.drop a = D ++ s.data.toList.drop (a + D.length) ∧ (D.length < m → noDig (s.data.toList.drop (a + D.length))) := by
 have := num_loop hs a ex m hm m [] (by simp) rfl (by simp)
 exact this
theorem signs_bt (i : Nat) (h : i < 7) : bt (⟨#[43, 45, 42, 47, 60, 61, 38]⟩ : ByteArray) (i : Int) = ((signB ((i : Int) + 3)).toNat : Int) := by
 rw [Pl.bt_get (⟨#[43, 45, 42, 47, 60, 61, 38]⟩ : ByteArray) i h]
 obtain rfl | rfl | rfl | rfl | rfl | rfl | rfl : i = 0 ∨ i = 1 ∨ i = 2 ∨ i = 3 ∨ i = 4 ∨ i = 5 ∨ i = 6 := by omega
 all_goals first | rfl | decide +revert
theorem signB_inj {j k : Int} (hj : 3 ≤ j ∧ j ≤ 9) (hk : 3 ≤ k ∧ k ≤ 9) (h : signB j = signB k) : j = k := by
 obtain rfl | rfl | rfl | rfl | rfl | rfl | rfl : j = 3 ∨ j = 4 ∨ j = 5 ∨ j = 6 ∨ j = 7 ∨ j = 8 ∨ j = 9 := by omega
 all_goals
  obtain rfl | rfl | rfl | rfl | rfl | rfl | rfl : k = 3 ∨ k = 4 ∨ k = 5 ∨ k = 6 ∨ k = 7 ∨ k = 8 ∨ k = 9 := by omega
  all_goals first | rfl | exact absurd h (by decide)
theorem signB_dig {k : Int} (hk : 3 ≤ k ∧ k ≤ 9) : Pl.digitB (signB k) = false := by
 obtain rfl | rfl | rfl | rfl | rfl | rfl | rfl : k = 3 ∨ k = 4 ∨ k = 5 ∨ k = 6 ∨ k = 7 ∨ k = 8 ∨ k = 9 := by omega
 all_goals decide
theorem sign_loop {s : ByteArray} (hs : s.size ≤ 200) (a : Nat) (ex : List Nd) : ∀ j i : Nat, i + j = 7 → (∀ K : Int, 3 ≤ K → K < (i : Int) + 3 → ∀ r, s.data.toList.drop a ≠ signB K :: r) →
  ∃ (sg : Int) (b : Nat), Ev (fun k => spec_l3Sign.l0 k (⟨#[43, 45, 42, 47, 60, 61, 38]⟩ : ByteArray) (i : Int) s (a : Int) ex) (sg, s, (b : Int), ex) ∧ ((sg = 0 ∧ b = a ∧ ∀ K : Int, 3 ≤ K → K ≤ 9 → ∀ r, s.data.toList.drop a ≠ signB K :: r) ∨ ((3 ≤ sg ∧ sg ≤ 9) ∧ b = a + 1 ∧ s.data.toList.drop a = signB sg :: s.data.toList.drop (a + 1))) := by
 have z7 : (⟨#[43, 45, 42, 47, 60, 61, 38]⟩ : ByteArray).size = 7 := rfl
 intro j
 induction j with
 | zero =>
  intro i hi hn
  refine ⟨0, a, ?_, .inl ⟨rfl, rfl, fun K h1 h2 => hn K h1 (by omega)⟩⟩
  refine Ev.step (fun k => by rw [spec_l3Sign.l0]) ?_
  exact Pl.ev_ite_neg (by rw [z7]; omega) (Ev.now _)
 | succ j ih =>
  intro i hi hn
  have hb := signs_bt i (by omega)
  by_cases hh : ∃ r, s.data.toList.drop a = signB ((i : Int) + 3) :: r
  ·obtain ⟨r, hr⟩ := hh
   have ht := take_hit hs hr ex (bt (⟨#[43, 45, 42, 47, 60, 61, 38]⟩ : ByteArray) (i : Int)) hb
   refine ⟨(i : Int) + 3, a + 1, ?_, .inr ⟨by omega, rfl, by rw [(at_head hr).2.2]; exact hr⟩⟩
   refine Ev.step (fun k => by rw [spec_l3Sign.l0]) ?_
   rw [ht, Pl.wrap_in (x := (i : Int) + 3) (by omega) (by omega)]
   exact Pl.ev_ite_pos (by rw [z7]; omega) (Pl.ev_ite_pos (by omega) (Ev.now _))
  ·have ht : spec_l3Take.f s (a : Int) ex (bt (⟨#[43, 45, 42, 47, 60, 61, 38]⟩ : ByteArray) (i : Int)) = some (false, s, (a : Int), ex) := by
    cases hr : s.data.toList.drop a with
    | nil => exact take_end (drop_end hr) ex _
    | cons c r =>
     refine take_miss hr ex _ (fun e => hh ⟨r, ?_⟩)
     rw [hb] at e
     rw [hr, ← u8_of c (signB ((i : Int) + 3)).toNat (by omega), u8_of (signB ((i : Int) + 3)) _ rfl]
   obtain ⟨sg, b, q1, q2⟩ := ih (i + 1) (by omega) (fun K h1 h2 r e => by
    by_cases hK : K < (i : Int) + 3
    ·exact hn K h1 hK r e
    ·obtain rfl : K = (i : Int) + 3 := by omega
     exact hh ⟨r, e⟩)
   refine ⟨sg, b, ?_, q2⟩
   refine Ev.step (fun k => by rw [spec_l3Sign.l0]) ?_
   rw [ht, Pl.wrap_nat (by omega)]
   exact Pl.ev_ite_pos (by rw [z7]; omega) (Pl.ev_ite_pos (by omega) q1)
theorem sign_ev {s : ByteArray} (hs : s.size ≤ 200) (a : Nat) (ex : List Nd) :
  ∃ (sg : Int) (b : Nat), Ev (fun k => spec_l3Sign.f k s (a : Int) ex) (sg, s, (b : Int), ex) ∧ ((sg = 0 ∧ b = a ∧ ∀ K : Int, 3 ≤ K → K ≤ 9 → ∀ r, s.data.toList.drop a ≠ signB K :: r) ∨ ((3 ≤ sg ∧ sg ≤ 9) ∧ b = a + 1 ∧ s.data.toList.drop a = signB sg :: s.data.toList.drop (a + 1))) :=
 sign_loop hs a ex 7 0 rfl (fun K h1 h2 => by omega)
theorem hitE {s : ByteArray} {a : Nat} {c : UInt8} {r : List UInt8} (hs : s.size ≤ 200) (h : s.data.toList.drop a = c :: r) (ex : List Nd) (x : Int) (hx : x = (c.toNat : Int)) : Ev (fun _ => spec_l3Take.f s (a : Int) ex x) (true, s, ((a + 1 : Nat) : Int), ex) := by
 rw [take_hit hs h ex x hx]
 exact Ev.now _
theorem missE {s : ByteArray} {a : Nat} {c : UInt8} {r : List UInt8} (h : s.data.toList.drop a = c :: r) (ex : List Nd) (x : Int) (hx : x ≠ (c.toNat : Int)) : Ev (fun _ => spec_l3Take.f s (a : Int) ex x) (false, s, (a : Int), ex) := by
 rw [take_miss h ex x hx]
 exact Ev.now _
theorem putE (s : ByteArray) (a : Nat) (ex : List Nd) (he : ex.length ≤ 1000) (p q r t : Int) : Ev (fun _ => spec_l3Put.f s (a : Int) ex p q r t) ((ex.length : Int), s, (a : Int), ex ++ [⟨p, q, r, t⟩]) := by
 rw [put_eq s a ex he p q r t]
 exact Ev.now _
theorem part_stop {s : ByteArray} {a : Nat} {ex : List Nd} (h : 16 < ex.length ∨ s.size ≤ a) : Ev (fun k => spec_l3Part.f k s (a : Int) ex) (0, false, s, (a : Int), ex) := by
 refine Ev.step (fun k => by rw [spec_l3Part.f]) ?_
 by_cases h1 : 16 < ex.length
 ·refine Pl.ev_ite_pos (by omega) (Ev.step (fun k => by rw [spec_l3Part.j0]) (Pl.ev_ite_pos rfl (Ev.now _)))
 ·refine Pl.ev_ite_neg (by omega) (Ev.step (fun k => by rw [spec_l3Part.j0]) (Pl.ev_ite_pos (decide_eq_true (by omega)) (Ev.now _)))
theorem drop_add {l x r : List UInt8} {a : Nat} (h : l.drop a = x ++ r) : l.drop (a + x.length) = r := by
 rw [← List.drop_drop, h, List.drop_left]
theorem cast_u8 {c d : UInt8} (h : (c.toNat : Int) = (d.toNat : Int)) : d = c := by
 rw [← u8_of c d.toNat (by omega), u8_of d _ rfl]
theorem part_ev {s : ByteArray} (hs : s.size ≤ 200) : ∀ (m a : Nat) (ex : List Nd), s.size - a ≤ m → a ≤ s.size → ex.length + (s.size - a) ≤ 600 →
  ∃ (pl : Int) (ok : Bool) (b : Nat) (ex' : List Nd), Ev (fun k => spec_l3Part.f k s (a : Int) ex) (pl, ok, s, (b : Int), ex') ∧ a ≤ b ∧ b ≤ s.size ∧ ex'.length + a ≤ ex.length + b + 1 ∧
   (ok = true → ex'.length + a ≤ ex.length + b ∧ ∃ T : Ex, T.okT ∧ ex' = ex ++ T.nodes ex.length ∧ pl = ((ex.length + T.size - 1 : Nat) : Int) ∧ s.data.toList.drop a = T.txt ++ s.data.toList.drop b) := by
 intro m
 induction m with
 | zero =>
  intro a ex hm ha hl
  exact ⟨0, false, a, ex, part_stop (.inr (by omega)), by omega, by omega, by omega, fun h => absurd h (by simp)⟩
 | succ m ih =>
  intro a ex hm ha hl
  by_cases hst : 16 < ex.length ∨ s.size ≤ a
  ·exact ⟨0, false, a, ex, part_stop hst, by omega, by omega, by omega, fun h => absurd h (by simp)⟩
  ·have go : ∀ r, Ev (fun k => spec_l3Part.j0 k false s (a : Int) ex) r → Ev (fun k => spec_l3Part.f k s (a : Int) ex) r := by
    intro r hr
    refine Ev.step (fun k => by rw [spec_l3Part.f]) (Pl.ev_ite_neg (by omega) ?_)
    rw [decide_eq_false (by omega)]
    exact hr
   cases hd : s.data.toList.drop a with
   | nil => exact absurd (drop_end hd) (by omega)
   | cons c r =>
    obtain ⟨h1, _, h3⟩ := at_head hd
    have numlen : ∀ (D : List UInt8) (x : Nat), s.data.toList.drop x = D ++ s.data.toList.drop (x + D.length) → x ≤ s.size → x + D.length ≤ s.size := by
     intro D x hD hx
     have e := congrArg List.length hD
     rw [List.length_append, List.length_drop, List.length_drop, Pl.size_toList] at e
     by_cases h0 : D.length = 0
     ·omega
     ·omega
    by_cases c1 : (118 : Int) = (c.toNat : Int)
    ·have ec : c = 118 := cast_u8 (c := 118) (d := c) c1 |>.symm ▸ rfl
     obtain ⟨D, q1, q2, q3, q4, _⟩ := num_ev hs (a + 1) ex 1 (by omega)
     have hb := numlen D (a + 1) q4 (by omega)
     refine ⟨(ex.length : Int), okD D, a + 1 + D.length, ex ++ [⟨2, ((valD D : Nat) : Int), 0, 0⟩], ?_, by omega, hb, by simp; omega, fun ho => ⟨by simp; omega, .var (valD D), ?_, rfl, rfl, ?_⟩⟩
     ·refine go _ (Ev.step (fun k => by rw [spec_l3Part.j0]) (Pl.ev_ite_neg (by simp) ?_))
      exact Pl.ev_bind' (hitE hs hd ex 118 c1) (Pl.ev_ite_pos rfl (Pl.ev_bind' q1 (Pl.ev_bind' (putE s (a + 1 + D.length) ex (by omega) 2 ((valD D : Nat) : Int) 0 0) (Ev.now _))))
     ·have := valD_lt D.length D rfl q2
      have hp : 10 ^ D.length ≤ 10 ^ 1 := Nat.pow_le_pow_right (by omega) (by omega)
      show valD D ≤ 9
      omega
     ·obtain ⟨e1, _⟩ := dec_of D.length D rfl q2 ho
      show c :: r = (118 :: Lib.decDigits (valD D)) ++ _
      rw [e1, ec, ← h3, q4]
      rfl
    ·by_cases c2 : (33 : Int) = (c.toNat : Int)
     ·have ec : c = 33 := cast_u8 (c := 33) (d := c) c2 |>.symm ▸ rfl
      obtain ⟨pl1, ok1, b1, ex1, p1, p2, p3, p4, p5⟩ := ih (a + 1) ex (by omega) (by omega) (by omega)
      cases ok1 with
      | false =>
       refine ⟨0, false, b1, ex1, ?_, by omega, by omega, by omega, fun h => absurd h (by simp)⟩
       refine go _ (Ev.step (fun k => by rw [spec_l3Part.j0]) (Pl.ev_ite_neg (by simp) ?_))
       exact Pl.ev_bind' (missE hd ex 118 c1) (Pl.ev_ite_neg (by simp) (Pl.ev_bind' (hitE hs hd ex 33 c2) (Pl.ev_ite_pos rfl (Pl.ev_bind' p1 (Pl.ev_ite_neg (by simp) (Ev.now _))))))
      | true =>
       obtain ⟨z1, T, t1, t2, t3, t4⟩ := p5 rfl
       have hp := Ex.size_pos T
       have el : ex1.length = ex.length + T.size := by rw [t2, List.length_append, Ex.nodes_len]
       refine ⟨(ex1.length : Int), true, b1, ex1 ++ [⟨10, 0, pl1, 0⟩], ?_, by omega, by omega, by simp; omega, fun _ => ⟨by simp; omega, .nt T, t1, ?_, ?_, ?_⟩⟩
       ·refine go _ (Ev.step (fun k => by rw [spec_l3Part.j0]) (Pl.ev_ite_neg (by simp) ?_))
        exact Pl.ev_bind' (missE hd ex 118 c1) (Pl.ev_ite_neg (by simp) (Pl.ev_bind' (hitE hs hd ex 33 c2) (Pl.ev_ite_pos rfl (Pl.ev_bind' p1 (Pl.ev_ite_pos rfl (Pl.ev_bind' (putE s b1 ex1 (by omega) 10 0 pl1 0) (Ev.now _)))))))
       ·rw [t2, t3]
        simp [Ex.nodes]
       ·rw [el]
        rfl
       ·show c :: r = (33 :: T.txt) ++ _
        rw [ec, ← h3, t4]
        rfl
     ·by_cases c3 : (40 : Int) = (c.toNat : Int)
      ·have ec : c = 40 := cast_u8 (c := 40) (d := c) c3 |>.symm ▸ rfl
       obtain ⟨pl1, ok1, b1, ex1, p1, p2, p3, p4, p5⟩ := ih (a + 1) ex (by omega) (by omega) (by omega)
       have start : ∀ r', Ev (fun k => (spec_l3Part.f k s ((a + 1 : Nat) : Int) ex).bind fun bt192 => (if bt192.2.1 = true then ((spec_l3Sign.f k bt192.2.2.1 bt192.2.2.2.1 bt192.2.2.2.2).bind fun bt199 => ((spec_l3Part.f k bt199.2.1 bt199.2.2.1 bt199.2.2.2).bind fun bt205 => (if bt199.1 = 0 then (spec_l3Part.j1 k bt192.1 bt199.1 bt205.1 bt205.2.1 true bt205.2.2.1 bt205.2.2.2.1 bt205.2.2.2.2) else (if bt205.2.1 = true then ((spec_l3Take.f bt205.2.2.1 bt205.2.2.2.1 bt205.2.2.2.2 41).bind fun bt212 => (spec_l3Part.j1 k bt192.1 bt199.1 bt205.1 true (!bt212.1) bt212.2.1 bt212.2.2.1 bt212.2.2.2)) else (spec_l3Part.j1 k bt192.1 bt199.1 bt205.1 false true bt205.2.2.1 bt205.2.2.2.1 bt205.2.2.2.2))))) else (some (0, false, bt192.2.2.1, bt192.2.2.2.1, bt192.2.2.2.2)))) r' → Ev (fun k => spec_l3Part.f k s (a : Int) ex) r' := by
        intro r' h'
        refine go _ (Ev.step (fun k => by rw [spec_l3Part.j0]) (Pl.ev_ite_neg (by simp) ?_))
        exact Pl.ev_bind' (missE hd ex 118 c1) (Pl.ev_ite_neg (by simp) (Pl.ev_bind' (missE hd ex 33 c2) (Pl.ev_ite_neg (by simp) (Pl.ev_bind' (hitE hs hd ex 40 c3) (Pl.ev_ite_pos rfl h')))))
       cases ok1 with
       | false => exact ⟨0, false, b1, ex1, start _ (Pl.ev_bind' p1 (Pl.ev_ite_neg (by simp) (Ev.now _))), by omega, by omega, by omega, fun h => absurd h (by simp)⟩
       | true =>
        obtain ⟨z1, T, t1, t2, t3, t4⟩ := p5 rfl
        have hp := Ex.size_pos T
        have el : ex1.length = ex.length + T.size := by rw [t2, List.length_append, Ex.nodes_len]
        obtain ⟨sg, b2, s1, s2⟩ := sign_ev hs b1 ex1
        have hb2 : b1 ≤ b2 ∧ b2 ≤ s.size ∧ b2 ≤ b1 + 1 := by
         rcases s2 with ⟨_, e, _⟩ | ⟨_, e, hh⟩
         ·omega
         ·have := (at_head hh).1
          omega
        obtain ⟨pl3, ok3, b3, ex3, q1, q2, q3, q4, q5⟩ := ih b2 ex1 (by omega) (by omega) (by omega)
        have fail : ∀ (o : Bool), Ev (fun k => spec_l3Part.j1 k pl1 sg pl3 o true s (b3 : Int) ex3) (0, false, s, (b3 : Int), ex3) := fun o => Ev.step (fun k => by rw [spec_l3Part.j1]) (Pl.ev_ite_pos rfl (Ev.now _))
        by_cases hsg : sg = 0
        ·have hbb : b2 = b1 := by
          rcases s2 with ⟨_, e, _⟩ | ⟨h, _, _⟩
          ·exact e
          ·omega
         exact ⟨0, false, b3, ex3, start _ (Pl.ev_bind' p1 (Pl.ev_ite_pos rfl (Pl.ev_bind' s1 (Pl.ev_bind' q1 (Pl.ev_ite_pos hsg (fail ok3)))))), by omega, by omega, by omega, fun h => absurd h (by simp)⟩
        ·obtain ⟨g1, g2, g3⟩ : (3 ≤ sg ∧ sg ≤ 9) ∧ b2 = b1 + 1 ∧ s.data.toList.drop b1 = signB sg :: s.data.toList.drop (b1 + 1) := by
          rcases s2 with ⟨e, _, _⟩ | h
          ·exact absurd e hsg
          ·exact h
         cases ok3 with
         | false => exact ⟨0, false, b3, ex3, start _ (Pl.ev_bind' p1 (Pl.ev_ite_pos rfl (Pl.ev_bind' s1 (Pl.ev_bind' q1 (Pl.ev_ite_neg hsg (Pl.ev_ite_neg (by simp) (fail false))))))), by omega, by omega, by omega, fun h => absurd h (by simp)⟩
         | true =>
          obtain ⟨y1, U, u1, u2, u3, u4⟩ := q5 rfl
          have hq := Ex.size_pos U
          have el3 : ex3.length = ex1.length + U.size := by rw [u2, List.length_append, Ex.nodes_len]
          have bad : (∃ t, Ev (fun _ => spec_l3Take.f s (b3 : Int) ex3 41) (false, s, (b3 : Int), ex3) ∧ t = true) → ∃ (pl : Int) (ok : Bool) (b : Nat) (ex' : List Nd), Ev (fun k => spec_l3Part.f k s (a : Int) ex) (pl, ok, s, (b : Int), ex') ∧ a ≤ b ∧ b ≤ s.size ∧ ex'.length + a ≤ ex.length + b + 1 ∧
   (ok = true → ex'.length + a ≤ ex.length + b ∧ ∃ T : Ex, T.okT ∧ ex' = ex ++ T.nodes ex.length ∧ pl = ((ex.length + T.size - 1 : Nat) : Int) ∧ c :: r = T.txt ++ s.data.toList.drop b) := by
           rintro ⟨_, ht, _⟩
           exact ⟨0, false, b3, ex3, start _ (Pl.ev_bind' p1 (Pl.ev_ite_pos rfl (Pl.ev_bind' s1 (Pl.ev_bind' q1 (Pl.ev_ite_neg hsg (Pl.ev_ite_pos rfl (Pl.ev_bind' ht (fail true)))))))), by omega, by omega, by omega, fun h => absurd h (by simp)⟩
          cases hz : s.data.toList.drop b3 with
          | nil => exact bad ⟨true, by rw [take_end (drop_end hz)]; exact Ev.now _, rfl⟩
          | cons d r3 =>
           by_cases c4 : (41 : Int) = (d.toNat : Int)
           ·have ed : d = 41 := cast_u8 (c := 41) (d := d) c4 |>.symm ▸ rfl
            obtain ⟨k1, _, k3⟩ := at_head hz
            refine ⟨(ex3.length : Int), true, b3 + 1, ex3 ++ [⟨sg, 0, pl1, pl3⟩], ?_, by omega, by omega, by simp; omega, fun _ => ⟨by simp; omega, .two sg T U, ⟨g1, t1, u1⟩, ?_, ?_, ?_⟩⟩
            ·exact start _ (Pl.ev_bind' p1 (Pl.ev_ite_pos rfl (Pl.ev_bind' s1 (Pl.ev_bind' q1 (Pl.ev_ite_neg hsg (Pl.ev_ite_pos rfl (Pl.ev_bind' (hitE hs hz ex3 41 c4) (Ev.step (fun k => by rw [spec_l3Part.j1]) (Pl.ev_ite_neg (by simp) (Pl.ev_bind' (putE s (b3 + 1) ex3 (by omega) sg 0 pl1 pl3) (Ev.now _)))))))))))
            ·rw [u2, u3, el, t2, t3]
             simp [Ex.nodes]
            ·rw [el3, el]
             congr 1
             simp [Ex.size]
             omega
            ·show c :: r = (40 :: (T.txt ++ signB sg :: (U.txt ++ [41]))) ++ _
             rw [ec, ← h3, t4, g3, ← g2, u4, hz, k3, ed]
             simp
           ·exact bad ⟨true, missE hz ex3 41 c4, rfl⟩
      ·obtain ⟨D, q1, q2, q3, q4, _⟩ := num_ev hs a ex 4 (by omega)
       have hb := numlen D a q4 (by omega)
       refine ⟨(ex.length : Int), okD D, a + D.length, ex ++ [⟨1, ((valD D : Nat) : Int), 0, 0⟩], ?_, by omega, hb, by simp; omega, fun ho => ⟨?_, .con (valD D), ?_, rfl, rfl, ?_⟩⟩
       ·refine go _ (Ev.step (fun k => by rw [spec_l3Part.j0]) (Pl.ev_ite_neg (by simp) ?_))
        exact Pl.ev_bind' (missE hd ex 118 c1) (Pl.ev_ite_neg (by simp) (Pl.ev_bind' (missE hd ex 33 c2) (Pl.ev_ite_neg (by simp) (Pl.ev_bind' (missE hd ex 40 c3) (Pl.ev_ite_neg (by simp) (Pl.ev_bind' q1 (Pl.ev_bind' (putE s (a + D.length) ex (by omega) 1 ((valD D : Nat) : Int) 0 0) (Ev.now _))))))))
       ·have hD : D ≠ [] := (of_decide_eq_true ho).1
        have : D.length ≠ 0 := fun h => hD (List.length_eq_zero_iff.1 h)
        simp
        omega
       ·have := valD_lt D.length D rfl q2
        have hp : 10 ^ D.length ≤ 10 ^ 4 := Nat.pow_le_pow_right (by omega) (by omega)
        show valD D ≤ 9999
        omega
       ·obtain ⟨e1, _⟩ := dec_of D.length D rfl q2 ho
        show c :: r = Lib.decDigits (valD D) ++ _
        rw [e1, ← hd, ← q4]
theorem dec_head (v : Nat) : ∃ c d, Lib.decDigits v = c :: d ∧ 48 ≤ c.toNat ∧ c.toNat ≤ 57 := by
 obtain ⟨h1, _, h3, _⟩ := dec_is v
 cases hd : Lib.decDigits v with
 | nil => exact absurd hd h3
 | cons c d =>
  rw [hd, List.all_cons, Bool.and_eq_true] at h1
  exact ⟨c, d, rfl, dig_in h1.1⟩
theorem noDig_cons {c : UInt8} (h : Pl.digitB c = false) (r : List UInt8) : noDig (c :: r) := by
 intro d r' e
 injection e with e1 _
 rw [← e1]
 exact h
theorem part_tree {s : ByteArray} (hs : s.size ≤ 200) : ∀ (T : Ex), T.okT → ∀ (a : Nat) (ex : List Nd) (r : List UInt8), s.data.toList.drop a = T.txt ++ r → noDig r → ex.length + T.size ≤ 16 →
  Ev (fun k => spec_l3Part.f k s (a : Int) ex) (((ex.length + T.size - 1 : Nat) : Int), true, s, ((a + T.txt.length : Nat) : Int), ex ++ T.nodes ex.length) := by
 have go : ∀ (a : Nat) (ex : List Nd) (r : _), ex.length ≤ 16 → a < s.size → Ev (fun k => spec_l3Part.j0 k false s (a : Int) ex) r → Ev (fun k => spec_l3Part.f k s (a : Int) ex) r := by
  intro a ex r h1 h2 hr
  refine Ev.step (fun k => by rw [spec_l3Part.f]) (Pl.ev_ite_neg (by omega) ?_)
  rw [decide_eq_false (by omega)]
  exact hr
 intro T
 induction T with
 | con v =>
  intro ht a ex r hd hr hl
  obtain ⟨c, d, hc, hc1, hc2⟩ := dec_head v
  have hd' : s.data.toList.drop a = Lib.decDigits v ++ r := hd
  have hh : s.data.toList.drop a = c :: (d ++ r) := by rw [hd', hc]; rfl
  obtain ⟨D, q1, q2, q3, q4, q5⟩ := num_ev hs a ex 4 (by omega)
  have e := span_is D (Lib.decDigits v) _ _ 4 q2 (dec_is v).1 (by rw [← q4, hd']) hr q3 (decDigits_4 v ht) q5
  rw [e, dec_ok, (dec_is v).2.1] at q1
  have hsz : (Ex.con v).size = 1 := rfl
  refine go _ _ _ (by omega) (at_head hh).1 (Ev.step (fun k => by rw [spec_l3Part.j0]) (Pl.ev_ite_neg (by simp) ?_))
  exact Pl.ev_bind' (missE hh ex 118 (by omega)) (Pl.ev_ite_neg (by simp) (Pl.ev_bind' (missE hh ex 33 (by omega)) (Pl.ev_ite_neg (by simp) (Pl.ev_bind' (missE hh ex 40 (by omega)) (Pl.ev_ite_neg (by simp) (Pl.ev_bind' q1 (Pl.ev_bind' (putE s (a + (Lib.decDigits v).length) ex (by omega) 1 (v : Int) 0 0) (Ev.now _))))))))
 | var v =>
  intro ht a ex r hd hr hl
  have hh : s.data.toList.drop a = 118 :: (Lib.decDigits v ++ r) := hd
  obtain ⟨D, q1, q2, q3, q4, q5⟩ := num_ev hs (a + 1) ex 1 (by omega)
  have h3 := (at_head hh).2.2
  have hv : (Lib.decDigits v).length ≤ 1 := by
   have : v ≤ 9 := ht
   rw [Lib.decDigits, dif_pos (by omega)]
   simp
  have e := span_is D (Lib.decDigits v) _ _ 1 q2 (dec_is v).1 (by rw [← q4, h3]) hr q3 hv q5
  rw [e, dec_ok, (dec_is v).2.1] at q1
  have hsz : (Ex.var v).size = 1 := rfl
  have hen : ((a + 1 + (Lib.decDigits v).length : Nat) : Int) = ((a + (Ex.var v).txt.length : Nat) : Int) := by
   show _ = ((a + (118 :: Lib.decDigits v).length : Nat) : Int)
   rw [List.length_cons]
   omega
  rw [← hen]
  refine go _ _ _ (by omega) (at_head hh).1 (Ev.step (fun k => by rw [spec_l3Part.j0]) (Pl.ev_ite_neg (by simp) ?_))
  exact Pl.ev_bind' (hitE hs hh ex 118 rfl) (Pl.ev_ite_pos rfl (Pl.ev_bind' q1 (Pl.ev_bind' (putE s (a + 1 + (Lib.decDigits v).length) ex (by omega) 2 (v : Int) 0 0) (Ev.now _))))
 | nt A ih =>
  intro ht a ex r hd hr hl
  have hsz : (Ex.nt A).size = A.size + 1 := rfl
  have hp := Ex.size_pos A
  have hh : s.data.toList.drop a = 33 :: (A.txt ++ r) := hd
  have h3 := (at_head hh).2.2
  have p := ih ht (a + 1) ex r h3 hr (by omega)
  have el : (ex ++ A.nodes ex.length).length = ex.length + A.size := by rw [List.length_append, Ex.nodes_len]
  have P := putE s (a + 1 + A.txt.length) (ex ++ A.nodes ex.length) (by omega) 10 0 ((ex.length + A.size - 1 : Nat) : Int) 0
  have fin : (((ex ++ A.nodes ex.length).length : Int), true, s, ((a + 1 + A.txt.length : Nat) : Int), (ex ++ A.nodes ex.length) ++ [(⟨10, 0, ((ex.length + A.size - 1 : Nat) : Int), 0⟩ : Nd)]) = (((ex.length + (Ex.nt A).size - 1 : Nat) : Int), true, s, ((a + (Ex.nt A).txt.length : Nat) : Int), ex ++ (Ex.nt A).nodes ex.length) := by
   have e1 : (Ex.nt A).txt.length = A.txt.length + 1 := rfl
   rw [el, e1, List.append_assoc]
   congr 3
   congr 1
   congr 1
   omega
  rw [← fin]
  refine go _ _ _ (by omega) (at_head hh).1 (Ev.step (fun k => by rw [spec_l3Part.j0]) (Pl.ev_ite_neg (by simp) ?_))
  exact Pl.ev_bind' (missE hh ex 118 (by decide)) (Pl.ev_ite_neg (by simp) (Pl.ev_bind' (hitE hs hh ex 33 rfl) (Pl.ev_ite_pos rfl (Pl.ev_bind' p (Pl.ev_ite_pos rfl (Pl.ev_bind' P (Ev.now _)))))))
 | two K A C ihA ihC =>
  intro ht a ex r hd hr hl
  obtain ⟨hK, tA, tC⟩ := ht
  have hsz : (Ex.two K A C).size = A.size + C.size + 1 := rfl
  have hp := Ex.size_pos A
  have hq := Ex.size_pos C
  have hh : s.data.toList.drop a = 40 :: (A.txt ++ (signB K :: (C.txt ++ (41 :: r)))) := by
   rw [hd]
   show (40 :: (A.txt ++ signB K :: (C.txt ++ [41]))) ++ r = _
   simp
  have h3 := (at_head hh).2.2
  have p := ihA tA (a + 1) ex (signB K :: (C.txt ++ (41 :: r))) h3 (noDig_cons (signB_dig hK) _) (by omega)
  have elA : (ex ++ A.nodes ex.length).length = ex.length + A.size := by rw [List.length_append, Ex.nodes_len]
  have h4 := drop_add h3
  obtain ⟨sg, b2, s1, s2⟩ := sign_ev hs (a + 1 + A.txt.length) (ex ++ A.nodes ex.length)
  obtain ⟨g0, g2⟩ : sg = K ∧ b2 = a + 1 + A.txt.length + 1 := by
   rcases s2 with ⟨_, _, h⟩ | ⟨h1, h2, h⟩
   ·exact absurd h4 (h K hK.1 hK.2 _)
   ·rw [h4] at h
    injection h with e1 _
    exact ⟨(signB_inj hK h1 e1).symm, h2⟩
  subst g0
  subst g2
  have h5 := (at_head h4).2.2
  have q := ihC tC (a + 1 + A.txt.length + 1) (ex ++ A.nodes ex.length) (41 :: r) h5 (noDig_cons (by decide) r) (by omega)
  have h6 := drop_add h5
  have elC : ((ex ++ A.nodes ex.length) ++ C.nodes (ex ++ A.nodes ex.length).length).length = ex.length + A.size + C.size := by rw [List.length_append, Ex.nodes_len, elA]
  have P := putE s (a + 1 + A.txt.length + 1 + C.txt.length + 1) ((ex ++ A.nodes ex.length) ++ C.nodes (ex ++ A.nodes ex.length).length) (by omega) sg 0 ((ex.length + A.size - 1 : Nat) : Int) (((ex ++ A.nodes ex.length).length + C.size - 1 : Nat) : Int)
  have fin : ((((ex ++ A.nodes ex.length) ++ C.nodes (ex ++ A.nodes ex.length).length).length : Int), true, s, ((a + 1 + A.txt.length + 1 + C.txt.length + 1 : Nat) : Int), ((ex ++ A.nodes ex.length) ++ C.nodes (ex ++ A.nodes ex.length).length) ++ [(⟨sg, 0, ((ex.length + A.size - 1 : Nat) : Int), (((ex ++ A.nodes ex.length).length + C.size - 1 : Nat) : Int)⟩ : Nd)]) = (((ex.length + (Ex.two sg A C).size - 1 : Nat) : Int), true, s, ((a + (Ex.two sg A C).txt.length : Nat) : Int), ex ++ (Ex.two sg A C).nodes ex.length) := by
   have e1 : (Ex.two sg A C).txt.length = A.txt.length + (C.txt.length + 1 + 1) + 1 := by
    show (40 :: (A.txt ++ signB sg :: (C.txt ++ [41]))).length = _
    simp
   have e2 : ((ex.length + A.size + C.size : Nat) : Int) = ((ex.length + (Ex.two sg A C).size - 1 : Nat) : Int) := by omega
   have e3 : ((a + 1 + A.txt.length + 1 + C.txt.length + 1 : Nat) : Int) = ((a + (Ex.two sg A C).txt.length : Nat) : Int) := by omega
   have e4 : ((ex ++ A.nodes ex.length) ++ C.nodes (ex ++ A.nodes ex.length).length) ++ [(⟨sg, 0, ((ex.length + A.size - 1 : Nat) : Int), (((ex ++ A.nodes ex.length).length + C.size - 1 : Nat) : Int)⟩ : Nd)] = ex ++ (Ex.two sg A C).nodes ex.length := by
    rw [elA]
    simp [Ex.nodes]
   rw [e4, e3, elC, e2]
  rw [← fin]
  refine go _ _ _ (by omega) (at_head hh).1 (Ev.step (fun k => by rw [spec_l3Part.j0]) (Pl.ev_ite_neg (by simp) ?_))
  exact Pl.ev_bind' (missE hh ex 118 (by decide)) (Pl.ev_ite_neg (by simp) (Pl.ev_bind' (missE hh ex 33 (by decide)) (Pl.ev_ite_neg (by simp) (Pl.ev_bind' (hitE hs hh ex 40 rfl) (Pl.ev_ite_pos rfl (Pl.ev_bind' p (Pl.ev_ite_pos rfl (Pl.ev_bind' s1 (Pl.ev_bind' q (Pl.ev_ite_neg (by omega) (Pl.ev_ite_pos rfl (Pl.ev_bind' (hitE hs h6 _ 41 rfl) (Ev.step (fun k => by rw [spec_l3Part.j1]) (Pl.ev_ite_neg (by simp) (Pl.ev_bind' P (Ev.now _))))))))))))))))
theorem bs_of (s : ByteArray) : s = bs s.data.toList := by
 obtain ⟨⟨l⟩⟩ := s
 rfl
theorem bs_drop (l : List UInt8) (n : Nat) : (bs l).extract n (bs l).size = bs (l.drop n) := by
 have h : ((bs l).extract n (bs l).size).data.toList = l.drop n := by
  rw [ByteArray.data_extract, Array.toList_extract, bs_data, bs_size]
  simp only [List.extract]
  exact List.take_of_length_le (by rw [List.length_drop]; omega)
 rw [bs_of ((bs l).extract n (bs l).size), h]
theorem bs_take (l : List UInt8) (n : Nat) : (bs l).extract 0 n = bs (l.take n) := by
 have h : ((bs l).extract 0 n).data.toList = l.take n := by
  rw [ByteArray.data_extract, Array.toList_extract, bs_data]
  simp [List.extract]
 rw [bs_of ((bs l).extract 0 n), h]
theorem bs_bt (c : UInt8) (l : List UInt8) : bt (bs (c :: l)) 0 = (c.toNat : Int) := by
 have h := Pl.bt_get (bs (c :: l)) 0 (by rw [bs_size]; simp)
 have e : (bs (c :: l)).data.toList = c :: l := bs_data _
 simp only [e] at h
 exact h
theorem skip_eq (c : UInt8) (l : List UInt8) (hl : l.length ≤ 1000) (nd : List Nd) (x : Int) (hx : x = (c.toNat : Int)) : impl_exprReader_skip.f (bs (c :: l)) nd false x = some (bs l, nd, false) := by
 unfold impl_exprReader_skip.f
 have e : ¬ (bs (c :: l)).toList = [] := by rw [Pl.toList_data, bs_data]; simp
 rw [if_neg (by simp), if_neg e, bs_bt, bs_drop]
 have hs : (bs (c :: l)).size = l.length + 1 := by rw [bs_size]; rfl
 rw [if_pos (by omega), if_pos hx.symm, if_pos (by omega)]
 rfl
theorem skip_any (l : List UInt8) (nd : List Nd) (fl : Bool) (x : Int) : ∃ l' fl', impl_exprReader_skip.f (bs l) nd fl x = some (bs l', nd, fl') ∧ l'.length ≤ l.length ∧ (fl = true → fl' = true) := by
 cases fl with
 | true => exact ⟨l, true, by unfold impl_exprReader_skip.f; rw [if_pos rfl], Nat.le_refl _, fun _ => rfl⟩
 | false =>
  cases l with
  | nil =>
   refine ⟨[], true, ?_, Nat.le_refl _, fun _ => rfl⟩
   unfold impl_exprReader_skip.f
   rw [if_neg (by simp), if_pos (by rw [Pl.toList_data, bs_data])]
  | cons c l =>
   have e : ¬ (bs (c :: l)).toList = [] := by rw [Pl.toList_data, bs_data]; simp
   have hs : (bs (c :: l)).size = l.length + 1 := by rw [bs_size]; rfl
   by_cases hx : (c.toNat : Int) = x
   ·refine ⟨l, false, ?_, by simp, fun h => absurd h (by simp)⟩
    unfold impl_exprReader_skip.f
    rw [if_neg (by simp), if_neg e, bs_bt, bs_drop, if_pos (by omega), if_pos hx, if_pos (by omega)]
    rfl
   ·refine ⟨c :: l, true, ?_, by simp, fun h => rfl⟩
    unfold impl_exprReader_skip.f
    rw [if_neg (by simp), if_neg e, bs_bt, if_pos (by omega), if_neg hx]
theorem add_eq (x : ByteArray) (nd : List Nd) (h : nd.length ≤ 1000) (fl : Bool) (p q r t : Int) : impl_exprReader_add.f x nd fl p q r t = some ((nd.length : Int), x, nd ++ [⟨p, q, r, t⟩], fl) := by
 unfold impl_exprReader_add.f
 rw [if_pos (by omega), Option.bind_some]
 have el : (nd ++ [(⟨p, q, r, t⟩ : Nd)]).length = nd.length + 1 := by simp
 have : wrap64 (((nd ++ [(⟨p, q, r, t⟩ : Nd)]).length : Int) - 1) = (nd.length : Int) := by
  rw [el, Pl.wrap_in (by omega) (by omega)]
  omega
 rw [this]
theorem isDigit_eq (c : UInt8) : impl_isDigit.f (c.toNat : Int) = some (Pl.digitB c) := by
 unfold impl_isDigit.f Pl.digitB
 by_cases h : (c.toNat : Int) ≥ 48
 ·rw [if_pos h]
  congr 1
  rw [decide_eq_decide]
  omega
 ·rw [if_neg h, decide_eq_false (by omega)]
theorem run_loop (l : List UInt8) (hl : l.length ≤ 1000) : ∀ j i : Nat, i + j = l.length → (l.take i).all Pl.digitB = true → ∃ D : List UInt8, Ev (fun k => impl_run__impl_isDigit.l0 k (bs l) (i : Int)) (bs D, bs (l.drop D.length)) ∧ l = D ++ l.drop D.length ∧ D.all Pl.digitB = true ∧ noDig (l.drop D.length) := by
 have hs : (bs l).size = l.length := bs_size l
 have stop : ∀ i, i ≤ l.length → ((bs l).extract 0 ((i : Int)).toNat, (bs l).extract ((i : Int)).toNat (bs l).size) = (bs (l.take i), bs (l.drop (l.take i).length)) := by
  intro i hi
  rw [Int.toNat_natCast, bs_take, bs_drop, List.length_take, Nat.min_eq_left hi]
 intro j
 induction j with
 | zero =>
  intro i hi ha
  have e1 : (l.take i).length = i := by rw [List.length_take]; omega
  have hd : l.drop i = [] := List.drop_eq_nil_of_le (by omega)
  refine ⟨l.take i, ?_, by rw [e1, List.take_append_drop], ha, by rw [e1, hd]; intro c r h; exact absurd h (by simp)⟩
  refine Ev.step (fun k => by rw [impl_run__impl_isDigit.l0]) ?_
  rw [stop i (by omega)]
  exact Pl.ev_ite_neg (by omega) (Pl.ev_ite_pos (by omega) (Pl.ev_ite_pos (by omega) (Ev.now _)))
 | succ j ih =>
  intro i hi ha
  have hi' : i < l.length := by omega
  have hb : bt (bs l) (i : Int) = (l[i].toNat : Int) := Pl.bt_l (bs_data l) i hi'
  by_cases hc : Pl.digitB l[i] = true
  ·obtain ⟨D, q1, q2⟩ := ih (i + 1) (by omega) (by rw [List.take_add_one, List.getElem?_eq_getElem hi', List.all_append, ha]; simp [hc])
   refine ⟨D, ?_, q2⟩
   refine Ev.step (fun k => by rw [impl_run__impl_isDigit.l0]) ?_
   rw [hb, isDigit_eq, hc, Pl.wrap_nat (by omega)]
   exact Pl.ev_ite_pos (by omega) (Pl.ev_ite_pos (by omega) (Pl.ev_bind' (Ev.now _) (Pl.ev_ite_pos rfl q1)))
  ·have e1 : (l.take i).length = i := by rw [List.length_take]; omega
   refine ⟨l.take i, ?_, by rw [e1, List.take_append_drop], ha, ?_⟩
   ·refine Ev.step (fun k => by rw [impl_run__impl_isDigit.l0]) ?_
    rw [hb, isDigit_eq, stop i (by omega)]
    exact Pl.ev_ite_pos (by omega) (Pl.ev_ite_pos (by omega) (Pl.ev_bind' (Ev.now _) (Pl.ev_ite_neg hc (Pl.ev_ite_pos (by omega) (Ev.now _)))))
   ·rw [e1, Pl.drop_get hi']
    exact fun c r h => by
     injection h with h1 _
     rw [← h1]
     simpa using hc
theorem run_ev (l : List UInt8) (hl : l.length ≤ 1000) : ∃ D : List UInt8, Ev (fun k => impl_run__impl_isDigit.f k (bs l)) (bs D, bs (l.drop D.length)) ∧ l = D ++ l.drop D.length ∧ D.all Pl.digitB = true ∧ noDig (l.drop D.length) :=
 run_loop l hl l.length 0 (by omega) rfl
theorem digits_any (l : List UInt8) (hl : l.length ≤ 1000) (nd : List Nd) (fl : Bool) : ∃ n l' fl', Ev (fun k => impl_exprReader_digits.f k (bs l) nd fl) (n, bs l', nd, fl') ∧ l'.length ≤ l.length := by
 obtain ⟨D, q1, q2, _, _⟩ := run_ev l hl
 have hD : D.length ≤ l.length := by
  have := congrArg List.length q2
  rw [List.length_append] at this
  omega
 obtain ⟨n, ok, hn⟩ := number_some (bs D) (by rw [bs_size]; omega) 4
 have hne : Ev (fun _ => impl_number.f (bs D) 4) (n, ok) := by rw [hn]; exact Ev.now _
 cases fl with
 | true => exact ⟨n, l.drop D.length, true, Pl.ev_bind' q1 (Pl.ev_bind' hne (Pl.ev_ite_pos rfl (Ev.now _))), by rw [List.length_drop]; omega⟩
 | false => exact ⟨n, l.drop D.length, !ok, Pl.ev_bind' q1 (Pl.ev_bind' hne (Pl.ev_ite_neg (by simp) (Ev.now _))), by rw [List.length_drop]; omega⟩
theorem digits_dec (v : Nat) (hv : v ≤ 9999) (r : List UInt8) (hr : noDig r) (hl : r.length ≤ 900) (nd : List Nd) : Ev (fun k => impl_exprReader_digits.f k (bs (Lib.decDigits v ++ r)) nd false) ((v : Int), bs r, nd, false) := by
 have h4 := decDigits_4 v hv
 obtain ⟨D, q1, q2, q3, q4⟩ := run_ev (Lib.decDigits v ++ r) (by rw [List.length_append]; omega)
 have e := span_is D (Lib.decDigits v) _ r (D.length + 4) q3 (dec_is v).1 q2.symm hr (by omega) (by omega) (fun _ => q4)
 rw [e, List.drop_left] at q1
 have hne : Ev (fun _ => impl_number.f (bs (Lib.decDigits v)) 4) ((v : Int), true) := by rw [number_dec v hv]; exact Ev.now _
 exact Pl.ev_bind' q1 (Pl.ev_bind' hne (Pl.ev_ite_neg (by simp) (Ev.now _)))
theorem now_of {α : Type} {g : Option α} {r : α} (h : g = some r) : Ev (fun _ => g) r := by rw [h]; exact Ev.now _
theorem empty_bs (l : List UInt8) : (bs l).toList.isEmpty = l.isEmpty := by rw [Pl.toList_data, bs_data]
theorem node_fail (x : ByteArray) (nd : List Nd) : Ev (fun k => impl_exprReader_node.f k x nd true) (0, x, nd, true) :=
 Ev.step (fun k => by rw [impl_exprReader_node.f]) (Pl.ev_ite_pos rfl (Ev.step (fun k => by rw [impl_exprReader_node.j0]) (Pl.ev_ite_pos rfl (Ev.now _))))
theorem node_go (c : UInt8) (l : List UInt8) (nd : List Nd) (r : _) (h : Ev (fun k => impl_exprReader_node.j0 k (bs (c :: l)) nd false) r) : Ev (fun k => impl_exprReader_node.f k (bs (c :: l)) nd false) r := by
 refine Ev.step (fun k => by rw [impl_exprReader_node.f]) (Pl.ev_ite_neg (by simp) ?_)
 rw [empty_bs]
 exact h
theorem node_nil (nd : List Nd) : Ev (fun k => impl_exprReader_node.f k (bs []) nd false) (0, bs [], nd, true) := by
 refine Ev.step (fun k => by rw [impl_exprReader_node.f]) (Pl.ev_ite_neg (by simp) ?_)
 rw [empty_bs]
 show Ev (fun k => impl_exprReader_node.j0 k (bs []) nd true) _
 exact Ev.step (fun k => by rw [impl_exprReader_node.j0]) (Pl.ev_ite_pos rfl (Ev.now _))
theorem node_any : ∀ (m : Nat) (l : List UInt8) (nd : List Nd) (fl : Bool), l.length ≤ m → nd.length + l.length ≤ 900 → ∃ pl l' nd' fl', Ev (fun k => impl_exprReader_node.f k (bs l) nd fl) (pl, bs l', nd', fl') ∧ l'.length ≤ l.length ∧ nd'.length + l'.length ≤ nd.length + l.length + 1 := by
 intro m
 induction m with
 | zero =>
  intro l nd fl hm hn
  obtain rfl : l = [] := List.length_eq_zero_iff.1 (by omega)
  cases fl with
  | true => exact ⟨_, _, _, _, node_fail _ nd, by omega, by omega⟩
  | false => exact ⟨_, _, _, _, node_nil nd, by omega, by omega⟩
 | succ m ih =>
  intro l nd fl hm hn
  cases fl with
  | true => exact ⟨_, _, _, _, node_fail _ nd, by omega, by omega⟩
  | false =>
   cases l with
   | nil => exact ⟨_, _, _, _, node_nil nd, by omega, by omega⟩
   | cons c l =>
    have hs : (bs (c :: l)).size = l.length + 1 := by rw [bs_size]; rfl
    have hcl : (c :: l).length = l.length + 1 := rfl
    rw [hcl] at hm hn
    have hb := bs_bt c l
    have go : ∀ r, Ev (fun k => impl_exprReader_node.j0 k (bs (c :: l)) nd false) r → Ev (fun k => impl_exprReader_node.f k (bs (c :: l)) nd false) r := fun r => node_go c l nd r
    by_cases c1 : (c.toNat : Int) = 118
    ·obtain ⟨n, l2, f2, q1, q2⟩ := digits_any l (by omega) nd false
     refine ⟨(nd.length : Int), l2, nd ++ [⟨2, n, 0, 0⟩], f2, ?_, by omega, by simp; omega⟩
     refine go _ (Ev.step (fun k => by rw [impl_exprReader_node.j0]) ?_)
     rw [hb]
     exact Pl.ev_ite_neg (by simp) (Pl.ev_ite_pos (by omega) (Pl.ev_ite_pos c1 (Pl.ev_bind' (now_of (skip_eq c l (by omega) nd 118 c1.symm)) (Pl.ev_bind' q1 (Pl.ev_bind' (now_of (add_eq (bs l2) nd (by omega) f2 2 n 0 0)) (Ev.now _))))))
    ·by_cases c2 : (c.toNat : Int) = 33
     ·obtain ⟨pl1, l2, nd2, f2, q1, q2, q3⟩ := ih l nd false (by omega) (by omega)
      refine ⟨(nd2.length : Int), l2, nd2 ++ [⟨10, 0, pl1, 0⟩], f2, ?_, by omega, by simp; omega⟩
      refine go _ (Ev.step (fun k => by rw [impl_exprReader_node.j0]) ?_)
      rw [hb]
      exact Pl.ev_ite_neg (by simp) (Pl.ev_ite_pos (by omega) (Pl.ev_ite_neg c1 (Pl.ev_ite_pos c2 (Pl.ev_bind' (now_of (skip_eq c l (by omega) nd 33 c2.symm)) (Pl.ev_bind' q1 (Pl.ev_bind' (now_of (add_eq (bs l2) nd2 (by omega) f2 10 0 pl1 0)) (Ev.now _)))))))
     ·by_cases c3 : (c.toNat : Int) = 40
      ·obtain ⟨pl1, l2, nd2, f2, q1, q2, q3⟩ := ih l nd false (by omega) (by omega)
       have start : ∀ r', Ev (fun k => (if f2 = true then (impl_exprReader_node.j1 k pl1 (bs l2) nd2 true) else (impl_exprReader_node.j1 k pl1 (bs l2) nd2 ((bs l2).toList.isEmpty)))) r' → Ev (fun k => impl_exprReader_node.f k (bs (c :: l)) nd false) r' := by
        intro r' h'
        refine go _ (Ev.step (fun k => by rw [impl_exprReader_node.j0]) ?_)
        rw [hb]
        exact Pl.ev_ite_neg (by simp) (Pl.ev_ite_pos (by omega) (Pl.ev_ite_neg c1 (Pl.ev_ite_neg c2 (Pl.ev_ite_pos c3 (Pl.ev_bind' (now_of (skip_eq c l (by omega) nd 40 c3.symm)) (Pl.ev_bind' q1 h'))))))
       have fail : Ev (fun k => impl_exprReader_node.j1 k pl1 (bs l2) nd2 true) (0, bs l2, nd2, true) := Ev.step (fun k => by rw [impl_exprReader_node.j1]) (Pl.ev_ite_pos rfl (Ev.now _))
       cases f2 with
       | true => exact ⟨0, l2, nd2, true, start _ (Pl.ev_ite_pos rfl fail), by omega, by omega⟩
       | false =>
        cases l2 with
        | nil => exact ⟨0, [], nd2, true, start _ (Pl.ev_ite_neg (by simp) (by rw [empty_bs]; exact fail)), by simp, by omega⟩
        | cons d l2 =>
         have hdl : (d :: l2).length = l2.length + 1 := rfl
         rw [hdl] at q2 q3
         have hsd : (bs (d :: l2)).size = l2.length + 1 := by rw [bs_size]; rfl
         obtain ⟨t, ht⟩ : ∃ t, strings_IndexByte.f (⟨#[43, 45, 42, 47, 60, 61, 38]⟩ : ByteArray) (bt (bs (d :: l2)) 0) = some t := ⟨_, rfl⟩
         obtain ⟨pl3, l3, nd3, f3, p1, p2, p3⟩ := ih l2 nd2 (decide (t < 0)) (by omega) (by omega)
         obtain ⟨l4, f4, k1, k2, _⟩ := skip_any l3 nd3 f3 41
         refine ⟨(nd3.length : Int), l4, nd3 ++ [⟨wrap64 (3 + t), 0, pl1, pl3⟩], f4, start _ (Pl.ev_ite_neg (by simp) ?_), by simp; omega, by simp; omega⟩
         rw [empty_bs]
         have hx : (bs (d :: l2)).extract 1 (bs (d :: l2)).size = bs l2 := bs_drop (d :: l2) 1
         refine Ev.step (fun k => by rw [impl_exprReader_node.j1]) ?_
         rw [ht, hx]
         exact Pl.ev_ite_neg (by simp) (Pl.ev_ite_pos (by omega) (Pl.ev_ite_pos (by omega) (Pl.ev_bind' p1 (Pl.ev_bind' (now_of k1) (Pl.ev_bind' (now_of (add_eq (bs l4) nd3 (by omega) f4 (wrap64 (3 + t)) 0 pl1 pl3)) (Ev.now _))))))
      ·obtain ⟨n, l2, f2, q1, q2⟩ := digits_any (c :: l) (by rw [hcl]; omega) nd false
       rw [hcl] at q2
       refine ⟨(nd.length : Int), l2, nd ++ [⟨1, n, 0, 0⟩], f2, ?_, by rw [hcl]; omega, by simp; omega⟩
       refine go _ (Ev.step (fun k => by rw [impl_exprReader_node.j0]) ?_)
       rw [hb]
       exact Pl.ev_ite_neg (by simp) (Pl.ev_ite_pos (by omega) (Pl.ev_ite_neg c1 (Pl.ev_ite_neg c2 (Pl.ev_ite_neg c3 (Pl.ev_bind' q1 (Pl.ev_bind' (now_of (add_eq (bs l2) nd (by omega) f2 1 n 0 0)) (Ev.now _)))))))
theorem dec_head3 (v : Nat) : ∃ c d, Lib.decDigits v = c :: d ∧ 48 ≤ c.toNat ∧ c.toNat ≤ 57 := by
 obtain ⟨h1, _, h3, _⟩ := dec_is v
 cases hd : Lib.decDigits v with
 | nil => exact absurd hd h3
 | cons c d =>
  rw [hd, List.all_cons, Bool.and_eq_true] at h1
  exact ⟨c, d, rfl, dig_in h1.1⟩
theorem noDig_cons3 {c : UInt8} (h : Pl.digitB c = false) (r : List UInt8) : noDig (c :: r) := by
 intro d r' e
 injection e with e1 _
 rw [← e1]
 exact h
theorem index_sign {K : Int} (hK : 3 ≤ K ∧ K ≤ 9) : strings_IndexByte.f (⟨#[43, 45, 42, 47, 60, 61, 38]⟩ : ByteArray) ((signB K).toNat : Int) = some (K - 3) := by
 obtain rfl | rfl | rfl | rfl | rfl | rfl | rfl : K = 3 ∨ K = 4 ∨ K = 5 ∨ K = 6 ∨ K = 7 ∨ K = 8 ∨ K = 9 := by omega
 all_goals first | rfl | decide +kernel
theorem node_tree : ∀ (T : Ex), T.okT → ∀ (r : List UInt8) (nd : List Nd), noDig r → nd.length + T.size ≤ 600 → T.txt.length + r.length ≤ 800 →
  Ev (fun k => impl_exprReader_node.f k (bs (T.txt ++ r)) nd false) (((nd.length + T.size - 1 : Nat) : Int), bs r, nd ++ T.nodes nd.length, false) := by
 intro T
 induction T with
 | con v =>
  intro ht r nd hr hl hs
  obtain ⟨c, d, hc, hc1, hc2⟩ := dec_head3 v
  have hh : Lib.decDigits v ++ r = c :: (d ++ r) := by rw [hc]; rfl
  have q1 := digits_dec v ht r hr (by omega) nd
  have hz : (bs (c :: (d ++ r))).size = (d ++ r).length + 1 := by rw [bs_size]; rfl
  show Ev (fun k => impl_exprReader_node.f k (bs (Lib.decDigits v ++ r)) nd false) _
  rw [hh] at q1 ⊢
  have hsz : (Ex.con v).size = 1 := rfl
  refine node_go c (d ++ r) nd _ (Ev.step (fun k => by rw [impl_exprReader_node.j0]) ?_)
  rw [bs_bt]
  exact Pl.ev_ite_neg (by simp) (Pl.ev_ite_pos (by omega) (Pl.ev_ite_neg (by omega) (Pl.ev_ite_neg (by omega) (Pl.ev_ite_neg (by omega) (Pl.ev_bind' q1 (Pl.ev_bind' (now_of (add_eq (bs r) nd (by omega) false 1 (v : Int) 0 0)) (Ev.now _)))))))
 | var v =>
  intro ht r nd hr hl hs
  have h9 : v ≤ 9 := ht
  have q1 := digits_dec v (by omega) r hr (by omega) nd
  have hz : (bs (118 :: (Lib.decDigits v ++ r))).size = (Lib.decDigits v ++ r).length + 1 := by rw [bs_size]; rfl
  have h4 := decDigits_4 v (by omega)
  show Ev (fun k => impl_exprReader_node.f k (bs (118 :: (Lib.decDigits v ++ r))) nd false) _
  have hsz : (Ex.var v).size = 1 := rfl
  refine node_go 118 (Lib.decDigits v ++ r) nd _ (Ev.step (fun k => by rw [impl_exprReader_node.j0]) ?_)
  rw [bs_bt]
  exact Pl.ev_ite_neg (by simp) (Pl.ev_ite_pos (by omega) (Pl.ev_ite_pos (by decide) (Pl.ev_bind' (now_of (skip_eq 118 _ (by rw [List.length_append]; omega) nd 118 rfl)) (Pl.ev_bind' q1 (Pl.ev_bind' (now_of (add_eq (bs r) nd (by omega) false 2 (v : Int) 0 0)) (Ev.now _))))))
 | nt A ih =>
  intro ht r nd hr hl hs
  have hsz : (Ex.nt A).size = A.size + 1 := rfl
  have htx : (Ex.nt A).txt.length = A.txt.length + 1 := rfl
  have hp := Ex.size_pos A
  have p := ih ht r nd hr (by omega) (by omega)
  have hz : (bs (33 :: (A.txt ++ r))).size = (A.txt ++ r).length + 1 := by rw [bs_size]; rfl
  have el : (nd ++ A.nodes nd.length).length = nd.length + A.size := by rw [List.length_append, Ex.nodes_len]
  have fin : (((nd ++ A.nodes nd.length).length : Int), bs r, (nd ++ A.nodes nd.length) ++ [(⟨10, 0, ((nd.length + A.size - 1 : Nat) : Int), 0⟩ : Nd)], false) = (((nd.length + (Ex.nt A).size - 1 : Nat) : Int), bs r, nd ++ (Ex.nt A).nodes nd.length, false) := by
   have e1 : ((nd.length + A.size : Nat) : Int) = ((nd.length + (Ex.nt A).size - 1 : Nat) : Int) := by omega
   have e2 : (nd ++ A.nodes nd.length) ++ [(⟨10, 0, ((nd.length + A.size - 1 : Nat) : Int), 0⟩ : Nd)] = nd ++ (Ex.nt A).nodes nd.length := by simp [Ex.nodes]
   rw [e2, el, e1]
  rw [← fin]
  show Ev (fun k => impl_exprReader_node.f k (bs (33 :: (A.txt ++ r))) nd false) _
  refine node_go 33 (A.txt ++ r) nd _ (Ev.step (fun k => by rw [impl_exprReader_node.j0]) ?_)
  rw [bs_bt]
  exact Pl.ev_ite_neg (by simp) (Pl.ev_ite_pos (by omega) (Pl.ev_ite_neg (by decide) (Pl.ev_ite_pos (by decide) (Pl.ev_bind' (now_of (skip_eq 33 _ (by rw [List.length_append]; omega) nd 33 rfl)) (Pl.ev_bind' p (Pl.ev_bind' (now_of (add_eq (bs r) (nd ++ A.nodes nd.length) (by omega) false 10 0 ((nd.length + A.size - 1 : Nat) : Int) 0)) (Ev.now _)))))))
 | two K A C ihA ihC =>
  intro ht r nd hr hl hs
  obtain ⟨hK, tA, tC⟩ := ht
  have hsz : (Ex.two K A C).size = A.size + C.size + 1 := rfl
  have htx : (Ex.two K A C).txt.length = A.txt.length + (C.txt.length + 1 + 1) + 1 := by
   show (40 :: (A.txt ++ signB K :: (C.txt ++ [41]))).length = _
   simp
  have hp := Ex.size_pos A
  have hq := Ex.size_pos C
  have hh : (Ex.two K A C).txt ++ r = 40 :: (A.txt ++ (signB K :: (C.txt ++ (41 :: r)))) := by
   show (40 :: (A.txt ++ signB K :: (C.txt ++ [41]))) ++ r = _
   simp
  have lC : (C.txt ++ (41 :: r)).length = C.txt.length + r.length + 1 := by simp; omega
  have lS : (signB K :: (C.txt ++ (41 :: r))).length = C.txt.length + r.length + 2 := by rw [List.length_cons, lC]
  have lA : (A.txt ++ (signB K :: (C.txt ++ (41 :: r)))).length = A.txt.length + C.txt.length + r.length + 2 := by rw [List.length_append, lS]; omega
  have p := ihA tA (signB K :: (C.txt ++ (41 :: r))) nd (noDig_cons3 (signB_dig hK) _) (by omega) (by omega)
  have elA : (nd ++ A.nodes nd.length).length = nd.length + A.size := by rw [List.length_append, Ex.nodes_len]
  have q := ihC tC (41 :: r) (nd ++ A.nodes nd.length) (noDig_cons3 (by decide) r) (by omega) (by rw [List.length_cons]; omega)
  have hz : (bs (40 :: (A.txt ++ (signB K :: (C.txt ++ (41 :: r)))))).size = A.txt.length + C.txt.length + r.length + 3 := by rw [bs_size, List.length_cons, lA]
  have hz2 : (bs (signB K :: (C.txt ++ (41 :: r)))).size = C.txt.length + r.length + 2 := by rw [bs_size, lS]
  have elC : ((nd ++ A.nodes nd.length) ++ C.nodes (nd ++ A.nodes nd.length).length).length = nd.length + A.size + C.size := by rw [List.length_append, Ex.nodes_len, elA]
  have ew : wrap64 (3 + (K - 3)) = K := by rw [Pl.wrap_in (by omega) (by omega)]; omega
  have fin : ((((nd ++ A.nodes nd.length) ++ C.nodes (nd ++ A.nodes nd.length).length).length : Int), bs r, ((nd ++ A.nodes nd.length) ++ C.nodes (nd ++ A.nodes nd.length).length) ++ [(⟨K, 0, ((nd.length + A.size - 1 : Nat) : Int), (((nd ++ A.nodes nd.length).length + C.size - 1 : Nat) : Int)⟩ : Nd)], false) = (((nd.length + (Ex.two K A C).size - 1 : Nat) : Int), bs r, nd ++ (Ex.two K A C).nodes nd.length, false) := by
   have e2 : ((nd.length + A.size + C.size : Nat) : Int) = ((nd.length + (Ex.two K A C).size - 1 : Nat) : Int) := by omega
   have e4 : ((nd ++ A.nodes nd.length) ++ C.nodes (nd ++ A.nodes nd.length).length) ++ [(⟨K, 0, ((nd.length + A.size - 1 : Nat) : Int), (((nd ++ A.nodes nd.length).length + C.size - 1 : Nat) : Int)⟩ : Nd)] = nd ++ (Ex.two K A C).nodes nd.length := by
    rw [elA]
    simp [Ex.nodes]
   rw [e4, elC, e2]
  rw [← fin, hh]
  have hx : (bs (signB K :: (C.txt ++ (41 :: r)))).extract 1 (bs (signB K :: (C.txt ++ (41 :: r)))).size = bs (C.txt ++ (41 :: r)) := bs_drop (signB K :: (C.txt ++ (41 :: r))) 1
  have ef : decide (K - 3 < 0) = false := decide_eq_false (by omega)
  have j1 : Ev (fun k => impl_exprReader_node.j1 k ((nd.length + A.size - 1 : Nat) : Int) (bs (signB K :: (C.txt ++ (41 :: r)))) (nd ++ A.nodes nd.length) false) ((((nd ++ A.nodes nd.length) ++ C.nodes (nd ++ A.nodes nd.length).length).length : Int), bs r, ((nd ++ A.nodes nd.length) ++ C.nodes (nd ++ A.nodes nd.length).length) ++ [(⟨K, 0, ((nd.length + A.size - 1 : Nat) : Int), (((nd ++ A.nodes nd.length).length + C.size - 1 : Nat) : Int)⟩ : Nd)], false) := by
   have P := add_eq (bs r) ((nd ++ A.nodes nd.length) ++ C.nodes (nd ++ A.nodes nd.length).length) (by omega) false K 0 ((nd.length + A.size - 1 : Nat) : Int) (((nd ++ A.nodes nd.length).length + C.size - 1 : Nat) : Int)
   rw [← ew] at P
   have I : Ev (fun _ => strings_IndexByte.f (⟨#[43, 45, 42, 47, 60, 61, 38]⟩ : ByteArray) ((signB K).toNat : Int)) (K - 3) := now_of (index_sign hK)
   have q' : Ev (fun k => impl_exprReader_node.f k (bs (C.txt ++ (41 :: r))) (nd ++ A.nodes nd.length) (decide (K - 3 < 0))) ((((nd ++ A.nodes nd.length).length + C.size - 1 : Nat) : Int), bs (41 :: r), (nd ++ A.nodes nd.length) ++ C.nodes (nd ++ A.nodes nd.length).length, false) := by
    rw [ef]
    exact q
   have S1 := now_of (skip_eq 41 r (by omega) ((nd ++ A.nodes nd.length) ++ C.nodes (nd ++ A.nodes nd.length).length) 41 rfl)
   have Pe := now_of P
   refine Ev.step (fun k => by rw [impl_exprReader_node.j1]) ?_
   rw [bs_bt, hx]
   refine Pl.ev_ite_neg (by simp) (Pl.ev_ite_pos (by omega) (Pl.ev_bind' I (Pl.ev_ite_pos (by omega) (Pl.ev_bind' q' (Pl.ev_bind' S1 (Pl.ev_bind' Pe ?_))))))
   rw [ew]
   exact Ev.now _
  refine node_go 40 (A.txt ++ (signB K :: (C.txt ++ (41 :: r)))) nd _ (Ev.step (fun k => by rw [impl_exprReader_node.j0]) ?_)
  rw [bs_bt]
  refine Pl.ev_ite_neg (by simp) (Pl.ev_ite_pos (by omega) (Pl.ev_ite_neg (by decide) (Pl.ev_ite_neg (by decide) (Pl.ev_ite_pos (by decide) (Pl.ev_bind' (now_of (skip_eq 40 _ (by omega) nd 40 rfl)) (Pl.ev_bind' p (Pl.ev_ite_neg (by simp) ?_)))))))
  have e0 : (bs (signB K :: (C.txt ++ (41 :: r)))).toList.isEmpty = false := by rw [empty_bs]; rfl
  rw [e0]
  exact j1
abbrev NdM := S45
def markN (j : Nat) : NdM := ⟨4 * (j : Int) + 1, 4 * (j : Int) + 2, 4 * (j : Int) + 3, 4 * (j : Int) + 4⟩
def marksN (n : Nat) : List NdM := (List.range n).map markN
theorem marksN_len (n : Nat) : (marksN n).length = n := by simp [marksN]
theorem marksN_at (n i : Nat) (h : i < n) : rd_T45 (marksN n) (i : Int) = markN i := by
 rw [rd_iNode _ i (by rw [marksN_len]; exact h)]
 simp [marksN]
theorem wrap_1 {x : Int} (h0 : 0 ≤ x) (h : x ≤ 100000000) : wrap64 (x + 1) = x + 1 := Pl.wrap_in (by omega) (by omega)
theorem rd_set (l : List NdM) (i : Nat) (h : i < l.length) (x : NdM) : rd_T45 (l.set i x) (i : Int) = x := by
 rw [rd_iNode _ i (by rw [List.length_set]; exact h)]
 simp
theorem markNodes_ev (c : Int) (l : List NdM) (hl : l.length ≤ 1000) : Ev (fun k => laws_markExprResult.f k c l 1) (4 * (l.length : Int) + 1, marksN l.length) := by
 unfold laws_markExprResult.f laws_markNodeS.f
 refine Pl.ev_bind' (a := (4 * (l.length : Int) + 1, marksN l.length)) ?_ (Ev.now _)
 refine Pl.loop (σ := List NdM × Int) (n := l.length) (g := fun k i s => laws_markNodeS.l0 k s.1 s.2 i) (F := fun _ _ => (4 * (l.length : Int) + 1, marksN l.length)) (fun i s => s.1.length = l.length ∧ s.1.take i = marksN i ∧ s.2 = 4 * (i : Int) + 1) ?_ ?_ 0 (l, 1) (Nat.zero_le _) ⟨rfl, by simp [marksN], rfl⟩
 ·rintro ⟨x0, x1⟩ ⟨h1, h2, h3⟩
  simp only at h1 h2 h3 ⊢
  refine Ev.step (fun k => by rw [laws_markNodeS.l0]) ?_
  refine Pl.ev_ite_neg (by omega) ?_
  rw [List.take_of_length_le (by omega)] at h2
  rw [h2, h3]
  exact Ev.now _
 ·rintro i ⟨x0, x1⟩ hi ⟨h1, h2, h3⟩ ih
  simp only at h1 h2 h3 ih ⊢
  have w1 : wrap64 (x1 + 1) = x1 + 1 := wrap_1 (by omega) (by omega)
  have w2 : wrap64 (x1 + 1 + 1) = x1 + 1 + 1 := wrap_1 (by omega) (by omega)
  have w3 : wrap64 (x1 + 1 + 1 + 1) = x1 + 1 + 1 + 1 := wrap_1 (by omega) (by omega)
  have w4 : wrap64 (x1 + 1 + 1 + 1 + 1) = x1 + 1 + 1 + 1 + 1 := wrap_1 (by omega) (by omega)
  refine Ev.step (fun k => by rw [laws_markNodeS.l0]) ?_
  simp only [Option.bind_some, w1, w2, w3, w4, Pl.wrap_nat (show i < 9223372036854775807 by omega), Int.toNat_natCast]
  refine Pl.ev_ite_pos (by omega) (Pl.ev_ite_pos (by omega) ?_)
  have s1 : ∀ x : NdM, rd_T45 (x0.set i x) (i : Int) = x := fun x => rd_set x0 i (by omega) x
  simp only [s1, List.set_set]
  refine ih (x0.set i ⟨x1, x1 + 1, x1 + 1 + 1, x1 + 1 + 1 + 1⟩, x1 + 1 + 1 + 1 + 1) ⟨by simp [h1], ?_, ?_⟩
  ·simp only
   rw [List.take_add_one, List.take_set_of_le (Nat.le_refl _), h2, List.getElem?_set_self (by omega)]
   have em : marksN (i + 1) = marksN i ++ [markN i] := by unfold marksN; rw [List.range_succ, List.map_append]; rfl
   have ex : (⟨x1, x1 + 1, x1 + 1 + 1, x1 + 1 + 1 + 1⟩ : NdM) = markN i := by
    unfold markN
    congr 1 <;> omega
   rw [em, ex]
   rfl
  ·simp only
   omega
theorem heldNodes_ev (c : Int) (n : Nat) (hn : n ≤ 1000) : Ev (fun k => laws_heldExprResult.f k c (marksN n) 1) (4 * (n : Int) + 1) := by
 unfold laws_heldExprResult.f laws_heldNodeS.f
 refine Pl.ev_bind' (a := 4 * (n : Int) + 1) ?_ (Pl.ev_ite_neg (by omega) (Ev.now _))
 refine Pl.loop (σ := Int) (n := n) (g := fun k i s => laws_heldNodeS.l0 k (marksN n) s i) (F := fun _ _ => 4 * (n : Int) + 1) (fun i s => s = 4 * (i : Int) + 1) ?_ ?_ 0 1 (Nat.zero_le _) rfl
 ·intro s hs
  refine Ev.step (fun k => by rw [laws_heldNodeS.l0]) ?_
  rw [marksN_len, hs]
  exact Pl.ev_ite_neg (by omega) (Ev.now _)
 ·intro i s hi hs ih
  have w1 : wrap64 (s + 1) = s + 1 := wrap_1 (by omega) (by omega)
  have w2 : wrap64 (s + 1 + 1) = s + 1 + 1 := wrap_1 (by omega) (by omega)
  have w3 : wrap64 (s + 1 + 1 + 1) = s + 1 + 1 + 1 := wrap_1 (by omega) (by omega)
  have w4 : wrap64 (s + 1 + 1 + 1 + 1) = s + 1 + 1 + 1 + 1 := wrap_1 (by omega) (by omega)
  refine Ev.step (fun k => by rw [laws_heldNodeS.l0]) ?_
  rw [marksN_len, marksN_at n i hi, Pl.wrap_nat (show i < 9223372036854775807 by omega), w1, w2, w3, w4]
  have f0 : (markN i).f0 = s := by show 4 * (i : Int) + 1 = s; omega
  have f1 : (markN i).f1 = s + 1 := by show 4 * (i : Int) + 2 = _; omega
  have f2 : (markN i).f2 = s + 1 + 1 := by show 4 * (i : Int) + 3 = _; omega
  have f3 : (markN i).f3 = s + 1 + 1 + 1 := by show 4 * (i : Int) + 4 = _; omega
  exact Pl.ev_ite_pos (by omega) (Pl.ev_ite_pos (by omega) (Pl.ev_ite_pos f0 (Pl.ev_ite_pos f1 (Pl.ev_ite_pos f2 (Pl.ev_ite_pos f3 (ih _ (by omega)))))))
end Go.Proofs.YtmppibhdnajjjaaDoor.P
