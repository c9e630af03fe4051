/- Plain words on functions with rounds: what a call comes to with rounds enough. No condition. What the program's picks of a code come to. No condition. What the checks of a range come to. No condition. What the laws' own sizes, copies and comparisons of attrs and elements come to. No condition. What the program and the reference say of the parents of elements: the same. No condition. What the program and the reference say of names, as plain functions: both the same. No condition. The code of a tree: the program and the reference say the same. No condition. The places of an element's kids: the program's and the reference's. No condition but what each states. The written form of a text: the reference's loop. No condition but the text's size. The text of a tree: the program's and the reference's. No condition but what each states. -/
import Derived.Test.YthoamjobclfjjaaGreatWMore
import Derived.Lib.Strings
import Derived.Test.YthoamjobclfjjaaGreatR3
import Derived.Test.YthoamjobclfjjaaGreatR1
import Derived.Test.YthoamjobclfjjaaGreatR9
import Derived.Test.YthoamjobclfjjaaGreatRO
import Derived.Test.YthoamjobclfjjaaGreatR5
import Derived.Test.YthoamjobclfjjaaGreatR4
import Derived.Test.YthoamjobclfjjaaGreatR2
import Derived.Test.YthoamjobclfjjaaGreatR7
import Derived.Test.YthoamjobclfjjaaGreatR6
import Derived.Test.YthoamjobclfjjaaGreatR8
import Derived.Test.YthoamjobclfjjaaGreatRH
namespace Go.Proofs.YthoamjobclfjjaaGreat
open Go.RowKit Go.Proofs.YthoamjobclfjjaaGreatW.PrintWords Go.Proofs.YthoamjobclfjjaaGreatW.PrintLast Go.Proofs.YthoamjobclfjjaaGreatW.PrintMore
namespace Pl
variable {α β σ : Type}
theorem ev_iff_congr {g f : Nat → Option α} {r : α} (h : ∃ K, ∀ k, K ≤ k → g k = f k) : Ev g r ↔ Ev f r := by
 obtain ⟨K, h⟩ := h
 constructor
 ·rintro ⟨K', h'⟩
  exact ⟨max K K', fun k hk => by rw [← h k (by omega)]; exact h' k (by omega)⟩
 ·rintro ⟨K', h'⟩
  exact ⟨max K K', fun k hk => by rw [h k (by omega)]; exact h' k (by omega)⟩
theorem ev_some {x r : α} : Ev (fun _ => some x) r ↔ x = r := by
 constructor
 ·rintro ⟨K, h⟩
  exact Option.some.inj (h K (Nat.le_refl _))
 ·rintro rfl
  exact Ev.now _
theorem ev_none {r : α} : Ev (fun _ => none) r ↔ False := by
 constructor
 ·rintro ⟨K, h⟩
  exact absurd (h K (Nat.le_refl _)) (by simp)
 ·exact False.elim
theorem ev_ite {c : Prop} [Decidable c] {a b : Nat → Option α} {r : α} : Ev (fun k => if c then a k else b k) r ↔ if c then Ev a r else Ev b r := by
 by_cases h : c
 ·simp only [if_pos h]
 ·simp only [if_neg h]
theorem ev_bind {g : Nat → Option α} {f : Nat → α → Option β} {a : α} {r : β} (h : Ev g a) : Ev (fun k => (g k).bind (f k)) r ↔ Ev (fun k => f k a) r := by
 obtain ⟨K, h⟩ := h
 exact ev_iff_congr ⟨K, fun k hk => by rw [h k hk, Option.bind_some]⟩
theorem ev_bind' {g : Nat → Option α} {f : Nat → α → Option β} {a : α} {r : β} (h : Ev g a) (hf : Ev (fun k => f k a) r) : Ev (fun k => (g k).bind (f k)) r := (ev_bind h).2 hf
theorem ev_ite_pos {c : Prop} [Decidable c] {a b : Nat → Option α} {r : α} (hc : c) (h : Ev a r) : Ev (fun k => if c then a k else b k) r := by
 simp only [if_pos hc]; exact h
theorem ev_ite_neg {c : Prop} [Decidable c] {a b : Nat → Option α} {r : α} (hc : ¬ c) (h : Ev b r) : Ev (fun k => if c then a k else b k) r := by
 simp only [if_neg hc]; exact h
theorem ev_unique {g : Nat → Option α} {r s : α} (h : Ev g r) (h' : Ev g s) : r = s := by
 obtain ⟨K, h⟩ := h
 obtain ⟨K', h'⟩ := h'
 have h1 := h (max K K') (by omega)
 have h2 := h' (max K K') (by omega)
 rw [h1] at h2
 exact Option.some.inj h2
theorem ev_to {g : Nat → Option α} {r s : α} (h : Ev g r) (e : r = s) : Ev g s := e ▸ h
theorem loop {n : Nat} {g : Nat → Int → σ → Option β} {F : Nat → σ → β} (I : Nat → σ → Prop)
  (hend : ∀ s, I n s → Ev (fun k => g k (n : Int) s) (F n s))
  (hstep : ∀ i s, i < n → I i s → (∀ s', I (i + 1) s' → Ev (fun k => g k ((i : Int) + 1) s') (F (i + 1) s')) → Ev (fun k => g k (i : Int) s) (F i s)) :
  ∀ i s, i ≤ n → I i s → Ev (fun k => g k (i : Int) s) (F i s) := by
 intro i s hi
 obtain ⟨d, hd⟩ : ∃ d, n - i = d := ⟨_, rfl⟩
 induction d generalizing i s with
 | zero =>
  intro hI
  obtain rfl : i = n := by omega
  exact hend s hI
 | succ d ih =>
  intro hI
  refine hstep i s (by omega) hI (fun s' hI' => ?_)
  have := ih (i + 1) s' (by omega) (by omega) hI'
  simpa using this
theorem loop0 {n : Nat} {g : Nat → Int → Option β} {F : Nat → β}
  (hend : Ev (fun k => g k (n : Int)) (F n))
  (hstep : ∀ i, i < n → Ev (fun k => g k ((i : Int) + 1)) (F (i + 1)) → Ev (fun k => g k (i : Int)) (F i)) :
  ∀ i, i ≤ n → Ev (fun k => g k (i : Int)) (F i) := fun i hi =>
 loop (σ := Unit) (g := fun k i _ => g k i) (F := fun i _ => F i) (fun _ _ => True) (fun _ _ => hend) (fun i _ h _ hs => hstep i h (hs () trivial)) i () hi trivial
theorem wrap_nat {i : Nat} (h : i < 9223372036854775807) : wrap64 ((i : Int) + 1) = (i : Int) + 1 := by unfold wrap64; omega
theorem wrap_in {x : Int} (h : -9223372036854775808 ≤ x) (h' : x ≤ 9223372036854775807) : wrap64 x = x := by unfold wrap64; omega
theorem wf_i64 {x : Int} (h : (Lit.int .i64 x).wf = true) : -9223372036854775808 ≤ x ∧ x ≤ 9223372036854775807 := by
 simp [Lit.wf, IntKind.min, IntKind.max, IntKind.signed, IntKind.bits] at h
 omega
/-! bytes -/
theorem bt_get (s : ByteArray) (i : Nat) (h : i < s.size) : bt s (i : Int) = ((s.data.toList[i]'(by simpa using h)).toNat : Int) := by
 unfold bt
 rw [dif_pos (by simpa using h)]
 simp [ByteArray.getElem_eq_getElem_data]
theorem drop_get {l : List α} {i : Nat} (h : i < l.length) : l.drop i = l[i] :: l.drop (i + 1) := List.drop_eq_getElem_cons h
theorem size_toList (s : ByteArray) : s.data.toList.length = s.size := by simp
theorem toList_data (s : ByteArray) : s.toList = s.data.toList := ByteArray.toList_eq s
theorem bt_l {s : ByteArray} {l : List UInt8} (hl : s.data.toList = l) (i : Nat) (h : i < l.length) : bt s (i : Int) = (l[i].toNat : Int) := by
 subst hl
 exact bt_get s i (by simpa using h)
theorem size_l {s : ByteArray} {l : List UInt8} (hl : s.data.toList = l) : s.size = l.length := by subst hl; simp
theorem toList_l {s : ByteArray} {l : List UInt8} (hl : s.data.toList = l) : s.toList = l := by rw [toList_data, hl]
theorem drop_end {l : List α} : l.drop l.length = [] := List.drop_length
def smallB (c : UInt8) : Bool := decide (97 ≤ c.toNat ∧ c.toNat ≤ 122)
def printB (c : UInt8) : Bool := decide (32 ≤ c.toNat ∧ c.toNat ≤ 126)
def digitB (c : UInt8) : Bool := decide (48 ≤ c.toNat ∧ c.toNat ≤ 57)
def blankB (c : UInt8) : Bool := decide (c.toNat = 32 ∨ c.toNat = 10)
def nameC (l : List UInt8) : Int := if l = [] then 5 else if l.all smallB = true then (if l.length > 8 then 2 else 0) else 5
def valueC (l : List UInt8) : Int := if l.length > 40 then 2 else if l.all printB = true then 0 else 5
theorem rd_get (l : List Int) (i : Nat) (h : i < l.length) : rd l (i : Int) = l[i] := by
 unfold rd
 simp [List.getD_eq_getElem?_getD, List.getElem?_eq_getElem h]
theorem getD_get {l : List α} {z : α} {i : Nat} (h : i < l.length) : l.getD ((i : Int)).toNat z = l[i] := by
 simp [List.getD_eq_getElem?_getD, List.getElem?_eq_getElem h]
theorem fill {l : List α} {f : α → β} {z : β} {g : Nat → Int → List β → Option (List β)}
  (hend : ∀ acc, acc.length = l.length → Ev (fun k => g k (l.length : Int) acc) acc)
  (hstep : ∀ i (hi : i < l.length) acc, acc.length = l.length → Ev (fun k => g k ((i : Int) + 1) (acc.set i (f l[i]))) (l.map f) → Ev (fun k => g k (i : Int) acc) (l.map f)) :
  Ev (fun k => g k 0 (List.replicate l.length z)) (l.map f) := by
 have h := loop (n := l.length) (g := g) (F := fun _ _ => l.map f) (fun i acc => acc.length = l.length ∧ acc.take i = (l.map f).take i)
  (fun acc hI => ?_) (fun i acc hi hI hs => hstep i hi acc hI.1 (hs _ ⟨by simp [hI.1], ?_⟩)) 0 (List.replicate l.length z) (Nat.zero_le _) ⟨by simp, by simp⟩
 ·simpa using h
 ·have e : acc = l.map f := by
   have h1 := hI.2
   rw [List.take_of_length_le (by rw [hI.1]; exact Nat.le_refl _), List.take_of_length_le (by simp)] at h1
   exact h1
  have := hend acc hI.1
  rwa [e] at this ⊢
 ·have h1 : i < (l.map f).length := by simpa using hi
  obtain ⟨hI1, hI2⟩ := hI
  apply List.ext_getElem?
  intro j
  have hj := congrArg (fun z => z[j]?) hI2
  simp only [List.getElem?_take] at hj ⊢
  by_cases h2 : j < i
  ·rw [if_pos h2, if_pos h2] at hj
   rw [if_pos (by omega), if_pos (by omega), List.getElem?_set_ne (by omega), hj]
  ·by_cases h3 : j = i
   ·subst h3
    rw [if_pos (by omega), if_pos (by omega), List.getElem?_set_self (by omega), List.getElem?_eq_getElem h1]
    simp
   ·rw [if_neg (by omega), if_neg (by omega)]
theorem left {l : List α} {B : α → Prop} {g : Nat → Int → Int → Option Int}
  (hend : ∀ x, Ev (fun k => g k (l.length : Int) x) x)
  (hstep : ∀ i (hi : i < l.length) x, 0 ≤ x → x ≤ 1048576 → ∃ r, -1 ≤ r ∧ r ≤ x ∧ (0 ≤ r → B l[i]) ∧ (r < 0 → Ev (fun k => g k (i : Int) x) (-1)) ∧ (0 ≤ r → ∀ R, Ev (fun k => g k ((i : Int) + 1) r) R → Ev (fun k => g k (i : Int) x) R)) :
  ∀ x, 0 ≤ x → x ≤ 1048576 → ∃ r, -1 ≤ r ∧ r ≤ x ∧ (0 ≤ r → ∀ y ∈ l, B y) ∧ Ev (fun k => g k 0 x) r := by
 have main : ∀ d i x, i ≤ l.length → l.length - i = d → 0 ≤ x → x ≤ 1048576 → ∃ r, -1 ≤ r ∧ r ≤ x ∧ (0 ≤ r → ∀ y ∈ l.drop i, B y) ∧ Ev (fun k => g k (i : Int) x) r := by
  intro d
  induction d with
  | zero =>
   intro i x hi hd h0 h1
   obtain rfl : i = l.length := by omega
   exact ⟨x, by omega, Int.le_refl _, by simp, hend x⟩
  | succ d ih =>
   intro i x hi hd h0 h1
   have hi' : i < l.length := by omega
   obtain ⟨r, hr0, hr1, hB, hneg, hpos⟩ := hstep i hi' x h0 h1
   by_cases h : 0 ≤ r
   ·obtain ⟨q, hq0, hq1, hqB, hq⟩ := ih (i + 1) r (by omega) (by omega) h (by omega)
    refine ⟨q, hq0, by omega, fun h2 => ?_, hpos h q (by simpa using hq)⟩
    rw [drop_get hi']
    intro y hy
    rcases List.mem_cons.1 hy with rfl | hy
    ·exact hB h
    ·exact hqB h2 y hy
   ·exact ⟨-1, by omega, by omega, by omega, hneg (by omega)⟩
 intro x h0 h1
 obtain ⟨r, a, b, c, d⟩ := main _ 0 x (Nat.zero_le _) rfl h0 h1
 exact ⟨r, a, b, by simpa using c, by simpa using d⟩
def firstC : List Int → Int
 | [] => 0
 | c :: l => if c = 0 then firstC l else c
end Pl
end Go.Proofs.YthoamjobclfjjaaGreat
namespace Go.Proofs.YthoamjobclfjjaaGreat.R
set_option linter.unusedVariables false
set_option linter.unusedSimpArgs false
open Go.RowKit Go.Proofs.YthoamjobclfjjaaGreat Go.Proofs.YthoamjobclfjjaaGreatW.PrintWords Go.Proofs.YthoamjobclfjjaaGreatW.PrintLast
theorem codeIf_eq (b : Bool) (c : Int) : impl_codeIf.f b c = some (if b = true then c else 0) := by
 unfold impl_codeIf.f
 cases b <;> rfl
theorem firstCode_l (l : List Int) (hl : l.length < 1000) : ∀ i, i ≤ l.length → Ev (fun k => impl_firstCode.l0 k l (l.length : Int) (i : Int)) (Pl.firstC (l.drop i)) := by
 refine Pl.loop0 (g := fun k i => impl_firstCode.l0 k l (l.length : Int) i) ?_ ?_
 ·refine Ev.step (fun k => by rw [impl_firstCode.l0]) ?_
  simp [Pl.ev_some, Pl.firstC]
 ·intro i hi ih
  refine Ev.step (fun k => by rw [impl_firstCode.l0]) ?_
  rw [Pl.drop_get hi]
  have e := Pl.rd_get l i hi
  simp only [Pl.ev_ite, Pl.ev_some, Pl.ev_none, Pl.firstC, e, Pl.wrap_nat (show i < 9223372036854775807 by omega)]
  rw [if_pos (by omega), if_pos (by omega), if_pos (by omega)]
  split
  ·exact ih
  ·rfl
theorem firstCode_ev (l : List Int) (hl : l.length < 1000) : Ev (fun k => impl_firstCode.f k l) (Pl.firstC l) := firstCode_l l hl 0 (Nat.zero_le _)
theorem l1In_eq (a lo hi : Int) : spec_l1In.f a lo hi = some (decide (lo ≤ a ∧ a ≤ hi)) := by
 unfold spec_l1In.f
 by_cases h : a ≥ lo
 ·rw [if_pos h]; congr 1; rw [decide_eq_decide]; omega
 ·rw [if_neg h]; congr 1; rw [eq_comm, decide_eq_false_iff_not]; omega
theorem inRange_eq (a lo hi : Int) : impl_inRange.f a lo hi = some (decide (lo ≤ a ∧ a ≤ hi)) := by
 unfold impl_inRange.f
 by_cases h : lo ≤ a
 ·rw [if_pos h]; congr 1; rw [decide_eq_decide]; omega
 ·rw [if_neg h]; congr 1; rw [eq_comm, decide_eq_false_iff_not]; omega
theorem rd_lAttr (l : List S65) (i : Nat) (h : i < l.length) : rd_T65 l (i : Int) = l[i] := Pl.getD_get h
theorem rd_iAttr (l : List S51) (i : Nat) (h : i < l.length) : rd_T51 l (i : Int) = l[i] := Pl.getD_get h
theorem rd_lElem (l : List S35) (i : Nat) (h : i < l.length) : rd_T35 l (i : Int) = l[i] := Pl.getD_get h
theorem rd_iElem (l : List S40) (i : Nat) (h : i < l.length) : rd_T40 l (i : Int) = l[i] := Pl.getD_get h
def toAttr (x : S65) : S51 := ⟨x.f0, x.f1⟩
def toElem (x : S35) : S40 := ⟨x.f0, x.f1, x.f2.map toAttr⟩
def bAttr (x : S65) : Prop := x.f0.size ≤ 1048576 ∧ x.f1.size ≤ 1048576
def bElem (x : S35) : Prop := x.f0.size ≤ 1048576 ∧ x.f2.length ≤ 1048576 ∧ ∀ y ∈ x.f2, bAttr y
theorem szAttr_ev (a : S65) (hw : wf65 a) (x : Int) (h0 : 0 ≤ x) (h1 : x ≤ 1048576) : ∃ r, -1 ≤ r ∧ r ≤ x ∧ (0 ≤ r → bAttr a) ∧ laws_szAttr.f a.f0 a.f1 x = some r := by
 obtain ⟨w0, w1⟩ := hw
 have e : wrap64 (x - (a.f0.size : Int)) = x - (a.f0.size : Int) := Pl.wrap_in (by omega) (by omega)
 unfold laws_szAttr.f
 rw [e]
 by_cases h : x - (a.f0.size : Int) < 0
 ·rw [if_pos h]
  exact ⟨-1, by omega, by omega, by omega, rfl⟩
 ·rw [if_neg h]
  have e2 : wrap64 (x - (a.f0.size : Int) - (a.f1.size : Int)) = x - (a.f0.size : Int) - (a.f1.size : Int) := Pl.wrap_in (by omega) (by omega)
  rw [e2]
  by_cases h2 : x - (a.f0.size : Int) - (a.f1.size : Int) < 0
  ·rw [if_pos h2]
   exact ⟨-1, by omega, by omega, by omega, rfl⟩
  ·rw [if_neg h2]
   exact ⟨_, by omega, by omega, fun _ => ⟨by omega, by omega⟩, rfl⟩
theorem szAttrS_ev (l : List S65) (hl : l.length ≤ 9223372036854775807) (hw : ∀ y ∈ l, wf65 y) (x : Int) (h0 : 0 ≤ x) (h1 : x ≤ 1048576) : ∃ r, -1 ≤ r ∧ r ≤ x ∧ (0 ≤ r → l.length ≤ 1048576 ∧ ∀ y ∈ l, bAttr y) ∧ Ev (fun k => laws_szAttrS.f k l x) r := by
 have e : wrap64 (x - (l.length : Int)) = x - (l.length : Int) := Pl.wrap_in (by omega) (by omega)
 unfold laws_szAttrS.f
 rw [e]
 by_cases h : x - (l.length : Int) < 0
 ·simp only [if_pos h]
  exact ⟨-1, by omega, by omega, by omega, Ev.now _⟩
 ·simp only [if_neg h]
  obtain ⟨r, a, b, c, d⟩ := Pl.left (l := l) (B := bAttr) (g := fun k i x => laws_szAttrS.l0 k l x i) (fun x => by
   refine Ev.step (fun k => by rw [laws_szAttrS.l0]) ?_
   simp [Pl.ev_some]) (fun i hi x h0 h1 => by
   obtain ⟨r, a, b, c, d⟩ := szAttr_ev l[i] (hw _ (List.getElem_mem hi)) x h0 h1
   refine ⟨r, a, b, c, fun hr => ?_, fun hr R hR => ?_⟩
   ·refine Ev.step (fun k => by rw [laws_szAttrS.l0]) ?_
    simp only [Pl.ev_ite, rd_lAttr l i hi, d, Option.bind_some, if_pos hr]
    rw [if_pos (by omega), if_pos (by omega)]
    exact Ev.now _
   ·refine Ev.step (fun k => by rw [laws_szAttrS.l0]) ?_
    simp only [Pl.ev_ite, rd_lAttr l i hi, d, Option.bind_some, if_neg (show ¬ r < 0 by omega), Pl.wrap_nat (show i < 9223372036854775807 by omega)]
    rw [if_pos (by omega), if_pos (by omega)]
    exact hR) (x - (l.length : Int)) (by omega) (by omega)
  exact ⟨r, a, by omega, fun hr => ⟨by omega, c hr⟩, d⟩
theorem szElem_ev (a : S35) (hw : wf35 a) (x : Int) (h0 : 0 ≤ x) (h1 : x ≤ 1048576) : ∃ r, -1 ≤ r ∧ r ≤ x ∧ (0 ≤ r → bElem a) ∧ Ev (fun k => laws_szElem.f k a.f0 a.f1 a.f2 x) r := by
 obtain ⟨w0, w1, w2, w3⟩ := hw
 have e : wrap64 (x - (a.f0.size : Int)) = x - (a.f0.size : Int) := Pl.wrap_in (by omega) (by omega)
 unfold laws_szElem.f
 rw [e]
 by_cases h : x - (a.f0.size : Int) < 0
 ·simp only [if_pos h]
  exact ⟨-1, by omega, by omega, by omega, Ev.now _⟩
 ·simp only [if_neg h]
  obtain ⟨r, p, q, c, d⟩ := szAttrS_ev a.f2 w2 w3 (x - (a.f0.size : Int)) (by omega) (by omega)
  by_cases hr : r < 0
  ·exact ⟨-1, by omega, by omega, by omega, Pl.ev_bind' d (by rw [if_pos hr]; exact Ev.now _)⟩
  ·exact ⟨r, p, by omega, fun _ => ⟨by omega, (c (by omega)).1, (c (by omega)).2⟩, Pl.ev_bind' d (by rw [if_neg hr]; exact Ev.now _)⟩
theorem szElemS_ev (l : List S35) (hl : l.length ≤ 9223372036854775807) (hw : ∀ y ∈ l, wf35 y) (x : Int) (h0 : 0 ≤ x) (h1 : x ≤ 1048576) : ∃ r, -1 ≤ r ∧ r ≤ x ∧ (0 ≤ r → l.length ≤ 1048576 ∧ ∀ y ∈ l, bElem y) ∧ Ev (fun k => laws_szElemS.f k l x) r := by
 have e : wrap64 (x - (l.length : Int)) = x - (l.length : Int) := Pl.wrap_in (by omega) (by omega)
 unfold laws_szElemS.f
 rw [e]
 by_cases h : x - (l.length : Int) < 0
 ·simp only [if_pos h]
  exact ⟨-1, by omega, by omega, by omega, Ev.now _⟩
 ·simp only [if_neg h]
  obtain ⟨r, a, b, c, d⟩ := Pl.left (l := l) (B := bElem) (g := fun k i x => laws_szElemS.l0 k l x i) (fun x => by
   refine Ev.step (fun k => by rw [laws_szElemS.l0]) ?_
   simp [Pl.ev_some]) (fun i hi x h0 h1 => by
   obtain ⟨r, a, b, c, d⟩ := szElem_ev l[i] (hw _ (List.getElem_mem hi)) x h0 h1
   refine ⟨r, a, b, c, fun hr => ?_, fun hr R hR => ?_⟩
   ·refine Ev.step (fun k => by rw [laws_szElemS.l0]) ?_
    simp only [Pl.ev_ite, rd_lElem l i hi]
    rw [if_pos (by omega), if_pos (by omega)]
    exact Pl.ev_bind' d (by simp only [if_pos hr]; exact Ev.now _)
   ·refine Ev.step (fun k => by rw [laws_szElemS.l0]) ?_
    simp only [Pl.ev_ite, rd_lElem l i hi, Pl.wrap_nat (show i < 9223372036854775807 by omega)]
    rw [if_pos (by omega), if_pos (by omega)]
    exact Pl.ev_bind' d (by simp only [if_neg (show ¬ r < 0 by omega)]; exact hR)) (x - (l.length : Int)) (by omega) (by omega)
  exact ⟨r, a, by omega, fun hr => ⟨by omega, c hr⟩, d⟩
theorem toAttrS_ev (l : List S65) (hl : l.length ≤ 1048576) : Ev (fun k => laws_toAttrS.f k l) (l.map toAttr) := by
 unfold laws_toAttrS.f
 simp only [Pl.ev_ite]
 rw [if_pos (by omega), if_pos (by simp; omega)]
 rw [show ((l.length : Int) : Int).toNat = l.length from by omega]
 refine Pl.fill (g := fun k i acc => laws_toAttrS.l0 k l acc i) (fun acc _ => ?_) (fun i hi acc ha ih => ?_)
 ·refine Ev.step (fun k => by rw [laws_toAttrS.l0]) ?_
  simp [Pl.ev_some]
 ·refine Ev.step (fun k => by rw [laws_toAttrS.l0]) ?_
  simp only [Pl.ev_ite, Pl.ev_some, Pl.ev_none, laws_toAttr.f, Option.bind_some, rd_lAttr l i hi, Pl.wrap_nat (show i < 9223372036854775807 by omega), Int.toNat_natCast]
  rw [if_pos (by omega), if_pos (by omega), if_pos (by omega)]
  exact ih
theorem toElemS_ev (l : List S35) (hl : l.length ≤ 1048576) (hb : ∀ y ∈ l, bElem y) : Ev (fun k => laws_toElemS.f k l) (l.map toElem) := by
 unfold laws_toElemS.f
 simp only [Pl.ev_ite]
 rw [if_pos (by omega), if_pos (by simp; omega)]
 rw [show ((l.length : Int) : Int).toNat = l.length from by omega]
 refine Pl.fill (g := fun k i acc => laws_toElemS.l0 k l acc i) (fun acc _ => ?_) (fun i hi acc ha ih => ?_)
 ·refine Ev.step (fun k => by rw [laws_toElemS.l0]) ?_
  simp [Pl.ev_some]
 ·refine Ev.step (fun k => by rw [laws_toElemS.l0]) ?_
  simp only [Pl.ev_ite, Pl.ev_some, Pl.ev_none, rd_lElem l i hi, Pl.wrap_nat (show i < 9223372036854775807 by omega), Int.toNat_natCast]
  rw [if_pos (by omega), if_pos (by omega)]
  refine Pl.ev_bind' (a := (l[i].f0, l[i].f1, l[i].f2.map toAttr)) (Pl.ev_bind' (toAttrS_ev l[i].f2 (hb _ (List.getElem_mem hi)).2.1) (Ev.now _)) ?_
  simp only [Pl.ev_ite]
  rw [if_pos (by omega)]
  exact ih
theorem eqAttrS_ev (l : List S51) (hl : l.length ≤ 1048576) : Ev (fun k => laws_eqAttrS.f k l l) true := by
 unfold laws_eqAttrS.f
 simp only [if_true]
 refine Pl.loop0 (n := l.length) (g := fun k i => laws_eqAttrS.l0 k l l i) (F := fun _ => true) ?_ (fun i hi ih => ?_) 0 (Nat.zero_le _)
 ·refine Ev.step (fun k => by rw [laws_eqAttrS.l0]) ?_
  simp [Pl.ev_some]
 ·refine Ev.step (fun k => by rw [laws_eqAttrS.l0]) ?_
  simp only [Pl.ev_ite, Pl.ev_some, Pl.ev_none, laws_eqAttr.f, if_true, Option.bind_some, Pl.wrap_nat (show i < 9223372036854775807 by omega)]
  rw [if_pos (by omega), if_pos (by omega), if_pos (by omega)]
  exact ih
theorem eqElemS_ev (l : List S40) (hl : l.length ≤ 1048576) (hb : ∀ y ∈ l, y.f2.length ≤ 1048576) : Ev (fun k => laws_eqElemS.f k l l) true := by
 unfold laws_eqElemS.f
 simp only [if_true]
 refine Pl.loop0 (n := l.length) (g := fun k i => laws_eqElemS.l0 k l l i) (F := fun _ => true) ?_ (fun i hi ih => ?_) 0 (Nat.zero_le _)
 ·refine Ev.step (fun k => by rw [laws_eqElemS.l0]) ?_
  simp [Pl.ev_some]
 ·refine Ev.step (fun k => by rw [laws_eqElemS.l0]) ?_
  simp only [Pl.ev_ite, Pl.ev_some, Pl.ev_none, laws_eqElem.f, if_true, rd_iElem l i hi, Pl.wrap_nat (show i < 9223372036854775807 by omega)]
  rw [if_pos (by omega), if_pos (by omega), if_pos (by omega)]
  refine Pl.ev_bind' (a := true) (Pl.ev_bind' (eqAttrS_ev l[i].f2 (hb _ (List.getElem_mem hi))) (by simp [Pl.ev_some])) ?_
  simp only [if_true]
  exact ih
abbrev StE := S40
abbrev prE (p : List StE) (j : Int) : Int := (rd_T40 p j).f1
/-! parents and depths -/
def treeOkE (p : List StE) (n : Nat) : Prop := ∀ j : Nat, j < n → (j = 0 → prE p j = -1) ∧ (0 < j → 0 ≤ prE p j ∧ prE p j ≤ (j : Int) - 1)
theorem treeOk_ltE {p : List StE} {n : Nat} (h : treeOkE p n) {at' : Int} (h0 : 0 ≤ at') (h1 : at' < n) : -1 ≤ prE p at' ∧ prE p at' < at' := by
 obtain ⟨j, rfl⟩ := Int.eq_ofNat_of_zero_le h0
 obtain ⟨a, b⟩ := h j (by omega)
 by_cases hj : j = 0
 ·have := a hj; omega
 ·have := b (by omega); omega
def deepFE (p : List StE) : Nat → Int → Int
 | 0, _ => 0
 | f + 1, at' => if at' < 0 then 0 else deepFE p f (prE p at') + 1
def deepE (p : List StE) (at' : Int) : Int := deepFE p (at'.toNat + 1) at'
theorem deepF_moreE {p : List StE} {n : Nat} (h : treeOkE p n) : ∀ (f g : Nat) (at' : Int), -1 ≤ at' → at' < n → at' < f → at' < g → deepFE p f at' = deepFE p g at'
 | 0, 0, _, _, _, _, _ => rfl
 | 0, g + 1, at', h0, _, hf, _ => by rw [deepFE, deepFE, if_pos (by omega)]
 | f + 1, 0, at', h0, _, _, hg => by rw [deepFE, deepFE, if_pos (by omega)]
 | f + 1, g + 1, at', h0, h1, hf, hg => by
  rw [deepFE, deepFE]
  by_cases hn : at' < 0
  ·rw [if_pos hn, if_pos hn]
  ·rw [if_neg hn, if_neg hn]
   obtain ⟨a, b⟩ := treeOk_ltE h (by omega) h1
   rw [deepF_moreE h f g _ a (by omega) (by omega) (by omega)]
theorem deep_negE (p : List StE) : deepE p (-1) = 0 := rfl
theorem deep_atE {p : List StE} {n : Nat} (h : treeOkE p n) {i : Int} (h0 : 0 ≤ i) (hp : -1 ≤ prE p i ∧ prE p i < i) (hn : i ≤ n) : deepE p i = deepE p (prE p i) + 1 := by
 unfold deepE
 rw [deepFE, if_neg (by omega), deepF_moreE h i.toNat ((prE p i).toNat + 1) _ hp.1 (by omega) (by omega) (by omega)]
theorem deep_leE {p : List StE} {n : Nat} (h : treeOkE p n) : ∀ (m : Nat) (at' : Int), at'.toNat + 1 = m → -1 ≤ at' → at' < n → 0 ≤ deepE p at' ∧ deepE p at' ≤ at' + 1 := by
 intro m
 induction m using Nat.strongRecOn with
 | _ m ih =>
  intro at' hm h0 h1
  by_cases hn : at' < 0
  ·obtain rfl : at' = -1 := by omega
   rw [deep_negE]; omega
  ·obtain ⟨a, b⟩ := treeOk_ltE h (by omega) h1
   rw [deep_atE h (by omega) ⟨a, b⟩ (by omega)]
   by_cases h2 : prE p at' < 0
   ·obtain h3 : prE p at' = -1 := by omega
    rw [h3, deep_negE]; omega
   ·have := ih ((prE p at').toNat + 1) (by omega) _ rfl a (by omega)
    omega
theorem specDeep_evE {p : List StE} {n : Nat} (h : treeOkE p n) (hn : n ≤ p.length) (h24 : n ≤ 40) : ∀ (m : Nat) (at' : Int), at'.toNat + 1 = m → -1 ≤ at' → at' < n → ∀ c, 0 ≤ c → c + deepE p at' ≤ 50 → Ev (fun k => spec_l2Deep.l0 k p at' c) (c + deepE p at') := by
 intro m
 induction m using Nat.strongRecOn with
 | _ m ih =>
  intro at' hm h0 h1 c hc hd
  have hle := deep_leE h _ at' rfl h0 h1
  refine Ev.step (fun k => by rw [spec_l2Deep.l0]) ?_
  simp only [Pl.ev_ite, Pl.ev_none, Pl.ev_some]
  by_cases hn' : at' < 0
  ·obtain rfl : at' = -1 := by omega
   rw [if_neg (by omega), deep_negE]; omega
  ·obtain ⟨a, b⟩ := treeOk_ltE h (by omega) h1
   have e := deep_atE h (by omega) ⟨a, b⟩ (by omega)
   have hle2 := deep_leE h _ (prE p at') rfl a (by omega)
   rw [if_pos (by omega), if_pos (by omega), if_pos (by omega), if_pos (by omega), Pl.wrap_in (by omega) (by omega), e, show c + (deepE p (prE p at') + 1) = c + 1 + deepE p (prE p at') from by omega]
   by_cases h2 : prE p at' < 0
   ·refine Ev.step (fun k => by rw [spec_l2Deep.l0]) ?_
    simp only [Pl.ev_ite, Pl.ev_none, Pl.ev_some]
    have h3 : prE p at' = -1 := by omega
    have h4 : (rd_T40 p at').f1 = -1 := h3
    have h5 : deepE p (prE p at') = 0 := by rw [h3, deep_negE]
    rw [h4, h5]
    simp
   ·exact ih ((prE p at').toNat + 1) (by omega) _ rfl a (by omega) (c + 1) (by omega) (by omega)
def plE (p : List StE) (i : Nat) : List Int := (List.range i).map fun (j : Nat) => prE p (j : Int)
def dlE (p : List StE) (i : Nat) : List Int := (List.range i).map fun (j : Nat) => deepE p (j : Int)
theorem pl_lenE (p : List StE) (i : Nat) : (plE p i).length = i := by simp [plE]
theorem dl_lenE (p : List StE) (i : Nat) : (dlE p i).length = i := by simp [dlE]
theorem pl_rdE (p : List StE) (i : Nat) (j : Int) (h0 : 0 ≤ j) (h : j < i) : rd (plE p i) j = prE p j := by
 obtain ⟨j, rfl⟩ := Int.eq_ofNat_of_zero_le h0
 rw [Pl.rd_get _ j (by rw [pl_lenE]; omega)]
 simp [plE]
theorem dl_rdE (p : List StE) (i : Nat) (j : Int) (h0 : 0 ≤ j) (h : j < i) : rd (dlE p i) j = deepE p j := by
 obtain ⟨j, rfl⟩ := Int.eq_ofNat_of_zero_le h0
 rw [Pl.rd_get _ j (by rw [dl_lenE]; omega)]
 simp [dlE]
theorem pl_succE (p : List StE) (i : Nat) : plE p i ++ [prE p (i : Int)] = plE p (i + 1) := by simp [plE, List.range_succ]
theorem dl_succE (p : List StE) (i : Nat) : dlE p i ++ [deepE p (i : Int)] = dlE p (i + 1) := by simp [dlE, List.range_succ]
theorem line_evE {p : List StE} {i : Nat} (hi : i < p.length) (h24 : p.length ≤ 40) (h : treeOkE p i) (hq0 : -1 ≤ prE p i) (hq1 : prE p i < i) : ∀ (m : Nat) (at' : Int), at'.toNat + 1 = m → -1 ≤ at' → at' < i →
  ∃ b : Bool, Ev (fun k => spec_l2Line.l0 k p i at') (b && decide (0 ≤ prE p i)) ∧ (at' < prE p i → b = false) ∧ Ev (fun k => impl_parents_next.l0 k (prE p i) at' (plE p i) (dlE p i)) (if b = true then (0, plE p (i + 1), dlE p (i + 1)) else (1, plE p i, dlE p i)) := by
 have hdeep := deep_atE (i := (i : Int)) h (by omega) ⟨hq0, hq1⟩ (by omega)
 have fin : Ev (fun k => impl_parents_next.l0 k (prE p i) (prE p i) (plE p i) (dlE p i)) (0, plE p (i + 1), dlE p (i + 1)) := by
  refine Ev.step (fun k => by rw [impl_parents_next.l0]) ?_
  simp only [Pl.ev_ite, Pl.ev_none, Pl.ev_some, Option.bind_some, pl_lenE, dl_lenE, List.length_singleton]
  rw [if_neg (by omega), if_pos trivial]
  by_cases hq : prE p i ≥ 0
  ·rw [if_pos hq, if_pos (by omega), if_pos (by omega), if_pos (by omega), if_pos (by omega), dl_rdE p i _ (by omega) (by omega)]
   have hle := deep_leE h _ (prE p i) rfl hq0 (by omega)
   rw [Pl.wrap_in (by omega) (by omega), ← hdeep, pl_succE, dl_succE]
  ·rw [if_neg hq, if_pos (by omega), if_pos (by omega)]
   have e : prE p i = -1 := by omega
   have e2 : deepE p (i : Int) = 1 := by rw [hdeep, e, deep_negE]; rfl
   rw [← pl_succE, ← dl_succE, e2]
 intro m
 induction m using Nat.strongRecOn with
 | _ m ih =>
  intro at' hm h0 h1
  by_cases hn : at' < 0
  ·obtain rfl : at' = -1 := by omega
   by_cases hq : prE p i < 0
   ·have e : prE p i = -1 := by omega
    refine ⟨true, ?_, fun h' => by omega, ?_⟩
    ·refine Ev.step (fun k => by rw [spec_l2Line.l0]) ?_
     simp only [Pl.ev_ite, Pl.ev_none, Pl.ev_some]
     rw [if_neg (by omega)]
     simp; omega
    ·rw [e] at fin ⊢
     simpa using fin
   ·refine ⟨false, ?_, fun _ => rfl, ?_⟩
    ·refine Ev.step (fun k => by rw [spec_l2Line.l0]) ?_
     simp only [Pl.ev_ite, Pl.ev_none, Pl.ev_some]
     rw [if_neg (by omega)]
     simp
    ·refine Ev.step (fun k => by rw [impl_parents_next.l0]) ?_
     simp only [Pl.ev_ite, Pl.ev_none, Pl.ev_some]
     rw [if_neg (by omega), if_neg (by omega)]
     simp
  ·obtain ⟨a, b⟩ := treeOk_ltE h (by omega) h1
   by_cases e : at' = prE p i
   ·refine ⟨true, ?_, fun h' => by omega, ?_⟩
    ·refine Ev.step (fun k => by rw [spec_l2Line.l0]) ?_
     simp only [Pl.ev_ite, Pl.ev_none, Pl.ev_some]
     rw [if_pos (by omega), if_pos (by omega), if_pos (by omega), if_pos e]
     simp; omega
    ·rw [e]
     simpa using fin
   ·have hs : ∀ r : Bool, Ev (fun k => spec_l2Line.l0 k p i (prE p at')) r → Ev (fun k => spec_l2Line.l0 k p i at') r := fun r hr => by
     refine Ev.step (fun k => by rw [spec_l2Line.l0]) ?_
     simp only [Pl.ev_ite, Pl.ev_none, Pl.ev_some]
     rw [if_pos (by omega), if_pos (by omega), if_pos (by omega), if_neg e, if_pos (by omega), if_pos (by omega)]
     exact hr
    have step : ∃ b : Bool, Ev (fun k => spec_l2Line.l0 k p i (prE p at')) (b && decide (0 ≤ prE p i)) ∧ (prE p at' < prE p i → b = false) ∧ Ev (fun k => impl_parents_next.l0 k (prE p i) (prE p at') (plE p i) (dlE p i)) (if b = true then (0, plE p (i + 1), dlE p (i + 1)) else (1, plE p i, dlE p i)) := by
     by_cases h2 : prE p at' < 0
     ·have h3 : prE p at' = -1 := by omega
      rw [h3]
      by_cases hq : prE p i < 0
      ·have e' : prE p i = -1 := by omega
       refine ⟨true, ?_, fun h' => by omega, ?_⟩
       ·refine Ev.step (fun k => by rw [spec_l2Line.l0]) ?_
        simp only [Pl.ev_ite, Pl.ev_none, Pl.ev_some]
        rw [if_neg (by omega)]
        simp; omega
       ·rw [e'] at fin ⊢
        simpa using fin
      ·refine ⟨false, ?_, fun _ => rfl, ?_⟩
       ·refine Ev.step (fun k => by rw [spec_l2Line.l0]) ?_
        simp only [Pl.ev_ite, Pl.ev_none, Pl.ev_some]
        rw [if_neg (by omega)]
        simp
       ·refine Ev.step (fun k => by rw [impl_parents_next.l0]) ?_
        simp only [Pl.ev_ite, Pl.ev_none, Pl.ev_some]
        rw [if_neg (by omega), if_neg (by omega)]
        simp
     ·exact ih ((prE p at').toNat + 1) (by omega) _ rfl a (by omega)
    obtain ⟨c, h1', h2', h3'⟩ := step
    by_cases hlt : at' < prE p i
    ·have hc := h2' (by omega)
     subst hc
     refine ⟨false, hs _ h1', fun _ => rfl, ?_⟩
     refine Ev.step (fun k => by rw [impl_parents_next.l0]) ?_
     simp only [Pl.ev_ite, Pl.ev_none, Pl.ev_some]
     rw [if_neg (by omega), if_neg (by omega)]
     simp
    ·refine ⟨c, hs _ h1', fun h' => absurd h' hlt, ?_⟩
     refine Ev.step (fun k => by rw [impl_parents_next.l0]) ?_
     simp only [Pl.ev_ite, Pl.ev_none, Pl.ev_some, pl_lenE]
     rw [if_pos (by omega), if_pos (by omega), if_pos (by omega), pl_rdE p i _ (by omega) (by omega)]
     exact h3'
def rangeOkE (p : List StE) (i : Nat) : Prop := (i = 0 → prE p i = -1) ∧ (0 < i → 0 ≤ prE p i ∧ prE p i ≤ (i : Int) - 1)
instance (p : List StE) (i : Nat) : Decidable (rangeOkE p i) := by unfold rangeOkE; infer_instance
theorem next_evE {p : List StE} {i : Nat} (hi : i < p.length) (h24 : p.length ≤ 40) (h : treeOkE p i) :
  (¬ rangeOkE p i ∧ Ev (fun k => impl_parents_next.f k (plE p i) (dlE p i) (prE p i)) (3, plE p i, dlE p i)) ∨
  (rangeOkE p i ∧ ∃ b : Bool, (0 < i → Ev (fun k => spec_l2Line.f k p i) b) ∧ (i = 0 → b = true) ∧ Ev (fun k => impl_parents_next.f k (plE p i) (dlE p i) (prE p i)) (if b = true then (0, plE p (i + 1), dlE p (i + 1)) else (1, plE p i, dlE p i))) := by
 have go : ∀ (bad : Bool) r, Ev (fun k => impl_parents_next.j0 k (prE p i) (i : Int) bad (plE p i) (dlE p i)) r → bad = decide (¬ rangeOkE p i) → Ev (fun k => impl_parents_next.f k (plE p i) (dlE p i) (prE p i)) r := by
  intro bad r hr hb
  unfold impl_parents_next.f
  simp only [Pl.ev_ite, Pl.ev_none, Pl.ev_some, pl_lenE, inRange_eq, Option.bind_some]
  unfold rangeOkE at hb
  by_cases h0 : i = 0
  ·subst h0
   rw [if_pos (by omega)]
   by_cases hq : prE p ((0 : Nat) : Int) = -1
   ·rw [if_pos hq, if_neg (by omega)]
    have : bad = false := by rw [hb]; simpa using hq
    subst this
    exact hr
   ·rw [if_neg hq]
    have : bad = true := by rw [hb]; simpa using hq
    subst this
    exact hr
  ·rw [if_neg (by omega), if_pos (by omega), Pl.wrap_in (by omega) (by omega)]
   have : bad = !decide (0 ≤ prE p i ∧ prE p i ≤ (i : Int) - 1) := by
    rw [hb, ← decide_not, decide_eq_decide]
    constructor
    ·intro h' h''
     exact h' ⟨fun h' => absurd h' h0, fun _ => h''⟩
    ·intro h' h''
     exact h' (h''.2 (by omega))
   rw [← this]
   exact hr
 by_cases hr : rangeOkE p i
 ·right
  refine ⟨hr, ?_⟩
  have hq : -1 ≤ prE p i ∧ prE p i < i := by
   by_cases h0 : i = 0
   ·have := hr.1 h0; omega
   ·have := hr.2 (by omega); omega
  obtain ⟨b, b1, b2, b3⟩ := line_evE hi h24 h hq.1 hq.2 _ ((i : Int) - 1) rfl (by omega) (by omega)
  refine ⟨b, fun h0 => ?_, fun h0 => ?_, ?_⟩
  ·unfold spec_l2Line.f
   rw [Pl.wrap_in (by omega) (by omega)]
   have := hr.2 h0
   have e : (b && decide (0 ≤ prE p i)) = b := by rw [decide_eq_true this.1, Bool.and_true]
   rwa [e] at b1
  ·subst h0
   have hq := hr.1 rfl
   cases b
   ·exfalso
    have f2 : Ev (fun k => impl_parents_next.l0 k (prE p ((0 : Nat) : Int)) (((0 : Nat) : Int) - 1) (plE p 0) (dlE p 0)) (0, [-1], [1]) := by
     refine Ev.step (fun k => by rw [impl_parents_next.l0]) ?_
     simp only [Pl.ev_ite, Pl.ev_none, Pl.ev_some, Option.bind_some, pl_lenE, dl_lenE, List.length_singleton]
     rw [hq]
     simp [plE, dlE]
    have := Pl.ev_unique f2 b3
    simp at this
   ·rfl
  ·refine go false _ ?_ (by simpa using hr)
   refine Ev.step (fun k => by rw [impl_parents_next.j0]) ?_
   simp only [Pl.ev_ite, Pl.ev_none, Pl.ev_some]
   rw [if_neg (by simp), Pl.wrap_in (by omega) (by omega)]
   exact b3
 ·left
  refine ⟨hr, go true _ ?_ (by simpa using hr)⟩
  refine Ev.step (fun k => by rw [impl_parents_next.j0]) ?_
  simp only [Pl.ev_ite, Pl.ev_none, Pl.ev_some]
  simp
theorem l1Name_l {s : ByteArray} {l : List UInt8} (hl : s.data.toList = l) (hs : l.length < 9223372036854775807) : ∀ i, i ≤ l.length → Ev (fun k => spec_l1Name.l0 k s (i : Int)) (bif (l.drop i).all Pl.smallB then (if l = [] then 5 else if l.length > 8 then 2 else 0) else 5) := by
 have hz := Pl.size_l hl
 refine Pl.loop0 (g := fun k i => spec_l1Name.l0 k s i) ?_ ?_
 ·refine Ev.step (fun k => by rw [spec_l1Name.l0]) ?_
  simp only [Pl.ev_ite, Pl.ev_some, Pl.toList_l hl, hz, Pl.drop_end, List.all_nil, cond_true]
  rw [if_neg (by omega)]
  split
  ·rfl
  ·split
   ·rw [if_pos (by omega)]
   ·rw [if_neg (by omega)]
 ·intro i hi ih
  refine Ev.step (fun k => by rw [spec_l1Name.l0]) ?_
  rw [Pl.drop_get hi]
  simp only [Pl.ev_ite, Pl.ev_some, Pl.ev_none, Pl.bt_l hl i hi, hz, Pl.wrap_nat (show i < 9223372036854775807 by omega), List.all_cons]
  rw [if_pos (by omega), if_pos (by omega)]
  by_cases h : Pl.smallB l[i] = true
  ·have h' := of_decide_eq_true h
   rw [if_neg (by omega), if_neg (by omega), h, Bool.true_and]
   exact ih
  ·have h' : ¬ (97 ≤ (l[i]).toNat ∧ (l[i]).toNat ≤ 122) := fun e => h (decide_eq_true e)
   rw [Bool.not_eq_true] at h
   rw [h, Bool.false_and, cond_false]
   split
   ·rfl
   ·rw [if_pos (by omega)]
theorem l1Name_ev {s : ByteArray} {l : List UInt8} (hl : s.data.toList = l) (hs : l.length < 9223372036854775807) : Ev (fun k => spec_l1Name.f k s) (Pl.nameC l) := by
 have h := l1Name_l hl hs 0 (Nat.zero_le _)
 unfold spec_l1Name.f
 refine Pl.ev_to h ?_
 rw [List.drop_zero]
 unfold Pl.nameC
 split
 ·rename_i h0
  subst h0
  rfl
 ·cases l.all Pl.smallB <;> rfl
theorem isSmall_eq (c : UInt8) : impl_isSmall.f (c.toNat : Int) = some (Pl.smallB c) := by
 unfold impl_isSmall.f Pl.smallB
 by_cases h : (c.toNat : Int) ≥ 97
 ·rw [if_pos h]; congr 1; rw [decide_eq_decide]; omega
 ·rw [if_neg h]; congr 1; rw [eq_comm, decide_eq_false_iff_not]; omega
theorem areSmall_l {s : ByteArray} {l : List UInt8} (hl : s.data.toList = l) (hs : l.length < 9223372036854775807) : ∀ i, i ≤ l.length → Ev (fun k => impl_areAll__impl_isSmall.l0 k s (l.length : Int) (i : Int)) ((l.drop i).all Pl.smallB) := by
 have hz := Pl.size_l hl
 refine Pl.loop0 (g := fun k i => impl_areAll__impl_isSmall.l0 k s (l.length : Int) i) ?_ ?_
 ·refine Ev.step (fun k => by rw [impl_areAll__impl_isSmall.l0]) ?_
  simp [Pl.ev_some]
 ·intro i hi ih
  refine Ev.step (fun k => by rw [impl_areAll__impl_isSmall.l0]) ?_
  rw [Pl.drop_get hi]
  simp only [Pl.ev_ite, Pl.ev_some, Pl.ev_none, Pl.bt_l hl i hi, hz, isSmall_eq, Option.bind_some, Pl.wrap_nat (show i < 9223372036854775807 by omega), List.all_cons]
  rw [if_pos (by omega), if_pos (by omega), if_pos (by omega)]
  cases h : Pl.smallB l[i]
  ·rfl
  ·simpa [h] using ih
theorem impl_name {s : ByteArray} {l : List UInt8} (hl : s.data.toList = l) (hs : l.length < 9223372036854775807) : Ev (fun k => impl_NameFault.f k s) (Pl.nameC l) := by
 have hz := Pl.size_l hl
 have h := areSmall_l hl hs 0 (Nat.zero_le _)
 rw [List.drop_zero, ← hz] at h
 unfold impl_NameFault.f
 simp only [codeIf_eq, Option.bind_some, Pl.ev_ite, Pl.toList_l hl]
 unfold Pl.nameC
 split
 ·refine Pl.ev_bind' (firstCode_ev _ (by simp)) ?_
  simp [Pl.ev_some, Pl.firstC]
 ·refine Pl.ev_bind' h ?_
  refine Pl.ev_bind' (firstCode_ev _ (by simp)) ?_
  simp only [Pl.ev_some, Pl.firstC, hz]
  cases h1 : l.all Pl.smallB
  ·simp
  ·by_cases h2 : l.length > 8
   ·simp [h2]; rw [if_neg (by omega), if_pos (by omega)]
   ·simp [h2]; omega
abbrev At := S51
/-! values -/
theorem l1Plain_eq (c : UInt8) : spec_l1Plain.f (c.toNat : Int) = some (Pl.printB c) := by
 unfold spec_l1Plain.f Pl.printB
 by_cases h : (c.toNat : Int) ≥ 32
 ·rw [if_pos h]; congr 1; rw [decide_eq_decide]; omega
 ·rw [if_neg h]; congr 1; rw [eq_comm, decide_eq_false_iff_not]; omega
theorem isPrint_eq (c : UInt8) : impl_isPrint.f (c.toNat : Int) = some (Pl.printB c) := by
 unfold impl_isPrint.f Pl.printB
 by_cases h : (c.toNat : Int) ≥ 32
 ·rw [if_pos h]; congr 1; rw [decide_eq_decide]; omega
 ·rw [if_neg h]; congr 1; rw [eq_comm, decide_eq_false_iff_not]; omega
theorem l1Value_ev {s : ByteArray} {l : List UInt8} (hl : s.data.toList = l) : Ev (fun k => spec_l1Value.f k s) (Pl.valueC l) := by
 have hz := Pl.size_l hl
 unfold spec_l1Value.f Pl.valueC
 by_cases h40 : l.length > 40
 ·rw [if_pos h40]
  exact Pl.ev_ite_pos (by omega) (Ev.now _)
 ·rw [if_neg h40]
  refine Pl.ev_ite_neg (by omega) ?_
  have main := Pl.loop0 (n := l.length) (g := fun k i => spec_l1Value.l0 k s i) (F := fun i => if (l.drop i).all Pl.printB = true then (0 : Int) else 5) ?_ ?_ 0 (Nat.zero_le _)
  ·simpa using main
  ·refine Ev.step (fun k => by rw [spec_l1Value.l0]) ?_
   refine Pl.ev_ite_neg (by omega) (Pl.ev_to (Ev.now _) (by simp))
  ·intro i hi ih
   refine Ev.step (fun k => by rw [spec_l1Value.l0]) ?_
   rw [Pl.drop_get hi, Pl.bt_l hl i hi, Pl.wrap_nat (show i < 9223372036854775807 by omega)]
   simp only [l1Plain_eq, Option.bind_some, List.all_cons]
   refine Pl.ev_ite_pos (by omega) (Pl.ev_ite_pos (by omega) ?_)
   by_cases h : Pl.printB l[i] = true
   ·exact Pl.ev_ite_pos h (Pl.ev_to ih (by simp [h]))
   ·exact Pl.ev_ite_neg h (Pl.ev_to (Ev.now _) (by simp [h]))
theorem arePrint_l {s : ByteArray} {l : List UInt8} (hl : s.data.toList = l) (hs : l.length < 9223372036854775807) : Ev (fun k => impl_areAll__impl_isPrint.f k s) (l.all Pl.printB) := by
 have hz := Pl.size_l hl
 unfold impl_areAll__impl_isPrint.f
 rw [hz]
 have main := Pl.loop0 (n := l.length) (g := fun k i => impl_areAll__impl_isPrint.l0 k s (l.length : Int) i) (F := fun i => (l.drop i).all Pl.printB) ?_ ?_ 0 (Nat.zero_le _)
 ·simpa using main
 ·refine Ev.step (fun k => by rw [impl_areAll__impl_isPrint.l0]) ?_
  exact Pl.ev_ite_neg (by omega) (Pl.ev_to (Ev.now _) (by simp))
 ·intro i hi ih
  refine Ev.step (fun k => by rw [impl_areAll__impl_isPrint.l0]) ?_
  rw [Pl.drop_get hi, Pl.bt_l hl i hi, Pl.wrap_nat (show i < 9223372036854775807 by omega)]
  simp only [isPrint_eq, Option.bind_some, List.all_cons]
  refine Pl.ev_ite_pos (by omega) (Pl.ev_ite_pos (by omega) (Pl.ev_ite_pos (by omega) ?_))
  cases h : Pl.printB l[i]
  ·exact Pl.ev_ite_neg (by simp) (Ev.now _)
  ·refine Pl.ev_ite_pos rfl ?_
   rw [Bool.true_and]
   exact ih
theorem implValue_ev {s : ByteArray} {l : List UInt8} (hl : s.data.toList = l) (hs : l.length < 9223372036854775807) : Ev (fun k => impl_valueFault.f k s) (Pl.valueC l) := by
 have hz := Pl.size_l hl
 unfold impl_valueFault.f
 simp only [codeIf_eq, Option.bind_some]
 refine Pl.ev_bind' (arePrint_l hl hs) ?_
 refine Pl.ev_bind' (firstCode_ev _ (by simp)) (Pl.ev_to (Ev.now _) ?_)
 unfold Pl.valueC
 by_cases h40 : l.length > 40
 ·rw [if_pos h40]
  simp [Pl.firstC, hz]
  omega
 ·rw [if_neg h40]
  cases l.all Pl.printB
  ·simp [Pl.firstC, hz]
   omega
  ·simp [Pl.firstC, hz]
   omega
/-! attrs -/
def findC : List At → List UInt8 → Nat → Int
 | [], _, _ => -1
 | y :: l, s, i => if y.f0.toList = s then (i : Int) else findC l s (i + 1)
theorem findC_end (s : List UInt8) (i : Nat) : findC [] s i = -1 := rfl
theorem specAttr_ev (l : List At) (hl : l.length ≤ 1048576) (s : ByteArray) : Ev (fun k => spec_l2Attr.f k l s) (findC l s.toList 0) := by
 unfold spec_l2Attr.f
 have main := Pl.loop0 (n := l.length) (g := fun k i => spec_l2Attr.l0 k l s i) (F := fun i => findC (l.drop i) s.toList i) ?_ ?_ 0 (Nat.zero_le _)
 ·simpa using main
 ·refine Ev.step (fun k => by rw [spec_l2Attr.l0]) ?_
  rw [List.drop_length]
  exact Pl.ev_ite_neg (by omega) (Ev.now _)
 ·intro i hi ih
  refine Ev.step (fun k => by rw [spec_l2Attr.l0]) ?_
  rw [Pl.drop_get hi, Pl.wrap_nat (show i < 9223372036854775807 by omega), rd_iAttr l i hi]
  refine Pl.ev_ite_pos (by omega) (Pl.ev_ite_pos (by omega) ?_)
  by_cases h : l[i].f0.toList = s.toList
  ·exact Pl.ev_to (Pl.ev_ite_pos h (Ev.now _)) (by rw [findC, if_pos h])
  ·exact Pl.ev_to (Pl.ev_ite_neg h ih) (by rw [findC, if_neg h])
theorem implIndex_ev (l : List At) (hl : l.length ≤ 1048576) (s : ByteArray) : Ev (fun k => slices_IndexFunc_Attr_Attr__impl_isTaken_1.f k l s) (findC l s.toList 0) := by
 unfold slices_IndexFunc_Attr_Attr__impl_isTaken_1.f
 have main := Pl.loop0 (n := l.length) (g := fun k i => slices_IndexFunc_Attr_Attr__impl_isTaken_1.l0 k l (l.length : Int) i s) (F := fun i => findC (l.drop i) s.toList i) ?_ ?_ 0 (Nat.zero_le _)
 ·simpa using main
 ·refine Ev.step (fun k => by rw [slices_IndexFunc_Attr_Attr__impl_isTaken_1.l0]) ?_
  rw [List.drop_length]
  exact Pl.ev_ite_neg (by omega) (Ev.now _)
 ·intro i hi ih
  refine Ev.step (fun k => by rw [slices_IndexFunc_Attr_Attr__impl_isTaken_1.l0]) ?_
  rw [Pl.drop_get hi, Pl.wrap_nat (show i < 9223372036854775807 by omega), rd_iAttr l i hi]
  refine Pl.ev_ite_pos (by omega) (Pl.ev_ite_pos (by omega) (Pl.ev_ite_pos (by omega) ?_))
  refine Pl.ev_bind' (a := (l[i].f0.toList == s.toList)) (Ev.now _) ?_
  by_cases h : l[i].f0.toList = s.toList
  ·exact Pl.ev_to (Pl.ev_ite_pos (beq_iff_eq.2 h) (Ev.now _)) (by rw [findC, if_pos h])
  ·exact Pl.ev_to (Pl.ev_ite_neg (by simpa using h) ih) (by rw [findC, if_neg h])
theorem implTaken_ev (l : List At) (hl : l.length ≤ 1048576) (s : ByteArray) : Ev (fun k => impl_isTaken.f k l s) (decide (findC l s.toList 0 ≥ 0)) := by
 unfold impl_isTaken.f slices_ContainsFunc_Attr_Attr__impl_isTaken_1.f
 exact Pl.ev_bind' (Pl.ev_bind' (implIndex_ev l hl s) (Ev.now _)) (Ev.now _)
def attrC (l : List At) (i : Nat) (x : At) : Int := Pl.firstC [Pl.nameC x.f0.data.toList, if findC (l.take i) x.f0.toList 0 ≥ 0 then 6 else 0, Pl.valueC x.f1.data.toList]
def attrsC (l : List At) : Nat → List At → Int
 | _, [] => 0
 | i, x :: r => if attrC l i x = 0 then attrsC l (i + 1) r else attrC l i x
def okA (l : List At) : Prop := l.length ≤ 1048576 ∧ ∀ y ∈ l, y.f0.size ≤ 1048576 ∧ y.f1.size ≤ 1048576
theorem f1of3 (a b c : Int) : Pl.firstC [a, b, c] = if a = 0 then (if b = 0 then c else b) else a := by
 unfold Pl.firstC Pl.firstC Pl.firstC Pl.firstC
 by_cases ha : a = 0
 ·rw [if_pos ha, if_pos ha]
  by_cases hb : b = 0
  ·rw [if_pos hb, if_pos hb]
   by_cases hc : c = 0
   ·rw [if_pos hc, hc]
   ·rw [if_neg hc]
  ·rw [if_neg hb, if_neg hb]
 ·rw [if_neg ha, if_neg ha]
theorem specAttrs_ev (l : List At) (h : okA l) : Ev (fun k => spec_l2Attrs.f k l) (attrsC l 0 l) := by
 obtain ⟨hl, hb⟩ := h
 unfold spec_l2Attrs.f
 have main := Pl.loop0 (n := l.length) (g := fun k i => spec_l2Attrs.l0 k l i) (F := fun i => attrsC l i (l.drop i)) ?_ ?_ 0 (Nat.zero_le _)
 ·simpa using main
 ·refine Ev.step (fun k => by rw [spec_l2Attrs.l0]) ?_
  rw [List.drop_length]
  exact Pl.ev_ite_neg (by omega) (Ev.now _)
 ·intro i hi ih
  obtain ⟨b1, b2⟩ := hb _ (List.getElem_mem hi)
  have z1 : l[i].f0.data.toList.length < 9223372036854775807 := by rw [Pl.size_toList]; omega
  refine Ev.step (fun k => by rw [spec_l2Attrs.l0]) ?_
  rw [Pl.drop_get hi, Pl.wrap_nat (show i < 9223372036854775807 by omega), rd_iAttr l i hi, Int.toNat_natCast]
  refine Pl.ev_ite_pos (by omega) (Pl.ev_ite_pos (by omega) (Pl.ev_bind' (l1Name_ev rfl z1) ?_))
  unfold attrsC attrC
  rw [f1of3]
  by_cases hn : Pl.nameC l[i].f0.data.toList = 0
  ·refine Pl.ev_ite_pos hn (Pl.ev_ite_pos (by omega) (Pl.ev_bind' (specAttr_ev (l.take i) (by rw [List.length_take]; omega) _) ?_))
   rw [if_pos hn]
   by_cases hf : findC (l.take i) l[i].f0.toList 0 ≥ 0
   ·simp only [if_pos hf]
    exact Pl.ev_to (Ev.now _) (by simp)
   ·simp only [if_neg hf, if_true]
    refine Pl.ev_bind' (l1Value_ev rfl) ?_
    by_cases hv : Pl.valueC l[i].f1.data.toList = 0
    ·exact Pl.ev_to (Pl.ev_ite_pos hv ih) (by rw [if_pos hv])
    ·exact Pl.ev_to (Pl.ev_ite_neg hv (Ev.now _)) (by rw [if_neg hv])
  ·exact Pl.ev_to (Pl.ev_ite_neg hn (Ev.now _)) (by rw [if_neg hn, if_neg hn])
theorem implAttrs_ev (l : List At) (h : okA l) : Ev (fun k => impl_attrsFault.f k l) (attrsC l 0 l) := by
 obtain ⟨hl, hb⟩ := h
 unfold impl_attrsFault.f
 have main := Pl.loop0 (n := l.length) (g := fun k i => impl_attrsFault.l0 k l l (l.length : Int) i) (F := fun i => attrsC l i (l.drop i)) ?_ ?_ 0 (Nat.zero_le _)
 ·simpa using main
 ·refine Ev.step (fun k => by rw [impl_attrsFault.l0]) ?_
  rw [List.drop_length]
  exact Pl.ev_ite_neg (by omega) (Ev.now _)
 ·intro i hi ih
  obtain ⟨b1, b2⟩ := hb _ (List.getElem_mem hi)
  have z1 : l[i].f0.data.toList.length < 9223372036854775807 := by rw [Pl.size_toList]; omega
  have z2 : l[i].f1.data.toList.length < 9223372036854775807 := by rw [Pl.size_toList]; omega
  refine Ev.step (fun k => by rw [impl_attrsFault.l0]) ?_
  rw [Pl.drop_get hi, Pl.wrap_nat (show i < 9223372036854775807 by omega), rd_iAttr l i hi, Int.toNat_natCast]
  refine Pl.ev_ite_pos (by omega) (Pl.ev_ite_pos (by omega) (Pl.ev_ite_pos (by omega) (Pl.ev_bind' (impl_name rfl z1) (Pl.ev_ite_pos (by omega) (Pl.ev_bind' (implTaken_ev (l.take i) (by rw [List.length_take]; omega) _) ?_)))))
  simp only [codeIf_eq, Option.bind_some]
  refine Pl.ev_bind' (implValue_ev rfl z2) (Pl.ev_bind' (firstCode_ev _ (by simp)) ?_)
  rw [show Pl.firstC [Pl.nameC l[i].f0.data.toList, if decide (findC (l.take i) l[i].f0.toList 0 ≥ 0) = true then (6 : Int) else 0, Pl.valueC l[i].f1.data.toList] = attrC l i l[i] from by unfold attrC; simp only [decide_eq_true_eq]]
  unfold attrsC
  by_cases hc : attrC l i l[i] = 0
  ·exact Pl.ev_to (Pl.ev_ite_pos hc ih) (by rw [if_pos hc])
  ·exact Pl.ev_to (Pl.ev_ite_neg hc (Ev.now _)) (by rw [if_neg hc])
/-! elements -/
abbrev rdE (p : List StE) (j : Int) : StE := rd_T40 p j
def sizedE (p : List StE) : Prop := ∀ i : Nat, i < p.length → (rdE p i).f0.size ≤ 1048576 ∧ okA (rdE p i).f2
theorem f1of2 (a b : Int) : Pl.firstC [a, b] = if a = 0 then b else a := by
 unfold Pl.firstC Pl.firstC Pl.firstC
 by_cases ha : a = 0
 ·by_cases hb : b = 0
  ·rw [if_pos ha, if_pos hb, if_pos ha, hb]
  ·rw [if_pos ha, if_neg hb, if_pos ha]
 ·rw [if_neg ha, if_neg ha]
def goodE (p : List StE) (i : Nat) : Prop := Pl.nameC (rdE p i).f0.data.toList = 0 ∧ (rdE p i).f2.length ≤ 6 ∧ attrsC (rdE p i).f2 0 (rdE p i).f2 = 0
theorem oneE_ev {p : List StE} {i : Nat} (hi : i < p.length) (h40 : p.length ≤ 40) (h : treeOkE p i) (hz : sizedE p) :
  ∃ c : Int, (∀ R, (c ≠ 0 → R = c) → (c = 0 → Ev (fun k => spec_l2Fault.l0 k p ((i : Int) + 1)) R) → Ev (fun k => spec_l2Fault.l0 k p i) R) ∧
   (∀ R, (c ≠ 0 → R = c) → (c = 0 → Ev (fun k => impl_TreeFault.l0 k p (p.length : Int) ((i : Int) + 1) (plE p (i + 1)) (dlE p (i + 1))) R) → Ev (fun k => impl_TreeFault.l0 k p (p.length : Int) i (plE p i) (dlE p i)) R) ∧ (c = 0 → treeOkE p (i + 1) ∧ goodE p i) := by
 obtain ⟨hz1, hz2⟩ := hz i hi
 have z1 : (rdE p i).f0.data.toList.length < 9223372036854775807 := by rw [Pl.size_toList]; omega
 -- the reference, behind the name
 have spec : ∀ R, (Pl.nameC (rdE p i).f0.data.toList ≠ 0 → R = Pl.nameC (rdE p i).f0.data.toList) → (Pl.nameC (rdE p i).f0.data.toList = 0 → ∀ bad : Bool, (bad = true ↔ ¬ rangeOkE p i) → Ev (fun k => spec_l2Fault.j2 k p i bad) R) → Ev (fun k => spec_l2Fault.l0 k p i) R := by
  intro R h1 h2
  refine Ev.step (fun k => by rw [spec_l2Fault.l0]) ?_
  refine Pl.ev_ite_pos (by omega) (Pl.ev_ite_pos (by omega) (Pl.ev_bind' (l1Name_ev rfl z1) ?_))
  by_cases hn : Pl.nameC (rdE p i).f0.data.toList = 0
  ·refine Pl.ev_ite_pos hn ?_
   have h3 := h2 hn
   by_cases h0 : i = 0
   ·refine Pl.ev_ite_pos (by omega) ?_
    by_cases hq : prE p i = -1
    ·refine Pl.ev_ite_pos hq (Pl.ev_ite_neg (by omega) ?_)
     exact h3 false ⟨fun h' => by simp at h', fun h' => absurd ⟨fun _ => hq, fun h'' => by omega⟩ h'⟩
    ·refine Pl.ev_ite_neg hq ?_
     exact h3 true ⟨fun _ h' => hq (h'.1 h0), fun _ => rfl⟩
   ·refine Pl.ev_ite_neg (by omega) (Pl.ev_ite_pos (by omega) ?_)
    simp only [l1In_eq, Option.bind_some]
    rw [Pl.wrap_in (by omega) (by omega)]
    refine h3 _ ⟨fun h' h'' => ?_, fun h' => ?_⟩
    ·have := h''.2 (by omega)
     simp only [Bool.not_eq_true', decide_eq_false_iff_not] at h'
     exact h' this
    ·simp only [Bool.not_eq_true', decide_eq_false_iff_not]
     exact fun h'' => h' ⟨fun h0' => absurd h0' h0, fun _ => h''⟩
  ·rw [h1 hn]
   exact Pl.ev_ite_neg hn (Ev.now _)
 have implpre : ∀ (nc : Int) (L1 L2 : List Int) R, Ev (fun k => impl_parents_next.f k (plE p i) (dlE p i) (prE p i)) (nc, L1, L2) → ((if Pl.nameC (rdE p i).f0.data.toList = 0 then nc else Pl.nameC (rdE p i).f0.data.toList) ≠ 0 → R = (if Pl.nameC (rdE p i).f0.data.toList = 0 then nc else Pl.nameC (rdE p i).f0.data.toList)) →
   (Pl.nameC (rdE p i).f0.data.toList = 0 → nc = 0 → Ev (fun k => (impl_parents_last.f L1 L2).bind fun bt243 => (if bt243.1 > 8 then ((impl_codeIf.f true 2).bind fun t250 => ((impl_attrsFault.f k ((rdE p i).f2)).bind fun t251 => ((impl_firstCode.f k (([t250, t251] : List Int))).bind fun t255 => (if t255 = 0 then (impl_TreeFault.l0 k p (p.length : Int) ((i : Int) + 1) bt243.2.1 bt243.2.2) else (some t255))))) else ((impl_codeIf.f (decide ((((rdE p i).f2).length : Int) > 6)) 2).bind fun t256 => ((impl_attrsFault.f k ((rdE p i).f2)).bind fun t257 => ((impl_firstCode.f k (([t256, t257] : List Int))).bind fun t261 => (if t261 = 0 then (impl_TreeFault.l0 k p (p.length : Int) ((i : Int) + 1) bt243.2.1 bt243.2.2) else (some t261))))))) R) → Ev (fun k => impl_TreeFault.l0 k p (p.length : Int) i (plE p i) (dlE p i)) R := by
  intro nc L1 L2 R hn h1 h2
  refine Ev.step (fun k => by rw [impl_TreeFault.l0]) ?_
  rw [Pl.wrap_nat (show i < 9223372036854775807 by omega)]
  refine Pl.ev_ite_pos (by omega) (Pl.ev_ite_pos (by omega) (Pl.ev_ite_pos (by omega) (Pl.ev_bind' (impl_name rfl z1) (Pl.ev_bind' hn (Pl.ev_bind' (firstCode_ev _ (by simp)) ?_)))))
  rw [f1of2]
  by_cases hc : (if Pl.nameC (rdE p i).f0.data.toList = 0 then nc else Pl.nameC (rdE p i).f0.data.toList) = 0
  ·have hn0 : Pl.nameC (rdE p i).f0.data.toList = 0 := by
    by_cases q : Pl.nameC (rdE p i).f0.data.toList = 0
    ·exact q
    ·rw [if_neg q] at hc; exact absurd hc q
   have hc' := hc
   rw [if_pos hn0] at hc'
   exact Pl.ev_ite_pos hc (h2 hn0 hc')
  ·rw [h1 hc]
   exact Pl.ev_ite_neg hc (Ev.now _)
 by_cases hn : Pl.nameC (rdE p i).f0.data.toList = 0
 ·rcases next_evE hi h40 h with ⟨hr, nx⟩ | ⟨hr, b, b1, b2, nx⟩
  ·refine ⟨3, fun R h1 _ => spec R (fun h' => absurd hn h') (fun _ bad hbad => ?_), fun R h1 _ => implpre 3 _ _ R nx (fun _ => ?_) (fun _ h' => absurd h' (by omega)), fun h' => absurd h' (by omega)⟩
   ·obtain rfl := hbad.2 hr
    rw [h1 (by omega)]
    refine Ev.step (fun k => by rw [spec_l2Fault.j2]) ?_
    exact Pl.ev_ite_pos rfl (Ev.now _)
   ·rw [if_pos hn]
    exact h1 (by omega)
  ·have j2 : ∀ R, (b = true → Ev (fun k => spec_l2Fault.j3 k p i false) R) → (b = false → R = 1) → ∀ bad : Bool, (bad = true ↔ ¬ rangeOkE p i) → Ev (fun k => spec_l2Fault.j2 k p i bad) R := by
    intro R h1 h2 bad hbad
    obtain rfl : bad = false := by cases bad; rfl; exact absurd hr (hbad.1 rfl)
    refine Ev.step (fun k => by rw [spec_l2Fault.j2]) ?_
    refine Pl.ev_ite_neg (by simp) ?_
    by_cases h0 : i = 0
    ·exact Pl.ev_ite_neg (by omega) (h1 (b2 h0))
    ·refine Pl.ev_ite_pos (by omega) (Pl.ev_bind' (b1 (by omega)) ?_)
     cases hb : b
     ·rw [h2 hb]
      refine Ev.step (fun k => by rw [spec_l2Fault.j3]) ?_
      exact Pl.ev_ite_pos rfl (Ev.now _)
     ·exact h1 hb
   cases hb : b
   ·rw [hb] at nx
    refine ⟨1, fun R h1 _ => spec R (fun h' => absurd hn h') (fun _ => j2 R (fun h' => by rw [hb] at h'; cases h') (fun _ => h1 (by omega))), fun R h1 _ => implpre 1 _ _ R nx (fun _ => ?_) (fun _ h' => absurd h' (by omega)), fun h' => absurd h' (by omega)⟩
    rw [if_pos hn]
    exact h1 (by omega)
   ·rw [hb] at nx
    have ht : treeOkE p (i + 1) := by
     intro j hj
     by_cases hj' : j < i
     ·exact h j hj'
     ·obtain rfl : j = i := by omega
      exact hr
    have hdl := deep_leE ht _ (i : Int) rfl (by omega) (by omega)
    have hdeep := specDeep_evE ht (by omega) (by omega) _ (i : Int) rfl (by omega) (by omega) 0 (by omega) (by omega)
    rw [Int.zero_add] at hdeep
    have hlast : impl_parents_last.f (plE p (i + 1)) (dlE p (i + 1)) = some (deepE p i, plE p (i + 1), dlE p (i + 1)) := by
     unfold impl_parents_last.f
     rw [dl_lenE, Pl.wrap_in (by omega) (by omega), if_pos (by omega), if_pos (by omega), show (((i + 1 : Nat) : Int) - 1) = (i : Int) from by omega, dl_rdE p (i + 1) _ (by omega) (by omega)]
    have sA := specAttrs_ev _ hz2
    have mA := implAttrs_ev _ hz2
    by_cases hm : deepE p i > 8 ∨ ((rdE p i).f2.length : Int) > 6
    ·have j4 : Ev (fun k => spec_l2Fault.j4 k p i true) 2 := by
      refine Ev.step (fun k => by rw [spec_l2Fault.j4]) ?_
      exact Pl.ev_ite_pos rfl (Ev.now _)
     refine ⟨2, fun R h1 _ => spec R (fun h' => absurd hn h') (fun _ => j2 R (fun _ => ?_) (fun h' => by rw [hb] at h'; cases h')), fun R h1 _ => implpre 0 _ _ R nx (fun h' => absurd (if_pos hn) h') (fun _ _ => ?_), fun h' => absurd h' (by omega)⟩
     ·rw [h1 (by omega)]
      refine Ev.step (fun k => by rw [spec_l2Fault.j3]) ?_
      refine Pl.ev_ite_neg (by simp) (Pl.ev_bind' (by unfold spec_l2Deep.f; exact hdeep) ?_)
      by_cases hd : deepE p i > 8
      ·exact Pl.ev_ite_pos hd j4
      ·refine Pl.ev_ite_neg hd (Pl.ev_ite_pos (by omega) (Pl.ev_ite_pos (by omega) ?_))
       rw [decide_eq_true (show ((rd_T40 p (i : Int)).f2.length : Int) > 6 from hm.resolve_left hd)]
       exact j4
     ·rw [h1 (by omega)]
      simp only [hlast, codeIf_eq, Option.bind_some]
      by_cases hd : deepE p i > 8
      ·refine Pl.ev_ite_pos hd (Pl.ev_bind' mA (Pl.ev_bind' (firstCode_ev _ (by simp)) ?_))
       rw [f1of2]
       exact Pl.ev_ite_neg (by simp) (Pl.ev_to (Ev.now _) (by simp))
      ·refine Pl.ev_ite_neg hd (Pl.ev_bind' mA (Pl.ev_bind' (firstCode_ev _ (by simp)) ?_))
       rw [f1of2, decide_eq_true (hm.resolve_left hd)]
       exact Pl.ev_ite_neg (by simp) (Pl.ev_to (Ev.now _) (by simp))
    ·have hd : ¬ deepE p i > 8 := fun h' => hm (Or.inl h')
     have ha : ¬ ((rdE p i).f2.length : Int) > 6 := fun h' => hm (Or.inr h')
     refine ⟨attrsC (rdE p i).f2 0 (rdE p i).f2, fun R h1 h2 => spec R (fun h' => absurd hn h') (fun _ => j2 R (fun _ => ?_) (fun h' => by rw [hb] at h'; cases h')), fun R h1 h2 => implpre 0 _ _ R nx (fun h' => absurd (if_pos hn) h') (fun _ _ => ?_), fun hc0 => ⟨ht, hn, by omega, hc0⟩⟩
     ·refine Ev.step (fun k => by rw [spec_l2Fault.j3]) ?_
      refine Pl.ev_ite_neg (by simp) (Pl.ev_bind' (by unfold spec_l2Deep.f; exact hdeep) ?_)
      refine Pl.ev_ite_neg hd (Pl.ev_ite_pos (by omega) (Pl.ev_ite_pos (by omega) ?_))
      rw [decide_eq_false (show ¬ ((rd_T40 p (i : Int)).f2.length : Int) > 6 from ha)]
      refine Ev.step (fun k => by rw [spec_l2Fault.j4]) ?_
      rw [Pl.wrap_nat (show i < 9223372036854775807 by omega)]
      refine Pl.ev_ite_neg (by simp) (Pl.ev_ite_pos (by omega) (Pl.ev_ite_pos (by omega) (Pl.ev_bind' sA ?_)))
      by_cases hc : attrsC (rdE p i).f2 0 (rdE p i).f2 = 0
      ·exact Pl.ev_ite_pos hc (h2 hc)
      ·rw [h1 hc]
       exact Pl.ev_ite_neg hc (Ev.now _)
     ·simp only [hlast, codeIf_eq, Option.bind_some]
      refine Pl.ev_ite_neg hd (Pl.ev_bind' mA (Pl.ev_bind' (firstCode_ev _ (by simp)) ?_))
      rw [f1of2, decide_eq_false ha]
      simp only [Bool.false_eq_true, if_false, if_true]
      by_cases hc : attrsC (rdE p i).f2 0 (rdE p i).f2 = 0
      ·exact Pl.ev_ite_pos hc (h2 hc)
      ·rw [h1 hc]
       exact Pl.ev_ite_neg hc (Ev.now _)
 ·refine ⟨Pl.nameC (rdE p i).f0.data.toList, fun R h1 _ => spec R (fun h' => h1 h') (fun h' => absurd h' hn), fun R h1 _ => ?_, fun h' => absurd h' hn⟩
  rcases next_evE hi h40 h with ⟨hr, nx⟩ | ⟨hr, b, b1, b2, nx⟩
  ·exact implpre _ _ _ R nx (fun _ => by rw [if_neg hn]; exact h1 hn) (fun h' => absurd h' hn)
  ·cases hb : b
   ·rw [hb] at nx
    exact implpre _ _ _ R nx (fun _ => by rw [if_neg hn]; exact h1 hn) (fun h' => absurd h' hn)
   ·rw [hb] at nx
    exact implpre _ _ _ R nx (fun _ => by rw [if_neg hn]; exact h1 hn) (fun h' => absurd h' hn)
theorem tree_good (p : List StE) (hl : p.length ≤ 1048576) (hz : sizedE p) : ∃ c : Int, Ev (fun k => spec_l2Fault.f k p) c ∧ Ev (fun k => impl_TreeFault.f k p) c ∧ (c = 0 → (1 ≤ p.length ∧ p.length ≤ 40) ∧ treeOkE p p.length ∧ ∀ i, i < p.length → goodE p i) := by
 by_cases hb : 1 ≤ p.length ∧ p.length ≤ 40
 ·have main : ∀ d i : Nat, p.length - i = d → i ≤ p.length → treeOkE p i → (∀ j, j < i → goodE p j) → ∃ c : Int, Ev (fun k => spec_l2Fault.l0 k p i) c ∧ Ev (fun k => impl_TreeFault.l0 k p (p.length : Int) i (plE p i) (dlE p i)) c ∧ (c = 0 → (1 ≤ p.length ∧ p.length ≤ 40) ∧ treeOkE p p.length ∧ ∀ i, i < p.length → goodE p i) := by
   intro d
   induction d with
   | zero =>
    intro i hd hi ht hg
    obtain rfl : i = p.length := by omega
    refine ⟨0, ?_, ?_, fun _ => ⟨hb, ht, hg⟩⟩
    ·refine Ev.step (fun k => by rw [spec_l2Fault.l0]) ?_
     exact Pl.ev_ite_neg (by omega) (Ev.now _)
    ·refine Ev.step (fun k => by rw [impl_TreeFault.l0]) ?_
     exact Pl.ev_ite_neg (by omega) (Ev.now _)
   | succ d ih =>
    intro i hd hi ht hg
    obtain ⟨c, s, m, n⟩ := oneE_ev (show i < p.length by omega) hb.2 ht hz
    by_cases hc : c = 0
    ·obtain ⟨c2, s2, m2, n2⟩ := ih (i + 1) (by omega) (by omega) (n hc).1 (fun j hj => by
      by_cases hj' : j < i
      ·exact hg j hj'
      ·obtain rfl : j = i := by omega
       exact (n hc).2)
     rw [show ((i + 1 : Nat) : Int) = (i : Int) + 1 from by omega] at s2 m2
     exact ⟨c2, s c2 (fun h' => absurd hc h') (fun _ => s2), m c2 (fun h' => absurd hc h') (fun _ => m2), n2⟩
    ·exact ⟨c, s c (fun _ => rfl) (fun h' => absurd h' hc), m c (fun _ => rfl) (fun h' => absurd h' hc), fun h' => absurd h' hc⟩
  obtain ⟨c, s, m, n⟩ := main p.length 0 (by omega) (by omega) (fun j hj => absurd hj (by omega)) (fun j hj => absurd hj (by omega))
  refine ⟨c, ?_, ?_, n⟩
  ·unfold spec_l2Fault.f
   refine Pl.ev_ite_neg (by omega) ?_
   refine Ev.step (fun k => by rw [spec_l2Fault.j0]) ?_
   exact Pl.ev_ite_neg (by simp; omega) s
  ·unfold impl_TreeFault.f
   simp only [inRange_eq, Option.bind_some]
   exact Pl.ev_ite_pos (by simp; omega) m
 ·refine ⟨2, ?_, ?_, fun h' => absurd h' (by omega)⟩
  ·unfold spec_l2Fault.f
   have out : Ev (fun k => spec_l2Fault.j0 k p true) 2 := by
    refine Ev.step (fun k => by rw [spec_l2Fault.j0]) ?_
    exact Pl.ev_ite_pos rfl (Ev.now _)
   by_cases h1 : (p.length : Int) < 1
   ·exact Pl.ev_ite_pos h1 out
   ·refine Pl.ev_ite_neg h1 ?_
    rw [decide_eq_true (show (p.length : Int) > 40 by omega)]
    exact out
  ·unfold impl_TreeFault.f
   simp only [inRange_eq, Option.bind_some]
   exact Pl.ev_ite_neg (by simp; omega) (Ev.now _)
theorem tree_ev (p : List StE) (hl : p.length ≤ 1048576) (hz : sizedE p) : ∃ c : Int, Ev (fun k => spec_l2Fault.f k p) c ∧ Ev (fun k => impl_TreeFault.f k p) c ∧ (c = 0 → (1 ≤ p.length ∧ p.length ≤ 40) ∧ treeOkE p p.length) := by
 obtain ⟨c, a1, a2, a3⟩ := tree_good p hl hz
 exact ⟨c, a1, a2, fun h => ⟨(a3 h).1, (a3 h).2.1⟩⟩
theorem sizedE_map (a : List S35) (h : ∀ y ∈ a, bElem y) : sizedE (a.map toElem) := by
 intro i hi
 rw [List.length_map] at hi
 have e : rdE (a.map toElem) (i : Int) = toElem a[i] := by
  show rd_T40 (a.map toElem) (i : Int) = _
  rw [rd_iElem _ i (by simpa using hi)]
  simp
 rw [e]
 obtain ⟨b1, b2, b3⟩ := h _ (List.getElem_mem hi)
 refine ⟨b1, by simpa [toElem] using b2, fun y hy => ?_⟩
 obtain ⟨z, hz, rfl⟩ := List.mem_map.1 (show y ∈ a[i].f2.map toAttr from hy)
 exact b3 z hz
def kidsC (p : List StE) (a : Int) (n : Nat) : List Int := ((List.range n).filter fun (j : Nat) => decide (prE p (j : Int) = a)).map fun (j : Nat) => (j : Int)
theorem kidsC_len (p : List StE) (a : Int) (n : Nat) : (kidsC p a n).length ≤ n := by
 unfold kidsC
 rw [List.length_map]
 have := List.length_filter_le (fun (j : Nat) => decide (prE p (j : Int) = a)) (List.range n)
 simpa using this
theorem kidsC_succ (p : List StE) (a : Int) (n : Nat) : kidsC p a (n + 1) = kidsC p a n ++ (if prE p (n : Int) = a then [(n : Int)] else []) := by
 unfold kidsC
 rw [List.range_succ, List.filter_append, List.map_append]
 congr 1
 by_cases h : prE p (n : Int) = a
 ·simp [h]
 ·simp [h]
theorem specKids_ev (p : List StE) (hl : p.length ≤ 1048576) (a : Int) : Ev (fun k => spec_l2Kids.f k p a) (kidsC p a p.length) := by
 unfold spec_l2Kids.f
 refine Pl.loop (σ := List Int) (n := p.length) (g := fun k i s => spec_l2Kids.l0 k p a s i) (F := fun _ _ => kidsC p a p.length) (fun i s => s = kidsC p a i) ?_ ?_ 0 [] (Nat.zero_le _) rfl
 ·intro s hs
  refine Ev.step (fun k => by rw [spec_l2Kids.l0]) ?_
  rw [hs]
  exact Pl.ev_ite_neg (by omega) (Ev.now _)
 ·intro i s hi hs ih
  have e := kidsC_succ p a i
  have hle := kidsC_len p a i
  refine Ev.step (fun k => by rw [spec_l2Kids.l0]) ?_
  rw [Pl.wrap_nat (show i < 9223372036854775807 by omega)]
  refine Pl.ev_ite_pos (by omega) (Pl.ev_ite_pos (by omega) ?_)
  by_cases h : prE p (i : Int) = a
  ·rw [if_pos h] at e
   exact Pl.ev_ite_pos h (Pl.ev_ite_pos (by rw [hs]; omega) (ih _ (by rw [hs, e])))
  ·rw [if_neg h, List.append_nil] at e
   exact Pl.ev_ite_neg h (ih _ (by rw [hs, e]))
theorem implKids_ev (p : List StE) (hl : p.length ≤ 1048576) (ht : treeOkE p p.length) (a : Int) (h0 : 0 ≤ a) : Ev (fun k => impl_kidsOf.f k p a) (kidsC p a p.length) := by
 unfold impl_kidsOf.f
 refine Pl.loop (σ := List Int) (n := p.length) (g := fun k i s => impl_kidsOf.l0 k a s p (p.length : Int) i) (F := fun _ _ => kidsC p a p.length) (fun i s => s = kidsC p a i) ?_ ?_ 0 [] (Nat.zero_le _) rfl
 ·intro s hs
  refine Ev.step (fun k => by rw [impl_kidsOf.l0]) ?_
  rw [hs]
  exact Pl.ev_ite_neg (by omega) (Ev.now _)
 ·intro i s hi hs ih
  have e := kidsC_succ p a i
  have hle := kidsC_len p a i
  refine Ev.step (fun k => by rw [impl_kidsOf.l0]) ?_
  rw [Pl.wrap_nat (show i < 9223372036854775807 by omega)]
  refine Pl.ev_ite_pos (by omega) (Pl.ev_ite_pos (by omega) (Pl.ev_ite_pos (by omega) ?_))
  by_cases h : prE p (i : Int) = a
  ·rw [if_pos h] at e
   have hi0 : 0 < i := by
    by_cases hz : i = 0
    ·have := (ht i hi).1 hz
     omega
    ·omega
   exact Pl.ev_ite_pos h (Pl.ev_ite_pos (by omega) (Pl.ev_ite_pos (by rw [hs]; omega) (ih _ (by rw [hs, e]))))
  ·rw [if_neg h, List.append_nil] at e
   exact Pl.ev_ite_neg h (ih _ (by rw [hs, e]))
/-! the written form -/
theorem app_arr (L M : List UInt8) : (⟨L.toArray⟩ : ByteArray) ++ ⟨M.toArray⟩ = ⟨(L ++ M).toArray⟩ := by
 apply ByteArray.ext
 rw [ByteArray.data_append]
 simp
theorem extract_one (s : ByteArray) (i : Nat) (hi : i < s.data.toList.length) : s.extract i (i + 1) = ⟨[s.data.toList[i]].toArray⟩ := by
 apply ByteArray.ext
 rw [ByteArray.data_extract]
 have hi' : i < s.data.size := by simpa using hi
 have hzz : s.data.size = s.size := rfl
 apply Array.ext
 ·simp
  omega
 ·intro k h1 h2
  have : k = 0 := by simp at h2; exact h2
  subst this
  simp
theorem arr_size (L : List UInt8) : (⟨L.toArray⟩ : ByteArray).size = L.length := by simp [ByteArray.size]
theorem specEsc_ev (s : ByteArray) (hs : s.size ≤ 1000000) : Ev (fun k => spec_l1Escape.f k s) (escB s) := by
 have hz : s.data.toList.length = s.size := rfl
 unfold spec_l1Escape.f
 have main := Pl.loop (n := s.data.toList.length) (g := fun k i acc => spec_l1Escape.l0 k s acc i) (F := fun _ _ => escB s) (fun i acc => acc = ⟨(escL (s.data.toList.take i)).toArray⟩) ?_ ?_ 0 (⟨#[]⟩ : ByteArray) (Nat.zero_le _) rfl
 ·exact main
 ·rintro acc rfl
  refine Ev.step (fun k => by rw [spec_l1Escape.l0]) ?_
  refine Pl.ev_ite_neg (by omega) (Pl.ev_to (Ev.now _) ?_)
  rw [List.take_length]
  rfl
 ·rintro i acc hi rfl ih
  refine Ev.step (fun k => by rw [spec_l1Escape.l0]) ?_
  have hle := (escL_le (s.data.toList.take i)).2
  have hlt : (s.data.toList.take i).length = i := List.length_take_of_le (Nat.le_of_lt hi)
  have hst := escL_step s.data.toList i hi
  rw [Pl.bt_l rfl i hi, Pl.wrap_nat (show i < 9223372036854775807 by omega)]
  refine Pl.ev_ite_pos (by omega) (Pl.ev_ite_pos (by omega) ?_)
  rw [arr_size]
  rcases repOf_cases s.data.toList[i] with ⟨e, e2⟩ | ⟨e, e2⟩ | ⟨e, e2⟩ | ⟨e, e2⟩ | ⟨n1, n2, n3, n4, e2⟩
  ·rw [e]
   refine Pl.ev_ite_neg (by decide) (Pl.ev_ite_neg (by decide) (Pl.ev_ite_neg (by decide) (Pl.ev_ite_pos (by decide) (Pl.ev_ite_pos (by omega) ?_))))
   refine ih _ ?_
   rw [hst, esc1_some e2]
   exact app_arr _ [38, 113, 117, 111, 116, 59]
  ·rw [e]
   refine Pl.ev_ite_neg (by decide) (Pl.ev_ite_neg (by decide) (Pl.ev_ite_pos (by decide) (Pl.ev_ite_pos (by omega) ?_)))
   refine ih _ ?_
   rw [hst, esc1_some e2]
   exact app_arr _ [38, 97, 109, 112, 59]
  ·rw [e]
   refine Pl.ev_ite_neg (by decide) (Pl.ev_ite_pos (by decide) (Pl.ev_ite_pos (by omega) ?_))
   refine ih _ ?_
   rw [hst, esc1_some e2]
   exact app_arr _ [38, 103, 116, 59]
  ·rw [e]
   refine Pl.ev_ite_pos (by decide) (Pl.ev_ite_pos (by omega) ?_)
   refine ih _ ?_
   rw [hst, esc1_some e2]
   exact app_arr _ [38, 108, 116, 59]
  ·have ne : ∀ m : UInt8, s.data.toList[i] ≠ m → ((s.data.toList[i].toNat : Nat) : Int) ≠ ((m.toNat : Nat) : Int) := fun m h e => h (UInt8.toNat_inj.1 (by omega))
   refine Pl.ev_ite_neg (ne 60 n4) (Pl.ev_ite_neg (ne 62 n3) (Pl.ev_ite_neg (ne 38 n2) (Pl.ev_ite_neg (ne 34 n1) (Pl.ev_ite_pos (by omega) (Pl.ev_ite_pos (by omega) ?_)))))
   have ex : s.extract (i : Int).toNat ((i : Int) + 1).toNat = ⟨[s.data.toList[i]].toArray⟩ := by
    rw [show ((i : Int)).toNat = i by omega, show ((i : Int) + 1).toNat = i + 1 by omega]
    exact extract_one s i hi
   rw [ex, arr_size]
   refine Pl.ev_ite_pos (by simp; omega) ?_
   refine ih _ ?_
   rw [hst, esc1_none e2]
   exact app_arr _ _
theorem sz1 (c : UInt8) : (⟨#[c]⟩ : ByteArray).size = 1 := rfl
theorem sz2 (c d : UInt8) : (⟨#[c, d]⟩ : ByteArray).size = 2 := rfl
theorem escB_size (s : ByteArray) : (escB s).size ≤ 6 * s.size := by
 have h := (escL_le s.data.toList).2
 have e : (escB s).size = (escL s.data.toList).length := by simp [escB, ByteArray.size]
 have z : s.data.toList.length = s.size := rfl
 omega
theorem name_short {l : List UInt8} (h : Pl.nameC l = 0) : l.length ≤ 8 := by
 unfold Pl.nameC at h
 split at h
 ·omega
 ·split at h
  ·split at h <;> omega
  ·omega
theorem value_short {l : List UInt8} (h : Pl.valueC l = 0) : l.length ≤ 40 := by
 unfold Pl.valueC at h
 split at h <;> omega
theorem attrs_good (l : List At) : ∀ (r : List At) (i : Nat), attrsC l i r = 0 → ∀ x ∈ r, x.f0.size ≤ 8 ∧ x.f1.size ≤ 40
 | [], _, _ => by simp
 | y :: r, i, h => by
  unfold attrsC at h
  by_cases hc : attrC l i y = 0
  ·rw [if_pos hc] at h
   intro x hx
   rcases List.mem_cons.1 hx with rfl | hx
   ·unfold attrC at hc
    rw [f1of3] at hc
    by_cases hn : Pl.nameC x.f0.data.toList = 0
    ·rw [if_pos hn] at hc
     have a := name_short hn
     rw [Pl.size_toList] at a
     by_cases q : findC (l.take i) x.f0.toList 0 ≥ 0
     ·rw [if_pos q, if_neg (by omega)] at hc
      exact absurd hc (by omega)
     ·rw [if_neg q, if_pos rfl] at hc
      have b := value_short hc
      rw [Pl.size_toList] at b
      exact ⟨a, b⟩
    ·rw [if_neg hn] at hc
     exact absurd hc hn
   ·exact attrs_good l r (i + 1) h x hx
  ·rw [if_neg hc] at h
   exact absurd h hc
/-! what begins an element -/
def attrT (x : At) : ByteArray := ((((⟨#[32]⟩ : ByteArray) ++ x.f0) ++ (⟨#[61, 34]⟩ : ByteArray)) ++ escB x.f1) ++ (⟨#[34]⟩ : ByteArray)
def attrsT (s : ByteArray) (l : List At) : ByteArray := l.foldl (fun a x => a ++ attrT x) s
theorem attrT_size (x : At) (h : x.f0.size ≤ 8 ∧ x.f1.size ≤ 40) : (attrT x).size ≤ 252 := by
 have := escB_size x.f1
 unfold attrT
 simp only [ByteArray.size_append, sz1, sz2]
 omega
def kidsN (p : List StE) (a n : Nat) : List Nat := (List.range n).filter fun (j : Nat) => decide (prE p (j : Int) = (a : Int))
theorem kidsC_N (p : List StE) (a n : Nat) : kidsC p (a : Int) n = (kidsN p a n).map fun (j : Nat) => (j : Int) := rfl
theorem kidsN_len (p : List StE) (a n : Nat) : (kidsN p a n).length ≤ n := by
 have := kidsC_len p (a : Int) n
 rwa [kidsC_N, List.length_map] at this
def markC (p : List StE) (a : Nat) : ByteArray := attrsT ((⟨#[60]⟩ : ByteArray) ++ (rdE p (a : Int)).f0) (rdE p (a : Int)).f2 ++ (if kidsN p a p.length = [] then (⟨#[47, 62]⟩ : ByteArray) else (⟨#[62]⟩ : ByteArray))
theorem good_sizes {p : List StE} {a : Nat} (h : goodE p a) : (rdE p (a : Int)).f0.size ≤ 8 ∧ (rdE p (a : Int)).f2.length ≤ 6 ∧ ∀ x ∈ (rdE p (a : Int)).f2, x.f0.size ≤ 8 ∧ x.f1.size ≤ 40 := by
 obtain ⟨h1, h2, h3⟩ := h
 have := name_short h1
 rw [Pl.size_toList] at this
 exact ⟨this, h2, attrs_good _ _ 0 h3⟩
theorem attrsT_size (l : List At) (h : ∀ x ∈ l, x.f0.size ≤ 8 ∧ x.f1.size ≤ 40) : ∀ s, (attrsT s l).size ≤ s.size + 252 * l.length := by
 induction l with
 | nil => intro s; simp [attrsT]
 | cons x l ih =>
  intro s
  have h1 := ih (fun y hy => h y (List.mem_cons_of_mem _ hy)) (s ++ attrT x)
  have h2 := attrT_size x (h x (List.mem_cons_self ..))
  rw [ByteArray.size_append] at h1
  have e : attrsT s (x :: l) = attrsT (s ++ attrT x) l := rfl
  rw [e, List.length_cons]
  omega
theorem markC_size {p : List StE} {a : Nat} (h : goodE p a) : (markC p a).size ≤ 1523 := by
 obtain ⟨g1, g2, g3⟩ := good_sizes h
 have h1 := attrsT_size _ g3 ((⟨#[60]⟩ : ByteArray) ++ (rdE p (a : Int)).f0)
 unfold markC
 rw [ByteArray.size_append] at h1 ⊢
 rw [sz1] at h1
 split
 ·rw [sz2]
  omega
 ·rw [sz1]
  omega
theorem kids_nil (p : List StE) (a n : Nat) : ((kidsC p (a : Int) n).length : Int) = 0 ↔ kidsN p a n = [] := by
 rw [kidsC_N, List.length_map]
 constructor
 ·intro h
  exact List.eq_nil_of_length_eq_zero (by omega)
 ·intro h
  rw [h]
  rfl
theorem mark_end {p : List StE} {a : Nat} (s : ByteArray) (hs : s.size ≤ 1521) :
  Ev (fun _ => if ((kidsC p (a : Int) p.length).length : Int) = 0 then (if s.size + 2 ≤ 9223372036854775807 then (some (s ++ (⟨#[47, 62]⟩ : ByteArray))) else (none)) else (if s.size + 1 ≤ 9223372036854775807 then (some (s ++ (⟨#[62]⟩ : ByteArray))) else (none))) (s ++ (if kidsN p a p.length = [] then (⟨#[47, 62]⟩ : ByteArray) else (⟨#[62]⟩ : ByteArray))) := by
 by_cases h : kidsN p a p.length = []
 ·rw [if_pos h]
  exact Pl.ev_ite_pos ((kids_nil p a _).2 h) (Pl.ev_ite_pos (by omega) (Ev.now _))
 ·rw [if_neg h]
  exact Pl.ev_ite_neg (fun h' => h ((kids_nil p a _).1 h')) (Pl.ev_ite_pos (by omega) (Ev.now _))
theorem begin_ev {p : List StE} (hl : p.length ≤ 1048576) (ht : treeOkE p p.length) {a : Nat} (ha : a < p.length) (hg : goodE p a) : Ev (fun k => impl_begin.f k p (a : Int)) (markC p a) := by
 obtain ⟨g1, g2, g3⟩ := good_sizes hg
 have main := Pl.loop (n := (rdE p (a : Int)).f2.length) (g := fun k i s => impl_begin.l0 k p (a : Int) s (rdE p (a : Int)).f2 ((rdE p (a : Int)).f2.length : Int) i)
  (F := fun i s => attrsT s ((rdE p (a : Int)).f2.drop i) ++ (if kidsN p a p.length = [] then (⟨#[47, 62]⟩ : ByteArray) else (⟨#[62]⟩ : ByteArray))) (fun i s => s.size ≤ 9 + 252 * i) ?_ ?_ 0 ((⟨#[60]⟩ : ByteArray) ++ (rdE p (a : Int)).f0) (Nat.zero_le _) (by rw [ByteArray.size_append, sz1]; omega)
 ·unfold impl_begin.f
  exact Pl.ev_ite_pos (by omega) (Pl.ev_ite_pos (by omega) (Pl.ev_ite_pos (show 1 + (rdE p (a : Int)).f0.size ≤ 9223372036854775807 by omega) main))
 ·intro s hs
  refine Ev.step (fun k => by rw [impl_begin.l0]) ?_
  rw [Pl.drop_end]
  refine Pl.ev_ite_neg (by omega) (Pl.ev_bind' (implKids_ev p hl ht (a : Int) (by omega)) ?_)
  exact mark_end s (by omega)
 ·intro i s hi hs ih
  refine Ev.step (fun k => by rw [impl_begin.l0]) ?_
  obtain ⟨b1, b2⟩ := g3 _ (List.getElem_mem hi)
  have he := escB_size (rdE p (a : Int)).f2[i].f1
  have hA : attrT (rdE p (a : Int)).f2[i] = ((((⟨#[32]⟩ : ByteArray) ++ (rdE p (a : Int)).f2[i].f0) ++ (⟨#[61, 34]⟩ : ByteArray)) ++ escB (rdE p (a : Int)).f2[i].f1) ++ (⟨#[34]⟩ : ByteArray) := rfl
  have hAz := attrT_size _ ⟨b1, b2⟩
  have q : impl_escape.f (rdE p (a : Int)).f2[i].f1 = some (escB (rdE p (a : Int)).f2[i].f1) := if_pos (by omega)
  rw [Pl.wrap_nat (show i < 9223372036854775807 by omega), rd_iAttr _ i hi, q]
  simp only [Option.bind_some, ← hA]
  refine Pl.ev_ite_pos (by omega) (Pl.ev_ite_pos (by omega) (Pl.ev_ite_pos (by omega) (Pl.ev_ite_pos (by omega) (Pl.ev_ite_pos ?_ (Pl.ev_ite_pos ?_ (Pl.ev_ite_pos ?_ (Pl.ev_ite_pos (by omega) ?_)))))))
  ·simp only [ByteArray.size_append, sz1, sz2]
   omega
  ·simp only [ByteArray.size_append, sz1, sz2]
   omega
  ·simp only [ByteArray.size_append, sz1, sz2]
   omega
  ·refine Pl.ev_to (ih _ (by rw [ByteArray.size_append]; omega)) ?_
   rw [Pl.drop_get hi]
   rfl
theorem specMark_ev {p : List StE} (hl : p.length ≤ 1048576) {a : Nat} (ha : a < p.length) (hg : goodE p a) : Ev (fun k => spec_l2Mark.f k p (a : Int)) (markC p a) := by
 obtain ⟨g1, g2, g3⟩ := good_sizes hg
 have main := Pl.loop (n := (rdE p (a : Int)).f2.length) (g := fun k i s => spec_l2Mark.l0 k p (a : Int) s i)
  (F := fun i s => attrsT s ((rdE p (a : Int)).f2.drop i) ++ (if kidsN p a p.length = [] then (⟨#[47, 62]⟩ : ByteArray) else (⟨#[62]⟩ : ByteArray))) (fun i s => s.size ≤ 9 + 252 * i) ?_ ?_ 0 ((⟨#[60]⟩ : ByteArray) ++ (rdE p (a : Int)).f0) (Nat.zero_le _) (by rw [ByteArray.size_append, sz1]; omega)
 ·unfold spec_l2Mark.f
  exact Pl.ev_ite_pos (by omega) (Pl.ev_ite_pos (by omega) (Pl.ev_ite_pos (show 1 + (rdE p (a : Int)).f0.size ≤ 9223372036854775807 by omega) main))
 ·intro s hs
  refine Ev.step (fun k => by rw [spec_l2Mark.l0]) ?_
  rw [show rd_T40 p (a : Int) = rdE p (a : Int) from rfl]
  rw [Pl.drop_end]
  refine Pl.ev_ite_pos (by omega) (Pl.ev_ite_pos (by omega) (Pl.ev_ite_neg (by omega) (Pl.ev_bind' (specKids_ev p hl (a : Int)) ?_)))
  exact mark_end s (by omega)
 ·intro i s hi hs ih
  refine Ev.step (fun k => by rw [spec_l2Mark.l0]) ?_
  rw [show rd_T40 p (a : Int) = rdE p (a : Int) from rfl]
  obtain ⟨b1, b2⟩ := g3 _ (List.getElem_mem hi)
  have he := escB_size (rdE p (a : Int)).f2[i].f1
  have hA : (((((s ++ (⟨#[32]⟩ : ByteArray)) ++ (rdE p (a : Int)).f2[i].f0) ++ (⟨#[61, 34]⟩ : ByteArray)) ++ escB (rdE p (a : Int)).f2[i].f1) ++ (⟨#[34]⟩ : ByteArray)) = s ++ attrT (rdE p (a : Int)).f2[i] := by
   unfold attrT
   simp only [ByteArray.append_assoc]
  have hAz := attrT_size _ ⟨b1, b2⟩
  rw [Pl.wrap_nat (show i < 9223372036854775807 by omega), rd_iAttr _ i hi]
  refine Pl.ev_ite_pos (by omega) (Pl.ev_ite_pos (by omega) (Pl.ev_ite_pos (by omega) (Pl.ev_ite_pos (by omega) (Pl.ev_ite_pos (by omega) (Pl.ev_ite_pos ?_ (Pl.ev_ite_pos ?_ (Pl.ev_bind' (specEsc_ev _ (by omega)) (Pl.ev_ite_pos ?_ (Pl.ev_ite_pos ?_ ?_)))))))))
  ·simp only [ByteArray.size_append, sz1, sz2]
   omega
  ·simp only [ByteArray.size_append, sz1, sz2]
   omega
  ·simp only [ByteArray.size_append, sz1, sz2]
   omega
  ·simp only [ByteArray.size_append, sz1, sz2]
   omega
  ·rw [hA]
   refine Pl.ev_to (ih _ (by rw [ByteArray.size_append]; omega)) ?_
   rw [Pl.drop_get hi]
   rfl
/-! an element's text -/
def closeT (p : List StE) (a : Nat) : ByteArray := ((⟨#[60, 47]⟩ : ByteArray) ++ (rdE p (a : Int)).f0) ++ (⟨#[62]⟩ : ByteArray)
def wrF : Nat → List StE → Nat → ByteArray
 | 0, _, _ => ⟨#[]⟩
 | f + 1, p, a => if kidsN p a p.length = [] then markC p a else (kidsN p a p.length).foldl (fun s k => s ++ wrF f p k) (markC p a) ++ closeT p a
def bsum (n : Nat) (l : List Nat) : Nat := (l.map fun k => 1600 * 2 ^ (n - 1 - k)).sum
theorem bsum_cons (n k : Nat) (l : List Nat) : bsum n (k :: l) = 1600 * 2 ^ (n - 1 - k) + bsum n l := by simp [bsum]
theorem kidsN_succ (p : List StE) (a n : Nat) : kidsN p a (n + 1) = kidsN p a n ++ (if prE p (n : Int) = (a : Int) then [n] else []) := by
 unfold kidsN
 rw [List.range_succ, List.filter_append]
 congr 1
 by_cases h : prE p (n : Int) = (a : Int)
 ·simp [h]
 ·simp [h]
theorem kidsN_behind {p : List StE} {n : Nat} (ht : treeOkE p n) (a : Nat) : ∀ k ∈ kidsN p a n, a < k ∧ k < n := by
 intro k hk
 unfold kidsN at hk
 simp only [List.mem_filter, List.mem_range, decide_eq_true_eq] at hk
 obtain ⟨h1, h2⟩ := ht k hk.1
 refine ⟨?_, hk.1⟩
 by_cases h0 : k = 0
 ·have := h1 h0
  omega
 ·have := (h2 (by omega)).2
  omega
theorem bsum_le {p : List StE} {n : Nat} (ht : treeOkE p n) (a : Nat) : ∀ m, a + 1 ≤ m → m ≤ n → bsum n (kidsN p a m) + 1600 * 2 ^ (n - m) ≤ 1600 * 2 ^ (n - 1 - a) := by
 intro m
 induction m with
 | zero => intro h; omega
 | succ m ih =>
  intro h1 h2
  by_cases hm : a + 1 ≤ m
  ·have h3 := ih hm (by omega)
   rw [kidsN_succ]
   have e : bsum n (kidsN p a m ++ (if prE p (m : Int) = (a : Int) then [m] else [])) ≤ bsum n (kidsN p a m) + 1600 * 2 ^ (n - 1 - m) := by
    split
    ·simp [bsum]
    ·simp
   have e2 : 2 ^ (n - m) = 2 * 2 ^ (n - 1 - m) := by
    rw [show n - m = (n - 1 - m) + 1 from by omega, Nat.pow_succ]
    omega
   rw [show n - (m + 1) = n - 1 - m from by omega]
   omega
  ·obtain rfl : m = a := by omega
   have e : kidsN p m (m + 1) = [] := by
    apply List.eq_nil_iff_forall_not_mem.2
    intro k hk
    have := (kidsN_behind (n := m + 1) (fun j hj => ht j (by omega)) m k hk)
    omega
   rw [e]
   simp only [bsum, List.map_nil, List.sum_nil]
   rw [show n - (m + 1) = n - 1 - m from by omega]
   omega
theorem pow_small {n : Nat} (h : n ≤ 40) (a : Nat) : 2 ^ (n - 1 - a) ≤ 549755813888 := by
 have := Nat.pow_le_pow_right (show 0 < 2 by omega) (show n - 1 - a ≤ 39 by omega)
 simpa using this
theorem kid_at (p : List StE) (a n i : Nat) (h : i < (kidsN p a n).length) : rd (kidsC p (a : Int) n) (i : Int) = ((kidsN p a n)[i] : Int) := by
 rw [Pl.rd_get _ i (by rw [kidsC_N, List.length_map]; exact h)]
 simp [kidsC_N]
theorem write_ev {p : List StE} (hl : p.length ≤ 40) (ht : treeOkE p p.length) (hg : ∀ i, i < p.length → goodE p i) : ∀ f a, a < p.length → p.length - a ≤ f →
  Ev (fun k => impl_write.f k p (a : Int)) (wrF f p a) ∧ Ev (fun k => spec_l2Write.f k p (a : Int)) (wrF f p a) ∧ (wrF f p a).size ≤ 1600 * 2 ^ (p.length - 1 - a) := by
 intro f
 induction f with
 | zero => intro a h1 h2; omega
 | succ f ih =>
  intro a ha hf
  have hb := begin_ev (by omega) ht ha (hg a ha)
  have hm := specMark_ev (by omega) ha (hg a ha)
  have hmz := markC_size (hg a ha)
  have hI := implKids_ev p (by omega) ht (a : Int) (by omega)
  have hS := specKids_ev p (by omega) (a : Int)
  have hpow : 1 ≤ 2 ^ (p.length - 1 - a) := Nat.one_le_two_pow
  have hp40 := pow_small hl a
  obtain ⟨g1, _, _⟩ := good_sizes (hg a ha)
  have hcz : (closeT p a).size ≤ 11 := by
   unfold closeT
   simp only [ByteArray.size_append, sz1, sz2]
   omega
  by_cases hk : kidsN p a p.length = []
  ·have e : wrF (f + 1) p a = markC p a := by rw [wrF, if_pos hk]
   rw [e]
   have hk0 := (kids_nil p a p.length).2 hk
   refine ⟨?_, ?_, by omega⟩
   ·refine Ev.step (fun k => by rw [impl_write.f]) ?_
    refine Pl.ev_bind' hb (Pl.ev_bind' hI ?_)
    refine Ev.step (fun k => by rw [impl_write.l0]) ?_
    exact Pl.ev_ite_neg (by omega) (Pl.ev_ite_neg (by omega) (Ev.now _))
   ·refine Ev.step (fun k => by rw [spec_l2Write.f]) ?_
    exact Pl.ev_ite_pos (by omega) (Pl.ev_ite_pos (by omega) (Pl.ev_bind' hm (Pl.ev_bind' hS (Pl.ev_ite_pos hk0 (Ev.now _)))))
  ·have e : wrF (f + 1) p a = (kidsN p a p.length).foldl (fun s k => s ++ wrF f p k) (markC p a) ++ closeT p a := by rw [wrF, if_neg hk]
   have hkl : ((kidsC p (a : Int) p.length).length : Int) = ((kidsN p a p.length).length : Int) := by rw [kidsC_N, List.length_map]
   have hlen := kidsN_len p a p.length
   have hbs := bsum_le ht a p.length (by omega) (Nat.le_refl _)
   rw [Nat.sub_self, Nat.pow_zero] at hbs
   have hkn : ¬ ((kidsC p (a : Int) p.length).length : Int) = 0 := fun h => hk ((kids_nil p a _).1 h)
   have hend : ∀ s : ByteArray, s.size ≤ 1523 + bsum p.length (kidsN p a p.length) → s.size + (closeT p a).size ≤ 9223372036854775807 := fun s hs => by omega
   have hkid : ∀ i (hi : i < (kidsN p a p.length).length), _ := fun i hi => ih ((kidsN p a p.length)[i]) (kidsN_behind ht a _ (List.getElem_mem hi)).2 (by have := (kidsN_behind ht a _ (List.getElem_mem hi)).1; omega)
   have fsize : ∀ (l : List Nat) (s : ByteArray), (∀ k ∈ l, k ∈ kidsN p a p.length) → (l.foldl (fun s k => s ++ wrF f p k) s).size ≤ s.size + bsum p.length l := by
    intro l
    induction l with
    | nil => intro s _; simp [bsum]
    | cons k l ihl =>
     intro s hs
     have h1 := ihl (s ++ wrF f p k) (fun y hy => hs y (List.mem_cons_of_mem _ hy))
     have hk' := kidsN_behind ht a k (hs k (List.mem_cons_self ..))
     have h2 := (ih k hk'.2 (by omega)).2.2
     rw [ByteArray.size_append] at h1
     rw [List.foldl_cons, bsum_cons]
     omega
   rw [e]
   refine ⟨?_, ?_, ?_⟩
   ·refine Ev.step (fun k => by rw [impl_write.f]) ?_
    refine Pl.ev_bind' hb (Pl.ev_bind' hI ?_)
    have main := Pl.loop (n := (kidsN p a p.length).length) (g := fun k i s => impl_write.l0 k p (a : Int) s (kidsC p (a : Int) p.length) (kidsC p (a : Int) p.length) ((kidsC p (a : Int) p.length).length : Int) i)
     (F := fun i s => ((kidsN p a p.length).drop i).foldl (fun s k => s ++ wrF f p k) s ++ closeT p a) (fun i s => s.size + bsum p.length ((kidsN p a p.length).drop i) ≤ 1523 + bsum p.length (kidsN p a p.length)) ?_ ?_ 0 (markC p a) (Nat.zero_le _) (by rw [List.drop_zero]; omega)
    ·exact main
    ·intro s hs
     refine Ev.step (fun k => by rw [impl_write.l0]) ?_
     rw [show rd_T40 p (a : Int) = rdE p (a : Int) from rfl]
     rw [Pl.drop_end] at hs ⊢
     have hs' := hend s (by omega)
     refine Pl.ev_ite_neg (by omega) (Pl.ev_ite_pos (by omega) (Pl.ev_ite_pos (by omega) (Pl.ev_ite_pos (by omega) (Pl.ev_ite_pos (by omega) (Pl.ev_ite_pos ?_ (Pl.ev_ite_pos hs' (Ev.now _)))))))
     rw [ByteArray.size_append, sz2]
     omega
    ·intro i s hi hs ihs
     refine Ev.step (fun k => by rw [impl_write.l0]) ?_
     obtain ⟨k1, k2, k3⟩ := hkid i hi
     rw [Pl.wrap_nat (show i < 9223372036854775807 by omega), kid_at p a p.length i hi]
     rw [Pl.drop_get hi, bsum_cons] at hs
     refine Pl.ev_ite_pos (by omega) (Pl.ev_ite_pos (by omega) (Pl.ev_ite_pos (by omega) (Pl.ev_bind' k1 (Pl.ev_ite_pos (by omega) ?_))))
     refine Pl.ev_to (ihs _ (by rw [ByteArray.size_append]; omega)) ?_
     rw [Pl.drop_get hi]
     rfl
   ·refine Ev.step (fun k => by rw [spec_l2Write.f]) ?_
    refine Pl.ev_ite_pos (by omega) (Pl.ev_ite_pos (by omega) (Pl.ev_bind' hm (Pl.ev_bind' hS (Pl.ev_ite_neg hkn ?_))))
    have main := Pl.loop (n := (kidsN p a p.length).length) (g := fun k i s => spec_l2Write.l0 k p (a : Int) s (kidsC p (a : Int) p.length) i)
     (F := fun i s => ((kidsN p a p.length).drop i).foldl (fun s k => s ++ wrF f p k) s ++ closeT p a) (fun i s => s.size + bsum p.length ((kidsN p a p.length).drop i) ≤ 1523 + bsum p.length (kidsN p a p.length)) ?_ ?_ 0 (markC p a) (Nat.zero_le _) (by rw [List.drop_zero]; omega)
    ·exact main
    ·intro s hs
     refine Ev.step (fun k => by rw [spec_l2Write.l0]) ?_
     rw [show rd_T40 p (a : Int) = rdE p (a : Int) from rfl]
     rw [Pl.drop_end] at hs ⊢
     have hs' := hend s (by omega)
     refine Pl.ev_ite_neg (by omega) (Pl.ev_ite_pos (by omega) (Pl.ev_ite_pos (by omega) (Pl.ev_ite_pos (by omega) (Pl.ev_ite_pos ?_ (Pl.ev_ite_pos ?_ (Pl.ev_to (Ev.now _) ?_))))))
     ·simp only [ByteArray.size_append, sz1, sz2]
      omega
     ·simp only [ByteArray.size_append, sz1, sz2]
      omega
     ·unfold closeT
      simp only [List.foldl_nil, ByteArray.append_assoc]
    ·intro i s hi hs ihs
     refine Ev.step (fun k => by rw [spec_l2Write.l0]) ?_
     obtain ⟨k1, k2, k3⟩ := hkid i hi
     rw [Pl.wrap_nat (show i < 9223372036854775807 by omega), kid_at p a p.length i hi]
     rw [Pl.drop_get hi, bsum_cons] at hs
     refine Pl.ev_ite_pos (by omega) (Pl.ev_ite_pos (by omega) (Pl.ev_bind' k2 (Pl.ev_ite_pos (by omega) ?_)))
     refine Pl.ev_to (ihs _ (by rw [ByteArray.size_append]; omega)) ?_
     rw [Pl.drop_get hi]
     rfl
   ·have := fsize (kidsN p a p.length) (markC p a) (fun _ h => h)
    rw [ByteArray.size_append]
    omega
/-! the whole -/
def longC (p : List StE) (i : Nat) : Bool := ((List.range p.length).drop i).any fun j => decide (600 < (markC p j).size)
theorem longC_step (p : List StE) (i : Nat) (hi : i < p.length) : longC p i = (decide (600 < (markC p i).size) || longC p (i + 1)) := by
 unfold longC
 rw [Pl.drop_get (l := List.range p.length) (by simpa using hi), List.any_cons]
 simp
theorem longC_end (p : List StE) : longC p p.length = false := by
 unfold longC
 rw [List.drop_of_length_le (by simp)]
 rfl
theorem write_tree {p : List StE} (hl : p.length ≤ 1048576) (hz : sizedE p) : ∃ r : Int × ByteArray, Ev (fun k => spec_WriteTree.f k p) r ∧ Ev (fun k => impl_WriteTree.f k p) r := by
 obtain ⟨c, s, m, n⟩ := tree_good p hl hz
 by_cases hc : c = 0
 ·obtain ⟨hb, ht, hg⟩ := n hc
  obtain ⟨w1, w2, w3⟩ := write_ev hb.2 ht hg p.length 0 (by omega) (by omega)
  refine ⟨if longC p 0 || decide (1500 < (wrF p.length p 0).size) then (2, ⟨#[]⟩) else (0, wrF p.length p 0), ?_, ?_⟩
  ·unfold spec_WriteTree.f
   refine Pl.ev_bind' s (Pl.ev_ite_pos hc ?_)
   refine Pl.loop0 (n := p.length) (g := fun k i => spec_WriteTree.l0 k p i) (F := fun i => if longC p i || decide (1500 < (wrF p.length p 0).size) then ((2 : Int), (⟨#[]⟩ : ByteArray)) else (0, wrF p.length p 0)) ?_ ?_ 0 (Nat.zero_le _)
   ·refine Ev.step (fun k => by rw [spec_WriteTree.l0]) ?_
    rw [longC_end, Bool.false_or]
    refine Pl.ev_ite_neg (by omega) (Pl.ev_bind' w2 ?_)
    by_cases h : 1500 < (wrF p.length p 0).size
    ·rw [decide_eq_true h]
     exact Pl.ev_ite_pos (by omega) (Ev.now _)
    ·rw [decide_eq_false h]
     exact Pl.ev_ite_neg (by omega) (Ev.now _)
   ·intro i hi ih
    refine Ev.step (fun k => by rw [spec_WriteTree.l0]) ?_
    rw [Pl.wrap_nat (show i < 9223372036854775807 by omega), longC_step p i hi]
    refine Pl.ev_ite_pos (by omega) (Pl.ev_bind' (specMark_ev hl hi (hg i hi)) ?_)
    by_cases h : 600 < (markC p i).size
    ·rw [decide_eq_true h]
     exact Pl.ev_ite_pos (by omega) (Ev.now _)
    ·rw [decide_eq_false h, Bool.false_or]
     exact Pl.ev_ite_neg (by omega) ih
  ·unfold impl_WriteTree.f
   refine Pl.ev_bind' m (Pl.ev_ite_pos hc (Pl.ev_bind' w1 ?_))
   have main := Pl.loop (n := p.length) (g := fun k i b => impl_WriteTree.l0 k p (wrF p.length p 0) b (p.length : Int) i) (F := fun i b => if b || longC p i then ((2 : Int), (⟨#[]⟩ : ByteArray)) else (0, wrF p.length p 0)) (fun _ _ => True) ?_ ?_ 0 (decide (((wrF p.length p 0).size : Int) > 1500)) (Nat.zero_le _) trivial
   ·refine Pl.ev_to main ?_
    rw [Bool.or_comm]
    congr 3
    rw [decide_eq_decide]
    omega
   ·intro b _
    refine Ev.step (fun k => by rw [impl_WriteTree.l0]) ?_
    rw [longC_end, Bool.or_false]
    refine Pl.ev_ite_neg (by omega) ?_
    cases b
    ·exact Pl.ev_ite_neg (by simp) (Ev.now _)
    ·exact Pl.ev_ite_pos rfl (Ev.now _)
   ·intro i b hi _ ih
    refine Ev.step (fun k => by rw [impl_WriteTree.l0]) ?_
    rw [Pl.wrap_nat (show i < 9223372036854775807 by omega), longC_step p i hi]
    refine Pl.ev_ite_pos (by omega) ?_
    cases b
    ·refine Pl.ev_ite_neg (by simp) (Pl.ev_bind' (begin_ev hl ht hi (hg i hi)) ?_)
     refine Pl.ev_to (ih _ trivial) ?_
     rw [Bool.false_or]
     congr 3
     rw [decide_eq_decide]
     omega
    ·refine Pl.ev_ite_pos rfl (Pl.ev_to (ih true trivial) ?_)
     simp
 ·refine ⟨(c, ⟨#[]⟩), ?_, ?_⟩
  ·unfold spec_WriteTree.f
   exact Pl.ev_bind' s (Pl.ev_ite_neg hc (Ev.now _))
  ·unfold impl_WriteTree.f
   exact Pl.ev_bind' m (Pl.ev_ite_neg hc (Ev.now _))
end Go.Proofs.YthoamjobclfjjaaGreat.R
