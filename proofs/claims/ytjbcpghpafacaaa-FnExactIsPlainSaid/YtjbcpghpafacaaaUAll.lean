/- Plain words on functions with rounds: what a call comes to with rounds enough. No condition. What the program's picks of a code come to. No condition. What the checks of a range come to. No condition. What the program and the reference say of names, as plain functions: both the same. No condition. What the laws' own comparison of nodes comes to. No condition. What the laws' own sizes and copies of nodes come to. No condition. What the laws' own sizes, copies and comparisons of steps come to. No condition. Plain words on expressions: the nodes below a node, in order; when they stand as they have to. No condition. What the program and the reference say of an expression's nodes and of whether it is one: both the same. No condition. Whether a list of nodes is an expression: the program and the reference say the same. No condition. Whether a list of nodes is an expression: what the program says. No condition. The type of an expression: the program and the reference say the same. No condition. What the program and the reference say of the steps of a process: the same. No condition. What the program and the reference say of a process: the same. No condition. The codes of a whole process: the program and the reference say the same. No condition. What stands under a step: plain words, and what the reference's check of a parent says of it. No condition. Whether two processes are the same: the reference's. No condition but the lists' sizes. Trees of steps: made plain, how many there are, laid out behind others; when a tree is plain. Plain. No condition. A process's tree: laid out it is the process; when it is plain. Plain. No condition but that the process has its form. -/
import Derived.Test.YtjbcpghpafacaaaWMore
import Derived.Lib.Strings
import Derived.Test.YtjbcpghpafacaaaI11
import Derived.Test.YtjbcpghpafacaaaI5
import Derived.Test.YtjbcpghpafacaaaI13
import Derived.Test.YtjbcpghpafacaaaI3
import Derived.Test.YtjbcpghpafacaaaI2
import Derived.Test.YtjbcpghpafacaaaIO
import Derived.Test.YtjbcpghpafacaaaI4
import Derived.Test.YtjbcpghpafacaaaI6
import Derived.Test.YtjbcpghpafacaaaI15
import Derived.Test.YtjbcpghpafacaaaI14
import Derived.Test.YtjbcpghpafacaaaI9
import Derived.Test.YtjbcpghpafacaaaI18
import Derived.Test.YtjbcpghpafacaaaI17
import Derived.Test.YtjbcpghpafacaaaI7
import Derived.Test.YtjbcpghpafacaaaI16
import Derived.Test.YtjbcpghpafacaaaI12
import Derived.Test.YtjbcpghpafacaaaI10
import Derived.Test.YtjbcpghpafacaaaI8
import Derived.Test.YtjbcpghpafacaaaI19
import Derived.Test.YtjbcpghpafacaaaIH
namespace Go.Proofs.Ytjbcpghpafacaaa
open Go.RowKit Go.Proofs.YtjbcpghpafacaaaW.PrintWords Go.Proofs.YtjbcpghpafacaaaW.PrintLast Go.Proofs.YtjbcpghpafacaaaW.PrintMore
namespace Pl
variable {α β σ : Type}
theorem ev_iff_congr {g f : Nat → Option α} {r : α} (h : ∃ K, ∀ k, K ≤ k → g k = f k) : Ev g r ↔ Ev f r := by
 obtain ⟨K, h⟩ := h
 constructor
 ·rintro ⟨K', h'⟩
  exact ⟨max K K', fun k hk => by rw [← h k (by omega)]; exact h' k (by omega)⟩
 ·rintro ⟨K', h'⟩
  exact ⟨max K K', fun k hk => by rw [h k (by omega)]; exact h' k (by omega)⟩
theorem ev_some {x r : α} : Ev (fun _ => some x) r ↔ x = r := by
 constructor
 ·rintro ⟨K, h⟩
  exact Option.some.inj (h K (Nat.le_refl _))
 ·rintro rfl
  exact Ev.now _
theorem ev_none {r : α} : Ev (fun _ => none) r ↔ False := by
 constructor
 ·rintro ⟨K, h⟩
  exact absurd (h K (Nat.le_refl _)) (by simp)
 ·exact False.elim
theorem ev_ite {c : Prop} [Decidable c] {a b : Nat → Option α} {r : α} : Ev (fun k => if c then a k else b k) r ↔ if c then Ev a r else Ev b r := by
 by_cases h : c
 ·simp only [if_pos h]
 ·simp only [if_neg h]
theorem ev_bind {g : Nat → Option α} {f : Nat → α → Option β} {a : α} {r : β} (h : Ev g a) : Ev (fun k => (g k).bind (f k)) r ↔ Ev (fun k => f k a) r := by
 obtain ⟨K, h⟩ := h
 exact ev_iff_congr ⟨K, fun k hk => by rw [h k hk, Option.bind_some]⟩
theorem ev_bind' {g : Nat → Option α} {f : Nat → α → Option β} {a : α} {r : β} (h : Ev g a) (hf : Ev (fun k => f k a) r) : Ev (fun k => (g k).bind (f k)) r := (ev_bind h).2 hf
theorem ev_ite_pos {c : Prop} [Decidable c] {a b : Nat → Option α} {r : α} (hc : c) (h : Ev a r) : Ev (fun k => if c then a k else b k) r := by
 simp only [if_pos hc]; exact h
theorem ev_ite_neg {c : Prop} [Decidable c] {a b : Nat → Option α} {r : α} (hc : ¬ c) (h : Ev b r) : Ev (fun k => if c then a k else b k) r := by
 simp only [if_neg hc]; exact h
theorem ev_unique {g : Nat → Option α} {r s : α} (h : Ev g r) (h' : Ev g s) : r = s := by
 obtain ⟨K, h⟩ := h
 obtain ⟨K', h'⟩ := h'
 have h1 := h (max K K') (by omega)
 have h2 := h' (max K K') (by omega)
 rw [h1] at h2
 exact Option.some.inj h2
theorem ev_to {g : Nat → Option α} {r s : α} (h : Ev g r) (e : r = s) : Ev g s := e ▸ h
theorem loop {n : Nat} {g : Nat → Int → σ → Option β} {F : Nat → σ → β} (I : Nat → σ → Prop)
  (hend : ∀ s, I n s → Ev (fun k => g k (n : Int) s) (F n s))
  (hstep : ∀ i s, i < n → I i s → (∀ s', I (i + 1) s' → Ev (fun k => g k ((i : Int) + 1) s') (F (i + 1) s')) → Ev (fun k => g k (i : Int) s) (F i s)) :
  ∀ i s, i ≤ n → I i s → Ev (fun k => g k (i : Int) s) (F i s) := by
 intro i s hi
 obtain ⟨d, hd⟩ : ∃ d, n - i = d := ⟨_, rfl⟩
 induction d generalizing i s with
 | zero =>
  intro hI
  obtain rfl : i = n := by omega
  exact hend s hI
 | succ d ih =>
  intro hI
  refine hstep i s (by omega) hI (fun s' hI' => ?_)
  have := ih (i + 1) s' (by omega) (by omega) hI'
  simpa using this
theorem loop0 {n : Nat} {g : Nat → Int → Option β} {F : Nat → β}
  (hend : Ev (fun k => g k (n : Int)) (F n))
  (hstep : ∀ i, i < n → Ev (fun k => g k ((i : Int) + 1)) (F (i + 1)) → Ev (fun k => g k (i : Int)) (F i)) :
  ∀ i, i ≤ n → Ev (fun k => g k (i : Int)) (F i) := fun i hi =>
 loop (σ := Unit) (g := fun k i _ => g k i) (F := fun i _ => F i) (fun _ _ => True) (fun _ _ => hend) (fun i _ h _ hs => hstep i h (hs () trivial)) i () hi trivial
theorem wrap_nat {i : Nat} (h : i < 9223372036854775807) : wrap64 ((i : Int) + 1) = (i : Int) + 1 := by unfold wrap64; omega
theorem wrap_in {x : Int} (h : -9223372036854775808 ≤ x) (h' : x ≤ 9223372036854775807) : wrap64 x = x := by unfold wrap64; omega
theorem bt_get (s : ByteArray) (i : Nat) (h : i < s.size) : bt s (i : Int) = ((s.data.toList[i]'(by simpa using h)).toNat : Int) := by
 unfold bt
 rw [dif_pos (by simpa using h)]
 simp [ByteArray.getElem_eq_getElem_data]
theorem drop_get {l : List α} {i : Nat} (h : i < l.length) : l.drop i = l[i] :: l.drop (i + 1) := List.drop_eq_getElem_cons h
theorem size_toList (s : ByteArray) : s.data.toList.length = s.size := by simp
theorem toList_data (s : ByteArray) : s.toList = s.data.toList := ByteArray.toList_eq s
theorem bt_l {s : ByteArray} {l : List UInt8} (hl : s.data.toList = l) (i : Nat) (h : i < l.length) : bt s (i : Int) = (l[i].toNat : Int) := by
 subst hl
 exact bt_get s i (by simpa using h)
theorem size_l {s : ByteArray} {l : List UInt8} (hl : s.data.toList = l) : s.size = l.length := by subst hl; simp
theorem toList_l {s : ByteArray} {l : List UInt8} (hl : s.data.toList = l) : s.toList = l := by rw [toList_data, hl]
theorem drop_end {l : List α} : l.drop l.length = [] := List.drop_length
def smallB (c : UInt8) : Bool := decide (97 ≤ c.toNat ∧ c.toNat ≤ 122)
def nameC (l : List UInt8) : Int := if l = [] then 5 else if l.all smallB = true then (if l.length > 8 then 2 else 0) else 5
theorem rd_get (l : List Int) (i : Nat) (h : i < l.length) : rd l (i : Int) = l[i] := by
 unfold rd
 simp [List.getD_eq_getElem?_getD, List.getElem?_eq_getElem h]
theorem getD_get {l : List α} {z : α} {i : Nat} (h : i < l.length) : l.getD ((i : Int)).toNat z = l[i] := by
 simp [List.getD_eq_getElem?_getD, List.getElem?_eq_getElem h]
theorem fill {l : List α} {f : α → β} {z : β} {g : Nat → Int → List β → Option (List β)}
  (hend : ∀ acc, acc.length = l.length → Ev (fun k => g k (l.length : Int) acc) acc)
  (hstep : ∀ i (hi : i < l.length) acc, acc.length = l.length → Ev (fun k => g k ((i : Int) + 1) (acc.set i (f l[i]))) (l.map f) → Ev (fun k => g k (i : Int) acc) (l.map f)) :
  Ev (fun k => g k 0 (List.replicate l.length z)) (l.map f) := by
 have h := loop (n := l.length) (g := g) (F := fun _ _ => l.map f) (fun i acc => acc.length = l.length ∧ acc.take i = (l.map f).take i)
  (fun acc hI => ?_) (fun i acc hi hI hs => hstep i hi acc hI.1 (hs _ ⟨by simp [hI.1], ?_⟩)) 0 (List.replicate l.length z) (Nat.zero_le _) ⟨by simp, by simp⟩
 ·simpa using h
 ·have e : acc = l.map f := by
   have h1 := hI.2
   rw [List.take_of_length_le (by rw [hI.1]; exact Nat.le_refl _), List.take_of_length_le (by simp)] at h1
   exact h1
  have := hend acc hI.1
  rwa [e] at this ⊢
 ·have h1 : i < (l.map f).length := by simpa using hi
  obtain ⟨hI1, hI2⟩ := hI
  apply List.ext_getElem?
  intro j
  have hj := congrArg (fun z => z[j]?) hI2
  simp only [List.getElem?_take] at hj ⊢
  by_cases h2 : j < i
  ·rw [if_pos h2, if_pos h2] at hj
   rw [if_pos (by omega), if_pos (by omega), List.getElem?_set_ne (by omega), hj]
  ·by_cases h3 : j = i
   ·subst h3
    rw [if_pos (by omega), if_pos (by omega), List.getElem?_set_self (by omega), List.getElem?_eq_getElem h1]
    simp
   ·rw [if_neg (by omega), if_neg (by omega)]
theorem left {l : List α} {B : α → Prop} {g : Nat → Int → Int → Option Int}
  (hend : ∀ x, Ev (fun k => g k (l.length : Int) x) x)
  (hstep : ∀ i (hi : i < l.length) x, 0 ≤ x → x ≤ 1048576 → ∃ r, -1 ≤ r ∧ r ≤ x ∧ (0 ≤ r → B l[i]) ∧ (r < 0 → Ev (fun k => g k (i : Int) x) (-1)) ∧ (0 ≤ r → ∀ R, Ev (fun k => g k ((i : Int) + 1) r) R → Ev (fun k => g k (i : Int) x) R)) :
  ∀ x, 0 ≤ x → x ≤ 1048576 → ∃ r, -1 ≤ r ∧ r ≤ x ∧ (0 ≤ r → ∀ y ∈ l, B y) ∧ Ev (fun k => g k 0 x) r := by
 have main : ∀ d i x, i ≤ l.length → l.length - i = d → 0 ≤ x → x ≤ 1048576 → ∃ r, -1 ≤ r ∧ r ≤ x ∧ (0 ≤ r → ∀ y ∈ l.drop i, B y) ∧ Ev (fun k => g k (i : Int) x) r := by
  intro d
  induction d with
  | zero =>
   intro i x hi hd h0 h1
   obtain rfl : i = l.length := by omega
   exact ⟨x, by omega, Int.le_refl _, by simp, hend x⟩
  | succ d ih =>
   intro i x hi hd h0 h1
   have hi' : i < l.length := by omega
   obtain ⟨r, hr0, hr1, hB, hneg, hpos⟩ := hstep i hi' x h0 h1
   by_cases h : 0 ≤ r
   ·obtain ⟨q, hq0, hq1, hqB, hq⟩ := ih (i + 1) r (by omega) (by omega) h (by omega)
    refine ⟨q, hq0, by omega, fun h2 => ?_, hpos h q (by simpa using hq)⟩
    rw [drop_get hi']
    intro y hy
    rcases List.mem_cons.1 hy with rfl | hy
    ·exact hB h
    ·exact hqB h2 y hy
   ·exact ⟨-1, by omega, by omega, by omega, hneg (by omega)⟩
 intro x h0 h1
 obtain ⟨r, a, b, c, d⟩ := main _ 0 x (Nat.zero_le _) rfl h0 h1
 exact ⟨r, a, b, by simpa using c, by simpa using d⟩
def firstC : List Int → Int
 | [] => 0
 | c :: l => if c = 0 then firstC l else c
end Pl
end Go.Proofs.Ytjbcpghpafacaaa
namespace Go.Proofs.Ytjbcpghpafacaaa.I
set_option linter.unusedVariables false
set_option linter.unusedSimpArgs false
open Go.RowKit Go.Proofs.Ytjbcpghpafacaaa Go.Proofs.YtjbcpghpafacaaaW.PrintWords Go.Proofs.YtjbcpghpafacaaaW.PrintLast
theorem codeIf_eq (b : Bool) (c : Int) : impl_codeIf.f b c = some (if b = true then c else 0) := by
 unfold impl_codeIf.f
 cases b <;> rfl
theorem firstCode_l (l : List Int) (hl : l.length < 1000) : ∀ i, i ≤ l.length → Ev (fun k => impl_firstCode.l0 k l (l.length : Int) (i : Int)) (Pl.firstC (l.drop i)) := by
 refine Pl.loop0 (g := fun k i => impl_firstCode.l0 k l (l.length : Int) i) ?_ ?_
 ·refine Ev.step (fun k => by rw [impl_firstCode.l0]) ?_
  simp [Pl.ev_some, Pl.firstC]
 ·intro i hi ih
  refine Ev.step (fun k => by rw [impl_firstCode.l0]) ?_
  rw [Pl.drop_get hi]
  have e := Pl.rd_get l i hi
  simp only [Pl.ev_ite, Pl.ev_some, Pl.ev_none, Pl.firstC, e, Pl.wrap_nat (show i < 9223372036854775807 by omega)]
  rw [if_pos (by omega), if_pos (by omega), if_pos (by omega)]
  split
  ·exact ih
  ·rfl
theorem firstCode_ev (l : List Int) (hl : l.length < 1000) : Ev (fun k => impl_firstCode.f k l) (Pl.firstC l) := firstCode_l l hl 0 (Nat.zero_le _)
theorem l1In_eq (a lo hi : Int) : spec_l1In.f a lo hi = some (decide (lo ≤ a ∧ a ≤ hi)) := by
 unfold spec_l1In.f
 by_cases h : a ≥ lo
 ·rw [if_pos h]; congr 1; rw [decide_eq_decide]; omega
 ·rw [if_neg h]; congr 1; rw [eq_comm, decide_eq_false_iff_not]; omega
theorem inRange_eq (a lo hi : Int) : impl_inRange.f a lo hi = some (decide (lo ≤ a ∧ a ≤ hi)) := by
 unfold impl_inRange.f
 by_cases h : lo ≤ a
 ·rw [if_pos h]; congr 1; rw [decide_eq_decide]; omega
 ·rw [if_neg h]; congr 1; rw [eq_comm, decide_eq_false_iff_not]; omega
theorem l1Name_l {s : ByteArray} {l : List UInt8} (hl : s.data.toList = l) (hs : l.length < 9223372036854775807) : ∀ i, i ≤ l.length → Ev (fun k => spec_l1Name.l0 k s (i : Int)) (bif (l.drop i).all Pl.smallB then (if l = [] then 5 else if l.length > 8 then 2 else 0) else 5) := by
 have hz := Pl.size_l hl
 refine Pl.loop0 (g := fun k i => spec_l1Name.l0 k s i) ?_ ?_
 ·refine Ev.step (fun k => by rw [spec_l1Name.l0]) ?_
  simp only [Pl.ev_ite, Pl.ev_some, Pl.toList_l hl, hz, Pl.drop_end, List.all_nil, cond_true]
  rw [if_neg (by omega)]
  split
  ·rfl
  ·split
   ·rw [if_pos (by omega)]
   ·rw [if_neg (by omega)]
 ·intro i hi ih
  refine Ev.step (fun k => by rw [spec_l1Name.l0]) ?_
  rw [Pl.drop_get hi]
  simp only [Pl.ev_ite, Pl.ev_some, Pl.ev_none, Pl.bt_l hl i hi, hz, Pl.wrap_nat (show i < 9223372036854775807 by omega), List.all_cons]
  rw [if_pos (by omega), if_pos (by omega)]
  by_cases h : Pl.smallB l[i] = true
  ·have h' := of_decide_eq_true h
   rw [if_neg (by omega), if_neg (by omega), h, Bool.true_and]
   exact ih
  ·have h' : ¬ (97 ≤ (l[i]).toNat ∧ (l[i]).toNat ≤ 122) := fun e => h (decide_eq_true e)
   rw [Bool.not_eq_true] at h
   rw [h, Bool.false_and, cond_false]
   split
   ·rfl
   ·rw [if_pos (by omega)]
theorem l1Name_ev {s : ByteArray} {l : List UInt8} (hl : s.data.toList = l) (hs : l.length < 9223372036854775807) : Ev (fun k => spec_l1Name.f k s) (Pl.nameC l) := by
 have h := l1Name_l hl hs 0 (Nat.zero_le _)
 unfold spec_l1Name.f
 refine Pl.ev_to h ?_
 rw [List.drop_zero]
 unfold Pl.nameC
 split
 ·rename_i h0
  subst h0
  rfl
 ·cases l.all Pl.smallB <;> rfl
theorem isSmall_eq (c : UInt8) : impl_isSmall.f (c.toNat : Int) = some (Pl.smallB c) := by
 unfold impl_isSmall.f Pl.smallB
 by_cases h : (c.toNat : Int) ≥ 97
 ·rw [if_pos h]; congr 1; rw [decide_eq_decide]; omega
 ·rw [if_neg h]; congr 1; rw [eq_comm, decide_eq_false_iff_not]; omega
theorem areSmall_l {s : ByteArray} {l : List UInt8} (hl : s.data.toList = l) (hs : l.length < 9223372036854775807) : ∀ i, i ≤ l.length → Ev (fun k => impl_areAll__impl_isSmall.l0 k s (l.length : Int) (i : Int)) ((l.drop i).all Pl.smallB) := by
 have hz := Pl.size_l hl
 refine Pl.loop0 (g := fun k i => impl_areAll__impl_isSmall.l0 k s (l.length : Int) i) ?_ ?_
 ·refine Ev.step (fun k => by rw [impl_areAll__impl_isSmall.l0]) ?_
  simp [Pl.ev_some]
 ·intro i hi ih
  refine Ev.step (fun k => by rw [impl_areAll__impl_isSmall.l0]) ?_
  rw [Pl.drop_get hi]
  simp only [Pl.ev_ite, Pl.ev_some, Pl.ev_none, Pl.bt_l hl i hi, hz, isSmall_eq, Option.bind_some, Pl.wrap_nat (show i < 9223372036854775807 by omega), List.all_cons]
  rw [if_pos (by omega), if_pos (by omega), if_pos (by omega)]
  cases h : Pl.smallB l[i]
  ·rfl
  ·simpa [h] using ih
theorem impl_name {s : ByteArray} {l : List UInt8} (hl : s.data.toList = l) (hs : l.length < 9223372036854775807) : Ev (fun k => impl_NameFault.f k s) (Pl.nameC l) := by
 have hz := Pl.size_l hl
 have h := areSmall_l hl hs 0 (Nat.zero_le _)
 rw [List.drop_zero, ← hz] at h
 unfold impl_NameFault.f
 simp only [codeIf_eq, Option.bind_some, Pl.ev_ite, Pl.toList_l hl]
 unfold Pl.nameC
 split
 ·refine Pl.ev_bind' (firstCode_ev _ (by simp)) ?_
  simp [Pl.ev_some, Pl.firstC]
 ·refine Pl.ev_bind' h ?_
  refine Pl.ev_bind' (firstCode_ev _ (by simp)) ?_
  simp only [Pl.ev_some, Pl.firstC, hz]
  cases h1 : l.all Pl.smallB
  ·simp
  ·by_cases h2 : l.length > 8
   ·simp [h2]; rw [if_neg (by omega), if_pos (by omega)]
   ·simp [h2]; omega
theorem rd_iNode (l : List S74) (i : Nat) (h : i < l.length) : rd_T74 l (i : Int) = l[i] := Pl.getD_get h
theorem eqNodeS_ev (l : List S74) (hl : l.length ≤ 1048576) : Ev (fun k => laws_eqNodeS.f k l l) true := by
 unfold laws_eqNodeS.f
 simp only [if_true]
 refine Pl.loop0 (n := l.length) (g := fun k i => laws_eqNodeS.l0 k l l i) (F := fun _ => true) ?_ (fun i hi ih => ?_) 0 (Nat.zero_le _)
 ·refine Ev.step (fun k => by rw [laws_eqNodeS.l0]) ?_
  simp [Pl.ev_some]
 ·refine Ev.step (fun k => by rw [laws_eqNodeS.l0]) ?_
  simp only [Pl.ev_ite, Pl.ev_some, Pl.ev_none, laws_eqNode.f, if_true, Option.bind_some, Pl.wrap_nat (show i < 9223372036854775807 by omega)]
  rw [if_pos (by omega), if_pos (by omega), if_pos (by omega)]
  exact ih
theorem rd_lNode (l : List S76) (i : Nat) (h : i < l.length) : rd_T76 l (i : Int) = l[i] := Pl.getD_get h
def toNode (x : S76) : S74 := ⟨x.f0, x.f1, x.f2, x.f3⟩
theorem szNodeS_ev (l : List S76) (hl : l.length ≤ 9223372036854775807) (x : Int) (h0 : 0 ≤ x) (h1 : x ≤ 1048576) : ∃ r, -1 ≤ r ∧ r ≤ x ∧ (0 ≤ r → l.length ≤ 1048576) ∧ laws_szNodeS.f l x = some r := by
 have e : wrap64 (x - (l.length : Int)) = x - (l.length : Int) := Pl.wrap_in (by omega) (by omega)
 unfold laws_szNodeS.f
 rw [e]
 by_cases h : x - (l.length : Int) < 0
 ·rw [if_pos h]
  exact ⟨-1, by omega, by omega, by omega, rfl⟩
 ·rw [if_neg h]
  exact ⟨_, by omega, by omega, fun _ => by omega, rfl⟩
theorem toNodeS_ev (l : List S76) (hl : l.length ≤ 1048576) : Ev (fun k => laws_toNodeS.f k l) (l.map toNode) := by
 unfold laws_toNodeS.f
 simp only [Pl.ev_ite]
 rw [if_pos (by omega), if_pos (by simp; omega)]
 rw [show ((l.length : Int) : Int).toNat = l.length from by omega]
 refine Pl.fill (g := fun k i acc => laws_toNodeS.l0 k l acc i) (fun acc _ => ?_) (fun i hi acc ha ih => ?_)
 ·refine Ev.step (fun k => by rw [laws_toNodeS.l0]) ?_
  simp [Pl.ev_some]
 ·refine Ev.step (fun k => by rw [laws_toNodeS.l0]) ?_
  simp only [Pl.ev_ite, Pl.ev_some, Pl.ev_none, laws_toNode.f, Option.bind_some, rd_lNode l i hi, Pl.wrap_nat (show i < 9223372036854775807 by omega), Int.toNat_natCast]
  rw [if_pos (by omega), if_pos (by omega), if_pos (by omega)]
  exact ih
theorem rd_lStep (l : List S32) (i : Nat) (h : i < l.length) : rd_T32 l (i : Int) = l[i] := Pl.getD_get h
theorem rd_iStep (l : List S37) (i : Nat) (h : i < l.length) : rd_T37 l (i : Int) = l[i] := Pl.getD_get h
def toStep (x : S32) : S37 := ⟨x.f0, x.f1, x.f2, x.f3, x.f4.map toNode, x.f5.map toNode⟩
def bStep (x : S32) : Prop := x.f2.size ≤ 1048576 ∧ x.f4.length ≤ 1048576 ∧ x.f5.length ≤ 1048576
theorem szStep_ev (a : S32) (hw : wf32 a) (x : Int) (h0 : 0 ≤ x) (h1 : x ≤ 1048576) : ∃ r, -1 ≤ r ∧ r ≤ x ∧ (0 ≤ r → bStep a) ∧ laws_szStep.f a.f0 a.f1 a.f2 a.f3 a.f4 a.f5 x = some r := by
 obtain ⟨w0, w1, w2, w3, w4, w5⟩ := hw
 have e : wrap64 (x - (a.f2.size : Int)) = x - (a.f2.size : Int) := Pl.wrap_in (by omega) (by omega)
 unfold laws_szStep.f
 rw [e]
 by_cases h : x - (a.f2.size : Int) < 0
 ·rw [if_pos h]
  exact ⟨-1, by omega, by omega, by omega, rfl⟩
 ·rw [if_neg h]
  obtain ⟨r, p, q, c, d⟩ := szNodeS_ev a.f4 w4.1 (x - (a.f2.size : Int)) (by omega) (by omega)
  rw [d, Option.bind_some]
  by_cases hr : r < 0
  ·rw [if_pos hr]
   exact ⟨-1, by omega, by omega, by omega, rfl⟩
  ·rw [if_neg hr]
   obtain ⟨r', p', q', c', d'⟩ := szNodeS_ev a.f5 w5.1 r (by omega) (by omega)
   rw [d', Option.bind_some]
   by_cases hr' : r' < 0
   ·rw [if_pos hr']
    exact ⟨-1, by omega, by omega, by omega, rfl⟩
   ·rw [if_neg hr']
    exact ⟨r', p', by omega, fun _ => ⟨by omega, c (by omega), c' (by omega)⟩, rfl⟩
theorem szStepS_ev (l : List S32) (hl : l.length ≤ 9223372036854775807) (hw : ∀ y ∈ l, wf32 y) (x : Int) (h0 : 0 ≤ x) (h1 : x ≤ 1048576) : ∃ r, -1 ≤ r ∧ r ≤ x ∧ (0 ≤ r → l.length ≤ 1048576 ∧ ∀ y ∈ l, bStep y) ∧ Ev (fun k => laws_szStepS.f k l x) r := by
 have e : wrap64 (x - (l.length : Int)) = x - (l.length : Int) := Pl.wrap_in (by omega) (by omega)
 unfold laws_szStepS.f
 rw [e]
 by_cases h : x - (l.length : Int) < 0
 ·simp only [if_pos h]
  exact ⟨-1, by omega, by omega, by omega, Ev.now _⟩
 ·simp only [if_neg h]
  obtain ⟨r, a, b, c, d⟩ := Pl.left (l := l) (B := bStep) (g := fun k i x => laws_szStepS.l0 k l x i) (fun x => by
   refine Ev.step (fun k => by rw [laws_szStepS.l0]) ?_
   simp [Pl.ev_some]) (fun i hi x h0 h1 => by
   obtain ⟨r, a, b, c, d⟩ := szStep_ev l[i] (hw _ (List.getElem_mem hi)) x h0 h1
   refine ⟨r, a, b, c, fun hr => ?_, fun hr R hR => ?_⟩
   ·refine Ev.step (fun k => by rw [laws_szStepS.l0]) ?_
    simp only [Pl.ev_ite, rd_lStep l i hi, d, Option.bind_some, if_pos hr]
    rw [if_pos (by omega), if_pos (by omega)]
    exact Ev.now _
   ·refine Ev.step (fun k => by rw [laws_szStepS.l0]) ?_
    simp only [Pl.ev_ite, rd_lStep l i hi, d, Option.bind_some, if_neg (show ¬ r < 0 by omega), Pl.wrap_nat (show i < 9223372036854775807 by omega)]
    rw [if_pos (by omega), if_pos (by omega)]
    exact hR) (x - (l.length : Int)) (by omega) (by omega)
  exact ⟨r, a, by omega, fun hr => ⟨by omega, c hr⟩, d⟩
theorem toStepS_ev (l : List S32) (hl : l.length ≤ 1048576) (hb : ∀ y ∈ l, bStep y) : Ev (fun k => laws_toStepS.f k l) (l.map toStep) := by
 unfold laws_toStepS.f
 simp only [Pl.ev_ite]
 rw [if_pos (by omega), if_pos (by simp; omega)]
 rw [show ((l.length : Int) : Int).toNat = l.length from by omega]
 refine Pl.fill (g := fun k i acc => laws_toStepS.l0 k l acc i) (fun acc _ => ?_) (fun i hi acc ha ih => ?_)
 ·refine Ev.step (fun k => by rw [laws_toStepS.l0]) ?_
  simp [Pl.ev_some]
 ·refine Ev.step (fun k => by rw [laws_toStepS.l0]) ?_
  simp only [Pl.ev_ite, Pl.ev_some, Pl.ev_none, rd_lStep l i hi, Pl.wrap_nat (show i < 9223372036854775807 by omega), Int.toNat_natCast]
  rw [if_pos (by omega), if_pos (by omega)]
  obtain ⟨b1, b2, b3⟩ := hb _ (List.getElem_mem hi)
  refine Pl.ev_bind' (a := (l[i].f0, l[i].f1, l[i].f2, l[i].f3, l[i].f4.map toNode, l[i].f5.map toNode)) (Pl.ev_bind' (toNodeS_ev l[i].f4 b2) (Pl.ev_bind' (toNodeS_ev l[i].f5 b3) (Ev.now _))) ?_
  simp only [Pl.ev_ite]
  rw [if_pos (by omega)]
  exact ih
theorem eqStepS_ev (l : List S37) (hl : l.length ≤ 1048576) (hb : ∀ y ∈ l, y.f4.length ≤ 1048576 ∧ y.f5.length ≤ 1048576) : Ev (fun k => laws_eqStepS.f k l l) true := by
 unfold laws_eqStepS.f
 simp only [if_true]
 refine Pl.loop0 (n := l.length) (g := fun k i => laws_eqStepS.l0 k l l i) (F := fun _ => true) ?_ (fun i hi ih => ?_) 0 (Nat.zero_le _)
 ·refine Ev.step (fun k => by rw [laws_eqStepS.l0]) ?_
  simp [Pl.ev_some]
 ·refine Ev.step (fun k => by rw [laws_eqStepS.l0]) ?_
  simp only [Pl.ev_ite, Pl.ev_some, Pl.ev_none, laws_eqStep.f, if_true, rd_iStep l i hi, Pl.wrap_nat (show i < 9223372036854775807 by omega)]
  rw [if_pos (by omega), if_pos (by omega), if_pos (by omega)]
  have b := hb _ (List.getElem_mem hi)
  refine Pl.ev_bind' (a := true) (Pl.ev_bind' (eqNodeS_ev l[i].f4 b.1) ?_) ?_
  ·simp only [if_true]
   exact Pl.ev_bind' (eqNodeS_ev l[i].f5 b.2) (by simp [Pl.ev_some])
  ·simp only [if_true]
   exact ih
end Go.Proofs.Ytjbcpghpafacaaa.I
namespace Go.Proofs.Ytjbcpghpafacaaa
set_option linter.unusedVariables false
set_option linter.unusedSimpArgs false
namespace Pl
def two (k : Int) : Bool := decide (3 ≤ k ∧ k ≤ 9)
section
variable (K : Nat → Int) (L R : Nat → Nat)
def segF : Nat → Nat → List Nat
 | 0, _ => []
 | f + 1, i => (if 2 < K i then segF f (L i) else []) ++ (if two (K i) = true then segF f (R i) else []) ++ [i]
def seg (i : Nat) : List Nat := segF K L R (i + 1) i
def sz (i : Nat) : Nat := (seg K L R i).length
def ahead (n : Nat) : Prop := ∀ i, i < n → (2 < K i → L i < i) ∧ (two (K i) = true → R i < i)
def ok (i : Nat) : Prop := (K i = 10 → L i + 1 = i) ∧ (two (K i) = true → R i + 1 = i ∧ L i + 1 + sz K L R (R i) = i)
variable {K L R}
theorem two_inner {k : Int} (h : two k = true) : 2 < k := by have := of_decide_eq_true h; omega
theorem segF_more {n : Nat} (ha : ahead K L R n) : ∀ f g i, i < n → i < f → i < g → segF K L R f i = segF K L R g i
 | 0, _, _, _, h, _ => absurd h (by omega)
 | _, 0, _, _, _, h => absurd h (by omega)
 | f + 1, g + 1, i, hn, hf, hg => by
  obtain ⟨h1, h2⟩ := ha i hn
  unfold segF
  congr 2
  ·split
   ·rename_i h; have := h1 h; exact segF_more ha f g (L i) (by omega) (by omega) (by omega)
   ·rfl
  ·split
   ·rename_i h; have := h2 h; exact segF_more ha f g (R i) (by omega) (by omega) (by omega)
   ·rfl
theorem seg_eq {n : Nat} (ha : ahead K L R n) {i : Nat} (hn : i < n) : seg K L R i = (if 2 < K i then seg K L R (L i) else []) ++ (if two (K i) = true then seg K L R (R i) else []) ++ [i] := by
 obtain ⟨h1, h2⟩ := ha i hn
 unfold seg
 rw [segF]
 congr 2
 ·split
  ·rename_i h; have := h1 h; exact segF_more ha _ _ (L i) (by omega) (by omega) (by omega)
  ·rfl
 ·split
  ·rename_i h; have := h2 h; exact segF_more ha _ _ (R i) (by omega) (by omega) (by omega)
  ·rfl
theorem sz_eq {n : Nat} (ha : ahead K L R n) {i : Nat} (hn : i < n) : sz K L R i = (if 2 < K i then sz K L R (L i) else 0) + (if two (K i) = true then sz K L R (R i) else 0) + 1 := by
 unfold sz
 rw [seg_eq ha hn]
 simp only [List.length_append, List.length_singleton]
 congr 2
 ·split <;> rfl
 ·split <;> rfl
theorem sz_pos {n : Nat} (ha : ahead K L R n) {i : Nat} (hn : i < n) : 1 ≤ sz K L R i := by rw [sz_eq ha hn]; omega
theorem sz_le {n : Nat} (ha : ahead K L R n) : ∀ i, i < n → sz K L R i + 1 ≤ 2 ^ (i + 1) := by
 intro i
 induction i using Nat.strongRecOn with
 | _ i ih =>
  intro hn
  obtain ⟨h1, h2⟩ := ha i hn
  rw [sz_eq ha hn]
  have p : ∀ j, j < i → sz K L R j + 1 ≤ 2 ^ i := fun j hj => Nat.le_trans (ih j hj (by omega)) (Nat.pow_le_pow_right (by omega) (by omega))
  have q : 1 ≤ 2 ^ i := Nat.one_le_two_pow
  rw [Nat.pow_succ]
  split
  ·rename_i h
   have := p _ (h1 h)
   split
   ·rename_i h'
    have := p _ (h2 h')
    omega
   ·omega
  ·rename_i h
   rw [if_neg (fun h' => h (two_inner h'))]
   omega
theorem seg_last {n : Nat} (ha : ahead K L R n) {i : Nat} (hn : i < n) : ∃ l, seg K L R i = l ++ [i] := ⟨_, seg_eq ha hn⟩
theorem seg_range {n : Nat} (ha : ahead K L R n) : ∀ i, i < n → (∀ j, j ≤ i → K j ≤ 10 ∧ ok K L R j) → sz K L R i ≤ i + 1 ∧ seg K L R i = List.range' (i + 1 - sz K L R i) (sz K L R i) := by
 intro i
 induction i using Nat.strongRecOn with
 | _ i ih =>
  intro hn hok
  obtain ⟨h1, h2⟩ := ha i hn
  obtain ⟨hk, o1, o2⟩ := hok i (Nat.le_refl _)
  have es := sz_eq ha hn
  rw [seg_eq ha hn]
  by_cases hT : two (K i) = true
  ·have hI := two_inner hT
   obtain ⟨o3, o4⟩ := o2 hT
   have hl := h1 hI
   have hr := h2 hT
   obtain ⟨a1, a2⟩ := ih (L i) hl (by omega) (fun j hj => hok j (by omega))
   obtain ⟨b1, b2⟩ := ih (R i) hr (by omega) (fun j hj => hok j (by omega))
   rw [if_pos hI, if_pos hT] at es ⊢
   refine ⟨by omega, ?_⟩
   rw [a2, b2, es]
   rw [show i + 1 - (sz K L R (L i) + sz K L R (R i) + 1) = L i + 1 - sz K L R (L i) from by omega]
   rw [show R i + 1 - sz K L R (R i) = L i + 1 - sz K L R (L i) + sz K L R (L i) from by omega]
   rw [← List.range'_append_1, ← List.range'_append_1]
   congr 1
   rw [List.range'_one]
   congr 1
   omega
  ·by_cases hI : 2 < K i
   ·have h10 : K i = 10 := by
     have : ¬ (3 ≤ K i ∧ K i ≤ 9) := fun e => hT (decide_eq_true e)
     omega
    have o3 := o1 h10
    obtain ⟨a1, a2⟩ := ih (L i) (h1 hI) (by omega) (fun j hj => hok j (by omega))
    rw [if_pos hI, if_neg hT] at es ⊢
    refine ⟨by omega, ?_⟩
    rw [a2, es, List.append_nil]
    rw [show i + 1 - (sz K L R (L i) + 0 + 1) = L i + 1 - sz K L R (L i) from by omega, Nat.add_zero, ← List.range'_append_1]
    congr 1
    rw [List.range'_one]
    congr 1
    omega
   ·rw [if_neg hI, if_neg hT] at es ⊢
    refine ⟨by omega, ?_⟩
    rw [es]
    simp
theorem append_last {α : Type} {l m : List α} {x y : α} (h : l ++ [x] = m ++ [y]) : l = m ∧ x = y := by
 have := List.append_inj' h rfl
 simpa using this
theorem range_split {a n : Nat} {l m : List Nat} (h : List.range' a n = l ++ m) : l = List.range' a l.length ∧ m = List.range' (a + l.length) m.length := by
 have hn : n = l.length + m.length := by have := congrArg List.length h; simpa using this
 rw [hn, ← List.range'_append_1] at h
 have := List.append_inj h (by simp)
 exact ⟨this.1.symm, this.2.symm⟩
theorem range_ok {n : Nat} (ha : ahead K L R n) : ∀ i, i < n → ∀ a m, seg K L R i = List.range' a m → ∀ j ∈ seg K L R i, ok K L R j := by
 intro i
 induction i using Nat.strongRecOn with
 | _ i ih =>
  intro hn a m h
  obtain ⟨h1, h2⟩ := ha i hn
  have e := seg_eq ha hn
  rw [h, List.append_assoc] at e
  obtain ⟨e1, e2⟩ := range_split e
  obtain ⟨e3, e4⟩ := range_split e2.symm
  have e5 := e4
  simp only [List.length_singleton, List.range'_one, List.cons.injEq, and_true] at e5
  rw [seg_eq ha hn]
  intro j hj
  simp only [List.mem_append, List.mem_singleton] at hj
  by_cases hT : two (K i) = true
  ·have hI := two_inner hT
   have hl := h1 hI
   have hr := h2 hT
   rw [if_pos hI, if_pos hT] at hj
   rw [if_pos hI] at e1 e3 e5
   rw [if_pos hT] at e3 e5
   have sl : (seg K L R (L i)).length = sz K L R (L i) := rfl
   have sr : (seg K L R (R i)).length = sz K L R (R i) := rfl
   rcases hj with (hj | hj) | rfl
   ·exact ih (L i) hl (by omega) _ _ e1 j hj
   ·exact ih (R i) hr (by omega) _ _ e3 j hj
   ·obtain ⟨l, hl'⟩ := seg_last ha (show L j < n by omega)
    obtain ⟨m', hm'⟩ := seg_last ha (show R j < n by omega)
    have pl := sz_pos ha (show L j < n by omega)
    have pr := sz_pos ha (show R j < n by omega)
    rw [sl] at e1 e3 e5
    rw [sr] at e3 e5
    have f1 : L j + 1 = a + sz K L R (L j) := by
     rw [hl'] at e1
     rw [show sz K L R (L j) = (sz K L R (L j) - 1) + 1 from by omega, ← List.range'_append_1, List.range'_one] at e1
     have := (append_last e1).2
     omega
    have f2 : R j + 1 = a + sz K L R (L j) + sz K L R (R j) := by
     rw [hm'] at e3
     rw [show sz K L R (R j) = (sz K L R (R j) - 1) + 1 from by omega, ← List.range'_append_1, List.range'_one] at e3
     have := (append_last e3).2
     omega
    refine ⟨fun h10 => ?_, fun _ => ⟨by omega, by omega⟩⟩
    have := of_decide_eq_true hT
    omega
  ·by_cases hI : 2 < K i
   ·have hl := h1 hI
    rw [if_pos hI, if_neg hT] at hj
    rw [if_pos hI] at e1 e5
    rw [if_neg hT] at e5
    have sl : (seg K L R (L i)).length = sz K L R (L i) := rfl
    rcases hj with (hj | hj) | rfl
    ·exact ih (L i) hl (by omega) _ _ e1 j hj
    ·simp at hj
    ·obtain ⟨l, hl'⟩ := seg_last ha (show L j < n by omega)
     have pl := sz_pos ha (show L j < n by omega)
     rw [sl] at e1 e5
     have f1 : L j + 1 = a + sz K L R (L j) := by
      rw [hl'] at e1
      rw [show sz K L R (L j) = (sz K L R (L j) - 1) + 1 from by omega, ← List.range'_append_1, List.range'_one] at e1
      have := (append_last e1).2
      omega
     refine ⟨fun _ => ?_, fun h => absurd h hT⟩
     simp at e5
     omega
   ·rw [if_neg hI, if_neg hT] at hj
    rcases hj with (hj | hj) | rfl
    ·simp at hj
    ·simp at hj
    ·exact ⟨fun h => absurd (by omega : 2 < K j) hI, fun h => absurd h hT⟩
variable (K L R)
def walkF : Nat → Nat → List Int → List Int
 | 0, _, out => out
 | f + 1, i, out => if 16 < out.length then out else
   (if two (K i) = true then walkF f (R i) (if 2 < K i then walkF f (L i) out else out) else (if 2 < K i then walkF f (L i) out else out)) ++ [(i : Int)]
variable {K L R}
theorem walkF_short : ∀ f i out, (walkF K L R f i out).length ≤ 16 → i < f → (∀ n, i < n → ahead K L R n → walkF K L R f i out = out ++ (segF K L R f i).map Int.ofNat) := by
 intro f
 induction f with
 | zero => intro i out _ h; omega
 | succ f ih =>
  intro i out hlen hf n hn ha
  obtain ⟨h1, h2⟩ := ha i hn
  unfold walkF at hlen ⊢
  unfold segF
  by_cases h : 16 < out.length
  ·rw [if_pos h] at hlen; omega
  ·rw [if_neg h] at hlen ⊢
   by_cases hI : 2 < K i
   ·have hl := h1 hI
    simp only [if_pos hI] at hlen ⊢
    by_cases hT : two (K i) = true
    ·have hr := h2 hT
     simp only [if_pos hT, List.length_append, List.length_singleton] at hlen ⊢
     have e1 := ih (R i) (walkF K L R f (L i) out) (by omega) (by omega) n (by omega) ha
     have e2 := ih (L i) out (by rw [e1] at hlen; simp at hlen; omega) (by omega) n (by omega) ha
     rw [e1, e2]
     simp
    ·simp only [if_neg hT, List.length_append, List.length_singleton] at hlen ⊢
     have e2 := ih (L i) out (by omega) (by omega) n (by omega) ha
     rw [e2]
     simp
   ·have hT : ¬ two (K i) = true := fun e => hI (two_inner e)
    simp [hI, hT]
theorem walkF_fits : ∀ f i out, out.length + (segF K L R f i).length ≤ 16 → i < f → (∀ n, i < n → ahead K L R n → walkF K L R f i out = out ++ (segF K L R f i).map Int.ofNat) := by
 intro f
 induction f with
 | zero => intro i out _ h; omega
 | succ f ih =>
  intro i out hlen hf n hn ha
  obtain ⟨h1, h2⟩ := ha i hn
  unfold walkF
  unfold segF at hlen ⊢
  simp only [List.length_append, List.length_singleton] at hlen
  rw [if_neg (by omega)]
  by_cases hI : 2 < K i
  ·have hl := h1 hI
   simp only [if_pos hI] at hlen ⊢
   have e2 := ih (L i) out (by omega) (by omega) n (by omega) ha
   by_cases hT : two (K i) = true
   ·have hr := h2 hT
    simp only [if_pos hT] at hlen ⊢
    have e1 := ih (R i) (walkF K L R f (L i) out) (by rw [e2]; simp; omega) (by omega) n (by omega) ha
    rw [e1, e2]
    simp
   ·simp only [if_neg hT] at hlen ⊢
    rw [e2]
    simp
  ·have hT : ¬ two (K i) = true := fun e => hI (two_inner e)
   simp [hI, hT]
theorem walk_iff {n : Nat} (h0 : 0 < n) (h16 : n ≤ 16) (ha : ahead K L R n) (hk : ∀ i, i < n → K i ≤ 10) :
  walkF K L R n (n - 1) [] = (List.range n).map Int.ofNat ↔ (∀ j, j < n → ok K L R j) ∧ sz K L R (n - 1) = n := by
 have es : segF K L R n (n - 1) = seg K L R (n - 1) := by unfold seg; rw [show n - 1 + 1 = n from by omega]
 constructor
 ·intro h
  have e := walkF_short n (n - 1) [] (by rw [h]; simpa using h16) (by omega) n (by omega) ha
  rw [h, es, List.nil_append] at e
  have e' : List.range n = seg K L R (n - 1) := by
   have inj : ∀ (l m : List Nat), l.map Int.ofNat = m.map Int.ofNat → l = m := fun l m hlm => (List.map_inj_right (fun a b hab => Int.ofNat.inj hab)).1 hlm
   exact inj _ _ e
  have hr : seg K L R (n - 1) = List.range' 0 n := by rw [← e', List.range_eq_range']
  refine ⟨fun j hj => range_ok ha (n - 1) (by omega) 0 n hr j ?_, ?_⟩
  ·rw [← e']; exact List.mem_range.2 hj
  ·unfold sz; rw [← e']; simp
 ·rintro ⟨hok, hs⟩
  obtain ⟨_, e⟩ := seg_range ha (n - 1) (by omega) (fun j hj => ⟨hk j (by omega), hok j (by omega)⟩)
  rw [hs, show n - 1 + 1 - n = 0 from by omega] at e
  rw [walkF_fits n (n - 1) [] (by rw [es, e]; simpa using h16) (by omega) n (by omega) ha, es, e, List.range_eq_range']
  rfl
end
end Pl
end Go.Proofs.Ytjbcpghpafacaaa
namespace Go.Proofs.Ytjbcpghpafacaaa.I
set_option linter.unusedVariables false
set_option linter.unusedSimpArgs false
open Go.RowKit Go.Proofs.Ytjbcpghpafacaaa Go.Proofs.YtjbcpghpafacaaaW.PrintWords Go.Proofs.YtjbcpghpafacaaaW.PrintLast
theorem l3Two_eq (k : Int) : spec_l3Two.f k = some (Pl.two k) := by unfold spec_l3Two.f; rw [l1In_eq]; rfl
theorem isTwo_eq (k : Int) : impl_isTwo.f k = some (Pl.two k) := by unfold impl_isTwo.f; rw [inRange_eq]; rfl
def nodeC (K V L R i : Int) : Int :=
 if K = 1 ∨ K = 2 then (if L ≠ 0 ∨ R ≠ 0 then 1 else if 0 ≤ V ∧ V ≤ (if K = 2 then 3 else 9999) then 0 else 3)
 else if K = 10 then (if V ≠ 0 ∨ R ≠ 0 then 1 else if 0 ≤ L ∧ L ≤ i - 1 then 0 else 3)
 else if 3 ≤ K ∧ K ≤ 9 then (if V ≠ 0 then 1 else if (0 ≤ L ∧ L ≤ i - 1) ∧ (0 ≤ R ∧ R ≤ i - 1) then 0 else 3)
 else 1
theorem implNode_ev (K V L R i : Int) (h0 : 0 ≤ i) (h1 : i ≤ 100) : Ev (fun k => impl_nodeFault.f k K V L R i) (nodeC K V L R i) := by
 have ew : wrap64 (i - 1) = i - 1 := Pl.wrap_in (by omega) (by omega)
 have j0 : ∀ b : Bool, b = decide (K = 1 ∨ K = 2) → Ev (fun k => impl_nodeFault.j0 k i b K V L R) (nodeC K V L R i) := by
  intro b hb
  refine Ev.step (fun k => by rw [impl_nodeFault.j0]) ?_
  simp only [codeIf_eq, inRange_eq, isTwo_eq, Option.bind_some, Pl.ev_ite, ew]
  unfold nodeC
  by_cases h : K = 1 ∨ K = 2
  ·rw [if_pos (by rw [hb]; simpa using h), if_pos h]
   by_cases h2 : K = 2
   ·rw [if_pos h2, if_pos h2]
    refine Ev.step (fun k => by rw [impl_nodeFault.j1]) ?_
    simp only [codeIf_eq, inRange_eq, Option.bind_some, Pl.ev_ite]
    split
    ·rename_i hL
     refine Pl.ev_bind' (firstCode_ev _ (by simp)) (Pl.ev_some.2 ?_)
     by_cases hR : R = 0
     ·by_cases hV : 0 ≤ V ∧ V ≤ 3 <;> simp [Pl.firstC, hL, hR, hV]
     ·simp [Pl.firstC, hL, hR]
    ·rename_i hL
     refine Pl.ev_bind' (firstCode_ev _ (by simp)) (Pl.ev_some.2 ?_)
     simp [Pl.firstC, hL]
   ·rw [if_neg h2, if_neg h2]
    refine Ev.step (fun k => by rw [impl_nodeFault.j1]) ?_
    simp only [codeIf_eq, inRange_eq, Option.bind_some, Pl.ev_ite]
    split
    ·rename_i hL
     refine Pl.ev_bind' (firstCode_ev _ (by simp)) (Pl.ev_some.2 ?_)
     by_cases hR : R = 0
     ·by_cases hV : 0 ≤ V ∧ V ≤ 9999 <;> simp [Pl.firstC, hL, hR, hV]
     ·simp [Pl.firstC, hL, hR]
    ·rename_i hL
     refine Pl.ev_bind' (firstCode_ev _ (by simp)) (Pl.ev_some.2 ?_)
     simp [Pl.firstC, hL]
  ·rw [if_neg (by rw [hb]; simpa using h), if_neg h]
   by_cases hN : K = 10
   ·rw [if_pos hN, if_pos hN]
    by_cases hV : V = 0
    ·rw [if_pos hV]
     refine Pl.ev_bind' (firstCode_ev _ (by simp)) (Pl.ev_some.2 ?_)
     by_cases hR : R = 0
     ·by_cases hL : 0 ≤ L ∧ L ≤ i - 1 <;> simp [Pl.firstC, hV, hR, hL]
     ·simp [Pl.firstC, hV, hR]
    ·rw [if_neg hV]
     refine Pl.ev_bind' (firstCode_ev _ (by simp)) (Pl.ev_some.2 ?_)
     simp [Pl.firstC, hV]
   ·rw [if_neg hN, if_neg hN]
    by_cases hT : 3 ≤ K ∧ K ≤ 9
    ·have e : Pl.two K = true := decide_eq_true hT
     rw [if_pos e, if_pos hT]
     by_cases hL : 0 ≤ L ∧ L ≤ i - 1
     ·rw [if_pos (by simpa using hL)]
      refine Pl.ev_bind' (firstCode_ev _ (by simp)) (Pl.ev_some.2 ?_)
      by_cases hV : V = 0
      ·by_cases hR : 0 ≤ R ∧ R ≤ i - 1 <;> simp [Pl.firstC, hV, hR, hL]
      ·simp [Pl.firstC, hV]
     ·rw [if_neg (by simpa using hL)]
      refine Pl.ev_bind' (firstCode_ev _ (by simp)) (Pl.ev_some.2 ?_)
      by_cases hV : V = 0
      ·have hL' : ¬ ((0 ≤ L ∧ L ≤ i - 1) ∧ 0 ≤ R ∧ R ≤ i - 1) := fun h => hL h.1
       simp only [Pl.firstC, hV, ne_eq, not_true_eq_false, if_false, if_neg hL']
       simp
      ·simp [Pl.firstC, hV]
    ·have e : ¬ Pl.two K = true := fun h => hT (of_decide_eq_true h)
     rw [if_neg e, if_neg hT]
     exact Pl.ev_some.2 rfl
 unfold impl_nodeFault.f
 simp only [Pl.ev_ite]
 split
 ·rename_i h
  exact j0 _ (by simp [h])
 ·rename_i h
  exact j0 _ (by rw [Bool.eq_iff_iff]; simp [h])
theorem rd_one (x : S74) : rd_T74 [x] 0 = x := rfl
theorem specNode_ev (x : S74) (i : Int) (h0 : 0 ≤ i) (h1 : i ≤ 100) : Ev (fun k => spec_l3Node.f k x i) (nodeC x.f0 x.f1 x.f2 x.f3 i) := by
 obtain ⟨K, V, L, R⟩ := x
 have ew : wrap64 (i - 1) = i - 1 := Pl.wrap_in (by omega) (by omega)
 have j1 : ∀ b : Bool, 1 ≤ K → K ≤ 10 → Ev (fun k => spec_l3Node.j1 k ⟨K, V, L, R⟩ i (decide (K ≤ 2)) b) (if b = true then 3 else if K ≤ 2 then 0 else if 0 ≤ L ∧ L ≤ i - 1 then (if 3 ≤ K ∧ K ≤ 9 then (if 0 ≤ R ∧ R ≤ i - 1 then 0 else 3) else 0) else 3) := by
  intro b hK1 hK2
  refine Ev.step (fun k => by rw [spec_l3Node.j1]) ?_
  simp only [l1In_eq, l3Two_eq, Option.bind_some, Pl.ev_ite, ew, rd_one, Pl.two, decide_eq_true_eq, Pl.ev_some]
  cases b
  ·by_cases h2 : K ≤ 2
   ·have : ¬ (3 ≤ K ∧ K ≤ 9) := by omega
    simp [h2, this]
   ·by_cases hL : 0 ≤ L ∧ L ≤ i - 1 <;> by_cases hT : 3 ≤ K ∧ K ≤ 9 <;> by_cases hR : 0 ≤ R ∧ R ≤ i - 1 <;> simp [h2, hL, hT, hR]
  ·simp
 have j0 : ∀ b : Bool, 1 ≤ K → K ≤ 10 → b = decide (K ≤ 2 ∧ (L ≠ 0 ∨ R ≠ 0) ∨ ¬ K ≤ 2 ∧ V ≠ 0 ∨ K = 10 ∧ R ≠ 0) → Ev (fun k => spec_l3Node.j0 k ⟨K, V, L, R⟩ i (decide (K ≤ 2)) b) (nodeC K V L R i) := by
  intro b hK1 hK2 hb
  refine Ev.step (fun k => by rw [spec_l3Node.j0]) ?_
  simp only [l1In_eq, Option.bind_some, Pl.ev_ite, rd_one]
  by_cases hB : K ≤ 2 ∧ (L ≠ 0 ∨ R ≠ 0) ∨ ¬ K ≤ 2 ∧ V ≠ 0 ∨ K = 10 ∧ R ≠ 0
  ·rw [if_pos (by rw [hb]; simpa using hB)]
   refine Pl.ev_some.2 ?_
   unfold nodeC
   rcases hB with ⟨a, b⟩ | ⟨a, b⟩ | ⟨a, b⟩
   ·rw [if_pos (by omega), if_pos b]
   ·rw [if_neg (by omega)]
    by_cases h10 : K = 10
    ·rw [if_pos h10, if_pos (.inl b)]
    ·rw [if_neg h10, if_pos (by omega), if_pos b]
   ·rw [if_neg (by omega), if_pos a, if_pos (.inr b)]
  ·rw [if_neg (by rw [hb]; simpa using hB)]
   have h1 := fun b => j1 b hK1 hK2
   by_cases e1 : K = 1
   ·rw [if_pos e1]
    by_cases e2 : 0 ≤ V ∧ V ≤ 9999
    ·rw [if_pos (by simpa using e2), if_neg (by omega)]
     exact Pl.ev_to (h1 false) (by unfold nodeC; repeat' split <;> first | rfl | omega | simp_all)
    ·rw [if_neg (by simpa using e2)]
     exact Pl.ev_to (h1 true) (by unfold nodeC; repeat' split <;> first | rfl | omega | simp_all)
   ·rw [if_neg e1]
    by_cases e3 : K = 2
    ·rw [if_pos e3]
     by_cases e2 : 0 ≤ V ∧ V ≤ 3
     ·exact Pl.ev_to (h1 (!decide (0 ≤ V ∧ V ≤ 3))) (by unfold nodeC; simp only [e2, e3]; repeat' split <;> first | rfl | omega | simp_all)
     ·exact Pl.ev_to (h1 (!decide (0 ≤ V ∧ V ≤ 3))) (by unfold nodeC; simp only [e2, e3]; repeat' split <;> first | rfl | omega | simp_all)
    ·rw [if_neg e3]
     exact Pl.ev_to (h1 false) (by unfold nodeC; repeat' split <;> first | rfl | omega | simp_all)
 have jj : ∀ b : Bool, 1 ≤ K → K ≤ 10 → b = decide (K ≤ 2 ∧ (L ≠ 0 ∨ R ≠ 0) ∨ ¬ K ≤ 2 ∧ V ≠ 0 ∨ K = 10 ∧ R ≠ 0) → Ev (fun k => spec_l3Node.j0 k ⟨K, V, L, R⟩ i (decide (K ≤ 2)) b) (nodeC K V L R i) := j0
 unfold spec_l3Node.f
 rw [rd_one]
 simp only [l1In_eq, Option.bind_some, Pl.ev_ite]
 by_cases hK : 1 ≤ K ∧ K ≤ 10
 ·rw [if_pos (by simpa using hK)]
  obtain ⟨hK1, hK2⟩ := hK
  have fin : ∀ b5 b : Bool, b5 = decide (K ≤ 2) → (b = true ↔ (K ≤ 2 ∧ (L ≠ 0 ∨ R ≠ 0) ∨ ¬ K ≤ 2 ∧ V ≠ 0 ∨ K = 10 ∧ R ≠ 0)) → Ev (fun k => spec_l3Node.j0 k ⟨K, V, L, R⟩ i b5 b) (nodeC K V L R i) := fun b5 b h5 h => h5 ▸ jj b hK1 hK2 (by rw [Bool.eq_iff_iff, decide_eq_true_eq]; exact h)
  repeat' split
  all_goals (refine fin _ _ (by first | rfl | (symm; simp; omega)) ?_; first | (simp; omega) | (simp only [bne_iff_ne]; omega) | omega)
 ·rw [if_neg (by simpa using hK)]
  refine Pl.ev_some.2 ?_
  unfold nodeC
  repeat' split <;> first | rfl | omega
abbrev Nd := S74
def kK (e : List Nd) (i : Nat) : Int := (e.getD i z74).f0
def kL (e : List Nd) (i : Nat) : Nat := (e.getD i z74).f2.toNat
def kR (e : List Nd) (i : Nat) : Nat := (e.getD i z74).f3.toNat
theorem kK_at (e : List Nd) (i : Nat) (h : i < e.length) : kK e i = e[i].f0 := by unfold kK; rw [List.getD_eq_getElem?_getD, List.getElem?_eq_getElem h]; rfl
theorem kL_at (e : List Nd) (i : Nat) (h : i < e.length) : kL e i = e[i].f2.toNat := by unfold kL; rw [List.getD_eq_getElem?_getD, List.getElem?_eq_getElem h]; rfl
theorem kR_at (e : List Nd) (i : Nat) (h : i < e.length) : kR e i = e[i].f3.toNat := by unfold kR; rw [List.getD_eq_getElem?_getD, List.getElem?_eq_getElem h]; rfl
def ndC (x : Nd) (i : Nat) : Int := nodeC x.f0 x.f1 x.f2 x.f3 (i : Int)
def nodesC : Nat → List Nd → Int
 | _, [] => 0
 | i, x :: l => if ndC x i = 0 then nodesC (i + 1) l else ndC x i
def fineN (e : List Nd) : Prop := ∀ i (h : i < e.length), ndC e[i] i = 0
theorem nodeC_0 {K V L R i : Int} (h : nodeC K V L R i = 0) : (1 ≤ K ∧ K ≤ 10) ∧ (2 < K → 0 ≤ L ∧ L ≤ i - 1) ∧ (3 ≤ K ∧ K ≤ 9 → 0 ≤ R ∧ R ≤ i - 1) ∧ (K = 2 → 0 ≤ V ∧ V ≤ 3) ∧ (K = 1 → 0 ≤ V ∧ V ≤ 9999) := by
 unfold nodeC at h
 repeat' split at h
 all_goals first | omega | (simp at h)
theorem fineN_ahead {e : List Nd} (h : fineN e) : Pl.ahead (kK e) (kL e) (kR e) e.length := by
 intro i hi
 have h0 := nodeC_0 (h i hi)
 rw [kK_at e i hi, kL_at e i hi, kR_at e i hi]
 refine ⟨fun hK => ?_, fun hT => ?_⟩
 ·have := h0.2.1 hK; omega
 ·have := h0.2.2.1 (of_decide_eq_true hT); omega
theorem fineN_le {e : List Nd} (h : fineN e) : ∀ i, i < e.length → kK e i ≤ 10 := by
 intro i hi
 have h0 := nodeC_0 (h i hi)
 rw [kK_at e i hi]
 omega
theorem nodesC_0 : ∀ (l : List Nd) (i : Nat), nodesC i l = 0 ↔ ∀ j (h : j < l.length), ndC l[j] (i + j) = 0
 | [], i => by simp [nodesC]
 | x :: l, i => by
  unfold nodesC
  by_cases hx : ndC x i = 0
  ·rw [if_pos hx, nodesC_0 l (i + 1)]
   constructor
   ·intro h j hj
    cases j with
    | zero => simpa using hx
    | succ j => have := h j (by simpa using hj); simpa [Nat.add_assoc, Nat.add_comm 1 j] using this
   ·intro h j hj
    have := h (j + 1) (by simpa using hj)
    simpa [Nat.add_assoc, Nat.add_comm 1 j] using this
  ·rw [if_neg hx]
   constructor
   ·intro h; exact absurd h hx
   ·intro h; exact absurd (show ndC x i = 0 from h 0 (by simp)) hx
theorem nodesC_fine (e : List Nd) : nodesC 0 e = 0 ↔ fineN e := by
 rw [nodesC_0]
 simp [fineN]
open Classical in
noncomputable def shapeC (e : List Nd) : Int := if (∀ j, j < e.length → Pl.ok (kK e) (kL e) (kR e) j) ∧ Pl.sz (kK e) (kL e) (kR e) (e.length - 1) = e.length then 0 else 1
noncomputable def exprC (e : List Nd) : Int := if 1 ≤ e.length ∧ e.length ≤ 16 then (if nodesC 0 e = 0 then shapeC e else nodesC 0 e) else 2
theorem walkF_len (K : Nat → Int) (L R : Nat → Nat) : ∀ f i out, (Pl.walkF K L R f i out).length ≤ max out.length (17 + f)
 | 0, i, out => by unfold Pl.walkF; omega
 | f + 1, i, out => by
  unfold Pl.walkF
  by_cases h : 16 < out.length
  ·rw [if_pos h]; omega
  ·rw [if_neg h, List.length_append, List.length_singleton]
   have a : (if 2 < K i then Pl.walkF K L R f (L i) out else out).length ≤ 17 + f := by
    split
    ·have := walkF_len K L R f (L i) out; omega
    ·omega
   have b : (if Pl.two (K i) = true then Pl.walkF K L R f (R i) (if 2 < K i then Pl.walkF K L R f (L i) out else out) else (if 2 < K i then Pl.walkF K L R f (L i) out else out)).length ≤ 17 + f := by
    split
    ·have := walkF_len K L R f (R i) (if 2 < K i then Pl.walkF K L R f (L i) out else out); omega
    ·exact a
   omega
theorem specWalk_ev (e : List Nd) (hl : e.length ≤ 16) (hf : fineN e) : ∀ f i out, i < f → f ≤ 16 → i < e.length → out.length ≤ 50 → Ev (fun k => spec_l3Walk.f k e (i : Int) out) (Pl.walkF (kK e) (kL e) (kR e) f i out) := by
 intro f
 induction f with
 | zero => intro i out h; omega
 | succ f ih =>
  intro i out hif hf16 hi hout
  have h0 := nodeC_0 (hf i hi)
  obtain ⟨a1, a2⟩ := fineN_ahead hf i hi
  unfold Pl.walkF
  refine Ev.step (fun k => by rw [spec_l3Walk.f]) ?_
  simp only [Pl.ev_ite, Pl.ev_none, Pl.ev_some, rd_iNode e i hi, ← kK_at e i hi]
  by_cases h16 : 16 < out.length
  ·rw [if_pos (by omega), if_pos h16]
  ·rw [if_neg (by omega), if_neg h16, if_pos (by omega), if_pos (by omega)]
   have tail : ∀ o1 : List Int, o1.length ≤ 50 → Ev (fun k => spec_l3Walk.j0 k e (i : Int) o1) ((if Pl.two (kK e i) = true then Pl.walkF (kK e) (kL e) (kR e) f (kR e i) o1 else o1) ++ [(i : Int)]) := by
    intro o1 ho1
    refine Ev.step (fun k => by rw [spec_l3Walk.j0]) ?_
    simp only [Pl.ev_ite, Pl.ev_none, Pl.ev_some, rd_iNode e i hi, ← kK_at e i hi, l3Two_eq, Option.bind_some]
    rw [if_pos (by omega), if_pos (by omega)]
    by_cases hT : Pl.two (kK e i) = true
    ·rw [if_pos hT, if_pos hT]
     have hr := a2 hT
     have er : e[i].f3 = ((kR e i : Nat) : Int) := by
      rw [kR_at e i hi]; rw [kK_at e i hi] at hT; have := h0.2.2.1 (of_decide_eq_true hT); omega
     rw [er]
     refine Pl.ev_bind' (ih (kR e i) o1 (by omega) (by omega) (by omega) ho1) ?_
     have := walkF_len (kK e) (kL e) (kR e) f (kR e i) o1
     rw [if_pos (by omega)]
     exact Ev.now _
    ·rw [if_neg hT, if_neg hT, if_pos (by omega)]
   by_cases hI : 2 < kK e i
   ·have hL := a1 hI
    have el : e[i].f2 = ((kL e i : Nat) : Int) := by
     rw [kL_at e i hi]; rw [kK_at e i hi] at hI; have := h0.2.1 hI; omega
    simp only [gt_iff_lt, hI, if_true, el]
    refine Pl.ev_bind' (ih (kL e i) out (by omega) (by omega) (by omega) hout) ?_
    have := walkF_len (kK e) (kL e) (kR e) f (kL e i) out
    exact tail _ (by omega)
   ·simp only [gt_iff_lt, hI, if_false]
    exact tail _ hout
theorem specShape_ev (e : List Nd) (h1 : 1 ≤ e.length) (hl : e.length ≤ 16) (hf : fineN e) : Ev (fun k => (spec_l3Walk.f k e (wrap64 ((e.length : Int) - 1)) ([] : List Int)).bind fun t => (if (t.length : Int) = (e.length : Int) then (spec_l3Fault.l1 k t 0) else (some 1))) (shapeC e) := by
 have ew : wrap64 ((e.length : Int) - 1) = ((e.length - 1 : Nat) : Int) := by rw [Pl.wrap_in (by omega) (by omega)]; omega
 rw [ew]
 have hw := specWalk_ev e hl hf e.length (e.length - 1) [] (by omega) hl (by omega) (by simp)
 refine Pl.ev_bind' hw ?_
 have hi := Pl.walk_iff h1 hl (fineN_ahead hf) (fineN_le hf)
 generalize Pl.walkF (kK e) (kL e) (kR e) e.length (e.length - 1) [] = W at hi ⊢
 have fin : ∀ m : Nat, W.length = e.length → m ≤ W.length → (∀ j (hj : j < W.length), j < m → W[j] = (j : Int)) → Ev (fun k => spec_l3Fault.l1 k W (m : Int)) (shapeC e) := by
  intro m hWl
  obtain ⟨d, hd⟩ : ∃ d, W.length - m = d := ⟨_, rfl⟩
  induction d generalizing m with
  | zero =>
   intro hm hall
   obtain rfl : m = W.length := by omega
   refine Ev.step (fun k => by rw [spec_l3Fault.l1]) ?_
   simp only [Pl.ev_ite, Pl.ev_some]
   rw [if_neg (by omega)]
   unfold shapeC
   rw [if_pos (hi.1 ?_)]
   apply List.ext_getElem
   ·simp [hWl]
   ·intro j h1 h2; simp [hall j h1 h1]
  | succ d ih =>
   intro hm hall
   have hm' : m < W.length := by omega
   refine Ev.step (fun k => by rw [spec_l3Fault.l1]) ?_
   simp only [Pl.ev_ite, Pl.ev_some, Pl.ev_none, Pl.rd_get W m hm', Pl.wrap_nat (show m < 9223372036854775807 by omega)]
   rw [if_pos (by omega), if_pos (by omega)]
   by_cases he : W[m] = (m : Int)
   ·rw [if_pos he]
    have := ih (m + 1) (by omega) (by omega) (fun j hj hjm => by
     by_cases hjm' : j = m
     ·subst hjm'; exact he
     ·exact hall j hj (by omega))
    simpa using this
   ·rw [if_neg he]
    unfold shapeC
    rw [if_neg (fun hc => he ?_)]
    have e' := hi.2 hc
    subst e'
    simp
 simp only [Pl.ev_ite]
 by_cases hWl : W.length = e.length
 ·rw [if_pos (by omega)]
  exact fin 0 hWl (Nat.zero_le _) (fun j _ h => by omega)
 ·rw [if_neg (by omega)]
  refine Pl.ev_some.2 ?_
  unfold shapeC
  rw [if_neg (fun hc => hWl ?_)]
  rw [hi.2 hc]
  simp
theorem spec3Fault_ev (e : List Nd) (hl0 : e.length ≤ 1048576) : Ev (fun k => spec_l3Fault.f k e) (exprC e) := by
 have j0 : ∀ b : Bool, (b = true ↔ ¬ (1 ≤ e.length ∧ e.length ≤ 16)) → Ev (fun k => spec_l3Fault.j0 k e b) (exprC e) := by
  intro b hb
  refine Ev.step (fun k => by rw [spec_l3Fault.j0]) ?_
  simp only [Pl.ev_ite, Pl.ev_some]
  unfold exprC
  by_cases h : 1 ≤ e.length ∧ e.length ≤ 16
  ·rw [if_neg (fun x => (hb.1 x) h), if_pos h]
   have := Pl.loop (σ := Unit) (n := e.length) (g := fun k i _ => spec_l3Fault.l0 k e i) (F := fun i _ => if nodesC i (e.drop i) = 0 then shapeC e else nodesC i (e.drop i)) (fun i _ => ∀ j (hj : j < e.length), j < i → ndC e[j] j = 0) (fun _ hI => ?_) (fun i _ hi hI ih => ?_) 0 () (Nat.zero_le _) (fun j _ h => by omega)
   ·simpa using this
   ·refine Ev.step (fun k => by rw [spec_l3Fault.l0]) ?_
    simp only [Pl.ev_ite]
    rw [if_neg (by omega), List.drop_length]
    simp only [nodesC, if_true]
    exact specShape_ev e h.1 h.2 (fun i hi => hI i hi hi)
   ·refine Ev.step (fun k => by rw [spec_l3Fault.l0]) ?_
    simp only [Pl.ev_ite, Pl.ev_none, rd_iNode e i hi, Pl.wrap_nat (show i < 9223372036854775807 by omega)]
    rw [if_pos (by omega), if_pos (by omega)]
    refine Pl.ev_bind' (specNode_ev e[i] (i : Int) (by omega) (by omega)) ?_
    rw [Pl.drop_get hi]
    unfold nodesC
    simp only [Pl.ev_ite]
    have en : ndC e[i] i = nodeC e[i].f0 e[i].f1 e[i].f2 e[i].f3 (i : Int) := rfl
    rw [← en]
    by_cases hn : ndC e[i] i = 0
    ·simp only [hn, if_true]
     exact ih () (fun j hj hji => by
      by_cases hji' : j = i
      ·subst hji'; exact hn
      ·exact hI j hj (by omega))
    ·simp only [if_neg hn]
     exact Ev.now _
  ·rw [if_pos (hb.2 h), if_neg h]
 unfold spec_l3Fault.f
 simp only [Pl.ev_ite]
 split
 ·rename_i h; exact j0 _ (by simp; omega)
 ·rename_i h; exact j0 _ (by simp; omega)
def sizesC (e : List Nd) (i : Nat) : List Int := (List.range i).map fun j => ((Pl.sz (kK e) (kL e) (kR e) j : Nat) : Int)
theorem sizesC_len (e : List Nd) (i : Nat) : (sizesC e i).length = i := by simp [sizesC]
theorem sizesC_rd (e : List Nd) (i j : Nat) (h : j < i) : rd (sizesC e i) (j : Int) = ((Pl.sz (kK e) (kL e) (kR e) j : Nat) : Int) := by
 rw [Pl.rd_get _ j (by rw [sizesC_len]; exact h)]
 simp [sizesC]
theorem sizesC_succ (e : List Nd) (i : Nat) : sizesC e i ++ [((Pl.sz (kK e) (kL e) (kR e) i : Nat) : Int)] = sizesC e (i + 1) := by simp [sizesC, List.range_succ]
def badC (e : List Nd) (i : Nat) : Prop := ∃ j, j < i ∧ ¬ Pl.ok (kK e) (kL e) (kR e) j
theorem badC_succ (e : List Nd) (i : Nat) : badC e (i + 1) ↔ badC e i ∨ ¬ Pl.ok (kK e) (kL e) (kR e) i := by
 constructor
 ·rintro ⟨j, h, hj⟩
  by_cases hji : j = i
  ·subst hji; exact .inr hj
  ·exact .inl ⟨j, by omega, hj⟩
 ·rintro (⟨j, h, hj⟩ | hj)
  ·exact ⟨j, by omega, hj⟩
  ·exact ⟨i, by omega, hj⟩
theorem implShape_ev (e : List Nd) (h1 : 1 ≤ e.length) (hl : e.length ≤ 16) (hf : fineN e) : Ev (fun k => impl_ExprFault.l1 k e ([] : List Int) false e (e.length : Int) 0) (shapeC e) := by
 have ha := fineN_ahead hf
 have hsz : ∀ j, j < e.length → Pl.sz (kK e) (kL e) (kR e) j ≤ 131072 := fun j hj => by
  have h1 := Pl.sz_le ha j hj
  have h2 : 2 ^ (j + 1) ≤ 2 ^ 16 := Nat.pow_le_pow_right (by omega) (by omega)
  omega
 have main := Pl.loop (σ := List Int × Bool) (n := e.length) (g := fun k i s => impl_ExprFault.l1 k e s.1 s.2 e (e.length : Int) i) (F := fun _ _ => shapeC e)
  (fun i s => s.1 = sizesC e i ∧ (s.2 = true ↔ badC e i)) ?_ ?_ 0 ([], false) (Nat.zero_le _) ⟨rfl, by simp [badC]⟩
 ·simpa using main
 ·rintro ⟨S, w⟩ ⟨hS, hw⟩
  simp only at hS hw
  subst hS
  have ew : wrap64 ((e.length : Int) - 1) = ((e.length - 1 : Nat) : Int) := by rw [Pl.wrap_in (by omega) (by omega)]; omega
  refine Ev.step (fun k => by rw [impl_ExprFault.l1]) ?_
  simp only [Pl.ev_ite, Pl.ev_none, codeIf_eq, Option.bind_some, ew, sizesC_len, sizesC_rd e e.length (e.length - 1) (by omega)]
  rw [if_neg (by omega)]
  by_cases hb : badC e e.length
  ·rw [if_pos (hw.2 hb)]
   refine Pl.ev_some.2 ?_
   have e1 : shapeC e = 1 := by
    unfold shapeC
    exact if_neg (fun h => by obtain ⟨j, hj, hj'⟩ := hb; exact hj' (h.1 j hj))
   rw [e1]; rfl
  ·rw [if_neg (fun h => hb (hw.1 h)), if_pos (by omega), if_pos (by omega)]
   refine Pl.ev_some.2 ?_
   have hall : ∀ j, j < e.length → Pl.ok (kK e) (kL e) (kR e) j := fun j hj => Classical.byContradiction fun h => hb ⟨j, hj, h⟩
   by_cases hs : Pl.sz (kK e) (kL e) (kR e) (e.length - 1) = e.length
   ·have e1 : shapeC e = 0 := by
     unfold shapeC
     exact if_pos ⟨hall, hs⟩
    rw [e1, hs]; simp
   ·have e1 : shapeC e = 1 := by
     unfold shapeC
     exact if_neg (fun h => hs h.2)
    have : ((Pl.sz (kK e) (kL e) (kR e) (e.length - 1) : Nat) : Int) ≠ (e.length : Int) := by omega
    rw [e1]; simp [this]
 ·rintro i ⟨S, w⟩ hi ⟨hS, hw⟩ ih
  simp only at hS hw
  subst hS
  have h0 := nodeC_0 (hf i hi)
  obtain ⟨a1, a2⟩ := ha i hi
  have es := Pl.sz_eq ha hi
  have next : ∀ (v : Int) (w' : Bool), v = ((Pl.sz (kK e) (kL e) (kR e) i : Nat) : Int) → (w' = true ↔ badC e (i + 1)) → Ev (fun k => impl_ExprFault.l1 k e (sizesC e i ++ [v]) w' e (e.length : Int) ((i : Int) + 1)) (shapeC e) := by
   intro v w' hv hw'
   have := ih (sizesC e i ++ [v], w') ⟨by rw [hv]; exact sizesC_succ e i, hw'⟩
   simpa using this
  have eK := kK_at e i hi
  have eL : 2 < kK e i → e[i].f2 = ((kL e i : Nat) : Int) := fun h => by
   rw [kL_at e i hi]; rw [eK] at h; have := h0.2.1 h; omega
  have eR : Pl.two (kK e i) = true → e[i].f3 = ((kR e i : Nat) : Int) := fun h => by
   rw [kR_at e i hi]; rw [eK] at h; have := h0.2.2.1 (of_decide_eq_true h); omega
  have ew : wrap64 ((i : Int) - 1) = (i : Int) - 1 := Pl.wrap_in (by omega) (by omega)
  refine Ev.step (fun k => by rw [impl_ExprFault.l1]) ?_
  simp only [Pl.ev_ite, Pl.ev_none, rd_iNode e i hi, ← eK, isTwo_eq, Option.bind_some, sizesC_len, ew, Pl.wrap_nat (show i < 9223372036854775807 by omega)]
  rw [if_pos (by omega), if_pos (by omega), if_pos (by omega)]
  have lim : (i : Nat) < 17592186044416 := by omega
  simp only [lim, if_true]
  by_cases hN : kK e i = 10
  ·have hT : ¬ Pl.two (kK e i) = true := fun h => by have := of_decide_eq_true h; omega
   have hI : 2 < kK e i := by omega
   have hL := a1 hI
   have := hsz (kL e i) (by omega)
   rw [if_pos hN, eL hI]
   rw [if_pos hI, if_neg hT] at es
   have r1 := sizesC_rd e i (kL e i) hL
   rw [r1, Pl.wrap_in (by omega) (by omega)]
   have ok_iff : Pl.ok (kK e) (kL e) (kR e) i ↔ kL e i + 1 = i := by
    unfold Pl.ok
    exact ⟨fun h => h.1 hN, fun h => ⟨fun _ => h, fun h' => absurd h' hT⟩⟩
   by_cases hwt : w = true
   ·rw [if_pos hwt, if_pos (by omega), if_pos (by omega)]
    exact next _ _ (by omega) (by rw [badC_succ]; simp [hw.1 hwt])
   ·rw [if_neg hwt, if_pos (by omega), if_pos (by omega)]
    refine next _ _ (by omega) ?_
    have hb : ¬ badC e i := fun h => hwt (hw.2 h)
    rw [badC_succ, ok_iff, bne_iff_ne]
    simp only [hb, false_or]
    omega
  ·rw [if_neg hN]
   by_cases hT : Pl.two (kK e i) = true
   ·have hI := Pl.two_inner hT
    have hL := a1 hI
    have hR := a2 hT
    have := hsz (kL e i) (by omega)
    have := hsz (kR e i) (by omega)
    rw [if_pos hT, eL hI, eR hT]
    rw [if_pos hI, if_pos hT] at es
    have r1 := sizesC_rd e i (kL e i) hL
    have r2 := sizesC_rd e i (kR e i) hR
    rw [r1, r2, Pl.wrap_in (x := ((Pl.sz (kK e) (kL e) (kR e) (kL e i) : Nat) : Int) + ((Pl.sz (kK e) (kL e) (kR e) (kR e i) : Nat) : Int)) (by omega) (by omega), Pl.wrap_in (x := 1 + (((Pl.sz (kK e) (kL e) (kR e) (kL e i) : Nat) : Int) + ((Pl.sz (kK e) (kL e) (kR e) (kR e i) : Nat) : Int))) (by omega) (by omega), Pl.wrap_in (x := (i : Int) - 1 - ((Pl.sz (kK e) (kL e) (kR e) (kR e i) : Nat) : Int)) (by omega) (by omega)]
    have ok_iff : Pl.ok (kK e) (kL e) (kR e) i ↔ kR e i + 1 = i ∧ kL e i + 1 + Pl.sz (kK e) (kL e) (kR e) (kR e i) = i := by
     unfold Pl.ok
     exact ⟨fun h => h.2 hT, fun h => ⟨fun h' => absurd h' hN, fun _ => h⟩⟩
    by_cases hwt : w = true
    ·rw [if_pos hwt, if_pos (by omega), if_pos (by omega), if_pos (by omega), if_pos (by omega)]
     exact next _ _ (by omega) (by rw [badC_succ]; simp [hw.1 hwt])
    ·have hb : ¬ badC e i := fun h => hwt (hw.2 h)
     rw [if_neg hwt]
     by_cases hRi : ((kR e i : Nat) : Int) = (i : Int) - 1
     ·rw [if_pos hRi, if_pos (by omega), if_pos (by omega), if_pos (by omega), if_pos (by omega)]
      refine next _ _ (by omega) ?_
      rw [badC_succ, ok_iff, bne_iff_ne]
      simp only [hb, false_or]
      omega
     ·rw [if_neg hRi, if_pos (by omega), if_pos (by omega), if_pos (by omega), if_pos (by omega)]
      refine next _ _ (by omega) ?_
      rw [badC_succ, ok_iff]
      simp only [hb, false_or, true_iff]
      omega
   ·rw [if_neg hT]
    have hI : ¬ 2 < kK e i := fun h => by
     have := fineN_le hf i hi
     exact hT (decide_eq_true (by omega))
    rw [if_neg hI, if_neg hT] at es
    refine next _ _ (by omega) ?_
    rw [badC_succ, hw]
    have : Pl.ok (kK e) (kL e) (kR e) i := ⟨fun h => absurd h hN, fun h => absurd h hT⟩
    simp [this]
theorem implExpr_ev (e : List Nd) : Ev (fun k => impl_ExprFault.f k e) (exprC e) := by
 unfold impl_ExprFault.f
 simp only [inRange_eq, Option.bind_some, Pl.ev_ite, Pl.ev_some, decide_eq_true_eq]
 unfold exprC
 by_cases h : 1 ≤ e.length ∧ e.length ≤ 16
 ·rw [if_pos (by omega), if_pos h]
  have := Pl.loop (σ := Unit) (n := e.length) (g := fun k i _ => impl_ExprFault.l0 k e e (e.length : Int) i) (F := fun i _ => if nodesC i (e.drop i) = 0 then shapeC e else nodesC i (e.drop i)) (fun i _ => ∀ j (hj : j < e.length), j < i → ndC e[j] j = 0) (fun _ hI => ?_) (fun i _ hi hI ih => ?_) 0 () (Nat.zero_le _) (fun j _ h => by omega)
  ·simpa using this
  ·refine Ev.step (fun k => by rw [impl_ExprFault.l0]) ?_
   simp only [Pl.ev_ite]
   rw [if_neg (by omega), List.drop_length]
   simp only [nodesC, if_true]
   exact implShape_ev e h.1 h.2 (fun i hi => hI i hi hi)
  ·refine Ev.step (fun k => by rw [impl_ExprFault.l0]) ?_
   simp only [Pl.ev_ite, Pl.ev_none, rd_iNode e i hi, Pl.wrap_nat (show i < 9223372036854775807 by omega)]
   rw [if_pos (by omega), if_pos (by omega), if_pos (by omega)]
   refine Pl.ev_bind' (implNode_ev e[i].f0 e[i].f1 e[i].f2 e[i].f3 (i : Int) (by omega) (by omega)) ?_
   rw [Pl.drop_get hi]
   unfold nodesC
   simp only [Pl.ev_ite]
   have en : ndC e[i] i = nodeC e[i].f0 e[i].f1 e[i].f2 e[i].f3 (i : Int) := rfl
   rw [← en]
   by_cases hn : ndC e[i] i = 0
   ·simp only [hn, if_true]
    exact ih () (fun j hj hji => by
     by_cases hji' : j = i
     ·subst hji'; exact hn
     ·exact hI j hj (by omega))
   ·simp only [if_neg hn]
    exact Ev.now _
 ·rw [if_neg (by omega), if_neg h]
def wantC (K : Int) : Int := if K ≤ 8 then 1 else 2
def giveC (K : Int) : Int := if K ≤ 6 then 1 else 2
theorem partType_eq (K : Int) : impl_partType.f K = some (wantC K, giveC K) := by
 unfold impl_partType.f wantC giveC
 by_cases h : K ≤ 6
 ·rw [if_pos h, if_pos (by omega), if_pos h]
 ·rw [if_neg h, if_neg h]
  by_cases h' : K ≤ 8
  ·rw [if_pos h', if_pos h']
  ·rw [if_neg h', if_neg h']
def goodC (x : Nd) (acc : List Int) : Prop := (2 < x.f0 → rd acc x.f2 = wantC x.f0) ∧ (Pl.two x.f0 = true → rd acc x.f3 = wantC x.f0)
instance (x : Nd) (acc : List Int) : Decidable (goodC x acc) := by unfold goodC; infer_instance
def typesC : List Nd → List Int → Option (List Int)
 | [], acc => some acc
 | x :: l, acc => if goodC x acc then typesC l (acc ++ [giveC x.f0]) else none
theorem specTypes_ev (e : List Nd) (hl : e.length ≤ 16) (hf : fineN e) : Ev (fun k => spec_l3Types.f k e) ((typesC e []).elim (([] : List Int), false) fun t => (t, true)) := by
 unfold spec_l3Types.f
 have main := Pl.loop (σ := List Int) (n := e.length) (g := fun k i s => spec_l3Types.l0 k e s i) (F := fun i s => (typesC (e.drop i) s).elim (([] : List Int), false) fun t => (t, true)) (fun i s => s.length = i) ?_ ?_ 0 [] (Nat.zero_le _) rfl
 ·simpa using main
 ·intro s _
  refine Ev.step (fun k => by rw [spec_l3Types.l0]) ?_
  simp only [Pl.ev_ite, Pl.ev_none, Pl.ev_some]
  rw [if_neg (by omega), List.drop_length]
  rfl
 ·intro i s hi hs ih
  have h0 := nodeC_0 (hf i hi)
  rw [Pl.drop_get hi]
  unfold typesC
  have key : Ev (fun k => spec_l3Types.j2 k e s (i : Int) (wantC e[i].f0) 1 e[i].f0 e[i].f1 e[i].f2 e[i].f3) ((if goodC e[i] s then typesC (e.drop (i + 1)) (s ++ [giveC e[i].f0]) else none).elim (([] : List Int), false) fun t => (t, true)) := by
   generalize e[i] = x at h0 ih ⊢
   obtain ⟨K, V, L, R⟩ := x
   simp only at h0 ⊢
   have next : Ev (fun k => spec_l3Types.l0 k e (s ++ [giveC K]) ((i : Int) + 1)) ((typesC (e.drop (i + 1)) (s ++ [giveC K])).elim (([] : List Int), false) fun t => (t, true)) := ih _ (by simp [hs])
   have lim : i < 17592186044416 := by omega
   refine Ev.step (fun k => by rw [spec_l3Types.j2]) ?_
   simp only [Pl.ev_ite, Pl.ev_none, Pl.ev_some, l3Two_eq, Option.bind_some, Pl.wrap_nat (show i < 9223372036854775807 by omega), lim, if_true, gt_iff_lt, ge_iff_le, hs]
   have good_iff : goodC ⟨K, V, L, R⟩ s ↔ (2 < K → rd s L = wantC K) ∧ (Pl.two K = true → rd s R = wantC K) := Iff.rfl
   have bT : Pl.two K = true → 0 ≤ R ∧ R < (i : Int) := fun h => by have := h0.2.2.1 (of_decide_eq_true h); omega
   have bI : 2 < K → 0 ≤ L ∧ L < (i : Int) := fun h => by have := h0.2.1 h; omega
   by_cases h7 : 7 ≤ K
   ·have eg : giveC K = 2 := if_neg (by omega)
    have hI : 2 < K := by omega
    obtain ⟨b1, b2⟩ := bI hI
    rw [eg] at next ⊢
    simp only [h7, hI, if_true, b1, b2]
    by_cases hw : rd s L = wantC K
    ·simp only [hw, if_true]
     by_cases hT : Pl.two K = true
     ·obtain ⟨b3, b4⟩ := bT hT
      simp only [hT, if_true, b3, b4]
      by_cases hw2 : rd s R = wantC K
      ·simp only [hw2, if_true]
       rw [if_pos (good_iff.2 ⟨fun _ => hw, fun _ => hw2⟩)]
       exact next
      ·simp only [if_neg hw2]
       rw [if_neg (fun h => hw2 ((good_iff.1 h).2 hT))]
       rfl
     ·simp only [if_neg hT]
      rw [if_pos (good_iff.2 ⟨fun _ => hw, fun h => absurd h hT⟩)]
      exact next
    ·simp only [if_neg hw]
     rw [if_neg (fun h => hw ((good_iff.1 h).1 hI))]
     rfl
   ·have eg : giveC K = 1 := if_pos (by omega)
    rw [eg] at next ⊢
    simp only [h7, if_false]
    by_cases hI : 2 < K
    ·obtain ⟨b1, b2⟩ := bI hI
     simp only [hI, if_true, b1, b2]
     by_cases hw : rd s L = wantC K
     ·simp only [hw, if_true]
      by_cases hT : Pl.two K = true
      ·obtain ⟨b3, b4⟩ := bT hT
       simp only [hT, if_true, b3, b4]
       by_cases hw2 : rd s R = wantC K
       ·simp only [hw2, if_true]
        rw [if_pos (good_iff.2 ⟨fun _ => hw, fun _ => hw2⟩)]
        exact next
       ·simp only [if_neg hw2]
        rw [if_neg (fun h => hw2 ((good_iff.1 h).2 hT))]
        rfl
      ·simp only [if_neg hT]
       rw [if_pos (good_iff.2 ⟨fun _ => hw, fun h => absurd h hT⟩)]
       exact next
     ·simp only [if_neg hw]
      rw [if_neg (fun h => hw ((good_iff.1 h).1 hI))]
      rfl
    ·have hT : ¬ Pl.two K = true := fun h => hI (Pl.two_inner h)
     simp only [if_neg hI, if_neg hT]
     rw [if_pos (good_iff.2 ⟨fun h => absurd h hI, fun h => absurd h hT⟩)]
     exact next
  have j1 : ∀ b : Bool, (b = true ↔ 8 < e[i].f0) → Ev (fun k => spec_l3Types.j1 k e s (i : Int) 1 1 b e[i].f0 e[i].f1 e[i].f2 e[i].f3) ((if goodC e[i] s then typesC (e.drop (i + 1)) (s ++ [giveC e[i].f0]) else none).elim (([] : List Int), false) fun t => (t, true)) := by
   intro b hb
   refine Ev.step (fun k => by rw [spec_l3Types.j1]) ?_
   simp only [Pl.ev_ite]
   unfold wantC at key
   by_cases h8 : 8 < e[i].f0
   ·rw [if_pos (hb.2 h8)]
    rw [if_neg (by omega)] at key
    exact key
   ·rw [if_neg (fun h => h8 (hb.1 h))]
    rw [if_pos (by omega)] at key
    exact key
  refine Ev.step (fun k => by rw [spec_l3Types.l0]) ?_
  simp only [Pl.ev_ite, Pl.ev_none, rd_iNode e i hi]
  rw [if_pos (by omega), if_pos (by omega)]
  split
  ·exact j1 _ (by simp; omega)
  ·exact j1 _ (by simp; omega)
theorem typesC_len : ∀ (l : List Nd) (acc t : List Int), typesC l acc = some t → t.length = acc.length + l.length
 | [], acc, t => by intro h; simp [typesC] at h; simp [h]
 | x :: l, acc, t => by
  intro h
  unfold typesC at h
  split at h
  ·have := typesC_len l _ t h
   simp at this ⊢
   omega
  ·simp at h
noncomputable def typeC (e : List Nd) : Int × Int := if exprC e = 0 then ((typesC e []).elim (7, 0) fun t => (0, rd t ((e.length - 1 : Nat) : Int))) else (exprC e, 0)
theorem exprC_0 {e : List Nd} (h : exprC e = 0) : (1 ≤ e.length ∧ e.length ≤ 16) ∧ fineN e := by
 unfold exprC at h
 by_cases hl : 1 ≤ e.length ∧ e.length ≤ 16
 ·rw [if_pos hl] at h
  by_cases hn : nodesC 0 e = 0
  ·exact ⟨hl, (nodesC_fine e).1 hn⟩
  ·rw [if_neg hn] at h; exact absurd h hn
 ·rw [if_neg hl] at h; exact absurd h (by omega)
theorem spec3Type_ev (e : List Nd) (hl0 : e.length ≤ 1048576) : Ev (fun k => spec_l3Type.f k e) ((typeC e).2, (typeC e).1) := by
 unfold spec_l3Type.f
 refine Pl.ev_bind' (spec3Fault_ev e hl0) ?_
 unfold typeC
 simp only [Pl.ev_ite]
 by_cases h : exprC e = 0
 ·obtain ⟨⟨l1, l2⟩, hf⟩ := exprC_0 h
  rw [if_pos h, if_pos h]
  refine Pl.ev_bind' (specTypes_ev e l2 hf) ?_
  cases ht : typesC e [] with
  | none => simp only [Option.elim]; exact Ev.now _
  | some t =>
   have := typesC_len e [] t ht
   simp only [List.length_nil, Nat.zero_add] at this
   have ew : wrap64 ((t.length : Int) - 1) = ((e.length - 1 : Nat) : Int) := by rw [Pl.wrap_in (by omega) (by omega)]; omega
   simp only [Option.elim, if_true, ew, Pl.ev_ite, Pl.ev_none, Pl.ev_some]
   rw [if_pos (by omega), if_pos (by omega)]
   trivial
 ·rw [if_neg h, if_neg h]
  exact Ev.now _
theorem implType_ev (e : List Nd) : Ev (fun k => impl_TypeOf.f k e) (typeC e) := by
 unfold impl_TypeOf.f
 refine Pl.ev_bind' (implExpr_ev e) ?_
 unfold typeC
 simp only [Pl.ev_ite]
 by_cases h : exprC e = 0
 ·obtain ⟨⟨l1, l2⟩, hf⟩ := exprC_0 h
  rw [if_pos h, if_pos h]
  have main := Pl.loop (σ := List Int) (n := e.length) (g := fun k i s => impl_TypeOf.l0 k s e (e.length : Int) i) (F := fun i s => (typesC (e.drop i) s).elim ((7, 0) : Int × Int) fun t => (0, rd t ((e.length - 1 : Nat) : Int))) (fun i s => s.length = i) ?_ ?_ 0 [] (Nat.zero_le _) rfl
  ·simpa using main
  ·intro s hs
   have ew : wrap64 ((s.length : Int) - 1) = ((e.length - 1 : Nat) : Int) := by rw [Pl.wrap_in (by omega) (by omega)]; omega
   refine Ev.step (fun k => by rw [impl_TypeOf.l0]) ?_
   simp only [Pl.ev_ite, Pl.ev_none, Pl.ev_some, ew]
   rw [if_neg (by omega), if_pos (by omega), if_pos (by omega), List.drop_length]
   rfl
  ·intro i s hi hs ih
   have h0 := nodeC_0 (hf i hi)
   rw [Pl.drop_get hi]
   unfold typesC
   refine Ev.step (fun k => by rw [impl_TypeOf.l0]) ?_
   simp only [Pl.ev_ite, Pl.ev_none, rd_iNode e i hi]
   rw [if_pos (by omega), if_pos (by omega), if_pos (by omega)]
   generalize e[i] = x at h0 ih ⊢
   obtain ⟨K, V, L, R⟩ := x
   simp only at h0 ⊢
   have next : Ev (fun k => impl_TypeOf.l0 k (s ++ [giveC K]) e (e.length : Int) ((i : Int) + 1)) ((typesC (e.drop (i + 1)) (s ++ [giveC K])).elim ((7, 0) : Int × Int) fun t => (0, rd t ((e.length - 1 : Nat) : Int))) := ih _ (by simp [hs])
   have lim : i < 17592186044416 := by omega
   simp only [partType_eq, Pl.ev_ite, Pl.ev_none, Pl.ev_some, isTwo_eq, Option.bind_some, Pl.wrap_nat (show i < 9223372036854775807 by omega), lim, if_true, gt_iff_lt, ge_iff_le, hs]
   have good_iff : goodC ⟨K, V, L, R⟩ s ↔ (2 < K → rd s L = wantC K) ∧ (Pl.two K = true → rd s R = wantC K) := Iff.rfl
   have bT : Pl.two K = true → 0 ≤ R ∧ R < (i : Int) := fun h => by have := h0.2.2.1 (of_decide_eq_true h); omega
   have bI : 2 < K → 0 ≤ L ∧ L < (i : Int) := fun h => by have := h0.2.1 h; omega
   by_cases hI : 2 < K
   ·obtain ⟨b1, b2⟩ := bI hI
    simp only [hI, if_true, b1, b2]
    by_cases hw : rd s L = wantC K
    ·simp only [hw, if_true]
     by_cases hT : Pl.two K = true
     ·obtain ⟨b3, b4⟩ := bT hT
      simp only [hT, if_true, b3, b4]
      by_cases hw2 : rd s R = wantC K
      ·simp only [hw2, if_true]
       rw [if_pos (good_iff.2 ⟨fun _ => hw, fun _ => hw2⟩)]
       exact next
      ·simp only [if_neg hw2]
       rw [if_neg (fun h => hw2 ((good_iff.1 h).2 hT))]
       rfl
     ·simp only [if_neg hT]
      rw [if_pos (good_iff.2 ⟨fun _ => hw, fun h => absurd h hT⟩)]
      exact next
    ·simp only [if_neg hw]
     rw [if_neg (fun h => hw ((good_iff.1 h).1 hI))]
     rfl
   ·have hT : ¬ Pl.two K = true := fun h => hI (Pl.two_inner h)
    simp only [if_neg hI, if_neg hT]
    rw [if_pos (good_iff.2 ⟨fun h => absurd h hI, fun h => absurd h hT⟩)]
    exact next
 ·rw [if_neg h, if_neg h]
  exact Ev.now _
abbrev St := S37
abbrev rdS (p : List St) (j : Int) : St := rd_T37 p j
theorem rd_oneSt (x : St) : rd_T37 [x] 0 = x := rfl
abbrev pr (p : List St) (j : Int) : Int := (rd_T37 p j).f1
def boundsC (K : Int) : Int × Int := if K = 5 then (0, 9) else if K = 6 ∨ K = 8 then (1, 99) else if K = 7 then (0, 3) else (0, 0)
def argC (K A : Int) : Bool := if K = 5 ∨ K = 6 ∨ K = 7 ∨ K = 8 then decide ((boundsC K).1 ≤ A ∧ A ≤ (boundsC K).2) else true
def bareC (x : St) : Bool := decide ((x.f0 = 2 ∨ x.f2.toList = []) ∧ ((5 ≤ x.f0 ∧ x.f0 ≤ 8) ∨ x.f3 = 0) ∧ (x.f0 = 7 ∨ x.f5.length = 0))
theorem bare_eq (x : St) : spec_l4Bare.f x = some (bareC x) := by
 unfold spec_l4Bare.f bareC
 simp only [l1In_eq, Option.bind_some, rd_oneSt]
 by_cases h2 : x.f0 = 2
 ·by_cases h3 : x.f3 = 0 <;> by_cases h5 : x.f5.length = 0 <;> simp [h2, h3, h5]
 ·by_cases hs : x.f2.toList = []
  ·by_cases h58 : 5 ≤ x.f0 ∧ x.f0 ≤ 8
   ·by_cases h7 : x.f0 = 7 <;> by_cases h5 : x.f5.length = 0 <;> simp [h2, hs, h58, h7, h5]
   ·by_cases h7 : x.f0 = 7
    ·exact absurd ⟨by omega, by omega⟩ h58
    ·by_cases h3 : x.f3 = 0 <;> by_cases h5 : x.f5.length = 0 <;> simp [h2, hs, h58, h7, h3, h5]
  ·simp [h2, hs]
theorem arg_ev (x : St) : Ev (fun k => spec_l4Arg.f k x) (argC x.f0 x.f3) := by
 unfold spec_l4Arg.f argC boundsC
 simp only [rd_oneSt, l1In_eq, Option.bind_some]
 by_cases h5 : x.f0 = 5
 ·refine Pl.ev_ite_pos h5 ?_
  simp [h5, Pl.ev_some]
 ·refine Pl.ev_ite_neg h5 ?_
  by_cases h6 : x.f0 = 6
  ·refine Pl.ev_ite_pos h6 ?_
   refine Ev.step (fun k => by rw [spec_l4Arg.j0]) ?_
   simp [h6, rd_oneSt, l1In_eq, Pl.ev_some]
  ·refine Pl.ev_ite_neg h6 ?_
   refine Ev.step (fun k => by rw [spec_l4Arg.j0]) ?_
   by_cases h8 : x.f0 = 8
   ·simp [h8, rd_oneSt, l1In_eq, Pl.ev_some]
   ·by_cases h7 : x.f0 = 7
    ·simp [h7, rd_oneSt, l1In_eq, Pl.ev_some]
    ·simp [h5, h6, h7, h8, Pl.ev_some]
theorem argBounds_ev (K : Int) : Ev (fun k => impl_argBounds.f k K) (boundsC K) := by
 unfold impl_argBounds.f boundsC
 by_cases h5 : K = 5
 ·refine Pl.ev_ite_pos h5 ?_
  simp [h5, Pl.ev_some]
 ·refine Pl.ev_ite_neg h5 ?_
  by_cases h6 : K = 6
  ·refine Pl.ev_ite_pos h6 ?_
   refine Ev.step (fun k => by rw [impl_argBounds.j0]) ?_
   simp [h6, Pl.ev_some]
  ·refine Pl.ev_ite_neg h6 ?_
   refine Ev.step (fun k => by rw [impl_argBounds.j0]) ?_
   by_cases h8 : K = 8
   ·simp [h8, Pl.ev_some]
   ·by_cases h7 : K = 7
    ·simp [h7, Pl.ev_some]
    ·simp [h5, h6, h7, h8, Pl.ev_some]
/-! parents and depths -/
def treeOk (p : List St) (n : Nat) : Prop := ∀ j : Nat, j < n → (j = 0 → pr p j = -1) ∧ (0 < j → 0 ≤ pr p j ∧ pr p j ≤ (j : Int) - 1)
theorem treeOk_lt {p : List St} {n : Nat} (h : treeOk p n) {at' : Int} (h0 : 0 ≤ at') (h1 : at' < n) : -1 ≤ pr p at' ∧ pr p at' < at' := by
 obtain ⟨j, rfl⟩ := Int.eq_ofNat_of_zero_le h0
 obtain ⟨a, b⟩ := h j (by omega)
 by_cases hj : j = 0
 ·have := a hj; omega
 ·have := b (by omega); omega
def deepF (p : List St) : Nat → Int → Int
 | 0, _ => 0
 | f + 1, at' => if at' < 0 then 0 else deepF p f (pr p at') + 1
def deep (p : List St) (at' : Int) : Int := deepF p (at'.toNat + 1) at'
theorem deepF_more {p : List St} {n : Nat} (h : treeOk p n) : ∀ (f g : Nat) (at' : Int), -1 ≤ at' → at' < n → at' < f → at' < g → deepF p f at' = deepF p g at'
 | 0, 0, _, _, _, _, _ => rfl
 | 0, g + 1, at', h0, _, hf, _ => by rw [deepF, deepF, if_pos (by omega)]
 | f + 1, 0, at', h0, _, _, hg => by rw [deepF, deepF, if_pos (by omega)]
 | f + 1, g + 1, at', h0, h1, hf, hg => by
  rw [deepF, deepF]
  by_cases hn : at' < 0
  ·rw [if_pos hn, if_pos hn]
  ·rw [if_neg hn, if_neg hn]
   obtain ⟨a, b⟩ := treeOk_lt h (by omega) h1
   rw [deepF_more h f g _ a (by omega) (by omega) (by omega)]
theorem deep_neg (p : List St) : deep p (-1) = 0 := rfl
theorem deep_at {p : List St} {n : Nat} (h : treeOk p n) {i : Int} (h0 : 0 ≤ i) (hp : -1 ≤ pr p i ∧ pr p i < i) (hn : i ≤ n) : deep p i = deep p (pr p i) + 1 := by
 unfold deep
 rw [deepF, if_neg (by omega), deepF_more h i.toNat ((pr p i).toNat + 1) _ hp.1 (by omega) (by omega) (by omega)]
theorem deep_le {p : List St} {n : Nat} (h : treeOk p n) : ∀ (m : Nat) (at' : Int), at'.toNat + 1 = m → -1 ≤ at' → at' < n → 0 ≤ deep p at' ∧ deep p at' ≤ at' + 1 := by
 intro m
 induction m using Nat.strongRecOn with
 | _ m ih =>
  intro at' hm h0 h1
  by_cases hn : at' < 0
  ·obtain rfl : at' = -1 := by omega
   rw [deep_neg]; omega
  ·obtain ⟨a, b⟩ := treeOk_lt h (by omega) h1
   rw [deep_at h (by omega) ⟨a, b⟩ (by omega)]
   by_cases h2 : pr p at' < 0
   ·obtain h3 : pr p at' = -1 := by omega
    rw [h3, deep_neg]; omega
   ·have := ih ((pr p at').toNat + 1) (by omega) _ rfl a (by omega)
    omega
theorem specDeep_ev {p : List St} {n : Nat} (h : treeOk p n) (hn : n ≤ p.length) (h24 : n ≤ 24) : ∀ (m : Nat) (at' : Int), at'.toNat + 1 = m → -1 ≤ at' → at' < n → ∀ c, 0 ≤ c → c + deep p at' ≤ 50 → Ev (fun k => spec_l4Deep.l0 k p at' c) (c + deep p at') := by
 intro m
 induction m using Nat.strongRecOn with
 | _ m ih =>
  intro at' hm h0 h1 c hc hd
  have hle := deep_le h _ at' rfl h0 h1
  refine Ev.step (fun k => by rw [spec_l4Deep.l0]) ?_
  simp only [Pl.ev_ite, Pl.ev_none, Pl.ev_some]
  by_cases hn' : at' < 0
  ·obtain rfl : at' = -1 := by omega
   rw [if_neg (by omega), deep_neg]; omega
  ·obtain ⟨a, b⟩ := treeOk_lt h (by omega) h1
   have e := deep_at h (by omega) ⟨a, b⟩ (by omega)
   have hle2 := deep_le h _ (pr p at') rfl a (by omega)
   rw [if_pos (by omega), if_pos (by omega), if_pos (by omega), if_pos (by omega), Pl.wrap_in (by omega) (by omega), e, show c + (deep p (pr p at') + 1) = c + 1 + deep p (pr p at') from by omega]
   by_cases h2 : pr p at' < 0
   ·refine Ev.step (fun k => by rw [spec_l4Deep.l0]) ?_
    simp only [Pl.ev_ite, Pl.ev_none, Pl.ev_some]
    have h3 : pr p at' = -1 := by omega
    have h4 : (rd_T37 p at').f1 = -1 := h3
    have h5 : deep p (pr p at') = 0 := by rw [h3, deep_neg]
    rw [h4, h5]
    simp
   ·exact ih ((pr p at').toNat + 1) (by omega) _ rfl a (by omega) (c + 1) (by omega) (by omega)
def pl (p : List St) (i : Nat) : List Int := (List.range i).map fun (j : Nat) => pr p (j : Int)
def dl (p : List St) (i : Nat) : List Int := (List.range i).map fun (j : Nat) => deep p (j : Int)
theorem pl_len (p : List St) (i : Nat) : (pl p i).length = i := by simp [pl]
theorem dl_len (p : List St) (i : Nat) : (dl p i).length = i := by simp [dl]
theorem pl_rd (p : List St) (i : Nat) (j : Int) (h0 : 0 ≤ j) (h : j < i) : rd (pl p i) j = pr p j := by
 obtain ⟨j, rfl⟩ := Int.eq_ofNat_of_zero_le h0
 rw [Pl.rd_get _ j (by rw [pl_len]; omega)]
 simp [pl]
theorem dl_rd (p : List St) (i : Nat) (j : Int) (h0 : 0 ≤ j) (h : j < i) : rd (dl p i) j = deep p j := by
 obtain ⟨j, rfl⟩ := Int.eq_ofNat_of_zero_le h0
 rw [Pl.rd_get _ j (by rw [dl_len]; omega)]
 simp [dl]
theorem pl_succ (p : List St) (i : Nat) : pl p i ++ [pr p (i : Int)] = pl p (i + 1) := by simp [pl, List.range_succ]
theorem dl_succ (p : List St) (i : Nat) : dl p i ++ [deep p (i : Int)] = dl p (i + 1) := by simp [dl, List.range_succ]
theorem line_ev {p : List St} {i : Nat} (hi : i < p.length) (h24 : p.length ≤ 24) (h : treeOk p i) (hq0 : -1 ≤ pr p i) (hq1 : pr p i < i) : ∀ (m : Nat) (at' : Int), at'.toNat + 1 = m → -1 ≤ at' → at' < i →
  ∃ b : Bool, Ev (fun k => spec_l4Line.l0 k p i at') (b && decide (0 ≤ pr p i)) ∧ (at' < pr p i → b = false) ∧ Ev (fun k => impl_parents_next.l0 k (pr p i) at' (pl p i) (dl p i)) (if b = true then (0, pl p (i + 1), dl p (i + 1)) else (1, pl p i, dl p i)) := by
 have hdeep := deep_at (i := (i : Int)) h (by omega) ⟨hq0, hq1⟩ (by omega)
 have fin : Ev (fun k => impl_parents_next.l0 k (pr p i) (pr p i) (pl p i) (dl p i)) (0, pl p (i + 1), dl p (i + 1)) := by
  refine Ev.step (fun k => by rw [impl_parents_next.l0]) ?_
  simp only [Pl.ev_ite, Pl.ev_none, Pl.ev_some, Option.bind_some, pl_len, dl_len, List.length_singleton]
  rw [if_neg (by omega), if_pos trivial]
  by_cases hq : pr p i ≥ 0
  ·rw [if_pos hq, if_pos (by omega), if_pos (by omega), if_pos (by omega), if_pos (by omega), dl_rd p i _ (by omega) (by omega)]
   have hle := deep_le h _ (pr p i) rfl hq0 (by omega)
   rw [Pl.wrap_in (by omega) (by omega), ← hdeep, pl_succ, dl_succ]
  ·rw [if_neg hq, if_pos (by omega), if_pos (by omega)]
   have e : pr p i = -1 := by omega
   have e2 : deep p (i : Int) = 1 := by rw [hdeep, e, deep_neg]; rfl
   rw [← pl_succ, ← dl_succ, e2]
 intro m
 induction m using Nat.strongRecOn with
 | _ m ih =>
  intro at' hm h0 h1
  by_cases hn : at' < 0
  ·obtain rfl : at' = -1 := by omega
   by_cases hq : pr p i < 0
   ·have e : pr p i = -1 := by omega
    refine ⟨true, ?_, fun h' => by omega, ?_⟩
    ·refine Ev.step (fun k => by rw [spec_l4Line.l0]) ?_
     simp only [Pl.ev_ite, Pl.ev_none, Pl.ev_some]
     rw [if_neg (by omega)]
     simp; omega
    ·rw [e] at fin ⊢
     simpa using fin
   ·refine ⟨false, ?_, fun _ => rfl, ?_⟩
    ·refine Ev.step (fun k => by rw [spec_l4Line.l0]) ?_
     simp only [Pl.ev_ite, Pl.ev_none, Pl.ev_some]
     rw [if_neg (by omega)]
     simp
    ·refine Ev.step (fun k => by rw [impl_parents_next.l0]) ?_
     simp only [Pl.ev_ite, Pl.ev_none, Pl.ev_some]
     rw [if_neg (by omega), if_neg (by omega)]
     simp
  ·obtain ⟨a, b⟩ := treeOk_lt h (by omega) h1
   by_cases e : at' = pr p i
   ·refine ⟨true, ?_, fun h' => by omega, ?_⟩
    ·refine Ev.step (fun k => by rw [spec_l4Line.l0]) ?_
     simp only [Pl.ev_ite, Pl.ev_none, Pl.ev_some]
     rw [if_pos (by omega), if_pos (by omega), if_pos (by omega), if_pos e]
     simp; omega
    ·rw [e]
     simpa using fin
   ·have hs : ∀ r : Bool, Ev (fun k => spec_l4Line.l0 k p i (pr p at')) r → Ev (fun k => spec_l4Line.l0 k p i at') r := fun r hr => by
     refine Ev.step (fun k => by rw [spec_l4Line.l0]) ?_
     simp only [Pl.ev_ite, Pl.ev_none, Pl.ev_some]
     rw [if_pos (by omega), if_pos (by omega), if_pos (by omega), if_neg e, if_pos (by omega), if_pos (by omega)]
     exact hr
    have step : ∃ b : Bool, Ev (fun k => spec_l4Line.l0 k p i (pr p at')) (b && decide (0 ≤ pr p i)) ∧ (pr p at' < pr p i → b = false) ∧ Ev (fun k => impl_parents_next.l0 k (pr p i) (pr p at') (pl p i) (dl p i)) (if b = true then (0, pl p (i + 1), dl p (i + 1)) else (1, pl p i, dl p i)) := by
     by_cases h2 : pr p at' < 0
     ·have h3 : pr p at' = -1 := by omega
      rw [h3]
      by_cases hq : pr p i < 0
      ·have e' : pr p i = -1 := by omega
       refine ⟨true, ?_, fun h' => by omega, ?_⟩
       ·refine Ev.step (fun k => by rw [spec_l4Line.l0]) ?_
        simp only [Pl.ev_ite, Pl.ev_none, Pl.ev_some]
        rw [if_neg (by omega)]
        simp; omega
       ·rw [e'] at fin ⊢
        simpa using fin
      ·refine ⟨false, ?_, fun _ => rfl, ?_⟩
       ·refine Ev.step (fun k => by rw [spec_l4Line.l0]) ?_
        simp only [Pl.ev_ite, Pl.ev_none, Pl.ev_some]
        rw [if_neg (by omega)]
        simp
       ·refine Ev.step (fun k => by rw [impl_parents_next.l0]) ?_
        simp only [Pl.ev_ite, Pl.ev_none, Pl.ev_some]
        rw [if_neg (by omega), if_neg (by omega)]
        simp
     ·exact ih ((pr p at').toNat + 1) (by omega) _ rfl a (by omega)
    obtain ⟨c, h1', h2', h3'⟩ := step
    by_cases hlt : at' < pr p i
    ·have hc := h2' (by omega)
     subst hc
     refine ⟨false, hs _ h1', fun _ => rfl, ?_⟩
     refine Ev.step (fun k => by rw [impl_parents_next.l0]) ?_
     simp only [Pl.ev_ite, Pl.ev_none, Pl.ev_some]
     rw [if_neg (by omega), if_neg (by omega)]
     simp
    ·refine ⟨c, hs _ h1', fun h' => absurd h' hlt, ?_⟩
     refine Ev.step (fun k => by rw [impl_parents_next.l0]) ?_
     simp only [Pl.ev_ite, Pl.ev_none, Pl.ev_some, pl_len]
     rw [if_pos (by omega), if_pos (by omega), if_pos (by omega), pl_rd p i _ (by omega) (by omega)]
     exact h3'
def rangeOk (p : List St) (i : Nat) : Prop := (i = 0 → pr p i = -1) ∧ (0 < i → 0 ≤ pr p i ∧ pr p i ≤ (i : Int) - 1)
instance (p : List St) (i : Nat) : Decidable (rangeOk p i) := by unfold rangeOk; infer_instance
theorem next_ev {p : List St} {i : Nat} (hi : i < p.length) (h24 : p.length ≤ 24) (h : treeOk p i) :
  (¬ rangeOk p i ∧ Ev (fun k => impl_parents_next.f k (pl p i) (dl p i) (pr p i)) (3, pl p i, dl p i)) ∨
  (rangeOk p i ∧ ∃ b : Bool, (0 < i → Ev (fun k => spec_l4Line.f k p i) b) ∧ (i = 0 → b = true) ∧ Ev (fun k => impl_parents_next.f k (pl p i) (dl p i) (pr p i)) (if b = true then (0, pl p (i + 1), dl p (i + 1)) else (1, pl p i, dl p i))) := by
 have go : ∀ (bad : Bool) r, Ev (fun k => impl_parents_next.j0 k (pr p i) (i : Int) bad (pl p i) (dl p i)) r → bad = decide (¬ rangeOk p i) → Ev (fun k => impl_parents_next.f k (pl p i) (dl p i) (pr p i)) r := by
  intro bad r hr hb
  unfold impl_parents_next.f
  simp only [Pl.ev_ite, Pl.ev_none, Pl.ev_some, pl_len, inRange_eq, Option.bind_some]
  unfold rangeOk at hb
  by_cases h0 : i = 0
  ·subst h0
   rw [if_pos (by omega)]
   by_cases hq : pr p ((0 : Nat) : Int) = -1
   ·rw [if_pos hq, if_neg (by omega)]
    have : bad = false := by rw [hb]; simpa using hq
    subst this
    exact hr
   ·rw [if_neg hq]
    have : bad = true := by rw [hb]; simpa using hq
    subst this
    exact hr
  ·rw [if_neg (by omega), if_pos (by omega), Pl.wrap_in (by omega) (by omega)]
   have : bad = !decide (0 ≤ pr p i ∧ pr p i ≤ (i : Int) - 1) := by
    rw [hb, ← decide_not, decide_eq_decide]
    constructor
    ·intro h' h''
     exact h' ⟨fun h' => absurd h' h0, fun _ => h''⟩
    ·intro h' h''
     exact h' (h''.2 (by omega))
   rw [← this]
   exact hr
 by_cases hr : rangeOk p i
 ·right
  refine ⟨hr, ?_⟩
  have hq : -1 ≤ pr p i ∧ pr p i < i := by
   by_cases h0 : i = 0
   ·have := hr.1 h0; omega
   ·have := hr.2 (by omega); omega
  obtain ⟨b, b1, b2, b3⟩ := line_ev hi h24 h hq.1 hq.2 _ ((i : Int) - 1) rfl (by omega) (by omega)
  refine ⟨b, fun h0 => ?_, fun h0 => ?_, ?_⟩
  ·unfold spec_l4Line.f
   rw [Pl.wrap_in (by omega) (by omega)]
   have := hr.2 h0
   have e : (b && decide (0 ≤ pr p i)) = b := by rw [decide_eq_true this.1, Bool.and_true]
   rwa [e] at b1
  ·subst h0
   have hq := hr.1 rfl
   cases b
   ·exfalso
    have f2 : Ev (fun k => impl_parents_next.l0 k (pr p ((0 : Nat) : Int)) (((0 : Nat) : Int) - 1) (pl p 0) (dl p 0)) (0, [-1], [1]) := by
     refine Ev.step (fun k => by rw [impl_parents_next.l0]) ?_
     simp only [Pl.ev_ite, Pl.ev_none, Pl.ev_some, Option.bind_some, pl_len, dl_len, List.length_singleton]
     rw [hq]
     simp [pl, dl]
    have := Pl.ev_unique f2 b3
    simp at this
   ·rfl
  ·refine go false _ ?_ (by simpa using hr)
   refine Ev.step (fun k => by rw [impl_parents_next.j0]) ?_
   simp only [Pl.ev_ite, Pl.ev_none, Pl.ev_some]
   rw [if_neg (by simp), Pl.wrap_in (by omega) (by omega)]
   exact b3
 ·left
  refine ⟨hr, go true _ ?_ (by simpa using hr)⟩
  refine Ev.step (fun k => by rw [impl_parents_next.j0]) ?_
  simp only [Pl.ev_ite, Pl.ev_none, Pl.ev_some]
  simp
def sized (p : List St) : Prop := ∀ i : Nat, i < p.length → (rdS p i).f2.size ≤ 1048576 ∧ (rdS p i).f4.length ≤ 1048576 ∧ (rdS p i).f5.length ≤ 1048576
def stepOk (x : St) : Prop := (1 ≤ x.f0 ∧ x.f0 ≤ 8) ∧ bareC x = true ∧ argC x.f0 x.f3 = true ∧ (x.f0 = 2 → Pl.nameC x.f2.data.toList = 0) ∧ (x.f0 = 7 → exprC x.f5 = 0)
theorem f1of2 (a b : Int) : Pl.firstC [a, b] = if a = 0 then b else a := by
 unfold Pl.firstC Pl.firstC Pl.firstC
 by_cases ha : a = 0
 ·by_cases hb : b = 0
  ·rw [if_pos ha, if_pos hb, if_pos ha, hb]
  ·rw [if_pos ha, if_neg hb, if_pos ha]
 ·rw [if_neg ha, if_neg ha]
def alienC (x : St) : Bool := !bareC x
theorem stepFault_ev {p : List St} {i : Nat} {c : Int} {L1 L2 : List Int} (l1 l2 : List Int)
  (h : Ev (fun k => impl_stepFault.j0 k (boundsC (rdS p i).f0).1 (boundsC (rdS p i).f0).2 (alienC (rdS p i)) l1 l2 (rdS p i).f0 (rdS p i).f1 (rdS p i).f2 (rdS p i).f3 (rdS p i).f4 (rdS p i).f5) (c, L1, L2)) :
  Ev (fun k => impl_stepFault.f k (rdS p i).f0 (rdS p i).f1 (rdS p i).f2 (rdS p i).f3 (rdS p i).f4 (rdS p i).f5 l1 l2) (c, L1, L2) := by
 generalize rdS p i = x at h ⊢
 unfold impl_stepFault.f
 refine Pl.ev_bind' (argBounds_ev x.f0) ?_
 have hb : ((boundsC x.f0).2 = 0) ↔ ¬ (5 ≤ x.f0 ∧ x.f0 ≤ 8) := by
  unfold boundsC
  by_cases h5 : x.f0 = 5
  ·simp [h5]
  ·by_cases h6 : x.f0 = 6 ∨ x.f0 = 8
   ·rw [if_neg h5, if_pos h6]; simp; omega
   ·by_cases h7 : x.f0 = 7
    ·simp [h7]
    ·rw [if_neg h5, if_neg h6, if_neg h7]; simp; omega
 have key : ∀ a : Bool, (a = true ↔ ¬ ((x.f0 = 2 ∨ x.f2.toList = []) ∧ ((5 ≤ x.f0 ∧ x.f0 ≤ 8) ∨ x.f3 = 0) ∧ (x.f0 = 7 ∨ x.f5.length = 0))) → a = alienC x := by
  intro a ha
  unfold alienC bareC
  rw [Bool.eq_iff_iff, ha]
  simp only [Bool.not_eq_true', decide_eq_false_iff_not]
 have k1 : (x.f0 = 2 ∨ x.f2.toList = []) → ((5 ≤ x.f0 ∧ x.f0 ≤ 8) ∨ x.f3 = 0) → (x.f5.length : Int) > 0 → (x.f0 != 7) = alienC x := fun hA hB hl => key _ ⟨fun h' h'' => by
  rcases h''.2.2 with q | q
  ·exact (bne_iff_ne.1 h') q
  ·omega, fun h' => bne_iff_ne.2 fun q => h' ⟨hA, hB, Or.inl q⟩⟩
 have k2 : (x.f0 = 2 ∨ x.f2.toList = []) → ((5 ≤ x.f0 ∧ x.f0 ≤ 8) ∨ x.f3 = 0) → ¬ (x.f5.length : Int) > 0 → false = alienC x := fun hA hB hl => key _ ⟨fun h' => (by cases h'), fun h' => absurd ⟨hA, hB, Or.inr (by omega)⟩ h'⟩
 by_cases hs : x.f2.toList = []
 ·refine Pl.ev_ite_pos hs ?_
  by_cases h3 : x.f3 = 0
  ·refine Pl.ev_ite_pos h3 ?_
   by_cases hl : (x.f5.length : Int) > 0
   ·refine Pl.ev_ite_pos hl ?_
    rwa [k1 (Or.inr hs) (Or.inr h3) hl]
   ·refine Pl.ev_ite_neg hl ?_
    rwa [k2 (Or.inr hs) (Or.inr h3) hl]
  ·refine Pl.ev_ite_neg h3 ?_
   by_cases h0 : (boundsC x.f0).2 = 0
   ·refine Pl.ev_ite_pos h0 ?_
    have := hb.1 h0
    rwa [key true (by simp only [true_iff]; intro h'; omega)]
   ·refine Pl.ev_ite_neg h0 ?_
    have h58 : 5 ≤ x.f0 ∧ x.f0 ≤ 8 := by
     by_cases q : 5 ≤ x.f0 ∧ x.f0 ≤ 8
     ·exact q
     ·exact absurd (hb.2 q) h0
    by_cases hl : (x.f5.length : Int) > 0
    ·refine Pl.ev_ite_pos hl ?_
     rwa [k1 (Or.inr hs) (Or.inl h58) hl]
    ·refine Pl.ev_ite_neg hl ?_
     rwa [k2 (Or.inr hs) (Or.inl h58) hl]
 ·refine Pl.ev_ite_neg hs ?_
  by_cases h2 : x.f0 = 2
  ·refine Pl.ev_ite_pos h2 ?_
   by_cases h3 : x.f3 = 0
   ·refine Pl.ev_ite_pos h3 ?_
    by_cases hl : (x.f5.length : Int) > 0
    ·refine Pl.ev_ite_pos hl ?_
     rwa [k1 (Or.inl h2) (Or.inr h3) hl]
    ·refine Pl.ev_ite_neg hl ?_
     rwa [k2 (Or.inl h2) (Or.inr h3) hl]
   ·refine Pl.ev_ite_neg h3 ?_
    have h0 : (boundsC x.f0).2 = 0 := hb.2 (by omega)
    refine Pl.ev_ite_pos h0 ?_
    rwa [key true (by simp only [true_iff]; intro h'; omega)]
  ·refine Pl.ev_ite_neg h2 ?_
   rwa [key true (by simp only [true_iff]; intro h'; rcases h'.1 with h' | h'; exact h2 h'; exact hs h')]
theorem specOne_ev {p : List St} {i : Nat} {c : Int} (hi : i < p.length) (bad : Bool) (hb : bad = !(decide (1 ≤ (rdS p i).f0 ∧ (rdS p i).f0 ≤ 8) && bareC (rdS p i))) (h : Ev (fun k => spec_l4One.j0 k p i bad) c) : Ev (fun k => spec_l4One.f k p i) c := by
 unfold spec_l4One.f
 simp only [l1In_eq, bare_eq, Option.bind_some]
 refine Pl.ev_ite_pos (by omega) ?_
 refine Pl.ev_ite_pos (by omega) ?_
 by_cases hk : 1 ≤ (rdS p i).f0 ∧ (rdS p i).f0 ≤ 8
 ·refine Pl.ev_ite_pos (decide_eq_true hk) ?_
  rw [decide_eq_true hk, Bool.true_and] at hb
  rw [hb] at h
  exact h
 ·refine Pl.ev_ite_neg (by simpa using hk) ?_
  rw [decide_eq_false hk] at hb
  rw [hb] at h
  exact h
theorem impl_j0_ev {p : List St} {i : Nat} {c : Int} {L1 L2 : List Int} {nc : Int} {M1 M2 : List Int} (l1 l2 : List Int) (lo hi' : Int)
  (hn : Ev (fun k => impl_parents_next.f k l1 l2 (rdS p i).f1) (nc, M1, M2))
  (h : Ev (fun k => impl_stepFault.j1 k lo hi' (alienC (rdS p i)) (if (!(decide (1 ≤ (rdS p i).f0 ∧ (rdS p i).f0 ≤ 8) && bareC (rdS p i))) = true then 1 else nc) M1 M2 (rdS p i).f0 (rdS p i).f1 (rdS p i).f2 (rdS p i).f3 (rdS p i).f4 (rdS p i).f5) (c, L1, L2)) :
  Ev (fun k => impl_stepFault.j0 k lo hi' (alienC (rdS p i)) l1 l2 (rdS p i).f0 (rdS p i).f1 (rdS p i).f2 (rdS p i).f3 (rdS p i).f4 (rdS p i).f5) (c, L1, L2) := by
 generalize rdS p i = x at h hn ⊢
 refine Ev.step (fun k => by rw [impl_stepFault.j0]) ?_
 simp only [inRange_eq, codeIf_eq, Option.bind_some]
 by_cases hk : 1 ≤ x.f0 ∧ x.f0 ≤ 8
 ·refine Pl.ev_ite_pos (decide_eq_true hk) ?_
  refine Pl.ev_bind' hn ?_
  refine Pl.ev_bind' (firstCode_ev _ (by simp)) ?_
  rw [f1of2]
  rw [decide_eq_true hk, Bool.true_and] at h
  unfold alienC at h ⊢
  cases hb : bareC x
  ·rw [hb] at h; simpa using h
  ·rw [hb] at h; simpa using h
 ·refine Pl.ev_ite_neg (by simpa using hk) ?_
  refine Pl.ev_bind' hn ?_
  refine Pl.ev_bind' (firstCode_ev _ (by simp)) ?_
  rw [f1of2]
  rw [decide_eq_false hk] at h
  simpa using h
theorem j1_out {lo hi' : Int} {a : Bool} {x : St} {c : Int} (M1 M2 : List Int) (hc : c ≠ 0) : Ev (fun k => impl_stepFault.j1 k lo hi' a c M1 M2 x.f0 x.f1 x.f2 x.f3 x.f4 x.f5) (c, M1, M2) := by
 refine Ev.step (fun k => by rw [impl_stepFault.j1]) ?_
 exact Pl.ev_ite_neg hc (Ev.now _)
theorem one_ev {p : List St} {i : Nat} (hi : i < p.length) (h24 : p.length ≤ 24) (h : treeOk p i) (hz : sized p) :
  ∃ c : Int, Ev (fun k => spec_l4One.f k p i) c ∧ ∃ L1 L2, Ev (fun k => impl_stepFault.f k (rdS p i).f0 (rdS p i).f1 (rdS p i).f2 (rdS p i).f3 (rdS p i).f4 (rdS p i).f5 (pl p i) (dl p i)) (c, L1, L2) ∧ (c = 0 → L1 = pl p (i + 1) ∧ L2 = dl p (i + 1) ∧ treeOk p (i + 1) ∧ stepOk (rdS p i) ∧ deep p i ≤ 7 ∧ (0 < i → Ev (fun k => spec_l4Line.f k p i) true)) := by
 by_cases hf : (decide (1 ≤ (rdS p i).f0 ∧ (rdS p i).f0 ≤ 8) && bareC (rdS p i)) = true
 ·rcases next_ev hi h24 h with ⟨hr, hn⟩ | ⟨hr, b, b1, b2, hn⟩
  ·refine ⟨3, specOne_ev hi false (by rw [hf]; rfl) ?_, pl p i, dl p i, stepFault_ev _ _ (impl_j0_ev _ _ _ _ hn ?_), fun h' => absurd h' (by omega)⟩
   ·refine Ev.step (fun k => by rw [spec_l4One.j0]) ?_
    simp only [Pl.ev_ite, Pl.ev_none, Pl.ev_some, l1In_eq, Option.bind_some]
    rw [if_neg (by simp)]
    have out : Ev (fun k => spec_l4One.j1 k p (i : Int) true) 3 := by
     refine Ev.step (fun k => by rw [spec_l4One.j1]) ?_
     exact Pl.ev_ite_pos rfl (Ev.now _)
    unfold rangeOk at hr
    by_cases h0 : i = 0
    ·rw [if_pos (by omega), if_pos (by omega), if_pos (by omega)]
     have : ¬ pr p i = -1 := fun e => hr ⟨fun _ => e, fun h' => by omega⟩
     rw [if_neg this]
     exact out
    ·rw [if_neg (by omega), if_pos (by omega), if_pos (by omega), if_pos (by omega), Pl.wrap_in (by omega) (by omega)]
     have : ¬ (0 ≤ pr p i ∧ pr p i ≤ (i : Int) - 1) := fun e => hr ⟨fun h' => absurd h' h0, fun _ => e⟩
     rw [decide_eq_false this]
     exact out
   ·rw [hf]
    exact j1_out _ _ (by simp)
  ·have pre : ∀ c, Ev (fun k => spec_l4One.j1 k p (i : Int) false) c → Ev (fun k => spec_l4One.f k p i) c := by
    intro c hc
    refine specOne_ev hi false (by rw [hf]; rfl) ?_
    refine Ev.step (fun k => by rw [spec_l4One.j0]) ?_
    simp only [Pl.ev_ite, Pl.ev_none, Pl.ev_some, l1In_eq, Option.bind_some]
    rw [if_neg (by simp)]
    unfold rangeOk at hr
    by_cases h0 : i = 0
    ·rw [if_pos (by omega), if_pos (by omega), if_pos (by omega), if_pos (hr.1 h0), if_neg (by omega)]
     exact hc
    ·rw [if_neg (by omega), if_pos (by omega), if_pos (by omega), if_pos (by omega), Pl.wrap_in (by omega) (by omega)]
     rw [decide_eq_true (hr.2 (by omega))]
     exact hc
   have pre2 : ∀ c, (b = true → Ev (fun k => spec_l4One.j2 k p (i : Int) false) c) → (b = false → c = 1) → Ev (fun k => spec_l4One.f k p i) c := by
    intro c hc hc'
    refine pre c ?_
    refine Ev.step (fun k => by rw [spec_l4One.j1]) ?_
    refine Pl.ev_ite_neg (by simp) ?_
    by_cases h0 : i = 0
    ·refine Pl.ev_ite_neg (by omega) ?_
     exact hc (b2 h0)
    ·refine Pl.ev_ite_pos (by omega) ?_
     refine Pl.ev_bind' (b1 (by omega)) ?_
     cases hb : b
     ·rw [hc' hb]
      refine Ev.step (fun k => by rw [spec_l4One.j2]) ?_
      exact Pl.ev_ite_pos rfl (Ev.now _)
     ·exact hc hb
   cases hb : b
   ·rw [hb] at hn
    refine ⟨1, pre2 1 (fun h' => by rw [hb] at h'; cases h') (fun _ => rfl), pl p i, dl p i, stepFault_ev _ _ (impl_j0_ev _ _ _ _ hn ?_), fun h' => absurd h' (by omega)⟩
    rw [hf]
    exact j1_out _ _ (by simp)
   ·rw [hb] at hn
    have ht : treeOk p (i + 1) := by
     intro j hj
     by_cases hj' : j < i
     ·exact h j hj'
     ·obtain rfl : j = i := by omega
      exact hr
    have hdl := deep_le ht _ (i : Int) rfl (by omega) (by omega)
    have hdeep := specDeep_ev ht (by omega) (by omega) _ (i : Int) rfl (by omega) (by omega) 0 (by omega) (by omega)
    rw [Int.zero_add] at hdeep
    -- the program, behind the parents
    have impl : ∀ c, (deep p i > 7 → c = 2) → (¬ deep p i > 7 → Ev (fun k => if (rdS p i).f0 = 2 then ((impl_NameFault.f k (rdS p i).f2).bind fun t => some (t, pl p (i + 1), dl p (i + 1))) else (if (rdS p i).f0 = 7 then ((impl_ExprFault.f k (rdS p i).f5).bind fun t448 => ((impl_firstCode.f k ([(if (!decide ((boundsC (rdS p i).f0).1 ≤ (rdS p i).f3 ∧ (rdS p i).f3 ≤ (boundsC (rdS p i).f0).2)) = true then (3 : Int) else 0), t448] : List Int)).bind fun t452 => some (t452, pl p (i + 1), dl p (i + 1)))) else some ((if (!decide ((boundsC (rdS p i).f0).1 ≤ (rdS p i).f3 ∧ (rdS p i).f3 ≤ (boundsC (rdS p i).f0).2)) = true then (3 : Int) else 0), pl p (i + 1), dl p (i + 1)))) (c, pl p (i + 1), dl p (i + 1))) → Ev (fun k => impl_stepFault.f k (rdS p i).f0 (rdS p i).f1 (rdS p i).f2 (rdS p i).f3 (rdS p i).f4 (rdS p i).f5 (pl p i) (dl p i)) (c, pl p (i + 1), dl p (i + 1)) := by
     intro c h1 h2
     refine stepFault_ev _ _ (impl_j0_ev _ _ _ _ hn ?_)
     rw [hf]
     refine Ev.step (fun k => by rw [impl_stepFault.j1]) ?_
     refine Pl.ev_ite_pos (by simp) ?_
     have hlast : impl_parents_last.f (pl p (i + 1)) (dl p (i + 1)) = some (deep p i, pl p (i + 1), dl p (i + 1)) := by
      unfold impl_parents_last.f
      rw [dl_len, Pl.wrap_in (by omega) (by omega), if_pos (by omega), if_pos (by omega), show (((i + 1 : Nat) : Int) - 1) = (i : Int) from by omega, dl_rd p (i + 1) _ (by omega) (by omega)]
     simp only [hlast, codeIf_eq, inRange_eq, Option.bind_some]
     by_cases hd : deep p i > 7
     ·rw [h1 hd]
      simp only [decide_eq_true hd, if_true]
      exact Pl.ev_ite_neg (by omega) (Ev.now _)
     ·simp only [decide_eq_false hd]
      exact Pl.ev_ite_pos (by simp) (h2 hd)
    have spec : ∀ c, (deep p i > 7 → c = 2) → (¬ deep p i > 7 → Ev (fun k => if (rdS p i).f0 = 2 then ((spec_l1Name.f k ((rdS p i).f2)).bind fun t165 => (if t165 = 0 then (spec_l4One.j3 k p i) else (some t165))) else (spec_l4One.j3 k p i)) c) → Ev (fun k => spec_l4One.f k p i) c := by
     intro c h1 h2
     refine pre2 c (fun _ => ?_) (fun h' => by rw [hb] at h'; cases h')
     refine Ev.step (fun k => by rw [spec_l4One.j2]) ?_
     refine Pl.ev_ite_neg (by simp) ?_
     refine Pl.ev_bind' (by unfold spec_l4Deep.f; exact hdeep) ?_
     by_cases hd : deep p i > 7
     ·rw [h1 hd]
      exact Pl.ev_ite_pos hd (Ev.now _)
     ·refine Pl.ev_ite_neg hd ?_
      refine Pl.ev_ite_pos (by omega) ?_
      refine Pl.ev_ite_pos (by omega) ?_
      exact h2 hd
    have j3 : Ev (fun k => spec_l4One.j3 k p i) (if argC (rdS p i).f0 (rdS p i).f3 = true then (if (rdS p i).f0 = 7 then exprC (rdS p i).f5 else 0) else 3) := by
     refine Ev.step (fun k => by rw [spec_l4One.j3]) ?_
     refine Pl.ev_bind' (arg_ev _) ?_
     by_cases ha : argC (rdS p i).f0 (rdS p i).f3 = true
     ·rw [if_pos ha]
      refine Pl.ev_ite_pos ha ?_
      refine Pl.ev_ite_pos (by omega) ?_
      refine Pl.ev_ite_pos (by omega) ?_
      by_cases h7 : (rdS p i).f0 = 7
      ·rw [if_pos h7]
       refine Pl.ev_ite_pos h7 ?_
       exact Pl.ev_bind' (spec3Fault_ev _ (hz i hi).2.2) (Ev.now _)
      ·rw [if_neg h7]
       exact Pl.ev_ite_neg h7 (Ev.now _)
     ·rw [if_neg ha]
      exact Pl.ev_ite_neg ha (Ev.now _)
    have hsz : (rdS p i).f2.data.toList.length < 9223372036854775807 := by
     rw [Pl.size_toList]
     have := (hz i hi).1
     omega
    by_cases hd : deep p i > 7
    ·exact ⟨2, spec 2 (fun _ => rfl) (fun h' => absurd hd h'), _, _, impl 2 (fun _ => rfl) (fun h' => absurd hd h'), fun h' => absurd h' (by omega)⟩
    ·simp only [Bool.and_eq_true, decide_eq_true_eq] at hf
     obtain ⟨hk, hbare⟩ := hf
     have hbare' := hbare
     unfold bareC at hbare'
     rw [decide_eq_true_eq] at hbare'
     by_cases h2 : (rdS p i).f0 = 2
     ·have ha : argC (rdS p i).f0 (rdS p i).f3 = true := by unfold argC; rw [if_neg (by omega)]
      rw [if_pos ha, if_neg (by omega)] at j3
      refine ⟨Pl.nameC (rdS p i).f2.data.toList, spec _ (fun h' => absurd h' hd) (fun _ => ?_), _, _, impl _ (fun h' => absurd h' hd) (fun _ => ?_), fun h' => ⟨rfl, rfl, ht, ⟨hk, hbare, ha, fun _ => h', fun h7 => by omega⟩, by omega, fun h0 => hb ▸ b1 h0⟩⟩
      ·refine Pl.ev_ite_pos h2 ?_
       refine Pl.ev_bind' (l1Name_ev rfl hsz) ?_
       by_cases hn0 : Pl.nameC (rdS p i).f2.data.toList = 0
       ·refine Pl.ev_ite_pos hn0 ?_
        rw [hn0]
        exact j3
       ·exact Pl.ev_ite_neg hn0 (Ev.now _)
      ·refine Pl.ev_ite_pos h2 ?_
       exact Pl.ev_bind' (impl_name rfl hsz) (Ev.now _)
     ·by_cases h7 : (rdS p i).f0 = 7
      ·have ea : argC (rdS p i).f0 (rdS p i).f3 = decide ((boundsC (rdS p i).f0).1 ≤ (rdS p i).f3 ∧ (rdS p i).f3 ≤ (boundsC (rdS p i).f0).2) := by unfold argC; rw [if_pos (by omega)]
       rw [if_pos h7] at j3
       refine ⟨if argC (rdS p i).f0 (rdS p i).f3 = true then exprC (rdS p i).f5 else 3, spec _ (fun h' => absurd h' hd) (fun _ => ?_), _, _, impl _ (fun h' => absurd h' hd) (fun _ => ?_), fun h' => ?_⟩
       ·exact Pl.ev_ite_neg h2 j3
       ·refine Pl.ev_ite_neg h2 ?_
        refine Pl.ev_ite_pos h7 ?_
        refine Pl.ev_bind' (implExpr_ev _) ?_
        refine Pl.ev_bind' (firstCode_ev _ (by simp)) ?_
        rw [f1of2, ← ea]
        by_cases ha : argC (rdS p i).f0 (rdS p i).f3 = true
        ·rw [if_pos ha, ha]
         simp [Pl.ev_some]
        ·rw [if_neg ha]
         rw [Bool.not_eq_true] at ha
         rw [ha]
         simp [Pl.ev_some]
       ·by_cases ha : argC (rdS p i).f0 (rdS p i).f3 = true
        ·rw [if_pos ha] at h'
         exact ⟨rfl, rfl, ht, ⟨hk, hbare, ha, fun h'' => absurd h'' h2, fun _ => h'⟩, by omega, fun h0 => hb ▸ b1 h0⟩
        ·rw [if_neg ha] at h'
         omega
      ·have ea : argC (rdS p i).f0 (rdS p i).f3 = decide ((boundsC (rdS p i).f0).1 ≤ (rdS p i).f3 ∧ (rdS p i).f3 ≤ (boundsC (rdS p i).f0).2) := by
        unfold argC
        by_cases h58 : (rdS p i).f0 = 5 ∨ (rdS p i).f0 = 6 ∨ (rdS p i).f0 = 7 ∨ (rdS p i).f0 = 8
        ·rw [if_pos h58]
        ·rw [if_neg h58]
         unfold boundsC
         rw [if_neg (by omega), if_neg (by omega), if_neg h7]
         have := hbare'.2.1
         simp
         omega
       rw [if_neg h7] at j3
       refine ⟨if argC (rdS p i).f0 (rdS p i).f3 = true then 0 else 3, spec _ (fun h' => absurd h' hd) (fun _ => ?_), _, _, impl _ (fun h' => absurd h' hd) (fun _ => ?_), fun h' => ?_⟩
       ·exact Pl.ev_ite_neg h2 j3
       ·refine Pl.ev_ite_neg h2 ?_
        refine Pl.ev_ite_neg h7 ?_
        rw [← ea]
        cases ha : argC (rdS p i).f0 (rdS p i).f3
        ·simp [Pl.ev_some]
        ·simp [Pl.ev_some]
       ·by_cases ha : argC (rdS p i).f0 (rdS p i).f3 = true
        ·exact ⟨rfl, rfl, ht, ⟨hk, hbare, ha, fun h'' => absurd h'' h2, fun h'' => absurd h'' h7⟩, by omega, fun h0 => hb ▸ b1 h0⟩
        ·rw [if_neg ha] at h'
         omega
 ·have hf' : (decide (1 ≤ (rdS p i).f0 ∧ (rdS p i).f0 ≤ 8) && bareC (rdS p i)) = false := Bool.eq_false_iff.2 hf
  have out : ∀ nc M1 M2, Ev (fun k => impl_parents_next.f k (pl p i) (dl p i) (rdS p i).f1) (nc, M1, M2) → ∃ L1 L2, Ev (fun k => impl_stepFault.f k (rdS p i).f0 (rdS p i).f1 (rdS p i).f2 (rdS p i).f3 (rdS p i).f4 (rdS p i).f5 (pl p i) (dl p i)) (1, L1, L2) := by
   intro nc M1 M2 hn
   refine ⟨M1, M2, stepFault_ev _ _ (impl_j0_ev _ _ _ _ hn ?_)⟩
   rw [hf']
   exact j1_out _ _ (by simp)
  refine ⟨1, specOne_ev hi true (by rw [hf']; rfl) ?_, ?_⟩
  ·refine Ev.step (fun k => by rw [spec_l4One.j0]) ?_
   exact Pl.ev_ite_pos rfl (Ev.now _)
  ·rcases next_ev hi h24 h with ⟨hr, hn⟩ | ⟨hr, b, b1, b2, hn⟩
   ·obtain ⟨L1, L2, q⟩ := out _ _ _ hn
    exact ⟨L1, L2, q, fun h' => absurd h' (by omega)⟩
   ·cases hb : b
    ·rw [hb] at hn
     obtain ⟨L1, L2, q⟩ := out _ _ _ hn
     exact ⟨L1, L2, q, fun h' => absurd h' (by omega)⟩
    ·rw [hb] at hn
     obtain ⟨L1, L2, q⟩ := out _ _ _ hn
     exact ⟨L1, L2, q, fun h' => absurd h' (by omega)⟩
def kidsC (p : List St) (a : Int) (n : Nat) : List Int := ((List.range n).filter fun (j : Nat) => decide (pr p (j : Int) = a)).map fun (j : Nat) => (j : Int)
theorem kidsC_len (p : List St) (a : Int) (n : Nat) : (kidsC p a n).length ≤ n := by
 unfold kidsC
 rw [List.length_map]
 have := List.length_filter_le (fun (j : Nat) => decide (pr p (j : Int) = a)) (List.range n)
 simpa using this
theorem kidsC_succ (p : List St) (a : Int) (n : Nat) : kidsC p a (n + 1) = kidsC p a n ++ (if pr p (n : Int) = a then [(n : Int)] else []) := by
 unfold kidsC
 rw [List.range_succ, List.filter_append, List.map_append]
 congr 1
 by_cases h : pr p (n : Int) = a
 ·simp [h]
 ·simp [h]
theorem kidsC_ne {p : List St} {a : Int} {n j : Nat} (hj : j < n) (h : pr p (j : Int) = a) : 1 ≤ (kidsC p a n).length := by
 have : (j : Int) ∈ kidsC p a n := by
  unfold kidsC
  refine List.mem_map.2 ⟨j, List.mem_filter.2 ⟨List.mem_range.2 hj, decide_eq_true h⟩, rfl⟩
 exact List.length_pos_iff_exists_mem.2 ⟨_, this⟩
theorem specKids_ev (p : List St) (h24 : p.length ≤ 24) (a : Int) : Ev (fun k => spec_l4Kids.f k p a) (kidsC p a p.length) := by
 unfold spec_l4Kids.f
 refine Pl.loop (σ := List Int) (n := p.length) (g := fun k i s => spec_l4Kids.l0 k p a s i) (F := fun _ _ => kidsC p a p.length) (fun i s => s = kidsC p a i) ?_ ?_ 0 [] (Nat.zero_le _) rfl
 ·intro s hs
  refine Ev.step (fun k => by rw [spec_l4Kids.l0]) ?_
  refine Pl.ev_ite_neg (by omega) ?_
  rw [hs]
  exact Ev.now _
 ·intro i s hi hs ih
  have hl := kidsC_len p a i
  have e := kidsC_succ p a i
  refine Ev.step (fun k => by rw [spec_l4Kids.l0]) ?_
  refine Pl.ev_ite_pos (by omega) ?_
  refine Pl.ev_ite_pos (by omega) ?_
  rw [Pl.wrap_nat (show i < 9223372036854775807 by omega)]
  by_cases h : pr p (i : Int) = a
  ·refine Pl.ev_ite_pos h ?_
   refine Pl.ev_ite_pos (by rw [hs]; omega) ?_
   rw [if_pos h] at e
   exact ih _ (by rw [hs, e])
  ·refine Pl.ev_ite_neg h ?_
   rw [if_neg h, List.append_nil] at e
   exact ih _ (by rw [hs, e])
theorem implKids_ev (p : List St) (h24 : p.length ≤ 24) (h0 : ∀ _ : 0 < p.length, pr p 0 = -1) (a : Int) (ha : 0 ≤ a) : Ev (fun k => impl_kids.f k p a) (kidsC p a p.length) := by
 unfold impl_kids.f
 refine Pl.loop (σ := List Int) (n := p.length) (g := fun k i s => impl_kids.l0 k a s p (p.length : Int) i) (F := fun _ _ => kidsC p a p.length) (fun i s => s = kidsC p a i) ?_ ?_ 0 [] (Nat.zero_le _) rfl
 ·intro s hs
  refine Ev.step (fun k => by rw [impl_kids.l0]) ?_
  refine Pl.ev_ite_neg (by omega) ?_
  rw [hs]
  exact Ev.now _
 ·intro i s hi hs ih
  have hl := kidsC_len p a i
  have e := kidsC_succ p a i
  refine Ev.step (fun k => by rw [impl_kids.l0]) ?_
  refine Pl.ev_ite_pos (by omega) ?_
  refine Pl.ev_ite_pos (by omega) ?_
  refine Pl.ev_ite_pos (by omega) ?_
  rw [Pl.wrap_nat (show i < 9223372036854775807 by omega)]
  by_cases hi0 : (i : Int) > 0
  ·refine Pl.ev_ite_pos hi0 ?_
   by_cases h : pr p (i : Int) = a
   ·refine Pl.ev_ite_pos h ?_
    refine Pl.ev_ite_pos (by rw [hs]; omega) ?_
    rw [if_pos h] at e
    exact ih _ (by rw [hs, e])
   ·refine Pl.ev_ite_neg h ?_
    rw [if_neg h, List.append_nil] at e
    exact ih _ (by rw [hs, e])
  ·refine Pl.ev_ite_neg hi0 ?_
   obtain rfl : i = 0 := by omega
   have hp := h0 (by omega)
   have hne : ¬ pr p ((0 : Nat) : Int) = a := by
    intro h'
    have : pr p ((0 : Nat) : Int) = -1 := hp
    omega
   rw [if_neg hne, List.append_nil] at e
   exact ih _ (by rw [hs, e])
def manyC (K m : Int) : Bool := if K = 1 then decide (m ≥ 1) else if K = 3 ∨ K = 4 then decide (m ≥ 2) else if K = 8 then decide (m = 2) else decide (m = 0)
theorem many_ev (K m : Int) : Ev (fun k => spec_l4Many.f k K m) (manyC K m) := by
 unfold spec_l4Many.f manyC
 by_cases h1 : K = 1
 ·rw [if_pos h1]
  exact Pl.ev_ite_pos h1 (Ev.now _)
 ·rw [if_neg h1]
  refine Pl.ev_ite_neg h1 ?_
  have go : ∀ b c : Bool, Ev (fun k => spec_l4Many.j0 k m K b c) (if c = true then decide (m ≥ 2) else if K = 8 then decide (m = 2) else decide (m = 0)) := by
   intro b c
   refine Ev.step (fun k => by rw [spec_l4Many.j0]) ?_
   cases c
   ·refine Pl.ev_ite_neg (by simp) ?_
    by_cases h8 : K = 8
    ·refine Pl.ev_to (Pl.ev_ite_pos h8 (Ev.now _)) ?_
     simp only [h8, if_true, Bool.false_eq_true, if_false]
     by_cases q : m = 2 <;> simp [q]
    ·refine Pl.ev_to (Pl.ev_ite_neg h8 (Ev.now _)) ?_
     simp only [h8, Bool.false_eq_true, if_false]
     by_cases q : m = 0 <;> simp [q]
   ·exact Pl.ev_to (Pl.ev_ite_pos rfl (Ev.now _)) (by simp)
  by_cases h3 : K = 3
  ·rw [if_pos (Or.inl h3)]
   refine Pl.ev_ite_pos h3 ?_
   have := go (K == 1) (K == 3)
   rwa [if_pos (by simpa using h3)] at this
  ·refine Pl.ev_ite_neg h3 ?_
   have := go (K == 1) (K == 4)
   by_cases h4 : K = 4
   ·rw [if_pos (Or.inr h4)]
    rwa [if_pos (by simpa using h4)] at this
   ·rw [if_neg (by omega)]
    rwa [if_neg (by simpa using h4)] at this
def kidBoundsC (K : Int) : Int × Int := if K = 1 then (1, 24) else if K = 3 ∨ K = 4 then (2, 24) else if K = 8 then (2, 2) else (0, 0)
theorem kidBounds_ev (K : Int) : Ev (fun k => impl_kidBounds.f k K) (kidBoundsC K) := by
 unfold impl_kidBounds.f kidBoundsC
 by_cases h1 : K = 1
 ·rw [if_pos h1]
  exact Pl.ev_ite_pos h1 (Ev.now _)
 ·rw [if_neg h1]
  refine Pl.ev_ite_neg h1 ?_
  have go : ∀ b c : Bool, Ev (fun k => impl_kidBounds.j0 k K b c) (if c = true then ((2 : Int), (24 : Int)) else if K = 8 then (2, 2) else (0, 0)) := by
   intro b c
   refine Ev.step (fun k => by rw [impl_kidBounds.j0]) ?_
   cases c
   ·refine Pl.ev_ite_neg (by simp) ?_
    by_cases h8 : K = 8
    ·exact Pl.ev_to (Pl.ev_ite_pos h8 (Ev.now _)) (by simp [h8])
    ·exact Pl.ev_to (Pl.ev_ite_neg h8 (Ev.now _)) (by simp [h8])
   ·exact Pl.ev_to (Pl.ev_ite_pos rfl (Ev.now _)) (by simp)
  by_cases h3 : K = 3
  ·rw [if_pos (Or.inl h3)]
   refine Pl.ev_ite_pos h3 ?_
   have := go (K == 1) (K == 3)
   rwa [if_pos (by simpa using h3)] at this
  ·refine Pl.ev_ite_neg h3 ?_
   have := go (K == 1) (K == 4)
   by_cases h4 : K = 4
   ·rw [if_pos (Or.inr h4)]
    rwa [if_pos (by simpa using h4)] at this
   ·rw [if_neg (by omega)]
    rwa [if_neg (by simpa using h4)] at this
theorem many_bounds (K m : Int) (h0 : 0 ≤ m) (h1 : m ≤ 24) : decide ((kidBoundsC K).1 ≤ m ∧ m ≤ (kidBoundsC K).2) = manyC K m := by
 unfold kidBoundsC manyC
 by_cases k1 : K = 1
 ·rw [if_pos k1, if_pos k1, decide_eq_decide]; simp; omega
 ·by_cases k3 : K = 3 ∨ K = 4
  ·rw [if_neg k1, if_neg k1, if_pos k3, if_pos k3, decide_eq_decide]; simp; omega
  ·by_cases k8 : K = 8
   ·rw [if_neg k1, if_neg k1, if_neg k3, if_neg k3, if_pos k8, if_pos k8, decide_eq_decide]; simp; omega
   ·rw [if_neg k1, if_neg k1, if_neg k3, if_neg k3, if_neg k8, if_neg k8, decide_eq_decide]; simp; omega
def needsC (p : List St) (i : Nat) : Bool := decide (0 ≤ pr p i) && (decide ((rdS p (pr p i)).f0 = 3) && decide (rd (kidsC p (pr p i) p.length) (((kidsC p (pr p i) p.length).length : Int) - 1) ≠ (i : Int)))
theorem needs_ev {p : List St} (h24 : p.length ≤ 24) (h : treeOk p p.length) (i : Nat) (hi : i < p.length) : Ev (fun k => spec_l4Needs.f k p i) (needsC p i) ∧ Ev (fun k => impl_wantsCond.f k p i) (needsC p i) := by
 obtain ⟨a, b⟩ := h i hi
 have h0 : ∀ _ : 0 < p.length, pr p 0 = -1 := fun hl => (h 0 hl).1 rfl
 have hlen := kidsC_len p (pr p i) p.length
 have hne := kidsC_ne (p := p) hi (a := pr p i) rfl
 by_cases hp : 0 ≤ pr p i
 ·have hi0 : 0 < i := by
   by_cases e : i = 0
   ·have := a e; omega
   ·omega
  have hb := b hi0
  have hw : wrap64 (((kidsC p (pr p i) p.length).length : Int) - 1) = ((kidsC p (pr p i) p.length).length : Int) - 1 := Pl.wrap_in (by omega) (by omega)
  unfold needsC
  rw [decide_eq_true hp, Bool.true_and]
  constructor
  ·unfold spec_l4Needs.f
   refine Pl.ev_ite_pos (by omega) (Pl.ev_ite_pos (by omega) (Pl.ev_ite_neg (show ¬ pr p i < 0 by omega) (Pl.ev_ite_pos hp (Pl.ev_ite_pos (show pr p i < (p.length : Int) by omega) ?_))))
   by_cases h3 : (rdS p (pr p i)).f0 = 3
   ·refine Pl.ev_ite_pos h3 (Pl.ev_bind' (specKids_ev p h24 (pr p i)) ?_)
    rw [hw]
    refine Pl.ev_ite_pos (by omega) (Pl.ev_ite_pos (by omega) ?_)
    refine Pl.ev_to (Ev.now _) ?_
    rw [decide_eq_true h3, Bool.true_and, Bool.eq_iff_iff]
    simp
   ·refine Pl.ev_ite_neg h3 ?_
    rw [decide_eq_false h3, Bool.false_and]
    exact Ev.now _
  ·unfold impl_wantsCond.f
   refine Pl.ev_ite_pos (by omega) (Pl.ev_ite_pos (by omega) (Pl.ev_ite_neg (by omega) (Pl.ev_ite_pos hp (Pl.ev_ite_pos (show pr p i < (p.length : Int) by omega) ?_))))
   by_cases h3 : (rdS p (pr p i)).f0 = 3
   ·refine Pl.ev_ite_pos h3 (Pl.ev_bind' (implKids_ev p h24 h0 (pr p i) hp) ?_)
    rw [hw]
    refine Pl.ev_ite_pos (by omega) (Pl.ev_ite_pos (by omega) ?_)
    refine Pl.ev_to (Ev.now _) ?_
    rw [decide_eq_true h3, Bool.true_and, Bool.eq_iff_iff]
    simp
    constructor
    ·intro h' h''; exact h' h''.symm
    ·intro h' h''; exact h' h''.symm
   ·refine Pl.ev_ite_neg h3 ?_
    rw [decide_eq_false h3, Bool.false_and]
    exact Ev.now _
 ·have e : i = 0 := by
   by_cases e : i = 0
   ·exact e
   ·have := b (by omega); omega
  unfold needsC
  rw [decide_eq_false hp, Bool.false_and]
  constructor
  ·unfold spec_l4Needs.f
   exact Pl.ev_ite_pos (by omega) (Pl.ev_ite_pos (by omega) (Pl.ev_ite_pos (show pr p i < 0 by omega) (Ev.now _)))
  ·unfold impl_wantsCond.f
   exact Pl.ev_ite_pos (by omega) (Pl.ev_ite_pos (by omega) (Pl.ev_ite_pos (by omega) (Ev.now _)))
def hasC (p : List St) (i : Nat) : Bool := decide (((rdS p i).f4.length : Int) > 0)
noncomputable def condC (p : List St) (i : Nat) : Int := if manyC (rdS p i).f0 ((kidsC p i p.length).length : Int) = true then (if (needsC p i != hasC p i) = true then 1 else if hasC p i = true then exprC (rdS p i).f4 else 0) else 1
theorem implCond_ev {p : List St} (h24 : p.length ≤ 24) (h : treeOk p p.length) (i : Nat) (hi : i < p.length) : Ev (fun k => impl_condFault.f k p i) (condC p i) := by
 have h0 : ∀ _ : 0 < p.length, pr p 0 = -1 := fun hl => (h 0 hl).1 rfl
 have hlen := kidsC_len p (i : Int) p.length
 unfold impl_condFault.f
 refine Pl.ev_ite_pos (by omega) (Pl.ev_ite_pos (by omega) (Pl.ev_bind' (kidBounds_ev _) (Pl.ev_bind' (implKids_ev p h24 h0 _ (by omega)) ?_)))
 simp only [inRange_eq, codeIf_eq, Option.bind_some]
 rw [many_bounds _ _ (by omega) (by omega)]
 refine Pl.ev_bind' (needs_ev h24 h i hi).2 ?_
 refine Pl.ev_bind' (firstCode_ev _ (by simp)) ?_
 rw [f1of2]
 unfold condC
 rw [show (decide (((rd_T37 p (i : Int)).f4.length : Int) > 0) != needsC p i) = (needsC p i != hasC p i) from by unfold hasC; cases needsC p i <;> simp]
 cases hm : manyC (rd_T37 p (i : Int)).f0 ((kidsC p (i : Int) p.length).length : Int)
 ·exact Pl.ev_ite_neg (by simp) (Pl.ev_to (Ev.now _) (by simp))
 ·cases hn : (needsC p i != hasC p i)
  ·refine Pl.ev_ite_pos (by simp) ?_
   by_cases hh : ((rdS p i).f4.length : Int) > 0
   ·refine Pl.ev_ite_pos hh (Pl.ev_bind' (implExpr_ev _) ?_)
    refine Pl.ev_to (Ev.now _) ?_
    rw [show hasC p i = true from decide_eq_true hh]
    simp
   ·refine Pl.ev_ite_neg hh ?_
    refine Pl.ev_to (Ev.now _) ?_
    unfold hasC
    rw [decide_eq_false hh]
    simp
  ·exact Pl.ev_ite_neg (by simp) (Pl.ev_to (Ev.now _) (by simp))
noncomputable def condsC (p : List St) (i : Nat) : List Int := ((List.range p.length).drop i).map (condC p)
theorem condsC_at (p : List St) (i : Nat) (hi : i < p.length) : condsC p i = condC p i :: condsC p (i + 1) := by
 unfold condsC
 rw [Pl.drop_get (by simpa using hi)]
 simp
theorem condsC_end (p : List St) : condsC p p.length = [] := by
 unfold condsC
 rw [List.drop_of_length_le (by simp)]
 rfl
theorem specShape4_ev {p : List St} (h24 : p.length ≤ 24) (h : treeOk p p.length) (hz : sized p) : Ev (fun k => spec_l4Shape.f k p) (Pl.firstC (condsC p 0)) := by
 unfold spec_l4Shape.f
 refine Pl.loop0 (n := p.length) (g := fun k i => spec_l4Shape.l0 k p i) (F := fun i => Pl.firstC (condsC p i)) ?_ ?_ 0 (Nat.zero_le _)
 ·rw [condsC_end]
  refine Ev.step (fun k => by rw [spec_l4Shape.l0]) ?_
  exact Pl.ev_ite_neg (by omega) (Ev.now _)
 ·intro i hi ih
  rw [condsC_at p i hi]
  refine Ev.step (fun k => by rw [spec_l4Shape.l0]) ?_
  refine Pl.ev_ite_pos (by omega) (Pl.ev_ite_pos (by omega) (Pl.ev_bind' (specKids_ev p h24 _) (Pl.ev_bind' (many_ev _ _) ?_)))
  rw [Pl.wrap_nat (show i < 9223372036854775807 by omega)]
  unfold Pl.firstC condC
  cases hm : manyC (rd_T37 p (i : Int)).f0 ((kidsC p (i : Int) p.length).length : Int)
  ·exact Pl.ev_ite_neg (by simp) (Pl.ev_to (Ev.now _) (by simp))
  ·refine Pl.ev_ite_pos rfl (Pl.ev_bind' (needs_ev h24 h i hi).1 ?_)
   rw [if_pos rfl]
   rw [show (needsC p i != decide (((rd_T37 p (i : Int)).f4.length : Int) > 0)) = (needsC p i != hasC p i) from rfl]
   cases hn : (needsC p i != hasC p i)
   ·refine Pl.ev_ite_neg (by simp) ?_
    rw [if_neg (show ¬ (false = true) by simp)]
    by_cases hh : ((rdS p i).f4.length : Int) > 0
    ·have hc : hasC p i = true := decide_eq_true hh
     rw [if_pos hc]
     refine Pl.ev_ite_pos hh (Pl.ev_bind' (spec3Fault_ev _ (hz i hi).2.1) ?_)
     by_cases h0 : exprC (rdS p i).f4 = 0
     ·rw [if_pos h0]
      exact Pl.ev_ite_pos h0 ih
     ·rw [if_neg h0]
      exact Pl.ev_ite_neg h0 (Ev.now _)
    ·have hc : ¬ hasC p i = true := by unfold hasC; simpa using hh
     rw [if_neg hc, if_pos rfl]
     exact Pl.ev_ite_neg hh ih
   ·exact Pl.ev_ite_pos rfl (Pl.ev_to (Ev.now _) (by simp))
noncomputable def typedC (e : List Nd) (t : Int) : Int := if e.length = 0 then 0 else if (typeC e).1 = 0 then (if (typeC e).2 = t then 0 else 7) else (typeC e).1
theorem specTyped_ev (e : List Nd) (hl : e.length ≤ 1048576) (t : Int) : Ev (fun k => spec_l4Typed.f k e t) (typedC e t) := by
 unfold spec_l4Typed.f typedC
 by_cases h0 : e.length = 0
 ·rw [if_pos h0]
  exact Pl.ev_ite_pos (by omega) (Ev.now _)
 ·rw [if_neg h0]
  refine Pl.ev_ite_neg (by omega) (Pl.ev_bind' (spec3Type_ev e hl) ?_)
  by_cases hc : (typeC e).1 = 0
  ·by_cases ht : (typeC e).2 = t
   ·exact Pl.ev_to (Pl.ev_ite_pos hc (Pl.ev_ite_pos ht (Ev.now _))) (by rw [if_pos hc, if_pos ht])
   ·exact Pl.ev_to (Pl.ev_ite_pos hc (Pl.ev_ite_neg ht (Ev.now _))) (by rw [if_pos hc, if_neg ht])
  ·exact Pl.ev_to (Pl.ev_ite_neg hc (Ev.now _)) (by rw [if_neg hc])
theorem implTyped_ev (e : List Nd) (t : Int) : Ev (fun k => impl_typeFault.f k e t) (typedC e t) := by
 unfold impl_typeFault.f typedC
 by_cases h0 : e.length = 0
 ·rw [if_pos h0]
  exact Pl.ev_ite_pos (by omega) (Ev.now _)
 ·rw [if_neg h0]
  refine Pl.ev_ite_neg (by omega) (Pl.ev_bind' (implType_ev e) ?_)
  simp only [codeIf_eq, Option.bind_some]
  refine Pl.ev_bind' (firstCode_ev _ (by simp)) ?_
  rw [f1of2]
  refine Pl.ev_to (Ev.now _) ?_
  by_cases hc : (typeC e).1 = 0
  ·rw [if_pos hc, if_pos hc]
   by_cases ht : (typeC e).2 = t
   ·simp [ht]
   ·simp [ht]
  ·rw [if_neg hc, if_neg hc]
noncomputable def typeds (p : List St) (i : Nat) : List Int := ((List.range p.length).drop i).flatMap fun (j : Nat) => [typedC (rdS p (j : Int)).f4 2, typedC (rdS p (j : Int)).f5 1]
theorem typeds_at (p : List St) (i : Nat) (hi : i < p.length) : typeds p i = typedC (rdS p (i : Int)).f4 2 :: typedC (rdS p (i : Int)).f5 1 :: typeds p (i + 1) := by
 unfold typeds
 rw [Pl.drop_get (by simpa using hi)]
 simp
theorem typeds_end (p : List St) : typeds p p.length = [] := by
 unfold typeds
 rw [List.drop_of_length_le (by simp)]
 rfl
theorem specTypeds_ev {p : List St} (h24 : p.length ≤ 24) (hz : sized p) : Ev (fun k => spec_l4Fault.l1 k p 0) (Pl.firstC (typeds p 0)) := by
 refine Pl.loop0 (n := p.length) (g := fun k i => spec_l4Fault.l1 k p i) (F := fun i => Pl.firstC (typeds p i)) ?_ ?_ 0 (Nat.zero_le _)
 ·rw [typeds_end]
  refine Ev.step (fun k => by rw [spec_l4Fault.l1]) ?_
  exact Pl.ev_ite_neg (by omega) (Ev.now _)
 ·intro i hi ih
  rw [typeds_at p i hi]
  refine Ev.step (fun k => by rw [spec_l4Fault.l1]) ?_
  refine Pl.ev_ite_pos (by omega) (Pl.ev_ite_pos (by omega) (Pl.ev_bind' (specTyped_ev _ (hz i hi).2.1 2) ?_))
  rw [Pl.wrap_nat (show i < 9223372036854775807 by omega)]
  unfold Pl.firstC Pl.firstC
  by_cases h1 : typedC (rdS p (i : Int)).f4 2 = 0
  ·rw [if_pos h1]
   refine Pl.ev_ite_pos h1 (Pl.ev_bind' (specTyped_ev _ (hz i hi).2.2 1) ?_)
   by_cases h2 : typedC (rdS p (i : Int)).f5 1 = 0
   ·rw [if_pos h2]
    exact Pl.ev_ite_pos h2 ih
   ·rw [if_neg h2]
    exact Pl.ev_ite_neg h2 (Ev.now _)
  ·rw [if_neg h1]
   exact Pl.ev_ite_neg h1 (Ev.now _)
theorem implTypeds_ev {p : List St} (h24 : p.length ≤ 24) : Ev (fun k => impl_ProcFault.l2 k p (p.length : Int) 0) (Pl.firstC (typeds p 0)) := by
 refine Pl.loop0 (n := p.length) (g := fun k i => impl_ProcFault.l2 k p (p.length : Int) i) (F := fun i => Pl.firstC (typeds p i)) ?_ ?_ 0 (Nat.zero_le _)
 ·rw [typeds_end]
  refine Ev.step (fun k => by rw [impl_ProcFault.l2]) ?_
  exact Pl.ev_ite_neg (by omega) (Ev.now _)
 ·intro i hi ih
  rw [typeds_at p i hi]
  refine Ev.step (fun k => by rw [impl_ProcFault.l2]) ?_
  refine Pl.ev_ite_pos (by omega) (Pl.ev_ite_pos (by omega) (Pl.ev_ite_pos (by omega) (Pl.ev_bind' (implTyped_ev _ 2) (Pl.ev_bind' (implTyped_ev _ 1) (Pl.ev_bind' (firstCode_ev _ (by simp)) ?_)))))
  rw [f1of2, Pl.wrap_nat (show i < 9223372036854775807 by omega)]
  unfold Pl.firstC Pl.firstC
  by_cases h1 : typedC (rdS p (i : Int)).f4 2 = 0
  ·rw [if_pos h1, if_pos h1]
   by_cases h2 : typedC (rdS p (i : Int)).f5 1 = 0
   ·rw [if_pos h2]
    exact Pl.ev_ite_pos h2 ih
   ·rw [if_neg h2]
    exact Pl.ev_ite_neg h2 (Ev.now _)
  ·rw [if_neg h1, if_neg h1]
   exact Pl.ev_ite_neg h1 (Ev.now _)
theorem implConds_ev {p : List St} (h24 : p.length ≤ 24) (h : treeOk p p.length) : Ev (fun k => impl_ProcFault.l1 k p (p.length : Int) 0) (if Pl.firstC (condsC p 0) = 0 then Pl.firstC (typeds p 0) else Pl.firstC (condsC p 0)) := by
 refine Pl.loop0 (n := p.length) (g := fun k i => impl_ProcFault.l1 k p (p.length : Int) i) (F := fun i => if Pl.firstC (condsC p i) = 0 then Pl.firstC (typeds p 0) else Pl.firstC (condsC p i)) ?_ ?_ 0 (Nat.zero_le _)
 ·rw [condsC_end]
  refine Ev.step (fun k => by rw [impl_ProcFault.l1]) ?_
  rw [show Pl.firstC [] = 0 from rfl, if_pos rfl]
  exact Pl.ev_ite_neg (by omega) (implTypeds_ev h24)
 ·intro i hi ih
  rw [condsC_at p i hi]
  refine Ev.step (fun k => by rw [impl_ProcFault.l1]) ?_
  refine Pl.ev_ite_pos (by omega) (Pl.ev_bind' (implCond_ev h24 h i hi) ?_)
  rw [Pl.wrap_nat (show i < 9223372036854775807 by omega)]
  rw [show Pl.firstC (condC p i :: condsC p (i + 1)) = if condC p i = 0 then Pl.firstC (condsC p (i + 1)) else condC p i from rfl]
  by_cases h1 : condC p i = 0
  ·simp only [if_pos h1]
   exact ih
  ·simp only [if_neg h1]
   exact Ev.now _
def procOk (p : List St) : Prop := (1 ≤ p.length ∧ p.length ≤ 24) ∧ treeOk p p.length ∧ (∀ i : Nat, i < p.length → stepOk (rdS p i) ∧ deep p i ≤ 7 ∧ (0 < i → Ev (fun k => spec_l4Line.f k p (i : Int)) true)) ∧ Pl.firstC (condsC p 0) = 0 ∧ Pl.firstC (typeds p 0) = 0
theorem proc_ev (p : List St) (hl : p.length ≤ 1048576) (hz : sized p) : ∃ c : Int, Ev (fun k => spec_l4Fault.f k p) c ∧ Ev (fun k => impl_ProcFault.f k p) c ∧ (c = 0 → procOk p) := by
 by_cases hb : 1 ≤ p.length ∧ p.length ≤ 24
 ·have main : ∀ d i : Nat, p.length - i = d → i ≤ p.length → treeOk p i → (∀ j : Nat, j < i → stepOk (rdS p j) ∧ deep p j ≤ 7 ∧ (0 < j → Ev (fun k => spec_l4Line.f k p (j : Int)) true)) → ∃ c : Int, Ev (fun k => spec_l4Fault.l0 k p i) c ∧ Ev (fun k => impl_ProcFault.l0 k p p (p.length : Int) i (pl p i) (dl p i)) c ∧ (c = 0 → procOk p) := by
   intro d
   induction d with
   | zero =>
    intro i hd hi ht hs
    obtain rfl : i = p.length := by omega
    refine ⟨if Pl.firstC (condsC p 0) = 0 then Pl.firstC (typeds p 0) else Pl.firstC (condsC p 0), ?_, ?_, fun h' => ?_⟩
    ·refine Ev.step (fun k => by rw [spec_l4Fault.l0]) ?_
     refine Pl.ev_ite_neg (by omega) (Pl.ev_bind' (specShape4_ev hb.2 ht hz) ?_)
     by_cases h0 : Pl.firstC (condsC p 0) = 0
     ·rw [if_pos h0]
      exact Pl.ev_ite_pos h0 (specTypeds_ev hb.2 hz)
     ·rw [if_neg h0]
      exact Pl.ev_ite_neg h0 (Ev.now _)
    ·refine Ev.step (fun k => by rw [impl_ProcFault.l0]) ?_
     exact Pl.ev_ite_neg (by omega) (implConds_ev hb.2 ht)
    ·by_cases h0 : Pl.firstC (condsC p 0) = 0
     ·rw [if_pos h0] at h'
      exact ⟨hb, ht, hs, h0, h'⟩
     ·rw [if_neg h0] at h'
      exact absurd h' h0
   | succ d ih =>
    intro i hd hi ht hs
    have hi' : i < p.length := by omega
    obtain ⟨c, s, L1, L2, m, n⟩ := one_ev hi' hb.2 ht hz
    by_cases hc : c = 0
    ·obtain ⟨rfl, rfl, ht', hs', hd'⟩ := n hc
     subst hc
     obtain ⟨c, s2, m2, n2⟩ := ih (i + 1) (by omega) (by omega) ht' (fun j hj => by
      by_cases hj' : j < i
      ·exact hs j hj'
      ·obtain rfl : j = i := by omega
       exact ⟨hs', hd'⟩)
     rw [show ((i + 1 : Nat) : Int) = (i : Int) + 1 from by omega] at s2 m2
     refine ⟨c, ?_, ?_, n2⟩
     ·refine Ev.step (fun k => by rw [spec_l4Fault.l0]) ?_
      rw [Pl.wrap_nat (show i < 9223372036854775807 by omega)]
      exact Pl.ev_ite_pos (by omega) (Pl.ev_bind' s (Pl.ev_ite_pos rfl s2))
     ·refine Ev.step (fun k => by rw [impl_ProcFault.l0]) ?_
      rw [Pl.wrap_nat (show i < 9223372036854775807 by omega)]
      exact Pl.ev_ite_pos (by omega) (Pl.ev_ite_pos (by omega) (Pl.ev_ite_pos (by omega) (Pl.ev_bind' m (Pl.ev_ite_pos rfl m2))))
    ·refine ⟨c, ?_, ?_, fun h' => absurd h' hc⟩
     ·refine Ev.step (fun k => by rw [spec_l4Fault.l0]) ?_
      exact Pl.ev_ite_pos (by omega) (Pl.ev_bind' s (Pl.ev_ite_neg hc (Ev.now _)))
     ·refine Ev.step (fun k => by rw [impl_ProcFault.l0]) ?_
      exact Pl.ev_ite_pos (by omega) (Pl.ev_ite_pos (by omega) (Pl.ev_ite_pos (by omega) (Pl.ev_bind' m (Pl.ev_ite_neg hc (Ev.now _)))))
  obtain ⟨c, s, m, n⟩ := main p.length 0 (by omega) (by omega) (fun j hj => absurd hj (by omega)) (fun j hj => absurd hj (by omega))
  have s' : Ev (fun k => spec_l4Fault.f k p) c := by
   unfold spec_l4Fault.f
   refine Pl.ev_ite_neg (by omega) ?_
   refine Ev.step (fun k => by rw [spec_l4Fault.j0]) ?_
   exact Pl.ev_ite_neg (by simp; omega) s
  refine ⟨c, s', ?_, n⟩
  unfold impl_ProcFault.f
  simp only [inRange_eq, Option.bind_some]
  exact Pl.ev_ite_pos (by simp; omega) m
 ·have s' : Ev (fun k => spec_l4Fault.f k p) 2 := by
   unfold spec_l4Fault.f
   have out : Ev (fun k => spec_l4Fault.j0 k p true) 2 := by
    refine Ev.step (fun k => by rw [spec_l4Fault.j0]) ?_
    exact Pl.ev_ite_pos rfl (Ev.now _)
   by_cases h1 : (p.length : Int) < 1
   ·exact Pl.ev_ite_pos h1 out
   ·refine Pl.ev_ite_neg h1 ?_
    rw [decide_eq_true (show (p.length : Int) > 24 by omega)]
    exact out
  refine ⟨2, s', ?_, fun h' => absurd h' (by omega)⟩
  unfold impl_ProcFault.f
  simp only [inRange_eq, Option.bind_some]
  exact Pl.ev_ite_neg (by simp; omega) (Ev.now _)
theorem sized_map (a : List S32) (h : ∀ y ∈ a, bStep y) : sized (a.map toStep) := by
 intro i hi
 rw [List.length_map] at hi
 have e : rdS (a.map toStep) (i : Int) = toStep a[i] := by
  show rd_T37 (a.map toStep) (i : Int) = _
  rw [rd_iStep _ i (by simpa using hi)]
  simp
 rw [e]
 obtain ⟨b1, b2, b3⟩ := h _ (List.getElem_mem hi)
 exact ⟨b1, by simpa [toStep] using b2, by simpa [toStep] using b3⟩
def underC (p : List St) : Nat → Int → Int → Bool
 | 0, _, _ => false
 | f + 1, at', a => if at' > a then underC p f (pr p at') a else decide (at' = a)
theorem underC_more {p : List St} {n : Nat} (h : treeOk p n) (a : Int) (ha : 0 ≤ a) : ∀ (f g : Nat) (at' : Int), -1 ≤ at' → at' < n → at' < f → at' < g → 0 < f → 0 < g → underC p f at' a = underC p g at' a
 | 0, _, _, _, _, _, _, h0, _ => absurd h0 (by omega)
 | _ + 1, 0, _, _, _, _, _, _, h0 => absurd h0 (by omega)
 | f + 1, g + 1, at', h0, h1, hf, hg, _, _ => by
  rw [underC, underC]
  by_cases hn : at' > a
  ·rw [if_pos hn, if_pos hn]
   obtain ⟨b, c⟩ := treeOk_lt h (by omega) h1
   exact underC_more h a ha f g _ b (by omega) (by omega) (by omega) (by omega) (by omega)
  ·rw [if_neg hn, if_neg hn]
def under (p : List St) (at' a : Int) : Bool := underC p (at'.toNat + 1) at' a
theorem under_up {p : List St} {n : Nat} (h : treeOk p n) {a at' : Int} (ha : 0 ≤ a) (h1 : at' < n) (hn : at' > a) : under p at' a = under p (pr p at') a := by
 obtain ⟨b, c⟩ := treeOk_lt h (by omega) h1
 unfold under
 rw [underC, if_pos hn]
 exact underC_more h a ha _ _ _ b (by omega) (by omega) (by omega) (by omega) (by omega)
theorem under_at {p : List St} {a at' : Int} (hn : ¬ at' > a) : under p at' a = decide (at' = a) := by
 unfold under
 rw [underC, if_neg hn]
def lineOk (p : List St) (n : Nat) : Prop := ∀ i : Nat, 0 < i → i < n → under p ((i : Int) - 1) (pr p (i : Int)) = true
theorem under_trans {p : List St} {n : Nat} (h : treeOk p n) {a b : Int} (ha : 0 ≤ a) (hb : a ≤ b) : ∀ (m : Nat) (at' : Int), at'.toNat + 1 = m → -1 ≤ at' → at' < n → under p at' b = true → under p at' a = under p b a := by
 intro m
 induction m using Nat.strongRecOn with
 | _ m ih =>
  intro at' hm h0 h1 hu
  by_cases hq : at' > b
  ·obtain ⟨c, d⟩ := treeOk_lt h (by omega) h1
   rw [under_up h (by omega) h1 hq] at hu
   rw [under_up h ha h1 (by omega)]
   exact ih ((pr p at').toNat + 1) (by
    by_cases h2 : pr p at' < 0
    ·exfalso
     rw [under_at (by omega)] at hu
     have := of_decide_eq_true hu
     omega
    ·omega) _ rfl c (by omega) hu
  ·rw [under_at hq] at hu
   rw [of_decide_eq_true hu]
theorem lineOk_of {p : List St} (h : treeOk p p.length) (h24 : p.length ≤ 24) (hs : ∀ i : Nat, 0 < i → i < p.length → Ev (fun k => spec_l4Line.f k p (i : Int)) true) : lineOk p p.length := by
 intro i h0 hi
 have hp := (h i hi).2 h0
 have main : ∀ (m : Nat) (at' : Int), at'.toNat + 1 = m → -1 ≤ at' → at' < i → Ev (fun k => spec_l4Line.l0 k p (i : Int) at') (under p at' (pr p (i : Int))) := by
  intro m
  induction m using Nat.strongRecOn with
  | _ m ih =>
   intro at' hm h0' h1
   refine Ev.step (fun k => by rw [spec_l4Line.l0]) ?_
   by_cases hn : at' < 0
   ·obtain rfl : at' = -1 := by omega
    rw [under_at (by omega)]
    exact Pl.ev_ite_neg (by omega) (Pl.ev_to (Ev.now _) (by rw [eq_comm, decide_eq_false_iff_not]; omega))
   ·obtain ⟨c, d⟩ := treeOk_lt h (by omega) (show at' < (p.length : Int) by omega)
    refine Pl.ev_ite_pos (by omega) (Pl.ev_ite_pos (by omega) (Pl.ev_ite_pos (by omega) ?_))
    by_cases e : at' = pr p (i : Int)
    ·rw [under_at (by omega)]
     exact Pl.ev_ite_pos e (Pl.ev_to (Ev.now _) (decide_eq_true e).symm)
    ·refine Pl.ev_ite_neg e (Pl.ev_ite_pos (by omega) (Pl.ev_ite_pos (by omega) ?_))
     have low : ∀ (m' : Nat) (b : Int), b.toNat + 1 = m' → -1 ≤ b → b < pr p (i : Int) → Ev (fun k => spec_l4Line.l0 k p (i : Int) b) false := by
      intro m'
      induction m' using Nat.strongRecOn with
      | _ m' ih' =>
       intro b hb b0 b1
       refine Ev.step (fun k => by rw [spec_l4Line.l0]) ?_
       by_cases hn' : b < 0
       ·exact Pl.ev_ite_neg (by omega) (Ev.now _)
       ·obtain ⟨c', d'⟩ := treeOk_lt h (by omega) (show b < (p.length : Int) by omega)
        refine Pl.ev_ite_pos (by omega) (Pl.ev_ite_pos (by omega) (Pl.ev_ite_pos (by omega) (Pl.ev_ite_neg (show ¬ b = pr p (i : Int) by omega) (Pl.ev_ite_pos (by omega) (Pl.ev_ite_pos (by omega) ?_)))))
        by_cases hz : pr p b < 0
        ·have hz1 : (rd_T37 p b).f1 = -1 := show pr p b = -1 by omega
         rw [hz1]
         refine Ev.step (fun k => by rw [spec_l4Line.l0]) ?_
         exact Pl.ev_ite_neg (by omega) (Ev.now _)
        ·exact ih' ((pr p b).toNat + 1) (by omega) (pr p b) rfl c' (by omega)
     by_cases hq : at' > pr p (i : Int)
     ·rw [under_up h (by omega) (show at' < (p.length : Int) by omega) hq]
      by_cases hz : pr p at' < 0
      ·have hz1 : pr p at' = -1 := by omega
       have hz2 : (rd_T37 p at').f1 = -1 := hz1
       rw [hz1, hz2, under_at (by omega)]
       refine Ev.step (fun k => by rw [spec_l4Line.l0]) ?_
       exact Pl.ev_ite_neg (by omega) (Pl.ev_to (Ev.now _) (by rw [eq_comm, decide_eq_false_iff_not]; omega))
      ·exact ih ((pr p at').toNat + 1) (by omega) (pr p at') rfl c (by omega)
     ·rw [under_at hq, decide_eq_false e]
      by_cases hz : pr p at' < 0
      ·have hz2 : (rd_T37 p at').f1 = -1 := show pr p at' = -1 by omega
       rw [hz2]
       refine Ev.step (fun k => by rw [spec_l4Line.l0]) ?_
       exact Pl.ev_ite_neg (by omega) (Ev.now _)
      ·exact low ((pr p at').toNat + 1) (pr p at') rfl c (by omega)
 have h1 := main _ ((i : Int) - 1) rfl (by omega) (by omega)
 have h2 := hs i h0 hi
 unfold spec_l4Line.f at h2
 rw [Pl.wrap_in (by omega) (by omega)] at h2
 exact (Pl.ev_unique h1 h2)
def sameN (x y : S74) : Bool := (x.f0 == y.f0) && ((x.f1 == y.f1) && ((x.f2 == y.f2) && (x.f3 == y.f3)))
def sameNs : List S74 → List S74 → Bool
 | [], [] => true
 | x :: l, y :: m => sameN x y && sameNs l m
 | _, _ => false
def sameS (x y : S37) : Bool := (x.f0 == y.f0) && (x.f1 == y.f1) && (x.f2.toList == y.f2.toList) && (x.f3 == y.f3) && sameNs x.f4 y.f4 && sameNs x.f5 y.f5
def sameSs : List S37 → List S37 → Bool
 | [], [] => true
 | x :: l, y :: m => sameS x y && sameSs l m
 | _, _ => false
theorem sameNs_len : ∀ l m, l.length ≠ m.length → sameNs l m = false
 | [], [], h => absurd rfl h
 | [], _ :: _, _ => rfl
 | _ :: _, [], _ => rfl
 | x :: l, y :: m, h => by rw [sameNs, sameNs_len l m (fun e => h (by simp [e])), Bool.and_false]
theorem sameSs_len : ∀ l m, l.length ≠ m.length → sameSs l m = false
 | [], [], h => absurd rfl h
 | [], _ :: _, _ => rfl
 | _ :: _, [], _ => rfl
 | x :: l, y :: m, h => by rw [sameSs, sameSs_len l m (fun e => h (by simp [e])), Bool.and_false]
theorem sameN_test (x y : S74) : ((!(x.f0 == y.f0) || (!(x.f1 == y.f1) || (!(x.f2 == y.f2) || (!(x.f3 == y.f3))))) = true) ↔ sameN x y = false := by
 unfold sameN
 cases (x.f0 == y.f0) <;> cases (x.f1 == y.f1) <;> cases (x.f2 == y.f2) <;> cases (x.f3 == y.f3) <;> simp
theorem specNs_ev (l m : List S74) (hl : l.length ≤ 1048576) : Ev (fun k => spec_l4SameExpr.f k l m) (sameNs l m) := by
 unfold spec_l4SameExpr.f
 simp only [Pl.ev_ite]
 split
 ·rename_i h
  have hm : l.length = m.length := by omega
  have := Pl.loop0 (n := l.length) (g := fun k i => spec_l4SameExpr.l0 k l m i) (F := fun i => sameNs (l.drop i) (m.drop i)) ?_ (fun i hi ih => ?_) 0 (Nat.zero_le _)
  ·simpa using this
  ·refine Ev.step (fun k => by rw [spec_l4SameExpr.l0]) ?_
   simp only [Pl.ev_ite, Pl.ev_some]
   rw [if_neg (by omega), List.drop_length, show List.drop l.length m = [] from by rw [hm]; exact List.drop_length]
   rfl
  ·refine Ev.step (fun k => by rw [spec_l4SameExpr.l0]) ?_
   have hi' : i < m.length := by omega
   simp only [Pl.ev_ite, Pl.ev_some, Pl.ev_none, rd_iNode l i hi, rd_iNode m i hi', Pl.drop_get hi, Pl.drop_get hi', sameNs, sameN_test, Pl.wrap_nat (show i < 9223372036854775807 by omega)]
   rw [if_pos (by omega), if_pos (by omega), if_pos (by omega)]
   cases h2 : sameN l[i] m[i]
   ·simp
   ·simpa using ih
 ·rename_i h
  exact Pl.ev_some.2 (sameNs_len l m (by omega)).symm
theorem specSs_ev (l m : List S37) (hl : l.length ≤ 1048576) (hb : ∀ y ∈ l, y.f4.length ≤ 1048576 ∧ y.f5.length ≤ 1048576) : Ev (fun k => spec_SameProcs.f k l m) (sameSs l m) := by
 unfold spec_SameProcs.f
 simp only [Pl.ev_ite]
 split
 ·rename_i h
  have hm : l.length = m.length := by omega
  have := Pl.loop0 (n := l.length) (g := fun k i => spec_SameProcs.l0 k l m i) (F := fun i => sameSs (l.drop i) (m.drop i)) ?_ (fun i hi ih => ?_) 0 (Nat.zero_le _)
  ·simpa using this
  ·refine Ev.step (fun k => by rw [spec_SameProcs.l0]) ?_
   simp only [Pl.ev_ite, Pl.ev_some]
   rw [if_neg (by omega), List.drop_length, show List.drop l.length m = [] from by rw [hm]; exact List.drop_length]
   rfl
  ·refine Ev.step (fun k => by rw [spec_SameProcs.l0]) ?_
   have hi' : i < m.length := by omega
   simp only [Pl.ev_ite, Pl.ev_some, Pl.ev_none, rd_iStep l i hi, rd_iStep m i hi', Pl.drop_get hi, Pl.drop_get hi', sameSs, Pl.wrap_nat (show i < 9223372036854775807 by omega)]
   rw [if_pos (by omega), if_pos (by omega), if_pos (by omega)]
   have b := hb _ (List.getElem_mem hi)
   generalize l[i] = x at b ⊢
   generalize m[i] = y
   unfold sameS
   by_cases e0 : x.f0 = y.f0
   ·rw [if_pos e0]
    by_cases e1 : x.f1 = y.f1
    ·rw [if_pos e1]
     by_cases e2 : x.f2.toList = y.f2.toList
     ·rw [if_pos e2]
      by_cases e3 : x.f3 = y.f3
      ·rw [if_pos e3]
       refine Pl.ev_bind' (specNs_ev _ _ b.1) ?_
       cases e4 : sameNs x.f4 y.f4
       ·simp [Pl.ev_some]
       ·simp only [if_true]
        refine Pl.ev_bind' (specNs_ev _ _ b.2) ?_
        cases e5 : sameNs x.f5 y.f5
        ·simp [Pl.ev_some]
        ·simpa [e0, e1, e2, e3] using ih
      ·rw [if_neg e3]; simp [e3]
     ·rw [if_neg e2]; simp [e2]
    ·rw [if_neg e1]; simp [e1]
   ·rw [if_neg e0]; simp [e0]
 ·rename_i h
  exact Pl.ev_some.2 (sameSs_len l m (by omega)).symm
theorem Tr.ind {P : Tr → Prop} (h : ∀ s ks, (∀ x ∈ ks, P x) → P ⟨s, ks⟩) : ∀ t, P t
 | ⟨s, ks⟩ => h s ks (fun x hx => Tr.ind h x)
 termination_by t => SizeOf.sizeOf t
 decreasing_by
  have := List.sizeOf_lt_of_mem hx
  simp
  omega
def cnt : Tr → Nat
 | ⟨_, ks⟩ => 1 + (ks.attach.map fun ⟨x, _⟩ => cnt x).sum
 termination_by t => SizeOf.sizeOf t
 decreasing_by
  rename_i hx
  have := List.sizeOf_lt_of_mem hx
  simp
  omega
theorem cnt_eq (s : Sp) (ks : List Tr) : cnt ⟨s, ks⟩ = 1 + (ks.map cnt).sum := by
 rw [cnt]
 simp
def rnd (s : Sp) (ks : List Tr) : Tr := if (isSeq ⟨s, ks⟩ && decide ((ks.flatMap (takeIn (isSeq ⟨s, ks⟩))).length = 1)) = true then onlyOf s ((ks.flatMap (takeIn (isSeq ⟨s, ks⟩))).getD 0 zTr) else ⟨s, ks.flatMap (takeIn (isSeq ⟨s, ks⟩))⟩
def pln : Tr → Tr
 | ⟨s, ks⟩ => rnd s (ks.attach.map fun ⟨x, _⟩ => pln x)
 termination_by t => SizeOf.sizeOf t
 decreasing_by
  rename_i hx
  have := List.sizeOf_lt_of_mem hx
  simp
  omega
theorem pln_eq (s : Sp) (ks : List Tr) : pln ⟨s, ks⟩ = rnd s (ks.map pln) := by
 rw [pln]
 simp
def lay : List Sp → Tr → Int → List Sp
 | b, ⟨s, ks⟩, q => ks.attach.foldl (fun b' ⟨x, _⟩ => lay b' x (b.length : Int)) (b ++ [{ s with f1 := q }])
 termination_by _ t _ => SizeOf.sizeOf t
 decreasing_by
  rename_i hx
  have := List.sizeOf_lt_of_mem hx
  simp
  omega
theorem lay_eq (b : List Sp) (s : Sp) (ks : List Tr) (q : Int) : lay b ⟨s, ks⟩ q = ks.foldl (fun b' x => lay b' x (b.length : Int)) (b ++ [{ s with f1 := q }]) := by
 rw [lay]
 simp
theorem lay_len : ∀ (t : Tr) (b : List Sp) (q : Int), (lay b t q).length = b.length + cnt t := by
 intro t
 induction t using Tr.ind with
 | h s ks ih =>
  intro b q
  rw [lay_eq, cnt_eq]
  have main : ∀ (l : List Tr) (c : List Sp) (n : Int), (∀ x ∈ l, x ∈ ks) → (l.foldl (fun b' x => lay b' x n) c).length = c.length + (l.map cnt).sum := by
   intro l
   induction l with
   | nil => intro c n _; simp
   | cons x l ihl =>
    intro c n hl
    rw [List.foldl_cons, ihl _ n (fun y hy => hl y (List.mem_cons_of_mem _ hy)), ih x (hl x (List.mem_cons_self ..)), List.map_cons, List.sum_cons]
    omega
  rw [main ks _ _ (fun _ h => h)]
  simp
  omega
/-! with rounds enough -/
theorem ev_mapO {α β : Type} {f : Nat → α → Option β} {g : α → β} : ∀ l : List α, (∀ x ∈ l, Ev (fun k => f k x) (g x)) → Ev (fun k => mapO (f k) l) (l.map g)
 | [], _ => Ev.now _
 | x :: l, h => Pl.ev_bind' (h x (List.mem_cons_self ..)) (Pl.ev_bind' (ev_mapO l (fun y hy => h y (List.mem_cons_of_mem _ hy))) (Ev.now _))
theorem cnt_pos (t : Tr) : 1 ≤ cnt t := by
 obtain ⟨s, ks⟩ := t
 rw [cnt_eq]
 omega
theorem sum_len {ks : List Tr} : ks.length ≤ (ks.map cnt).sum := by
 induction ks with
 | nil => simp
 | cons x l ih =>
  have := cnt_pos x
  simp only [List.length_cons, List.map_cons, List.sum_cons]
  omega
theorem takeIn_sum (b : Bool) (x : Tr) : ((takeIn b x).map cnt).sum + (if (b && isSeq x) = true then 1 else 0) = cnt x := by
 unfold takeIn
 obtain ⟨s, ks⟩ := x
 split
 ·show (ks.map cnt).sum + 1 = _
  rw [cnt_eq]
  omega
 ·simp
theorem flat_sum (b : Bool) : ∀ ks : List Tr, ((ks.flatMap (takeIn b)).map cnt).sum ≤ (ks.map cnt).sum ∧ ((∃ x ∈ ks, (b && isSeq x) = true) → ((ks.flatMap (takeIn b)).map cnt).sum < (ks.map cnt).sum)
 | [] => by simp
 | x :: l => by
  obtain ⟨h1, h2⟩ := flat_sum b l
  have h3 := takeIn_sum b x
  rw [List.flatMap_cons, List.map_append, List.sum_append, List.map_cons, List.sum_cons]
  refine ⟨by omega, fun h => ?_⟩
  obtain ⟨y, hy, hb⟩ := h
  rcases List.mem_cons.1 hy with rfl | hy
  ·rw [if_pos hb] at h3
   omega
  ·have := h2 ⟨y, hy, hb⟩
   omega
theorem cnt_only (s : Sp) (x : Tr) : cnt (onlyOf s x) = cnt x := by
 unfold onlyOf
 obtain ⟨a, ks⟩ := x
 split
 ·rw [cnt_eq, cnt_eq]
 ·rfl
theorem rnd_cnt (s : Sp) (ks : List Tr) : cnt (rnd s ks) ≤ 1 + ((ks.flatMap (takeIn (isSeq ⟨s, ks⟩))).map cnt).sum ∧ ((isSeq ⟨s, ks⟩ && decide ((ks.flatMap (takeIn (isSeq ⟨s, ks⟩))).length = 1)) = true → cnt (rnd s ks) ≤ ((ks.flatMap (takeIn (isSeq ⟨s, ks⟩))).map cnt).sum) := by
 unfold rnd
 by_cases h : (isSeq ⟨s, ks⟩ && decide ((ks.flatMap (takeIn (isSeq ⟨s, ks⟩))).length = 1)) = true
 ·rw [if_pos h, cnt_only]
  rw [Bool.and_eq_true, decide_eq_true_eq] at h
  obtain ⟨x, hx⟩ := List.length_eq_one_iff.1 h.2
  rw [hx]
  have e : cnt (([x] : List Tr).getD 0 zTr) = cnt x := rfl
  rw [e]
  simp
 ·rw [if_neg h, cnt_eq]
  exact ⟨Nat.le_refl _, fun h' => absurd h' h⟩
inductive PT : Tr → Prop
 | mk (s : Sp) (ks : List Tr) : (∀ x ∈ ks, PT x) → (isSeq ⟨s, ks⟩ = true → ks.length ≠ 1 ∧ ∀ x ∈ ks, isSeq x = false) → PT ⟨s, ks⟩
theorem PT.kids {s : Sp} {ks : List Tr} (h : PT ⟨s, ks⟩) : ∀ x ∈ ks, PT x := by
 cases h with
 | mk _ _ h1 _ => exact h1
theorem PT.seq {s : Sp} {ks : List Tr} (h : PT ⟨s, ks⟩) : isSeq ⟨s, ks⟩ = true → ks.length ≠ 1 ∧ ∀ x ∈ ks, isSeq x = false := by
 cases h with
 | mk _ _ _ h2 => exact h2
theorem flat_self (b : Bool) : ∀ ks : List Tr, (∀ x ∈ ks, (b && isSeq x) = false) → ks.flatMap (takeIn b) = ks
 | [], _ => rfl
 | x :: l, h => by
  rw [List.flatMap_cons, flat_self b l (fun y hy => h y (List.mem_cons_of_mem _ hy))]
  have : takeIn b x = [x] := by
   unfold takeIn
   rw [h x (List.mem_cons_self ..)]
   rfl
  rw [this]
  rfl
theorem map_self {f : Tr → Tr} : ∀ ks : List Tr, (∀ x ∈ ks, f x = x) → ks.map f = ks
 | [], _ => rfl
 | x :: l, h => by rw [List.map_cons, h x (List.mem_cons_self ..), map_self l (fun y hy => h y (List.mem_cons_of_mem _ hy))]
theorem rnd_self {s : Sp} {ks : List Tr} (h : isSeq ⟨s, ks⟩ = true → ks.length ≠ 1 ∧ ∀ x ∈ ks, isSeq x = false) : rnd s ks = ⟨s, ks⟩ := by
 have hf : ks.flatMap (takeIn (isSeq ⟨s, ks⟩)) = ks := flat_self _ ks (fun x hx => by
  cases hb : isSeq ⟨s, ks⟩
  ·rfl
  ·rw [(h hb).2 x hx]
   rfl)
 unfold rnd
 rw [hf, if_neg]
 intro hq
 rw [Bool.and_eq_true, decide_eq_true_eq] at hq
 exact (h hq.1).1 hq.2
theorem pln_self : ∀ t : Tr, PT t → pln t = t := by
 intro t
 induction t using Tr.ind with
 | h s ks ih =>
  intro h
  rw [pln_eq, map_self ks (fun x hx => ih x hx (h.kids x hx))]
  exact rnd_self h.seq
theorem sum_le {f g : Tr → Nat} : ∀ ks : List Tr, (∀ x ∈ ks, f x ≤ g x) → (ks.map f).sum ≤ (ks.map g).sum ∧ ((∃ x ∈ ks, f x < g x) → (ks.map f).sum < (ks.map g).sum)
 | [], _ => by simp
 | x :: l, h => by
  obtain ⟨h1, h2⟩ := sum_le l (fun y hy => h y (List.mem_cons_of_mem _ hy))
  have h3 := h x (List.mem_cons_self ..)
  simp only [List.map_cons, List.sum_cons]
  refine ⟨by omega, fun hh => ?_⟩
  obtain ⟨y, hy, hb⟩ := hh
  rcases List.mem_cons.1 hy with rfl | hy
  ·omega
  ·have := h2 ⟨y, hy, hb⟩
   omega
theorem pln_less : ∀ t : Tr, cnt (pln t) ≤ cnt t ∧ (¬ PT t → cnt (pln t) < cnt t) := by
 intro t
 induction t using Tr.ind with
 | h s ks ih =>
  rw [pln_eq, cnt_eq]
  obtain ⟨r1, r2⟩ := rnd_cnt s (ks.map pln)
  obtain ⟨f1, f2⟩ := flat_sum (isSeq ⟨s, ks.map pln⟩) (ks.map pln)
  obtain ⟨s1, s2⟩ := sum_le (f := fun x => cnt (pln x)) (g := cnt) ks (fun x hx => (ih x hx).1)
  have e : ((ks.map pln).map cnt).sum = (ks.map fun x => cnt (pln x)).sum := by rw [List.map_map]; rfl
  rw [e] at f1 f2
  refine ⟨by omega, fun hn => ?_⟩
  by_cases hk : ∀ x ∈ ks, PT x
  ·have hm : ks.map pln = ks := map_self ks (fun x hx => pln_self x (hk x hx))
   rw [hm] at r1 r2 f1 f2 ⊢
   by_cases hq : isSeq ⟨s, ks⟩ = true
   ·by_cases hx : ∃ x ∈ ks, isSeq x = true
    ·obtain ⟨x, hx, hxs⟩ := hx
     have := f2 ⟨x, hx, by rw [hq, hxs]; rfl⟩
     omega
    ·have hx' : ∀ x ∈ ks, isSeq x = false := fun x hxm => by
      cases hb : isSeq x
      ·rfl
      ·exact absurd ⟨x, hxm, hb⟩ hx
     have hl : ks.length = 1 := by
      by_cases hl : ks.length = 1
      ·exact hl
      ·exact absurd (PT.mk s ks hk (fun _ => ⟨hl, hx'⟩)) hn
     have hf : ks.flatMap (takeIn (isSeq ⟨s, ks⟩)) = ks := flat_self _ ks (fun x hxm => by rw [hx' x hxm]; simp)
     have := r2 (by rw [hf, hq, hl]; rfl)
     omega
   ·exact absurd (PT.mk s ks hk (fun h => absurd h hq)) hn
  ·have hk' : ∃ x ∈ ks, ¬ PT x := by
    by_cases h : ∃ x ∈ ks, ¬ PT x
    ·exact h
    ·exact absurd (fun x hx => Classical.byContradiction fun hp => h ⟨x, hx, hp⟩) hk
   obtain ⟨x, hx, hp⟩ := hk'
   have := s2 ⟨x, hx, (ih x hx).2 hp⟩
   omega
theorem mem_sum : ∀ (ks : List Tr) (x : Tr), x ∈ ks → cnt x ≤ (ks.map cnt).sum
 | [], _, h => by cases h
 | y :: l, x, h => by
  rw [List.map_cons, List.sum_cons]
  rcases List.mem_cons.1 h with rfl | h
  ·omega
  ·have := mem_sum l x h
   omega
theorem plainF_ev : ∀ t : Tr, cnt t ≤ 1000000 → Ev (fun k => plainF k t) (pln t) := by
 intro t
 induction t using Tr.ind with
 | h s ks ih =>
  intro hc
  rw [cnt_eq] at hc
  have hx : ∀ x ∈ ks, cnt x ≤ (ks.map cnt).sum := mem_sum ks
  rw [pln_eq]
  refine Ev.step (fun k => by rw [plainF]) ?_
  refine Pl.ev_bind' (ev_mapO (g := pln) ks (fun x h => ih x h (by have := hx x h; omega))) ?_
  have h1 := sum_le (f := fun x => cnt (pln x)) (g := cnt) ks (fun x _ => (pln_less x).1)
  have h2 := (flat_sum (isSeq ⟨s, ks⟩) (ks.map pln)).1
  have h3 := sum_len (ks := (ks.map pln).flatMap (takeIn (isSeq ⟨s, ks⟩)))
  have e : ((ks.map pln).map cnt).sum = (ks.map fun x => cnt (pln x)).sum := by rw [List.map_map]; rfl
  rw [e] at h2
  exact Pl.ev_ite_pos (by omega) (Ev.now _)
theorem flatF_ev : ∀ (t : Tr) (b : List Sp) (q : Int), b.length + cnt t ≤ 1000000 → Ev (fun k => flatF k b t q) (lay b t q) := by
 intro t
 induction t using Tr.ind with
 | h s ks ih =>
  intro b q hc
  rw [cnt_eq] at hc
  rw [lay_eq]
  refine Ev.step (fun k => by rw [flatF]) ?_
  refine Pl.ev_ite_pos (by omega) ?_
  have main : ∀ (l : List Tr) (c : List Sp) (n : Int), (∀ x ∈ l, x ∈ ks) → c.length + (l.map cnt).sum ≤ 1000000 → Ev (fun k => foldO (fun b x => flatF k b x n) c l) (l.foldl (fun b' x => lay b' x n) c) := by
   intro l
   induction l with
   | nil => intro c n _ _; exact Ev.now _
   | cons x l ihl =>
    intro c n hl hn
    rw [List.map_cons, List.sum_cons] at hn
    refine Pl.ev_bind' (ih x (hl x (List.mem_cons_self ..)) c n (by omega)) ?_
    exact ihl _ n (fun y hy => hl y (List.mem_cons_of_mem _ hy)) (by rw [lay_len]; omega)
  exact main ks _ _ (fun _ h => h) (by rw [List.length_append]; show b.length + 1 + _ ≤ _; omega)
def kidsN (p : List St) (a : Nat) : List Nat := (List.range p.length).filter fun (j : Nat) => decide (pr p (j : Int) = (a : Int))
theorem kidsC_N (p : List St) (a : Nat) : kidsC p (a : Int) p.length = (kidsN p a).map fun (j : Nat) => (j : Int) := rfl
theorem kidsN_mem {p : List St} {a k : Nat} : k ∈ kidsN p a ↔ k < p.length ∧ pr p (k : Int) = (a : Int) := by
 unfold kidsN
 simp
theorem kidsN_behind {p : List St} (ht : treeOk p p.length) {a k : Nat} (h : k ∈ kidsN p a) : a < k := by
 obtain ⟨h1, h2⟩ := kidsN_mem.1 h
 obtain ⟨h3, h4⟩ := ht k h1
 by_cases h0 : k = 0
 ·have := h3 h0; omega
 ·have := (h4 (by omega)).2; omega
theorem kidsN_sorted (p : List St) (a : Nat) : (kidsN p a).Pairwise (· < ·) := List.pairwise_lt_range.filter _
def treeF : Nat → List St → Nat → Tr
 | 0, p, a => ⟨rdS p (a : Int), []⟩
 | f + 1, p, a => ⟨rdS p (a : Int), (kidsN p a).map (treeF f p)⟩
theorem treeF_more {p : List St} (ht : treeOk p p.length) : ∀ f g a, a < p.length → p.length - a ≤ f → p.length - a ≤ g → treeF f p a = treeF g p a
 | 0, _, _, h1, h2, _ => by omega
 | _, 0, _, h1, _, h3 => by omega
 | f + 1, g + 1, a, h1, h2, h3 => by
  rw [treeF, treeF]
  congr 1
  refine List.map_congr_left fun k hk => ?_
  have h4 := kidsN_behind ht hk
  have h5 := (kidsN_mem.1 hk).1
  exact treeF_more ht f g k h5 (by omega) (by omega)
def tree (p : List St) (a : Nat) : Tr := treeF p.length p a
theorem tree_eq {p : List St} (ht : treeOk p p.length) {a : Nat} (ha : a < p.length) : tree p a = ⟨rdS p (a : Int), (kidsN p a).map (tree p)⟩ := by
 unfold tree
 obtain ⟨m, hm⟩ : ∃ m, p.length = m + 1 := ⟨p.length - 1, by omega⟩
 rw [show treeF p.length p a = treeF (m + 1) p a from by rw [hm], treeF]
 congr 1
 refine List.map_congr_left fun k hk => ?_
 have h4 := kidsN_behind ht hk
 exact treeF_more ht m p.length k (kidsN_mem.1 hk).1 (by omega) (by omega)
theorem growF_ev {p : List St} (h24 : p.length ≤ 24) (ht : treeOk p p.length) : ∀ d a, p.length - a = d → a < p.length → Ev (fun k => growF k p (a : Int)) (tree p a) := by
 intro d
 induction d using Nat.strongRecOn with
 | _ d ih =>
  intro a hd ha
  refine Ev.step (fun k => by rw [growF]) ?_
  refine Pl.ev_ite_pos ⟨by omega, by omega⟩ (Pl.ev_bind' (specKids_ev p h24 (a : Int)) ?_)
  refine Pl.ev_ite_pos (by have := kidsC_len p (a : Int) p.length; omega) ?_
  refine Pl.ev_bind' (ev_mapO (g := fun x : Int => tree p x.toNat) _ (fun x hx => ?_)) ?_
  ·rw [kidsC_N] at hx
   obtain ⟨k, hk, rfl⟩ := List.mem_map.1 hx
   have h4 := kidsN_behind ht hk
   have h5 := (kidsN_mem.1 hk).1
   rw [Int.toNat_natCast]
   exact ih (p.length - k) (by omega) k rfl h5
  ·refine Pl.ev_to (Ev.now _) ?_
   rw [tree_eq ht ha, kidsC_N, List.map_map]
   congr 1
/-! what stands under a step stands in one piece -/
theorem under_le {p : List St} {n : Nat} (h : treeOk p n) {a j : Nat} (hj : j < n) (hu : under p (j : Int) (a : Int) = true) : a ≤ j := by
 by_cases hn : (j : Int) > (a : Int)
 ·omega
 ·rw [under_at hn] at hu
  have := of_decide_eq_true hu
  omega
theorem under_self (p : List St) (a : Nat) : under p (a : Int) (a : Int) = true := by
 rw [under_at (by omega)]
 simp
theorem par {p : List St} {n : Nat} (h : treeOk p n) {j : Nat} (h0 : 0 < j) (hj : j < n) : ∃ x : Nat, pr p (j : Int) = (x : Int) ∧ x < j := by
 have := (h j hj).2 h0
 exact ⟨(pr p (j : Int)).toNat, by omega, by omega⟩
theorem out_stays {p : List St} {n : Nat} (h : treeOk p n) (hl : lineOk p n) {a : Nat} : ∀ d j, a ≤ j → under p (j : Int) (a : Int) = false → j + d < n → under p ((j + d : Nat) : Int) (a : Int) = false := by
 intro d
 induction d with
 | zero => intro j _ hu _; exact hu
 | succ d ih =>
  intro j hj hu hn
  have h1 := ih j hj hu (by omega)
  cases hq : under p ((j + (d + 1) : Nat) : Int) (a : Int)
  ·rfl
  ·exfalso
   obtain ⟨x, hx, hx2⟩ := par h (show 0 < j + (d + 1) by omega) hn
   rw [under_up h (by omega) (by omega) (show ((j + (d + 1) : Nat) : Int) > (a : Int) by omega), hx] at hq
   have hax := under_le h (show x < n by omega) hq
   have hln := hl (j + (d + 1)) (by omega) hn
   rw [hx, show ((j + (d + 1) : Nat) : Int) - 1 = ((j + d : Nat) : Int) by omega] at hln
   rw [under_trans h (by omega) (show (a : Int) ≤ (x : Int) by omega) _ ((j + d : Nat) : Int) rfl (by omega) (by omega) hln, hq] at h1
   cases h1
def spanOk (p : List St) (a : Nat) : Prop := a + cnt (tree p a) ≤ p.length ∧ (∀ j, a ≤ j → j < a + cnt (tree p a) → under p (j : Int) (a : Int) = true) ∧ (a + cnt (tree p a) < p.length → under p ((a + cnt (tree p a) : Nat) : Int) (a : Int) = false) ∧ lay (p.take a) (tree p a) (pr p (a : Int)) = p.take (a + cnt (tree p a))
theorem span_ok {p : List St} (h : treeOk p p.length) (hl : lineOk p p.length) : ∀ d a, p.length - a = d → a < p.length → spanOk p a := by
 intro d
 induction d using Nat.strongRecOn with
 | _ d ih =>
  intro a hd ha
  have IH : ∀ k ∈ kidsN p a, spanOk p k := fun k hk => ih (p.length - k) (by have := kidsN_behind h hk; have := (kidsN_mem.1 hk).1; omega) k rfl (kidsN_mem.1 hk).1
  -- what stands next
  have next : ∀ K1 K2 pos, kidsN p a = K1 ++ K2 → a < pos → pos < p.length → (∀ k ∈ K1, k + cnt (tree p k) ≤ pos) → (∀ j, a < j → j < pos → ∃ k ∈ K1, under p (j : Int) (k : Int) = true) → under p (pos : Int) (a : Int) = true → pos ∈ K2 ∧ pr p (pos : Int) = (a : Int) := by
   intro K1 K2 pos hK h1 h2 h3 h4 hu
   obtain ⟨x, hx, hx2⟩ := par h (show 0 < pos by omega) h2
   rw [under_up h (by omega) (by omega) (show (pos : Int) > (a : Int) by omega), hx] at hu
   have hax := under_le h (show x < p.length by omega) hu
   by_cases hxa : x = a
   ·subst hxa
    refine ⟨?_, hx⟩
    have hm : pos ∈ kidsN p x := kidsN_mem.2 ⟨h2, hx⟩
    rw [hK] at hm
    rcases List.mem_append.1 hm with hm | hm
    ·have := h3 pos hm
     have := cnt_pos (tree p pos)
     omega
    ·exact hm
   ·exfalso
    obtain ⟨k, hk, hku⟩ := h4 x (by omega) hx2
    have hkx := under_le h (show x < p.length by omega) hku
    have hks := h3 k hk
    have hkp := cnt_pos (tree p k)
    have hup : under p (pos : Int) (k : Int) = true := by rw [under_up h (by omega) (by omega) (show (pos : Int) > (k : Int) by omega), hx]; exact hku
    obtain ⟨_, _, s3, _⟩ := IH k (by rw [hK]; exact List.mem_append_left _ hk)
    have := out_stays h hl (pos - (k + cnt (tree p k))) (k + cnt (tree p k)) (by omega) (s3 (by omega)) (by omega)
    rw [show k + cnt (tree p k) + (pos - (k + cnt (tree p k))) = pos by omega, hup] at this
    cases this
  have main : ∀ K2 K1 pos, kidsN p a = K1 ++ K2 → a < pos → pos ≤ p.length → (∀ k ∈ K1, k + cnt (tree p k) ≤ pos) → (∀ j, a < j → j < pos → ∃ k ∈ K1, under p (j : Int) (k : Int) = true) →
    ∃ e, e = pos + (K2.map fun k => cnt (tree p k)).sum ∧ e ≤ p.length ∧ (∀ k ∈ kidsN p a, k + cnt (tree p k) ≤ e) ∧ (∀ j, a < j → j < e → ∃ k ∈ kidsN p a, under p (j : Int) (k : Int) = true) ∧ K2.foldl (fun b x => lay b (tree p x) (a : Int)) (p.take pos) = p.take e := by
   intro K2
   induction K2 with
   | nil =>
    intro K1 pos hK h1 h2 h3 h4
    rw [List.append_nil] at hK
    exact ⟨pos, by simp, h2, by rw [hK]; exact h3, by rw [hK]; exact h4, rfl⟩
   | cons k K2 ihK =>
    intro K1 pos hK h1 h2 h3 h4
    have hkm : k ∈ kidsN p a := by rw [hK]; simp
    obtain ⟨hk1, hk2⟩ := kidsN_mem.1 hkm
    have hka := kidsN_behind h hkm
    have hsort := kidsN_sorted p a
    rw [hK] at hsort
    obtain ⟨_, so2, so3⟩ := List.pairwise_append.1 hsort
    have so4 := (List.pairwise_cons.1 so2).1
    have hpk : pos ≤ k := by
     by_cases hlt : k < pos
     ·exfalso
      obtain ⟨k1, hk1m, hu⟩ := h4 k hka hlt
      have hle := under_le h hk1 hu
      have hne := so3 k1 hk1m k (List.mem_cons_self ..)
      rw [under_up h (by omega) (by omega) (show (k : Int) > (k1 : Int) by omega), hk2] at hu
      have h5 := under_le h ha hu
      have h6 := kidsN_behind h (show k1 ∈ kidsN p a by rw [hK]; exact List.mem_append_left _ hk1m)
      omega
     ·omega
    have hua : under p (k : Int) (a : Int) = true := by
     rw [under_up h (by omega) (by omega) (show (k : Int) > (a : Int) by omega), hk2]
     exact under_self p a
    have hup : under p (pos : Int) (a : Int) = true := by
     cases hq : under p (pos : Int) (a : Int)
     ·have := out_stays h hl (k - pos) pos (by omega) hq (by omega)
      rw [show pos + (k - pos) = k by omega, hua] at this
      cases this
     ·rfl
    obtain ⟨n1, n2⟩ := next K1 (k :: K2) pos hK h1 (by omega) h3 h4 hup
    have hpe : pos = k := by
     rcases List.mem_cons.1 n1 with e | hm
     ·exact e
     ·have := so4 pos hm
      omega
    subst hpe
    obtain ⟨s1, s2, s3, s4⟩ := IH pos hkm
    rw [n2] at s4
    obtain ⟨e, e1, e2, e3, e4, e5⟩ := ihK (K1 ++ [pos]) (pos + cnt (tree p pos)) (by rw [hK, List.append_assoc]; rfl) (by omega) s1
     (fun k hk => by
      rcases List.mem_append.1 hk with hk | hk
      ·have := h3 k hk; omega
      ·rw [List.mem_singleton] at hk; subst hk; exact Nat.le_refl _)
     (fun j hj1 hj2 => by
      by_cases hj : j < pos
      ·obtain ⟨k, hk, hu⟩ := h4 j hj1 hj
       exact ⟨k, List.mem_append_left _ hk, hu⟩
      ·exact ⟨pos, by simp, s2 j (by omega) hj2⟩)
    refine ⟨e, by rw [e1, List.map_cons, List.sum_cons]; omega, e2, e3, e4, ?_⟩
    rw [List.foldl_cons, s4]
    exact e5
  obtain ⟨e, e1, e2, e3, e4, e5⟩ := main (kidsN p a) [] (a + 1) rfl (by omega) (by omega) (by simp) (fun j h1 h2 => by omega)
  have hc : a + cnt (tree p a) = e := by
   rw [tree_eq h ha, cnt_eq, List.map_map, e1]
   show a + (1 + (List.map (fun k => cnt (tree p k)) (kidsN p a)).sum) = _
   omega
  refine ⟨by omega, fun j h1 h2 => ?_, fun he => ?_, ?_⟩
  ·by_cases hj : j = a
   ·rw [hj]
    exact under_self p a
   ·obtain ⟨k, hk, hu⟩ := e4 j (by omega) (by omega)
    have hka := kidsN_behind h hk
    obtain ⟨hk1, hk2⟩ := kidsN_mem.1 hk
    rw [under_trans h (by omega) (show (a : Int) ≤ (k : Int) by omega) _ (j : Int) rfl (by omega) (by omega) hu, under_up h (by omega) (by omega) (show (k : Int) > (a : Int) by omega), hk2]
    exact under_self p a
  ·rw [hc] at he ⊢
   cases hq : under p (e : Int) (a : Int)
   ·rfl
   ·have := (next (kidsN p a) [] e (by simp) (by omega) he e3 e4 hq).1
    cases this
  ·rw [hc, tree_eq h ha, lay_eq, List.foldl_map]
   have hst : ({ rdS p (a : Int) with f1 := pr p (a : Int) } : St) = p[a] := by
    show rdS p (a : Int) = _
    exact rd_iStep p a ha
   have htl : (p.take a).length = a := by rw [List.length_take]; omega
   rw [htl]
   show List.foldl _ (p.take a ++ [({ rdS p (a : Int) with f1 := pr p (a : Int) } : St)]) _ = _
   rw [hst, ← List.take_succ_eq_append_getElem ha]
   exact e5
theorem all_under {p : List St} {n : Nat} (h : treeOk p n) : ∀ j : Nat, j < n → under p (j : Int) ((0 : Nat) : Int) = true := by
 intro j
 induction j using Nat.strongRecOn with
 | _ j ih =>
  intro hj
  by_cases h0 : j = 0
  ·rw [h0]
   exact under_self p 0
  ·obtain ⟨x, hx, hx2⟩ := par h (show 0 < j by omega) hj
   rw [under_up h (by omega) (by omega) (show (j : Int) > ((0 : Nat) : Int) by omega), hx]
   exact ih x hx2 (by omega)
theorem tree_all {p : List St} (h : treeOk p p.length) (hl : lineOk p p.length) (h1 : 1 ≤ p.length) : cnt (tree p 0) = p.length ∧ lay [] (tree p 0) (-1) = p := by
 obtain ⟨s1, s2, s3, s4⟩ := span_ok h hl p.length 0 (by omega) (by omega)
 rw [Nat.zero_add] at s1 s3 s4
 have hc : cnt (tree p 0) = p.length := by
  by_cases hlt : cnt (tree p 0) < p.length
  ·have := s3 hlt
   rw [all_under h _ hlt] at this
   cases this
  ·omega
 refine ⟨hc, ?_⟩
 rw [hc, List.take_length] at s4
 have h0 := (h 0 (by omega)).1 rfl
 have h0' : pr p ((0 : Nat) : Int) = -1 := h0
 rw [h0'] at s4
 exact s4
/-! when it is plain -/
def condB (p : List St) (i : Nat) : Bool := !(seqAt p (i : Int)) || (!(decide ((kidsN p i).length = 1)) && !((kidsC p (i : Int) p.length).any (seqAt p)))
theorem seq_tree {p : List St} (ht : treeOk p p.length) {a : Nat} (ha : a < p.length) : isSeq (tree p a) = seqAt p (a : Int) := by
 rw [tree_eq ht ha]
 rfl
theorem cond_iff {p : List St} (ht : treeOk p p.length) {i : Nat} (hi : i < p.length) : condB p i = true ↔ (isSeq (tree p i) = true → ((kidsN p i).map (tree p)).length ≠ 1 ∧ ∀ x ∈ (kidsN p i).map (tree p), isSeq x = false) := by
 rw [seq_tree ht hi, List.length_map]
 unfold condB
 rw [kidsC_N, List.any_map]
 cases hs : seqAt p (i : Int)
 ·simp
 ·rw [Bool.not_true, Bool.false_or, Bool.and_eq_true, Bool.not_eq_true', Bool.not_eq_true', decide_eq_false_iff_not, List.any_eq_false]
  constructor
  ·rintro ⟨h1, h2⟩ _
   refine ⟨h1, fun x hx => ?_⟩
   obtain ⟨k, hk, rfl⟩ := List.mem_map.1 hx
   rw [seq_tree ht (kidsN_mem.1 hk).1]
   have := h2 k hk
   simpa using this
  ·intro h
   obtain ⟨h1, h2⟩ := h rfl
   refine ⟨h1, fun k hk => ?_⟩
   have := h2 _ (List.mem_map_of_mem hk)
   rw [seq_tree ht (kidsN_mem.1 hk).1] at this
   simpa using this
theorem pt_iff {p : List St} (ht : treeOk p p.length) (h1 : 1 ≤ p.length) : PT (tree p 0) ↔ ∀ i, i < p.length → condB p i = true := by
 constructor
 ·intro h
  have all : ∀ j : Nat, j < p.length → PT (tree p j) := by
   intro j
   induction j using Nat.strongRecOn with
   | _ j ih =>
    intro hj
    by_cases h0 : j = 0
    ·rw [h0]; exact h
    ·obtain ⟨x, hx, hx2⟩ := par ht (show 0 < j by omega) hj
     have hp := ih x hx2 (by omega)
     rw [tree_eq ht (show x < p.length by omega)] at hp
     exact hp.kids _ (List.mem_map_of_mem (kidsN_mem.2 ⟨hj, hx⟩))
  intro i hi
  have hp := all i hi
  rw [cond_iff ht hi]
  rw [tree_eq ht hi] at hp ⊢
  exact hp.seq
 ·intro h
  have all : ∀ d a, p.length - a = d → a < p.length → PT (tree p a) := by
   intro d
   induction d using Nat.strongRecOn with
   | _ d ih =>
    intro a hd ha
    have hc := (cond_iff ht ha).1 (h a ha)
    rw [tree_eq ht ha] at hc ⊢
    refine PT.mk _ _ (fun x hx => ?_) hc
    obtain ⟨k, hk, rfl⟩ := List.mem_map.1 hx
    have := kidsN_behind ht hk
    have := (kidsN_mem.1 hk).1
    exact ih (p.length - k) (by omega) k rfl (by omega)
  exact all _ 0 rfl (by omega)
end Go.Proofs.Ytjbcpghpafacaaa.I
