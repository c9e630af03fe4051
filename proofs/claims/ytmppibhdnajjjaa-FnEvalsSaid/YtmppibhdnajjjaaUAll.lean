/- Plain words on functions with rounds: what a call comes to with rounds enough. No condition. What the program's picks of a code come to. No condition. What the checks of a range come to. No condition. What the laws' own sizes, copies and comparisons of nodes come to. No condition. Plain words on expressions: the nodes below a node, in order; when they stand as they have to. No condition. What the program and the reference say of an expression's nodes and of whether it is one: both the same. No condition. Whether a list of nodes is an expression: the program and the reference say the same. No condition. Whether a list of nodes is an expression: what the program says. No condition. What the check of variables comes to. No condition. The type of an expression: the program and the reference say the same. No condition. The value of an expression: the program and the reference say the same. No condition. What the library's sort of a short row of numbers, and what is left of a sorted row without repeats, come to. No condition. The variables of an expression: the program and the reference say the same. No condition. The draws that a law's own inputs are made of: each is a number below its bound. No condition. The expressions and variables that a law draws: there are some, and they are short. No condition. -/
import Derived.Test.YtmppibhdnajjjaaWMore
import Derived.Lib.Strings
import Derived.Test.YtmppibhdnajjjaaV2
import Derived.Test.YtmppibhdnajjjaaV6
import Derived.Test.YtmppibhdnajjjaaV7
import Derived.Test.YtmppibhdnajjjaaVO
import Derived.Test.YtmppibhdnajjjaaV4
import Derived.Test.YtmppibhdnajjjaaV3
import Derived.Test.YtmppibhdnajjjaaV17
import Derived.Test.YtmppibhdnajjjaaV13
import Derived.Test.YtmppibhdnajjjaaV12
import Derived.Test.YtmppibhdnajjjaaV18
import Derived.Test.YtmppibhdnajjjaaV16
import Derived.Test.YtmppibhdnajjjaaV15
import Derived.Test.YtmppibhdnajjjaaV14
import Derived.Test.YtmppibhdnajjjaaVH
import Derived.Test.YtmppibhdnajjjaaV5
import Derived.Test.YtmppibhdnajjjaaV9
import Derived.Test.YtmppibhdnajjjaaV10
import Derived.Test.YtmppibhdnajjjaaV11
namespace Go.Proofs.Ytmppibhdnajjjaa
open Go.RowKit Go.Proofs.YtmppibhdnajjjaaW.PrintWords Go.Proofs.YtmppibhdnajjjaaW.PrintLast Go.Proofs.YtmppibhdnajjjaaW.PrintMore
namespace Pl
variable {α β σ : Type}
theorem ev_iff_congr {g f : Nat → Option α} {r : α} (h : ∃ K, ∀ k, K ≤ k → g k = f k) : Ev g r ↔ Ev f r := by
 obtain ⟨K, h⟩ := h
 constructor
 ·rintro ⟨K', h'⟩
  exact ⟨max K K', fun k hk => by rw [← h k (by omega)]; exact h' k (by omega)⟩
 ·rintro ⟨K', h'⟩
  exact ⟨max K K', fun k hk => by rw [h k (by omega)]; exact h' k (by omega)⟩
theorem ev_some {x r : α} : Ev (fun _ => some x) r ↔ x = r := by
 constructor
 ·rintro ⟨K, h⟩
  exact Option.some.inj (h K (Nat.le_refl _))
 ·rintro rfl
  exact Ev.now _
theorem ev_none {r : α} : Ev (fun _ => none) r ↔ False := by
 constructor
 ·rintro ⟨K, h⟩
  exact absurd (h K (Nat.le_refl _)) (by simp)
 ·exact False.elim
theorem ev_ite {c : Prop} [Decidable c] {a b : Nat → Option α} {r : α} : Ev (fun k => if c then a k else b k) r ↔ if c then Ev a r else Ev b r := by
 by_cases h : c
 ·simp only [if_pos h]
 ·simp only [if_neg h]
theorem ev_bind {g : Nat → Option α} {f : Nat → α → Option β} {a : α} {r : β} (h : Ev g a) : Ev (fun k => (g k).bind (f k)) r ↔ Ev (fun k => f k a) r := by
 obtain ⟨K, h⟩ := h
 exact ev_iff_congr ⟨K, fun k hk => by rw [h k hk, Option.bind_some]⟩
theorem ev_bind' {g : Nat → Option α} {f : Nat → α → Option β} {a : α} {r : β} (h : Ev g a) (hf : Ev (fun k => f k a) r) : Ev (fun k => (g k).bind (f k)) r := (ev_bind h).2 hf
theorem ev_ite_pos {c : Prop} [Decidable c] {a b : Nat → Option α} {r : α} (hc : c) (h : Ev a r) : Ev (fun k => if c then a k else b k) r := by
 simp only [if_pos hc]; exact h
theorem ev_ite_neg {c : Prop} [Decidable c] {a b : Nat → Option α} {r : α} (hc : ¬ c) (h : Ev b r) : Ev (fun k => if c then a k else b k) r := by
 simp only [if_neg hc]; exact h
theorem ev_unique {g : Nat → Option α} {r s : α} (h : Ev g r) (h' : Ev g s) : r = s := by
 obtain ⟨K, h⟩ := h
 obtain ⟨K', h'⟩ := h'
 have h1 := h (max K K') (by omega)
 have h2 := h' (max K K') (by omega)
 rw [h1] at h2
 exact Option.some.inj h2
theorem ev_to {g : Nat → Option α} {r s : α} (h : Ev g r) (e : r = s) : Ev g s := e ▸ h
theorem loop {n : Nat} {g : Nat → Int → σ → Option β} {F : Nat → σ → β} (I : Nat → σ → Prop)
  (hend : ∀ s, I n s → Ev (fun k => g k (n : Int) s) (F n s))
  (hstep : ∀ i s, i < n → I i s → (∀ s', I (i + 1) s' → Ev (fun k => g k ((i : Int) + 1) s') (F (i + 1) s')) → Ev (fun k => g k (i : Int) s) (F i s)) :
  ∀ i s, i ≤ n → I i s → Ev (fun k => g k (i : Int) s) (F i s) := by
 intro i s hi
 obtain ⟨d, hd⟩ : ∃ d, n - i = d := ⟨_, rfl⟩
 induction d generalizing i s with
 | zero =>
  intro hI
  obtain rfl : i = n := by omega
  exact hend s hI
 | succ d ih =>
  intro hI
  refine hstep i s (by omega) hI (fun s' hI' => ?_)
  have := ih (i + 1) s' (by omega) (by omega) hI'
  simpa using this
theorem loop0 {n : Nat} {g : Nat → Int → Option β} {F : Nat → β}
  (hend : Ev (fun k => g k (n : Int)) (F n))
  (hstep : ∀ i, i < n → Ev (fun k => g k ((i : Int) + 1)) (F (i + 1)) → Ev (fun k => g k (i : Int)) (F i)) :
  ∀ i, i ≤ n → Ev (fun k => g k (i : Int)) (F i) := fun i hi =>
 loop (σ := Unit) (g := fun k i _ => g k i) (F := fun i _ => F i) (fun _ _ => True) (fun _ _ => hend) (fun i _ h _ hs => hstep i h (hs () trivial)) i () hi trivial
theorem wrap_nat {i : Nat} (h : i < 9223372036854775807) : wrap64 ((i : Int) + 1) = (i : Int) + 1 := by unfold wrap64; omega
theorem wrap_in {x : Int} (h : -9223372036854775808 ≤ x) (h' : x ≤ 9223372036854775807) : wrap64 x = x := by unfold wrap64; omega
theorem wf_i64 {x : Int} (h : (Lit.int .i64 x).wf = true) : -9223372036854775808 ≤ x ∧ x ≤ 9223372036854775807 := by
 simp [Lit.wf, IntKind.min, IntKind.max, IntKind.signed, IntKind.bits] at h
 omega
/-! bytes -/
theorem bt_get (s : ByteArray) (i : Nat) (h : i < s.size) : bt s (i : Int) = ((s.data.toList[i]'(by simpa using h)).toNat : Int) := by
 unfold bt
 rw [dif_pos (by simpa using h)]
 simp [ByteArray.getElem_eq_getElem_data]
theorem drop_get {l : List α} {i : Nat} (h : i < l.length) : l.drop i = l[i] :: l.drop (i + 1) := List.drop_eq_getElem_cons h
theorem size_toList (s : ByteArray) : s.data.toList.length = s.size := by simp
theorem toList_data (s : ByteArray) : s.toList = s.data.toList := ByteArray.toList_eq s
theorem bt_l {s : ByteArray} {l : List UInt8} (hl : s.data.toList = l) (i : Nat) (h : i < l.length) : bt s (i : Int) = (l[i].toNat : Int) := by
 subst hl
 exact bt_get s i (by simpa using h)
theorem size_l {s : ByteArray} {l : List UInt8} (hl : s.data.toList = l) : s.size = l.length := by subst hl; simp
theorem toList_l {s : ByteArray} {l : List UInt8} (hl : s.data.toList = l) : s.toList = l := by rw [toList_data, hl]
theorem drop_end {l : List α} : l.drop l.length = [] := List.drop_length
def smallB (c : UInt8) : Bool := decide (97 ≤ c.toNat ∧ c.toNat ≤ 122)
def printB (c : UInt8) : Bool := decide (32 ≤ c.toNat ∧ c.toNat ≤ 126)
def digitB (c : UInt8) : Bool := decide (48 ≤ c.toNat ∧ c.toNat ≤ 57)
def blankB (c : UInt8) : Bool := decide (c.toNat = 32 ∨ c.toNat = 10)
def nameC (l : List UInt8) : Int := if l = [] then 5 else if l.all smallB = true then (if l.length > 8 then 2 else 0) else 5
def valueC (l : List UInt8) : Int := if l.length > 40 then 2 else if l.all printB = true then 0 else 5
theorem rd_get (l : List Int) (i : Nat) (h : i < l.length) : rd l (i : Int) = l[i] := by
 unfold rd
 simp [List.getD_eq_getElem?_getD, List.getElem?_eq_getElem h]
theorem getD_get {l : List α} {z : α} {i : Nat} (h : i < l.length) : l.getD ((i : Int)).toNat z = l[i] := by
 simp [List.getD_eq_getElem?_getD, List.getElem?_eq_getElem h]
theorem fill {l : List α} {f : α → β} {z : β} {g : Nat → Int → List β → Option (List β)}
  (hend : ∀ acc, acc.length = l.length → Ev (fun k => g k (l.length : Int) acc) acc)
  (hstep : ∀ i (hi : i < l.length) acc, acc.length = l.length → Ev (fun k => g k ((i : Int) + 1) (acc.set i (f l[i]))) (l.map f) → Ev (fun k => g k (i : Int) acc) (l.map f)) :
  Ev (fun k => g k 0 (List.replicate l.length z)) (l.map f) := by
 have h := loop (n := l.length) (g := g) (F := fun _ _ => l.map f) (fun i acc => acc.length = l.length ∧ acc.take i = (l.map f).take i)
  (fun acc hI => ?_) (fun i acc hi hI hs => hstep i hi acc hI.1 (hs _ ⟨by simp [hI.1], ?_⟩)) 0 (List.replicate l.length z) (Nat.zero_le _) ⟨by simp, by simp⟩
 ·simpa using h
 ·have e : acc = l.map f := by
   have h1 := hI.2
   rw [List.take_of_length_le (by rw [hI.1]; exact Nat.le_refl _), List.take_of_length_le (by simp)] at h1
   exact h1
  have := hend acc hI.1
  rwa [e] at this ⊢
 ·have h1 : i < (l.map f).length := by simpa using hi
  obtain ⟨hI1, hI2⟩ := hI
  apply List.ext_getElem?
  intro j
  have hj := congrArg (fun z => z[j]?) hI2
  simp only [List.getElem?_take] at hj ⊢
  by_cases h2 : j < i
  ·rw [if_pos h2, if_pos h2] at hj
   rw [if_pos (by omega), if_pos (by omega), List.getElem?_set_ne (by omega), hj]
  ·by_cases h3 : j = i
   ·subst h3
    rw [if_pos (by omega), if_pos (by omega), List.getElem?_set_self (by omega), List.getElem?_eq_getElem h1]
    simp
   ·rw [if_neg (by omega), if_neg (by omega)]
theorem left {l : List α} {B : α → Prop} {g : Nat → Int → Int → Option Int}
  (hend : ∀ x, Ev (fun k => g k (l.length : Int) x) x)
  (hstep : ∀ i (hi : i < l.length) x, 0 ≤ x → x ≤ 1048576 → ∃ r, -1 ≤ r ∧ r ≤ x ∧ (0 ≤ r → B l[i]) ∧ (r < 0 → Ev (fun k => g k (i : Int) x) (-1)) ∧ (0 ≤ r → ∀ R, Ev (fun k => g k ((i : Int) + 1) r) R → Ev (fun k => g k (i : Int) x) R)) :
  ∀ x, 0 ≤ x → x ≤ 1048576 → ∃ r, -1 ≤ r ∧ r ≤ x ∧ (0 ≤ r → ∀ y ∈ l, B y) ∧ Ev (fun k => g k 0 x) r := by
 have main : ∀ d i x, i ≤ l.length → l.length - i = d → 0 ≤ x → x ≤ 1048576 → ∃ r, -1 ≤ r ∧ r ≤ x ∧ (0 ≤ r → ∀ y ∈ l.drop i, B y) ∧ Ev (fun k => g k (i : Int) x) r := by
  intro d
  induction d with
  | zero =>
   intro i x hi hd h0 h1
   obtain rfl : i = l.length := by omega
   exact ⟨x, by omega, Int.le_refl _, by simp, hend x⟩
  | succ d ih =>
   intro i x hi hd h0 h1
   have hi' : i < l.length := by omega
   obtain ⟨r, hr0, hr1, hB, hneg, hpos⟩ := hstep i hi' x h0 h1
   by_cases h : 0 ≤ r
   ·obtain ⟨q, hq0, hq1, hqB, hq⟩ := ih (i + 1) r (by omega) (by omega) h (by omega)
    refine ⟨q, hq0, by omega, fun h2 => ?_, hpos h q (by simpa using hq)⟩
    rw [drop_get hi']
    intro y hy
    rcases List.mem_cons.1 hy with rfl | hy
    ·exact hB h
    ·exact hqB h2 y hy
   ·exact ⟨-1, by omega, by omega, by omega, hneg (by omega)⟩
 intro x h0 h1
 obtain ⟨r, a, b, c, d⟩ := main _ 0 x (Nat.zero_le _) rfl h0 h1
 exact ⟨r, a, b, by simpa using c, by simpa using d⟩
def firstC : List Int → Int
 | [] => 0
 | c :: l => if c = 0 then firstC l else c
end Pl
end Go.Proofs.Ytmppibhdnajjjaa
namespace Go.Proofs.Ytmppibhdnajjjaa.V
set_option linter.unusedVariables false
set_option linter.unusedSimpArgs false
open Go.RowKit Go.Proofs.Ytmppibhdnajjjaa Go.Proofs.YtmppibhdnajjjaaW.PrintWords Go.Proofs.YtmppibhdnajjjaaW.PrintLast
theorem codeIf_eq (b : Bool) (c : Int) : impl_codeIf.f b c = some (if b = true then c else 0) := by
 unfold impl_codeIf.f
 cases b <;> rfl
theorem firstCode_l (l : List Int) (hl : l.length < 1000) : ∀ i, i ≤ l.length → Ev (fun k => impl_firstCode.l0 k l (l.length : Int) (i : Int)) (Pl.firstC (l.drop i)) := by
 refine Pl.loop0 (g := fun k i => impl_firstCode.l0 k l (l.length : Int) i) ?_ ?_
 ·refine Ev.step (fun k => by rw [impl_firstCode.l0]) ?_
  simp [Pl.ev_some, Pl.firstC]
 ·intro i hi ih
  refine Ev.step (fun k => by rw [impl_firstCode.l0]) ?_
  rw [Pl.drop_get hi]
  have e := Pl.rd_get l i hi
  simp only [Pl.ev_ite, Pl.ev_some, Pl.ev_none, Pl.firstC, e, Pl.wrap_nat (show i < 9223372036854775807 by omega)]
  rw [if_pos (by omega), if_pos (by omega), if_pos (by omega)]
  split
  ·exact ih
  ·rfl
theorem firstCode_ev (l : List Int) (hl : l.length < 1000) : Ev (fun k => impl_firstCode.f k l) (Pl.firstC l) := firstCode_l l hl 0 (Nat.zero_le _)
theorem l1In_eq (a lo hi : Int) : spec_l1In.f a lo hi = some (decide (lo ≤ a ∧ a ≤ hi)) := by
 unfold spec_l1In.f
 by_cases h : a ≥ lo
 ·rw [if_pos h]; congr 1; rw [decide_eq_decide]; omega
 ·rw [if_neg h]; congr 1; rw [eq_comm, decide_eq_false_iff_not]; omega
theorem inRange_eq (a lo hi : Int) : impl_inRange.f a lo hi = some (decide (lo ≤ a ∧ a ≤ hi)) := by
 unfold impl_inRange.f
 by_cases h : lo ≤ a
 ·rw [if_pos h]; congr 1; rw [decide_eq_decide]; omega
 ·rw [if_neg h]; congr 1; rw [eq_comm, decide_eq_false_iff_not]; omega
theorem rd_lNode (l : List S72) (i : Nat) (h : i < l.length) : rd_T72 l (i : Int) = l[i] := Pl.getD_get h
theorem rd_iNode (l : List S70) (i : Nat) (h : i < l.length) : rd_T70 l (i : Int) = l[i] := Pl.getD_get h
def toNode (x : S72) : S70 := ⟨x.f0, x.f1, x.f2, x.f3⟩
theorem szNodeS_ev (l : List S72) (hl : l.length ≤ 9223372036854775807) (x : Int) (h0 : 0 ≤ x) (h1 : x ≤ 1048576) : ∃ r, -1 ≤ r ∧ r ≤ x ∧ (0 ≤ r → l.length ≤ 1048576) ∧ laws_szNodeS.f l x = some r := by
 have e : wrap64 (x - (l.length : Int)) = x - (l.length : Int) := Pl.wrap_in (by omega) (by omega)
 unfold laws_szNodeS.f
 rw [e]
 by_cases h : x - (l.length : Int) < 0
 ·rw [if_pos h]
  exact ⟨-1, by omega, by omega, by omega, rfl⟩
 ·rw [if_neg h]
  exact ⟨_, by omega, by omega, fun _ => by omega, rfl⟩
theorem toNodeS_ev (l : List S72) (hl : l.length ≤ 1048576) : Ev (fun k => laws_toNodeS.f k l) (l.map toNode) := by
 unfold laws_toNodeS.f
 simp only [Pl.ev_ite]
 rw [if_pos (by omega), if_pos (by simp; omega)]
 rw [show ((l.length : Int) : Int).toNat = l.length from by omega]
 refine Pl.fill (g := fun k i acc => laws_toNodeS.l0 k l acc i) (fun acc _ => ?_) (fun i hi acc ha ih => ?_)
 ·refine Ev.step (fun k => by rw [laws_toNodeS.l0]) ?_
  simp [Pl.ev_some]
 ·refine Ev.step (fun k => by rw [laws_toNodeS.l0]) ?_
  simp only [Pl.ev_ite, Pl.ev_some, Pl.ev_none, laws_toNode.f, Option.bind_some, rd_lNode l i hi, Pl.wrap_nat (show i < 9223372036854775807 by omega), Int.toNat_natCast]
  rw [if_pos (by omega), if_pos (by omega), if_pos (by omega)]
  exact ih
theorem eqNodeS_ev (l : List S70) (hl : l.length ≤ 1048576) : Ev (fun k => laws_eqNodeS.f k l l) true := by
 unfold laws_eqNodeS.f
 simp only [if_true]
 refine Pl.loop0 (n := l.length) (g := fun k i => laws_eqNodeS.l0 k l l i) (F := fun _ => true) ?_ (fun i hi ih => ?_) 0 (Nat.zero_le _)
 ·refine Ev.step (fun k => by rw [laws_eqNodeS.l0]) ?_
  simp [Pl.ev_some]
 ·refine Ev.step (fun k => by rw [laws_eqNodeS.l0]) ?_
  simp only [Pl.ev_ite, Pl.ev_some, Pl.ev_none, laws_eqNode.f, if_true, Option.bind_some, Pl.wrap_nat (show i < 9223372036854775807 by omega)]
  rw [if_pos (by omega), if_pos (by omega), if_pos (by omega)]
  exact ih
end Go.Proofs.Ytmppibhdnajjjaa.V
namespace Go.Proofs.Ytmppibhdnajjjaa
set_option linter.unusedVariables false
set_option linter.unusedSimpArgs false
namespace Pl
def two (k : Int) : Bool := decide (3 ≤ k ∧ k ≤ 9)
section
variable (K : Nat → Int) (L R : Nat → Nat)
def segF : Nat → Nat → List Nat
 | 0, _ => []
 | f + 1, i => (if 2 < K i then segF f (L i) else []) ++ (if two (K i) = true then segF f (R i) else []) ++ [i]
def seg (i : Nat) : List Nat := segF K L R (i + 1) i
def sz (i : Nat) : Nat := (seg K L R i).length
def ahead (n : Nat) : Prop := ∀ i, i < n → (2 < K i → L i < i) ∧ (two (K i) = true → R i < i)
def ok (i : Nat) : Prop := (K i = 10 → L i + 1 = i) ∧ (two (K i) = true → R i + 1 = i ∧ L i + 1 + sz K L R (R i) = i)
variable {K L R}
theorem two_inner {k : Int} (h : two k = true) : 2 < k := by have := of_decide_eq_true h; omega
theorem segF_more {n : Nat} (ha : ahead K L R n) : ∀ f g i, i < n → i < f → i < g → segF K L R f i = segF K L R g i
 | 0, _, _, _, h, _ => absurd h (by omega)
 | _, 0, _, _, _, h => absurd h (by omega)
 | f + 1, g + 1, i, hn, hf, hg => by
  obtain ⟨h1, h2⟩ := ha i hn
  unfold segF
  congr 2
  ·split
   ·rename_i h; have := h1 h; exact segF_more ha f g (L i) (by omega) (by omega) (by omega)
   ·rfl
  ·split
   ·rename_i h; have := h2 h; exact segF_more ha f g (R i) (by omega) (by omega) (by omega)
   ·rfl
theorem seg_eq {n : Nat} (ha : ahead K L R n) {i : Nat} (hn : i < n) : seg K L R i = (if 2 < K i then seg K L R (L i) else []) ++ (if two (K i) = true then seg K L R (R i) else []) ++ [i] := by
 obtain ⟨h1, h2⟩ := ha i hn
 unfold seg
 rw [segF]
 congr 2
 ·split
  ·rename_i h; have := h1 h; exact segF_more ha _ _ (L i) (by omega) (by omega) (by omega)
  ·rfl
 ·split
  ·rename_i h; have := h2 h; exact segF_more ha _ _ (R i) (by omega) (by omega) (by omega)
  ·rfl
theorem sz_eq {n : Nat} (ha : ahead K L R n) {i : Nat} (hn : i < n) : sz K L R i = (if 2 < K i then sz K L R (L i) else 0) + (if two (K i) = true then sz K L R (R i) else 0) + 1 := by
 unfold sz
 rw [seg_eq ha hn]
 simp only [List.length_append, List.length_singleton]
 congr 2
 ·split <;> rfl
 ·split <;> rfl
theorem sz_pos {n : Nat} (ha : ahead K L R n) {i : Nat} (hn : i < n) : 1 ≤ sz K L R i := by rw [sz_eq ha hn]; omega
theorem sz_le {n : Nat} (ha : ahead K L R n) : ∀ i, i < n → sz K L R i + 1 ≤ 2 ^ (i + 1) := by
 intro i
 induction i using Nat.strongRecOn with
 | _ i ih =>
  intro hn
  obtain ⟨h1, h2⟩ := ha i hn
  rw [sz_eq ha hn]
  have p : ∀ j, j < i → sz K L R j + 1 ≤ 2 ^ i := fun j hj => Nat.le_trans (ih j hj (by omega)) (Nat.pow_le_pow_right (by omega) (by omega))
  have q : 1 ≤ 2 ^ i := Nat.one_le_two_pow
  rw [Nat.pow_succ]
  split
  ·rename_i h
   have := p _ (h1 h)
   split
   ·rename_i h'
    have := p _ (h2 h')
    omega
   ·omega
  ·rename_i h
   rw [if_neg (fun h' => h (two_inner h'))]
   omega
theorem seg_last {n : Nat} (ha : ahead K L R n) {i : Nat} (hn : i < n) : ∃ l, seg K L R i = l ++ [i] := ⟨_, seg_eq ha hn⟩
theorem seg_range {n : Nat} (ha : ahead K L R n) : ∀ i, i < n → (∀ j, j ≤ i → K j ≤ 10 ∧ ok K L R j) → sz K L R i ≤ i + 1 ∧ seg K L R i = List.range' (i + 1 - sz K L R i) (sz K L R i) := by
 intro i
 induction i using Nat.strongRecOn with
 | _ i ih =>
  intro hn hok
  obtain ⟨h1, h2⟩ := ha i hn
  obtain ⟨hk, o1, o2⟩ := hok i (Nat.le_refl _)
  have es := sz_eq ha hn
  rw [seg_eq ha hn]
  by_cases hT : two (K i) = true
  ·have hI := two_inner hT
   obtain ⟨o3, o4⟩ := o2 hT
   have hl := h1 hI
   have hr := h2 hT
   obtain ⟨a1, a2⟩ := ih (L i) hl (by omega) (fun j hj => hok j (by omega))
   obtain ⟨b1, b2⟩ := ih (R i) hr (by omega) (fun j hj => hok j (by omega))
   rw [if_pos hI, if_pos hT] at es ⊢
   refine ⟨by omega, ?_⟩
   rw [a2, b2, es]
   rw [show i + 1 - (sz K L R (L i) + sz K L R (R i) + 1) = L i + 1 - sz K L R (L i) from by omega]
   rw [show R i + 1 - sz K L R (R i) = L i + 1 - sz K L R (L i) + sz K L R (L i) from by omega]
   rw [← List.range'_append_1, ← List.range'_append_1]
   congr 1
   rw [List.range'_one]
   congr 1
   omega
  ·by_cases hI : 2 < K i
   ·have h10 : K i = 10 := by
     have : ¬ (3 ≤ K i ∧ K i ≤ 9) := fun e => hT (decide_eq_true e)
     omega
    have o3 := o1 h10
    obtain ⟨a1, a2⟩ := ih (L i) (h1 hI) (by omega) (fun j hj => hok j (by omega))
    rw [if_pos hI, if_neg hT] at es ⊢
    refine ⟨by omega, ?_⟩
    rw [a2, es, List.append_nil]
    rw [show i + 1 - (sz K L R (L i) + 0 + 1) = L i + 1 - sz K L R (L i) from by omega, Nat.add_zero, ← List.range'_append_1]
    congr 1
    rw [List.range'_one]
    congr 1
    omega
   ·rw [if_neg hI, if_neg hT] at es ⊢
    refine ⟨by omega, ?_⟩
    rw [es]
    simp
theorem append_last {α : Type} {l m : List α} {x y : α} (h : l ++ [x] = m ++ [y]) : l = m ∧ x = y := by
 have := List.append_inj' h rfl
 simpa using this
theorem range_split {a n : Nat} {l m : List Nat} (h : List.range' a n = l ++ m) : l = List.range' a l.length ∧ m = List.range' (a + l.length) m.length := by
 have hn : n = l.length + m.length := by have := congrArg List.length h; simpa using this
 rw [hn, ← List.range'_append_1] at h
 have := List.append_inj h (by simp)
 exact ⟨this.1.symm, this.2.symm⟩
theorem range_ok {n : Nat} (ha : ahead K L R n) : ∀ i, i < n → ∀ a m, seg K L R i = List.range' a m → ∀ j ∈ seg K L R i, ok K L R j := by
 intro i
 induction i using Nat.strongRecOn with
 | _ i ih =>
  intro hn a m h
  obtain ⟨h1, h2⟩ := ha i hn
  have e := seg_eq ha hn
  rw [h, List.append_assoc] at e
  obtain ⟨e1, e2⟩ := range_split e
  obtain ⟨e3, e4⟩ := range_split e2.symm
  have e5 := e4
  simp only [List.length_singleton, List.range'_one, List.cons.injEq, and_true] at e5
  rw [seg_eq ha hn]
  intro j hj
  simp only [List.mem_append, List.mem_singleton] at hj
  by_cases hT : two (K i) = true
  ·have hI := two_inner hT
   have hl := h1 hI
   have hr := h2 hT
   rw [if_pos hI, if_pos hT] at hj
   rw [if_pos hI] at e1 e3 e5
   rw [if_pos hT] at e3 e5
   have sl : (seg K L R (L i)).length = sz K L R (L i) := rfl
   have sr : (seg K L R (R i)).length = sz K L R (R i) := rfl
   rcases hj with (hj | hj) | rfl
   ·exact ih (L i) hl (by omega) _ _ e1 j hj
   ·exact ih (R i) hr (by omega) _ _ e3 j hj
   ·obtain ⟨l, hl'⟩ := seg_last ha (show L j < n by omega)
    obtain ⟨m', hm'⟩ := seg_last ha (show R j < n by omega)
    have pl := sz_pos ha (show L j < n by omega)
    have pr := sz_pos ha (show R j < n by omega)
    rw [sl] at e1 e3 e5
    rw [sr] at e3 e5
    have f1 : L j + 1 = a + sz K L R (L j) := by
     rw [hl'] at e1
     rw [show sz K L R (L j) = (sz K L R (L j) - 1) + 1 from by omega, ← List.range'_append_1, List.range'_one] at e1
     have := (append_last e1).2
     omega
    have f2 : R j + 1 = a + sz K L R (L j) + sz K L R (R j) := by
     rw [hm'] at e3
     rw [show sz K L R (R j) = (sz K L R (R j) - 1) + 1 from by omega, ← List.range'_append_1, List.range'_one] at e3
     have := (append_last e3).2
     omega
    refine ⟨fun h10 => ?_, fun _ => ⟨by omega, by omega⟩⟩
    have := of_decide_eq_true hT
    omega
  ·by_cases hI : 2 < K i
   ·have hl := h1 hI
    rw [if_pos hI, if_neg hT] at hj
    rw [if_pos hI] at e1 e5
    rw [if_neg hT] at e5
    have sl : (seg K L R (L i)).length = sz K L R (L i) := rfl
    rcases hj with (hj | hj) | rfl
    ·exact ih (L i) hl (by omega) _ _ e1 j hj
    ·simp at hj
    ·obtain ⟨l, hl'⟩ := seg_last ha (show L j < n by omega)
     have pl := sz_pos ha (show L j < n by omega)
     rw [sl] at e1 e5
     have f1 : L j + 1 = a + sz K L R (L j) := by
      rw [hl'] at e1
      rw [show sz K L R (L j) = (sz K L R (L j) - 1) + 1 from by omega, ← List.range'_append_1, List.range'_one] at e1
      have := (append_last e1).2
      omega
     refine ⟨fun _ => ?_, fun h => absurd h hT⟩
     simp at e5
     omega
   ·rw [if_neg hI, if_neg hT] at hj
    rcases hj with (hj | hj) | rfl
    ·simp at hj
    ·simp at hj
    ·exact ⟨fun h => absurd (by omega : 2 < K j) hI, fun h => absurd h hT⟩
variable (K L R)
def walkF : Nat → Nat → List Int → List Int
 | 0, _, out => out
 | f + 1, i, out => if 16 < out.length then out else
   (if two (K i) = true then walkF f (R i) (if 2 < K i then walkF f (L i) out else out) else (if 2 < K i then walkF f (L i) out else out)) ++ [(i : Int)]
variable {K L R}
theorem walkF_short : ∀ f i out, (walkF K L R f i out).length ≤ 16 → i < f → (∀ n, i < n → ahead K L R n → walkF K L R f i out = out ++ (segF K L R f i).map Int.ofNat) := by
 intro f
 induction f with
 | zero => intro i out _ h; omega
 | succ f ih =>
  intro i out hlen hf n hn ha
  obtain ⟨h1, h2⟩ := ha i hn
  unfold walkF at hlen ⊢
  unfold segF
  by_cases h : 16 < out.length
  ·rw [if_pos h] at hlen; omega
  ·rw [if_neg h] at hlen ⊢
   by_cases hI : 2 < K i
   ·have hl := h1 hI
    simp only [if_pos hI] at hlen ⊢
    by_cases hT : two (K i) = true
    ·have hr := h2 hT
     simp only [if_pos hT, List.length_append, List.length_singleton] at hlen ⊢
     have e1 := ih (R i) (walkF K L R f (L i) out) (by omega) (by omega) n (by omega) ha
     have e2 := ih (L i) out (by rw [e1] at hlen; simp at hlen; omega) (by omega) n (by omega) ha
     rw [e1, e2]
     simp
    ·simp only [if_neg hT, List.length_append, List.length_singleton] at hlen ⊢
     have e2 := ih (L i) out (by omega) (by omega) n (by omega) ha
     rw [e2]
     simp
   ·have hT : ¬ two (K i) = true := fun e => hI (two_inner e)
    simp [hI, hT]
theorem walkF_fits : ∀ f i out, out.length + (segF K L R f i).length ≤ 16 → i < f → (∀ n, i < n → ahead K L R n → walkF K L R f i out = out ++ (segF K L R f i).map Int.ofNat) := by
 intro f
 induction f with
 | zero => intro i out _ h; omega
 | succ f ih =>
  intro i out hlen hf n hn ha
  obtain ⟨h1, h2⟩ := ha i hn
  unfold walkF
  unfold segF at hlen ⊢
  simp only [List.length_append, List.length_singleton] at hlen
  rw [if_neg (by omega)]
  by_cases hI : 2 < K i
  ·have hl := h1 hI
   simp only [if_pos hI] at hlen ⊢
   have e2 := ih (L i) out (by omega) (by omega) n (by omega) ha
   by_cases hT : two (K i) = true
   ·have hr := h2 hT
    simp only [if_pos hT] at hlen ⊢
    have e1 := ih (R i) (walkF K L R f (L i) out) (by rw [e2]; simp; omega) (by omega) n (by omega) ha
    rw [e1, e2]
    simp
   ·simp only [if_neg hT] at hlen ⊢
    rw [e2]
    simp
  ·have hT : ¬ two (K i) = true := fun e => hI (two_inner e)
   simp [hI, hT]
theorem walk_iff {n : Nat} (h0 : 0 < n) (h16 : n ≤ 16) (ha : ahead K L R n) (hk : ∀ i, i < n → K i ≤ 10) :
  walkF K L R n (n - 1) [] = (List.range n).map Int.ofNat ↔ (∀ j, j < n → ok K L R j) ∧ sz K L R (n - 1) = n := by
 have es : segF K L R n (n - 1) = seg K L R (n - 1) := by unfold seg; rw [show n - 1 + 1 = n from by omega]
 constructor
 ·intro h
  have e := walkF_short n (n - 1) [] (by rw [h]; simpa using h16) (by omega) n (by omega) ha
  rw [h, es, List.nil_append] at e
  have e' : List.range n = seg K L R (n - 1) := by
   have inj : ∀ (l m : List Nat), l.map Int.ofNat = m.map Int.ofNat → l = m := fun l m hlm => (List.map_inj_right (fun a b hab => Int.ofNat.inj hab)).1 hlm
   exact inj _ _ e
  have hr : seg K L R (n - 1) = List.range' 0 n := by rw [← e', List.range_eq_range']
  refine ⟨fun j hj => range_ok ha (n - 1) (by omega) 0 n hr j ?_, ?_⟩
  ·rw [← e']; exact List.mem_range.2 hj
  ·unfold sz; rw [← e']; simp
 ·rintro ⟨hok, hs⟩
  obtain ⟨_, e⟩ := seg_range ha (n - 1) (by omega) (fun j hj => ⟨hk j (by omega), hok j (by omega)⟩)
  rw [hs, show n - 1 + 1 - n = 0 from by omega] at e
  rw [walkF_fits n (n - 1) [] (by rw [es, e]; simpa using h16) (by omega) n (by omega) ha, es, e, List.range_eq_range']
  rfl
end
end Pl
end Go.Proofs.Ytmppibhdnajjjaa
namespace Go.Proofs.Ytmppibhdnajjjaa.V
set_option linter.unusedVariables false
set_option linter.unusedSimpArgs false
open Go.RowKit Go.Proofs.Ytmppibhdnajjjaa Go.Proofs.YtmppibhdnajjjaaW.PrintWords Go.Proofs.YtmppibhdnajjjaaW.PrintLast
theorem l3Two_eq (k : Int) : spec_l3Two.f k = some (Pl.two k) := by unfold spec_l3Two.f; rw [l1In_eq]; rfl
theorem isTwo_eq (k : Int) : impl_isTwo.f k = some (Pl.two k) := by unfold impl_isTwo.f; rw [inRange_eq]; rfl
def nodeC (K V L R i : Int) : Int :=
 if K = 1 ∨ K = 2 then (if L ≠ 0 ∨ R ≠ 0 then 1 else if 0 ≤ V ∧ V ≤ (if K = 2 then 3 else 9999) then 0 else 3)
 else if K = 10 then (if V ≠ 0 ∨ R ≠ 0 then 1 else if 0 ≤ L ∧ L ≤ i - 1 then 0 else 3)
 else if 3 ≤ K ∧ K ≤ 9 then (if V ≠ 0 then 1 else if (0 ≤ L ∧ L ≤ i - 1) ∧ (0 ≤ R ∧ R ≤ i - 1) then 0 else 3)
 else 1
theorem first2 (a b c d : Int) (p q : Prop) [Decidable p] [Decidable q] (hc : c ≠ 0) : Pl.firstC [if p then c else 0, if q then d else 0] = if p then c else if q then d else 0 := by
 by_cases hp : p
 ·simp [Pl.firstC, hp, hc]
 ·by_cases hq : q
  ·simp only [Pl.firstC, hp, hq, if_true, if_false]; split <;> simp_all
  ·simp [Pl.firstC, hp, hq]
theorem implNode_ev (K V L R i : Int) (h0 : 0 ≤ i) (h1 : i ≤ 100) : Ev (fun k => impl_nodeFault.f k K V L R i) (nodeC K V L R i) := by
 have ew : wrap64 (i - 1) = i - 1 := Pl.wrap_in (by omega) (by omega)
 have j1 : ∀ (m : Int) (b : Bool), Ev (fun k => impl_nodeFault.j1 k m b K V L R) (if L ≠ 0 ∨ R ≠ 0 then 1 else if 0 ≤ V ∧ V ≤ m then 0 else 3) := by
  intro m b
  refine Ev.step (fun k => by rw [impl_nodeFault.j1]) ?_
  simp only [codeIf_eq, inRange_eq, Option.bind_some, Pl.ev_ite]
  split
  ·rename_i hL
   refine Pl.ev_bind' (firstCode_ev _ (by simp)) (Pl.ev_some.2 ?_)
   by_cases hR : R = 0
   ·by_cases hV : 0 ≤ V ∧ V ≤ m <;> simp [Pl.firstC, hL, hR, hV]
   ·simp [Pl.firstC, hL, hR]
  ·rename_i hL
   refine Pl.ev_bind' (firstCode_ev _ (by simp)) (Pl.ev_some.2 ?_)
   simp [Pl.firstC, hL]
 have j0 : ∀ b : Bool, b = decide (K = 1 ∨ K = 2) → Ev (fun k => impl_nodeFault.j0 k i b K V L R) (nodeC K V L R i) := by
  intro b hb
  refine Ev.step (fun k => by rw [impl_nodeFault.j0]) ?_
  simp only [codeIf_eq, inRange_eq, isTwo_eq, Option.bind_some, Pl.ev_ite, ew]
  unfold nodeC
  by_cases h : K = 1 ∨ K = 2
  ·rw [if_pos (by rw [hb]; simpa using h), if_pos h]
   by_cases h2 : K = 2
   ·rw [if_pos h2]; simpa [h2] using j1 3 b
   ·rw [if_neg h2]; simpa [h2] using j1 9999 b
  ·rw [if_neg (by rw [hb]; simpa using h), if_neg h]
   by_cases hN : K = 10
   ·rw [if_pos hN, if_pos hN]
    by_cases hV : V = 0
    ·rw [if_pos hV]
     refine Pl.ev_bind' (firstCode_ev _ (by simp)) (Pl.ev_some.2 ?_)
     by_cases hR : R = 0
     ·by_cases hL : 0 ≤ L ∧ L ≤ i - 1 <;> simp [Pl.firstC, hV, hR, hL]
     ·simp [Pl.firstC, hV, hR]
    ·rw [if_neg hV]
     refine Pl.ev_bind' (firstCode_ev _ (by simp)) (Pl.ev_some.2 ?_)
     simp [Pl.firstC, hV]
   ·rw [if_neg hN, if_neg hN]
    by_cases hT : 3 ≤ K ∧ K ≤ 9
    ·have e : Pl.two K = true := decide_eq_true hT
     rw [if_pos e, if_pos hT]
     by_cases hL : 0 ≤ L ∧ L ≤ i - 1
     ·rw [if_pos (by simpa using hL)]
      refine Pl.ev_bind' (firstCode_ev _ (by simp)) (Pl.ev_some.2 ?_)
      by_cases hV : V = 0
      ·by_cases hR : 0 ≤ R ∧ R ≤ i - 1 <;> simp [Pl.firstC, hV, hR, hL]
      ·simp [Pl.firstC, hV]
     ·rw [if_neg (by simpa using hL)]
      refine Pl.ev_bind' (firstCode_ev _ (by simp)) (Pl.ev_some.2 ?_)
      by_cases hV : V = 0
      ·have hL' : ¬ ((0 ≤ L ∧ L ≤ i - 1) ∧ 0 ≤ R ∧ R ≤ i - 1) := fun h => hL h.1
       simp only [Pl.firstC, hV, ne_eq, not_true_eq_false, if_false, if_neg hL']
       simp
      ·simp [Pl.firstC, hV]
    ·have e : ¬ Pl.two K = true := fun h => hT (of_decide_eq_true h)
     rw [if_neg e, if_neg hT]
     exact Pl.ev_some.2 rfl
 unfold impl_nodeFault.f
 simp only [Pl.ev_ite]
 split
 ·rename_i h
  exact j0 _ (by simp [h])
 ·rename_i h
  exact j0 _ (by rw [Bool.eq_iff_iff]; simp [h])
theorem rd_one (x : S70) : rd_T70 [x] 0 = x := rfl
theorem specNode_ev (x : S70) (i : Int) (h0 : 0 ≤ i) (h1 : i ≤ 100) : Ev (fun k => spec_l3Node.f k x i) (nodeC x.f0 x.f1 x.f2 x.f3 i) := by
 obtain ⟨K, V, L, R⟩ := x
 have ew : wrap64 (i - 1) = i - 1 := Pl.wrap_in (by omega) (by omega)
 have j1 : ∀ b : Bool, 1 ≤ K → K ≤ 10 → Ev (fun k => spec_l3Node.j1 k ⟨K, V, L, R⟩ i (decide (K ≤ 2)) b) (if b = true then 3 else if K ≤ 2 then 0 else if 0 ≤ L ∧ L ≤ i - 1 then (if 3 ≤ K ∧ K ≤ 9 then (if 0 ≤ R ∧ R ≤ i - 1 then 0 else 3) else 0) else 3) := by
  intro b hK1 hK2
  refine Ev.step (fun k => by rw [spec_l3Node.j1]) ?_
  simp only [l1In_eq, l3Two_eq, Option.bind_some, Pl.ev_ite, ew, rd_one, Pl.two, decide_eq_true_eq, Pl.ev_some]
  cases b
  ·by_cases h2 : K ≤ 2
   ·have : ¬ (3 ≤ K ∧ K ≤ 9) := by omega
    simp [h2, this]
   ·by_cases hL : 0 ≤ L ∧ L ≤ i - 1 <;> by_cases hT : 3 ≤ K ∧ K ≤ 9 <;> by_cases hR : 0 ≤ R ∧ R ≤ i - 1 <;> simp [h2, hL, hT, hR]
  ·simp
 have j0 : ∀ b : Bool, 1 ≤ K → K ≤ 10 → b = decide (K ≤ 2 ∧ (L ≠ 0 ∨ R ≠ 0) ∨ ¬ K ≤ 2 ∧ V ≠ 0 ∨ K = 10 ∧ R ≠ 0) → Ev (fun k => spec_l3Node.j0 k ⟨K, V, L, R⟩ i (decide (K ≤ 2)) b) (nodeC K V L R i) := by
  intro b hK1 hK2 hb
  refine Ev.step (fun k => by rw [spec_l3Node.j0]) ?_
  simp only [l1In_eq, Option.bind_some, Pl.ev_ite, rd_one]
  by_cases hB : K ≤ 2 ∧ (L ≠ 0 ∨ R ≠ 0) ∨ ¬ K ≤ 2 ∧ V ≠ 0 ∨ K = 10 ∧ R ≠ 0
  ·rw [if_pos (by rw [hb]; simpa using hB)]
   refine Pl.ev_some.2 ?_
   unfold nodeC
   rcases hB with ⟨a, b⟩ | ⟨a, b⟩ | ⟨a, b⟩
   ·rw [if_pos (by omega), if_pos b]
   ·rw [if_neg (by omega)]
    by_cases h10 : K = 10
    ·rw [if_pos h10, if_pos (.inl b)]
    ·rw [if_neg h10, if_pos (by omega), if_pos b]
   ·rw [if_neg (by omega), if_pos a, if_pos (.inr b)]
  ·rw [if_neg (by rw [hb]; simpa using hB)]
   have h1 := fun b => j1 b hK1 hK2
   by_cases e1 : K = 1
   ·rw [if_pos e1]
    by_cases e2 : 0 ≤ V ∧ V ≤ 9999
    ·rw [if_pos (by simpa using e2), if_neg (by omega)]
     exact Pl.ev_to (h1 false) (by unfold nodeC; repeat' split <;> first | rfl | omega | simp_all)
    ·rw [if_neg (by simpa using e2)]
     exact Pl.ev_to (h1 true) (by unfold nodeC; repeat' split <;> first | rfl | omega | simp_all)
   ·rw [if_neg e1]
    by_cases e3 : K = 2
    ·rw [if_pos e3]
     by_cases e2 : 0 ≤ V ∧ V ≤ 3
     ·exact Pl.ev_to (h1 (!decide (0 ≤ V ∧ V ≤ 3))) (by unfold nodeC; simp only [e2, e3]; repeat' split <;> first | rfl | omega | simp_all)
     ·exact Pl.ev_to (h1 (!decide (0 ≤ V ∧ V ≤ 3))) (by unfold nodeC; simp only [e2, e3]; repeat' split <;> first | rfl | omega | simp_all)
    ·rw [if_neg e3]
     exact Pl.ev_to (h1 false) (by unfold nodeC; repeat' split <;> first | rfl | omega | simp_all)
 have jj : ∀ b : Bool, 1 ≤ K → K ≤ 10 → b = decide (K ≤ 2 ∧ (L ≠ 0 ∨ R ≠ 0) ∨ ¬ K ≤ 2 ∧ V ≠ 0 ∨ K = 10 ∧ R ≠ 0) → Ev (fun k => spec_l3Node.j0 k ⟨K, V, L, R⟩ i (decide (K ≤ 2)) b) (nodeC K V L R i) := j0
 unfold spec_l3Node.f
 rw [rd_one]
 simp only [l1In_eq, Option.bind_some, Pl.ev_ite]
 by_cases hK : 1 ≤ K ∧ K ≤ 10
 ·rw [if_pos (by simpa using hK)]
  obtain ⟨hK1, hK2⟩ := hK
  have fin : ∀ b : Bool, (b = true ↔ (K ≤ 2 ∧ (L ≠ 0 ∨ R ≠ 0) ∨ ¬ K ≤ 2 ∧ V ≠ 0 ∨ K = 10 ∧ R ≠ 0)) → Ev (fun k => spec_l3Node.j0 k ⟨K, V, L, R⟩ i (decide (K ≤ 2)) b) (nodeC K V L R i) := fun b h => jj b hK1 hK2 (by rw [Bool.eq_iff_iff, decide_eq_true_eq]; exact h)
  repeat' split
  all_goals (refine fin _ ?_; first | (simp; omega) | (simp only [bne_iff_ne]; omega) | omega)
 ·rw [if_neg (by simpa using hK)]
  refine Pl.ev_some.2 ?_
  unfold nodeC
  repeat' split <;> first | rfl | omega
abbrev Nd := S70
def kK (e : List Nd) (i : Nat) : Int := (e.getD i z70).f0
def kL (e : List Nd) (i : Nat) : Nat := (e.getD i z70).f2.toNat
def kR (e : List Nd) (i : Nat) : Nat := (e.getD i z70).f3.toNat
theorem kK_at (e : List Nd) (i : Nat) (h : i < e.length) : kK e i = e[i].f0 := by unfold kK; rw [List.getD_eq_getElem?_getD, List.getElem?_eq_getElem h]; rfl
theorem kL_at (e : List Nd) (i : Nat) (h : i < e.length) : kL e i = e[i].f2.toNat := by unfold kL; rw [List.getD_eq_getElem?_getD, List.getElem?_eq_getElem h]; rfl
theorem kR_at (e : List Nd) (i : Nat) (h : i < e.length) : kR e i = e[i].f3.toNat := by unfold kR; rw [List.getD_eq_getElem?_getD, List.getElem?_eq_getElem h]; rfl
def ndC (x : Nd) (i : Nat) : Int := nodeC x.f0 x.f1 x.f2 x.f3 (i : Int)
def nodesC : Nat → List Nd → Int
 | _, [] => 0
 | i, x :: l => if ndC x i = 0 then nodesC (i + 1) l else ndC x i
def fineN (e : List Nd) : Prop := ∀ i (h : i < e.length), ndC e[i] i = 0
theorem nodeC_0 {K V L R i : Int} (h : nodeC K V L R i = 0) : (1 ≤ K ∧ K ≤ 10) ∧ (2 < K → 0 ≤ L ∧ L ≤ i - 1) ∧ (3 ≤ K ∧ K ≤ 9 → 0 ≤ R ∧ R ≤ i - 1) ∧ (K = 2 → 0 ≤ V ∧ V ≤ 3) ∧ (K = 1 → 0 ≤ V ∧ V ≤ 9999) := by
 unfold nodeC at h
 repeat' split at h
 all_goals first | omega | (simp at h)
theorem fineN_ahead {e : List Nd} (h : fineN e) : Pl.ahead (kK e) (kL e) (kR e) e.length := by
 intro i hi
 have h0 := nodeC_0 (h i hi)
 rw [kK_at e i hi, kL_at e i hi, kR_at e i hi]
 refine ⟨fun hK => ?_, fun hT => ?_⟩
 ·have := h0.2.1 hK; omega
 ·have := h0.2.2.1 (of_decide_eq_true hT); omega
theorem fineN_le {e : List Nd} (h : fineN e) : ∀ i, i < e.length → kK e i ≤ 10 := by
 intro i hi
 have h0 := nodeC_0 (h i hi)
 rw [kK_at e i hi]
 omega
theorem nodesC_0 : ∀ (l : List Nd) (i : Nat), nodesC i l = 0 ↔ ∀ j (h : j < l.length), ndC l[j] (i + j) = 0
 | [], i => by simp [nodesC]
 | x :: l, i => by
  unfold nodesC
  by_cases hx : ndC x i = 0
  ·rw [if_pos hx, nodesC_0 l (i + 1)]
   constructor
   ·intro h j hj
    cases j with
    | zero => simpa using hx
    | succ j => have := h j (by simpa using hj); simpa [Nat.add_assoc, Nat.add_comm 1 j] using this
   ·intro h j hj
    have := h (j + 1) (by simpa using hj)
    simpa [Nat.add_assoc, Nat.add_comm 1 j] using this
  ·rw [if_neg hx]
   constructor
   ·intro h; exact absurd h hx
   ·intro h; exact absurd (show ndC x i = 0 from h 0 (by simp)) hx
theorem nodesC_fine (e : List Nd) : nodesC 0 e = 0 ↔ fineN e := by
 rw [nodesC_0]
 simp [fineN]
open Classical in
noncomputable def shapeC (e : List Nd) : Int := if (∀ j, j < e.length → Pl.ok (kK e) (kL e) (kR e) j) ∧ Pl.sz (kK e) (kL e) (kR e) (e.length - 1) = e.length then 0 else 1
noncomputable def exprC (e : List Nd) : Int := if 1 ≤ e.length ∧ e.length ≤ 16 then (if nodesC 0 e = 0 then shapeC e else nodesC 0 e) else 2
theorem walkF_len (K : Nat → Int) (L R : Nat → Nat) : ∀ f i out, (Pl.walkF K L R f i out).length ≤ max out.length (17 + f)
 | 0, i, out => by unfold Pl.walkF; omega
 | f + 1, i, out => by
  unfold Pl.walkF
  by_cases h : 16 < out.length
  ·rw [if_pos h]; omega
  ·rw [if_neg h, List.length_append, List.length_singleton]
   have a : (if 2 < K i then Pl.walkF K L R f (L i) out else out).length ≤ 17 + f := by
    split
    ·have := walkF_len K L R f (L i) out; omega
    ·omega
   have b : (if Pl.two (K i) = true then Pl.walkF K L R f (R i) (if 2 < K i then Pl.walkF K L R f (L i) out else out) else (if 2 < K i then Pl.walkF K L R f (L i) out else out)).length ≤ 17 + f := by
    split
    ·have := walkF_len K L R f (R i) (if 2 < K i then Pl.walkF K L R f (L i) out else out); omega
    ·exact a
   omega
theorem specWalk_ev (e : List Nd) (hl : e.length ≤ 16) (hf : fineN e) : ∀ f i out, i < f → f ≤ 16 → i < e.length → out.length ≤ 50 → Ev (fun k => spec_l3Walk.f k e (i : Int) out) (Pl.walkF (kK e) (kL e) (kR e) f i out) := by
 intro f
 induction f with
 | zero => intro i out h; omega
 | succ f ih =>
  intro i out hif hf16 hi hout
  have h0 := nodeC_0 (hf i hi)
  obtain ⟨a1, a2⟩ := fineN_ahead hf i hi
  unfold Pl.walkF
  refine Ev.step (fun k => by rw [spec_l3Walk.f]) ?_
  simp only [Pl.ev_ite, Pl.ev_none, Pl.ev_some, rd_iNode e i hi, ← kK_at e i hi]
  by_cases h16 : 16 < out.length
  ·rw [if_pos (by omega), if_pos h16]
  ·rw [if_neg (by omega), if_neg h16, if_pos (by omega), if_pos (by omega)]
   have tail : ∀ o1 : List Int, o1.length ≤ 50 → Ev (fun k => spec_l3Walk.j0 k e (i : Int) o1) ((if Pl.two (kK e i) = true then Pl.walkF (kK e) (kL e) (kR e) f (kR e i) o1 else o1) ++ [(i : Int)]) := by
    intro o1 ho1
    refine Ev.step (fun k => by rw [spec_l3Walk.j0]) ?_
    simp only [Pl.ev_ite, Pl.ev_none, Pl.ev_some, rd_iNode e i hi, ← kK_at e i hi, l3Two_eq, Option.bind_some]
    rw [if_pos (by omega), if_pos (by omega)]
    by_cases hT : Pl.two (kK e i) = true
    ·rw [if_pos hT, if_pos hT]
     have hr := a2 hT
     have er : e[i].f3 = ((kR e i : Nat) : Int) := by
      rw [kR_at e i hi]; rw [kK_at e i hi] at hT; have := h0.2.2.1 (of_decide_eq_true hT); omega
     rw [er]
     refine Pl.ev_bind' (ih (kR e i) o1 (by omega) (by omega) (by omega) ho1) ?_
     have := walkF_len (kK e) (kL e) (kR e) f (kR e i) o1
     rw [if_pos (by omega)]
     exact Ev.now _
    ·rw [if_neg hT, if_neg hT, if_pos (by omega)]
   by_cases hI : 2 < kK e i
   ·have hL := a1 hI
    have el : e[i].f2 = ((kL e i : Nat) : Int) := by
     rw [kL_at e i hi]; rw [kK_at e i hi] at hI; have := h0.2.1 hI; omega
    simp only [gt_iff_lt, hI, if_true, el]
    refine Pl.ev_bind' (ih (kL e i) out (by omega) (by omega) (by omega) hout) ?_
    have := walkF_len (kK e) (kL e) (kR e) f (kL e i) out
    exact tail _ (by omega)
   ·simp only [gt_iff_lt, hI, if_false]
    exact tail _ hout
theorem specShape_ev (e : List Nd) (h1 : 1 ≤ e.length) (hl : e.length ≤ 16) (hf : fineN e) : Ev (fun k => (spec_l3Walk.f k e (wrap64 ((e.length : Int) - 1)) ([] : List Int)).bind fun t => (if (t.length : Int) = (e.length : Int) then (spec_l3Fault.l1 k t 0) else (some 1))) (shapeC e) := by
 have ew : wrap64 ((e.length : Int) - 1) = ((e.length - 1 : Nat) : Int) := by rw [Pl.wrap_in (by omega) (by omega)]; omega
 rw [ew]
 have hw := specWalk_ev e hl hf e.length (e.length - 1) [] (by omega) hl (by omega) (by simp)
 refine Pl.ev_bind' hw ?_
 have hi := Pl.walk_iff h1 hl (fineN_ahead hf) (fineN_le hf)
 generalize Pl.walkF (kK e) (kL e) (kR e) e.length (e.length - 1) [] = W at hi ⊢
 have fin : ∀ m : Nat, W.length = e.length → m ≤ W.length → (∀ j (hj : j < W.length), j < m → W[j] = (j : Int)) → Ev (fun k => spec_l3Fault.l1 k W (m : Int)) (shapeC e) := by
  intro m hWl
  obtain ⟨d, hd⟩ : ∃ d, W.length - m = d := ⟨_, rfl⟩
  induction d generalizing m with
  | zero =>
   intro hm hall
   obtain rfl : m = W.length := by omega
   refine Ev.step (fun k => by rw [spec_l3Fault.l1]) ?_
   simp only [Pl.ev_ite, Pl.ev_some]
   rw [if_neg (by omega)]
   unfold shapeC
   rw [if_pos (hi.1 ?_)]
   apply List.ext_getElem
   ·simp [hWl]
   ·intro j h1 h2; simp [hall j h1 h1]
  | succ d ih =>
   intro hm hall
   have hm' : m < W.length := by omega
   refine Ev.step (fun k => by rw [spec_l3Fault.l1]) ?_
   simp only [Pl.ev_ite, Pl.ev_some, Pl.ev_none, Pl.rd_get W m hm', Pl.wrap_nat (show m < 9223372036854775807 by omega)]
   rw [if_pos (by omega), if_pos (by omega)]
   by_cases he : W[m] = (m : Int)
   ·rw [if_pos he]
    have := ih (m + 1) (by omega) (by omega) (fun j hj hjm => by
     by_cases hjm' : j = m
     ·subst hjm'; exact he
     ·exact hall j hj (by omega))
    simpa using this
   ·rw [if_neg he]
    unfold shapeC
    rw [if_neg (fun hc => he ?_)]
    have e' := hi.2 hc
    subst e'
    simp
 simp only [Pl.ev_ite]
 by_cases hWl : W.length = e.length
 ·rw [if_pos (by omega)]
  exact fin 0 hWl (Nat.zero_le _) (fun j _ h => by omega)
 ·rw [if_neg (by omega)]
  refine Pl.ev_some.2 ?_
  unfold shapeC
  rw [if_neg (fun hc => hWl ?_)]
  rw [hi.2 hc]
  simp
theorem spec3Fault_ev (e : List Nd) (hl0 : e.length ≤ 1048576) : Ev (fun k => spec_l3Fault.f k e) (exprC e) := by
 have j0 : ∀ b : Bool, (b = true ↔ ¬ (1 ≤ e.length ∧ e.length ≤ 16)) → Ev (fun k => spec_l3Fault.j0 k e b) (exprC e) := by
  intro b hb
  refine Ev.step (fun k => by rw [spec_l3Fault.j0]) ?_
  simp only [Pl.ev_ite, Pl.ev_some]
  unfold exprC
  by_cases h : 1 ≤ e.length ∧ e.length ≤ 16
  ·rw [if_neg (fun x => (hb.1 x) h), if_pos h]
   have := Pl.loop (σ := Unit) (n := e.length) (g := fun k i _ => spec_l3Fault.l0 k e i) (F := fun i _ => if nodesC i (e.drop i) = 0 then shapeC e else nodesC i (e.drop i)) (fun i _ => ∀ j (hj : j < e.length), j < i → ndC e[j] j = 0) (fun _ hI => ?_) (fun i _ hi hI ih => ?_) 0 () (Nat.zero_le _) (fun j _ h => by omega)
   ·simpa using this
   ·refine Ev.step (fun k => by rw [spec_l3Fault.l0]) ?_
    simp only [Pl.ev_ite]
    rw [if_neg (by omega), List.drop_length]
    simp only [nodesC, if_true]
    exact specShape_ev e h.1 h.2 (fun i hi => hI i hi hi)
   ·refine Ev.step (fun k => by rw [spec_l3Fault.l0]) ?_
    simp only [Pl.ev_ite, Pl.ev_none, rd_iNode e i hi, Pl.wrap_nat (show i < 9223372036854775807 by omega)]
    rw [if_pos (by omega), if_pos (by omega)]
    refine Pl.ev_bind' (specNode_ev e[i] (i : Int) (by omega) (by omega)) ?_
    rw [Pl.drop_get hi]
    unfold nodesC
    simp only [Pl.ev_ite]
    have en : ndC e[i] i = nodeC e[i].f0 e[i].f1 e[i].f2 e[i].f3 (i : Int) := rfl
    rw [← en]
    by_cases hn : ndC e[i] i = 0
    ·simp only [hn, if_true]
     exact ih () (fun j hj hji => by
      by_cases hji' : j = i
      ·subst hji'; exact hn
      ·exact hI j hj (by omega))
    ·simp only [if_neg hn]
     exact Ev.now _
  ·rw [if_pos (hb.2 h), if_neg h]
 unfold spec_l3Fault.f
 simp only [Pl.ev_ite]
 split
 ·rename_i h; exact j0 _ (by simp; omega)
 ·rename_i h; exact j0 _ (by simp; omega)
def sizesC (e : List Nd) (i : Nat) : List Int := (List.range i).map fun j => ((Pl.sz (kK e) (kL e) (kR e) j : Nat) : Int)
theorem sizesC_len (e : List Nd) (i : Nat) : (sizesC e i).length = i := by simp [sizesC]
theorem sizesC_rd (e : List Nd) (i j : Nat) (h : j < i) : rd (sizesC e i) (j : Int) = ((Pl.sz (kK e) (kL e) (kR e) j : Nat) : Int) := by
 rw [Pl.rd_get _ j (by rw [sizesC_len]; exact h)]
 simp [sizesC]
theorem sizesC_succ (e : List Nd) (i : Nat) : sizesC e i ++ [((Pl.sz (kK e) (kL e) (kR e) i : Nat) : Int)] = sizesC e (i + 1) := by simp [sizesC, List.range_succ]
def badC (e : List Nd) (i : Nat) : Prop := ∃ j, j < i ∧ ¬ Pl.ok (kK e) (kL e) (kR e) j
theorem badC_succ (e : List Nd) (i : Nat) : badC e (i + 1) ↔ badC e i ∨ ¬ Pl.ok (kK e) (kL e) (kR e) i := by
 constructor
 ·rintro ⟨j, h, hj⟩
  by_cases hji : j = i
  ·subst hji; exact .inr hj
  ·exact .inl ⟨j, by omega, hj⟩
 ·rintro (⟨j, h, hj⟩ | hj)
  ·exact ⟨j, by omega, hj⟩
  ·exact ⟨i, by omega, hj⟩
theorem implShape_ev (e : List Nd) (h1 : 1 ≤ e.length) (hl : e.length ≤ 16) (hf : fineN e) : Ev (fun k => impl_ExprFault.l1 k e ([] : List Int) false e (e.length : Int) 0) (shapeC e) := by
 have ha := fineN_ahead hf
 have hsz : ∀ j, j < e.length → Pl.sz (kK e) (kL e) (kR e) j ≤ 131072 := fun j hj => by
  have h1 := Pl.sz_le ha j hj
  have h2 : 2 ^ (j + 1) ≤ 2 ^ 16 := Nat.pow_le_pow_right (by omega) (by omega)
  omega
 have main := Pl.loop (σ := List Int × Bool) (n := e.length) (g := fun k i s => impl_ExprFault.l1 k e s.1 s.2 e (e.length : Int) i) (F := fun _ _ => shapeC e)
  (fun i s => s.1 = sizesC e i ∧ (s.2 = true ↔ badC e i)) ?_ ?_ 0 ([], false) (Nat.zero_le _) ⟨rfl, by simp [badC]⟩
 ·simpa using main
 ·rintro ⟨S, w⟩ ⟨hS, hw⟩
  simp only at hS hw
  subst hS
  have ew : wrap64 ((e.length : Int) - 1) = ((e.length - 1 : Nat) : Int) := by rw [Pl.wrap_in (by omega) (by omega)]; omega
  refine Ev.step (fun k => by rw [impl_ExprFault.l1]) ?_
  simp only [Pl.ev_ite, Pl.ev_none, codeIf_eq, Option.bind_some, ew, sizesC_len, sizesC_rd e e.length (e.length - 1) (by omega)]
  rw [if_neg (by omega)]
  by_cases hb : badC e e.length
  ·rw [if_pos (hw.2 hb)]
   refine Pl.ev_some.2 ?_
   have e1 : shapeC e = 1 := by
    unfold shapeC
    exact if_neg (fun h => by obtain ⟨j, hj, hj'⟩ := hb; exact hj' (h.1 j hj))
   rw [e1]; rfl
  ·rw [if_neg (fun h => hb (hw.1 h)), if_pos (by omega), if_pos (by omega)]
   refine Pl.ev_some.2 ?_
   have hall : ∀ j, j < e.length → Pl.ok (kK e) (kL e) (kR e) j := fun j hj => Classical.byContradiction fun h => hb ⟨j, hj, h⟩
   by_cases hs : Pl.sz (kK e) (kL e) (kR e) (e.length - 1) = e.length
   ·have e1 : shapeC e = 0 := by
     unfold shapeC
     exact if_pos ⟨hall, hs⟩
    rw [e1, hs]; simp
   ·have e1 : shapeC e = 1 := by
     unfold shapeC
     exact if_neg (fun h => hs h.2)
    have : ((Pl.sz (kK e) (kL e) (kR e) (e.length - 1) : Nat) : Int) ≠ (e.length : Int) := by omega
    rw [e1]; simp [this]
 ·rintro i ⟨S, w⟩ hi ⟨hS, hw⟩ ih
  simp only at hS hw
  subst hS
  have h0 := nodeC_0 (hf i hi)
  obtain ⟨a1, a2⟩ := ha i hi
  have es := Pl.sz_eq ha hi
  have next : ∀ (v : Int) (w' : Bool), v = ((Pl.sz (kK e) (kL e) (kR e) i : Nat) : Int) → (w' = true ↔ badC e (i + 1)) → Ev (fun k => impl_ExprFault.l1 k e (sizesC e i ++ [v]) w' e (e.length : Int) ((i : Int) + 1)) (shapeC e) := by
   intro v w' hv hw'
   have := ih (sizesC e i ++ [v], w') ⟨by rw [hv]; exact sizesC_succ e i, hw'⟩
   simpa using this
  have eK := kK_at e i hi
  have eL : 2 < kK e i → e[i].f2 = ((kL e i : Nat) : Int) := fun h => by
   rw [kL_at e i hi]; rw [eK] at h; have := h0.2.1 h; omega
  have eR : Pl.two (kK e i) = true → e[i].f3 = ((kR e i : Nat) : Int) := fun h => by
   rw [kR_at e i hi]; rw [eK] at h; have := h0.2.2.1 (of_decide_eq_true h); omega
  have ew : wrap64 ((i : Int) - 1) = (i : Int) - 1 := Pl.wrap_in (by omega) (by omega)
  refine Ev.step (fun k => by rw [impl_ExprFault.l1]) ?_
  simp only [Pl.ev_ite, Pl.ev_none, rd_iNode e i hi, ← eK, isTwo_eq, Option.bind_some, sizesC_len, ew, Pl.wrap_nat (show i < 9223372036854775807 by omega)]
  rw [if_pos (by omega), if_pos (by omega), if_pos (by omega)]
  have lim : (i : Nat) < 17592186044416 := by omega
  simp only [lim, if_true]
  by_cases hN : kK e i = 10
  ·have hT : ¬ Pl.two (kK e i) = true := fun h => by have := of_decide_eq_true h; omega
   have hI : 2 < kK e i := by omega
   have hL := a1 hI
   have := hsz (kL e i) (by omega)
   rw [if_pos hN, eL hI]
   rw [if_pos hI, if_neg hT] at es
   have r1 := sizesC_rd e i (kL e i) hL
   rw [r1, Pl.wrap_in (by omega) (by omega)]
   have ok_iff : Pl.ok (kK e) (kL e) (kR e) i ↔ kL e i + 1 = i := by
    unfold Pl.ok
    exact ⟨fun h => h.1 hN, fun h => ⟨fun _ => h, fun h' => absurd h' hT⟩⟩
   by_cases hwt : w = true
   ·rw [if_pos hwt, if_pos (by omega), if_pos (by omega)]
    exact next _ _ (by omega) (by rw [badC_succ]; simp [hw.1 hwt])
   ·rw [if_neg hwt, if_pos (by omega), if_pos (by omega)]
    refine next _ _ (by omega) ?_
    have hb : ¬ badC e i := fun h => hwt (hw.2 h)
    rw [badC_succ, ok_iff, bne_iff_ne]
    simp only [hb, false_or]
    omega
  ·rw [if_neg hN]
   by_cases hT : Pl.two (kK e i) = true
   ·have hI := Pl.two_inner hT
    have hL := a1 hI
    have hR := a2 hT
    have := hsz (kL e i) (by omega)
    have := hsz (kR e i) (by omega)
    rw [if_pos hT, eL hI, eR hT]
    rw [if_pos hI, if_pos hT] at es
    have r1 := sizesC_rd e i (kL e i) hL
    have r2 := sizesC_rd e i (kR e i) hR
    rw [r1, r2, Pl.wrap_in (x := ((Pl.sz (kK e) (kL e) (kR e) (kL e i) : Nat) : Int) + ((Pl.sz (kK e) (kL e) (kR e) (kR e i) : Nat) : Int)) (by omega) (by omega), Pl.wrap_in (x := 1 + (((Pl.sz (kK e) (kL e) (kR e) (kL e i) : Nat) : Int) + ((Pl.sz (kK e) (kL e) (kR e) (kR e i) : Nat) : Int))) (by omega) (by omega), Pl.wrap_in (x := (i : Int) - 1 - ((Pl.sz (kK e) (kL e) (kR e) (kR e i) : Nat) : Int)) (by omega) (by omega)]
    have ok_iff : Pl.ok (kK e) (kL e) (kR e) i ↔ kR e i + 1 = i ∧ kL e i + 1 + Pl.sz (kK e) (kL e) (kR e) (kR e i) = i := by
     unfold Pl.ok
     exact ⟨fun h => h.2 hT, fun h => ⟨fun h' => absurd h' hN, fun _ => h⟩⟩
    by_cases hwt : w = true
    ·rw [if_pos hwt, if_pos (by omega), if_pos (by omega), if_pos (by omega), if_pos (by omega)]
     exact next _ _ (by omega) (by rw [badC_succ]; simp [hw.1 hwt])
    ·have hb : ¬ badC e i := fun h => hwt (hw.2 h)
     rw [if_neg hwt]
     by_cases hRi : ((kR e i : Nat) : Int) = (i : Int) - 1
     ·rw [if_pos hRi, if_pos (by omega), if_pos (by omega), if_pos (by omega), if_pos (by omega)]
      refine next _ _ (by omega) ?_
      rw [badC_succ, ok_iff, bne_iff_ne]
      simp only [hb, false_or]
      omega
     ·rw [if_neg hRi, if_pos (by omega), if_pos (by omega), if_pos (by omega), if_pos (by omega)]
      refine next _ _ (by omega) ?_
      rw [badC_succ, ok_iff]
      simp only [hb, false_or, true_iff]
      omega
   ·rw [if_neg hT]
    have hI : ¬ 2 < kK e i := fun h => by
     have := fineN_le hf i hi
     exact hT (decide_eq_true (by omega))
    rw [if_neg hI, if_neg hT] at es
    refine next _ _ (by omega) ?_
    rw [badC_succ, hw]
    have : Pl.ok (kK e) (kL e) (kR e) i := ⟨fun h => absurd h hN, fun h => absurd h hT⟩
    simp [this]
theorem implExpr_ev (e : List Nd) : Ev (fun k => impl_ExprFault.f k e) (exprC e) := by
 unfold impl_ExprFault.f
 simp only [inRange_eq, Option.bind_some, Pl.ev_ite, Pl.ev_some, decide_eq_true_eq]
 unfold exprC
 by_cases h : 1 ≤ e.length ∧ e.length ≤ 16
 ·rw [if_pos (by omega), if_pos h]
  have := Pl.loop (σ := Unit) (n := e.length) (g := fun k i _ => impl_ExprFault.l0 k e e (e.length : Int) i) (F := fun i _ => if nodesC i (e.drop i) = 0 then shapeC e else nodesC i (e.drop i)) (fun i _ => ∀ j (hj : j < e.length), j < i → ndC e[j] j = 0) (fun _ hI => ?_) (fun i _ hi hI ih => ?_) 0 () (Nat.zero_le _) (fun j _ h => by omega)
  ·simpa using this
  ·refine Ev.step (fun k => by rw [impl_ExprFault.l0]) ?_
   simp only [Pl.ev_ite]
   rw [if_neg (by omega), List.drop_length]
   simp only [nodesC, if_true]
   exact implShape_ev e h.1 h.2 (fun i hi => hI i hi hi)
  ·refine Ev.step (fun k => by rw [impl_ExprFault.l0]) ?_
   simp only [Pl.ev_ite, Pl.ev_none, rd_iNode e i hi, Pl.wrap_nat (show i < 9223372036854775807 by omega)]
   rw [if_pos (by omega), if_pos (by omega), if_pos (by omega)]
   refine Pl.ev_bind' (implNode_ev e[i].f0 e[i].f1 e[i].f2 e[i].f3 (i : Int) (by omega) (by omega)) ?_
   rw [Pl.drop_get hi]
   unfold nodesC
   simp only [Pl.ev_ite]
   have en : ndC e[i] i = nodeC e[i].f0 e[i].f1 e[i].f2 e[i].f3 (i : Int) := rfl
   rw [← en]
   by_cases hn : ndC e[i] i = 0
   ·simp only [hn, if_true]
    exact ih () (fun j hj hji => by
     by_cases hji' : j = i
     ·subst hji'; exact hn
     ·exact hI j hj (by omega))
   ·simp only [if_neg hn]
    exact Ev.now _
 ·rw [if_neg (by omega), if_neg h]
def fine (x : Int) : Bool := decide (-1000000 ≤ x ∧ x ≤ 1000000)
theorem in_spec (x : Int) : spec_l1In.f x (-1000000) 1000000 = some (fine x) := by
 unfold spec_l1In.f fine
 by_cases h : x ≥ -1000000
 ·rw [if_pos h]; congr 1; rw [decide_eq_decide]; omega
 ·rw [if_neg h]; congr 1; rw [eq_comm, decide_eq_false_iff_not]; omega
theorem in_impl (x : Int) : impl_VarsFault_1.f x = some (!fine x) := by
 unfold impl_VarsFault_1.f impl_inRange.f fine
 by_cases h : -1000000 ≤ x
 ·rw [if_pos h]; simp [h]
 ·rw [if_neg h]; simp [h]
theorem specVars_ev (l : List Int) (hl : l.length ≤ 1048576) : Ev (fun k => spec_VarsFault.f k l) (if l.length = 4 then (bif l.all fine then 0 else 3) else 2) := by
 unfold spec_VarsFault.f
 simp only [Pl.ev_ite]
 by_cases h : l.length = 4
 ·rw [if_pos (by omega), if_pos h]
  have := Pl.loop0 (n := l.length) (g := fun k i => spec_VarsFault.l0 k l i) (F := fun i => bif (l.drop i).all fine then 0 else 3) ?_ (fun i hi ih => ?_) 0 (Nat.zero_le _)
  ·simpa using this
  ·refine Ev.step (fun k => by rw [spec_VarsFault.l0]) ?_
   simp [Pl.ev_some]
  ·refine Ev.step (fun k => by rw [spec_VarsFault.l0]) ?_
   simp only [Pl.ev_ite, Pl.ev_none, Pl.rd_get l i hi, in_spec, Option.bind_some, Pl.drop_get hi, List.all_cons, Pl.wrap_nat (show i < 9223372036854775807 by omega)]
   rw [if_pos (by omega), if_pos (by omega)]
   cases h2 : fine l[i]
   ·exact Ev.now _
   ·simpa [h2] using ih
 ·rw [if_neg (by omega), if_neg h]
  exact Ev.now _
theorem contains_ev (l : List Int) (hl : l.length ≤ 1048576) : Ev (fun k => slices_ContainsFunc_int64_int64__impl_VarsFault_1.f k l) (!l.all fine) := by
 unfold slices_ContainsFunc_int64_int64__impl_VarsFault_1.f slices_IndexFunc_int64_int64__impl_VarsFault_1.f
 have := Pl.loop0 (n := l.length) (g := fun k i => (slices_IndexFunc_int64_int64__impl_VarsFault_1.l0 k l (l.length : Int) i).bind fun t => some (decide (t ≥ 0))) (F := fun i => !(l.drop i).all fine) ?_ (fun i hi ih => ?_) 0 (Nat.zero_le _)
 ·simpa using this
 ·refine Pl.ev_bind' (a := -1) (Ev.step (fun k => by rw [slices_IndexFunc_int64_int64__impl_VarsFault_1.l0]) ?_) (Pl.ev_some.2 ?_)
  ·simp [Pl.ev_some]
  ·simp
 ·refine Ev.step (fun k => by rw [slices_IndexFunc_int64_int64__impl_VarsFault_1.l0]) ?_
  simp only [Pl.rd_get l i hi, in_impl, Option.bind_some, Pl.drop_get hi, List.all_cons, Pl.wrap_nat (show i < 9223372036854775807 by omega)]
  simp only [if_pos (show (i : Int) < (l.length : Int) by omega), if_pos (show (0 : Int) ≤ (i : Int) by omega)]
  cases h2 : fine l[i]
  ·simp [Pl.ev_some]
  ·simpa [h2] using ih
theorem implVars_ev (l : List Int) (hl : l.length ≤ 1048576) : Ev (fun k => impl_VarsFault.f k l) (if l.length = 4 then (bif l.all fine then 0 else 3) else 2) := by
 unfold impl_VarsFault.f
 refine Pl.ev_bind' (contains_ev l hl) ?_
 simp only [codeIf_eq, Option.bind_some]
 refine Pl.ev_bind' (firstCode_ev _ (by simp)) (Pl.ev_some.2 ?_)
 by_cases h : l.length = 4
 ·have e : ((l.length : Int) != 4) = false := by rw [bne_eq_false_iff_eq]; omega
  cases h2 : l.all fine <;> simp [Pl.firstC, e, h]
 ·have e : ((l.length : Int) != 4) = true := by rw [bne_iff_ne]; omega
  simp [Pl.firstC, e, h]
def varsC (l : List Int) : Int := if l.length = 4 then (bif l.all fine then 0 else 3) else 2
def wantC (K : Int) : Int := if K ≤ 8 then 1 else 2
def giveC (K : Int) : Int := if K ≤ 6 then 1 else 2
theorem partType_eq (K : Int) : impl_partType.f K = some (wantC K, giveC K) := by
 unfold impl_partType.f wantC giveC
 by_cases h : K ≤ 6
 ·rw [if_pos h, if_pos (by omega), if_pos h]
 ·rw [if_neg h, if_neg h]
  by_cases h' : K ≤ 8
  ·rw [if_pos h', if_pos h']
  ·rw [if_neg h', if_neg h']
def goodC (x : Nd) (acc : List Int) : Prop := (2 < x.f0 → rd acc x.f2 = wantC x.f0) ∧ (Pl.two x.f0 = true → rd acc x.f3 = wantC x.f0)
instance (x : Nd) (acc : List Int) : Decidable (goodC x acc) := by unfold goodC; infer_instance
def typesC : List Nd → List Int → Option (List Int)
 | [], acc => some acc
 | x :: l, acc => if goodC x acc then typesC l (acc ++ [giveC x.f0]) else none
theorem specTypes_ev (e : List Nd) (hl : e.length ≤ 16) (hf : fineN e) : Ev (fun k => spec_l3Types.f k e) ((typesC e []).elim (([] : List Int), false) fun t => (t, true)) := by
 unfold spec_l3Types.f
 have main := Pl.loop (σ := List Int) (n := e.length) (g := fun k i s => spec_l3Types.l0 k e s i) (F := fun i s => (typesC (e.drop i) s).elim (([] : List Int), false) fun t => (t, true)) (fun i s => s.length = i) ?_ ?_ 0 [] (Nat.zero_le _) rfl
 ·simpa using main
 ·intro s _
  refine Ev.step (fun k => by rw [spec_l3Types.l0]) ?_
  simp only [Pl.ev_ite, Pl.ev_none, Pl.ev_some]
  rw [if_neg (by omega), List.drop_length]
  rfl
 ·intro i s hi hs ih
  have h0 := nodeC_0 (hf i hi)
  rw [Pl.drop_get hi]
  unfold typesC
  have key : Ev (fun k => spec_l3Types.j2 k e s (i : Int) (wantC e[i].f0) 1 e[i].f0 e[i].f1 e[i].f2 e[i].f3) ((if goodC e[i] s then typesC (e.drop (i + 1)) (s ++ [giveC e[i].f0]) else none).elim (([] : List Int), false) fun t => (t, true)) := by
   generalize e[i] = x at h0 ih ⊢
   obtain ⟨K, V, L, R⟩ := x
   simp only at h0 ⊢
   have next : Ev (fun k => spec_l3Types.l0 k e (s ++ [giveC K]) ((i : Int) + 1)) ((typesC (e.drop (i + 1)) (s ++ [giveC K])).elim (([] : List Int), false) fun t => (t, true)) := ih _ (by simp [hs])
   have lim : i < 17592186044416 := by omega
   refine Ev.step (fun k => by rw [spec_l3Types.j2]) ?_
   simp only [Pl.ev_ite, Pl.ev_none, Pl.ev_some, l3Two_eq, Option.bind_some, Pl.wrap_nat (show i < 9223372036854775807 by omega), lim, if_true, gt_iff_lt, ge_iff_le, hs]
   have good_iff : goodC ⟨K, V, L, R⟩ s ↔ (2 < K → rd s L = wantC K) ∧ (Pl.two K = true → rd s R = wantC K) := Iff.rfl
   have bT : Pl.two K = true → 0 ≤ R ∧ R < (i : Int) := fun h => by have := h0.2.2.1 (of_decide_eq_true h); omega
   have bI : 2 < K → 0 ≤ L ∧ L < (i : Int) := fun h => by have := h0.2.1 h; omega
   by_cases h7 : 7 ≤ K
   ·have eg : giveC K = 2 := if_neg (by omega)
    have hI : 2 < K := by omega
    obtain ⟨b1, b2⟩ := bI hI
    rw [eg] at next ⊢
    simp only [h7, hI, if_true, b1, b2]
    by_cases hw : rd s L = wantC K
    ·simp only [hw, if_true]
     by_cases hT : Pl.two K = true
     ·obtain ⟨b3, b4⟩ := bT hT
      simp only [hT, if_true, b3, b4]
      by_cases hw2 : rd s R = wantC K
      ·simp only [hw2, if_true]
       rw [if_pos (good_iff.2 ⟨fun _ => hw, fun _ => hw2⟩)]
       exact next
      ·simp only [if_neg hw2]
       rw [if_neg (fun h => hw2 ((good_iff.1 h).2 hT))]
       rfl
     ·simp only [if_neg hT]
      rw [if_pos (good_iff.2 ⟨fun _ => hw, fun h => absurd h hT⟩)]
      exact next
    ·simp only [if_neg hw]
     rw [if_neg (fun h => hw ((good_iff.1 h).1 hI))]
     rfl
   ·have eg : giveC K = 1 := if_pos (by omega)
    rw [eg] at next ⊢
    simp only [h7, if_false]
    by_cases hI : 2 < K
    ·obtain ⟨b1, b2⟩ := bI hI
     simp only [hI, if_true, b1, b2]
     by_cases hw : rd s L = wantC K
     ·simp only [hw, if_true]
      by_cases hT : Pl.two K = true
      ·obtain ⟨b3, b4⟩ := bT hT
       simp only [hT, if_true, b3, b4]
       by_cases hw2 : rd s R = wantC K
       ·simp only [hw2, if_true]
        rw [if_pos (good_iff.2 ⟨fun _ => hw, fun _ => hw2⟩)]
        exact next
       ·simp only [if_neg hw2]
        rw [if_neg (fun h => hw2 ((good_iff.1 h).2 hT))]
        rfl
      ·simp only [if_neg hT]
       rw [if_pos (good_iff.2 ⟨fun _ => hw, fun h => absurd h hT⟩)]
       exact next
     ·simp only [if_neg hw]
      rw [if_neg (fun h => hw ((good_iff.1 h).1 hI))]
      rfl
    ·have hT : ¬ Pl.two K = true := fun h => hI (Pl.two_inner h)
     simp only [if_neg hI, if_neg hT]
     rw [if_pos (good_iff.2 ⟨fun h => absurd h hI, fun h => absurd h hT⟩)]
     exact next
  have j1 : ∀ b : Bool, (b = true ↔ 8 < e[i].f0) → Ev (fun k => spec_l3Types.j1 k e s (i : Int) 1 1 b e[i].f0 e[i].f1 e[i].f2 e[i].f3) ((if goodC e[i] s then typesC (e.drop (i + 1)) (s ++ [giveC e[i].f0]) else none).elim (([] : List Int), false) fun t => (t, true)) := by
   intro b hb
   refine Ev.step (fun k => by rw [spec_l3Types.j1]) ?_
   simp only [Pl.ev_ite]
   unfold wantC at key
   by_cases h8 : 8 < e[i].f0
   ·rw [if_pos (hb.2 h8)]
    rw [if_neg (by omega)] at key
    exact key
   ·rw [if_neg (fun h => h8 (hb.1 h))]
    rw [if_pos (by omega)] at key
    exact key
  refine Ev.step (fun k => by rw [spec_l3Types.l0]) ?_
  simp only [Pl.ev_ite, Pl.ev_none, rd_iNode e i hi]
  rw [if_pos (by omega), if_pos (by omega)]
  split
  ·exact j1 _ (by simp; omega)
  ·exact j1 _ (by simp; omega)
theorem typesC_len : ∀ (l : List Nd) (acc t : List Int), typesC l acc = some t → t.length = acc.length + l.length
 | [], acc, t => by intro h; simp [typesC] at h; simp [h]
 | x :: l, acc, t => by
  intro h
  unfold typesC at h
  split at h
  ·have := typesC_len l _ t h
   simp at this ⊢
   omega
  ·simp at h
noncomputable def typeC (e : List Nd) : Int × Int := if exprC e = 0 then ((typesC e []).elim (7, 0) fun t => (0, rd t ((e.length - 1 : Nat) : Int))) else (exprC e, 0)
theorem exprC_0 {e : List Nd} (h : exprC e = 0) : (1 ≤ e.length ∧ e.length ≤ 16) ∧ fineN e := by
 unfold exprC at h
 by_cases hl : 1 ≤ e.length ∧ e.length ≤ 16
 ·rw [if_pos hl] at h
  by_cases hn : nodesC 0 e = 0
  ·exact ⟨hl, (nodesC_fine e).1 hn⟩
  ·rw [if_neg hn] at h; exact absurd h hn
 ·rw [if_neg hl] at h; exact absurd h (by omega)
theorem spec3Type_ev (e : List Nd) (hl0 : e.length ≤ 1048576) : Ev (fun k => spec_l3Type.f k e) ((typeC e).2, (typeC e).1) := by
 unfold spec_l3Type.f
 refine Pl.ev_bind' (spec3Fault_ev e hl0) ?_
 unfold typeC
 simp only [Pl.ev_ite]
 by_cases h : exprC e = 0
 ·obtain ⟨⟨l1, l2⟩, hf⟩ := exprC_0 h
  rw [if_pos h, if_pos h]
  refine Pl.ev_bind' (specTypes_ev e l2 hf) ?_
  cases ht : typesC e [] with
  | none => simp only [Option.elim]; exact Ev.now _
  | some t =>
   have := typesC_len e [] t ht
   simp only [List.length_nil, Nat.zero_add] at this
   have ew : wrap64 ((t.length : Int) - 1) = ((e.length - 1 : Nat) : Int) := by rw [Pl.wrap_in (by omega) (by omega)]; omega
   simp only [Option.elim, if_true, ew, Pl.ev_ite, Pl.ev_none, Pl.ev_some]
   rw [if_pos (by omega), if_pos (by omega)]
   trivial
 ·rw [if_neg h, if_neg h]
  exact Ev.now _
theorem implType_ev (e : List Nd) : Ev (fun k => impl_TypeOf.f k e) (typeC e) := by
 unfold impl_TypeOf.f
 refine Pl.ev_bind' (implExpr_ev e) ?_
 unfold typeC
 simp only [Pl.ev_ite]
 by_cases h : exprC e = 0
 ·obtain ⟨⟨l1, l2⟩, hf⟩ := exprC_0 h
  rw [if_pos h, if_pos h]
  have main := Pl.loop (σ := List Int) (n := e.length) (g := fun k i s => impl_TypeOf.l0 k s e (e.length : Int) i) (F := fun i s => (typesC (e.drop i) s).elim ((7, 0) : Int × Int) fun t => (0, rd t ((e.length - 1 : Nat) : Int))) (fun i s => s.length = i) ?_ ?_ 0 [] (Nat.zero_le _) rfl
  ·simpa using main
  ·intro s hs
   have ew : wrap64 ((s.length : Int) - 1) = ((e.length - 1 : Nat) : Int) := by rw [Pl.wrap_in (by omega) (by omega)]; omega
   refine Ev.step (fun k => by rw [impl_TypeOf.l0]) ?_
   simp only [Pl.ev_ite, Pl.ev_none, Pl.ev_some, ew]
   rw [if_neg (by omega), if_pos (by omega), if_pos (by omega), List.drop_length]
   rfl
  ·intro i s hi hs ih
   have h0 := nodeC_0 (hf i hi)
   rw [Pl.drop_get hi]
   unfold typesC
   refine Ev.step (fun k => by rw [impl_TypeOf.l0]) ?_
   simp only [Pl.ev_ite, Pl.ev_none, rd_iNode e i hi]
   rw [if_pos (by omega), if_pos (by omega), if_pos (by omega)]
   generalize e[i] = x at h0 ih ⊢
   obtain ⟨K, V, L, R⟩ := x
   simp only at h0 ⊢
   have next : Ev (fun k => impl_TypeOf.l0 k (s ++ [giveC K]) e (e.length : Int) ((i : Int) + 1)) ((typesC (e.drop (i + 1)) (s ++ [giveC K])).elim ((7, 0) : Int × Int) fun t => (0, rd t ((e.length - 1 : Nat) : Int))) := ih _ (by simp [hs])
   have lim : i < 17592186044416 := by omega
   simp only [partType_eq, Pl.ev_ite, Pl.ev_none, Pl.ev_some, isTwo_eq, Option.bind_some, Pl.wrap_nat (show i < 9223372036854775807 by omega), lim, if_true, gt_iff_lt, ge_iff_le, hs]
   have good_iff : goodC ⟨K, V, L, R⟩ s ↔ (2 < K → rd s L = wantC K) ∧ (Pl.two K = true → rd s R = wantC K) := Iff.rfl
   have bT : Pl.two K = true → 0 ≤ R ∧ R < (i : Int) := fun h => by have := h0.2.2.1 (of_decide_eq_true h); omega
   have bI : 2 < K → 0 ≤ L ∧ L < (i : Int) := fun h => by have := h0.2.1 h; omega
   by_cases hI : 2 < K
   ·obtain ⟨b1, b2⟩ := bI hI
    simp only [hI, if_true, b1, b2]
    by_cases hw : rd s L = wantC K
    ·simp only [hw, if_true]
     by_cases hT : Pl.two K = true
     ·obtain ⟨b3, b4⟩ := bT hT
      simp only [hT, if_true, b3, b4]
      by_cases hw2 : rd s R = wantC K
      ·simp only [hw2, if_true]
       rw [if_pos (good_iff.2 ⟨fun _ => hw, fun _ => hw2⟩)]
       exact next
      ·simp only [if_neg hw2]
       rw [if_neg (fun h => hw2 ((good_iff.1 h).2 hT))]
       rfl
     ·simp only [if_neg hT]
      rw [if_pos (good_iff.2 ⟨fun _ => hw, fun h => absurd h hT⟩)]
      exact next
    ·simp only [if_neg hw]
     rw [if_neg (fun h => hw ((good_iff.1 h).1 hI))]
     rfl
   ·have hT : ¬ Pl.two K = true := fun h => hI (Pl.two_inner h)
    simp only [if_neg hI, if_neg hT]
    rw [if_pos (good_iff.2 ⟨fun h => absurd h hI, fun h => absurd h hT⟩)]
    exact next
 ·rw [if_neg h, if_neg h]
  exact Ev.now _
def rawC (K a b : Int) : Option Int :=
 if K = 3 then some (wrap64 (a + b)) else if K = 4 then some (wrap64 (a - b)) else if K = 5 then some (wrap64 (a * b))
 else if K = 6 then (if b = 0 then none else some (wrap64 (Int.tdiv a b)))
 else if K = 7 then some (if a < b then 1 else 0) else if K = 8 then some (if a = b then 1 else 0)
 else if K = 9 then some (wrap64 (a * b)) else some (wrap64 (1 - a))
def oneC (K a b : Int) : Int × Bool := match rawC K a b with | none => (0, false) | some v => (v, fine v)
theorem bool_eq (b : Bool) : spec_l3Bool.f b = some (if b = true then 1 else 0) := by cases b <;> rfl
theorem fineIn (x : Int) : impl_inRange.f x (-1000000) 1000000 = some (fine x) := by rw [inRange_eq]; rfl
theorem one_eq (K a b : Int) : spec_l3One.f K a b = some (oneC K a b) := by
 unfold spec_l3One.f oneC rawC
 simp only [in_spec, bool_eq, Option.bind_some, decide_eq_true_eq, beq_iff_eq]
 by_cases h3 : K = 3
 ·simp [h3]
 by_cases h4 : K = 4
 ·simp [h4]
 by_cases h5 : K = 5
 ·simp [h5]
 by_cases h6 : K = 6
 ·by_cases hb : b = 0 <;> simp [h6, hb]
 by_cases h7 : K = 7
 ·simp [h7]
 by_cases h8 : K = 8
 ·simp [h8]
 by_cases h9 : K = 9
 ·simp [h9]
 simp [h3, h4, h5, h6, h7, h8, h9]
theorem reckon_eq (K a b : Int) (hK : 3 ≤ K ∧ K ≤ 9) (h9 : K = 9 → (a = 0 ∨ a = 1) ∧ (b = 0 ∨ b = 1)) : impl_reckon.f K a b = some ((rawC K a b).elim ((0, false) : Int × Bool) fun v => (v, true)) := by
 unfold impl_reckon.f rawC
 simp only [codeIf_eq, Option.bind_some, decide_eq_true_eq, beq_iff_eq]
 by_cases h3 : K = 3
 ·simp [h3]
 by_cases h4 : K = 4
 ·simp [h4]
 by_cases h5 : K = 5
 ·simp [h5]
 by_cases h6 : K = 6
 ·by_cases hb : b = 0 <;> simp [h6, hb]
 by_cases h7 : K = 7
 ·simp [h7]
 by_cases h8 : K = 8
 ·simp [h8]
 have e9 : K = 9 := by omega
 subst e9
 obtain ⟨ha, hb⟩ := h9 rfl
 have e : Go.bits .and .i64 a b = wrap64 (a * b) := by rcases ha with rfl | rfl <;> rcases hb with rfl | rfl <;> decide +kernel
 simp [e]
def valC (vars : List Int) (x : Nd) (vals : List Int) : Int × Bool := if x.f0 ≤ 2 then (if x.f0 = 2 then rd vars x.f1 else x.f1, true) else oneC x.f0 (rd vals x.f2) (rd vals x.f3)
def evalsC (vars : List Int) : List Nd → List Int → Option (List Int)
 | [], vals => some vals
 | x :: l, vals => if (valC vars x vals).2 = true then evalsC vars l (vals ++ [(valC vars x vals).1]) else none
def lastC (n : Nat) (o : Option (List Int)) : Int × Bool := o.elim ((0, false) : Int × Bool) fun t => (rd t ((n - 1 : Nat) : Int), true)
theorem specEval_ev (e : List Nd) (vars : List Int) (h1 : 1 ≤ e.length) (hl : e.length ≤ 16) (hf : fineN e) (hv : vars.length = 4) : Ev (fun k => spec_l3Eval.f k e vars) (lastC e.length (evalsC vars e [])) := by
 unfold spec_l3Eval.f
 have main := Pl.loop (σ := List Int) (n := e.length) (g := fun k i s => spec_l3Eval.l0 k e vars s i) (F := fun i s => lastC e.length (evalsC vars (e.drop i) s)) (fun i s => s.length = i) ?_ ?_ 0 [] (Nat.zero_le _) rfl
 ·simpa using main
 ·intro s hs
  have ew : wrap64 ((s.length : Int) - 1) = ((e.length - 1 : Nat) : Int) := by rw [Pl.wrap_in (by omega) (by omega)]; omega
  refine Ev.step (fun k => by rw [spec_l3Eval.l0]) ?_
  simp only [Pl.ev_ite, Pl.ev_none, Pl.ev_some, ew]
  rw [if_neg (by omega), if_pos (by omega), if_pos (by omega), List.drop_length]
  rfl
 ·intro i s hi hs ih
  have h0 := nodeC_0 (hf i hi)
  have hR : e[i].f0 = 10 → e[i].f3 = 0 := fun h => by
   have := hf i hi
   unfold ndC nodeC at this
   rw [h] at this
   simp only [show ¬ ((10 : Int) = 1 ∨ (10 : Int) = 2) by omega, if_false, if_true] at this
   split at this
   ·omega
   ·omega
  rw [Pl.drop_get hi]
  unfold evalsC
  generalize hx : e[i] = x at h0 hR ih ⊢
  obtain ⟨K, V, L, R⟩ := x
  simp only at h0 hR ⊢
  have lim : i < 17592186044416 := by omega
  have j1 : ∀ v : Int, (K ≤ 2 → v = if K = 2 then rd vars V else V) → Ev (fun k => spec_l3Eval.j1 k e vars s (i : Int) v K V L R) (lastC e.length (if (valC vars ⟨K, V, L, R⟩ s).2 = true then evalsC vars (e.drop (i + 1)) (s ++ [(valC vars ⟨K, V, L, R⟩ s).1]) else none)) := by
   intro v hvv
   refine Ev.step (fun k => by rw [spec_l3Eval.j1]) ?_
   simp only [Pl.ev_ite, Pl.ev_none, Pl.ev_some, one_eq, Option.bind_some, Pl.wrap_nat (show i < 9223372036854775807 by omega), hs, lim, if_true]
   unfold valC
   by_cases hI : 2 < K
   ·rw [if_pos hI]
    have b1 := h0.2.1 hI
    have b2 : 0 ≤ R ∧ R < (i : Int) := by
     by_cases h10 : K = 10
     ·have := hR h10; omega
     ·have := h0.2.2.1 (by omega); omega
    rw [if_pos (by omega), if_pos (by omega), if_pos (by omega), if_pos (by omega)]
    simp only [if_neg (show ¬ K ≤ 2 by omega)]
    by_cases ho : (oneC K (rd s L) (rd s R)).2 = true
    ·rw [if_pos ho, if_pos ho]
     exact ih _ (by simp [hs])
    ·rw [if_neg ho, if_neg ho]
     rfl
   ·rw [if_neg hI]
    simp only [if_pos (show K ≤ 2 by omega), if_true]
    rw [hvv (by omega)]
    exact ih _ (by simp [hs])
  refine Ev.step (fun k => by rw [spec_l3Eval.l0]) ?_
  have ex : rd_T70 e (i : Int) = ⟨K, V, L, R⟩ := by rw [rd_iNode e i hi]; exact hx
  simp only [Pl.ev_ite, Pl.ev_none, ex]
  rw [if_pos (by omega), if_pos (by omega)]
  by_cases h2 : K = 2
  ·have := h0.2.2.2.1 h2
   rw [if_pos h2, if_pos (by omega), if_pos (by omega)]
   exact j1 _ (fun _ => by rw [if_pos h2])
  ·rw [if_neg h2]
   exact j1 _ (fun _ => by rw [if_neg h2])
theorem typesC_good (e : List Nd) (hf : fineN e) (t : List Int) : ∀ d i acc, e.length - i = d → i ≤ e.length → acc = (List.range i).map (fun j => giveC (kK e j)) → typesC (e.drop i) acc = some t →
  ∀ j, i ≤ j → j < e.length → (2 < kK e j → giveC (kK e (kL e j)) = wantC (kK e j)) ∧ (Pl.two (kK e j) = true → giveC (kK e (kR e j)) = wantC (kK e j)) := by
 intro d
 induction d with
 | zero => intro i acc h1 h2 _ _ j h3 h4; omega
 | succ d ih =>
  intro i acc h1 h2 hacc ht j h3 h4
  have hi : i < e.length := by omega
  rw [Pl.drop_get hi] at ht
  unfold typesC at ht
  by_cases hg : goodC e[i] acc
  ·rw [if_pos hg] at ht
   by_cases hj : j = i
   ·subst hj
    have h0 := nodeC_0 (hf j hi)
    obtain ⟨a1, a2⟩ := fineN_ahead hf j hi
    have racc : ∀ m : Nat, m < j → rd acc (m : Int) = giveC (kK e m) := fun m hm => by
     rw [hacc, Pl.rd_get _ m (by simpa using hm)]
     simp
    have eK := kK_at e j hi
    refine ⟨fun h => ?_, fun h => ?_⟩
    ·have hL := a1 h
     have el : e[j].f2 = ((kL e j : Nat) : Int) := by
      rw [kL_at e j hi]; rw [eK] at h; have := h0.2.1 h; omega
     have := hg.1 (by rw [← eK]; exact h)
     rw [el, racc _ hL, ← eK] at this
     exact this
    ·have hR := a2 h
     have er : e[j].f3 = ((kR e j : Nat) : Int) := by
      rw [kR_at e j hi]; rw [eK] at h; have := h0.2.2.1 (of_decide_eq_true h); omega
     have := hg.2 (by rw [← eK]; exact h)
     rw [er, racc _ hR, ← eK] at this
     exact this
   ·exact ih (i + 1) (acc ++ [giveC e[i].f0]) (by omega) (by omega) (by rw [hacc, List.range_succ, List.map_append, List.map_singleton, kK_at e i hi]) ht j (by omega) h4
  ·rw [if_neg hg] at ht
   simp at ht
theorem implEval_ev (e : List Nd) (vars t : List Int) (h1 : 1 ≤ e.length) (hl : e.length ≤ 16) (hf : fineN e) (ht : typesC e [] = some t) (hv : vars.length = 4) (hvf : vars.all fine = true) : Ev (fun k => impl_eval.f k e vars) (lastC e.length (evalsC vars e [])) := by
 have gd := typesC_good e hf t e.length 0 [] (by omega) (by omega) rfl (by simpa using ht)
 unfold impl_eval.f
 have main := Pl.loop (σ := List Int) (n := e.length) (g := fun k i s => impl_eval.l0 k vars s e (e.length : Int) i) (F := fun i s => lastC e.length (evalsC vars (e.drop i) s)) (fun i s => s.length = i ∧ ∀ j, j < i → 7 ≤ kK e j → rd s (j : Int) = 0 ∨ rd s (j : Int) = 1) ?_ ?_ 0 [] (Nat.zero_le _) ⟨rfl, fun j h => by omega⟩
 ·simpa using main
 ·rintro s ⟨hs, _⟩
  have ew : wrap64 ((s.length : Int) - 1) = ((e.length - 1 : Nat) : Int) := by rw [Pl.wrap_in (by omega) (by omega)]; omega
  refine Ev.step (fun k => by rw [impl_eval.l0]) ?_
  simp only [Pl.ev_ite, Pl.ev_none, Pl.ev_some, ew]
  rw [if_neg (by omega), if_pos (by omega), if_pos (by omega), List.drop_length]
  rfl
 ·rintro i s hi ⟨hs, hb⟩ ih
  have h0 := nodeC_0 (hf i hi)
  obtain ⟨a1, a2⟩ := fineN_ahead hf i hi
  obtain ⟨g1, g2⟩ := gd i (Nat.zero_le _) hi
  have eK := kK_at e i hi
  have eL : 2 < kK e i → e[i].f2 = ((kL e i : Nat) : Int) := fun h => by
   rw [kL_at e i hi]; rw [eK] at h; have := h0.2.1 h; omega
  have eR : Pl.two (kK e i) = true → e[i].f3 = ((kR e i : Nat) : Int) := fun h => by
   rw [kR_at e i hi]; rw [eK] at h; have := h0.2.2.1 (of_decide_eq_true h); omega
  have next : ∀ v : Int, (7 ≤ kK e i → v = 0 ∨ v = 1) → Ev (fun k => impl_eval.l0 k vars (s ++ [v]) e (e.length : Int) ((i : Int) + 1)) (lastC e.length (evalsC vars (e.drop (i + 1)) (s ++ [v]))) := fun v hv => by
   refine ih _ ⟨by simp [hs], fun j hj h7 => ?_⟩
   by_cases hji : j = i
   ·subst hji
    have := hv h7
    have er : rd (s ++ [v]) (j : Int) = v := by
     rw [Pl.rd_get _ j (by simp [hs])]
     simp [← hs]
    rw [er]; exact this
   ·have := hb j (by omega) h7
    rw [Pl.rd_get _ j (by omega)] at this
    rw [Pl.rd_get _ j (by simp; omega), List.getElem_append_left (by omega)]
    exact this
  have lim : i < 17592186044416 := by omega
  rw [Pl.drop_get hi]
  unfold evalsC valC
  rw [← eK]
  refine Ev.step (fun k => by rw [impl_eval.l0]) ?_
  simp only [Pl.ev_ite, Pl.ev_none, Pl.ev_some, rd_iNode e i hi, ← eK, fineIn, isTwo_eq, Option.bind_some, Pl.wrap_nat (show i < 9223372036854775807 by omega), hs, lim, if_true]
  rw [if_pos (by omega), if_pos (by omega), if_pos (by omega)]
  by_cases h2 : kK e i = 2
  ·have b := h0.2.2.2.1 (by rw [← eK]; exact h2)
   rw [if_pos h2, if_pos (by omega), if_pos (by omega), if_pos (show kK e i ≤ 2 by omega), if_pos h2]
   have fv : fine (rd vars e[i].f1) = true := by
    obtain ⟨m, hm⟩ : ∃ m : Nat, e[i].f1 = (m : Int) := ⟨e[i].f1.toNat, by omega⟩
    rw [hm, Pl.rd_get vars m (by omega)]
    exact List.all_eq_true.1 hvf _ (List.getElem_mem _)
   rw [if_pos fv]
   simp only [if_true]
   exact next _ (fun h => by omega)
  ·rw [if_neg h2]
   by_cases h10 : kK e i = 10
   ·have hI : 2 < kK e i := by omega
    have hL := a1 hI
    rw [if_pos h10, if_pos (by rw [eL hI]; omega), if_pos (by rw [eL hI]; omega), if_neg (show ¬ kK e i ≤ 2 by omega)]
    have eo : oneC (kK e i) (rd s e[i].f2) (rd s e[i].f3) = (wrap64 (1 - rd s e[i].f2), fine (wrap64 (1 - rd s e[i].f2))) := by
     unfold oneC rawC
     simp [h10]
    rw [eo]
    by_cases hfi : fine (wrap64 (1 - rd s e[i].f2)) = true
    ·rw [if_pos hfi, if_pos hfi]
     refine next _ (fun _ => ?_)
     have w := g1 hI
     have w7 : 7 ≤ kK e (kL e i) := by
      unfold giveC wantC at w
      rw [h10] at w
      by_cases h6 : kK e (kL e i) ≤ 6
      ·rw [if_pos h6] at w; simp at w
      ·omega
     have := hb (kL e i) hL w7
     rw [← eL hI] at this
     rcases this with h | h <;> rw [h]
     ·right; decide +kernel
     ·left; decide +kernel
    ·rw [if_neg hfi, if_neg hfi]
     rfl
   ·rw [if_neg h10]
    by_cases hT : Pl.two (kK e i) = true
    ·have hI := Pl.two_inner hT
     have hL := a1 hI
     have hR := a2 hT
     have hK := of_decide_eq_true hT
     rw [if_pos hT, if_pos (by rw [eL hI]; omega), if_pos (by rw [eL hI]; omega), if_pos (by rw [eR hT]; omega), if_pos (by rw [eR hT]; omega), if_neg (show ¬ kK e i ≤ 2 by omega)]
     have h9 : kK e i = 9 → (rd s e[i].f2 = 0 ∨ rd s e[i].f2 = 1) ∧ (rd s e[i].f3 = 0 ∨ rd s e[i].f3 = 1) := fun h => by
      have w1 := g1 hI
      have w2 := g2 hT
      rw [h] at w1 w2
      have k1 : 7 ≤ kK e (kL e i) := by
       unfold giveC wantC at w1
       by_cases h6 : kK e (kL e i) ≤ 6
       ·rw [if_pos h6] at w1; simp at w1
       ·omega
      have k2 : 7 ≤ kK e (kR e i) := by
       unfold giveC wantC at w2
       by_cases h6 : kK e (kR e i) ≤ 6
       ·rw [if_pos h6] at w2; simp at w2
       ·omega
      have c1 := hb (kL e i) hL k1
      have c2 := hb (kR e i) hR k2
      rw [← eL hI] at c1
      rw [← eR hT] at c2
      exact ⟨c1, c2⟩
     have er := reckon_eq (kK e i) (rd s e[i].f2) (rd s e[i].f3) hK h9
     unfold oneC
     cases hr : rawC (kK e i) (rd s e[i].f2) (rd s e[i].f3) with
     | none =>
      rw [hr] at er
      simp only [Option.elim] at er
      simp only [er, Option.bind_some, Bool.false_eq_true, if_false]
      exact Ev.now _
     | some v =>
      rw [hr] at er
      simp only [Option.elim] at er
      simp only [er, Option.bind_some, if_true]
      simp only [Pl.ev_ite, Pl.ev_some]
      by_cases hfi : fine v = true
      ·rw [if_pos hfi, if_pos hfi]
       refine next _ (fun h7 => ?_)
       unfold rawC at hr
       by_cases e7 : kK e i = 7
       ·simp [e7] at hr
        rw [← hr]; split <;> simp
       by_cases e8 : kK e i = 8
       ·simp [e8] at hr
        rw [← hr]; split <;> simp
       have e9 : kK e i = 9 := by omega
       obtain ⟨c1, c2⟩ := h9 e9
       simp [e9] at hr
       rw [← hr]
       rcases c1 with c1 | c1 <;> rcases c2 with c2 | c2 <;> rw [c1, c2] <;> decide +kernel
      ·rw [if_neg hfi, if_neg hfi]
       rfl
    ·rw [if_neg hT]
     have hI : kK e i ≤ 2 := by
      have := fineN_le hf i hi
      by_cases h : kK e i ≤ 2
      ·exact h
      ·exact absurd (decide_eq_true (by omega)) hT
     have e1 : kK e i = 1 := by have := h0.1; omega
     have b := h0.2.2.2.2 (by rw [← eK]; exact e1)
     have fv : fine e[i].f1 = true := decide_eq_true (by omega)
     rw [if_pos fv, if_pos hI, if_neg h2]
     simp only [if_true]
     exact next _ (fun h => by omega)
noncomputable def evalC (e : List Nd) (vars : List Int) : Int × Int :=
 if (typeC e).1 = 0 then (if varsC vars = 0 then (if (lastC e.length (evalsC vars e [])).2 = true then (0, (lastC e.length (evalsC vars e [])).1) else (8, 0)) else (varsC vars, 0)) else ((typeC e).1, 0)
theorem typeC_0 {e : List Nd} (h : (typeC e).1 = 0) : (1 ≤ e.length ∧ e.length ≤ 16) ∧ fineN e ∧ ∃ t, typesC e [] = some t := by
 unfold typeC at h
 by_cases hx : exprC e = 0
 ·obtain ⟨h1, h2⟩ := exprC_0 hx
  refine ⟨h1, h2, ?_⟩
  rw [if_pos hx] at h
  cases ht : typesC e [] with
  | none => rw [ht] at h; simp at h
  | some t => exact ⟨t, rfl⟩
 ·rw [if_neg hx] at h; exact absurd h hx
theorem varsC_0 {vars : List Int} (h : varsC vars = 0) : vars.length = 4 ∧ vars.all fine = true := by
 unfold varsC at h
 by_cases h4 : vars.length = 4
 ·rw [if_pos h4] at h
  refine ⟨h4, ?_⟩
  cases ha : vars.all fine
  ·rw [ha] at h; simp at h
  ·rfl
 ·rw [if_neg h4] at h; simp at h
theorem specEvalExpr_ev (e : List Nd) (vars : List Int) (hl0 : e.length ≤ 1048576) (hv : vars.length ≤ 1048576) : Ev (fun k => spec_EvalExpr.f k e vars) (evalC e vars) := by
 unfold spec_EvalExpr.f
 refine Pl.ev_bind' (spec3Type_ev e hl0) ?_
 unfold evalC
 simp only [Pl.ev_ite]
 by_cases hc : (typeC e).1 = 0
 ·rw [if_pos hc, if_pos hc]
  refine Pl.ev_bind' (specVars_ev vars hv) ?_
  simp only [← varsC.eq_def, Pl.ev_ite]
  by_cases hvc : varsC vars = 0
  ·rw [if_pos hvc, if_pos hvc]
   obtain ⟨⟨h1, h2⟩, h3, t, h4⟩ := typeC_0 hc
   obtain ⟨h5, h6⟩ := varsC_0 hvc
   refine Pl.ev_bind' (specEval_ev e vars h1 h2 h3 h5) ?_
   by_cases hb : (lastC e.length (evalsC vars e [])).2 = true
   ·simp only [if_pos hb]; exact Ev.now _
   ·simp only [if_neg hb]; exact Ev.now _
  ·rw [if_neg hvc, if_neg hvc]
   exact Ev.now _
 ·rw [if_neg hc, if_neg hc]
  exact Ev.now _
theorem implEvalExpr_ev (e : List Nd) (vars : List Int) (hv : vars.length ≤ 1048576) : Ev (fun k => impl_EvalExpr.f k e vars) (evalC e vars) := by
 unfold impl_EvalExpr.f
 refine Pl.ev_bind' (implType_ev e) ?_
 refine Pl.ev_bind' (implVars_ev vars hv) ?_
 simp only [← varsC.eq_def]
 unfold evalC
 by_cases hc : (typeC e).1 = 0
 ·rw [if_pos hc]
  by_cases hvc : varsC vars = 0
  ·rw [if_pos hvc]
   refine Pl.ev_bind' (a := 0) (Pl.ev_to (firstCode_ev _ (by simp)) (by simp [Pl.firstC, hc, hvc])) ?_
   obtain ⟨⟨h1, h2⟩, h3, t, h4⟩ := typeC_0 hc
   obtain ⟨h5, h6⟩ := varsC_0 hvc
   simp only [if_true]
   refine Pl.ev_bind' (implEval_ev e vars t h1 h2 h3 h4 h5 h6) ?_
   by_cases hb : (lastC e.length (evalsC vars e [])).2 = true
   ·simp only [if_pos hb]; exact Ev.now _
   ·simp only [if_neg hb]; exact Ev.now _
  ·rw [if_neg hvc]
   refine Pl.ev_bind' (a := varsC vars) (Pl.ev_to (firstCode_ev _ (by simp)) (by simp [Pl.firstC, hc, hvc])) ?_
   simp only [if_neg hvc]
   exact Ev.now _
 ·rw [if_neg hc]
  refine Pl.ev_bind' (a := (typeC e).1) (Pl.ev_to (firstCode_ev _ (by simp)) (by simp [Pl.firstC, hc])) ?_
  simp only [if_neg hc]
  exact Ev.now _
theorem less_eq (a b : Int) : cmp_Less_int64.f a b = some (decide (a < b)) := by
 unfold cmp_Less_int64.f cmp_isNaN_int64.f
 rw [Option.bind_some, if_neg (by simp)]
theorem rd_set (l : List Int) (i k : Nat) (v : Int) (hi : i < l.length) : rd (l.set i v) (k : Int) = if k = i then v else rd l (k : Int) := by
 unfold rd
 simp only [Int.toNat_natCast, List.getD_eq_getElem?_getD]
 by_cases h : k = i
 ·subst h
  rw [if_pos rfl, List.getElem?_set_self hi]
  rfl
 ·rw [if_neg h, List.getElem?_set_ne (fun e => h e.symm)]
def upTo (l : List Int) (m : Nat) : Prop := ∀ i j : Nat, i < j → j < m → rd l (i : Int) ≤ rd l (j : Int)
def has (l : List Int) (v : Int) : Prop := ∃ k : Nat, k < l.length ∧ rd l (k : Int) = v
theorem has_iff (l : List Int) (v : Int) : has l v ↔ v ∈ l := by
 constructor
 ·rintro ⟨k, hk, rfl⟩
  rw [Pl.rd_get l k hk]
  exact List.getElem_mem hk
 ·intro h
  obtain ⟨k, hk, rfl⟩ := List.getElem_of_mem h
  exact ⟨k, hk, Pl.rd_get l k hk⟩
theorem sort_in (n x6 : Nat) (h6 : x6 < n) (hn : n ≤ 1000) : ∀ (x7 : Nat) (x : List Int), x7 ≤ x6 → x.length = n →
  (∀ i j : Nat, i < j → j ≤ x6 → i ≠ x7 → j ≠ x7 → rd x (i : Int) ≤ rd x (j : Int)) → (∀ j : Nat, x7 < j → j ≤ x6 → rd x (x7 : Int) ≤ rd x (j : Int)) →
  ∃ y : List Int, y.length = n ∧ upTo y (x6 + 1) ∧ (∀ v, has y v ↔ has x v) ∧ ∀ R, Ev (fun k => slices_insertionSortOrdered_int64.l0 k y 0 (n : Int) ((x6 : Int) + 1)) R → Ev (fun k => slices_insertionSortOrdered_int64.l1 k x 0 (n : Int) (x6 : Int) (x7 : Int)) R := by
 intro x7
 induction x7 with
 | zero =>
  intro x h7 hl i1 i2
  refine ⟨x, hl, fun i j hij hj => ?_, fun v => Iff.rfl, fun R hR => ?_⟩
  ·by_cases hi : i = 0
   ·subst hi
    exact i2 j hij (by omega)
   ·exact i1 i j hij (by omega) hi (by omega)
  ·refine Ev.step (fun k => by rw [slices_insertionSortOrdered_int64.l1]) ?_
   refine Pl.ev_ite_neg (by omega) ?_
   rw [Pl.wrap_nat (show x6 < 9223372036854775807 by omega)]
   exact hR
 | succ x7 ih =>
  intro x h7 hl i1 i2
  have e : wrap64 (((x7 + 1 : Nat) : Int) - 1) = (x7 : Int) := by rw [Pl.wrap_in (by omega) (by omega)]; omega
  by_cases hc : rd x ((x7 + 1 : Nat) : Int) < rd x (x7 : Int)
  ·have r : ∀ k : Nat, rd ((x.set (x7 + 1) (rd x (x7 : Int))).set x7 (rd x ((x7 + 1 : Nat) : Int))) (k : Int) = if k = x7 then rd x ((x7 + 1 : Nat) : Int) else if k = x7 + 1 then rd x (x7 : Int) else rd x (k : Int) := by
    intro k
    rw [rd_set _ _ _ _ (by rw [List.length_set]; omega), rd_set _ _ _ _ (by omega)]
   obtain ⟨y, y1, y2, y3, y4⟩ := ih ((x.set (x7 + 1) (rd x (x7 : Int))).set x7 (rd x ((x7 + 1 : Nat) : Int))) (by omega) (by simp [hl]) (fun i j hij hj hi' hj' => by
    rw [r, r, if_neg hi', if_neg hj']
    by_cases a : i = x7 + 1
    ·rw [if_pos a, if_neg (by omega)]
     exact i1 x7 j (by omega) hj (by omega) (by omega)
    ·rw [if_neg a]
     by_cases b : j = x7 + 1
     ·rw [if_pos b]
      exact i1 i x7 (by omega) (by omega) a (by omega)
     ·rw [if_neg b]
      exact i1 i j hij hj a b) (fun j hj hj' => by
    rw [r, r, if_pos rfl, if_neg (by omega)]
    by_cases b : j = x7 + 1
    ·rw [if_pos b]
     omega
    ·rw [if_neg b]
     exact i2 j (by omega) hj')
   refine ⟨y, y1, y2, fun v => (y3 v).trans ?_, fun R hR => ?_⟩
   ·constructor
    ·rintro ⟨k, hk, rfl⟩
     rw [r]
     by_cases a : k = x7
     ·rw [if_pos a]
      exact ⟨x7 + 1, by omega, rfl⟩
     ·rw [if_neg a]
      by_cases b : k = x7 + 1
      ·rw [if_pos b]
       exact ⟨x7, by omega, rfl⟩
      ·rw [if_neg b]
       exact ⟨k, by simpa using hk, rfl⟩
    ·rintro ⟨k, hk, rfl⟩
     by_cases a : k = x7
     ·subst a
      exact ⟨k + 1, by simp; omega, by rw [r, if_neg (by omega), if_pos rfl]⟩
     ·by_cases b : k = x7 + 1
      ·subst b
       exact ⟨x7, by simp; omega, by rw [r, if_pos rfl]⟩
      ·exact ⟨k, by simpa using hk, by rw [r, if_neg a, if_neg b]⟩
   ·refine Ev.step (fun k => by rw [slices_insertionSortOrdered_int64.l1]) ?_
    rw [e, less_eq]
    simp only [Option.bind_some]
    refine Pl.ev_ite_pos (by omega) (Pl.ev_ite_pos (by omega) (Pl.ev_ite_pos (by omega) (Pl.ev_ite_pos (by omega) (Pl.ev_ite_pos (by omega) (Pl.ev_ite_pos (decide_eq_true hc) ?_)))))
    rw [Int.toNat_natCast, Int.toNat_natCast]
    exact y4 R hR
  ·refine ⟨x, hl, fun i j hij hj => ?_, fun v => Iff.rfl, fun R hR => ?_⟩
   ·by_cases a : i = x7 + 1
    ·subst a
     exact i2 j hij (by omega)
    ·by_cases b : j = x7 + 1
     ·subst b
      by_cases c : i = x7
      ·subst c; omega
      ·have := i1 i x7 (by omega) (by omega) a (by omega)
       omega
     ·exact i1 i j hij (by omega) a b
   ·refine Ev.step (fun k => by rw [slices_insertionSortOrdered_int64.l1]) ?_
    rw [e, less_eq]
    simp only [Option.bind_some]
    refine Pl.ev_ite_pos (by omega) (Pl.ev_ite_pos (by omega) (Pl.ev_ite_pos (by omega) (Pl.ev_ite_pos (by omega) (Pl.ev_ite_pos (by omega) (Pl.ev_ite_neg (by simpa using hc) ?_)))))
    rw [Pl.wrap_nat (show x6 < 9223372036854775807 by omega)]
    exact hR
theorem sort_ev (l : List Int) (hl : l.length ≤ 12) : ∃ s : List Int, s.length = l.length ∧ upTo s l.length ∧ (∀ v, v ∈ s ↔ v ∈ l) ∧ Ev (fun k => slices_Sort_int64_int64.f k l) s := by
 have main : ∀ d m : Nat, l.length - m = d → m ≤ l.length → ∀ x : List Int, x.length = l.length → upTo x m → ∃ s : List Int, s.length = l.length ∧ upTo s l.length ∧ (∀ v, has s v ↔ has x v) ∧ Ev (fun k => slices_insertionSortOrdered_int64.l0 k x 0 (l.length : Int) (m : Int)) s := by
  intro d
  induction d with
  | zero =>
   intro m hd hm x hx hs
   obtain rfl : m = l.length := by omega
   exact ⟨x, hx, hs, fun _ => Iff.rfl, Ev.step (fun k => by rw [slices_insertionSortOrdered_int64.l0]) (Pl.ev_ite_neg (by omega) (Ev.now _))⟩
  | succ d ih =>
   intro m hd hm x hx hs
   obtain ⟨y, a, b, c, e⟩ := sort_in l.length m (by omega) (by omega) m x (Nat.le_refl _) hx (fun i j hij hj hi hj' => hs i j hij (by omega)) (fun j hj hj' => by omega)
   obtain ⟨s, s1, s2, s3, s4⟩ := ih (m + 1) (by omega) (by omega) y a b
   exact ⟨s, s1, s2, fun v => (s3 v).trans (c v), Ev.step (fun k => by rw [slices_insertionSortOrdered_int64.l0]) (Pl.ev_ite_pos (by omega) (e s (by simpa using s4)))⟩
 have top : ∃ s : List Int, s.length = l.length ∧ upTo s l.length ∧ (∀ v, has s v ↔ has l v) ∧ Ev (fun k => slices_insertionSortOrdered_int64.l0 k l 0 (l.length : Int) 1) s := by
  by_cases h0 : l.length = 0
  ·exact ⟨l, rfl, fun i j _ h => by omega, fun _ => Iff.rfl, Ev.step (fun k => by rw [slices_insertionSortOrdered_int64.l0]) (Pl.ev_ite_neg (by omega) (Ev.now _))⟩
  ·exact main (l.length - 1) 1 rfl (by omega) l rfl (fun i j _ h => by omega)
 obtain ⟨s, s1, s2, s3, s4⟩ := top
 refine ⟨s, s1, s2, fun v => by rw [← has_iff, ← has_iff]; exact s3 v, ?_⟩
 unfold slices_Sort_int64_int64.f
 have eb : ∃ b, bits_Len.f (IntKind.u64.wrap (l.length : Int)) = some b := by
  have e : IntKind.u64.wrap (l.length : Int) = (l.length : Int) := by
   simp [IntKind.wrap, IntKind.signed, IntKind.bits]
   omega
  unfold bits_Len.f
  rw [e, if_pos (by omega)]
  exact ⟨_, rfl⟩
 obtain ⟨b, eb⟩ := eb
 rw [eb]
 simp only [Option.bind_some]
 refine Pl.ev_bind' (a := s) (Ev.step (fun k => by rw [slices_pdqsortOrdered_int64.f]) (Ev.step (fun k => by rw [slices_pdqsortOrdered_int64.l0]) ?_)) (Ev.now _)
 rw [Pl.wrap_in (by omega) (by omega)]
 refine Pl.ev_ite_pos (by omega) (Pl.ev_bind' ?_ (Ev.now _))
 unfold slices_insertionSortOrdered_int64.f
 rw [show wrap64 (0 + 1) = 1 by rw [Pl.wrap_in (by omega) (by omega)]; rfl]
 exact s4
theorem strict_ext : ∀ l m : List Int, l.Pairwise (· < ·) → m.Pairwise (· < ·) → (∀ x, x ∈ l ↔ x ∈ m) → l = m
 | [], [], _, _, _ => rfl
 | [], b :: m, _, _, h => by have := (h b).2 List.mem_cons_self; simp at this
 | a :: l, [], _, _, h => by have := (h a).1 List.mem_cons_self; simp at this
 | a :: l, b :: m, hl, hm, h => by
  rw [List.pairwise_cons] at hl hm
  have h1 := (h a).1 List.mem_cons_self
  have h2 := (h b).2 List.mem_cons_self
  have e : a = b := by
   rcases List.mem_cons.1 h1 with h1 | h1
   ·exact h1
   ·rcases List.mem_cons.1 h2 with h2 | h2
    ·exact h2.symm
    ·have := hl.1 b h2
     have := hm.1 a h1
     omega
  subst e
  rw [strict_ext l m hl.2 hm.2 (fun x => ?_)]
  constructor
  ·intro hx
   rcases List.mem_cons.1 ((h x).1 (List.mem_cons_of_mem _ hx)) with h3 | h3
   ·have := hl.1 x hx
    omega
   ·exact h3
  ·intro hx
   rcases List.mem_cons.1 ((h x).2 (List.mem_cons_of_mem _ hx)) with h3 | h3
   ·have := hm.1 x hx
    omega
   ·exact h3
theorem bang_rd (s : List Int) (j : Nat) (h : j < s.length) : s.toArray[j]! = rd s (j : Int) := by
 rw [Pl.rd_get s j h, getElem!_pos _ j (by simpa using h)]
 simp
theorem compact_spec (s : List Int) (hs : upTo s s.length) : (Lib.compactUpTo s.toArray s.toArray.size).Pairwise (· < ·) ∧ ∀ v, v ∈ Lib.compactUpTo s.toArray s.toArray.size ↔ v ∈ s := by
 have es : s.toArray.size = s.length := by simp
 rw [es]
 unfold Lib.compactUpTo
 constructor
 ·rw [List.pairwise_map, List.pairwise_filter]
  refine List.pairwise_lt_range.imp_of_mem ?_
  intro i j hi hj hij _ kj
  rw [List.mem_range] at hi hj
  rw [bang_rd s i hi, bang_rd s j hj]
  have kj' := of_decide_eq_true kj
  rcases kj' with k0 | k1
  ·omega
  ·rw [bang_rd s j hj, bang_rd s (j - 1) (by omega)] at k1
   have a : rd s (i : Int) ≤ rd s ((j - 1 : Nat) : Int) := by
    by_cases e : i = j - 1
    ·rw [e]; exact Int.le_refl _
    ·exact hs i (j - 1) (by omega) (by omega)
   have b := hs (j - 1) j (by omega) hj
   omega
 ·intro v
  rw [List.mem_map]
  constructor
  ·rintro ⟨j, hj, rfl⟩
   have := List.mem_range.1 (List.mem_filter.1 hj).1
   rw [bang_rd s j this, Pl.rd_get s j this]
   exact List.getElem_mem this
  ·intro hv
   have hh := (has_iff s v).2 hv
   obtain ⟨k, hk, hkv⟩ := hh
   have least : ∀ k : Nat, k < s.length → rd s (k : Int) = v → ∃ j, j < s.length ∧ rd s (j : Int) = v ∧ Lib.keeps s.toArray j = true := by
    intro k
    induction k with
    | zero => intro hk hkv; exact ⟨0, hk, hkv, decide_eq_true (.inl rfl)⟩
    | succ k ih =>
     intro hk hkv
     by_cases e : rd s (k : Int) = v
     ·exact ih (by omega) e
     ·refine ⟨k + 1, hk, hkv, decide_eq_true (.inr ?_)⟩
      rw [bang_rd s (k + 1) hk, Nat.add_sub_cancel, bang_rd s k (by omega), hkv]
      exact fun h => e h.symm
   obtain ⟨j, hj, hjv, hjk⟩ := least k hk hkv
   exact ⟨j, List.mem_filter.2 ⟨List.mem_range.2 hj, hjk⟩, by rw [bang_rd s j hj]; exact hjv⟩
theorem exprC_ok {e : List Nd} (h : exprC e = 0) : (1 ≤ e.length ∧ e.length ≤ 16) ∧ fineN e ∧ (∀ j, j < e.length → Pl.ok (kK e) (kL e) (kR e) j) ∧ Pl.sz (kK e) (kL e) (kR e) (e.length - 1) = e.length := by
 unfold exprC at h
 by_cases hl : 1 ≤ e.length ∧ e.length ≤ 16
 ·rw [if_pos hl] at h
  by_cases hn : nodesC 0 e = 0
  ·rw [if_pos hn] at h
   unfold shapeC at h
   by_cases hs : (∀ j, j < e.length → Pl.ok (kK e) (kL e) (kR e) j) ∧ Pl.sz (kK e) (kL e) (kR e) (e.length - 1) = e.length
   ·exact ⟨hl, (nodesC_fine e).1 hn, hs.1, hs.2⟩
   ·rw [if_neg hs] at h; exact absurd h (by omega)
  ·rw [if_neg hn] at h; exact absurd h hn
 ·rw [if_neg hl] at h; exact absurd h (by omega)
def varsL (l : List Nd) : List Int := (l.filter fun x => decide (x.f0 = 2)).map fun x => x.f1
theorem varsL_cons (x : Nd) (l : List Nd) : varsL (x :: l) = (if x.f0 = 2 then [x.f1] else []) ++ varsL l := by
 unfold varsL
 by_cases h : x.f0 = 2
 ·rw [List.filter_cons_of_pos (by simpa using h), if_pos h]
  rfl
 ·rw [List.filter_cons_of_neg (by simpa using h), if_neg h]
  rfl
theorem varsL_app (l m : List Nd) : varsL (l ++ m) = varsL l ++ varsL m := by
 unfold varsL
 rw [List.filter_append, List.map_append]
theorem varsL_succ (e : List Nd) (i : Nat) (h : i < e.length) : varsL (e.take (i + 1)) = varsL (e.take i) ++ (if e[i].f0 = 2 then [e[i].f1] else []) := by
 rw [List.take_add_one, List.getElem?_eq_getElem h, varsL_app, Option.toList_some, varsL_cons]
 unfold varsL
 simp
theorem varsL_len_le (l : List Nd) : (varsL l).length ≤ l.length := by
 unfold varsL
 rw [List.length_map]
 exact List.length_filter_le _ _
theorem seg_vars {K : Nat → Int} {L R : Nat → Nat} {n : Nat} (ha : Pl.ahead K L R n) : ∀ d i, i ≤ d → i < n → 2 * ((Pl.seg K L R i).filter fun j => decide (K j = 2)).length ≤ (Pl.seg K L R i).length + 1 := by
 intro d
 induction d with
 | zero =>
  intro i hd hi
  have h := ha i hi
  have h1 : ¬ 2 < K i := fun h' => by have := h.1 h'; omega
  have h2 : ¬ Pl.two (K i) = true := fun h' => h1 (Pl.two_inner h')
  rw [Pl.seg_eq ha hi, if_neg h1, if_neg h2]
  have := List.length_filter_le (fun j => decide (K j = 2)) [i]
  simp at this ⊢
  omega
 | succ d ih =>
  intro i hd hi
  have h := ha i hi
  rw [Pl.seg_eq ha hi]
  by_cases h1 : 2 < K i
  ·have hL := h.1 h1
   have iL := ih (L i) (by omega) (by omega)
   have hK : decide (K i = 2) = false := decide_eq_false (by omega)
   by_cases h2 : Pl.two (K i) = true
   ·have hR := h.2 h2
    have iR := ih (R i) (by omega) (by omega)
    rw [if_pos h1, if_pos h2]
    simp only [List.filter_append, List.length_append, List.filter_cons, hK, List.filter_nil, List.length_cons, List.length_nil]
    simp
    omega
   ·rw [if_pos h1, if_neg h2]
    simp only [List.filter_append, List.length_append, List.filter_cons, hK, List.filter_nil, List.length_cons, List.length_nil]
    simp
    omega
  ·have h2 : ¬ Pl.two (K i) = true := fun h' => h1 (Pl.two_inner h')
   rw [if_neg h1, if_neg h2]
   have := List.length_filter_le (fun j => decide (K j = 2)) [i]
   simp at this ⊢
   omega
theorem filter_range (e : List Nd) : (varsL e).length = ((List.range e.length).filter fun j => decide (kK e j = 2)).length := by
 have h : e = (List.range e.length).map fun j => e.getD j z70 := by
  apply List.ext_getElem
  ·simp
  ·intro j h1 h2
   simp [List.getD_eq_getElem?_getD, List.getElem?_eq_getElem h1]
 unfold varsL
 rw [List.length_map]
 conv => lhs; rw [h]
 rw [List.filter_map, List.length_map]
 rfl
theorem varsL_len {e : List Nd} (h : exprC e = 0) : (varsL e).length ≤ 8 := by
 obtain ⟨⟨h1, h16⟩, hf, hok, hs⟩ := exprC_ok h
 have ha := fineN_ahead hf
 have hk := fineN_le hf
 obtain ⟨_, e1⟩ := Pl.seg_range ha (e.length - 1) (by omega) (fun j hj => ⟨hk j (by omega), hok j (by omega)⟩)
 rw [hs, show e.length - 1 + 1 - e.length = 0 from by omega] at e1
 have c := seg_vars ha (e.length - 1) (e.length - 1) (Nat.le_refl _) (by omega)
 rw [e1, ← List.range_eq_range', ← filter_range, List.length_range] at c
 omega
theorem varsL_in {e : List Nd} (hf : fineN e) (v : Int) (hv : v ∈ varsL e) : 0 ≤ v ∧ v ≤ 3 := by
 unfold varsL at hv
 obtain ⟨x, hx, rfl⟩ := List.mem_map.1 hv
 obtain ⟨hx, h2⟩ := List.mem_filter.1 hx
 obtain ⟨i, hi, rfl⟩ := List.getElem_of_mem hx
 exact (nodeC_0 (hf i hi)).2.2.2.1 (of_decide_eq_true h2)
def specL (e : List Nd) (n : Nat) : List Int := ((List.range n).filter fun (v : Nat) => decide ((v : Int) ∈ varsL e)).map fun (v : Nat) => (v : Int)
theorem specL_succ (e : List Nd) (n : Nat) : specL e (n + 1) = specL e n ++ (if (n : Int) ∈ varsL e then [(n : Int)] else []) := by
 unfold specL
 rw [List.range_succ, List.filter_append, List.map_append]
 congr 1
 by_cases h : (n : Int) ∈ varsL e
 ·simp [h]
 ·simp [h]
theorem specL_len (e : List Nd) (n : Nat) : (specL e n).length ≤ n := by
 unfold specL
 rw [List.length_map]
 have := List.length_filter_le (fun (v : Nat) => decide ((v : Int) ∈ varsL e)) (List.range n)
 simpa using this
theorem specL_strict (e : List Nd) (n : Nat) : (specL e n).Pairwise (· < ·) := by
 unfold specL
 rw [List.pairwise_map, List.pairwise_filter]
 refine List.pairwise_lt_range.imp ?_
 intro i j hij _ _
 omega
theorem specL_mem {e : List Nd} (hf : fineN e) (v : Int) : v ∈ specL e 4 ↔ v ∈ varsL e := by
 unfold specL
 rw [List.mem_map]
 constructor
 ·rintro ⟨n, hn, rfl⟩
  exact of_decide_eq_true (List.mem_filter.1 hn).2
 ·intro hv
  obtain ⟨h0, h3⟩ := varsL_in hf v hv
  have e1 : ((v.toNat : Nat) : Int) = v := by omega
  exact ⟨v.toNat, List.mem_filter.2 ⟨List.mem_range.2 (by omega), decide_eq_true (by rw [e1]; exact hv)⟩, e1⟩
theorem specInner (e : List Nd) (hl : e.length ≤ 16) (v : Nat) (hv : v < 4) (c : Int) (acc : List Int) (ha : acc.length ≤ 4) (R : Int × List Int) : ∀ d i, e.length - i = d → i ≤ e.length →
  ((v : Int) ∈ varsL (e.drop i) → Ev (fun k => spec_VarsIn.l0 k e ((v : Int) + 1) c (acc ++ [(v : Int)])) R) → (¬ (v : Int) ∈ varsL (e.drop i) → Ev (fun k => spec_VarsIn.l0 k e ((v : Int) + 1) c acc) R) → Ev (fun k => spec_VarsIn.l1 k e (v : Int) (i : Int) c acc) R := by
 have wv : wrap64 ((v : Int) + 1) = (v : Int) + 1 := Pl.wrap_in (by omega) (by omega)
 intro d
 induction d with
 | zero =>
  intro i hd hi _ h2
  obtain rfl : i = e.length := by omega
  refine Ev.step (fun k => by rw [spec_VarsIn.l1]) (Pl.ev_ite_neg (by omega) ?_)
  rw [wv]
  exact h2 (by rw [List.drop_length]; simp [varsL])
 | succ d ih =>
  intro i hd hi h1 h2
  have hi' : i < e.length := by omega
  rw [Pl.drop_get hi', varsL_cons] at h1 h2
  refine Ev.step (fun k => by rw [spec_VarsIn.l1]) ?_
  rw [rd_iNode e i hi', wv, Pl.wrap_nat (show i < 9223372036854775807 by omega)]
  refine Pl.ev_ite_pos (by omega) (Pl.ev_ite_pos (by omega) ?_)
  by_cases hk : e[i].f0 = 2
  ·rw [if_pos hk] at h1 h2
   refine Pl.ev_ite_pos hk ?_
   by_cases he : e[i].f1 = (v : Int)
   ·exact Pl.ev_ite_pos he (Pl.ev_ite_pos (by omega) (h1 (by rw [he]; simp)))
   ·refine Pl.ev_ite_neg he ?_
    have := ih (i + 1) (by omega) (by omega) (fun h => h1 (List.mem_append_right _ h)) (fun h => h2 (fun h' => by
     rcases List.mem_append.1 h' with h' | h'
     ·rw [List.mem_singleton] at h'; exact he h'.symm
     ·exact h h'))
    simpa using this
  ·rw [if_neg hk, List.nil_append] at h1 h2
   refine Pl.ev_ite_neg hk ?_
   have := ih (i + 1) (by omega) (by omega) h1 h2
   simpa using this
theorem specVarsIn_ev (e : List Nd) (hl : e.length ≤ 16) : Ev (fun k => spec_VarsIn.l0 k e 0 0 ([] : List Int)) (0, specL e 4) := by
 have main : ∀ d v : Nat, 4 - v = d → v ≤ 4 → Ev (fun k => spec_VarsIn.l0 k e (v : Int) 0 (specL e v)) (0, specL e 4) := by
  intro d
  induction d with
  | zero =>
   intro v hd hv
   obtain rfl : v = 4 := by omega
   exact Ev.step (fun k => by rw [spec_VarsIn.l0]) (Pl.ev_ite_neg (by omega) (Ev.now _))
  | succ d ih =>
   intro v hd hv
   refine Ev.step (fun k => by rw [spec_VarsIn.l0]) (Pl.ev_ite_pos (by omega) ?_)
   have hs := specL_succ e v
   have nx := ih (v + 1) (by omega) (by omega)
   have hle := specL_len e v
   have := specInner e hl v (by omega) 0 (specL e v) (by omega) (0, specL e 4) e.length 0 (by omega) (Nat.zero_le _) (fun h => ?_) (fun h => ?_)
   ·simpa using this
   ·rw [List.drop_zero] at h
    rw [if_pos h] at hs
    rw [← hs]
    simpa using nx
   ·rw [List.drop_zero] at h
    rw [if_neg h, List.append_nil] at hs
    rw [← hs]
    simpa using nx
 have := main 4 0 rfl (by omega)
 simpa [specL] using this
theorem implVarsIn_ev (e : List Nd) (h : exprC e = 0) : Ev (fun k => impl_VarsIn.l0 k ([] : List Int) e (e.length : Int) 0) (0, specL e 4) := by
 obtain ⟨⟨h1, h16⟩, hf, _⟩ := exprC_ok h
 refine Pl.loop (σ := List Int) (n := e.length) (g := fun k i s => impl_VarsIn.l0 k s e (e.length : Int) i) (F := fun _ _ => ((0 : Int), specL e 4)) (fun i s => s = varsL (e.take i)) ?_ ?_ 0 [] (Nat.zero_le _) (by simp [varsL])
 ·intro s hs
  rw [List.take_length] at hs
  refine Ev.step (fun k => by rw [impl_VarsIn.l0]) (Pl.ev_ite_neg (by omega) ?_)
  have hl := varsL_len h
  obtain ⟨q, q1, q2, q3, q4⟩ := sort_ev s (by rw [hs]; omega)
  refine Pl.ev_bind' q4 ?_
  have ec : slices_Compact_int64_int64.f q = some (specL e 4) := by
   unfold slices_Compact_int64_int64.f
   rw [if_pos (by rw [q1, hs]; omega)]
   congr 1
   obtain ⟨c1, c2⟩ := compact_spec q (by rw [q1]; exact q2)
   refine strict_ext _ _ c1 (specL_strict e 4) (fun v => (c2 v).trans ((q3 v).trans ?_))
   rw [hs]
   exact (specL_mem hf v).symm
  rw [ec]
  exact Ev.now _
 ·intro i s hi hs ih
  have hse := varsL_succ e i hi
  have hle := varsL_len_le (e.take i)
  rw [List.length_take] at hle
  refine Ev.step (fun k => by rw [impl_VarsIn.l0]) ?_
  rw [rd_iNode e i hi, Pl.wrap_nat (show i < 9223372036854775807 by omega)]
  refine Pl.ev_ite_pos (by omega) (Pl.ev_ite_pos (by omega) (Pl.ev_ite_pos (by omega) ?_))
  by_cases hk : e[i].f0 = 2
  ·rw [if_pos hk] at hse
   exact Pl.ev_ite_pos hk (Pl.ev_ite_pos (by rw [hs]; omega) (ih _ (by rw [hs, hse])))
  ·rw [if_neg hk, List.append_nil] at hse
   exact Pl.ev_ite_neg hk (ih _ (by rw [hs, hse]))
theorem varsIn_ev (e : List Nd) (hl0 : e.length ≤ 1048576) : ∃ (l : List Int), l.length ≤ 1048576 ∧ Ev (fun k => spec_VarsIn.f k e) (exprC e, l) ∧ Ev (fun k => impl_VarsIn.f k e) (exprC e, l) ∧ (exprC e = 0 → l = specL e 4) := by
 by_cases h : exprC e = 0
 ·obtain ⟨⟨h1, h16⟩, hf, _⟩ := exprC_ok h
  refine ⟨specL e 4, Nat.le_trans (specL_len e 4) (by omega), ?_, ?_, fun _ => rfl⟩
  ·unfold spec_VarsIn.f
   rw [h]
   exact Pl.ev_bind' (h ▸ spec3Fault_ev e hl0) (Pl.ev_ite_pos rfl (specVarsIn_ev e h16))
  ·unfold impl_VarsIn.f
   rw [h]
   exact Pl.ev_bind' (h ▸ implExpr_ev e) (Pl.ev_ite_pos rfl (implVarsIn_ev e h))
 ·refine ⟨[], by simp, ?_, ?_, fun h' => absurd h' h⟩
  ·unfold spec_VarsIn.f
   exact Pl.ev_bind' (spec3Fault_ev e hl0) (Pl.ev_ite_neg h (Ev.now _))
  ·unfold impl_VarsIn.f
   exact Pl.ev_bind' (implExpr_ev e) (Pl.ev_ite_neg h (Ev.now _))
def codeOk (c : List Int) : Prop := c.length ≤ 1048577 ∧ ∀ x ∈ c, 0 ≤ x ∧ x ≤ 255
theorem wf_u8 {x : Int} (h : (Lit.int .u8 x).wf = true) : 0 ≤ x ∧ x ≤ 255 := by
 simp [Lit.wf, IntKind.min, IntKind.max, IntKind.signed, IntKind.bits] at h
 omega
theorem codeOk_of {c : List Int} (h : ¬ (c.length : Int) > 1048576) (hc : ∀ x ∈ c, (Lit.int .u8 x).wf = true) : codeOk c := ⟨by omega, fun x hx => wf_u8 (hc x hx)⟩
theorem rd_byte {c : List Int} (hc : ∀ x ∈ c, 0 ≤ x ∧ x ≤ 255) (i : Int) : 0 ≤ rd c i ∧ rd c i ≤ 255 := by
 unfold rd
 rw [List.getD_eq_getElem?_getD]
 cases h : c[i.toNat]? with
 | none => simp
 | some x => exact hc x (List.mem_of_getElem? h)
theorem tmod_in {x n : Int} (hx : 0 ≤ x) (hn : 0 < n) : 0 ≤ Int.tmod x n ∧ Int.tmod x n < n := by
 rw [Int.tmod_eq_emod_of_nonneg hx]
 exact ⟨Int.emod_nonneg _ (by omega), Int.emod_lt_of_pos _ hn⟩
theorem tdiv_in {x n : Int} (hx : 0 ≤ x) (hn : 0 < n) : 0 ≤ Int.tdiv x n ∧ Int.tdiv x n ≤ x := by
 rw [Int.tdiv_eq_ediv_of_nonneg hx]
 exact ⟨Int.ediv_nonneg hx (by omega), Int.ediv_le_self _ hx⟩
theorem next_ev {c : List Int} (hc : codeOk c) (a : Int) (h0 : 0 ≤ a) (h1 : a ≤ 1000000) (n : Int) (n0 : 1 ≤ n) (n1 : n ≤ 1000000) : ∃ v, spec_l1Next.f c a n = some (v, a + 1) ∧ 0 ≤ v ∧ v < n := by
 obtain ⟨hl, hb⟩ := hc
 unfold spec_l1Next.f
 have e1 : wrap64 (a + 1) = a + 1 := Pl.wrap_in (by omega) (by omega)
 have e2 : wrap64 (a + 1 - 1) = a := by rw [Pl.wrap_in (by omega) (by omega)]; omega
 rw [if_neg (by omega), e1, e2]
 by_cases k0 : (c.length : Int) = 0
 ·rw [if_pos k0, if_neg (by omega), Pl.wrap_in (x := a * 7) (by omega) (by omega)]
  exact ⟨_, rfl, tmod_in (by omega) (by omega)⟩
 ·obtain ⟨t0, t1⟩ := tmod_in (x := a) (n := (c.length : Int)) h0 (by omega)
  obtain ⟨d0, d1⟩ := tdiv_in (x := a) (n := (c.length : Int)) h0 (by omega)
  obtain ⟨b0, b1⟩ := rd_byte hb (Int.tmod a (c.length : Int))
  rw [if_neg k0, if_pos t0, if_pos t1]
  have w1 : wrap64 (rd c (Int.tmod a (c.length : Int))) = rd c (Int.tmod a (c.length : Int)) := Pl.wrap_in (by omega) (by omega)
  have w2 : wrap64 (Int.tdiv a (c.length : Int)) = Int.tdiv a (c.length : Int) := Pl.wrap_in (by omega) (by omega)
  have w3 : wrap64 (Int.tdiv a (c.length : Int) * 37) = Int.tdiv a (c.length : Int) * 37 := Pl.wrap_in (by omega) (by omega)
  have w4 : wrap64 (rd c (Int.tmod a (c.length : Int)) + Int.tdiv a (c.length : Int) * 37) = rd c (Int.tmod a (c.length : Int)) + Int.tdiv a (c.length : Int) * 37 := Pl.wrap_in (by omega) (by omega)
  by_cases big : n > 200
  ·obtain ⟨u0, u1⟩ := tmod_in (x := a + 1) (n := (c.length : Int)) (by omega) (by omega)
   obtain ⟨q0, q1⟩ := rd_byte hb (Int.tmod (a + 1) (c.length : Int))
   rw [if_pos big, e1, if_pos u0, if_pos u1, if_neg (by omega), w1, w2, w3, w4]
   have w5 : wrap64 (rd c (Int.tmod (a + 1) (c.length : Int))) = rd c (Int.tmod (a + 1) (c.length : Int)) := Pl.wrap_in (by omega) (by omega)
   rw [w5]
   refine ⟨_, rfl, tmod_in ?_ (by omega)⟩
   rw [Pl.wrap_in (x := (rd c (Int.tmod a (c.length : Int)) + Int.tdiv a (c.length : Int) * 37) * 251) (by omega) (by omega), Pl.wrap_in (x := rd c (Int.tmod (a + 1) (c.length : Int)) * 13) (by omega) (by omega)]
   rw [Pl.wrap_in (x := (rd c (Int.tmod a (c.length : Int)) + Int.tdiv a (c.length : Int) * 37) * 251 + rd c (Int.tmod (a + 1) (c.length : Int)) * 13) (by omega) (by omega), Pl.wrap_in (by omega) (by omega)]
   omega
  ·rw [if_neg big, if_neg (by omega), w1, w2, w3, w4]
   exact ⟨_, rfl, tmod_in (by omega) (by omega)⟩
theorem pick_ev {c : List Int} (hc : codeOk c) (a : Int) (h0 : 0 ≤ a) (h1 : a ≤ 1000000) (l : List Int) (l0 : 1 ≤ l.length) (l1 : l.length ≤ 1000) : ∃ v, spec_l1Pick.f c a l = some (v, a + 1) ∧ v ∈ l := by
 obtain ⟨v, e, v0, v1⟩ := next_ev hc a h0 h1 (l.length : Int) (by omega) (by omega)
 unfold spec_l1Pick.f
 rw [e, Option.bind_some]
 refine ⟨rd l v, by rw [if_pos v0, if_pos v1], ?_⟩
 obtain ⟨i, rfl⟩ : ∃ i : Nat, v = i := ⟨v.toNat, by omega⟩
 rw [Pl.rd_get l i (by omega)]
 exact List.getElem_mem _
abbrev NdD := S70
theorem chance_ev {c : List Int} (hc : codeOk c) (a : Int) (h0 : 0 ≤ a) (h1 : a ≤ 1000000) (n : Int) (n0 : 1 ≤ n) (n1 : n ≤ 1000000) : ∃ b, spec_l1Chance.f c a n = some (b, a + 1) := by
 obtain ⟨v, e, v0, v1⟩ := next_ev hc a h0 h1 n n0 n1
 exact ⟨v == 0, by unfold spec_l1Chance.f; rw [e, Option.bind_some]⟩
theorem max_eq (x y : Int) : spec_l1Max.f x y = some (if x > y then x else y) := by
 unfold spec_l1Max.f
 by_cases h : x > y
 ·rw [if_pos h, if_pos h]
 ·rw [if_neg h, if_neg h]
theorem some_ev {α : Type} {o : Option α} {x : α} (h : o = some x) : Ev (fun _ => o) x := by rw [h]; exact Ev.now _
def drawsN (B : Int) (M : Nat) (Q : Int) (g : Nat → Int → List NdD → Option (List NdD × Int)) : Prop :=
 ∀ a l, 0 ≤ a → a ≤ B → (l.length : Int) ≤ B → ∃ e' a', Ev (fun k => g k a l) (e', a') ∧ l.length < e'.length ∧ e'.length ≤ l.length + M ∧ a ≤ a' ∧ a' ≤ a + Q
theorem drawsN_le {B B' : Int} {M M' : Nat} {Q Q' : Int} {g : Nat → Int → List NdD → Option (List NdD × Int)} (h : drawsN B M Q g) (hB : B' ≤ B) (hM : M ≤ M') (hQ : Q ≤ Q') : drawsN B' M' Q' g := by
 intro a l h0 h1 h2
 obtain ⟨e', a', p1, p2, p3, p4, p5⟩ := h a l h0 (by omega) (by omega)
 exact ⟨e', a', p1, p2, by omega, p4, by omega⟩
theorem make_leaf (c : List Int) (hc : codeOk c) (t d : Int) : drawsN 100000 1 4 (fun k a l => spec_l3Make.j0 k l t d true c a) := by
 intro a l h0 h1 hl
 obtain ⟨b, eb⟩ := chance_ev hc a h0 (by omega) 2 (by omega) (by omega)
 by_cases hb : b = true
 ·obtain ⟨v, ev, _, _⟩ := next_ev hc (a + 1) (by omega) (by omega) 3 (by omega) (by omega)
  refine ⟨l ++ [⟨2, v, 0, 0⟩], a + 1 + 1, ?_, by simp, by simp, by omega, by omega⟩
  show Ev (fun k => spec_l3Make.j0 k l t d true c a) _
  refine Ev.step (fun k => by rw [spec_l3Make.j0]) (Pl.ev_ite_pos rfl ?_)
  rw [eb]
  simp only [Option.bind_some]
  refine Pl.ev_ite_pos hb ?_
  rw [ev]
  exact Pl.ev_ite_pos (by omega) (Ev.now _)
 ·obtain ⟨v, ev, _, _⟩ := next_ev hc (a + 1) (by omega) (by omega) 20 (by omega) (by omega)
  obtain ⟨u, eu, _⟩ := pick_ev hc (a + 1 + 1) (by omega) (by omega) [0, 1, 2, v, 9999] (by simp) (by simp)
  refine ⟨l ++ [⟨1, u, 0, 0⟩], a + 1 + 1 + 1, ?_, by simp, by simp, by omega, by omega⟩
  show Ev (fun k => spec_l3Make.j0 k l t d true c a) _
  refine Ev.step (fun k => by rw [spec_l3Make.j0]) (Pl.ev_ite_pos rfl ?_)
  rw [eb]
  simp only [Option.bind_some]
  refine Pl.ev_ite_neg hb ?_
  rw [ev]
  simp only [Option.bind_some]
  rw [eu]
  exact Pl.ev_ite_pos (by omega) (Ev.now _)
theorem make_parts {c : List Int} {part kind d d' B : Int} {M : Nat} {Q : Int} (hB : B ≤ 100000) (hM : M ≤ 100) (hQ : 0 ≤ Q) (hQ' : Q ≤ 500) (hd : (if 0 > wrap64 (d - 1) then 0 else wrap64 (d - 1)) = d')
  (H : drawsN B M Q (fun k a l => spec_l3Make.f k c a l part d')) : drawsN (B - 1000) (2 * M + 1) (2 * Q) (fun k a l => spec_l3Make.j1 k l d kind part c a) := by
 intro a l h0 h1 hl
 obtain ⟨e1, a1, ev1, p1, p2, p3, p4⟩ := H a l h0 (by omega) (by omega)
 obtain ⟨e2, a2, ev2, q1, q2, q3, q4⟩ := H a1 e1 (by omega) (by omega) (by omega)
 have ev1' : Ev (fun k => spec_l3Make.f k c a l part d') (e1, a1) := ev1
 have ev2' : Ev (fun k => spec_l3Make.f k c a1 e1 part d') (e2, a2) := ev2
 by_cases hk : kind = 10
 ·refine ⟨e1 ++ [⟨kind, 0, wrap64 ((e1.length : Int) - 1), 0⟩], a1, ?_, by simp; omega, by simp; omega, by omega, by omega⟩
  show Ev (fun k => spec_l3Make.j1 k l d kind part c a) _
  refine Ev.step (fun k => by rw [spec_l3Make.j1]) ?_
  rw [max_eq, hd]
  simp only [Option.bind_some]
  exact Pl.ev_bind' ev1' (Pl.ev_ite_pos hk (Pl.ev_ite_pos (show e1.length < 4398046511104 by omega) (Ev.now _)))
 ·refine ⟨e2 ++ [⟨kind, 0, wrap64 ((e1.length : Int) - 1), wrap64 ((e2.length : Int) - 1)⟩], a2, ?_, by simp; omega, by simp; omega, by omega, by omega⟩
  show Ev (fun k => spec_l3Make.j1 k l d kind part c a) _
  refine Ev.step (fun k => by rw [spec_l3Make.j1]) ?_
  rw [max_eq, hd]
  simp only [Option.bind_some]
  exact Pl.ev_bind' ev1' (Pl.ev_ite_neg hk (Pl.ev_bind' ev2' (Pl.ev_ite_pos (show e2.length < 4398046511104 by omega) (Ev.now _))))
theorem make_step {c : List Int} (hc : codeOk c) {t d d' B : Int} {M : Nat} {Q : Int} (ht : t = 1 ∨ t = 2) (hB : B ≤ 100000) (hM : M ≤ 100) (hQ : 4 ≤ Q) (hQ' : Q ≤ 500) (hd : (if 0 > wrap64 (d - 1) then 0 else wrap64 (d - 1)) = d') (ht0 : t = 1 → d ≠ 0)
  (H1 : drawsN B M Q (fun k a l => spec_l3Make.f k c a l 1 d')) (H2 : d > 1 → drawsN B M Q (fun k a l => spec_l3Make.f k c a l 2 d')) : drawsN (B - 2000) (2 * M + 1) (2 * Q + 10) (fun k a l => spec_l3Make.f k c a l t d) := by
 intro a l h0 h1 hl
 have inner : ∀ a : Int, 0 ≤ a → a ≤ B - 1999 → ∃ e' a', Ev (fun k => spec_l3Make.j0 k l t d false c a) (e', a') ∧ l.length < e'.length ∧ e'.length ≤ l.length + (2 * M + 1) ∧ a ≤ a' ∧ a' ≤ a + (2 * Q + 4) := by
  intro a h0 h1
  obtain ⟨v, ev, v0, v1⟩ := next_ev hc a h0 (by omega) 4 (by omega) (by omega)
  by_cases h2 : t = 2
  ·obtain ⟨u, eu, u0, u1⟩ := next_ev hc (a + 1) (by omega) (by omega) 2 (by omega) (by omega)
   by_cases hdd : d > 1
   ·obtain ⟨b, eb⟩ := chance_ev hc (a + 1 + 1) (by omega) (by omega) 3 (by omega) (by omega)
    by_cases hb : b = true
    ·obtain ⟨q, eq, q0, q1⟩ := next_ev hc (a + 1 + 1 + 1) (by omega) (by omega) 2 (by omega) (by omega)
     obtain ⟨e', a', p1, p2, p3, p4, p5⟩ := make_parts (kind := wrap64 (9 + q)) hB hM (by omega) hQ' hd (H2 hdd) (a + 1 + 1 + 1 + 1) l (by omega) (by omega) (by omega)
     refine ⟨e', a', Ev.step (fun k => by rw [spec_l3Make.j0]) (Pl.ev_ite_neg (by simp) ?_), p2, p3, by omega, by omega⟩
     rw [ev]
     simp only [Option.bind_some]
     refine Pl.ev_ite_pos h2 ?_
     rw [eu]
     simp only [Option.bind_some]
     refine Pl.ev_ite_pos hdd ?_
     rw [eb]
     simp only [Option.bind_some]
     refine Pl.ev_ite_pos hb ?_
     rw [eq]
     exact p1
    ·obtain ⟨e', a', p1, p2, p3, p4, p5⟩ := make_parts (kind := wrap64 (7 + u)) hB hM (by omega) hQ' hd H1 (a + 1 + 1 + 1) l (by omega) (by omega) (by omega)
     refine ⟨e', a', Ev.step (fun k => by rw [spec_l3Make.j0]) (Pl.ev_ite_neg (by simp) ?_), p2, p3, by omega, by omega⟩
     rw [ev]
     simp only [Option.bind_some]
     refine Pl.ev_ite_pos h2 ?_
     rw [eu]
     simp only [Option.bind_some]
     refine Pl.ev_ite_pos hdd ?_
     rw [eb]
     simp only [Option.bind_some]
     exact Pl.ev_ite_neg hb p1
   ·obtain ⟨e', a', p1, p2, p3, p4, p5⟩ := make_parts (kind := wrap64 (7 + u)) hB hM (by omega) hQ' hd H1 (a + 1 + 1) l (by omega) (by omega) (by omega)
    refine ⟨e', a', Ev.step (fun k => by rw [spec_l3Make.j0]) (Pl.ev_ite_neg (by simp) ?_), p2, p3, by omega, by omega⟩
    rw [ev]
    simp only [Option.bind_some]
    refine Pl.ev_ite_pos h2 ?_
    rw [eu]
    simp only [Option.bind_some]
    exact Pl.ev_ite_neg hdd p1
  ·obtain ⟨e', a', p1, p2, p3, p4, p5⟩ := make_parts (kind := wrap64 (3 + v)) hB hM (by omega) hQ' hd H1 (a + 1) l (by omega) (by omega) (by omega)
   refine ⟨e', a', Ev.step (fun k => by rw [spec_l3Make.j0]) (Pl.ev_ite_neg (by simp) ?_), p2, p3, by omega, by omega⟩
   rw [ev]
   simp only [Option.bind_some]
   exact Pl.ev_ite_neg h2 p1
 show ∃ e' a', Ev (fun k => spec_l3Make.f k c a l t d) (e', a') ∧ _
 by_cases h2 : t = 1
 ·obtain ⟨b, eb⟩ := chance_ev hc a h0 (by omega) 3 (by omega) (by omega)
  cases b with
  | true =>
   obtain ⟨e', a', p1, p2, p3, p4, p5⟩ := make_leaf c hc t d (a + 1) l (by omega) (by omega) (by omega)
   refine ⟨e', a', Ev.step (fun k => by rw [spec_l3Make.f]) (Pl.ev_ite_pos h2 (Pl.ev_ite_neg (ht0 h2) ?_)), p2, by omega, by omega, by omega⟩
   rw [eb]
   exact p1
  | false =>
   obtain ⟨e', a', p1, p2, p3, p4, p5⟩ := inner (a + 1) (by omega) (by omega)
   refine ⟨e', a', Ev.step (fun k => by rw [spec_l3Make.f]) (Pl.ev_ite_pos h2 (Pl.ev_ite_neg (ht0 h2) ?_)), p2, by omega, by omega, by omega⟩
   rw [eb]
   exact p1
 ·obtain ⟨e', a', p1, p2, p3, p4, p5⟩ := inner a h0 (by omega)
  exact ⟨e', a', Ev.step (fun k => by rw [spec_l3Make.f]) (Pl.ev_ite_neg h2 p1), p2, p3, p4, by omega⟩
theorem make_int0 {c : List Int} (hc : codeOk c) : drawsN 100000 1 4 (fun k a l => spec_l3Make.f k c a l 1 0) := by
 intro a l h0 h1 hl
 obtain ⟨e', a', p1, p2, p3, p4, p5⟩ := make_leaf c hc 1 0 a l h0 h1 hl
 refine ⟨e', a', ?_, p2, p3, p4, p5⟩
 show Ev (fun k => spec_l3Make.f k c a l 1 0) (e', a')
 exact Ev.step (fun k => by rw [spec_l3Make.f]) (Pl.ev_ite_pos rfl (Pl.ev_ite_pos rfl p1))
theorem make_ev {c : List Int} (hc : codeOk c) (t : Int) (ht : t = 1 ∨ t = 2) (d : Int) (hd : d = 1 ∨ d = 2) : drawsN 90000 7 100 (fun k a l => spec_l3Make.f k c a l t d) := by
 have w0 : wrap64 ((1 : Int) - 1) = 0 := by rw [Pl.wrap_in (by omega) (by omega)]; rfl
 have w1 : wrap64 ((2 : Int) - 1) = 1 := by rw [Pl.wrap_in (by omega) (by omega)]; rfl
 have i0 := make_int0 hc
 have one : ∀ t : Int, t = 1 ∨ t = 2 → drawsN 98000 3 18 (fun k a l => spec_l3Make.f k c a l t 1) := fun t ht => make_step hc ht (by omega) (by omega) (by omega) (by omega) (by rw [w0, if_neg (by omega)]) (fun _ => by omega) i0 (fun h => by omega)
 rcases hd with rfl | rfl
 ·exact drawsN_le (one t ht) (by omega) (by omega) (by omega)
 ·exact drawsN_le (make_step hc ht (by omega) (by omega) (by omega) (by omega) (by rw [w1, if_neg (by omega)]) (fun _ => by omega) (one 1 (.inl rfl)) (fun _ => one 2 (.inr rfl))) (by omega) (by omega) (by omega)
theorem draw3_ev {c : List Int} (hc : codeOk c) (a : Int) (h0 : 0 ≤ a) (h1 : a ≤ 10000) (t : Int) (ht : t = 1 ∨ t = 2) : ∃ e' a', Ev (fun k => spec_l3Draw.f k c a t) (e', a') ∧ 1 ≤ e'.length ∧ e'.length ≤ 7 ∧ a ≤ a' ∧ a' ≤ a + 200 := by
 obtain ⟨d, ed, hd⟩ := pick_ev hc a h0 (by omega) [1, 1, 2] (by simp) (by simp)
 have hd' : d = 1 ∨ d = 2 := by
  simp only [List.mem_cons, List.not_mem_nil, or_false] at hd
  omega
 obtain ⟨e', a', p1, p2, p3, p4, p5⟩ := make_ev hc t ht d hd' (a + 1) [] (by omega) (by omega) (by simp)
 simp only [List.length_nil] at p2 p3
 refine ⟨e', a', ?_, by omega, by omega, by omega, by omega⟩
 unfold spec_l3Draw.f
 rw [ed]
 simp only [Option.bind_some]
 exact Pl.ev_bind' p1 (Ev.step (fun k => by rw [spec_l3Draw.l0]) (Pl.ev_ite_neg (by show ¬ (e'.length : Int) > 16; omega) (Ev.now _)))
theorem bent3_ev {c : List Int} (hc : codeOk c) (a : Int) (h0 : 0 ≤ a) (h1 : a ≤ 1000) : ∃ e' a', Ev (fun k => spec_l3Bent.f k c a) (e', a') ∧ e'.length ≤ 17 ∧ a ≤ a' ∧ a' ≤ a + 300 := by
 obtain ⟨b, eb, b0, b1⟩ := next_ev hc a h0 (by omega) 2 (by omega) (by omega)
 obtain ⟨e, a1, ev, l1, l7, q1, q2⟩ := draw3_ev hc (a + 1) (by omega) (by omega) (1 + b) (by omega)
 obtain ⟨i, ei, i0, i1⟩ := next_ev hc a1 (by omega) (by omega) (e.length : Int) (by omega) (by omega)
 obtain ⟨s, es, s0, s1⟩ := next_ev hc (a1 + 1) (by omega) (by omega) 12 (by omega) (by omega)
 have start : ∀ R, Ev (fun k => (if s = 0 then ((spec_l1Pick.f c (a1 + 1 + 1) (([0, 11, 1, 9, 10] : List Int))).bind fun bt405 => (if 0 ≤ i then (if i < (e.length : Int) then (some ((e.set (i : Int).toNat (⟨bt405.1, (rd_T70 e i).f1, (rd_T70 e i).f2, (rd_T70 e i).f3⟩ : S70)), bt405.2)) else (none)) else (none))) else (if s = 1 then ((spec_l1Pick.f c (a1 + 1 + 1) (([(-1), 4, 10000] : List Int))).bind fun bt411 => (if 0 ≤ i then (if i < (e.length : Int) then (some ((e.set (i : Int).toNat (⟨(rd_T70 e i).f0, bt411.1, (rd_T70 e i).f2, (rd_T70 e i).f3⟩ : S70)), bt411.2)) else (none)) else (none))) else (if s = 2 then ((spec_l1Pick.f c (a1 + 1 + 1) (([0, 1, 9, (-1)] : List Int))).bind fun bt417 => (if 0 ≤ i then (if i < (e.length : Int) then (some ((e.set (i : Int).toNat (⟨(rd_T70 e i).f0, (rd_T70 e i).f1, bt417.1, (rd_T70 e i).f3⟩ : S70)), bt417.2)) else (none)) else (none))) else (if s = 3 then ((spec_l1Pick.f c (a1 + 1 + 1) (([0, 1, 9] : List Int))).bind fun bt423 => (if 0 ≤ i then (if i < (e.length : Int) then (some ((e.set (i : Int).toNat (⟨(rd_T70 e i).f0, (rd_T70 e i).f1, (rd_T70 e i).f2, bt423.1⟩ : S70)), bt423.2)) else (none)) else (none))) else (if s = 4 then (if 17 ≤ 8796093022208 then (some ((List.replicate 17 z70), (a1 + 1 + 1))) else (none)) else (if s = 5 then (if e.length < 4398046511104 then (some ((e ++ [(⟨1, 0, 0, 0⟩ : S70)]), (a1 + 1 + 1))) else (none)) else (some (e, (a1 + 1 + 1)))))))))) R → Ev (fun k => spec_l3Bent.f k c a) R := by
  intro R h
  unfold spec_l3Bent.f
  rw [eb]
  simp only [Option.bind_some]
  rw [Pl.wrap_in (x := 1 + b) (by omega) (by omega)]
  refine Pl.ev_bind' ev ?_
  simp only [ei, Option.bind_some]
  simp only [es, Option.bind_some]
  exact h
 have set : ∀ (l : List Int) (hl : 1 ≤ l.length) (hl' : l.length ≤ 1000) (mk : Int → S70), ∃ e' a', (spec_l1Pick.f c (a1 + 1 + 1) l).bind (fun bt => (if 0 ≤ i then (if i < (e.length : Int) then (some ((e.set (i : Int).toNat (mk bt.1)), bt.2)) else (none)) else (none))) = some (e', a') ∧ e'.length ≤ 17 ∧ a ≤ a' ∧ a' ≤ a + 300 := by
  intro l hl hl' mk
  obtain ⟨u, eu, _⟩ := pick_ev hc (a1 + 1 + 1) (by omega) (by omega) l hl hl'
  refine ⟨e.set i.toNat (mk u), a1 + 1 + 1 + 1, by rw [eu, Option.bind_some, if_pos i0, if_pos i1], by simp; omega, by omega, by omega⟩
 by_cases c0 : s = 0
 ·obtain ⟨e', a', p1, p2, p3, p4⟩ := set [0, 11, 1, 9, 10] (by simp) (by simp) (fun v => ⟨v, (rd_T70 e i).f1, (rd_T70 e i).f2, (rd_T70 e i).f3⟩)
  exact ⟨e', a', start _ (Pl.ev_ite_pos c0 (some_ev p1)), p2, p3, p4⟩
 by_cases c1 : s = 1
 ·obtain ⟨e', a', p1, p2, p3, p4⟩ := set [(-1), 4, 10000] (by simp) (by simp) (fun v => ⟨(rd_T70 e i).f0, v, (rd_T70 e i).f2, (rd_T70 e i).f3⟩)
  exact ⟨e', a', start _ (Pl.ev_ite_neg c0 (Pl.ev_ite_pos c1 (some_ev p1))), p2, p3, p4⟩
 by_cases c2 : s = 2
 ·obtain ⟨e', a', p1, p2, p3, p4⟩ := set [0, 1, 9, (-1)] (by simp) (by simp) (fun v => ⟨(rd_T70 e i).f0, (rd_T70 e i).f1, v, (rd_T70 e i).f3⟩)
  exact ⟨e', a', start _ (Pl.ev_ite_neg c0 (Pl.ev_ite_neg c1 (Pl.ev_ite_pos c2 (some_ev p1)))), p2, p3, p4⟩
 by_cases c3 : s = 3
 ·obtain ⟨e', a', p1, p2, p3, p4⟩ := set [0, 1, 9] (by simp) (by simp) (fun v => ⟨(rd_T70 e i).f0, (rd_T70 e i).f1, (rd_T70 e i).f2, v⟩)
  exact ⟨e', a', start _ (Pl.ev_ite_neg c0 (Pl.ev_ite_neg c1 (Pl.ev_ite_neg c2 (Pl.ev_ite_pos c3 (some_ev p1))))), p2, p3, p4⟩
 by_cases c4 : s = 4
 ·exact ⟨List.replicate 17 z70, a1 + 1 + 1, start _ (Pl.ev_ite_neg c0 (Pl.ev_ite_neg c1 (Pl.ev_ite_neg c2 (Pl.ev_ite_neg c3 (Pl.ev_ite_pos c4 (Pl.ev_ite_pos (by omega) (Ev.now _))))))), by simp, by omega, by omega⟩
 by_cases c5 : s = 5
 ·exact ⟨e ++ [⟨1, 0, 0, 0⟩], a1 + 1 + 1, start _ (Pl.ev_ite_neg c0 (Pl.ev_ite_neg c1 (Pl.ev_ite_neg c2 (Pl.ev_ite_neg c3 (Pl.ev_ite_neg c4 (Pl.ev_ite_pos c5 (Pl.ev_ite_pos (by omega) (Ev.now _)))))))), by simp; omega, by omega, by omega⟩
 exact ⟨e, a1 + 1 + 1, start _ (Pl.ev_ite_neg c0 (Pl.ev_ite_neg c1 (Pl.ev_ite_neg c2 (Pl.ev_ite_neg c3 (Pl.ev_ite_neg c4 (Pl.ev_ite_neg c5 (Ev.now _))))))), by omega, by omega, by omega⟩
end Go.Proofs.Ytmppibhdnajjjaa.V
