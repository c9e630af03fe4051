/- Plain words on functions with rounds: what a call comes to with rounds enough. No condition. What the program's picks of a code come to. No condition. What the checks of a range come to. No condition. A node read out of a list. (UNode for a law that compares no nodes.) No condition. Plain words on expressions: the nodes below a node, in order; when they stand as they have to. No condition. What the program and the reference say of an expression's nodes and of whether it is one: both the same. No condition. Whether a list of nodes is an expression: the program and the reference say the same. No condition. Whether a list of nodes is an expression: what the program says. No condition. The text of an expression, as the program makes it. No condition. Expressions as trees: their nodes in order, and their texts. No condition. Decimal digits: the number that they are, and back. No condition. What the reference's reader of expressions reads: a tree's text, and no other. No condition. The reference's reader of expressions: what it reads is a tree's text, and it reads every tree's text. No condition. The program's reader of expressions: it ends on every text, and reads every tree's text. No condition. The text of an expression, with its code: the program and the reference say the same. No condition. The draws that a law's own inputs are made of: each is a number below its bound. No condition. The expressions and variables that a law draws: there are some, and they are short. No condition. The expressions that are drawn are trees; the text that the reference draws for ParseExpr is there for every code. No condition. -/
import Derived.Test.YtmppibhdnajjjaaDoorWMore
import Derived.Lib.Strings
import Derived.Test.YtmppibhdnajjjaaDoorP3
import Derived.Test.YtmppibhdnajjjaaDoorP2
import Derived.Test.YtmppibhdnajjjaaDoorP5
import Derived.Test.YtmppibhdnajjjaaDoorP4
import Derived.Test.YtmppibhdnajjjaaDoorPH
import Derived.Test.YtmppibhdnajjjaaDoorP6
import Derived.Lib.ParseIntBTie
import Derived.Lib.ParseIntBCases
import Derived.Test.YtmppibhdnajjjaaDoorP7
import Derived.Test.YtmppibhdnajjjaaDoorP8
import Derived.Test.YtmppibhdnajjjaaDoorP9
import Derived.Test.YtmppibhdnajjjaaDoorP10
import Derived.Test.YtmppibhdnajjjaaDoorP11
import Derived.Test.YtmppibhdnajjjaaDoorP12
import Derived.Test.YtmppibhdnajjjaaDoorP13
import Derived.Test.YtmppibhdnajjjaaDoorPD
namespace Go.Proofs.YtmppibhdnajjjaaDoor
open Go.RowKit Go.Proofs.YtmppibhdnajjjaaDoorW.PrintWords Go.Proofs.YtmppibhdnajjjaaDoorW.PrintLast Go.Proofs.YtmppibhdnajjjaaDoorW.PrintMore
namespace Pl
variable {α β σ : Type}
theorem ev_iff_congr {g f : Nat → Option α} {r : α} (h : ∃ K, ∀ k, K ≤ k → g k = f k) : Ev g r ↔ Ev f r := by
 obtain ⟨K, h⟩ := h
 constructor
 ·rintro ⟨K', h'⟩
  exact ⟨max K K', fun k hk => by rw [← h k (by omega)]; exact h' k (by omega)⟩
 ·rintro ⟨K', h'⟩
  exact ⟨max K K', fun k hk => by rw [h k (by omega)]; exact h' k (by omega)⟩
theorem ev_some {x r : α} : Ev (fun _ => some x) r ↔ x = r := by
 constructor
 ·rintro ⟨K, h⟩
  exact Option.some.inj (h K (Nat.le_refl _))
 ·rintro rfl
  exact Ev.now _
theorem ev_none {r : α} : Ev (fun _ => none) r ↔ False := by
 constructor
 ·rintro ⟨K, h⟩
  exact absurd (h K (Nat.le_refl _)) (by simp)
 ·exact False.elim
theorem ev_ite {c : Prop} [Decidable c] {a b : Nat → Option α} {r : α} : Ev (fun k => if c then a k else b k) r ↔ if c then Ev a r else Ev b r := by
 by_cases h : c
 ·simp only [if_pos h]
 ·simp only [if_neg h]
theorem ev_bind {g : Nat → Option α} {f : Nat → α → Option β} {a : α} {r : β} (h : Ev g a) : Ev (fun k => (g k).bind (f k)) r ↔ Ev (fun k => f k a) r := by
 obtain ⟨K, h⟩ := h
 exact ev_iff_congr ⟨K, fun k hk => by rw [h k hk, Option.bind_some]⟩
theorem ev_bind' {g : Nat → Option α} {f : Nat → α → Option β} {a : α} {r : β} (h : Ev g a) (hf : Ev (fun k => f k a) r) : Ev (fun k => (g k).bind (f k)) r := (ev_bind h).2 hf
theorem ev_ite_pos {c : Prop} [Decidable c] {a b : Nat → Option α} {r : α} (hc : c) (h : Ev a r) : Ev (fun k => if c then a k else b k) r := by
 simp only [if_pos hc]; exact h
theorem ev_ite_neg {c : Prop} [Decidable c] {a b : Nat → Option α} {r : α} (hc : ¬ c) (h : Ev b r) : Ev (fun k => if c then a k else b k) r := by
 simp only [if_neg hc]; exact h
theorem ev_unique {g : Nat → Option α} {r s : α} (h : Ev g r) (h' : Ev g s) : r = s := by
 obtain ⟨K, h⟩ := h
 obtain ⟨K', h'⟩ := h'
 have h1 := h (max K K') (by omega)
 have h2 := h' (max K K') (by omega)
 rw [h1] at h2
 exact Option.some.inj h2
theorem ev_to {g : Nat → Option α} {r s : α} (h : Ev g r) (e : r = s) : Ev g s := e ▸ h
theorem loop {n : Nat} {g : Nat → Int → σ → Option β} {F : Nat → σ → β} (I : Nat → σ → Prop)
  (hend : ∀ s, I n s → Ev (fun k => g k (n : Int) s) (F n s))
  (hstep : ∀ i s, i < n → I i s → (∀ s', I (i + 1) s' → Ev (fun k => g k ((i : Int) + 1) s') (F (i + 1) s')) → Ev (fun k => g k (i : Int) s) (F i s)) :
  ∀ i s, i ≤ n → I i s → Ev (fun k => g k (i : Int) s) (F i s) := by
 intro i s hi
 obtain ⟨d, hd⟩ : ∃ d, n - i = d := ⟨_, rfl⟩
 induction d generalizing i s with
 | zero =>
  intro hI
  obtain rfl : i = n := by omega
  exact hend s hI
 | succ d ih =>
  intro hI
  refine hstep i s (by omega) hI (fun s' hI' => ?_)
  have := ih (i + 1) s' (by omega) (by omega) hI'
  simpa using this
theorem loop0 {n : Nat} {g : Nat → Int → Option β} {F : Nat → β}
  (hend : Ev (fun k => g k (n : Int)) (F n))
  (hstep : ∀ i, i < n → Ev (fun k => g k ((i : Int) + 1)) (F (i + 1)) → Ev (fun k => g k (i : Int)) (F i)) :
  ∀ i, i ≤ n → Ev (fun k => g k (i : Int)) (F i) := fun i hi =>
 loop (σ := Unit) (g := fun k i _ => g k i) (F := fun i _ => F i) (fun _ _ => True) (fun _ _ => hend) (fun i _ h _ hs => hstep i h (hs () trivial)) i () hi trivial
theorem wrap_nat {i : Nat} (h : i < 9223372036854775807) : wrap64 ((i : Int) + 1) = (i : Int) + 1 := by unfold wrap64; omega
theorem wrap_in {x : Int} (h : -9223372036854775808 ≤ x) (h' : x ≤ 9223372036854775807) : wrap64 x = x := by unfold wrap64; omega
theorem wf_i64 {x : Int} (h : (Lit.int .i64 x).wf = true) : -9223372036854775808 ≤ x ∧ x ≤ 9223372036854775807 := by
 simp [Lit.wf, IntKind.min, IntKind.max, IntKind.signed, IntKind.bits] at h
 omega
/-! bytes -/
theorem bt_get (s : ByteArray) (i : Nat) (h : i < s.size) : bt s (i : Int) = ((s.data.toList[i]'(by simpa using h)).toNat : Int) := by
 unfold bt
 rw [dif_pos (by simpa using h)]
 simp [ByteArray.getElem_eq_getElem_data]
theorem drop_get {l : List α} {i : Nat} (h : i < l.length) : l.drop i = l[i] :: l.drop (i + 1) := List.drop_eq_getElem_cons h
theorem size_toList (s : ByteArray) : s.data.toList.length = s.size := by simp
theorem toList_data (s : ByteArray) : s.toList = s.data.toList := ByteArray.toList_eq s
theorem bt_l {s : ByteArray} {l : List UInt8} (hl : s.data.toList = l) (i : Nat) (h : i < l.length) : bt s (i : Int) = (l[i].toNat : Int) := by
 subst hl
 exact bt_get s i (by simpa using h)
theorem size_l {s : ByteArray} {l : List UInt8} (hl : s.data.toList = l) : s.size = l.length := by subst hl; simp
theorem toList_l {s : ByteArray} {l : List UInt8} (hl : s.data.toList = l) : s.toList = l := by rw [toList_data, hl]
theorem drop_end {l : List α} : l.drop l.length = [] := List.drop_length
def smallB (c : UInt8) : Bool := decide (97 ≤ c.toNat ∧ c.toNat ≤ 122)
def printB (c : UInt8) : Bool := decide (32 ≤ c.toNat ∧ c.toNat ≤ 126)
def digitB (c : UInt8) : Bool := decide (48 ≤ c.toNat ∧ c.toNat ≤ 57)
def blankB (c : UInt8) : Bool := decide (c.toNat = 32 ∨ c.toNat = 10)
def nameC (l : List UInt8) : Int := if l = [] then 5 else if l.all smallB = true then (if l.length > 8 then 2 else 0) else 5
def valueC (l : List UInt8) : Int := if l.length > 40 then 2 else if l.all printB = true then 0 else 5
theorem rd_get (l : List Int) (i : Nat) (h : i < l.length) : rd l (i : Int) = l[i] := by
 unfold rd
 simp [List.getD_eq_getElem?_getD, List.getElem?_eq_getElem h]
theorem getD_get {l : List α} {z : α} {i : Nat} (h : i < l.length) : l.getD ((i : Int)).toNat z = l[i] := by
 simp [List.getD_eq_getElem?_getD, List.getElem?_eq_getElem h]
theorem fill {l : List α} {f : α → β} {z : β} {g : Nat → Int → List β → Option (List β)}
  (hend : ∀ acc, acc.length = l.length → Ev (fun k => g k (l.length : Int) acc) acc)
  (hstep : ∀ i (hi : i < l.length) acc, acc.length = l.length → Ev (fun k => g k ((i : Int) + 1) (acc.set i (f l[i]))) (l.map f) → Ev (fun k => g k (i : Int) acc) (l.map f)) :
  Ev (fun k => g k 0 (List.replicate l.length z)) (l.map f) := by
 have h := loop (n := l.length) (g := g) (F := fun _ _ => l.map f) (fun i acc => acc.length = l.length ∧ acc.take i = (l.map f).take i)
  (fun acc hI => ?_) (fun i acc hi hI hs => hstep i hi acc hI.1 (hs _ ⟨by simp [hI.1], ?_⟩)) 0 (List.replicate l.length z) (Nat.zero_le _) ⟨by simp, by simp⟩
 ·simpa using h
 ·have e : acc = l.map f := by
   have h1 := hI.2
   rw [List.take_of_length_le (by rw [hI.1]; exact Nat.le_refl _), List.take_of_length_le (by simp)] at h1
   exact h1
  have := hend acc hI.1
  rwa [e] at this ⊢
 ·have h1 : i < (l.map f).length := by simpa using hi
  obtain ⟨hI1, hI2⟩ := hI
  apply List.ext_getElem?
  intro j
  have hj := congrArg (fun z => z[j]?) hI2
  simp only [List.getElem?_take] at hj ⊢
  by_cases h2 : j < i
  ·rw [if_pos h2, if_pos h2] at hj
   rw [if_pos (by omega), if_pos (by omega), List.getElem?_set_ne (by omega), hj]
  ·by_cases h3 : j = i
   ·subst h3
    rw [if_pos (by omega), if_pos (by omega), List.getElem?_set_self (by omega), List.getElem?_eq_getElem h1]
    simp
   ·rw [if_neg (by omega), if_neg (by omega)]
theorem left {l : List α} {B : α → Prop} {g : Nat → Int → Int → Option Int}
  (hend : ∀ x, Ev (fun k => g k (l.length : Int) x) x)
  (hstep : ∀ i (hi : i < l.length) x, 0 ≤ x → x ≤ 1048576 → ∃ r, -1 ≤ r ∧ r ≤ x ∧ (0 ≤ r → B l[i]) ∧ (r < 0 → Ev (fun k => g k (i : Int) x) (-1)) ∧ (0 ≤ r → ∀ R, Ev (fun k => g k ((i : Int) + 1) r) R → Ev (fun k => g k (i : Int) x) R)) :
  ∀ x, 0 ≤ x → x ≤ 1048576 → ∃ r, -1 ≤ r ∧ r ≤ x ∧ (0 ≤ r → ∀ y ∈ l, B y) ∧ Ev (fun k => g k 0 x) r := by
 have main : ∀ d i x, i ≤ l.length → l.length - i = d → 0 ≤ x → x ≤ 1048576 → ∃ r, -1 ≤ r ∧ r ≤ x ∧ (0 ≤ r → ∀ y ∈ l.drop i, B y) ∧ Ev (fun k => g k (i : Int) x) r := by
  intro d
  induction d with
  | zero =>
   intro i x hi hd h0 h1
   obtain rfl : i = l.length := by omega
   exact ⟨x, by omega, Int.le_refl _, by simp, hend x⟩
  | succ d ih =>
   intro i x hi hd h0 h1
   have hi' : i < l.length := by omega
   obtain ⟨r, hr0, hr1, hB, hneg, hpos⟩ := hstep i hi' x h0 h1
   by_cases h : 0 ≤ r
   ·obtain ⟨q, hq0, hq1, hqB, hq⟩ := ih (i + 1) r (by omega) (by omega) h (by omega)
    refine ⟨q, hq0, by omega, fun h2 => ?_, hpos h q (by simpa using hq)⟩
    rw [drop_get hi']
    intro y hy
    rcases List.mem_cons.1 hy with rfl | hy
    ·exact hB h
    ·exact hqB h2 y hy
   ·exact ⟨-1, by omega, by omega, by omega, hneg (by omega)⟩
 intro x h0 h1
 obtain ⟨r, a, b, c, d⟩ := main _ 0 x (Nat.zero_le _) rfl h0 h1
 exact ⟨r, a, b, by simpa using c, by simpa using d⟩
def firstC : List Int → Int
 | [] => 0
 | c :: l => if c = 0 then firstC l else c
end Pl
end Go.Proofs.YtmppibhdnajjjaaDoor
namespace Go.Proofs.YtmppibhdnajjjaaDoor.P
set_option linter.unusedVariables false
set_option linter.unusedSimpArgs false
open Go.RowKit Go.Proofs.YtmppibhdnajjjaaDoor Go.Proofs.YtmppibhdnajjjaaDoorW.PrintWords Go.Proofs.YtmppibhdnajjjaaDoorW.PrintLast
theorem codeIf_eq (b : Bool) (c : Int) : impl_codeIf.f b c = some (if b = true then c else 0) := by
 unfold impl_codeIf.f
 cases b <;> rfl
theorem firstCode_l (l : List Int) (hl : l.length < 1000) : ∀ i, i ≤ l.length → Ev (fun k => impl_firstCode.l0 k l (l.length : Int) (i : Int)) (Pl.firstC (l.drop i)) := by
 refine Pl.loop0 (g := fun k i => impl_firstCode.l0 k l (l.length : Int) i) ?_ ?_
 ·refine Ev.step (fun k => by rw [impl_firstCode.l0]) ?_
  simp [Pl.ev_some, Pl.firstC]
 ·intro i hi ih
  refine Ev.step (fun k => by rw [impl_firstCode.l0]) ?_
  rw [Pl.drop_get hi]
  have e := Pl.rd_get l i hi
  simp only [Pl.ev_ite, Pl.ev_some, Pl.ev_none, Pl.firstC, e, Pl.wrap_nat (show i < 9223372036854775807 by omega)]
  rw [if_pos (by omega), if_pos (by omega), if_pos (by omega)]
  split
  ·exact ih
  ·rfl
theorem firstCode_ev (l : List Int) (hl : l.length < 1000) : Ev (fun k => impl_firstCode.f k l) (Pl.firstC l) := firstCode_l l hl 0 (Nat.zero_le _)
theorem l1In_eq (a lo hi : Int) : spec_l1In.f a lo hi = some (decide (lo ≤ a ∧ a ≤ hi)) := by
 unfold spec_l1In.f
 by_cases h : a ≥ lo
 ·rw [if_pos h]; congr 1; rw [decide_eq_decide]; omega
 ·rw [if_neg h]; congr 1; rw [eq_comm, decide_eq_false_iff_not]; omega
theorem inRange_eq (a lo hi : Int) : impl_inRange.f a lo hi = some (decide (lo ≤ a ∧ a ≤ hi)) := by
 unfold impl_inRange.f
 by_cases h : lo ≤ a
 ·rw [if_pos h]; congr 1; rw [decide_eq_decide]; omega
 ·rw [if_neg h]; congr 1; rw [eq_comm, decide_eq_false_iff_not]; omega
theorem rd_iNode (l : List S45) (i : Nat) (h : i < l.length) : rd_T45 l (i : Int) = l[i] := Pl.getD_get h
end Go.Proofs.YtmppibhdnajjjaaDoor.P
namespace Go.Proofs.YtmppibhdnajjjaaDoor
set_option linter.unusedVariables false
set_option linter.unusedSimpArgs false
namespace Pl
def two (k : Int) : Bool := decide (3 ≤ k ∧ k ≤ 9)
section
variable (K : Nat → Int) (L R : Nat → Nat)
def segF : Nat → Nat → List Nat
 | 0, _ => []
 | f + 1, i => (if 2 < K i then segF f (L i) else []) ++ (if two (K i) = true then segF f (R i) else []) ++ [i]
def seg (i : Nat) : List Nat := segF K L R (i + 1) i
def sz (i : Nat) : Nat := (seg K L R i).length
def ahead (n : Nat) : Prop := ∀ i, i < n → (2 < K i → L i < i) ∧ (two (K i) = true → R i < i)
def ok (i : Nat) : Prop := (K i = 10 → L i + 1 = i) ∧ (two (K i) = true → R i + 1 = i ∧ L i + 1 + sz K L R (R i) = i)
variable {K L R}
theorem two_inner {k : Int} (h : two k = true) : 2 < k := by have := of_decide_eq_true h; omega
theorem segF_more {n : Nat} (ha : ahead K L R n) : ∀ f g i, i < n → i < f → i < g → segF K L R f i = segF K L R g i
 | 0, _, _, _, h, _ => absurd h (by omega)
 | _, 0, _, _, _, h => absurd h (by omega)
 | f + 1, g + 1, i, hn, hf, hg => by
  obtain ⟨h1, h2⟩ := ha i hn
  unfold segF
  congr 2
  ·split
   ·rename_i h; have := h1 h; exact segF_more ha f g (L i) (by omega) (by omega) (by omega)
   ·rfl
  ·split
   ·rename_i h; have := h2 h; exact segF_more ha f g (R i) (by omega) (by omega) (by omega)
   ·rfl
theorem seg_eq {n : Nat} (ha : ahead K L R n) {i : Nat} (hn : i < n) : seg K L R i = (if 2 < K i then seg K L R (L i) else []) ++ (if two (K i) = true then seg K L R (R i) else []) ++ [i] := by
 obtain ⟨h1, h2⟩ := ha i hn
 unfold seg
 rw [segF]
 congr 2
 ·split
  ·rename_i h; have := h1 h; exact segF_more ha _ _ (L i) (by omega) (by omega) (by omega)
  ·rfl
 ·split
  ·rename_i h; have := h2 h; exact segF_more ha _ _ (R i) (by omega) (by omega) (by omega)
  ·rfl
theorem sz_eq {n : Nat} (ha : ahead K L R n) {i : Nat} (hn : i < n) : sz K L R i = (if 2 < K i then sz K L R (L i) else 0) + (if two (K i) = true then sz K L R (R i) else 0) + 1 := by
 unfold sz
 rw [seg_eq ha hn]
 simp only [List.length_append, List.length_singleton]
 congr 2
 ·split <;> rfl
 ·split <;> rfl
theorem sz_pos {n : Nat} (ha : ahead K L R n) {i : Nat} (hn : i < n) : 1 ≤ sz K L R i := by rw [sz_eq ha hn]; omega
theorem sz_le {n : Nat} (ha : ahead K L R n) : ∀ i, i < n → sz K L R i + 1 ≤ 2 ^ (i + 1) := by
 intro i
 induction i using Nat.strongRecOn with
 | _ i ih =>
  intro hn
  obtain ⟨h1, h2⟩ := ha i hn
  rw [sz_eq ha hn]
  have p : ∀ j, j < i → sz K L R j + 1 ≤ 2 ^ i := fun j hj => Nat.le_trans (ih j hj (by omega)) (Nat.pow_le_pow_right (by omega) (by omega))
  have q : 1 ≤ 2 ^ i := Nat.one_le_two_pow
  rw [Nat.pow_succ]
  split
  ·rename_i h
   have := p _ (h1 h)
   split
   ·rename_i h'
    have := p _ (h2 h')
    omega
   ·omega
  ·rename_i h
   rw [if_neg (fun h' => h (two_inner h'))]
   omega
theorem seg_last {n : Nat} (ha : ahead K L R n) {i : Nat} (hn : i < n) : ∃ l, seg K L R i = l ++ [i] := ⟨_, seg_eq ha hn⟩
theorem seg_range {n : Nat} (ha : ahead K L R n) : ∀ i, i < n → (∀ j, j ≤ i → K j ≤ 10 ∧ ok K L R j) → sz K L R i ≤ i + 1 ∧ seg K L R i = List.range' (i + 1 - sz K L R i) (sz K L R i) := by
 intro i
 induction i using Nat.strongRecOn with
 | _ i ih =>
  intro hn hok
  obtain ⟨h1, h2⟩ := ha i hn
  obtain ⟨hk, o1, o2⟩ := hok i (Nat.le_refl _)
  have es := sz_eq ha hn
  rw [seg_eq ha hn]
  by_cases hT : two (K i) = true
  ·have hI := two_inner hT
   obtain ⟨o3, o4⟩ := o2 hT
   have hl := h1 hI
   have hr := h2 hT
   obtain ⟨a1, a2⟩ := ih (L i) hl (by omega) (fun j hj => hok j (by omega))
   obtain ⟨b1, b2⟩ := ih (R i) hr (by omega) (fun j hj => hok j (by omega))
   rw [if_pos hI, if_pos hT] at es ⊢
   refine ⟨by omega, ?_⟩
   rw [a2, b2, es]
   rw [show i + 1 - (sz K L R (L i) + sz K L R (R i) + 1) = L i + 1 - sz K L R (L i) from by omega]
   rw [show R i + 1 - sz K L R (R i) = L i + 1 - sz K L R (L i) + sz K L R (L i) from by omega]
   rw [← List.range'_append_1, ← List.range'_append_1]
   congr 1
   rw [List.range'_one]
   congr 1
   omega
  ·by_cases hI : 2 < K i
   ·have h10 : K i = 10 := by
     have : ¬ (3 ≤ K i ∧ K i ≤ 9) := fun e => hT (decide_eq_true e)
     omega
    have o3 := o1 h10
    obtain ⟨a1, a2⟩ := ih (L i) (h1 hI) (by omega) (fun j hj => hok j (by omega))
    rw [if_pos hI, if_neg hT] at es ⊢
    refine ⟨by omega, ?_⟩
    rw [a2, es, List.append_nil]
    rw [show i + 1 - (sz K L R (L i) + 0 + 1) = L i + 1 - sz K L R (L i) from by omega, Nat.add_zero, ← List.range'_append_1]
    congr 1
    rw [List.range'_one]
    congr 1
    omega
   ·rw [if_neg hI, if_neg hT] at es ⊢
    refine ⟨by omega, ?_⟩
    rw [es]
    simp
theorem append_last {α : Type} {l m : List α} {x y : α} (h : l ++ [x] = m ++ [y]) : l = m ∧ x = y := by
 have := List.append_inj' h rfl
 simpa using this
theorem range_split {a n : Nat} {l m : List Nat} (h : List.range' a n = l ++ m) : l = List.range' a l.length ∧ m = List.range' (a + l.length) m.length := by
 have hn : n = l.length + m.length := by have := congrArg List.length h; simpa using this
 rw [hn, ← List.range'_append_1] at h
 have := List.append_inj h (by simp)
 exact ⟨this.1.symm, this.2.symm⟩
theorem range_ok {n : Nat} (ha : ahead K L R n) : ∀ i, i < n → ∀ a m, seg K L R i = List.range' a m → ∀ j ∈ seg K L R i, ok K L R j := by
 intro i
 induction i using Nat.strongRecOn with
 | _ i ih =>
  intro hn a m h
  obtain ⟨h1, h2⟩ := ha i hn
  have e := seg_eq ha hn
  rw [h, List.append_assoc] at e
  obtain ⟨e1, e2⟩ := range_split e
  obtain ⟨e3, e4⟩ := range_split e2.symm
  have e5 := e4
  simp only [List.length_singleton, List.range'_one, List.cons.injEq, and_true] at e5
  rw [seg_eq ha hn]
  intro j hj
  simp only [List.mem_append, List.mem_singleton] at hj
  by_cases hT : two (K i) = true
  ·have hI := two_inner hT
   have hl := h1 hI
   have hr := h2 hT
   rw [if_pos hI, if_pos hT] at hj
   rw [if_pos hI] at e1 e3 e5
   rw [if_pos hT] at e3 e5
   have sl : (seg K L R (L i)).length = sz K L R (L i) := rfl
   have sr : (seg K L R (R i)).length = sz K L R (R i) := rfl
   rcases hj with (hj | hj) | rfl
   ·exact ih (L i) hl (by omega) _ _ e1 j hj
   ·exact ih (R i) hr (by omega) _ _ e3 j hj
   ·obtain ⟨l, hl'⟩ := seg_last ha (show L j < n by omega)
    obtain ⟨m', hm'⟩ := seg_last ha (show R j < n by omega)
    have pl := sz_pos ha (show L j < n by omega)
    have pr := sz_pos ha (show R j < n by omega)
    rw [sl] at e1 e3 e5
    rw [sr] at e3 e5
    have f1 : L j + 1 = a + sz K L R (L j) := by
     rw [hl'] at e1
     rw [show sz K L R (L j) = (sz K L R (L j) - 1) + 1 from by omega, ← List.range'_append_1, List.range'_one] at e1
     have := (append_last e1).2
     omega
    have f2 : R j + 1 = a + sz K L R (L j) + sz K L R (R j) := by
     rw [hm'] at e3
     rw [show sz K L R (R j) = (sz K L R (R j) - 1) + 1 from by omega, ← List.range'_append_1, List.range'_one] at e3
     have := (append_last e3).2
     omega
    refine ⟨fun h10 => ?_, fun _ => ⟨by omega, by omega⟩⟩
    have := of_decide_eq_true hT
    omega
  ·by_cases hI : 2 < K i
   ·have hl := h1 hI
    rw [if_pos hI, if_neg hT] at hj
    rw [if_pos hI] at e1 e5
    rw [if_neg hT] at e5
    have sl : (seg K L R (L i)).length = sz K L R (L i) := rfl
    rcases hj with (hj | hj) | rfl
    ·exact ih (L i) hl (by omega) _ _ e1 j hj
    ·simp at hj
    ·obtain ⟨l, hl'⟩ := seg_last ha (show L j < n by omega)
     have pl := sz_pos ha (show L j < n by omega)
     rw [sl] at e1 e5
     have f1 : L j + 1 = a + sz K L R (L j) := by
      rw [hl'] at e1
      rw [show sz K L R (L j) = (sz K L R (L j) - 1) + 1 from by omega, ← List.range'_append_1, List.range'_one] at e1
      have := (append_last e1).2
      omega
     refine ⟨fun _ => ?_, fun h => absurd h hT⟩
     simp at e5
     omega
   ·rw [if_neg hI, if_neg hT] at hj
    rcases hj with (hj | hj) | rfl
    ·simp at hj
    ·simp at hj
    ·exact ⟨fun h => absurd (by omega : 2 < K j) hI, fun h => absurd h hT⟩
variable (K L R)
def walkF : Nat → Nat → List Int → List Int
 | 0, _, out => out
 | f + 1, i, out => if 16 < out.length then out else
   (if two (K i) = true then walkF f (R i) (if 2 < K i then walkF f (L i) out else out) else (if 2 < K i then walkF f (L i) out else out)) ++ [(i : Int)]
variable {K L R}
theorem walkF_short : ∀ f i out, (walkF K L R f i out).length ≤ 16 → i < f → (∀ n, i < n → ahead K L R n → walkF K L R f i out = out ++ (segF K L R f i).map Int.ofNat) := by
 intro f
 induction f with
 | zero => intro i out _ h; omega
 | succ f ih =>
  intro i out hlen hf n hn ha
  obtain ⟨h1, h2⟩ := ha i hn
  unfold walkF at hlen ⊢
  unfold segF
  by_cases h : 16 < out.length
  ·rw [if_pos h] at hlen; omega
  ·rw [if_neg h] at hlen ⊢
   by_cases hI : 2 < K i
   ·have hl := h1 hI
    simp only [if_pos hI] at hlen ⊢
    by_cases hT : two (K i) = true
    ·have hr := h2 hT
     simp only [if_pos hT, List.length_append, List.length_singleton] at hlen ⊢
     have e1 := ih (R i) (walkF K L R f (L i) out) (by omega) (by omega) n (by omega) ha
     have e2 := ih (L i) out (by rw [e1] at hlen; simp at hlen; omega) (by omega) n (by omega) ha
     rw [e1, e2]
     simp
    ·simp only [if_neg hT, List.length_append, List.length_singleton] at hlen ⊢
     have e2 := ih (L i) out (by omega) (by omega) n (by omega) ha
     rw [e2]
     simp
   ·have hT : ¬ two (K i) = true := fun e => hI (two_inner e)
    simp [hI, hT]
theorem walkF_fits : ∀ f i out, out.length + (segF K L R f i).length ≤ 16 → i < f → (∀ n, i < n → ahead K L R n → walkF K L R f i out = out ++ (segF K L R f i).map Int.ofNat) := by
 intro f
 induction f with
 | zero => intro i out _ h; omega
 | succ f ih =>
  intro i out hlen hf n hn ha
  obtain ⟨h1, h2⟩ := ha i hn
  unfold walkF
  unfold segF at hlen ⊢
  simp only [List.length_append, List.length_singleton] at hlen
  rw [if_neg (by omega)]
  by_cases hI : 2 < K i
  ·have hl := h1 hI
   simp only [if_pos hI] at hlen ⊢
   have e2 := ih (L i) out (by omega) (by omega) n (by omega) ha
   by_cases hT : two (K i) = true
   ·have hr := h2 hT
    simp only [if_pos hT] at hlen ⊢
    have e1 := ih (R i) (walkF K L R f (L i) out) (by rw [e2]; simp; omega) (by omega) n (by omega) ha
    rw [e1, e2]
    simp
   ·simp only [if_neg hT] at hlen ⊢
    rw [e2]
    simp
  ·have hT : ¬ two (K i) = true := fun e => hI (two_inner e)
   simp [hI, hT]
theorem walk_iff {n : Nat} (h0 : 0 < n) (h16 : n ≤ 16) (ha : ahead K L R n) (hk : ∀ i, i < n → K i ≤ 10) :
  walkF K L R n (n - 1) [] = (List.range n).map Int.ofNat ↔ (∀ j, j < n → ok K L R j) ∧ sz K L R (n - 1) = n := by
 have es : segF K L R n (n - 1) = seg K L R (n - 1) := by unfold seg; rw [show n - 1 + 1 = n from by omega]
 constructor
 ·intro h
  have e := walkF_short n (n - 1) [] (by rw [h]; simpa using h16) (by omega) n (by omega) ha
  rw [h, es, List.nil_append] at e
  have e' : List.range n = seg K L R (n - 1) := by
   have inj : ∀ (l m : List Nat), l.map Int.ofNat = m.map Int.ofNat → l = m := fun l m hlm => (List.map_inj_right (fun a b hab => Int.ofNat.inj hab)).1 hlm
   exact inj _ _ e
  have hr : seg K L R (n - 1) = List.range' 0 n := by rw [← e', List.range_eq_range']
  refine ⟨fun j hj => range_ok ha (n - 1) (by omega) 0 n hr j ?_, ?_⟩
  ·rw [← e']; exact List.mem_range.2 hj
  ·unfold sz; rw [← e']; simp
 ·rintro ⟨hok, hs⟩
  obtain ⟨_, e⟩ := seg_range ha (n - 1) (by omega) (fun j hj => ⟨hk j (by omega), hok j (by omega)⟩)
  rw [hs, show n - 1 + 1 - n = 0 from by omega] at e
  rw [walkF_fits n (n - 1) [] (by rw [es, e]; simpa using h16) (by omega) n (by omega) ha, es, e, List.range_eq_range']
  rfl
end
end Pl
end Go.Proofs.YtmppibhdnajjjaaDoor
namespace Go.Proofs.YtmppibhdnajjjaaDoor.P
set_option linter.unusedVariables false
set_option linter.unusedSimpArgs false
open Go.RowKit Go.Proofs.YtmppibhdnajjjaaDoor Go.Proofs.YtmppibhdnajjjaaDoorW.PrintWords Go.Proofs.YtmppibhdnajjjaaDoorW.PrintLast
theorem l3Two_eq (k : Int) : spec_l3Two.f k = some (Pl.two k) := by unfold spec_l3Two.f; rw [l1In_eq]; rfl
theorem isTwo_eq (k : Int) : impl_isTwo.f k = some (Pl.two k) := by unfold impl_isTwo.f; rw [inRange_eq]; rfl
def nodeC (K V L R i : Int) : Int :=
 if K = 1 ∨ K = 2 then (if L ≠ 0 ∨ R ≠ 0 then 1 else if 0 ≤ V ∧ V ≤ (if K = 2 then 3 else 9999) then 0 else 3)
 else if K = 10 then (if V ≠ 0 ∨ R ≠ 0 then 1 else if 0 ≤ L ∧ L ≤ i - 1 then 0 else 3)
 else if 3 ≤ K ∧ K ≤ 9 then (if V ≠ 0 then 1 else if (0 ≤ L ∧ L ≤ i - 1) ∧ (0 ≤ R ∧ R ≤ i - 1) then 0 else 3)
 else 1
theorem first2 (a b c d : Int) (p q : Prop) [Decidable p] [Decidable q] (hc : c ≠ 0) : Pl.firstC [if p then c else 0, if q then d else 0] = if p then c else if q then d else 0 := by
 by_cases hp : p
 ·simp [Pl.firstC, hp, hc]
 ·by_cases hq : q
  ·simp only [Pl.firstC, hp, hq, if_true, if_false]; split <;> simp_all
  ·simp [Pl.firstC, hp, hq]
theorem implNode_ev (K V L R i : Int) (h0 : 0 ≤ i) (h1 : i ≤ 100) : Ev (fun k => impl_nodeFault.f k K V L R i) (nodeC K V L R i) := by
 have ew : wrap64 (i - 1) = i - 1 := Pl.wrap_in (by omega) (by omega)
 have j0 : ∀ b : Bool, b = decide (K = 1 ∨ K = 2) → Ev (fun k => impl_nodeFault.j0 k i b K V L R) (nodeC K V L R i) := by
  intro b hb
  refine Ev.step (fun k => by rw [impl_nodeFault.j0]) ?_
  simp only [codeIf_eq, inRange_eq, isTwo_eq, Option.bind_some, Pl.ev_ite, ew]
  unfold nodeC
  by_cases h : K = 1 ∨ K = 2
  ·rw [if_pos (by rw [hb]; simpa using h), if_pos h]
   by_cases h2 : K = 2
   ·rw [if_pos h2, if_pos h2]
    refine Ev.step (fun k => by rw [impl_nodeFault.j1]) ?_
    simp only [codeIf_eq, inRange_eq, Option.bind_some, Pl.ev_ite]
    split
    ·rename_i hL
     refine Pl.ev_bind' (firstCode_ev _ (by simp)) (Pl.ev_some.2 ?_)
     by_cases hR : R = 0
     ·by_cases hV : 0 ≤ V ∧ V ≤ 3 <;> simp [Pl.firstC, hL, hR, hV]
     ·simp [Pl.firstC, hL, hR]
    ·rename_i hL
     refine Pl.ev_bind' (firstCode_ev _ (by simp)) (Pl.ev_some.2 ?_)
     simp [Pl.firstC, hL]
   ·rw [if_neg h2, if_neg h2]
    refine Ev.step (fun k => by rw [impl_nodeFault.j1]) ?_
    simp only [codeIf_eq, inRange_eq, Option.bind_some, Pl.ev_ite]
    split
    ·rename_i hL
     refine Pl.ev_bind' (firstCode_ev _ (by simp)) (Pl.ev_some.2 ?_)
     by_cases hR : R = 0
     ·by_cases hV : 0 ≤ V ∧ V ≤ 9999 <;> simp [Pl.firstC, hL, hR, hV]
     ·simp [Pl.firstC, hL, hR]
    ·rename_i hL
     refine Pl.ev_bind' (firstCode_ev _ (by simp)) (Pl.ev_some.2 ?_)
     simp [Pl.firstC, hL]
  ·rw [if_neg (by rw [hb]; simpa using h), if_neg h]
   by_cases hN : K = 10
   ·rw [if_pos hN, if_pos hN]
    by_cases hV : V = 0
    ·rw [if_pos hV]
     refine Pl.ev_bind' (firstCode_ev _ (by simp)) (Pl.ev_some.2 ?_)
     by_cases hR : R = 0
     ·by_cases hL : 0 ≤ L ∧ L ≤ i - 1 <;> simp [Pl.firstC, hV, hR, hL]
     ·simp [Pl.firstC, hV, hR]
    ·rw [if_neg hV]
     refine Pl.ev_bind' (firstCode_ev _ (by simp)) (Pl.ev_some.2 ?_)
     simp [Pl.firstC, hV]
   ·rw [if_neg hN, if_neg hN]
    by_cases hT : 3 ≤ K ∧ K ≤ 9
    ·have e : Pl.two K = true := decide_eq_true hT
     rw [if_pos e, if_pos hT]
     by_cases hL : 0 ≤ L ∧ L ≤ i - 1
     ·rw [if_pos (by simpa using hL)]
      refine Pl.ev_bind' (firstCode_ev _ (by simp)) (Pl.ev_some.2 ?_)
      by_cases hV : V = 0
      ·by_cases hR : 0 ≤ R ∧ R ≤ i - 1 <;> simp [Pl.firstC, hV, hR, hL]
      ·simp [Pl.firstC, hV]
     ·rw [if_neg (by simpa using hL)]
      refine Pl.ev_bind' (firstCode_ev _ (by simp)) (Pl.ev_some.2 ?_)
      by_cases hV : V = 0
      ·have hL' : ¬ ((0 ≤ L ∧ L ≤ i - 1) ∧ 0 ≤ R ∧ R ≤ i - 1) := fun h => hL h.1
       simp only [Pl.firstC, hV, ne_eq, not_true_eq_false, if_false, if_neg hL']
       simp
      ·simp [Pl.firstC, hV]
    ·have e : ¬ Pl.two K = true := fun h => hT (of_decide_eq_true h)
     rw [if_neg e, if_neg hT]
     exact Pl.ev_some.2 rfl
 unfold impl_nodeFault.f
 simp only [Pl.ev_ite]
 split
 ·rename_i h
  exact j0 _ (by simp [h])
 ·rename_i h
  exact j0 _ (by rw [Bool.eq_iff_iff]; simp [h])
theorem rd_one (x : S45) : rd_T45 [x] 0 = x := rfl
theorem specNode_ev (x : S45) (i : Int) (h0 : 0 ≤ i) (h1 : i ≤ 100) : Ev (fun k => spec_l3Node.f k x i) (nodeC x.f0 x.f1 x.f2 x.f3 i) := by
 obtain ⟨K, V, L, R⟩ := x
 have ew : wrap64 (i - 1) = i - 1 := Pl.wrap_in (by omega) (by omega)
 have j1 : ∀ b : Bool, 1 ≤ K → K ≤ 10 → Ev (fun k => spec_l3Node.j1 k ⟨K, V, L, R⟩ i (decide (K ≤ 2)) b) (if b = true then 3 else if K ≤ 2 then 0 else if 0 ≤ L ∧ L ≤ i - 1 then (if 3 ≤ K ∧ K ≤ 9 then (if 0 ≤ R ∧ R ≤ i - 1 then 0 else 3) else 0) else 3) := by
  intro b hK1 hK2
  refine Ev.step (fun k => by rw [spec_l3Node.j1]) ?_
  simp only [l1In_eq, l3Two_eq, Option.bind_some, Pl.ev_ite, ew, rd_one, Pl.two, decide_eq_true_eq, Pl.ev_some]
  cases b
  ·by_cases h2 : K ≤ 2
   ·have : ¬ (3 ≤ K ∧ K ≤ 9) := by omega
    simp [h2, this]
   ·by_cases hL : 0 ≤ L ∧ L ≤ i - 1 <;> by_cases hT : 3 ≤ K ∧ K ≤ 9 <;> by_cases hR : 0 ≤ R ∧ R ≤ i - 1 <;> simp [h2, hL, hT, hR]
  ·simp
 have j0 : ∀ b : Bool, 1 ≤ K → K ≤ 10 → b = decide (K ≤ 2 ∧ (L ≠ 0 ∨ R ≠ 0) ∨ ¬ K ≤ 2 ∧ V ≠ 0 ∨ K = 10 ∧ R ≠ 0) → Ev (fun k => spec_l3Node.j0 k ⟨K, V, L, R⟩ i (decide (K ≤ 2)) b) (nodeC K V L R i) := by
  intro b hK1 hK2 hb
  refine Ev.step (fun k => by rw [spec_l3Node.j0]) ?_
  simp only [l1In_eq, Option.bind_some, Pl.ev_ite, rd_one]
  by_cases hB : K ≤ 2 ∧ (L ≠ 0 ∨ R ≠ 0) ∨ ¬ K ≤ 2 ∧ V ≠ 0 ∨ K = 10 ∧ R ≠ 0
  ·rw [if_pos (by rw [hb]; simpa using hB)]
   refine Pl.ev_some.2 ?_
   unfold nodeC
   rcases hB with ⟨a, b⟩ | ⟨a, b⟩ | ⟨a, b⟩
   ·rw [if_pos (by omega), if_pos b]
   ·rw [if_neg (by omega)]
    by_cases h10 : K = 10
    ·rw [if_pos h10, if_pos (.inl b)]
    ·rw [if_neg h10, if_pos (by omega), if_pos b]
   ·rw [if_neg (by omega), if_pos a, if_pos (.inr b)]
  ·rw [if_neg (by rw [hb]; simpa using hB)]
   have h1 := fun b => j1 b hK1 hK2
   by_cases e1 : K = 1
   ·rw [if_pos e1]
    by_cases e2 : 0 ≤ V ∧ V ≤ 9999
    ·rw [if_pos (by simpa using e2), if_neg (by omega)]
     exact Pl.ev_to (h1 false) (by unfold nodeC; repeat' split <;> first | rfl | omega | simp_all)
    ·rw [if_neg (by simpa using e2)]
     exact Pl.ev_to (h1 true) (by unfold nodeC; repeat' split <;> first | rfl | omega | simp_all)
   ·rw [if_neg e1]
    by_cases e3 : K = 2
    ·rw [if_pos e3]
     by_cases e2 : 0 ≤ V ∧ V ≤ 3
     ·exact Pl.ev_to (h1 (!decide (0 ≤ V ∧ V ≤ 3))) (by unfold nodeC; simp only [e2, e3]; repeat' split <;> first | rfl | omega | simp_all)
     ·exact Pl.ev_to (h1 (!decide (0 ≤ V ∧ V ≤ 3))) (by unfold nodeC; simp only [e2, e3]; repeat' split <;> first | rfl | omega | simp_all)
    ·rw [if_neg e3]
     exact Pl.ev_to (h1 false) (by unfold nodeC; repeat' split <;> first | rfl | omega | simp_all)
 have jj : ∀ b : Bool, 1 ≤ K → K ≤ 10 → b = decide (K ≤ 2 ∧ (L ≠ 0 ∨ R ≠ 0) ∨ ¬ K ≤ 2 ∧ V ≠ 0 ∨ K = 10 ∧ R ≠ 0) → Ev (fun k => spec_l3Node.j0 k ⟨K, V, L, R⟩ i (decide (K ≤ 2)) b) (nodeC K V L R i) := j0
 unfold spec_l3Node.f
 rw [rd_one]
 simp only [l1In_eq, Option.bind_some, Pl.ev_ite]
 by_cases hK : 1 ≤ K ∧ K ≤ 10
 ·rw [if_pos (by simpa using hK)]
  obtain ⟨hK1, hK2⟩ := hK
  have fin : ∀ b5 b : Bool, b5 = decide (K ≤ 2) → (b = true ↔ (K ≤ 2 ∧ (L ≠ 0 ∨ R ≠ 0) ∨ ¬ K ≤ 2 ∧ V ≠ 0 ∨ K = 10 ∧ R ≠ 0)) → Ev (fun k => spec_l3Node.j0 k ⟨K, V, L, R⟩ i b5 b) (nodeC K V L R i) := fun b5 b h5 h => h5 ▸ jj b hK1 hK2 (by rw [Bool.eq_iff_iff, decide_eq_true_eq]; exact h)
  repeat' split
  all_goals (refine fin _ _ (by first | rfl | (symm; simp; omega)) ?_; first | (simp; omega) | (simp only [bne_iff_ne]; omega) | omega)
 ·rw [if_neg (by simpa using hK)]
  refine Pl.ev_some.2 ?_
  unfold nodeC
  repeat' split <;> first | rfl | omega
abbrev Nd := S45
def kK (e : List Nd) (i : Nat) : Int := (e.getD i z45).f0
def kL (e : List Nd) (i : Nat) : Nat := (e.getD i z45).f2.toNat
def kR (e : List Nd) (i : Nat) : Nat := (e.getD i z45).f3.toNat
theorem kK_at (e : List Nd) (i : Nat) (h : i < e.length) : kK e i = e[i].f0 := by unfold kK; rw [List.getD_eq_getElem?_getD, List.getElem?_eq_getElem h]; rfl
theorem kL_at (e : List Nd) (i : Nat) (h : i < e.length) : kL e i = e[i].f2.toNat := by unfold kL; rw [List.getD_eq_getElem?_getD, List.getElem?_eq_getElem h]; rfl
theorem kR_at (e : List Nd) (i : Nat) (h : i < e.length) : kR e i = e[i].f3.toNat := by unfold kR; rw [List.getD_eq_getElem?_getD, List.getElem?_eq_getElem h]; rfl
def ndC (x : Nd) (i : Nat) : Int := nodeC x.f0 x.f1 x.f2 x.f3 (i : Int)
def nodesC : Nat → List Nd → Int
 | _, [] => 0
 | i, x :: l => if ndC x i = 0 then nodesC (i + 1) l else ndC x i
def fineN (e : List Nd) : Prop := ∀ i (h : i < e.length), ndC e[i] i = 0
theorem nodeC_0 {K V L R i : Int} (h : nodeC K V L R i = 0) : (1 ≤ K ∧ K ≤ 10) ∧ (2 < K → 0 ≤ L ∧ L ≤ i - 1) ∧ (3 ≤ K ∧ K ≤ 9 → 0 ≤ R ∧ R ≤ i - 1) ∧ (K = 2 → 0 ≤ V ∧ V ≤ 3) ∧ (K = 1 → 0 ≤ V ∧ V ≤ 9999) := by
 unfold nodeC at h
 repeat' split at h
 all_goals first | omega | (simp at h)
theorem fineN_ahead {e : List Nd} (h : fineN e) : Pl.ahead (kK e) (kL e) (kR e) e.length := by
 intro i hi
 have h0 := nodeC_0 (h i hi)
 rw [kK_at e i hi, kL_at e i hi, kR_at e i hi]
 refine ⟨fun hK => ?_, fun hT => ?_⟩
 ·have := h0.2.1 hK; omega
 ·have := h0.2.2.1 (of_decide_eq_true hT); omega
theorem fineN_le {e : List Nd} (h : fineN e) : ∀ i, i < e.length → kK e i ≤ 10 := by
 intro i hi
 have h0 := nodeC_0 (h i hi)
 rw [kK_at e i hi]
 omega
theorem nodesC_0 : ∀ (l : List Nd) (i : Nat), nodesC i l = 0 ↔ ∀ j (h : j < l.length), ndC l[j] (i + j) = 0
 | [], i => by simp [nodesC]
 | x :: l, i => by
  unfold nodesC
  by_cases hx : ndC x i = 0
  ·rw [if_pos hx, nodesC_0 l (i + 1)]
   constructor
   ·intro h j hj
    cases j with
    | zero => simpa using hx
    | succ j => have := h j (by simpa using hj); simpa [Nat.add_assoc, Nat.add_comm 1 j] using this
   ·intro h j hj
    have := h (j + 1) (by simpa using hj)
    simpa [Nat.add_assoc, Nat.add_comm 1 j] using this
  ·rw [if_neg hx]
   constructor
   ·intro h; exact absurd h hx
   ·intro h; exact absurd (show ndC x i = 0 from h 0 (by simp)) hx
theorem nodesC_fine (e : List Nd) : nodesC 0 e = 0 ↔ fineN e := by
 rw [nodesC_0]
 simp [fineN]
open Classical in
noncomputable def shapeC (e : List Nd) : Int := if (∀ j, j < e.length → Pl.ok (kK e) (kL e) (kR e) j) ∧ Pl.sz (kK e) (kL e) (kR e) (e.length - 1) = e.length then 0 else 1
noncomputable def exprC (e : List Nd) : Int := if 1 ≤ e.length ∧ e.length ≤ 16 then (if nodesC 0 e = 0 then shapeC e else nodesC 0 e) else 2
theorem walkF_len (K : Nat → Int) (L R : Nat → Nat) : ∀ f i out, (Pl.walkF K L R f i out).length ≤ max out.length (17 + f)
 | 0, i, out => by unfold Pl.walkF; omega
 | f + 1, i, out => by
  unfold Pl.walkF
  by_cases h : 16 < out.length
  ·rw [if_pos h]; omega
  ·rw [if_neg h, List.length_append, List.length_singleton]
   have a : (if 2 < K i then Pl.walkF K L R f (L i) out else out).length ≤ 17 + f := by
    split
    ·have := walkF_len K L R f (L i) out; omega
    ·omega
   have b : (if Pl.two (K i) = true then Pl.walkF K L R f (R i) (if 2 < K i then Pl.walkF K L R f (L i) out else out) else (if 2 < K i then Pl.walkF K L R f (L i) out else out)).length ≤ 17 + f := by
    split
    ·have := walkF_len K L R f (R i) (if 2 < K i then Pl.walkF K L R f (L i) out else out); omega
    ·exact a
   omega
theorem specWalk_ev (e : List Nd) (hl : e.length ≤ 16) (hf : fineN e) : ∀ f i out, i < f → f ≤ 16 → i < e.length → out.length ≤ 50 → Ev (fun k => spec_l3Walk.f k e (i : Int) out) (Pl.walkF (kK e) (kL e) (kR e) f i out) := by
 intro f
 induction f with
 | zero => intro i out h; omega
 | succ f ih =>
  intro i out hif hf16 hi hout
  have h0 := nodeC_0 (hf i hi)
  obtain ⟨a1, a2⟩ := fineN_ahead hf i hi
  unfold Pl.walkF
  refine Ev.step (fun k => by rw [spec_l3Walk.f]) ?_
  simp only [Pl.ev_ite, Pl.ev_none, Pl.ev_some, rd_iNode e i hi, ← kK_at e i hi]
  by_cases h16 : 16 < out.length
  ·rw [if_pos (by omega), if_pos h16]
  ·rw [if_neg (by omega), if_neg h16, if_pos (by omega), if_pos (by omega)]
   have tail : ∀ o1 : List Int, o1.length ≤ 50 → Ev (fun k => spec_l3Walk.j0 k e (i : Int) o1) ((if Pl.two (kK e i) = true then Pl.walkF (kK e) (kL e) (kR e) f (kR e i) o1 else o1) ++ [(i : Int)]) := by
    intro o1 ho1
    refine Ev.step (fun k => by rw [spec_l3Walk.j0]) ?_
    simp only [Pl.ev_ite, Pl.ev_none, Pl.ev_some, rd_iNode e i hi, ← kK_at e i hi, l3Two_eq, Option.bind_some]
    rw [if_pos (by omega), if_pos (by omega)]
    by_cases hT : Pl.two (kK e i) = true
    ·rw [if_pos hT, if_pos hT]
     have hr := a2 hT
     have er : e[i].f3 = ((kR e i : Nat) : Int) := by
      rw [kR_at e i hi]; rw [kK_at e i hi] at hT; have := h0.2.2.1 (of_decide_eq_true hT); omega
     rw [er]
     refine Pl.ev_bind' (ih (kR e i) o1 (by omega) (by omega) (by omega) ho1) ?_
     have := walkF_len (kK e) (kL e) (kR e) f (kR e i) o1
     rw [if_pos (by omega)]
     exact Ev.now _
    ·rw [if_neg hT, if_neg hT, if_pos (by omega)]
   by_cases hI : 2 < kK e i
   ·have hL := a1 hI
    have el : e[i].f2 = ((kL e i : Nat) : Int) := by
     rw [kL_at e i hi]; rw [kK_at e i hi] at hI; have := h0.2.1 hI; omega
    simp only [gt_iff_lt, hI, if_true, el]
    refine Pl.ev_bind' (ih (kL e i) out (by omega) (by omega) (by omega) hout) ?_
    have := walkF_len (kK e) (kL e) (kR e) f (kL e i) out
    exact tail _ (by omega)
   ·simp only [gt_iff_lt, hI, if_false]
    exact tail _ hout
theorem specShape_ev (e : List Nd) (h1 : 1 ≤ e.length) (hl : e.length ≤ 16) (hf : fineN e) : Ev (fun k => (spec_l3Walk.f k e (wrap64 ((e.length : Int) - 1)) ([] : List Int)).bind fun t => (if (t.length : Int) = (e.length : Int) then (spec_l3Fault.l1 k t 0) else (some 1))) (shapeC e) := by
 have ew : wrap64 ((e.length : Int) - 1) = ((e.length - 1 : Nat) : Int) := by rw [Pl.wrap_in (by omega) (by omega)]; omega
 rw [ew]
 have hw := specWalk_ev e hl hf e.length (e.length - 1) [] (by omega) hl (by omega) (by simp)
 refine Pl.ev_bind' hw ?_
 have hi := Pl.walk_iff h1 hl (fineN_ahead hf) (fineN_le hf)
 generalize Pl.walkF (kK e) (kL e) (kR e) e.length (e.length - 1) [] = W at hi ⊢
 have fin : ∀ m : Nat, W.length = e.length → m ≤ W.length → (∀ j (hj : j < W.length), j < m → W[j] = (j : Int)) → Ev (fun k => spec_l3Fault.l1 k W (m : Int)) (shapeC e) := by
  intro m hWl
  obtain ⟨d, hd⟩ : ∃ d, W.length - m = d := ⟨_, rfl⟩
  induction d generalizing m with
  | zero =>
   intro hm hall
   obtain rfl : m = W.length := by omega
   refine Ev.step (fun k => by rw [spec_l3Fault.l1]) ?_
   simp only [Pl.ev_ite, Pl.ev_some]
   rw [if_neg (by omega)]
   unfold shapeC
   rw [if_pos (hi.1 ?_)]
   apply List.ext_getElem
   ·simp [hWl]
   ·intro j h1 h2; simp [hall j h1 h1]
  | succ d ih =>
   intro hm hall
   have hm' : m < W.length := by omega
   refine Ev.step (fun k => by rw [spec_l3Fault.l1]) ?_
   simp only [Pl.ev_ite, Pl.ev_some, Pl.ev_none, Pl.rd_get W m hm', Pl.wrap_nat (show m < 9223372036854775807 by omega)]
   rw [if_pos (by omega), if_pos (by omega)]
   by_cases he : W[m] = (m : Int)
   ·rw [if_pos he]
    have := ih (m + 1) (by omega) (by omega) (fun j hj hjm => by
     by_cases hjm' : j = m
     ·subst hjm'; exact he
     ·exact hall j hj (by omega))
    simpa using this
   ·rw [if_neg he]
    unfold shapeC
    rw [if_neg (fun hc => he ?_)]
    have e' := hi.2 hc
    subst e'
    simp
 simp only [Pl.ev_ite]
 by_cases hWl : W.length = e.length
 ·rw [if_pos (by omega)]
  exact fin 0 hWl (Nat.zero_le _) (fun j _ h => by omega)
 ·rw [if_neg (by omega)]
  refine Pl.ev_some.2 ?_
  unfold shapeC
  rw [if_neg (fun hc => hWl ?_)]
  rw [hi.2 hc]
  simp
theorem spec3Fault_ev (e : List Nd) (hl0 : e.length ≤ 1048576) : Ev (fun k => spec_l3Fault.f k e) (exprC e) := by
 have j0 : ∀ b : Bool, (b = true ↔ ¬ (1 ≤ e.length ∧ e.length ≤ 16)) → Ev (fun k => spec_l3Fault.j0 k e b) (exprC e) := by
  intro b hb
  refine Ev.step (fun k => by rw [spec_l3Fault.j0]) ?_
  simp only [Pl.ev_ite, Pl.ev_some]
  unfold exprC
  by_cases h : 1 ≤ e.length ∧ e.length ≤ 16
  ·rw [if_neg (fun x => (hb.1 x) h), if_pos h]
   have := Pl.loop (σ := Unit) (n := e.length) (g := fun k i _ => spec_l3Fault.l0 k e i) (F := fun i _ => if nodesC i (e.drop i) = 0 then shapeC e else nodesC i (e.drop i)) (fun i _ => ∀ j (hj : j < e.length), j < i → ndC e[j] j = 0) (fun _ hI => ?_) (fun i _ hi hI ih => ?_) 0 () (Nat.zero_le _) (fun j _ h => by omega)
   ·simpa using this
   ·refine Ev.step (fun k => by rw [spec_l3Fault.l0]) ?_
    simp only [Pl.ev_ite]
    rw [if_neg (by omega), List.drop_length]
    simp only [nodesC, if_true]
    exact specShape_ev e h.1 h.2 (fun i hi => hI i hi hi)
   ·refine Ev.step (fun k => by rw [spec_l3Fault.l0]) ?_
    simp only [Pl.ev_ite, Pl.ev_none, rd_iNode e i hi, Pl.wrap_nat (show i < 9223372036854775807 by omega)]
    rw [if_pos (by omega), if_pos (by omega)]
    refine Pl.ev_bind' (specNode_ev e[i] (i : Int) (by omega) (by omega)) ?_
    rw [Pl.drop_get hi]
    unfold nodesC
    simp only [Pl.ev_ite]
    have en : ndC e[i] i = nodeC e[i].f0 e[i].f1 e[i].f2 e[i].f3 (i : Int) := rfl
    rw [← en]
    by_cases hn : ndC e[i] i = 0
    ·simp only [hn, if_true]
     exact ih () (fun j hj hji => by
      by_cases hji' : j = i
      ·subst hji'; exact hn
      ·exact hI j hj (by omega))
    ·simp only [if_neg hn]
     exact Ev.now _
  ·rw [if_pos (hb.2 h), if_neg h]
 unfold spec_l3Fault.f
 simp only [Pl.ev_ite]
 split
 ·rename_i h; exact j0 _ (by simp; omega)
 ·rename_i h; exact j0 _ (by simp; omega)
def sizesC (e : List Nd) (i : Nat) : List Int := (List.range i).map fun j => ((Pl.sz (kK e) (kL e) (kR e) j : Nat) : Int)
theorem sizesC_len (e : List Nd) (i : Nat) : (sizesC e i).length = i := by simp [sizesC]
theorem sizesC_rd (e : List Nd) (i j : Nat) (h : j < i) : rd (sizesC e i) (j : Int) = ((Pl.sz (kK e) (kL e) (kR e) j : Nat) : Int) := by
 rw [Pl.rd_get _ j (by rw [sizesC_len]; exact h)]
 simp [sizesC]
theorem sizesC_succ (e : List Nd) (i : Nat) : sizesC e i ++ [((Pl.sz (kK e) (kL e) (kR e) i : Nat) : Int)] = sizesC e (i + 1) := by simp [sizesC, List.range_succ]
def badC (e : List Nd) (i : Nat) : Prop := ∃ j, j < i ∧ ¬ Pl.ok (kK e) (kL e) (kR e) j
theorem badC_succ (e : List Nd) (i : Nat) : badC e (i + 1) ↔ badC e i ∨ ¬ Pl.ok (kK e) (kL e) (kR e) i := by
 constructor
 ·rintro ⟨j, h, hj⟩
  by_cases hji : j = i
  ·subst hji; exact .inr hj
  ·exact .inl ⟨j, by omega, hj⟩
 ·rintro (⟨j, h, hj⟩ | hj)
  ·exact ⟨j, by omega, hj⟩
  ·exact ⟨i, by omega, hj⟩
theorem implShape_ev (e : List Nd) (h1 : 1 ≤ e.length) (hl : e.length ≤ 16) (hf : fineN e) : Ev (fun k => impl_ExprFault.l1 k e ([] : List Int) false e (e.length : Int) 0) (shapeC e) := by
 have ha := fineN_ahead hf
 have hsz : ∀ j, j < e.length → Pl.sz (kK e) (kL e) (kR e) j ≤ 131072 := fun j hj => by
  have h1 := Pl.sz_le ha j hj
  have h2 : 2 ^ (j + 1) ≤ 2 ^ 16 := Nat.pow_le_pow_right (by omega) (by omega)
  omega
 have main := Pl.loop (σ := List Int × Bool) (n := e.length) (g := fun k i s => impl_ExprFault.l1 k e s.1 s.2 e (e.length : Int) i) (F := fun _ _ => shapeC e)
  (fun i s => s.1 = sizesC e i ∧ (s.2 = true ↔ badC e i)) ?_ ?_ 0 ([], false) (Nat.zero_le _) ⟨rfl, by simp [badC]⟩
 ·simpa using main
 ·rintro ⟨S, w⟩ ⟨hS, hw⟩
  simp only at hS hw
  subst hS
  have ew : wrap64 ((e.length : Int) - 1) = ((e.length - 1 : Nat) : Int) := by rw [Pl.wrap_in (by omega) (by omega)]; omega
  refine Ev.step (fun k => by rw [impl_ExprFault.l1]) ?_
  simp only [Pl.ev_ite, Pl.ev_none, codeIf_eq, Option.bind_some, ew, sizesC_len, sizesC_rd e e.length (e.length - 1) (by omega)]
  rw [if_neg (by omega)]
  by_cases hb : badC e e.length
  ·rw [if_pos (hw.2 hb)]
   refine Pl.ev_some.2 ?_
   have e1 : shapeC e = 1 := by
    unfold shapeC
    exact if_neg (fun h => by obtain ⟨j, hj, hj'⟩ := hb; exact hj' (h.1 j hj))
   rw [e1]; rfl
  ·rw [if_neg (fun h => hb (hw.1 h)), if_pos (by omega), if_pos (by omega)]
   refine Pl.ev_some.2 ?_
   have hall : ∀ j, j < e.length → Pl.ok (kK e) (kL e) (kR e) j := fun j hj => Classical.byContradiction fun h => hb ⟨j, hj, h⟩
   by_cases hs : Pl.sz (kK e) (kL e) (kR e) (e.length - 1) = e.length
   ·have e1 : shapeC e = 0 := by
     unfold shapeC
     exact if_pos ⟨hall, hs⟩
    rw [e1, hs]; simp
   ·have e1 : shapeC e = 1 := by
     unfold shapeC
     exact if_neg (fun h => hs h.2)
    have : ((Pl.sz (kK e) (kL e) (kR e) (e.length - 1) : Nat) : Int) ≠ (e.length : Int) := by omega
    rw [e1]; simp [this]
 ·rintro i ⟨S, w⟩ hi ⟨hS, hw⟩ ih
  simp only at hS hw
  subst hS
  have h0 := nodeC_0 (hf i hi)
  obtain ⟨a1, a2⟩ := ha i hi
  have es := Pl.sz_eq ha hi
  have next : ∀ (v : Int) (w' : Bool), v = ((Pl.sz (kK e) (kL e) (kR e) i : Nat) : Int) → (w' = true ↔ badC e (i + 1)) → Ev (fun k => impl_ExprFault.l1 k e (sizesC e i ++ [v]) w' e (e.length : Int) ((i : Int) + 1)) (shapeC e) := by
   intro v w' hv hw'
   have := ih (sizesC e i ++ [v], w') ⟨by rw [hv]; exact sizesC_succ e i, hw'⟩
   simpa using this
  have eK := kK_at e i hi
  have eL : 2 < kK e i → e[i].f2 = ((kL e i : Nat) : Int) := fun h => by
   rw [kL_at e i hi]; rw [eK] at h; have := h0.2.1 h; omega
  have eR : Pl.two (kK e i) = true → e[i].f3 = ((kR e i : Nat) : Int) := fun h => by
   rw [kR_at e i hi]; rw [eK] at h; have := h0.2.2.1 (of_decide_eq_true h); omega
  have ew : wrap64 ((i : Int) - 1) = (i : Int) - 1 := Pl.wrap_in (by omega) (by omega)
  refine Ev.step (fun k => by rw [impl_ExprFault.l1]) ?_
  simp only [Pl.ev_ite, Pl.ev_none, rd_iNode e i hi, ← eK, isTwo_eq, Option.bind_some, sizesC_len, ew, Pl.wrap_nat (show i < 9223372036854775807 by omega)]
  rw [if_pos (by omega), if_pos (by omega), if_pos (by omega)]
  have lim : (i : Nat) < 17592186044416 := by omega
  simp only [lim, if_true]
  by_cases hN : kK e i = 10
  ·have hT : ¬ Pl.two (kK e i) = true := fun h => by have := of_decide_eq_true h; omega
   have hI : 2 < kK e i := by omega
   have hL := a1 hI
   have := hsz (kL e i) (by omega)
   rw [if_pos hN, eL hI]
   rw [if_pos hI, if_neg hT] at es
   have r1 := sizesC_rd e i (kL e i) hL
   rw [r1, Pl.wrap_in (by omega) (by omega)]
   have ok_iff : Pl.ok (kK e) (kL e) (kR e) i ↔ kL e i + 1 = i := by
    unfold Pl.ok
    exact ⟨fun h => h.1 hN, fun h => ⟨fun _ => h, fun h' => absurd h' hT⟩⟩
   by_cases hwt : w = true
   ·rw [if_pos hwt, if_pos (by omega), if_pos (by omega)]
    exact next _ _ (by omega) (by rw [badC_succ]; simp [hw.1 hwt])
   ·rw [if_neg hwt, if_pos (by omega), if_pos (by omega)]
    refine next _ _ (by omega) ?_
    have hb : ¬ badC e i := fun h => hwt (hw.2 h)
    rw [badC_succ, ok_iff, bne_iff_ne]
    simp only [hb, false_or]
    omega
  ·rw [if_neg hN]
   by_cases hT : Pl.two (kK e i) = true
   ·have hI := Pl.two_inner hT
    have hL := a1 hI
    have hR := a2 hT
    have := hsz (kL e i) (by omega)
    have := hsz (kR e i) (by omega)
    rw [if_pos hT, eL hI, eR hT]
    rw [if_pos hI, if_pos hT] at es
    have r1 := sizesC_rd e i (kL e i) hL
    have r2 := sizesC_rd e i (kR e i) hR
    rw [r1, r2, Pl.wrap_in (x := ((Pl.sz (kK e) (kL e) (kR e) (kL e i) : Nat) : Int) + ((Pl.sz (kK e) (kL e) (kR e) (kR e i) : Nat) : Int)) (by omega) (by omega), Pl.wrap_in (x := 1 + (((Pl.sz (kK e) (kL e) (kR e) (kL e i) : Nat) : Int) + ((Pl.sz (kK e) (kL e) (kR e) (kR e i) : Nat) : Int))) (by omega) (by omega), Pl.wrap_in (x := (i : Int) - 1 - ((Pl.sz (kK e) (kL e) (kR e) (kR e i) : Nat) : Int)) (by omega) (by omega)]
    have ok_iff : Pl.ok (kK e) (kL e) (kR e) i ↔ kR e i + 1 = i ∧ kL e i + 1 + Pl.sz (kK e) (kL e) (kR e) (kR e i) = i := by
     unfold Pl.ok
     exact ⟨fun h => h.2 hT, fun h => ⟨fun h' => absurd h' hN, fun _ => h⟩⟩
    by_cases hwt : w = true
    ·rw [if_pos hwt, if_pos (by omega), if_pos (by omega), if_pos (by omega), if_pos (by omega)]
     exact next _ _ (by omega) (by rw [badC_succ]; simp [hw.1 hwt])
    ·have hb : ¬ badC e i := fun h => hwt (hw.2 h)
     rw [if_neg hwt]
     by_cases hRi : ((kR e i : Nat) : Int) = (i : Int) - 1
     ·rw [if_pos hRi, if_pos (by omega), if_pos (by omega), if_pos (by omega), if_pos (by omega)]
      refine next _ _ (by omega) ?_
      rw [badC_succ, ok_iff, bne_iff_ne]
      simp only [hb, false_or]
      omega
     ·rw [if_neg hRi, if_pos (by omega), if_pos (by omega), if_pos (by omega), if_pos (by omega)]
      refine next _ _ (by omega) ?_
      rw [badC_succ, ok_iff]
      simp only [hb, false_or, true_iff]
      omega
   ·rw [if_neg hT]
    have hI : ¬ 2 < kK e i := fun h => by
     have := fineN_le hf i hi
     exact hT (decide_eq_true (by omega))
    rw [if_neg hI, if_neg hT] at es
    refine next _ _ (by omega) ?_
    rw [badC_succ, hw]
    have : Pl.ok (kK e) (kL e) (kR e) i := ⟨fun h => absurd h hN, fun h => absurd h hT⟩
    simp [this]
theorem implExpr_ev (e : List Nd) : Ev (fun k => impl_ExprFault.f k e) (exprC e) := by
 unfold impl_ExprFault.f
 simp only [inRange_eq, Option.bind_some, Pl.ev_ite, Pl.ev_some, decide_eq_true_eq]
 unfold exprC
 by_cases h : 1 ≤ e.length ∧ e.length ≤ 16
 ·rw [if_pos (by omega), if_pos h]
  have := Pl.loop (σ := Unit) (n := e.length) (g := fun k i _ => impl_ExprFault.l0 k e e (e.length : Int) i) (F := fun i _ => if nodesC i (e.drop i) = 0 then shapeC e else nodesC i (e.drop i)) (fun i _ => ∀ j (hj : j < e.length), j < i → ndC e[j] j = 0) (fun _ hI => ?_) (fun i _ hi hI ih => ?_) 0 () (Nat.zero_le _) (fun j _ h => by omega)
  ·simpa using this
  ·refine Ev.step (fun k => by rw [impl_ExprFault.l0]) ?_
   simp only [Pl.ev_ite]
   rw [if_neg (by omega), List.drop_length]
   simp only [nodesC, if_true]
   exact implShape_ev e h.1 h.2 (fun i hi => hI i hi hi)
  ·refine Ev.step (fun k => by rw [impl_ExprFault.l0]) ?_
   simp only [Pl.ev_ite, Pl.ev_none, rd_iNode e i hi, Pl.wrap_nat (show i < 9223372036854775807 by omega)]
   rw [if_pos (by omega), if_pos (by omega), if_pos (by omega)]
   refine Pl.ev_bind' (implNode_ev e[i].f0 e[i].f1 e[i].f2 e[i].f3 (i : Int) (by omega) (by omega)) ?_
   rw [Pl.drop_get hi]
   unfold nodesC
   simp only [Pl.ev_ite]
   have en : ndC e[i] i = nodeC e[i].f0 e[i].f1 e[i].f2 e[i].f3 (i : Int) := rfl
   rw [← en]
   by_cases hn : ndC e[i] i = 0
   ·simp only [hn, if_true]
    exact ih () (fun j hj hji => by
     by_cases hji' : j = i
     ·subst hji'; exact hn
     ·exact hI j hj (by omega))
   ·simp only [if_neg hn]
    exact Ev.now _
 ·rw [if_neg (by omega), if_neg h]
def bs (l : List UInt8) : ByteArray := ⟨l.toArray⟩
theorem bs_data (l : List UInt8) : (bs l).data.toList = l := by simp [bs]
theorem bs_size (l : List UInt8) : (bs l).size = l.length := by rw [← Pl.size_toList, bs_data]
theorem bs_append (l m : List UInt8) : bs l ++ bs m = bs (l ++ m) := by
 have : (bs l ++ bs m).data.toList = (bs (l ++ m)).data.toList := by rw [ByteArray.data_append, bs_data]; simp [bs]
 generalize bs l ++ bs m = a at this
 generalize bs (l ++ m) = b at this
 obtain ⟨⟨x⟩⟩ := a
 obtain ⟨⟨y⟩⟩ := b
 simp at this
 rw [this]
theorem decDigits_le (n : Nat) : (Lib.decDigits n).length ≤ n + 1 := by
 induction n using Nat.strongRecOn with
 | _ n ih =>
  rw [Lib.decDigits]
  by_cases h : n < 10
  ·rw [dif_pos h]; simp
  ·rw [dif_neg h, List.length_append]
   have := ih (n / 10) (by omega)
   simp
   omega
theorem decDigits_4 (n : Nat) (h : n ≤ 9999) : (Lib.decDigits n).length ≤ 4 := by
 have e1 : ∀ n, n < 10 → (Lib.decDigits n).length ≤ 1 := fun n h => by rw [Lib.decDigits, dif_pos h]; simp
 have e2 : ∀ (k : Nat) (B : Nat), (∀ n, n < B → (Lib.decDigits n).length ≤ k) → ∀ n, n < 10 * B → (Lib.decDigits n).length ≤ k + 1 := by
  intro k B hB n hn
  rw [Lib.decDigits]
  by_cases h : n < 10
  ·rw [dif_pos h]; simp
  ·rw [dif_neg h, List.length_append]
   have := hB (n / 10) (by omega)
   simp
   omega
 exact e2 3 1000 (e2 2 100 (e2 1 10 e1)) n (by omega)
theorem dig_one (n : Nat) (h : n < 10) : strOfNums [(wrap64 (48 + (n : Int))) % 256] = bs [UInt8.ofNat (48 + n)] := by
 rw [Pl.wrap_in (by omega) (by omega)]
 unfold strOfNums bs
 simp only [List.map_cons, List.map_nil]
 have : ((48 + (n : Int)) % 256).toNat = 48 + n := by omega
 rw [this]
theorem decimal_eq (n : Nat) (h : n ≤ 1000000) : impl_decimal.f (n : Int) = some (bs (Lib.decDigits n)) := by
 first
 | (unfold impl_decimal.f; rw [if_pos ⟨by omega, by omega⟩])
 | (unfold impl_decimal.f strconv_FormatInt_90.f; rw [if_pos ⟨rfl, by omega, by omega⟩, Option.bind_some])
 unfold Lib.itoa bs
 rw [if_neg (by omega), Int.toNat_natCast]
def signB (K : Int) : UInt8 := if K = 3 then 43 else if K = 4 then 45 else if K = 5 then 42 else if K = 6 then 47 else if K = 7 then 60 else if K = 8 then 61 else 38
def txtF (e : List Nd) : Nat → Nat → List UInt8
 | 0, _ => []
 | f + 1, i => if kK e i = 1 then Lib.decDigits (e.getD i z45).f1.toNat else if kK e i = 2 then 118 :: Lib.decDigits (e.getD i z45).f1.toNat
   else if kK e i = 10 then 33 :: txtF e f (kL e i) else 40 :: (txtF e f (kL e i) ++ signB (kK e i) :: (txtF e f (kR e i) ++ [41]))
theorem sign_cut (K : Int) (h : 3 ≤ K ∧ K ≤ 9) : (⟨#[43, 45, 42, 47, 60, 61, 38]⟩ : ByteArray).extract ((wrap64 (K - 3)) : Int).toNat ((wrap64 ((wrap64 (K - 3)) + 1)) : Int).toNat = bs [signB K] := by
 rw [Pl.wrap_in (x := K - 3) (by omega) (by omega), Pl.wrap_in (by omega) (by omega)]
 obtain rfl | rfl | rfl | rfl | rfl | rfl | rfl : K = 3 ∨ K = 4 ∨ K = 5 ∨ K = 6 ∨ K = 7 ∨ K = 8 ∨ K = 9 := by omega
 all_goals decide +kernel
theorem bin_eq (L R : List UInt8) (c : UInt8) : (((bs [40] ++ bs L) ++ bs [c]) ++ bs R) ++ bs [41] = bs (40 :: (L ++ c :: (R ++ [41]))) := by
 rw [bs_append, bs_append, bs_append, bs_append]
 congr 1
 simp
theorem textI_ev (e : List Nd) (hl : e.length ≤ 16) (hf : fineN e) : ∀ f i, i < f → i < e.length → (txtF e f i).length ≤ 5 * Pl.sz (kK e) (kL e) (kR e) i ∧ Ev (fun k => impl_nodeText.f k e (i : Int)) (bs (txtF e f i)) := by
 intro f
 induction f with
 | zero => intro i h; omega
 | succ f ih =>
  intro i hif hi
  have ha := fineN_ahead hf
  have h0 := nodeC_0 (hf i hi)
  obtain ⟨a1, a2⟩ := ha i hi
  have eK := kK_at e i hi
  have eV : e.getD i z45 = e[i] := by rw [List.getD_eq_getElem?_getD, List.getElem?_eq_getElem hi]; rfl
  have hs := Pl.sz_eq ha hi
  have b16 := Pl.sz_le ha i hi
  have p16 : 2 ^ (i + 1) ≤ 2 ^ 16 := Nat.pow_le_pow_right (by omega) (by omega)
  have c16 : (2 : Nat) ^ 16 = 65536 := by decide
  rw [txtF, eV]
  have big : Pl.sz (kK e) (kL e) (kR e) i ≤ 65536 := by omega
  by_cases k1 : kK e i = 1
  ·have hv := h0.2.2.2.2 (by rw [← eK]; exact k1)
   obtain ⟨n, hn⟩ : ∃ n : Nat, e[i].f1 = (n : Int) := ⟨e[i].f1.toNat, by omega⟩
   have h4 := decDigits_4 n (by omega)
   rw [if_pos k1, hn, Int.toNat_natCast]
   rw [if_neg (by omega), if_neg (fun h => by have := Pl.two_inner h; omega)] at hs
   refine ⟨by omega, ?_⟩
   refine Ev.step (fun k => by rw [impl_nodeText.f]) ?_
   rw [rd_iNode e i hi, ← eK, hn, decimal_eq n (by omega)]
   exact Pl.ev_ite_pos (by omega) (Pl.ev_ite_pos (by omega) (Pl.ev_ite_pos k1 (Ev.now _)))
  ·rw [if_neg k1]
   by_cases k2 : kK e i = 2
   ·have hv := h0.2.2.2.1 (by rw [← eK]; exact k2)
    obtain ⟨n, hn⟩ : ∃ n : Nat, e[i].f1 = (n : Int) := ⟨e[i].f1.toNat, by omega⟩
    have h4 := decDigits_4 n (by omega)
    rw [if_pos k2, hn, Int.toNat_natCast]
    rw [if_neg (by omega), if_neg (fun h => by have := Pl.two_inner h; omega)] at hs
    have e2 : (⟨#[118]⟩ : ByteArray) ++ bs (Lib.decDigits n) = bs (118 :: Lib.decDigits n) := bs_append [118] _
    refine ⟨by simp; omega, ?_⟩
    refine Ev.step (fun k => by rw [impl_nodeText.f]) ?_
    rw [rd_iNode e i hi, ← eK, hn, decimal_eq n (by omega)]
    simp only [Option.bind_some]
    rw [e2, bs_size]
    exact Pl.ev_ite_pos (by omega) (Pl.ev_ite_pos (by omega) (Pl.ev_ite_neg k1 (Pl.ev_ite_pos k2 (Pl.ev_ite_pos (by omega) (Ev.now _)))))
   ·have hI : 2 < kK e i := by have := h0.1; omega
    have hL := a1 hI
    have eL : e[i].f2 = ((kL e i : Nat) : Int) := by
     rw [kL_at e i hi]; rw [eK] at hI; have := h0.2.1 hI; omega
    obtain ⟨l1, l3⟩ := ih (kL e i) (by omega) (by omega)
    rw [if_neg k2]
    by_cases k10 : kK e i = 10
    ·rw [if_pos k10]
     rw [if_pos hI, if_neg (fun h => by have := of_decide_eq_true h; omega)] at hs
     have e2 : (⟨#[33]⟩ : ByteArray) ++ bs (txtF e f (kL e i)) = bs (33 :: txtF e f (kL e i)) := bs_append [33] _
     refine ⟨by simp; omega, ?_⟩
     refine Ev.step (fun k => by rw [impl_nodeText.f]) ?_
     rw [rd_iNode e i hi, ← eK, eL]
     refine Pl.ev_ite_pos (by omega) (Pl.ev_ite_pos (by omega) (Pl.ev_ite_neg k1 (Pl.ev_ite_neg k2 (Pl.ev_ite_pos k10 (Pl.ev_bind' l3 ?_)))))
     rw [e2, bs_size]
     exact Pl.ev_ite_pos (by omega) (Ev.now _)
    ·have hle := fineN_le hf i hi
     have hk : 3 ≤ kK e i ∧ kK e i ≤ 9 := by omega
     have hT : Pl.two (kK e i) = true := decide_eq_true hk
     have hR := a2 hT
     have eR : e[i].f3 = ((kR e i : Nat) : Int) := by
      rw [kR_at e i hi]; rw [eK] at hk; have := h0.2.2.1 hk; omega
     obtain ⟨r1, r3⟩ := ih (kR e i) (by omega) (by omega)
     rw [if_neg k10]
     rw [if_pos hI, if_pos hT] at hs
     have e40 : (⟨#[40]⟩ : ByteArray) = bs [40] := rfl
     have e41 : (⟨#[41]⟩ : ByteArray) = bs [41] := rfl
     have w1 : wrap64 (kK e i - 3) = kK e i - 3 := Pl.wrap_in (by omega) (by omega)
     have w2 : wrap64 (kK e i - 3 + 1) = kK e i - 3 + 1 := Pl.wrap_in (by omega) (by omega)
     have sc := sign_cut (kK e i) hk
     rw [w1, w2] at sc
     have s1 : (bs [40] ++ bs (txtF e f (kL e i))).size = 1 + (txtF e f (kL e i)).length := by rw [bs_append, bs_size]; simp; omega
     have s2 : ((bs [40] ++ bs (txtF e f (kL e i))) ++ bs [signB (kK e i)]).size = 2 + (txtF e f (kL e i)).length := by rw [bs_append, bs_append, bs_size]; simp; omega
     have s3 : (((bs [40] ++ bs (txtF e f (kL e i))) ++ bs [signB (kK e i)]) ++ bs (txtF e f (kR e i))).size = 2 + (txtF e f (kL e i)).length + (txtF e f (kR e i)).length := by rw [bs_append, bs_append, bs_append, bs_size]; simp; omega
     refine ⟨by simp; omega, ?_⟩
     refine Ev.step (fun k => by rw [impl_nodeText.f]) ?_
     rw [rd_iNode e i hi, ← eK, eL, eR, w1, w2, sc, e40, e41]
     refine Pl.ev_ite_pos (by omega) (Pl.ev_ite_pos (by omega) (Pl.ev_ite_neg k1 (Pl.ev_ite_neg k2 (Pl.ev_ite_neg k10 (Pl.ev_bind' l3 ?_)))))
     rw [s1, bs_size, bs_size]
     refine Pl.ev_ite_pos (by omega) (Pl.ev_ite_pos (by omega) (Pl.ev_ite_pos (by omega) (Pl.ev_ite_pos (by omega) (Pl.ev_ite_pos (by simp; omega) (Pl.ev_bind' r3 ?_)))))
     rw [s2, s3, bs_size, bin_eq]
     exact Pl.ev_ite_pos (by omega) (Pl.ev_ite_pos (by omega) (Ev.now _))
theorem exprC_len {e : List Nd} (h : exprC e = 0) : (1 ≤ e.length ∧ e.length ≤ 16) ∧ fineN e := by
 unfold exprC at h
 by_cases hl : 1 ≤ e.length ∧ e.length ≤ 16
 ·rw [if_pos hl] at h
  by_cases hn : nodesC 0 e = 0
  ·exact ⟨hl, (nodesC_fine e).1 hn⟩
  ·rw [if_neg hn] at h; exact absurd h hn
 ·rw [if_neg hl] at h; exact absurd h (by omega)
def textE (e : List Nd) : List UInt8 := txtF e e.length (e.length - 1)
theorem implText_ev {e : List Nd} (h1 : 1 ≤ e.length) (hl : e.length ≤ 16) (hf : fineN e) : Ev (fun k => impl_exprText.f k e) (bs (textE e)) := by
 unfold impl_exprText.f
 obtain ⟨_, t⟩ := textI_ev e hl hf e.length (e.length - 1) (by omega) (by omega)
 have ew : wrap64 ((e.length : Int) - 1) = ((e.length - 1 : Nat) : Int) := by rw [Pl.wrap_in (by omega) (by omega)]; omega
 rw [ew]
 exact Pl.ev_ite_neg (by omega) (Pl.ev_bind' t (Ev.now _))
inductive Ex where
 | con (v : Nat) : Ex
 | var (v : Nat) : Ex
 | nt (a : Ex) : Ex
 | two (k : Int) (a b : Ex) : Ex
namespace Ex
def size : Ex → Nat
 | con _ => 1
 | var _ => 1
 | nt a => a.size + 1
 | two _ a b => a.size + b.size + 1
def nodes : Ex → Nat → List Nd
 | con v, _ => [⟨1, v, 0, 0⟩]
 | var v, _ => [⟨2, v, 0, 0⟩]
 | nt a, b => a.nodes b ++ [⟨10, 0, ((b + a.size - 1 : Nat) : Int), 0⟩]
 | two k a c, b => a.nodes b ++ (c.nodes (b + a.size) ++ [⟨k, 0, ((b + a.size - 1 : Nat) : Int), ((b + a.size + c.size - 1 : Nat) : Int)⟩])
def txt : Ex → List UInt8
 | con v => Lib.decDigits v
 | var v => 118 :: Lib.decDigits v
 | nt a => 33 :: a.txt
 | two k a b => 40 :: (a.txt ++ signB k :: (b.txt ++ [41]))
def okT : Ex → Prop
 | con v => v ≤ 9999
 | var v => v ≤ 9
 | nt a => a.okT
 | two k a b => (3 ≤ k ∧ k ≤ 9) ∧ a.okT ∧ b.okT
theorem size_pos : ∀ T : Ex, 1 ≤ T.size
 | con _ => Nat.le_refl _
 | var _ => Nat.le_refl _
 | nt a => by simp [size]
 | two _ a b => by simp [size]
theorem nodes_len : ∀ (T : Ex) (b : Nat), (T.nodes b).length = T.size
 | con _, _ => rfl
 | var _, _ => rfl
 | nt a, b => by simp [nodes, size, nodes_len a b]
 | two k a c, b => by simp [nodes, size, nodes_len a b, nodes_len c (b + a.size)]; omega
end Ex
theorem getD_mid {α : Type} {l m r : List α} {i : Nat} {z : α} (h1 : l.length ≤ i) (h2 : i < l.length + m.length) : (l ++ (m ++ r)).getD i z = m.getD (i - l.length) z := by
 rw [List.getD_eq_getElem?_getD, List.getD_eq_getElem?_getD, List.getElem?_append_right h1, List.getElem?_append_left (by omega)]
theorem txtF_tree (e : List Nd) : ∀ (T : Ex), T.okT → ∀ (l r : List Nd), e = l ++ (T.nodes l.length ++ r) → ∀ f, l.length + T.size ≤ f → txtF e f (l.length + T.size - 1) = T.txt
 | .con v, ht, l, r, he, f, hf => by
  obtain ⟨f, rfl⟩ : ∃ f', f = f' + 1 := ⟨f - 1, by simp [Ex.size] at hf; omega⟩
  have g : e.getD l.length z45 = ⟨1, v, 0, 0⟩ := by
   rw [he, getD_mid (Nat.le_refl _) (by simp [Ex.nodes])]
   simp [Ex.nodes]
  have i : l.length + (Ex.con v).size - 1 = l.length := rfl
  rw [i, txtF]
  unfold kK
  rw [g]
  rfl
 | .var v, ht, l, r, he, f, hf => by
  obtain ⟨f, rfl⟩ : ∃ f', f = f' + 1 := ⟨f - 1, by simp [Ex.size] at hf; omega⟩
  have g : e.getD l.length z45 = ⟨2, v, 0, 0⟩ := by
   rw [he, getD_mid (Nat.le_refl _) (by simp [Ex.nodes])]
   simp [Ex.nodes]
  have i : l.length + (Ex.var v).size - 1 = l.length := rfl
  rw [i, txtF]
  unfold kK
  rw [g]
  rfl
 | .nt a, ht, l, r, he, f, hf => by
  obtain ⟨f, rfl⟩ : ∃ f', f = f' + 1 := ⟨f - 1, by simp [Ex.size] at hf; omega⟩
  have hn := Ex.nodes_len a l.length
  have hp := Ex.size_pos a
  have g : e.getD (l.length + a.size) z45 = ⟨10, 0, ((l.length + a.size - 1 : Nat) : Int), 0⟩ := by
   rw [he, getD_mid (by omega) (by simp [Ex.nodes, hn])]
   simp [Ex.nodes, List.getD_eq_getElem?_getD, List.getElem?_append_right, hn]
  have i : l.length + (Ex.nt a).size - 1 = l.length + a.size := by simp [Ex.size]; try omega
  rw [i, txtF]
  have eK : kK e (l.length + a.size) = 10 := by unfold kK; rw [g]
  have eL : kL e (l.length + a.size) = l.length + a.size - 1 := by unfold kL; rw [g]; rfl
  rw [if_neg (by omega), if_neg (by omega), if_pos eK, eL]
  rw [txtF_tree e a ht l ([⟨10, 0, ((l.length + a.size - 1 : Nat) : Int), 0⟩] ++ r) (by rw [he]; simp [Ex.nodes]) f (by simp [Ex.size] at hf; omega)]
  rfl
 | .two k a c, ht, l, r, he, f, hf => by
  obtain ⟨f, rfl⟩ : ∃ f', f = f' + 1 := ⟨f - 1, by simp [Ex.size] at hf; omega⟩
  obtain ⟨hk, ha, hc⟩ := ht
  have hn := Ex.nodes_len a l.length
  have hm := Ex.nodes_len c (l.length + a.size)
  have hp := Ex.size_pos a
  have hq := Ex.size_pos c
  have g : e.getD (l.length + a.size + c.size) z45 = ⟨k, 0, ((l.length + a.size - 1 : Nat) : Int), ((l.length + a.size + c.size - 1 : Nat) : Int)⟩ := by
   rw [he, getD_mid (by omega) (by simp [Ex.nodes, hn, hm]; omega)]
   have e1 : l.length + a.size + c.size - l.length = a.size + c.size := by omega
   rw [e1]
   simp only [Ex.nodes, List.getD_eq_getElem?_getD]
   rw [List.getElem?_append_right (by omega), List.getElem?_append_right (by omega), hn, hm]
   have e2 : a.size + c.size - a.size - c.size = 0 := by omega
   rw [e2]
   rfl
  have i : l.length + (Ex.two k a c).size - 1 = l.length + a.size + c.size := by simp [Ex.size]; omega
  rw [i, txtF]
  have eK : kK e (l.length + a.size + c.size) = k := by unfold kK; rw [g]
  have eL : kL e (l.length + a.size + c.size) = l.length + a.size - 1 := by unfold kL; rw [g]; rfl
  have eR : kR e (l.length + a.size + c.size) = l.length + a.size + c.size - 1 := by unfold kR; rw [g]; rfl
  rw [if_neg (by omega), if_neg (by omega), if_neg (by omega), eK, eL, eR]
  have hfa : l.length + a.size ≤ f := by simp [Ex.size] at hf; omega
  have hfc : l.length + a.size + c.size ≤ f := by simp [Ex.size] at hf; omega
  rw [txtF_tree e a ha l (c.nodes (l.length + a.size) ++ ([⟨k, 0, ((l.length + a.size - 1 : Nat) : Int), ((l.length + a.size + c.size - 1 : Nat) : Int)⟩] ++ r)) (by rw [he]; simp [Ex.nodes]) f hfa]
  have t2 := txtF_tree e c hc (l ++ a.nodes l.length) ([⟨k, 0, ((l.length + a.size - 1 : Nat) : Int), ((l.length + a.size + c.size - 1 : Nat) : Int)⟩] ++ r) (by rw [he]; simp [Ex.nodes, hn]) f (by simp [hn]; omega)
  have e3 : (l ++ a.nodes l.length).length = l.length + a.size := by simp [hn]
  rw [e3] at t2
  rw [t2]
  rfl
theorem textE_tree (T : Ex) (ht : T.okT) : textE (T.nodes 0) = T.txt := by
 unfold textE
 have hn := Ex.nodes_len T 0
 have := txtF_tree (T.nodes 0) T ht [] [] (by simp) T.size (by simp)
 rw [hn]
 simpa using this
theorem node_leaf (x : Nd) {i : Nat} (h : ndC x i = 0) (hk : x.f0 ≤ 2) : x = ⟨x.f0, x.f1, 0, 0⟩ := by
 obtain ⟨a, b, c, d⟩ := x
 unfold ndC nodeC at h
 simp only at h hk ⊢
 have h2 : c = 0 ∧ d = 0 := by
  by_cases hc : c = 0 ∧ d = 0
  ·exact hc
  ·exfalso
   repeat (first | omega | split at h)
 rw [h2.1, h2.2]
theorem node_eta (x : Nd) {i : Nat} (h : ndC x i = 0) (hk : x.f0 = 10) : x = ⟨10, 0, x.f2, 0⟩ := by
 obtain ⟨a, b, c, d⟩ := x
 unfold ndC nodeC at h
 simp only at h hk ⊢
 have h2 : b = 0 ∧ d = 0 := by
  by_cases hc : b = 0 ∧ d = 0
  ·exact hc
  ·exfalso
   repeat (first | omega | split at h)
 rw [h2.1, h2.2, hk]
theorem node_eta2 (x : Nd) {i : Nat} (h : ndC x i = 0) (hk : 3 ≤ x.f0 ∧ x.f0 ≤ 9) : x = ⟨x.f0, 0, x.f2, x.f3⟩ := by
 obtain ⟨a, b, c, d⟩ := x
 unfold ndC nodeC at h
 simp only at h hk ⊢
 have h2 : b = 0 := by
  by_cases hc : b = 0
  ·exact hc
  ·exfalso
   repeat (first | omega | split at h)
 rw [h2]
theorem tree_leaf {e : List Nd} (hf : fineN e) {i : Nat} (hi : i < e.length) (hk : kK e i ≤ 2) : ∃ T : Ex, T.okT ∧ T.size = Pl.sz (kK e) (kL e) (kR e) i ∧ T.size ≤ i + 1 ∧ (e.drop (i + 1 - T.size)).take T.size = T.nodes (i + 1 - T.size) := by
 have ha := fineN_ahead hf
 have h0 := nodeC_0 (hf i hi)
 have eK := kK_at e i hi
 have hsz := Pl.sz_eq ha hi
 rw [if_neg (by omega), if_neg (fun h => by have := Pl.two_inner h; omega)] at hsz
 have hn := node_leaf e[i] (hf i hi) (by rw [← eK]; exact hk)
 have one : (e.drop i).take 1 = [e[i]] := by
  rw [Pl.drop_get hi]
  rfl
 by_cases h1 : kK e i = 1
 ·have hv := h0.2.2.2.2 (by rw [← eK]; exact h1)
  refine ⟨.con e[i].f1.toNat, by show _ ≤ 9999; omega, by rw [hsz]; rfl, by show 1 ≤ _; omega, ?_⟩
  show (e.drop (i + 1 - 1)).take 1 = [⟨1, ((e[i].f1.toNat : Nat) : Int), 0, 0⟩]
  rw [Nat.add_sub_cancel, one]
  congr 1
  refine hn.trans ?_
  rw [← eK, h1]
  congr 1
  omega
 ·have h2 : kK e i = 2 := by have := h0.1; omega
  have hv := h0.2.2.2.1 (by rw [← eK]; exact h2)
  refine ⟨.var e[i].f1.toNat, by show _ ≤ 9; omega, by rw [hsz]; rfl, by show 1 ≤ _; omega, ?_⟩
  show (e.drop (i + 1 - 1)).take 1 = [⟨2, ((e[i].f1.toNat : Nat) : Int), 0, 0⟩]
  rw [Nat.add_sub_cancel, one]
  congr 1
  refine hn.trans ?_
  rw [← eK, h2]
  congr 1
  omega
theorem tree_of {e : List Nd} (h : exprC e = 0) : ∃ T : Ex, T.okT ∧ e = T.nodes 0 := by
 obtain ⟨⟨h1, h16⟩, hf⟩ := exprC_len h
 have ha := fineN_ahead hf
 have hle := fineN_le hf
 have hsh : (∀ j, j < e.length → Pl.ok (kK e) (kL e) (kR e) j) ∧ Pl.sz (kK e) (kL e) (kR e) (e.length - 1) = e.length := by
  unfold exprC at h
  rw [if_pos ⟨h1, h16⟩, if_pos ((nodesC_fine e).2 hf)] at h
  unfold shapeC at h
  by_cases hs : (∀ j, j < e.length → Pl.ok (kK e) (kL e) (kR e) j) ∧ Pl.sz (kK e) (kL e) (kR e) (e.length - 1) = e.length
  ·exact hs
  ·rw [if_neg hs] at h; exact absurd h (by omega)
 obtain ⟨hok, hs⟩ := hsh
 have main : ∀ d i, i ≤ d → i < e.length → ∃ T : Ex, T.okT ∧ T.size = Pl.sz (kK e) (kL e) (kR e) i ∧ T.size ≤ i + 1 ∧ (e.drop (i + 1 - T.size)).take T.size = T.nodes (i + 1 - T.size) := by
  intro d
  induction d with
  | zero =>
   intro i hd hi
   obtain rfl : i = 0 := by omega
   have h0 := nodeC_0 (hf 0 hi)
   obtain ⟨a1, a2⟩ := ha 0 hi
   have eK := kK_at e 0 hi
   exact tree_leaf hf hi (by
    by_cases h2 : 2 < kK e 0
    ·have := a1 h2; omega
    ·omega)
  | succ d ih =>
   intro i hd hi
   have h0 := nodeC_0 (hf i hi)
   obtain ⟨a1, a2⟩ := ha i hi
   have eK := kK_at e i hi
   by_cases h2 : kK e i ≤ 2
   ·exact tree_leaf hf hi h2
   ·have hI : 2 < kK e i := by omega
    have hL := a1 hI
    have hsz := Pl.sz_eq ha hi
    obtain ⟨o1, o2⟩ := hok i hi
    by_cases h10 : kK e i = 10
    ·have hl : kL e i + 1 = i := o1 h10
     rw [if_pos hI, if_neg (fun h => by have := of_decide_eq_true h; omega)] at hsz
     obtain ⟨T, t1, t2, t3, t4⟩ := ih (kL e i) (by omega) (by omega)
     have hp := Ex.size_pos T
     refine ⟨.nt T, t1, by simp [Ex.size]; omega, by simp [Ex.size]; omega, ?_⟩
     have e1 : i + 1 - (Ex.nt T).size = kL e i + 1 - T.size := by simp [Ex.size]; omega
     rw [e1]
     have e2 : (Ex.nt T).size = T.size + 1 := rfl
     have hx : (e.drop (kL e i + 1 - T.size))[T.size]? = some e[i] := by
      rw [List.getElem?_drop]
      have e3 : kL e i + 1 - T.size + T.size = i := by omega
      rw [e3, List.getElem?_eq_getElem hi]
     rw [e2, List.take_add_one, hx, t4]
     show T.nodes _ ++ [e[i]] = T.nodes _ ++ [⟨10, 0, ((kL e i + 1 - T.size + T.size - 1 : Nat) : Int), 0⟩]
     congr 1
     rw [node_eta (e[i]) ((hf i hi)) (by rw [← eK]; exact h10)]
     congr 1
     have := h0.2.1 (by rw [← eK]; exact hI)
     have eL := kL_at e i hi
     congr 1
     omega
    ·have hle := hle i hi
     have hk : 3 ≤ kK e i ∧ kK e i ≤ 9 := by omega
     have hT : Pl.two (kK e i) = true := decide_eq_true hk
     obtain ⟨q1, q2⟩ := o2 hT
     have hR := a2 hT
     rw [if_pos hI, if_pos hT] at hsz
     obtain ⟨A, t1, t2, t3, t4⟩ := ih (kL e i) (by omega) (by omega)
     obtain ⟨C, u1, u2, u3, u4⟩ := ih (kR e i) (by omega) (by omega)
     have hp := Ex.size_pos A
     have hq := Ex.size_pos C
     refine ⟨.two (kK e i) A C, ⟨hk, t1, u1⟩, by simp [Ex.size]; omega, by simp [Ex.size]; omega, ?_⟩
     have e1 : i + 1 - (Ex.two (kK e i) A C).size = kL e i + 1 - A.size := by simp [Ex.size]; omega
     rw [e1]
     have e2 : (Ex.two (kK e i) A C).size = A.size + (C.size + 1) := by simp [Ex.size]; omega
     have hx : (e.drop (kR e i + 1 - C.size))[C.size]? = some e[i] := by
      rw [List.getElem?_drop]
      have e3 : kR e i + 1 - C.size + C.size = i := by omega
      rw [e3, List.getElem?_eq_getElem hi]
     have e4 : kL e i + 1 - A.size + A.size = kR e i + 1 - C.size := by omega
     rw [e2, List.take_add, List.drop_drop, e4, List.take_add_one, hx, t4, u4]
     show A.nodes _ ++ (C.nodes _ ++ [e[i]]) = A.nodes _ ++ (C.nodes (kL e i + 1 - A.size + A.size) ++ [⟨kK e i, 0, ((kL e i + 1 - A.size + A.size - 1 : Nat) : Int), ((kL e i + 1 - A.size + A.size + C.size - 1 : Nat) : Int)⟩])
     rw [e4]
     congr 2
     rw [node_eta2 (e[i]) (hf i hi) (by rw [← eK]; exact hk), ← eK]
     have l1 := h0.2.1 (by rw [← eK]; exact hI)
     have r1 := h0.2.2.1 (by rw [← eK]; exact hk)
     have eL := kL_at e i hi
     have eR := kR_at e i hi
     congr 2
     ·omega
     ·omega
 obtain ⟨T, t1, t2, t3, t4⟩ := main (e.length - 1) (e.length - 1) (Nat.le_refl _) (by omega)
 refine ⟨T, t1, ?_⟩
 have e0 : e.length - 1 + 1 - T.size = 0 := by omega
 rw [e0, List.drop_zero, List.take_of_length_le (by omega)] at t4
 exact t4
def valF (a : Nat) (d : List UInt8) : Nat := d.foldl (fun a c => a * 10 + (c.toNat - 48)) a
def valD (d : List UInt8) : Nat := valF 0 d
theorem valD_snoc (d : List UInt8) (c : UInt8) : valD (d ++ [c]) = valD d * 10 + (c.toNat - 48) := by
 unfold valD valF
 rw [List.foldl_append]
 rfl
theorem dig_in {c : UInt8} (h : Pl.digitB c = true) : 48 ≤ c.toNat ∧ c.toNat ≤ 57 := of_decide_eq_true h
def okD (d : List UInt8) : Bool := decide (d ≠ [] ∧ (d.head? ≠ some 48 ∨ d.length = 1))
theorem u8_of (c : UInt8) (n : Nat) (h : c.toNat = n) : UInt8.ofNat n = c := by
 rw [← h]
 simp
theorem dec_of : ∀ (n : Nat) (d : List UInt8), d.length = n → d.all Pl.digitB = true → okD d = true → Lib.decDigits (valD d) = d ∧ (2 ≤ n → 10 ≤ valD d) ∧ (d.head? ≠ some 48 → 1 ≤ valD d) := by
 intro n
 induction n with
 | zero =>
  intro d hd _ ho
  have := (of_decide_eq_true ho).1
  exact absurd (List.length_eq_zero_iff.1 hd) this
 | succ n ih =>
  intro d hd ha ho
  obtain ⟨l, c, rfl⟩ : ∃ l c, d = l ++ [c] := by
   rcases List.eq_nil_or_concat d with h | ⟨l, c, h⟩
   ·rw [h] at hd; simp at hd
   ·exact ⟨l, c, by simpa using h⟩
  have hl : l.length = n := by simpa using hd
  rw [List.all_append, Bool.and_eq_true] at ha
  have hc := dig_in (by simpa using ha.2)
  rw [valD_snoc]
  by_cases h0 : l = []
  ·subst h0
   simp only [List.length_nil] at hl
   subst hl
   have e : valD ([] : List UInt8) = 0 := rfl
   rw [e]
   refine ⟨?_, fun h => by omega, fun h => ?_⟩
   ·rw [Lib.decDigits, dif_pos (by omega)]
    show [UInt8.ofNat (48 + (0 * 10 + (c.toNat - 48)))] = [c]
    rw [u8_of c _ (by omega)]
   ·have : c.toNat ≠ 48 := fun e => h (by
     show some c = some 48
     rw [← u8_of c 48 e]
     rfl)
    omega
  ·have hlen : 1 ≤ l.length := by
    cases l with
    | nil => exact absurd rfl h0
    | cons x y => simp
   have ho' := of_decide_eq_true ho
   have hh : (l ++ [c]).head? = l.head? := by
    cases l with
    | nil => exact absurd rfl h0
    | cons x y => rfl
   have h48 : l.head? ≠ some 48 := by
    rcases ho'.2 with h | h
    ·rwa [hh] at h
    ·rw [List.length_append, List.length_cons, List.length_nil] at h; omega
   obtain ⟨i1, i2, i3⟩ := ih l hl ha.1 (decide_eq_true ⟨h0, .inl h48⟩)
   have h1 := i3 h48
   refine ⟨?_, fun _ => by omega, fun _ => by omega⟩
   rw [Lib.decDigits, dif_neg (by omega)]
   have e1 : (valD l * 10 + (c.toNat - 48)) / 10 = valD l := by omega
   have e2 : (valD l * 10 + (c.toNat - 48)) % 10 = c.toNat - 48 := by omega
   rw [e1, e2, i1, u8_of c _ (by omega)]
theorem valD_lt : ∀ (n : Nat) (d : List UInt8), d.length = n → d.all Pl.digitB = true → valD d < 10 ^ n := by
 intro n
 induction n with
 | zero =>
  intro d hd _
  rw [List.length_eq_zero_iff.1 hd]
  decide
 | succ n ih =>
  intro d hd ha
  obtain ⟨l, c, rfl⟩ : ∃ l c, d = l ++ [c] := by
   rcases List.eq_nil_or_concat d with h | ⟨l, c, h⟩
   ·rw [h] at hd; simp at hd
   ·exact ⟨l, c, by simpa using h⟩
  rw [List.all_append, Bool.and_eq_true] at ha
  have hc := dig_in (by simpa using ha.2)
  have := ih l (by simpa using hd) ha.1
  rw [valD_snoc, Nat.pow_succ]
  omega
theorem dig_mk (n : Nat) (h : n < 10) : (UInt8.ofNat (48 + n)).toNat = 48 + n := by
 simp [UInt8.toNat_ofNat']
 omega
theorem dec_is (v : Nat) : (Lib.decDigits v).all Pl.digitB = true ∧ valD (Lib.decDigits v) = v ∧ Lib.decDigits v ≠ [] ∧ (1 ≤ v → (Lib.decDigits v).head? ≠ some 48) := by
 induction v using Nat.strongRecOn with
 | _ v ih =>
  rw [Lib.decDigits]
  by_cases h : v < 10
  ·rw [dif_pos h]
   have hm := dig_mk v h
   refine ⟨by simp [Pl.digitB, hm]; omega, ?_, by simp, fun h1 e => ?_⟩
   ·show 0 * 10 + ((UInt8.ofNat (48 + v)).toNat - 48) = v
    omega
   ·have e' : UInt8.ofNat (48 + v) = 48 := by simpa using e
    have := congrArg UInt8.toNat e'
    rw [hm] at this
    have h48 : (48 : UInt8).toNat = 48 := rfl
    omega
  ·rw [dif_neg h]
   obtain ⟨i1, i2, i3, i4⟩ := ih (v / 10) (by omega)
   have hm := dig_mk (v % 10) (by omega)
   refine ⟨?_, ?_, by simp, fun _ => ?_⟩
   ·rw [List.all_append, i1]
    simp [Pl.digitB, hm]
    omega
   ·rw [valD_snoc, i2]
    omega
   ·have := i4 (by omega)
    cases hd : Lib.decDigits (v / 10) with
    | nil => exact absurd hd i3
    | cons x y =>
     rw [hd] at this
     simpa using this
theorem dec_ok (v : Nat) : okD (Lib.decDigits v) = true := by
 obtain ⟨_, _, h3, h4⟩ := dec_is v
 refine decide_eq_true ⟨h3, ?_⟩
 by_cases h : 1 ≤ v
 ·exact .inl (h4 h)
 ·obtain rfl : v = 0 := by omega
  right
  rw [Lib.decDigits, dif_pos (by omega)]
  rfl
theorem valF_ge : ∀ (d : List UInt8) (a : Nat), a ≤ valF a d
 | [], a => Nat.le_refl _
 | c :: d, a => by
  have := valF_ge d (a * 10 + (c.toNat - 48))
  show a ≤ valF (a * 10 + (c.toNat - 48)) d
  omega
theorem parseM_ok : ∀ (d : List UInt8) (a : Nat), d.all Pl.digitB = true → valF a d ≤ 1000000 → Lib.parseUintM (2 ^ 64 - 1) a d = .ok (valF a d)
 | [], a, _, _ => rfl
 | c :: d, a, ha, hv => by
  rw [List.all_cons, Bool.and_eq_true] at ha
  have hc := dig_in ha.1
  have h1 := valF_ge d (a * 10 + (c.toNat - 48))
  have e : valF a (c :: d) = valF (a * 10 + (c.toNat - 48)) d := rfl
  rw [e] at hv ⊢
  rw [Lib.parseUintM, if_pos hc, if_neg (by omega), if_neg (by omega)]
  exact parseM_ok d _ ha.2 hv
theorem parse_dec (v : Nat) (hv : v ≤ 1000000) : Lib.parseIntB 64 (Lib.decDigits v) = .ok (v : Int) := by
 obtain ⟨h1, h2, h3, _⟩ := dec_is v
 cases hd : Lib.decDigits v with
 | nil => exact absurd hd h3
 | cons c r =>
  have hc : 48 ≤ c.toNat ∧ c.toNat ≤ 57 := by
   rw [hd, List.all_cons, Bool.and_eq_true] at h1
   exact dig_in h1.1
  have hp : Lib.parseUintB 64 (c :: r) = .ok v := by
   unfold Lib.parseUintB
   rw [if_neg (by simp), ← hd, parseM_ok _ 0 h1 (by show valD _ ≤ _; omega)]
   show Lib.NumEnd.ok (valD (Lib.decDigits v)) = _
   rw [h2]
  unfold Lib.parseIntB
  have n1 : ¬ (c.toNat = 43 ∨ c.toNat = 45) := by omega
  have n2 : ¬ c.toNat = 45 := by omega
  have n3 : ¬ c.toNat = 43 := by omega
  simp only [n3, n2, or_self, not_false_eq_true, true_and, false_and, if_false]
  rw [hp]
  have e63 : ¬ (2 : Nat) ^ (64 - 1) ≤ v := by
   have : (2 : Nat) ^ (64 - 1) = 9223372036854775808 := by decide
   omega
  show (if (2 : Nat) ^ (64 - 1) ≤ v then Lib.NumEnd.range else Lib.NumEnd.ok (v : Int)) = _
  rw [if_neg e63]
theorem number_dec (v : Nat) (hv : v ≤ 9999) : impl_number.f (bs (Lib.decDigits v)) 4 = some ((v : Int), true) := by
 have h4 := decDigits_4 v hv
 unfold impl_number.f
 rw [bs_size, if_pos (by omega), bs_data, parse_dec v (by omega)]
 simp only
 rw [if_pos (by omega), if_pos (by omega)]
 have e : (⟨(Lib.itoa (v : Int)).toArray⟩ : ByteArray) = bs (Lib.decDigits v) := by
  unfold Lib.itoa bs
  rw [if_neg (by omega), Int.toNat_natCast]
 rw [e, if_pos rfl]
 congr 2
 exact decide_eq_true (by omega)
theorem number_some (x : ByteArray) (hs : x.size ≤ 1000) (a1 : Int) : ∃ n ok, impl_number.f x a1 = some (n, ok) := by
 unfold impl_number.f
 rw [if_pos (by omega)]
 cases hp : Lib.parseIntB 64 x.data.toList with
 | ok v =>
  have hb := Lib.parseIntB_bounds hp
  simp only
  rw [if_pos (by omega)]
  exact ⟨_, _, rfl⟩
 | «syntax» => exact ⟨_, _, rfl⟩
 | range => exact ⟨_, _, rfl⟩
def noDig (l : List UInt8) : Prop := ∀ c r, l = c :: r → Pl.digitB c = false
theorem span_is : ∀ (D E a b : List UInt8) (m : Nat), D.all Pl.digitB = true → E.all Pl.digitB = true → D ++ a = E ++ b → noDig b → D.length ≤ m → E.length ≤ m → (D.length < m → noDig a) → D = E
 | [], [], _, _, _, _, _, _, _, _, _, _ => rfl
 | [], e :: E, a, b, m, _, hE, h, _, _, hm, ha => by
  rw [List.all_cons, Bool.and_eq_true] at hE
  have h' : a = e :: (E ++ b) := h
  have := ha (by simp at hm ⊢; omega) e _ h'
  rw [hE.1] at this
  exact absurd this (by simp)
 | d :: D, [], a, b, m, hD, _, h, hb, _, _, _ => by
  rw [List.all_cons, Bool.and_eq_true] at hD
  have h' : b = d :: (D ++ a) := h.symm
  have := hb d _ h'
  rw [hD.1] at this
  exact absurd this (by simp)
 | d :: D, e :: E, a, b, m, hD, hE, h, hb, h1, h2, ha => by
  rw [List.all_cons, Bool.and_eq_true] at hD hE
  have h' : d :: (D ++ a) = e :: (E ++ b) := h
  injection h' with e1 e2
  rw [e1, span_is D E a b (m - 1) hD.2 hE.2 e2 hb (by simp at h1; omega) (by simp at h2; omega) (fun h => ha (by simp; omega))]
theorem at_head {s : ByteArray} {a : Nat} {c : UInt8} {r : List UInt8} (h : s.data.toList.drop a = c :: r) : a < s.size ∧ bt s (a : Int) = (c.toNat : Int) ∧ s.data.toList.drop (a + 1) = r := by
 have h1 : a < s.data.toList.length := by
  by_cases hh : a < s.data.toList.length
  ·exact hh
  ·rw [List.drop_eq_nil_of_le (by omega)] at h; exact absurd h (by simp)
 have h2 : a < s.size := by rw [← Pl.size_toList]; exact h1
 rw [Pl.drop_get h1] at h
 injection h with e1 e2
 exact ⟨h2, by rw [Pl.bt_get s a h2, e1], e2⟩
theorem take_hit {s : ByteArray} {a : Nat} {c : UInt8} {r : List UInt8} (hs : s.size ≤ 200) (h : s.data.toList.drop a = c :: r) (ex : List Nd) (x : Int) (hx : x = (c.toNat : Int)) : spec_l3Take.f s (a : Int) ex x = some (true, s, ((a + 1 : Nat) : Int), ex) := by
 obtain ⟨h1, h2, _⟩ := at_head h
 unfold spec_l3Take.f
 rw [if_pos (by omega), if_pos (by omega), h2, if_pos hx.symm, Pl.wrap_nat (by omega)]
 rfl
theorem take_miss {s : ByteArray} {a : Nat} {c : UInt8} {r : List UInt8} (h : s.data.toList.drop a = c :: r) (ex : List Nd) (x : Int) (hx : x ≠ (c.toNat : Int)) : spec_l3Take.f s (a : Int) ex x = some (false, s, (a : Int), ex) := by
 obtain ⟨h1, h2, _⟩ := at_head h
 unfold spec_l3Take.f
 rw [if_pos (by omega), if_pos (by omega), h2, if_neg (fun e => hx e.symm)]
theorem take_end {s : ByteArray} {a : Nat} (h : s.size ≤ a) (ex : List Nd) (x : Int) : spec_l3Take.f s (a : Int) ex x = some (false, s, (a : Int), ex) := by
 unfold spec_l3Take.f
 rw [if_neg (by omega)]
theorem drop_end {s : ByteArray} {a : Nat} (h : s.data.toList.drop a = []) : s.size ≤ a := by
 rw [← Pl.size_toList]
 exact List.drop_eq_nil_iff.1 h
theorem put_eq (s : ByteArray) (a : Nat) (ex : List Nd) (he : ex.length ≤ 1000) (p q r t : Int) : spec_l3Put.f s (a : Int) ex p q r t = some ((ex.length : Int), s, (a : Int), ex ++ [⟨p, q, r, t⟩]) := by
 unfold spec_l3Put.f
 rw [if_pos (by omega), Option.bind_some]
 have : wrap64 (((ex ++ [(⟨p, q, r, t⟩ : Nd)]).length : Int) - 1) = (ex.length : Int) := by
  have el : (ex ++ [(⟨p, q, r, t⟩ : Nd)]).length = ex.length + 1 := by simp
  rw [el, Pl.wrap_in (by omega) (by omega)]
  omega
 rw [this]
theorem okD_one (d : List UInt8) (c : UInt8) (r : List UInt8) (h : d = c :: r) : okD d = if (c.toNat : Int) = 48 then (r.length == 0) else true := by
 subst h
 unfold okD
 by_cases hc : (c.toNat : Int) = 48
 ·have e : c = 48 := by
   rw [← u8_of c 48 (by omega)]
   rfl
  rw [if_pos hc, e]
  by_cases hr : r.length = 0
  ·simp [hr]
  ·simp [hr]
 ·have e : ¬ c = 48 := fun e => hc (by rw [e]; rfl)
  rw [if_neg hc]
  simp [e]
theorem num_end {s : ByteArray} {a : Nat} (hs : s.size ≤ 200) (ex : List Nd) (d : List UInt8) (hd : s.data.toList.drop a = d ++ s.data.toList.drop (a + d.length)) :
  (if ((a + d.length : Nat) : Int) > (a : Int) then (if 0 ≤ (a : Int) then (if (a : Int) < (s.size : Int) then (if (bt s (a : Int)) = 48 then (some (((valD d : Nat) : Int), (((a + d.length : Nat) : Int) == (wrap64 ((a : Int) + 1))), s, ((a + d.length : Nat) : Int), ex)) else (some (((valD d : Nat) : Int), true, s, ((a + d.length : Nat) : Int), ex))) else (none)) else (none)) else (some (((valD d : Nat) : Int), false, s, ((a + d.length : Nat) : Int), ex))) = some (((valD d : Nat) : Int), okD d, s, ((a + d.length : Nat) : Int), ex) := by
 cases d with
 | nil =>
  rw [if_neg (by simp)]
  rfl
 | cons c r =>
  obtain ⟨h1, h2, _⟩ := at_head (a := a) (c := c) (r := r ++ s.data.toList.drop (a + (c :: r).length)) (by rw [hd]; rfl)
  rw [if_pos (by simp; omega), if_pos (by omega), if_pos (by omega), h2, okD_one (c :: r) c r rfl, Pl.wrap_nat (by omega)]
  by_cases hc : (c.toNat : Int) = 48
  ·rw [if_pos hc, if_pos hc]
   congr 3
   by_cases hr : r.length = 0
   ·simp [hr]
   ·have : ¬ (((a + (c :: r).length : Nat) : Int) = (a : Int) + 1) := by simp; omega
    rw [beq_eq_false_iff_ne.2 this, beq_eq_false_iff_ne.2 hr]
  ·rw [if_neg hc, if_neg hc]
theorem num_loop {s : ByteArray} (hs : s.size ≤ 200) (a : Nat) (ex : List Nd) (m : Nat) (hm : m ≤ 4) : ∀ j (d : List UInt8), d.length + j = m → d.all Pl.digitB = true → s.data.toList.drop a = d ++ s.data.toList.drop (a + d.length) →
  ∃ D : List UInt8, Ev (fun k => spec_l3Num.l0 k (m : Int) ((valD d : Nat) : Int) (a : Int) s ((a + d.length : Nat) : Int) ex) (((valD D : Nat) : Int), okD D, s, ((a + D.length : Nat) : Int), ex) ∧ D.all Pl.digitB = true ∧ D.length ≤ m ∧ s.data.toList.drop a = D ++ s.data.toList.drop (a + D.length) ∧ (D.length < m → noDig (s.data.toList.drop (a + D.length))) := by
 intro j
 induction j with
 | zero =>
  intro d hj ha hd
  have ne := num_end hs ex d hd
  refine ⟨d, ?_, ha, by omega, hd, fun h => by omega⟩
  refine Ev.step (fun k => by rw [spec_l3Num.l0]) ?_
  rw [ne]
  have w : ¬ (wrap64 (((a + d.length : Nat) : Int) - (a : Int)) < (m : Int)) ∨ s.size < a + d.length + 1 := by
   by_cases h : a + d.length < s.size
   ·left
    rw [Pl.wrap_in (by omega) (by omega)]
    omega
   ·right; omega
  rcases w with w | w
  ·by_cases c0 : ((a + d.length : Nat) : Int) < (s.size : Int)
   ·refine Pl.ev_ite_pos c0 (Pl.ev_ite_pos (by omega) ?_)
    simp only [if_neg w]
    simp only [ite_self]
    exact Ev.now _
   ·exact Pl.ev_ite_neg c0 (Ev.now _)
  ·exact Pl.ev_ite_neg (by omega) (Ev.now _)
 | succ j ih =>
  intro d hj ha hd
  have ne := num_end hs ex d hd
  cases hr : s.data.toList.drop (a + d.length) with
  | nil =>
   have hz := drop_end hr
   refine ⟨d, ?_, ha, by omega, hd, fun _ c r h => by rw [hr] at h; exact absurd h (by simp)⟩
   refine Ev.step (fun k => by rw [spec_l3Num.l0]) ?_
   rw [ne]
   exact Pl.ev_ite_neg (by omega) (Ev.now _)
  | cons c r =>
   obtain ⟨h1, h2, h3⟩ := at_head hr
   by_cases hc : Pl.digitB c = true
   ·have hb := dig_in hc
    have k1 : ((a + d.length : Nat) : Int) < (s.size : Int) := by omega
    have k2 : 0 ≤ ((a + d.length : Nat) : Int) := by omega
    have k3 : (c.toNat : Int) ≥ 48 := by omega
    have k4 : (c.toNat : Int) ≤ 57 := by omega
    have k5 : (d.length : Int) < (m : Int) := by omega
    have ev : valD (d ++ [c]) = valD d * 10 + (c.toNat - 48) := valD_snoc d c
    have hlt := valD_lt d.length d rfl ha
    have hp : 10 ^ d.length ≤ 10 ^ 4 := Nat.pow_le_pow_right (by omega) (by omega)
    have hp4 : (10 : Nat) ^ 4 = 10000 := by decide
    have hd' : s.data.toList.drop a = (d ++ [c]) ++ s.data.toList.drop (a + (d ++ [c]).length) := by
     have e : a + (d ++ [c]).length = a + d.length + 1 := by simp; omega
     rw [e, h3, hd, hr]
     simp
    obtain ⟨D, q1, q2, q3, q4, q5⟩ := ih (d ++ [c]) (by simp; omega) (by rw [List.all_append, ha]; simp [hc]) hd'
    refine ⟨D, ?_, q2, q3, q4, q5⟩
    refine Ev.step (fun k => by rw [spec_l3Num.l0]) ?_
    rw [h2]
    have w1 : wrap64 (((a + d.length : Nat) : Int) - (a : Int)) = (d.length : Int) := by rw [Pl.wrap_in (by omega) (by omega)]; omega
    have w2 : wrap64 (wrap64 (((valD d : Nat) : Int) * 10) + (((c.toNat : Int) - 48) % 256)) = ((valD (d ++ [c]) : Nat) : Int) := by
     rw [Pl.wrap_in (x := ((valD d : Nat) : Int) * 10) (by omega) (by omega), Pl.wrap_in (by omega) (by omega), ev]
     omega
    have w3 : wrap64 (((a + d.length : Nat) : Int) + 1) = ((a + (d ++ [c]).length : Nat) : Int) := by
     rw [Pl.wrap_nat (by omega)]
     simp
     omega
    rw [w1, w2, w3]
    exact Pl.ev_ite_pos k1 (Pl.ev_ite_pos k2 (Pl.ev_ite_pos k3 (Pl.ev_ite_pos k4 (Pl.ev_ite_pos k5 q1))))
   ·have hb : ¬ (48 ≤ c.toNat ∧ c.toNat ≤ 57) := fun h => hc (decide_eq_true h)
    refine ⟨d, ?_, ha, by omega, hd, fun _ c' r' h => by
     rw [hr] at h
     injection h with e1 _
     rw [← e1]
     simpa using hc⟩
    refine Ev.step (fun k => by rw [spec_l3Num.l0]) ?_
    rw [ne, h2]
    refine Pl.ev_ite_pos (by omega) (Pl.ev_ite_pos (by omega) ?_)
    by_cases g : (c.toNat : Int) ≥ 48
    ·exact Pl.ev_ite_pos g (Pl.ev_ite_neg (by omega) (Ev.now _))
    ·exact Pl.ev_ite_neg g (Ev.now _)
theorem num_ev {s : ByteArray} (hs : s.size ≤ 200) (a : Nat) (ex : List Nd) (m : Nat) (hm : m ≤ 4) :
  ∃ D : List UInt8, Ev (fun k => spec_l3Num.f k s (a : Int) ex (m : Int)) (((valD D : Nat) : Int), okD D, s, ((a + D.length : Nat) : Int), ex) ∧ D.all Pl.digitB = true ∧ D.length ≤ m ∧ s.data.toList.drop a = D ++ s.data.toList.drop (a + D.length) ∧ (D.length < m → noDig (s.data.toList.drop (a + D.length))) := by
 have := num_loop hs a ex m hm m [] (by simp) rfl (by simp)
 exact this
theorem signs_bt (i : Nat) (h : i < 7) : bt (⟨#[43, 45, 42, 47, 60, 61, 38]⟩ : ByteArray) (i : Int) = ((signB ((i : Int) + 3)).toNat : Int) := by
 rw [Pl.bt_get (⟨#[43, 45, 42, 47, 60, 61, 38]⟩ : ByteArray) i h]
 obtain rfl | rfl | rfl | rfl | rfl | rfl | rfl : i = 0 ∨ i = 1 ∨ i = 2 ∨ i = 3 ∨ i = 4 ∨ i = 5 ∨ i = 6 := by omega
 all_goals first | rfl | decide +revert
theorem signB_inj {j k : Int} (hj : 3 ≤ j ∧ j ≤ 9) (hk : 3 ≤ k ∧ k ≤ 9) (h : signB j = signB k) : j = k := by
 obtain rfl | rfl | rfl | rfl | rfl | rfl | rfl : j = 3 ∨ j = 4 ∨ j = 5 ∨ j = 6 ∨ j = 7 ∨ j = 8 ∨ j = 9 := by omega
 all_goals
  obtain rfl | rfl | rfl | rfl | rfl | rfl | rfl : k = 3 ∨ k = 4 ∨ k = 5 ∨ k = 6 ∨ k = 7 ∨ k = 8 ∨ k = 9 := by omega
  all_goals first | rfl | exact absurd h (by decide)
theorem signB_dig {k : Int} (hk : 3 ≤ k ∧ k ≤ 9) : Pl.digitB (signB k) = false := by
 obtain rfl | rfl | rfl | rfl | rfl | rfl | rfl : k = 3 ∨ k = 4 ∨ k = 5 ∨ k = 6 ∨ k = 7 ∨ k = 8 ∨ k = 9 := by omega
 all_goals decide
theorem sign_loop {s : ByteArray} (hs : s.size ≤ 200) (a : Nat) (ex : List Nd) : ∀ j i : Nat, i + j = 7 → (∀ K : Int, 3 ≤ K → K < (i : Int) + 3 → ∀ r, s.data.toList.drop a ≠ signB K :: r) →
  ∃ (sg : Int) (b : Nat), Ev (fun k => spec_l3Sign.l0 k (⟨#[43, 45, 42, 47, 60, 61, 38]⟩ : ByteArray) (i : Int) s (a : Int) ex) (sg, s, (b : Int), ex) ∧ ((sg = 0 ∧ b = a ∧ ∀ K : Int, 3 ≤ K → K ≤ 9 → ∀ r, s.data.toList.drop a ≠ signB K :: r) ∨ ((3 ≤ sg ∧ sg ≤ 9) ∧ b = a + 1 ∧ s.data.toList.drop a = signB sg :: s.data.toList.drop (a + 1))) := by
 have z7 : (⟨#[43, 45, 42, 47, 60, 61, 38]⟩ : ByteArray).size = 7 := rfl
 intro j
 induction j with
 | zero =>
  intro i hi hn
  refine ⟨0, a, ?_, .inl ⟨rfl, rfl, fun K h1 h2 => hn K h1 (by omega)⟩⟩
  refine Ev.step (fun k => by rw [spec_l3Sign.l0]) ?_
  exact Pl.ev_ite_neg (by rw [z7]; omega) (Ev.now _)
 | succ j ih =>
  intro i hi hn
  have hb := signs_bt i (by omega)
  by_cases hh : ∃ r, s.data.toList.drop a = signB ((i : Int) + 3) :: r
  ·obtain ⟨r, hr⟩ := hh
   have ht := take_hit hs hr ex (bt (⟨#[43, 45, 42, 47, 60, 61, 38]⟩ : ByteArray) (i : Int)) hb
   refine ⟨(i : Int) + 3, a + 1, ?_, .inr ⟨by omega, rfl, by rw [(at_head hr).2.2]; exact hr⟩⟩
   refine Ev.step (fun k => by rw [spec_l3Sign.l0]) ?_
   rw [ht, Pl.wrap_in (x := (i : Int) + 3) (by omega) (by omega)]
   exact Pl.ev_ite_pos (by rw [z7]; omega) (Pl.ev_ite_pos (by omega) (Ev.now _))
  ·have ht : spec_l3Take.f s (a : Int) ex (bt (⟨#[43, 45, 42, 47, 60, 61, 38]⟩ : ByteArray) (i : Int)) = some (false, s, (a : Int), ex) := by
    cases hr : s.data.toList.drop a with
    | nil => exact take_end (drop_end hr) ex _
    | cons c r =>
     refine take_miss hr ex _ (fun e => hh ⟨r, ?_⟩)
     rw [hb] at e
     rw [hr, ← u8_of c (signB ((i : Int) + 3)).toNat (by omega), u8_of (signB ((i : Int) + 3)) _ rfl]
   obtain ⟨sg, b, q1, q2⟩ := ih (i + 1) (by omega) (fun K h1 h2 r e => by
    by_cases hK : K < (i : Int) + 3
    ·exact hn K h1 hK r e
    ·obtain rfl : K = (i : Int) + 3 := by omega
     exact hh ⟨r, e⟩)
   refine ⟨sg, b, ?_, q2⟩
   refine Ev.step (fun k => by rw [spec_l3Sign.l0]) ?_
   rw [ht, Pl.wrap_nat (by omega)]
   exact Pl.ev_ite_pos (by rw [z7]; omega) (Pl.ev_ite_pos (by omega) q1)
theorem sign_ev {s : ByteArray} (hs : s.size ≤ 200) (a : Nat) (ex : List Nd) :
  ∃ (sg : Int) (b : Nat), Ev (fun k => spec_l3Sign.f k s (a : Int) ex) (sg, s, (b : Int), ex) ∧ ((sg = 0 ∧ b = a ∧ ∀ K : Int, 3 ≤ K → K ≤ 9 → ∀ r, s.data.toList.drop a ≠ signB K :: r) ∨ ((3 ≤ sg ∧ sg ≤ 9) ∧ b = a + 1 ∧ s.data.toList.drop a = signB sg :: s.data.toList.drop (a + 1))) :=
 sign_loop hs a ex 7 0 rfl (fun K h1 h2 => by omega)
theorem hitE {s : ByteArray} {a : Nat} {c : UInt8} {r : List UInt8} (hs : s.size ≤ 200) (h : s.data.toList.drop a = c :: r) (ex : List Nd) (x : Int) (hx : x = (c.toNat : Int)) : Ev (fun _ => spec_l3Take.f s (a : Int) ex x) (true, s, ((a + 1 : Nat) : Int), ex) := by
 rw [take_hit hs h ex x hx]
 exact Ev.now _
theorem missE {s : ByteArray} {a : Nat} {c : UInt8} {r : List UInt8} (h : s.data.toList.drop a = c :: r) (ex : List Nd) (x : Int) (hx : x ≠ (c.toNat : Int)) : Ev (fun _ => spec_l3Take.f s (a : Int) ex x) (false, s, (a : Int), ex) := by
 rw [take_miss h ex x hx]
 exact Ev.now _
theorem putE (s : ByteArray) (a : Nat) (ex : List Nd) (he : ex.length ≤ 1000) (p q r t : Int) : Ev (fun _ => spec_l3Put.f s (a : Int) ex p q r t) ((ex.length : Int), s, (a : Int), ex ++ [⟨p, q, r, t⟩]) := by
 rw [put_eq s a ex he p q r t]
 exact Ev.now _
theorem part_stop {s : ByteArray} {a : Nat} {ex : List Nd} (h : 16 < ex.length ∨ s.size ≤ a) : Ev (fun k => spec_l3Part.f k s (a : Int) ex) (0, false, s, (a : Int), ex) := by
 refine Ev.step (fun k => by rw [spec_l3Part.f]) ?_
 by_cases h1 : 16 < ex.length
 ·refine Pl.ev_ite_pos (by omega) (Ev.step (fun k => by rw [spec_l3Part.j0]) (Pl.ev_ite_pos rfl (Ev.now _)))
 ·refine Pl.ev_ite_neg (by omega) (Ev.step (fun k => by rw [spec_l3Part.j0]) (Pl.ev_ite_pos (decide_eq_true (by omega)) (Ev.now _)))
theorem drop_add {l x r : List UInt8} {a : Nat} (h : l.drop a = x ++ r) : l.drop (a + x.length) = r := by
 rw [← List.drop_drop, h, List.drop_left]
theorem cast_u8 {c d : UInt8} (h : (c.toNat : Int) = (d.toNat : Int)) : d = c := by
 rw [← u8_of c d.toNat (by omega), u8_of d _ rfl]
theorem part_ev {s : ByteArray} (hs : s.size ≤ 200) : ∀ (m a : Nat) (ex : List Nd), s.size - a ≤ m → a ≤ s.size → ex.length + (s.size - a) ≤ 600 →
  ∃ (pl : Int) (ok : Bool) (b : Nat) (ex' : List Nd), Ev (fun k => spec_l3Part.f k s (a : Int) ex) (pl, ok, s, (b : Int), ex') ∧ a ≤ b ∧ b ≤ s.size ∧ ex'.length + a ≤ ex.length + b + 1 ∧
   (ok = true → ex'.length + a ≤ ex.length + b ∧ ∃ T : Ex, T.okT ∧ ex' = ex ++ T.nodes ex.length ∧ pl = ((ex.length + T.size - 1 : Nat) : Int) ∧ s.data.toList.drop a = T.txt ++ s.data.toList.drop b) := by
 intro m
 induction m with
 | zero =>
  intro a ex hm ha hl
  exact ⟨0, false, a, ex, part_stop (.inr (by omega)), by omega, by omega, by omega, fun h => absurd h (by simp)⟩
 | succ m ih =>
  intro a ex hm ha hl
  by_cases hst : 16 < ex.length ∨ s.size ≤ a
  ·exact ⟨0, false, a, ex, part_stop hst, by omega, by omega, by omega, fun h => absurd h (by simp)⟩
  ·have go : ∀ r, Ev (fun k => spec_l3Part.j0 k false s (a : Int) ex) r → Ev (fun k => spec_l3Part.f k s (a : Int) ex) r := by
    intro r hr
    refine Ev.step (fun k => by rw [spec_l3Part.f]) (Pl.ev_ite_neg (by omega) ?_)
    rw [decide_eq_false (by omega)]
    exact hr
   cases hd : s.data.toList.drop a with
   | nil => exact absurd (drop_end hd) (by omega)
   | cons c r =>
    obtain ⟨h1, _, h3⟩ := at_head hd
    have numlen : ∀ (D : List UInt8) (x : Nat), s.data.toList.drop x = D ++ s.data.toList.drop (x + D.length) → x ≤ s.size → x + D.length ≤ s.size := by
     intro D x hD hx
     have e := congrArg List.length hD
     rw [List.length_append, List.length_drop, List.length_drop, Pl.size_toList] at e
     by_cases h0 : D.length = 0
     ·omega
     ·omega
    by_cases c1 : (118 : Int) = (c.toNat : Int)
    ·have ec : c = 118 := cast_u8 (c := 118) (d := c) c1 |>.symm ▸ rfl
     obtain ⟨D, q1, q2, q3, q4, _⟩ := num_ev hs (a + 1) ex 1 (by omega)
     have hb := numlen D (a + 1) q4 (by omega)
     refine ⟨(ex.length : Int), okD D, a + 1 + D.length, ex ++ [⟨2, ((valD D : Nat) : Int), 0, 0⟩], ?_, by omega, hb, by simp; omega, fun ho => ⟨by simp; omega, .var (valD D), ?_, rfl, rfl, ?_⟩⟩
     ·refine go _ (Ev.step (fun k => by rw [spec_l3Part.j0]) (Pl.ev_ite_neg (by simp) ?_))
      exact Pl.ev_bind' (hitE hs hd ex 118 c1) (Pl.ev_ite_pos rfl (Pl.ev_bind' q1 (Pl.ev_bind' (putE s (a + 1 + D.length) ex (by omega) 2 ((valD D : Nat) : Int) 0 0) (Ev.now _))))
     ·have := valD_lt D.length D rfl q2
      have hp : 10 ^ D.length ≤ 10 ^ 1 := Nat.pow_le_pow_right (by omega) (by omega)
      show valD D ≤ 9
      omega
     ·obtain ⟨e1, _⟩ := dec_of D.length D rfl q2 ho
      show c :: r = (118 :: Lib.decDigits (valD D)) ++ _
      rw [e1, ec, ← h3, q4]
      rfl
    ·by_cases c2 : (33 : Int) = (c.toNat : Int)
     ·have ec : c = 33 := cast_u8 (c := 33) (d := c) c2 |>.symm ▸ rfl
      obtain ⟨pl1, ok1, b1, ex1, p1, p2, p3, p4, p5⟩ := ih (a + 1) ex (by omega) (by omega) (by omega)
      cases ok1 with
      | false =>
       refine ⟨0, false, b1, ex1, ?_, by omega, by omega, by omega, fun h => absurd h (by simp)⟩
       refine go _ (Ev.step (fun k => by rw [spec_l3Part.j0]) (Pl.ev_ite_neg (by simp) ?_))
       exact Pl.ev_bind' (missE hd ex 118 c1) (Pl.ev_ite_neg (by simp) (Pl.ev_bind' (hitE hs hd ex 33 c2) (Pl.ev_ite_pos rfl (Pl.ev_bind' p1 (Pl.ev_ite_neg (by simp) (Ev.now _))))))
      | true =>
       obtain ⟨z1, T, t1, t2, t3, t4⟩ := p5 rfl
       have hp := Ex.size_pos T
       have el : ex1.length = ex.length + T.size := by rw [t2, List.length_append, Ex.nodes_len]
       refine ⟨(ex1.length : Int), true, b1, ex1 ++ [⟨10, 0, pl1, 0⟩], ?_, by omega, by omega, by simp; omega, fun _ => ⟨by simp; omega, .nt T, t1, ?_, ?_, ?_⟩⟩
       ·refine go _ (Ev.step (fun k => by rw [spec_l3Part.j0]) (Pl.ev_ite_neg (by simp) ?_))
        exact Pl.ev_bind' (missE hd ex 118 c1) (Pl.ev_ite_neg (by simp) (Pl.ev_bind' (hitE hs hd ex 33 c2) (Pl.ev_ite_pos rfl (Pl.ev_bind' p1 (Pl.ev_ite_pos rfl (Pl.ev_bind' (putE s b1 ex1 (by omega) 10 0 pl1 0) (Ev.now _)))))))
       ·rw [t2, t3]
        simp [Ex.nodes]
       ·rw [el]
        rfl
       ·show c :: r = (33 :: T.txt) ++ _
        rw [ec, ← h3, t4]
        rfl
     ·by_cases c3 : (40 : Int) = (c.toNat : Int)
      ·have ec : c = 40 := cast_u8 (c := 40) (d := c) c3 |>.symm ▸ rfl
       obtain ⟨pl1, ok1, b1, ex1, p1, p2, p3, p4, p5⟩ := ih (a + 1) ex (by omega) (by omega) (by omega)
       have start : ∀ r', Ev (fun k => (spec_l3Part.f k s ((a + 1 : Nat) : Int) ex).bind fun bt192 => (if bt192.2.1 = true then ((spec_l3Sign.f k bt192.2.2.1 bt192.2.2.2.1 bt192.2.2.2.2).bind fun bt199 => ((spec_l3Part.f k bt199.2.1 bt199.2.2.1 bt199.2.2.2).bind fun bt205 => (if bt199.1 = 0 then (spec_l3Part.j1 k bt192.1 bt199.1 bt205.1 bt205.2.1 true bt205.2.2.1 bt205.2.2.2.1 bt205.2.2.2.2) else (if bt205.2.1 = true then ((spec_l3Take.f bt205.2.2.1 bt205.2.2.2.1 bt205.2.2.2.2 41).bind fun bt212 => (spec_l3Part.j1 k bt192.1 bt199.1 bt205.1 true (!bt212.1) bt212.2.1 bt212.2.2.1 bt212.2.2.2)) else (spec_l3Part.j1 k bt192.1 bt199.1 bt205.1 false true bt205.2.2.1 bt205.2.2.2.1 bt205.2.2.2.2))))) else (some (0, false, bt192.2.2.1, bt192.2.2.2.1, bt192.2.2.2.2)))) r' → Ev (fun k => spec_l3Part.f k s (a : Int) ex) r' := by
        intro r' h'
        refine go _ (Ev.step (fun k => by rw [spec_l3Part.j0]) (Pl.ev_ite_neg (by simp) ?_))
        exact Pl.ev_bind' (missE hd ex 118 c1) (Pl.ev_ite_neg (by simp) (Pl.ev_bind' (missE hd ex 33 c2) (Pl.ev_ite_neg (by simp) (Pl.ev_bind' (hitE hs hd ex 40 c3) (Pl.ev_ite_pos rfl h')))))
       cases ok1 with
       | false => exact ⟨0, false, b1, ex1, start _ (Pl.ev_bind' p1 (Pl.ev_ite_neg (by simp) (Ev.now _))), by omega, by omega, by omega, fun h => absurd h (by simp)⟩
       | true =>
        obtain ⟨z1, T, t1, t2, t3, t4⟩ := p5 rfl
        have hp := Ex.size_pos T
        have el : ex1.length = ex.length + T.size := by rw [t2, List.length_append, Ex.nodes_len]
        obtain ⟨sg, b2, s1, s2⟩ := sign_ev hs b1 ex1
        have hb2 : b1 ≤ b2 ∧ b2 ≤ s.size ∧ b2 ≤ b1 + 1 := by
         rcases s2 with ⟨_, e, _⟩ | ⟨_, e, hh⟩
         ·omega
         ·have := (at_head hh).1
          omega
        obtain ⟨pl3, ok3, b3, ex3, q1, q2, q3, q4, q5⟩ := ih b2 ex1 (by omega) (by omega) (by omega)
        have fail : ∀ (o : Bool), Ev (fun k => spec_l3Part.j1 k pl1 sg pl3 o true s (b3 : Int) ex3) (0, false, s, (b3 : Int), ex3) := fun o => Ev.step (fun k => by rw [spec_l3Part.j1]) (Pl.ev_ite_pos rfl (Ev.now _))
        by_cases hsg : sg = 0
        ·have hbb : b2 = b1 := by
          rcases s2 with ⟨_, e, _⟩ | ⟨h, _, _⟩
          ·exact e
          ·omega
         exact ⟨0, false, b3, ex3, start _ (Pl.ev_bind' p1 (Pl.ev_ite_pos rfl (Pl.ev_bind' s1 (Pl.ev_bind' q1 (Pl.ev_ite_pos hsg (fail ok3)))))), by omega, by omega, by omega, fun h => absurd h (by simp)⟩
        ·obtain ⟨g1, g2, g3⟩ : (3 ≤ sg ∧ sg ≤ 9) ∧ b2 = b1 + 1 ∧ s.data.toList.drop b1 = signB sg :: s.data.toList.drop (b1 + 1) := by
          rcases s2 with ⟨e, _, _⟩ | h
          ·exact absurd e hsg
          ·exact h
         cases ok3 with
         | false => exact ⟨0, false, b3, ex3, start _ (Pl.ev_bind' p1 (Pl.ev_ite_pos rfl (Pl.ev_bind' s1 (Pl.ev_bind' q1 (Pl.ev_ite_neg hsg (Pl.ev_ite_neg (by simp) (fail false))))))), by omega, by omega, by omega, fun h => absurd h (by simp)⟩
         | true =>
          obtain ⟨y1, U, u1, u2, u3, u4⟩ := q5 rfl
          have hq := Ex.size_pos U
          have el3 : ex3.length = ex1.length + U.size := by rw [u2, List.length_append, Ex.nodes_len]
          have bad : (∃ t, Ev (fun _ => spec_l3Take.f s (b3 : Int) ex3 41) (false, s, (b3 : Int), ex3) ∧ t = true) → ∃ (pl : Int) (ok : Bool) (b : Nat) (ex' : List Nd), Ev (fun k => spec_l3Part.f k s (a : Int) ex) (pl, ok, s, (b : Int), ex') ∧ a ≤ b ∧ b ≤ s.size ∧ ex'.length + a ≤ ex.length + b + 1 ∧
   (ok = true → ex'.length + a ≤ ex.length + b ∧ ∃ T : Ex, T.okT ∧ ex' = ex ++ T.nodes ex.length ∧ pl = ((ex.length + T.size - 1 : Nat) : Int) ∧ c :: r = T.txt ++ s.data.toList.drop b) := by
           rintro ⟨_, ht, _⟩
           exact ⟨0, false, b3, ex3, start _ (Pl.ev_bind' p1 (Pl.ev_ite_pos rfl (Pl.ev_bind' s1 (Pl.ev_bind' q1 (Pl.ev_ite_neg hsg (Pl.ev_ite_pos rfl (Pl.ev_bind' ht (fail true)))))))), by omega, by omega, by omega, fun h => absurd h (by simp)⟩
          cases hz : s.data.toList.drop b3 with
          | nil => exact bad ⟨true, by rw [take_end (drop_end hz)]; exact Ev.now _, rfl⟩
          | cons d r3 =>
           by_cases c4 : (41 : Int) = (d.toNat : Int)
           ·have ed : d = 41 := cast_u8 (c := 41) (d := d) c4 |>.symm ▸ rfl
            obtain ⟨k1, _, k3⟩ := at_head hz
            refine ⟨(ex3.length : Int), true, b3 + 1, ex3 ++ [⟨sg, 0, pl1, pl3⟩], ?_, by omega, by omega, by simp; omega, fun _ => ⟨by simp; omega, .two sg T U, ⟨g1, t1, u1⟩, ?_, ?_, ?_⟩⟩
            ·exact start _ (Pl.ev_bind' p1 (Pl.ev_ite_pos rfl (Pl.ev_bind' s1 (Pl.ev_bind' q1 (Pl.ev_ite_neg hsg (Pl.ev_ite_pos rfl (Pl.ev_bind' (hitE hs hz ex3 41 c4) (Ev.step (fun k => by rw [spec_l3Part.j1]) (Pl.ev_ite_neg (by simp) (Pl.ev_bind' (putE s (b3 + 1) ex3 (by omega) sg 0 pl1 pl3) (Ev.now _)))))))))))
            ·rw [u2, u3, el, t2, t3]
             simp [Ex.nodes]
            ·rw [el3, el]
             congr 1
             simp [Ex.size]
             omega
            ·show c :: r = (40 :: (T.txt ++ signB sg :: (U.txt ++ [41]))) ++ _
             rw [ec, ← h3, t4, g3, ← g2, u4, hz, k3, ed]
             simp
           ·exact bad ⟨true, missE hz ex3 41 c4, rfl⟩
      ·obtain ⟨D, q1, q2, q3, q4, _⟩ := num_ev hs a ex 4 (by omega)
       have hb := numlen D a q4 (by omega)
       refine ⟨(ex.length : Int), okD D, a + D.length, ex ++ [⟨1, ((valD D : Nat) : Int), 0, 0⟩], ?_, by omega, hb, by simp; omega, fun ho => ⟨?_, .con (valD D), ?_, rfl, rfl, ?_⟩⟩
       ·refine go _ (Ev.step (fun k => by rw [spec_l3Part.j0]) (Pl.ev_ite_neg (by simp) ?_))
        exact Pl.ev_bind' (missE hd ex 118 c1) (Pl.ev_ite_neg (by simp) (Pl.ev_bind' (missE hd ex 33 c2) (Pl.ev_ite_neg (by simp) (Pl.ev_bind' (missE hd ex 40 c3) (Pl.ev_ite_neg (by simp) (Pl.ev_bind' q1 (Pl.ev_bind' (putE s (a + D.length) ex (by omega) 1 ((valD D : Nat) : Int) 0 0) (Ev.now _))))))))
       ·have hD : D ≠ [] := (of_decide_eq_true ho).1
        have : D.length ≠ 0 := fun h => hD (List.length_eq_zero_iff.1 h)
        simp
        omega
       ·have := valD_lt D.length D rfl q2
        have hp : 10 ^ D.length ≤ 10 ^ 4 := Nat.pow_le_pow_right (by omega) (by omega)
        show valD D ≤ 9999
        omega
       ·obtain ⟨e1, _⟩ := dec_of D.length D rfl q2 ho
        show c :: r = Lib.decDigits (valD D) ++ _
        rw [e1, ← hd, ← q4]
theorem dec_head (v : Nat) : ∃ c d, Lib.decDigits v = c :: d ∧ 48 ≤ c.toNat ∧ c.toNat ≤ 57 := by
 obtain ⟨h1, _, h3, _⟩ := dec_is v
 cases hd : Lib.decDigits v with
 | nil => exact absurd hd h3
 | cons c d =>
  rw [hd, List.all_cons, Bool.and_eq_true] at h1
  exact ⟨c, d, rfl, dig_in h1.1⟩
theorem noDig_cons {c : UInt8} (h : Pl.digitB c = false) (r : List UInt8) : noDig (c :: r) := by
 intro d r' e
 injection e with e1 _
 rw [← e1]
 exact h
theorem part_tree {s : ByteArray} (hs : s.size ≤ 200) : ∀ (T : Ex), T.okT → ∀ (a : Nat) (ex : List Nd) (r : List UInt8), s.data.toList.drop a = T.txt ++ r → noDig r → ex.length + T.size ≤ 16 →
  Ev (fun k => spec_l3Part.f k s (a : Int) ex) (((ex.length + T.size - 1 : Nat) : Int), true, s, ((a + T.txt.length : Nat) : Int), ex ++ T.nodes ex.length) := by
 have go : ∀ (a : Nat) (ex : List Nd) (r : _), ex.length ≤ 16 → a < s.size → Ev (fun k => spec_l3Part.j0 k false s (a : Int) ex) r → Ev (fun k => spec_l3Part.f k s (a : Int) ex) r := by
  intro a ex r h1 h2 hr
  refine Ev.step (fun k => by rw [spec_l3Part.f]) (Pl.ev_ite_neg (by omega) ?_)
  rw [decide_eq_false (by omega)]
  exact hr
 intro T
 induction T with
 | con v =>
  intro ht a ex r hd hr hl
  obtain ⟨c, d, hc, hc1, hc2⟩ := dec_head v
  have hd' : s.data.toList.drop a = Lib.decDigits v ++ r := hd
  have hh : s.data.toList.drop a = c :: (d ++ r) := by rw [hd', hc]; rfl
  obtain ⟨D, q1, q2, q3, q4, q5⟩ := num_ev hs a ex 4 (by omega)
  have e := span_is D (Lib.decDigits v) _ _ 4 q2 (dec_is v).1 (by rw [← q4, hd']) hr q3 (decDigits_4 v ht) q5
  rw [e, dec_ok, (dec_is v).2.1] at q1
  have hsz : (Ex.con v).size = 1 := rfl
  refine go _ _ _ (by omega) (at_head hh).1 (Ev.step (fun k => by rw [spec_l3Part.j0]) (Pl.ev_ite_neg (by simp) ?_))
  exact Pl.ev_bind' (missE hh ex 118 (by omega)) (Pl.ev_ite_neg (by simp) (Pl.ev_bind' (missE hh ex 33 (by omega)) (Pl.ev_ite_neg (by simp) (Pl.ev_bind' (missE hh ex 40 (by omega)) (Pl.ev_ite_neg (by simp) (Pl.ev_bind' q1 (Pl.ev_bind' (putE s (a + (Lib.decDigits v).length) ex (by omega) 1 (v : Int) 0 0) (Ev.now _))))))))
 | var v =>
  intro ht a ex r hd hr hl
  have hh : s.data.toList.drop a = 118 :: (Lib.decDigits v ++ r) := hd
  obtain ⟨D, q1, q2, q3, q4, q5⟩ := num_ev hs (a + 1) ex 1 (by omega)
  have h3 := (at_head hh).2.2
  have hv : (Lib.decDigits v).length ≤ 1 := by
   have : v ≤ 9 := ht
   rw [Lib.decDigits, dif_pos (by omega)]
   simp
  have e := span_is D (Lib.decDigits v) _ _ 1 q2 (dec_is v).1 (by rw [← q4, h3]) hr q3 hv q5
  rw [e, dec_ok, (dec_is v).2.1] at q1
  have hsz : (Ex.var v).size = 1 := rfl
  have hen : ((a + 1 + (Lib.decDigits v).length : Nat) : Int) = ((a + (Ex.var v).txt.length : Nat) : Int) := by
   show _ = ((a + (118 :: Lib.decDigits v).length : Nat) : Int)
   rw [List.length_cons]
   omega
  rw [← hen]
  refine go _ _ _ (by omega) (at_head hh).1 (Ev.step (fun k => by rw [spec_l3Part.j0]) (Pl.ev_ite_neg (by simp) ?_))
  exact Pl.ev_bind' (hitE hs hh ex 118 rfl) (Pl.ev_ite_pos rfl (Pl.ev_bind' q1 (Pl.ev_bind' (putE s (a + 1 + (Lib.decDigits v).length) ex (by omega) 2 (v : Int) 0 0) (Ev.now _))))
 | nt A ih =>
  intro ht a ex r hd hr hl
  have hsz : (Ex.nt A).size = A.size + 1 := rfl
  have hp := Ex.size_pos A
  have hh : s.data.toList.drop a = 33 :: (A.txt ++ r) := hd
  have h3 := (at_head hh).2.2
  have p := ih ht (a + 1) ex r h3 hr (by omega)
  have el : (ex ++ A.nodes ex.length).length = ex.length + A.size := by rw [List.length_append, Ex.nodes_len]
  have P := putE s (a + 1 + A.txt.length) (ex ++ A.nodes ex.length) (by omega) 10 0 ((ex.length + A.size - 1 : Nat) : Int) 0
  have fin : (((ex ++ A.nodes ex.length).length : Int), true, s, ((a + 1 + A.txt.length : Nat) : Int), (ex ++ A.nodes ex.length) ++ [(⟨10, 0, ((ex.length + A.size - 1 : Nat) : Int), 0⟩ : Nd)]) = (((ex.length + (Ex.nt A).size - 1 : Nat) : Int), true, s, ((a + (Ex.nt A).txt.length : Nat) : Int), ex ++ (Ex.nt A).nodes ex.length) := by
   have e1 : (Ex.nt A).txt.length = A.txt.length + 1 := rfl
   rw [el, e1, List.append_assoc]
   congr 3
   congr 1
   congr 1
   omega
  rw [← fin]
  refine go _ _ _ (by omega) (at_head hh).1 (Ev.step (fun k => by rw [spec_l3Part.j0]) (Pl.ev_ite_neg (by simp) ?_))
  exact Pl.ev_bind' (missE hh ex 118 (by decide)) (Pl.ev_ite_neg (by simp) (Pl.ev_bind' (hitE hs hh ex 33 rfl) (Pl.ev_ite_pos rfl (Pl.ev_bind' p (Pl.ev_ite_pos rfl (Pl.ev_bind' P (Ev.now _)))))))
 | two K A C ihA ihC =>
  intro ht a ex r hd hr hl
  obtain ⟨hK, tA, tC⟩ := ht
  have hsz : (Ex.two K A C).size = A.size + C.size + 1 := rfl
  have hp := Ex.size_pos A
  have hq := Ex.size_pos C
  have hh : s.data.toList.drop a = 40 :: (A.txt ++ (signB K :: (C.txt ++ (41 :: r)))) := by
   rw [hd]
   show (40 :: (A.txt ++ signB K :: (C.txt ++ [41]))) ++ r = _
   simp
  have h3 := (at_head hh).2.2
  have p := ihA tA (a + 1) ex (signB K :: (C.txt ++ (41 :: r))) h3 (noDig_cons (signB_dig hK) _) (by omega)
  have elA : (ex ++ A.nodes ex.length).length = ex.length + A.size := by rw [List.length_append, Ex.nodes_len]
  have h4 := drop_add h3
  obtain ⟨sg, b2, s1, s2⟩ := sign_ev hs (a + 1 + A.txt.length) (ex ++ A.nodes ex.length)
  obtain ⟨g0, g2⟩ : sg = K ∧ b2 = a + 1 + A.txt.length + 1 := by
   rcases s2 with ⟨_, _, h⟩ | ⟨h1, h2, h⟩
   ·exact absurd h4 (h K hK.1 hK.2 _)
   ·rw [h4] at h
    injection h with e1 _
    exact ⟨(signB_inj hK h1 e1).symm, h2⟩
  subst g0
  subst g2
  have h5 := (at_head h4).2.2
  have q := ihC tC (a + 1 + A.txt.length + 1) (ex ++ A.nodes ex.length) (41 :: r) h5 (noDig_cons (by decide) r) (by omega)
  have h6 := drop_add h5
  have elC : ((ex ++ A.nodes ex.length) ++ C.nodes (ex ++ A.nodes ex.length).length).length = ex.length + A.size + C.size := by rw [List.length_append, Ex.nodes_len, elA]
  have P := putE s (a + 1 + A.txt.length + 1 + C.txt.length + 1) ((ex ++ A.nodes ex.length) ++ C.nodes (ex ++ A.nodes ex.length).length) (by omega) sg 0 ((ex.length + A.size - 1 : Nat) : Int) (((ex ++ A.nodes ex.length).length + C.size - 1 : Nat) : Int)
  have fin : ((((ex ++ A.nodes ex.length) ++ C.nodes (ex ++ A.nodes ex.length).length).length : Int), true, s, ((a + 1 + A.txt.length + 1 + C.txt.length + 1 : Nat) : Int), ((ex ++ A.nodes ex.length) ++ C.nodes (ex ++ A.nodes ex.length).length) ++ [(⟨sg, 0, ((ex.length + A.size - 1 : Nat) : Int), (((ex ++ A.nodes ex.length).length + C.size - 1 : Nat) : Int)⟩ : Nd)]) = (((ex.length + (Ex.two sg A C).size - 1 : Nat) : Int), true, s, ((a + (Ex.two sg A C).txt.length : Nat) : Int), ex ++ (Ex.two sg A C).nodes ex.length) := by
   have e1 : (Ex.two sg A C).txt.length = A.txt.length + (C.txt.length + 1 + 1) + 1 := by
    show (40 :: (A.txt ++ signB sg :: (C.txt ++ [41]))).length = _
    simp
   have e2 : ((ex.length + A.size + C.size : Nat) : Int) = ((ex.length + (Ex.two sg A C).size - 1 : Nat) : Int) := by omega
   have e3 : ((a + 1 + A.txt.length + 1 + C.txt.length + 1 : Nat) : Int) = ((a + (Ex.two sg A C).txt.length : Nat) : Int) := by omega
   have e4 : ((ex ++ A.nodes ex.length) ++ C.nodes (ex ++ A.nodes ex.length).length) ++ [(⟨sg, 0, ((ex.length + A.size - 1 : Nat) : Int), (((ex ++ A.nodes ex.length).length + C.size - 1 : Nat) : Int)⟩ : Nd)] = ex ++ (Ex.two sg A C).nodes ex.length := by
    rw [elA]
    simp [Ex.nodes]
   rw [e4, e3, elC, e2]
  rw [← fin]
  refine go _ _ _ (by omega) (at_head hh).1 (Ev.step (fun k => by rw [spec_l3Part.j0]) (Pl.ev_ite_neg (by simp) ?_))
  exact Pl.ev_bind' (missE hh ex 118 (by decide)) (Pl.ev_ite_neg (by simp) (Pl.ev_bind' (missE hh ex 33 (by decide)) (Pl.ev_ite_neg (by simp) (Pl.ev_bind' (hitE hs hh ex 40 rfl) (Pl.ev_ite_pos rfl (Pl.ev_bind' p (Pl.ev_ite_pos rfl (Pl.ev_bind' s1 (Pl.ev_bind' q (Pl.ev_ite_neg (by omega) (Pl.ev_ite_pos rfl (Pl.ev_bind' (hitE hs h6 _ 41 rfl) (Ev.step (fun k => by rw [spec_l3Part.j1]) (Pl.ev_ite_neg (by simp) (Pl.ev_bind' P (Ev.now _))))))))))))))))
theorem bs_of (s : ByteArray) : s = bs s.data.toList := by
 obtain ⟨⟨l⟩⟩ := s
 rfl
theorem bs_drop (l : List UInt8) (n : Nat) : (bs l).extract n (bs l).size = bs (l.drop n) := by
 have h : ((bs l).extract n (bs l).size).data.toList = l.drop n := by
  rw [ByteArray.data_extract, Array.toList_extract, bs_data, bs_size]
  simp only [List.extract]
  exact List.take_of_length_le (by rw [List.length_drop]; omega)
 rw [bs_of ((bs l).extract n (bs l).size), h]
theorem bs_take (l : List UInt8) (n : Nat) : (bs l).extract 0 n = bs (l.take n) := by
 have h : ((bs l).extract 0 n).data.toList = l.take n := by
  rw [ByteArray.data_extract, Array.toList_extract, bs_data]
  simp [List.extract]
 rw [bs_of ((bs l).extract 0 n), h]
theorem bs_bt (c : UInt8) (l : List UInt8) : bt (bs (c :: l)) 0 = (c.toNat : Int) := by
 have h := Pl.bt_get (bs (c :: l)) 0 (by rw [bs_size]; simp)
 have e : (bs (c :: l)).data.toList = c :: l := bs_data _
 simp only [e] at h
 exact h
theorem skip_eq (c : UInt8) (l : List UInt8) (hl : l.length ≤ 1000) (nd : List Nd) (x : Int) (hx : x = (c.toNat : Int)) : impl_exprReader_skip.f (bs (c :: l)) nd false x = some (bs l, nd, false) := by
 unfold impl_exprReader_skip.f
 have e : ¬ (bs (c :: l)).toList = [] := by rw [Pl.toList_data, bs_data]; simp
 rw [if_neg (by simp), if_neg e, bs_bt, bs_drop]
 have hs : (bs (c :: l)).size = l.length + 1 := by rw [bs_size]; rfl
 rw [if_pos (by omega), if_pos hx.symm, if_pos (by omega)]
 rfl
theorem skip_any (l : List UInt8) (nd : List Nd) (fl : Bool) (x : Int) : ∃ l' fl', impl_exprReader_skip.f (bs l) nd fl x = some (bs l', nd, fl') ∧ l'.length ≤ l.length ∧ (fl = true → fl' = true) := by
 cases fl with
 | true => exact ⟨l, true, by unfold impl_exprReader_skip.f; rw [if_pos rfl], Nat.le_refl _, fun _ => rfl⟩
 | false =>
  cases l with
  | nil =>
   refine ⟨[], true, ?_, Nat.le_refl _, fun _ => rfl⟩
   unfold impl_exprReader_skip.f
   rw [if_neg (by simp), if_pos (by rw [Pl.toList_data, bs_data])]
  | cons c l =>
   have e : ¬ (bs (c :: l)).toList = [] := by rw [Pl.toList_data, bs_data]; simp
   have hs : (bs (c :: l)).size = l.length + 1 := by rw [bs_size]; rfl
   by_cases hx : (c.toNat : Int) = x
   ·refine ⟨l, false, ?_, by simp, fun h => absurd h (by simp)⟩
    unfold impl_exprReader_skip.f
    rw [if_neg (by simp), if_neg e, bs_bt, bs_drop, if_pos (by omega), if_pos hx, if_pos (by omega)]
    rfl
   ·refine ⟨c :: l, true, ?_, by simp, fun h => rfl⟩
    unfold impl_exprReader_skip.f
    rw [if_neg (by simp), if_neg e, bs_bt, if_pos (by omega), if_neg hx]
theorem add_eq (x : ByteArray) (nd : List Nd) (h : nd.length ≤ 1000) (fl : Bool) (p q r t : Int) : impl_exprReader_add.f x nd fl p q r t = some ((nd.length : Int), x, nd ++ [⟨p, q, r, t⟩], fl) := by
 unfold impl_exprReader_add.f
 rw [if_pos (by omega), Option.bind_some]
 have el : (nd ++ [(⟨p, q, r, t⟩ : Nd)]).length = nd.length + 1 := by simp
 have : wrap64 (((nd ++ [(⟨p, q, r, t⟩ : Nd)]).length : Int) - 1) = (nd.length : Int) := by
  rw [el, Pl.wrap_in (by omega) (by omega)]
  omega
 rw [this]
theorem isDigit_eq (c : UInt8) : impl_isDigit.f (c.toNat : Int) = some (Pl.digitB c) := by
 unfold impl_isDigit.f Pl.digitB
 by_cases h : (c.toNat : Int) ≥ 48
 ·rw [if_pos h]
  congr 1
  rw [decide_eq_decide]
  omega
 ·rw [if_neg h, decide_eq_false (by omega)]
theorem run_loop (l : List UInt8) (hl : l.length ≤ 1000) : ∀ j i : Nat, i + j = l.length → (l.take i).all Pl.digitB = true → ∃ D : List UInt8, Ev (fun k => impl_run__impl_isDigit.l0 k (bs l) (i : Int)) (bs D, bs (l.drop D.length)) ∧ l = D ++ l.drop D.length ∧ D.all Pl.digitB = true ∧ noDig (l.drop D.length) := by
 have hs : (bs l).size = l.length := bs_size l
 have stop : ∀ i, i ≤ l.length → ((bs l).extract 0 ((i : Int)).toNat, (bs l).extract ((i : Int)).toNat (bs l).size) = (bs (l.take i), bs (l.drop (l.take i).length)) := by
  intro i hi
  rw [Int.toNat_natCast, bs_take, bs_drop, List.length_take, Nat.min_eq_left hi]
 intro j
 induction j with
 | zero =>
  intro i hi ha
  have e1 : (l.take i).length = i := by rw [List.length_take]; omega
  have hd : l.drop i = [] := List.drop_eq_nil_of_le (by omega)
  refine ⟨l.take i, ?_, by rw [e1, List.take_append_drop], ha, by rw [e1, hd]; intro c r h; exact absurd h (by simp)⟩
  refine Ev.step (fun k => by rw [impl_run__impl_isDigit.l0]) ?_
  rw [stop i (by omega)]
  exact Pl.ev_ite_neg (by omega) (Pl.ev_ite_pos (by omega) (Pl.ev_ite_pos (by omega) (Ev.now _)))
 | succ j ih =>
  intro i hi ha
  have hi' : i < l.length := by omega
  have hb : bt (bs l) (i : Int) = (l[i].toNat : Int) := Pl.bt_l (bs_data l) i hi'
  by_cases hc : Pl.digitB l[i] = true
  ·obtain ⟨D, q1, q2⟩ := ih (i + 1) (by omega) (by rw [List.take_add_one, List.getElem?_eq_getElem hi', List.all_append, ha]; simp [hc])
   refine ⟨D, ?_, q2⟩
   refine Ev.step (fun k => by rw [impl_run__impl_isDigit.l0]) ?_
   rw [hb, isDigit_eq, hc, Pl.wrap_nat (by omega)]
   exact Pl.ev_ite_pos (by omega) (Pl.ev_ite_pos (by omega) (Pl.ev_bind' (Ev.now _) (Pl.ev_ite_pos rfl q1)))
  ·have e1 : (l.take i).length = i := by rw [List.length_take]; omega
   refine ⟨l.take i, ?_, by rw [e1, List.take_append_drop], ha, ?_⟩
   ·refine Ev.step (fun k => by rw [impl_run__impl_isDigit.l0]) ?_
    rw [hb, isDigit_eq, stop i (by omega)]
    exact Pl.ev_ite_pos (by omega) (Pl.ev_ite_pos (by omega) (Pl.ev_bind' (Ev.now _) (Pl.ev_ite_neg hc (Pl.ev_ite_pos (by omega) (Ev.now _)))))
   ·rw [e1, Pl.drop_get hi']
    exact fun c r h => by
     injection h with h1 _
     rw [← h1]
     simpa using hc
theorem run_ev (l : List UInt8) (hl : l.length ≤ 1000) : ∃ D : List UInt8, Ev (fun k => impl_run__impl_isDigit.f k (bs l)) (bs D, bs (l.drop D.length)) ∧ l = D ++ l.drop D.length ∧ D.all Pl.digitB = true ∧ noDig (l.drop D.length) :=
 run_loop l hl l.length 0 (by omega) rfl
theorem digits_any (l : List UInt8) (hl : l.length ≤ 1000) (nd : List Nd) (fl : Bool) : ∃ n l' fl', Ev (fun k => impl_exprReader_digits.f k (bs l) nd fl) (n, bs l', nd, fl') ∧ l'.length ≤ l.length := by
 obtain ⟨D, q1, q2, _, _⟩ := run_ev l hl
 have hD : D.length ≤ l.length := by
  have := congrArg List.length q2
  rw [List.length_append] at this
  omega
 obtain ⟨n, ok, hn⟩ := number_some (bs D) (by rw [bs_size]; omega) 4
 have hne : Ev (fun _ => impl_number.f (bs D) 4) (n, ok) := by rw [hn]; exact Ev.now _
 cases fl with
 | true => exact ⟨n, l.drop D.length, true, Pl.ev_bind' q1 (Pl.ev_bind' hne (Pl.ev_ite_pos rfl (Ev.now _))), by rw [List.length_drop]; omega⟩
 | false => exact ⟨n, l.drop D.length, !ok, Pl.ev_bind' q1 (Pl.ev_bind' hne (Pl.ev_ite_neg (by simp) (Ev.now _))), by rw [List.length_drop]; omega⟩
theorem digits_dec (v : Nat) (hv : v ≤ 9999) (r : List UInt8) (hr : noDig r) (hl : r.length ≤ 900) (nd : List Nd) : Ev (fun k => impl_exprReader_digits.f k (bs (Lib.decDigits v ++ r)) nd false) ((v : Int), bs r, nd, false) := by
 have h4 := decDigits_4 v hv
 obtain ⟨D, q1, q2, q3, q4⟩ := run_ev (Lib.decDigits v ++ r) (by rw [List.length_append]; omega)
 have e := span_is D (Lib.decDigits v) _ r (D.length + 4) q3 (dec_is v).1 q2.symm hr (by omega) (by omega) (fun _ => q4)
 rw [e, List.drop_left] at q1
 have hne : Ev (fun _ => impl_number.f (bs (Lib.decDigits v)) 4) ((v : Int), true) := by rw [number_dec v hv]; exact Ev.now _
 exact Pl.ev_bind' q1 (Pl.ev_bind' hne (Pl.ev_ite_neg (by simp) (Ev.now _)))
theorem now_of {α : Type} {g : Option α} {r : α} (h : g = some r) : Ev (fun _ => g) r := by rw [h]; exact Ev.now _
theorem empty_bs (l : List UInt8) : (bs l).toList.isEmpty = l.isEmpty := by rw [Pl.toList_data, bs_data]
theorem node_fail (x : ByteArray) (nd : List Nd) : Ev (fun k => impl_exprReader_node.f k x nd true) (0, x, nd, true) :=
 Ev.step (fun k => by rw [impl_exprReader_node.f]) (Pl.ev_ite_pos rfl (Ev.step (fun k => by rw [impl_exprReader_node.j0]) (Pl.ev_ite_pos rfl (Ev.now _))))
theorem node_go (c : UInt8) (l : List UInt8) (nd : List Nd) (r : _) (h : Ev (fun k => impl_exprReader_node.j0 k (bs (c :: l)) nd false) r) : Ev (fun k => impl_exprReader_node.f k (bs (c :: l)) nd false) r := by
 refine Ev.step (fun k => by rw [impl_exprReader_node.f]) (Pl.ev_ite_neg (by simp) ?_)
 rw [empty_bs]
 exact h
theorem node_nil (nd : List Nd) : Ev (fun k => impl_exprReader_node.f k (bs []) nd false) (0, bs [], nd, true) := by
 refine Ev.step (fun k => by rw [impl_exprReader_node.f]) (Pl.ev_ite_neg (by simp) ?_)
 rw [empty_bs]
 show Ev (fun k => impl_exprReader_node.j0 k (bs []) nd true) _
 exact Ev.step (fun k => by rw [impl_exprReader_node.j0]) (Pl.ev_ite_pos rfl (Ev.now _))
theorem node_any : ∀ (m : Nat) (l : List UInt8) (nd : List Nd) (fl : Bool), l.length ≤ m → nd.length + l.length ≤ 900 → ∃ pl l' nd' fl', Ev (fun k => impl_exprReader_node.f k (bs l) nd fl) (pl, bs l', nd', fl') ∧ l'.length ≤ l.length ∧ nd'.length + l'.length ≤ nd.length + l.length + 1 := by
 intro m
 induction m with
 | zero =>
  intro l nd fl hm hn
  obtain rfl : l = [] := List.length_eq_zero_iff.1 (by omega)
  cases fl with
  | true => exact ⟨_, _, _, _, node_fail _ nd, by omega, by omega⟩
  | false => exact ⟨_, _, _, _, node_nil nd, by omega, by omega⟩
 | succ m ih =>
  intro l nd fl hm hn
  cases fl with
  | true => exact ⟨_, _, _, _, node_fail _ nd, by omega, by omega⟩
  | false =>
   cases l with
   | nil => exact ⟨_, _, _, _, node_nil nd, by omega, by omega⟩
   | cons c l =>
    have hs : (bs (c :: l)).size = l.length + 1 := by rw [bs_size]; rfl
    have hcl : (c :: l).length = l.length + 1 := rfl
    rw [hcl] at hm hn
    have hb := bs_bt c l
    have go : ∀ r, Ev (fun k => impl_exprReader_node.j0 k (bs (c :: l)) nd false) r → Ev (fun k => impl_exprReader_node.f k (bs (c :: l)) nd false) r := fun r => node_go c l nd r
    by_cases c1 : (c.toNat : Int) = 118
    ·obtain ⟨n, l2, f2, q1, q2⟩ := digits_any l (by omega) nd false
     refine ⟨(nd.length : Int), l2, nd ++ [⟨2, n, 0, 0⟩], f2, ?_, by omega, by simp; omega⟩
     refine go _ (Ev.step (fun k => by rw [impl_exprReader_node.j0]) ?_)
     rw [hb]
     exact Pl.ev_ite_neg (by simp) (Pl.ev_ite_pos (by omega) (Pl.ev_ite_pos c1 (Pl.ev_bind' (now_of (skip_eq c l (by omega) nd 118 c1.symm)) (Pl.ev_bind' q1 (Pl.ev_bind' (now_of (add_eq (bs l2) nd (by omega) f2 2 n 0 0)) (Ev.now _))))))
    ·by_cases c2 : (c.toNat : Int) = 33
     ·obtain ⟨pl1, l2, nd2, f2, q1, q2, q3⟩ := ih l nd false (by omega) (by omega)
      refine ⟨(nd2.length : Int), l2, nd2 ++ [⟨10, 0, pl1, 0⟩], f2, ?_, by omega, by simp; omega⟩
      refine go _ (Ev.step (fun k => by rw [impl_exprReader_node.j0]) ?_)
      rw [hb]
      exact Pl.ev_ite_neg (by simp) (Pl.ev_ite_pos (by omega) (Pl.ev_ite_neg c1 (Pl.ev_ite_pos c2 (Pl.ev_bind' (now_of (skip_eq c l (by omega) nd 33 c2.symm)) (Pl.ev_bind' q1 (Pl.ev_bind' (now_of (add_eq (bs l2) nd2 (by omega) f2 10 0 pl1 0)) (Ev.now _)))))))
     ·by_cases c3 : (c.toNat : Int) = 40
      ·obtain ⟨pl1, l2, nd2, f2, q1, q2, q3⟩ := ih l nd false (by omega) (by omega)
       have start : ∀ r', Ev (fun k => (if f2 = true then (impl_exprReader_node.j1 k pl1 (bs l2) nd2 true) else (impl_exprReader_node.j1 k pl1 (bs l2) nd2 ((bs l2).toList.isEmpty)))) r' → Ev (fun k => impl_exprReader_node.f k (bs (c :: l)) nd false) r' := by
        intro r' h'
        refine go _ (Ev.step (fun k => by rw [impl_exprReader_node.j0]) ?_)
        rw [hb]
        exact Pl.ev_ite_neg (by simp) (Pl.ev_ite_pos (by omega) (Pl.ev_ite_neg c1 (Pl.ev_ite_neg c2 (Pl.ev_ite_pos c3 (Pl.ev_bind' (now_of (skip_eq c l (by omega) nd 40 c3.symm)) (Pl.ev_bind' q1 h'))))))
       have fail : Ev (fun k => impl_exprReader_node.j1 k pl1 (bs l2) nd2 true) (0, bs l2, nd2, true) := Ev.step (fun k => by rw [impl_exprReader_node.j1]) (Pl.ev_ite_pos rfl (Ev.now _))
       cases f2 with
       | true => exact ⟨0, l2, nd2, true, start _ (Pl.ev_ite_pos rfl fail), by omega, by omega⟩
       | false =>
        cases l2 with
        | nil => exact ⟨0, [], nd2, true, start _ (Pl.ev_ite_neg (by simp) (by rw [empty_bs]; exact fail)), by simp, by omega⟩
        | cons d l2 =>
         have hdl : (d :: l2).length = l2.length + 1 := rfl
         rw [hdl] at q2 q3
         have hsd : (bs (d :: l2)).size = l2.length + 1 := by rw [bs_size]; rfl
         obtain ⟨t, ht⟩ : ∃ t, strings_IndexByte.f (⟨#[43, 45, 42, 47, 60, 61, 38]⟩ : ByteArray) (bt (bs (d :: l2)) 0) = some t := ⟨_, rfl⟩
         obtain ⟨pl3, l3, nd3, f3, p1, p2, p3⟩ := ih l2 nd2 (decide (t < 0)) (by omega) (by omega)
         obtain ⟨l4, f4, k1, k2, _⟩ := skip_any l3 nd3 f3 41
         refine ⟨(nd3.length : Int), l4, nd3 ++ [⟨wrap64 (3 + t), 0, pl1, pl3⟩], f4, start _ (Pl.ev_ite_neg (by simp) ?_), by simp; omega, by simp; omega⟩
         rw [empty_bs]
         have hx : (bs (d :: l2)).extract 1 (bs (d :: l2)).size = bs l2 := bs_drop (d :: l2) 1
         refine Ev.step (fun k => by rw [impl_exprReader_node.j1]) ?_
         rw [ht, hx]
         exact Pl.ev_ite_neg (by simp) (Pl.ev_ite_pos (by omega) (Pl.ev_ite_pos (by omega) (Pl.ev_bind' p1 (Pl.ev_bind' (now_of k1) (Pl.ev_bind' (now_of (add_eq (bs l4) nd3 (by omega) f4 (wrap64 (3 + t)) 0 pl1 pl3)) (Ev.now _))))))
      ·obtain ⟨n, l2, f2, q1, q2⟩ := digits_any (c :: l) (by rw [hcl]; omega) nd false
       rw [hcl] at q2
       refine ⟨(nd.length : Int), l2, nd ++ [⟨1, n, 0, 0⟩], f2, ?_, by rw [hcl]; omega, by simp; omega⟩
       refine go _ (Ev.step (fun k => by rw [impl_exprReader_node.j0]) ?_)
       rw [hb]
       exact Pl.ev_ite_neg (by simp) (Pl.ev_ite_pos (by omega) (Pl.ev_ite_neg c1 (Pl.ev_ite_neg c2 (Pl.ev_ite_neg c3 (Pl.ev_bind' q1 (Pl.ev_bind' (now_of (add_eq (bs l2) nd (by omega) f2 1 n 0 0)) (Ev.now _)))))))
theorem dec_head3 (v : Nat) : ∃ c d, Lib.decDigits v = c :: d ∧ 48 ≤ c.toNat ∧ c.toNat ≤ 57 := by
 obtain ⟨h1, _, h3, _⟩ := dec_is v
 cases hd : Lib.decDigits v with
 | nil => exact absurd hd h3
 | cons c d =>
  rw [hd, List.all_cons, Bool.and_eq_true] at h1
  exact ⟨c, d, rfl, dig_in h1.1⟩
theorem noDig_cons3 {c : UInt8} (h : Pl.digitB c = false) (r : List UInt8) : noDig (c :: r) := by
 intro d r' e
 injection e with e1 _
 rw [← e1]
 exact h
theorem index_sign {K : Int} (hK : 3 ≤ K ∧ K ≤ 9) : strings_IndexByte.f (⟨#[43, 45, 42, 47, 60, 61, 38]⟩ : ByteArray) ((signB K).toNat : Int) = some (K - 3) := by
 obtain rfl | rfl | rfl | rfl | rfl | rfl | rfl : K = 3 ∨ K = 4 ∨ K = 5 ∨ K = 6 ∨ K = 7 ∨ K = 8 ∨ K = 9 := by omega
 all_goals first | rfl | decide +kernel
theorem node_tree : ∀ (T : Ex), T.okT → ∀ (r : List UInt8) (nd : List Nd), noDig r → nd.length + T.size ≤ 600 → T.txt.length + r.length ≤ 800 →
  Ev (fun k => impl_exprReader_node.f k (bs (T.txt ++ r)) nd false) (((nd.length + T.size - 1 : Nat) : Int), bs r, nd ++ T.nodes nd.length, false) := by
 intro T
 induction T with
 | con v =>
  intro ht r nd hr hl hs
  obtain ⟨c, d, hc, hc1, hc2⟩ := dec_head3 v
  have hh : Lib.decDigits v ++ r = c :: (d ++ r) := by rw [hc]; rfl
  have q1 := digits_dec v ht r hr (by omega) nd
  have hz : (bs (c :: (d ++ r))).size = (d ++ r).length + 1 := by rw [bs_size]; rfl
  show Ev (fun k => impl_exprReader_node.f k (bs (Lib.decDigits v ++ r)) nd false) _
  rw [hh] at q1 ⊢
  have hsz : (Ex.con v).size = 1 := rfl
  refine node_go c (d ++ r) nd _ (Ev.step (fun k => by rw [impl_exprReader_node.j0]) ?_)
  rw [bs_bt]
  exact Pl.ev_ite_neg (by simp) (Pl.ev_ite_pos (by omega) (Pl.ev_ite_neg (by omega) (Pl.ev_ite_neg (by omega) (Pl.ev_ite_neg (by omega) (Pl.ev_bind' q1 (Pl.ev_bind' (now_of (add_eq (bs r) nd (by omega) false 1 (v : Int) 0 0)) (Ev.now _)))))))
 | var v =>
  intro ht r nd hr hl hs
  have h9 : v ≤ 9 := ht
  have q1 := digits_dec v (by omega) r hr (by omega) nd
  have hz : (bs (118 :: (Lib.decDigits v ++ r))).size = (Lib.decDigits v ++ r).length + 1 := by rw [bs_size]; rfl
  have h4 := decDigits_4 v (by omega)
  show Ev (fun k => impl_exprReader_node.f k (bs (118 :: (Lib.decDigits v ++ r))) nd false) _
  have hsz : (Ex.var v).size = 1 := rfl
  refine node_go 118 (Lib.decDigits v ++ r) nd _ (Ev.step (fun k => by rw [impl_exprReader_node.j0]) ?_)
  rw [bs_bt]
  exact Pl.ev_ite_neg (by simp) (Pl.ev_ite_pos (by omega) (Pl.ev_ite_pos (by decide) (Pl.ev_bind' (now_of (skip_eq 118 _ (by rw [List.length_append]; omega) nd 118 rfl)) (Pl.ev_bind' q1 (Pl.ev_bind' (now_of (add_eq (bs r) nd (by omega) false 2 (v : Int) 0 0)) (Ev.now _))))))
 | nt A ih =>
  intro ht r nd hr hl hs
  have hsz : (Ex.nt A).size = A.size + 1 := rfl
  have htx : (Ex.nt A).txt.length = A.txt.length + 1 := rfl
  have hp := Ex.size_pos A
  have p := ih ht r nd hr (by omega) (by omega)
  have hz : (bs (33 :: (A.txt ++ r))).size = (A.txt ++ r).length + 1 := by rw [bs_size]; rfl
  have el : (nd ++ A.nodes nd.length).length = nd.length + A.size := by rw [List.length_append, Ex.nodes_len]
  have fin : (((nd ++ A.nodes nd.length).length : Int), bs r, (nd ++ A.nodes nd.length) ++ [(⟨10, 0, ((nd.length + A.size - 1 : Nat) : Int), 0⟩ : Nd)], false) = (((nd.length + (Ex.nt A).size - 1 : Nat) : Int), bs r, nd ++ (Ex.nt A).nodes nd.length, false) := by
   have e1 : ((nd.length + A.size : Nat) : Int) = ((nd.length + (Ex.nt A).size - 1 : Nat) : Int) := by omega
   have e2 : (nd ++ A.nodes nd.length) ++ [(⟨10, 0, ((nd.length + A.size - 1 : Nat) : Int), 0⟩ : Nd)] = nd ++ (Ex.nt A).nodes nd.length := by simp [Ex.nodes]
   rw [e2, el, e1]
  rw [← fin]
  show Ev (fun k => impl_exprReader_node.f k (bs (33 :: (A.txt ++ r))) nd false) _
  refine node_go 33 (A.txt ++ r) nd _ (Ev.step (fun k => by rw [impl_exprReader_node.j0]) ?_)
  rw [bs_bt]
  exact Pl.ev_ite_neg (by simp) (Pl.ev_ite_pos (by omega) (Pl.ev_ite_neg (by decide) (Pl.ev_ite_pos (by decide) (Pl.ev_bind' (now_of (skip_eq 33 _ (by rw [List.length_append]; omega) nd 33 rfl)) (Pl.ev_bind' p (Pl.ev_bind' (now_of (add_eq (bs r) (nd ++ A.nodes nd.length) (by omega) false 10 0 ((nd.length + A.size - 1 : Nat) : Int) 0)) (Ev.now _)))))))
 | two K A C ihA ihC =>
  intro ht r nd hr hl hs
  obtain ⟨hK, tA, tC⟩ := ht
  have hsz : (Ex.two K A C).size = A.size + C.size + 1 := rfl
  have htx : (Ex.two K A C).txt.length = A.txt.length + (C.txt.length + 1 + 1) + 1 := by
   show (40 :: (A.txt ++ signB K :: (C.txt ++ [41]))).length = _
   simp
  have hp := Ex.size_pos A
  have hq := Ex.size_pos C
  have hh : (Ex.two K A C).txt ++ r = 40 :: (A.txt ++ (signB K :: (C.txt ++ (41 :: r)))) := by
   show (40 :: (A.txt ++ signB K :: (C.txt ++ [41]))) ++ r = _
   simp
  have lC : (C.txt ++ (41 :: r)).length = C.txt.length + r.length + 1 := by simp; omega
  have lS : (signB K :: (C.txt ++ (41 :: r))).length = C.txt.length + r.length + 2 := by rw [List.length_cons, lC]
  have lA : (A.txt ++ (signB K :: (C.txt ++ (41 :: r)))).length = A.txt.length + C.txt.length + r.length + 2 := by rw [List.length_append, lS]; omega
  have p := ihA tA (signB K :: (C.txt ++ (41 :: r))) nd (noDig_cons3 (signB_dig hK) _) (by omega) (by omega)
  have elA : (nd ++ A.nodes nd.length).length = nd.length + A.size := by rw [List.length_append, Ex.nodes_len]
  have q := ihC tC (41 :: r) (nd ++ A.nodes nd.length) (noDig_cons3 (by decide) r) (by omega) (by rw [List.length_cons]; omega)
  have hz : (bs (40 :: (A.txt ++ (signB K :: (C.txt ++ (41 :: r)))))).size = A.txt.length + C.txt.length + r.length + 3 := by rw [bs_size, List.length_cons, lA]
  have hz2 : (bs (signB K :: (C.txt ++ (41 :: r)))).size = C.txt.length + r.length + 2 := by rw [bs_size, lS]
  have elC : ((nd ++ A.nodes nd.length) ++ C.nodes (nd ++ A.nodes nd.length).length).length = nd.length + A.size + C.size := by rw [List.length_append, Ex.nodes_len, elA]
  have ew : wrap64 (3 + (K - 3)) = K := by rw [Pl.wrap_in (by omega) (by omega)]; omega
  have fin : ((((nd ++ A.nodes nd.length) ++ C.nodes (nd ++ A.nodes nd.length).length).length : Int), bs r, ((nd ++ A.nodes nd.length) ++ C.nodes (nd ++ A.nodes nd.length).length) ++ [(⟨K, 0, ((nd.length + A.size - 1 : Nat) : Int), (((nd ++ A.nodes nd.length).length + C.size - 1 : Nat) : Int)⟩ : Nd)], false) = (((nd.length + (Ex.two K A C).size - 1 : Nat) : Int), bs r, nd ++ (Ex.two K A C).nodes nd.length, false) := by
   have e2 : ((nd.length + A.size + C.size : Nat) : Int) = ((nd.length + (Ex.two K A C).size - 1 : Nat) : Int) := by omega
   have e4 : ((nd ++ A.nodes nd.length) ++ C.nodes (nd ++ A.nodes nd.length).length) ++ [(⟨K, 0, ((nd.length + A.size - 1 : Nat) : Int), (((nd ++ A.nodes nd.length).length + C.size - 1 : Nat) : Int)⟩ : Nd)] = nd ++ (Ex.two K A C).nodes nd.length := by
    rw [elA]
    simp [Ex.nodes]
   rw [e4, elC, e2]
  rw [← fin, hh]
  have hx : (bs (signB K :: (C.txt ++ (41 :: r)))).extract 1 (bs (signB K :: (C.txt ++ (41 :: r)))).size = bs (C.txt ++ (41 :: r)) := bs_drop (signB K :: (C.txt ++ (41 :: r))) 1
  have ef : decide (K - 3 < 0) = false := decide_eq_false (by omega)
  have j1 : Ev (fun k => impl_exprReader_node.j1 k ((nd.length + A.size - 1 : Nat) : Int) (bs (signB K :: (C.txt ++ (41 :: r)))) (nd ++ A.nodes nd.length) false) ((((nd ++ A.nodes nd.length) ++ C.nodes (nd ++ A.nodes nd.length).length).length : Int), bs r, ((nd ++ A.nodes nd.length) ++ C.nodes (nd ++ A.nodes nd.length).length) ++ [(⟨K, 0, ((nd.length + A.size - 1 : Nat) : Int), (((nd ++ A.nodes nd.length).length + C.size - 1 : Nat) : Int)⟩ : Nd)], false) := by
   have P := add_eq (bs r) ((nd ++ A.nodes nd.length) ++ C.nodes (nd ++ A.nodes nd.length).length) (by omega) false K 0 ((nd.length + A.size - 1 : Nat) : Int) (((nd ++ A.nodes nd.length).length + C.size - 1 : Nat) : Int)
   rw [← ew] at P
   have I : Ev (fun _ => strings_IndexByte.f (⟨#[43, 45, 42, 47, 60, 61, 38]⟩ : ByteArray) ((signB K).toNat : Int)) (K - 3) := now_of (index_sign hK)
   have q' : Ev (fun k => impl_exprReader_node.f k (bs (C.txt ++ (41 :: r))) (nd ++ A.nodes nd.length) (decide (K - 3 < 0))) ((((nd ++ A.nodes nd.length).length + C.size - 1 : Nat) : Int), bs (41 :: r), (nd ++ A.nodes nd.length) ++ C.nodes (nd ++ A.nodes nd.length).length, false) := by
    rw [ef]
    exact q
   have S1 := now_of (skip_eq 41 r (by omega) ((nd ++ A.nodes nd.length) ++ C.nodes (nd ++ A.nodes nd.length).length) 41 rfl)
   have Pe := now_of P
   refine Ev.step (fun k => by rw [impl_exprReader_node.j1]) ?_
   rw [bs_bt, hx]
   refine Pl.ev_ite_neg (by simp) (Pl.ev_ite_pos (by omega) (Pl.ev_bind' I (Pl.ev_ite_pos (by omega) (Pl.ev_bind' q' (Pl.ev_bind' S1 (Pl.ev_bind' Pe ?_))))))
   rw [ew]
   exact Ev.now _
  refine node_go 40 (A.txt ++ (signB K :: (C.txt ++ (41 :: r)))) nd _ (Ev.step (fun k => by rw [impl_exprReader_node.j0]) ?_)
  rw [bs_bt]
  refine Pl.ev_ite_neg (by simp) (Pl.ev_ite_pos (by omega) (Pl.ev_ite_neg (by decide) (Pl.ev_ite_neg (by decide) (Pl.ev_ite_pos (by decide) (Pl.ev_bind' (now_of (skip_eq 40 _ (by omega) nd 40 rfl)) (Pl.ev_bind' p (Pl.ev_ite_neg (by simp) ?_)))))))
  have e0 : (bs (signB K :: (C.txt ++ (41 :: r)))).toList.isEmpty = false := by rw [empty_bs]; rfl
  rw [e0]
  exact j1
theorem digits_ev (n : Nat) (h : n ≤ 1000000) : Ev (fun k => spec_l3Digits.f k (n : Int)) (bs (Lib.decDigits n)) := by
 induction n using Nat.strongRecOn with
 | _ n ih =>
  rw [Lib.decDigits]
  by_cases h10 : n < 10
  ·rw [dif_pos h10, ← dig_one n h10]
   exact Ev.step (fun k => by rw [spec_l3Digits.f]) (Pl.ev_ite_neg (by omega) (Pl.ev_ite_pos (by omega) (Ev.now _)))
  ·rw [dif_neg h10]
   have e : wrap64 (Int.tdiv (n : Int) 10) = ((n / 10 : Nat) : Int) := by
    rw [Int.tdiv_eq_ediv_of_nonneg (by omega), Pl.wrap_in (by omega) (by omega)]
    omega
   have em : Int.tmod (n : Int) 10 = ((n % 10 : Nat) : Int) := by
    rw [Int.tmod_eq_emod_of_nonneg (by omega)]
    omega
   have hd := ih (n / 10) (by omega) (by omega)
   have hl := decDigits_le (n / 10)
   refine Ev.step (fun k => by rw [spec_l3Digits.f]) (Pl.ev_ite_neg (by omega) (Pl.ev_ite_neg (by omega) ?_))
   rw [e, em]
   refine Pl.ev_bind' hd ?_
   simp only [Option.bind_some]
   rw [dig_one (n % 10) (by omega)]
   refine Pl.ev_ite_pos (by rw [bs_size, bs_size]; simp; omega) ?_
   rw [bs_append]
   exact Ev.now _
theorem textS_ev (e : List Nd) (hl : e.length ≤ 16) (hf : fineN e) : ∀ f i, i < f → i < e.length → (txtF e f i).length ≤ 5 * Pl.sz (kK e) (kL e) (kR e) i ∧ Ev (fun k => spec_l3Text.f k e (i : Int)) (bs (txtF e f i)) := by
 intro f
 induction f with
 | zero => intro i h; omega
 | succ f ih =>
  intro i hif hi
  have ha := fineN_ahead hf
  have h0 := nodeC_0 (hf i hi)
  obtain ⟨a1, a2⟩ := ha i hi
  have eK := kK_at e i hi
  have eV : e.getD i z45 = e[i] := by rw [List.getD_eq_getElem?_getD, List.getElem?_eq_getElem hi]; rfl
  have hs := Pl.sz_eq ha hi
  have b16 := Pl.sz_le ha i hi
  have p16 : 2 ^ (i + 1) ≤ 2 ^ 16 := Nat.pow_le_pow_right (by omega) (by omega)
  have c16 : (2 : Nat) ^ 16 = 65536 := by decide
  rw [txtF, eV]
  have big : Pl.sz (kK e) (kL e) (kR e) i ≤ 65536 := by omega
  by_cases k1 : kK e i = 1
  ·have hv := h0.2.2.2.2 (by rw [← eK]; exact k1)
   obtain ⟨n, hn⟩ : ∃ n : Nat, e[i].f1 = (n : Int) := ⟨e[i].f1.toNat, by omega⟩
   have h4 := decDigits_4 n (by omega)
   rw [if_pos k1, hn, Int.toNat_natCast]
   rw [if_neg (by omega), if_neg (fun h => by have := Pl.two_inner h; omega)] at hs
   refine ⟨by omega, ?_⟩
   refine Ev.step (fun k => by rw [spec_l3Text.f]) ?_
   rw [rd_iNode e i hi, ← eK, hn]
   exact Pl.ev_ite_pos (by omega) (Pl.ev_ite_pos (by omega) (Pl.ev_ite_pos k1 (Pl.ev_bind' (digits_ev n (by omega)) (Ev.now _))))
  ·rw [if_neg k1]
   by_cases k2 : kK e i = 2
   ·have hv := h0.2.2.2.1 (by rw [← eK]; exact k2)
    obtain ⟨n, hn⟩ : ∃ n : Nat, e[i].f1 = (n : Int) := ⟨e[i].f1.toNat, by omega⟩
    have h4 := decDigits_4 n (by omega)
    rw [if_pos k2, hn, Int.toNat_natCast]
    rw [if_neg (by omega), if_neg (fun h => by have := Pl.two_inner h; omega)] at hs
    have e2 : (⟨#[118]⟩ : ByteArray) ++ bs (Lib.decDigits n) = bs (118 :: Lib.decDigits n) := bs_append [118] _
    refine ⟨by simp; omega, ?_⟩
    refine Ev.step (fun k => by rw [spec_l3Text.f]) ?_
    rw [rd_iNode e i hi, ← eK, hn]
    refine Pl.ev_ite_pos (by omega) (Pl.ev_ite_pos (by omega) (Pl.ev_ite_neg k1 (Pl.ev_ite_pos k2 (Pl.ev_bind' (digits_ev n (by omega)) ?_))))
    rw [e2, bs_size]
    exact Pl.ev_ite_pos (by omega) (Ev.now _)
   ·have hI : 2 < kK e i := by have := h0.1; omega
    have hL := a1 hI
    have eL : e[i].f2 = ((kL e i : Nat) : Int) := by
     rw [kL_at e i hi]; rw [eK] at hI; have := h0.2.1 hI; omega
    obtain ⟨l1, l2⟩ := ih (kL e i) (by omega) (by omega)
    rw [if_neg k2]
    by_cases k10 : kK e i = 10
    ·rw [if_pos k10]
     rw [if_pos hI, if_neg (fun h => by have := of_decide_eq_true h; omega)] at hs
     have e2 : (⟨#[33]⟩ : ByteArray) ++ bs (txtF e f (kL e i)) = bs (33 :: txtF e f (kL e i)) := bs_append [33] _
     refine ⟨by simp; omega, ?_⟩
     refine Ev.step (fun k => by rw [spec_l3Text.f]) ?_
     rw [rd_iNode e i hi, ← eK, eL]
     refine Pl.ev_ite_pos (by omega) (Pl.ev_ite_pos (by omega) (Pl.ev_ite_neg k1 (Pl.ev_ite_neg k2 (Pl.ev_ite_pos k10 (Pl.ev_bind' l2 ?_)))))
     rw [e2, bs_size]
     exact Pl.ev_ite_pos (by omega) (Ev.now _)
    ·have hle := fineN_le hf i hi
     have hk : 3 ≤ kK e i ∧ kK e i ≤ 9 := by omega
     have hT : Pl.two (kK e i) = true := decide_eq_true hk
     have hR := a2 hT
     have eR : e[i].f3 = ((kR e i : Nat) : Int) := by
      rw [kR_at e i hi]; rw [eK] at hk; have := h0.2.2.1 hk; omega
     obtain ⟨r1, r2⟩ := ih (kR e i) (by omega) (by omega)
     rw [if_neg k10]
     rw [if_pos hI, if_pos hT] at hs
     have e40 : (⟨#[40]⟩ : ByteArray) = bs [40] := rfl
     have e41 : (⟨#[41]⟩ : ByteArray) = bs [41] := rfl
     have w1 : wrap64 (kK e i - 3) = kK e i - 3 := Pl.wrap_in (by omega) (by omega)
     have w2 : wrap64 (kK e i - 3 + 1) = kK e i - 3 + 1 := Pl.wrap_in (by omega) (by omega)
     have sc := sign_cut (kK e i) hk
     rw [w1, w2] at sc
     have s1 : (bs [40] ++ bs (txtF e f (kL e i))).size = 1 + (txtF e f (kL e i)).length := by rw [bs_append, bs_size]; simp; omega
     have s2 : ((bs [40] ++ bs (txtF e f (kL e i))) ++ bs [signB (kK e i)]).size = 2 + (txtF e f (kL e i)).length := by rw [bs_append, bs_append, bs_size]; simp; omega
     have s3 : (((bs [40] ++ bs (txtF e f (kL e i))) ++ bs [signB (kK e i)]) ++ bs (txtF e f (kR e i))).size = 2 + (txtF e f (kL e i)).length + (txtF e f (kR e i)).length := by rw [bs_append, bs_append, bs_append, bs_size]; simp; omega
     refine ⟨by simp; omega, ?_⟩
     refine Ev.step (fun k => by rw [spec_l3Text.f]) ?_
     rw [rd_iNode e i hi, ← eK, eL, eR, w1, w2, sc, e40, e41]
     refine Pl.ev_ite_pos (by omega) (Pl.ev_ite_pos (by omega) (Pl.ev_ite_neg k1 (Pl.ev_ite_neg k2 (Pl.ev_ite_neg k10 (Pl.ev_bind' l2 ?_)))))
     rw [s1, bs_size, bs_size]
     refine Pl.ev_ite_pos (by omega) (Pl.ev_ite_pos (by omega) (Pl.ev_ite_pos (by omega) (Pl.ev_ite_pos (by omega) (Pl.ev_ite_pos (by simp; omega) (Pl.ev_bind' r2 ?_)))))
     rw [s2, s3, bs_size, bin_eq]
     exact Pl.ev_ite_pos (by omega) (Pl.ev_ite_pos (by omega) (Ev.now _))
noncomputable def exprTextC (e : List Nd) : Int × ByteArray := if exprC e = 0 then (0, bs (textE e)) else (exprC e, (⟨#[]⟩ : ByteArray))
theorem exprText_ev (e : List Nd) (hl0 : e.length ≤ 1048576) : Ev (fun k => spec_ExprText.f k e) (exprTextC e) ∧ Ev (fun k => impl_ExprText.f k e) (exprTextC e) := by
 unfold exprTextC
 by_cases h : exprC e = 0
 ·obtain ⟨⟨h1, h16⟩, hf⟩ := exprC_len h
  obtain ⟨_, s⟩ := textS_ev e h16 hf e.length (e.length - 1) (by omega) (by omega)
  have ew : wrap64 ((e.length : Int) - 1) = ((e.length - 1 : Nat) : Int) := by rw [Pl.wrap_in (by omega) (by omega)]; omega
  rw [if_pos h]
  constructor
  ·unfold spec_ExprText.f
   rw [ew]
   exact Pl.ev_bind' (h ▸ spec3Fault_ev e hl0) (Pl.ev_ite_pos rfl (Pl.ev_bind' s (Ev.now _)))
  ·unfold impl_ExprText.f
   exact Pl.ev_bind' (h ▸ implExpr_ev e) (Pl.ev_ite_pos rfl (Pl.ev_bind' (implText_ev h1 h16 hf) (Ev.now _)))
 ·rw [if_neg h]
  constructor
  ·unfold spec_ExprText.f
   exact Pl.ev_bind' (spec3Fault_ev e hl0) (Pl.ev_ite_neg h (Ev.now _))
  ·unfold impl_ExprText.f
   exact Pl.ev_bind' (implExpr_ev e) (Pl.ev_ite_neg h (Ev.now _))
def codeOk (c : List Int) : Prop := c.length ≤ 1048577 ∧ ∀ x ∈ c, 0 ≤ x ∧ x ≤ 255
theorem wf_u8 {x : Int} (h : (Lit.int .u8 x).wf = true) : 0 ≤ x ∧ x ≤ 255 := by
 simp [Lit.wf, IntKind.min, IntKind.max, IntKind.signed, IntKind.bits] at h
 omega
theorem codeOk_of {c : List Int} (h : ¬ (c.length : Int) > 1048576) (hc : ∀ x ∈ c, (Lit.int .u8 x).wf = true) : codeOk c := ⟨by omega, fun x hx => wf_u8 (hc x hx)⟩
theorem rd_byte {c : List Int} (hc : ∀ x ∈ c, 0 ≤ x ∧ x ≤ 255) (i : Int) : 0 ≤ rd c i ∧ rd c i ≤ 255 := by
 unfold rd
 rw [List.getD_eq_getElem?_getD]
 cases h : c[i.toNat]? with
 | none => simp
 | some x => exact hc x (List.mem_of_getElem? h)
theorem tmod_in {x n : Int} (hx : 0 ≤ x) (hn : 0 < n) : 0 ≤ Int.tmod x n ∧ Int.tmod x n < n := by
 rw [Int.tmod_eq_emod_of_nonneg hx]
 exact ⟨Int.emod_nonneg _ (by omega), Int.emod_lt_of_pos _ hn⟩
theorem tdiv_in {x n : Int} (hx : 0 ≤ x) (hn : 0 < n) : 0 ≤ Int.tdiv x n ∧ Int.tdiv x n ≤ x := by
 rw [Int.tdiv_eq_ediv_of_nonneg hx]
 exact ⟨Int.ediv_nonneg hx (by omega), Int.ediv_le_self _ hx⟩
theorem next_ev {c : List Int} (hc : codeOk c) (a : Int) (h0 : 0 ≤ a) (h1 : a ≤ 1000000) (n : Int) (n0 : 1 ≤ n) (n1 : n ≤ 1000000) : ∃ v, spec_l1Next.f c a n = some (v, a + 1) ∧ 0 ≤ v ∧ v < n := by
 obtain ⟨hl, hb⟩ := hc
 unfold spec_l1Next.f
 have e1 : wrap64 (a + 1) = a + 1 := Pl.wrap_in (by omega) (by omega)
 have e2 : wrap64 (a + 1 - 1) = a := by rw [Pl.wrap_in (by omega) (by omega)]; omega
 rw [if_neg (by omega), e1, e2]
 by_cases k0 : (c.length : Int) = 0
 ·rw [if_pos k0, if_neg (by omega), Pl.wrap_in (x := a * 7) (by omega) (by omega)]
  exact ⟨_, rfl, tmod_in (by omega) (by omega)⟩
 ·obtain ⟨t0, t1⟩ := tmod_in (x := a) (n := (c.length : Int)) h0 (by omega)
  obtain ⟨d0, d1⟩ := tdiv_in (x := a) (n := (c.length : Int)) h0 (by omega)
  obtain ⟨b0, b1⟩ := rd_byte hb (Int.tmod a (c.length : Int))
  rw [if_neg k0, if_pos t0, if_pos t1]
  have w1 : wrap64 (rd c (Int.tmod a (c.length : Int))) = rd c (Int.tmod a (c.length : Int)) := Pl.wrap_in (by omega) (by omega)
  have w2 : wrap64 (Int.tdiv a (c.length : Int)) = Int.tdiv a (c.length : Int) := Pl.wrap_in (by omega) (by omega)
  have w3 : wrap64 (Int.tdiv a (c.length : Int) * 37) = Int.tdiv a (c.length : Int) * 37 := Pl.wrap_in (by omega) (by omega)
  have w4 : wrap64 (rd c (Int.tmod a (c.length : Int)) + Int.tdiv a (c.length : Int) * 37) = rd c (Int.tmod a (c.length : Int)) + Int.tdiv a (c.length : Int) * 37 := Pl.wrap_in (by omega) (by omega)
  by_cases big : n > 200
  ·obtain ⟨u0, u1⟩ := tmod_in (x := a + 1) (n := (c.length : Int)) (by omega) (by omega)
   obtain ⟨q0, q1⟩ := rd_byte hb (Int.tmod (a + 1) (c.length : Int))
   rw [if_pos big, e1, if_pos u0, if_pos u1, if_neg (by omega), w1, w2, w3, w4]
   have w5 : wrap64 (rd c (Int.tmod (a + 1) (c.length : Int))) = rd c (Int.tmod (a + 1) (c.length : Int)) := Pl.wrap_in (by omega) (by omega)
   rw [w5]
   refine ⟨_, rfl, tmod_in ?_ (by omega)⟩
   rw [Pl.wrap_in (x := (rd c (Int.tmod a (c.length : Int)) + Int.tdiv a (c.length : Int) * 37) * 251) (by omega) (by omega), Pl.wrap_in (x := rd c (Int.tmod (a + 1) (c.length : Int)) * 13) (by omega) (by omega)]
   rw [Pl.wrap_in (x := (rd c (Int.tmod a (c.length : Int)) + Int.tdiv a (c.length : Int) * 37) * 251 + rd c (Int.tmod (a + 1) (c.length : Int)) * 13) (by omega) (by omega), Pl.wrap_in (by omega) (by omega)]
   omega
  ·rw [if_neg big, if_neg (by omega), w1, w2, w3, w4]
   exact ⟨_, rfl, tmod_in (by omega) (by omega)⟩
theorem pick_ev {c : List Int} (hc : codeOk c) (a : Int) (h0 : 0 ≤ a) (h1 : a ≤ 1000000) (l : List Int) (l0 : 1 ≤ l.length) (l1 : l.length ≤ 1000) : ∃ v, spec_l1Pick.f c a l = some (v, a + 1) ∧ v ∈ l := by
 obtain ⟨v, e, v0, v1⟩ := next_ev hc a h0 h1 (l.length : Int) (by omega) (by omega)
 unfold spec_l1Pick.f
 rw [e, Option.bind_some]
 refine ⟨rd l v, by rw [if_pos v0, if_pos v1], ?_⟩
 obtain ⟨i, rfl⟩ : ∃ i : Nat, v = i := ⟨v.toNat, by omega⟩
 rw [Pl.rd_get l i (by omega)]
 exact List.getElem_mem _
abbrev NdD := S45
theorem chance_ev {c : List Int} (hc : codeOk c) (a : Int) (h0 : 0 ≤ a) (h1 : a ≤ 1000000) (n : Int) (n0 : 1 ≤ n) (n1 : n ≤ 1000000) : ∃ b, spec_l1Chance.f c a n = some (b, a + 1) := by
 obtain ⟨v, e, v0, v1⟩ := next_ev hc a h0 h1 n n0 n1
 exact ⟨v == 0, by unfold spec_l1Chance.f; rw [e, Option.bind_some]⟩
theorem max_eq (x y : Int) : spec_l1Max.f x y = some (if x > y then x else y) := by
 unfold spec_l1Max.f
 by_cases h : x > y
 ·rw [if_pos h, if_pos h]
 ·rw [if_neg h, if_neg h]
theorem some_ev {α : Type} {o : Option α} {x : α} (h : o = some x) : Ev (fun _ => o) x := by rw [h]; exact Ev.now _
def drawsN (B : Int) (M : Nat) (Q : Int) (g : Nat → Int → List NdD → Option (List NdD × Int)) : Prop :=
 ∀ a l, 0 ≤ a → a ≤ B → (l.length : Int) ≤ B → ∃ e' a', Ev (fun k => g k a l) (e', a') ∧ l.length < e'.length ∧ e'.length ≤ l.length + M ∧ a ≤ a' ∧ a' ≤ a + Q
theorem drawsN_le {B B' : Int} {M M' : Nat} {Q Q' : Int} {g : Nat → Int → List NdD → Option (List NdD × Int)} (h : drawsN B M Q g) (hB : B' ≤ B) (hM : M ≤ M') (hQ : Q ≤ Q') : drawsN B' M' Q' g := by
 intro a l h0 h1 h2
 obtain ⟨e', a', p1, p2, p3, p4, p5⟩ := h a l h0 (by omega) (by omega)
 exact ⟨e', a', p1, p2, by omega, p4, by omega⟩
theorem make_leaf (c : List Int) (hc : codeOk c) (t d : Int) : drawsN 100000 1 4 (fun k a l => spec_l3Make.j0 k l t d true c a) := by
 intro a l h0 h1 hl
 obtain ⟨b, eb⟩ := chance_ev hc a h0 (by omega) 2 (by omega) (by omega)
 by_cases hb : b = true
 ·obtain ⟨v, ev, _, _⟩ := next_ev hc (a + 1) (by omega) (by omega) 3 (by omega) (by omega)
  refine ⟨l ++ [⟨2, v, 0, 0⟩], a + 1 + 1, ?_, by simp, by simp, by omega, by omega⟩
  show Ev (fun k => spec_l3Make.j0 k l t d true c a) _
  refine Ev.step (fun k => by rw [spec_l3Make.j0]) (Pl.ev_ite_pos rfl ?_)
  rw [eb]
  simp only [Option.bind_some]
  refine Pl.ev_ite_pos hb ?_
  rw [ev]
  exact Pl.ev_ite_pos (by omega) (Ev.now _)
 ·obtain ⟨v, ev, _, _⟩ := next_ev hc (a + 1) (by omega) (by omega) 20 (by omega) (by omega)
  obtain ⟨u, eu, _⟩ := pick_ev hc (a + 1 + 1) (by omega) (by omega) [0, 1, 2, v, 9999] (by simp) (by simp)
  refine ⟨l ++ [⟨1, u, 0, 0⟩], a + 1 + 1 + 1, ?_, by simp, by simp, by omega, by omega⟩
  show Ev (fun k => spec_l3Make.j0 k l t d true c a) _
  refine Ev.step (fun k => by rw [spec_l3Make.j0]) (Pl.ev_ite_pos rfl ?_)
  rw [eb]
  simp only [Option.bind_some]
  refine Pl.ev_ite_neg hb ?_
  rw [ev]
  simp only [Option.bind_some]
  rw [eu]
  exact Pl.ev_ite_pos (by omega) (Ev.now _)
theorem make_parts {c : List Int} {part kind d d' B : Int} {M : Nat} {Q : Int} (hB : B ≤ 100000) (hM : M ≤ 100) (hQ : 0 ≤ Q) (hQ' : Q ≤ 500) (hd : (if 0 > wrap64 (d - 1) then 0 else wrap64 (d - 1)) = d')
  (H : drawsN B M Q (fun k a l => spec_l3Make.f k c a l part d')) : drawsN (B - 1000) (2 * M + 1) (2 * Q) (fun k a l => spec_l3Make.j1 k l d kind part c a) := by
 intro a l h0 h1 hl
 obtain ⟨e1, a1, ev1, p1, p2, p3, p4⟩ := H a l h0 (by omega) (by omega)
 obtain ⟨e2, a2, ev2, q1, q2, q3, q4⟩ := H a1 e1 (by omega) (by omega) (by omega)
 have ev1' : Ev (fun k => spec_l3Make.f k c a l part d') (e1, a1) := ev1
 have ev2' : Ev (fun k => spec_l3Make.f k c a1 e1 part d') (e2, a2) := ev2
 by_cases hk : kind = 10
 ·refine ⟨e1 ++ [⟨kind, 0, wrap64 ((e1.length : Int) - 1), 0⟩], a1, ?_, by simp; omega, by simp; omega, by omega, by omega⟩
  show Ev (fun k => spec_l3Make.j1 k l d kind part c a) _
  refine Ev.step (fun k => by rw [spec_l3Make.j1]) ?_
  rw [max_eq, hd]
  simp only [Option.bind_some]
  exact Pl.ev_bind' ev1' (Pl.ev_ite_pos hk (Pl.ev_ite_pos (show e1.length < 4398046511104 by omega) (Ev.now _)))
 ·refine ⟨e2 ++ [⟨kind, 0, wrap64 ((e1.length : Int) - 1), wrap64 ((e2.length : Int) - 1)⟩], a2, ?_, by simp; omega, by simp; omega, by omega, by omega⟩
  show Ev (fun k => spec_l3Make.j1 k l d kind part c a) _
  refine Ev.step (fun k => by rw [spec_l3Make.j1]) ?_
  rw [max_eq, hd]
  simp only [Option.bind_some]
  exact Pl.ev_bind' ev1' (Pl.ev_ite_neg hk (Pl.ev_bind' ev2' (Pl.ev_ite_pos (show e2.length < 4398046511104 by omega) (Ev.now _))))
theorem make_step {c : List Int} (hc : codeOk c) {t d d' B : Int} {M : Nat} {Q : Int} (ht : t = 1 ∨ t = 2) (hB : B ≤ 100000) (hM : M ≤ 100) (hQ : 4 ≤ Q) (hQ' : Q ≤ 500) (hd : (if 0 > wrap64 (d - 1) then 0 else wrap64 (d - 1)) = d') (ht0 : t = 1 → d ≠ 0)
  (H1 : drawsN B M Q (fun k a l => spec_l3Make.f k c a l 1 d')) (H2 : d > 1 → drawsN B M Q (fun k a l => spec_l3Make.f k c a l 2 d')) : drawsN (B - 2000) (2 * M + 1) (2 * Q + 10) (fun k a l => spec_l3Make.f k c a l t d) := by
 intro a l h0 h1 hl
 have inner : ∀ a : Int, 0 ≤ a → a ≤ B - 1999 → ∃ e' a', Ev (fun k => spec_l3Make.j0 k l t d false c a) (e', a') ∧ l.length < e'.length ∧ e'.length ≤ l.length + (2 * M + 1) ∧ a ≤ a' ∧ a' ≤ a + (2 * Q + 4) := by
  intro a h0 h1
  obtain ⟨v, ev, v0, v1⟩ := next_ev hc a h0 (by omega) 4 (by omega) (by omega)
  by_cases h2 : t = 2
  ·obtain ⟨u, eu, u0, u1⟩ := next_ev hc (a + 1) (by omega) (by omega) 2 (by omega) (by omega)
   by_cases hdd : d > 1
   ·obtain ⟨b, eb⟩ := chance_ev hc (a + 1 + 1) (by omega) (by omega) 3 (by omega) (by omega)
    by_cases hb : b = true
    ·obtain ⟨q, eq, q0, q1⟩ := next_ev hc (a + 1 + 1 + 1) (by omega) (by omega) 2 (by omega) (by omega)
     obtain ⟨e', a', p1, p2, p3, p4, p5⟩ := make_parts (kind := wrap64 (9 + q)) hB hM (by omega) hQ' hd (H2 hdd) (a + 1 + 1 + 1 + 1) l (by omega) (by omega) (by omega)
     refine ⟨e', a', Ev.step (fun k => by rw [spec_l3Make.j0]) (Pl.ev_ite_neg (by simp) ?_), p2, p3, by omega, by omega⟩
     rw [ev]
     simp only [Option.bind_some]
     refine Pl.ev_ite_pos h2 ?_
     rw [eu]
     simp only [Option.bind_some]
     refine Pl.ev_ite_pos hdd ?_
     rw [eb]
     simp only [Option.bind_some]
     refine Pl.ev_ite_pos hb ?_
     rw [eq]
     exact p1
    ·obtain ⟨e', a', p1, p2, p3, p4, p5⟩ := make_parts (kind := wrap64 (7 + u)) hB hM (by omega) hQ' hd H1 (a + 1 + 1 + 1) l (by omega) (by omega) (by omega)
     refine ⟨e', a', Ev.step (fun k => by rw [spec_l3Make.j0]) (Pl.ev_ite_neg (by simp) ?_), p2, p3, by omega, by omega⟩
     rw [ev]
     simp only [Option.bind_some]
     refine Pl.ev_ite_pos h2 ?_
     rw [eu]
     simp only [Option.bind_some]
     refine Pl.ev_ite_pos hdd ?_
     rw [eb]
     simp only [Option.bind_some]
     exact Pl.ev_ite_neg hb p1
   ·obtain ⟨e', a', p1, p2, p3, p4, p5⟩ := make_parts (kind := wrap64 (7 + u)) hB hM (by omega) hQ' hd H1 (a + 1 + 1) l (by omega) (by omega) (by omega)
    refine ⟨e', a', Ev.step (fun k => by rw [spec_l3Make.j0]) (Pl.ev_ite_neg (by simp) ?_), p2, p3, by omega, by omega⟩
    rw [ev]
    simp only [Option.bind_some]
    refine Pl.ev_ite_pos h2 ?_
    rw [eu]
    simp only [Option.bind_some]
    exact Pl.ev_ite_neg hdd p1
  ·obtain ⟨e', a', p1, p2, p3, p4, p5⟩ := make_parts (kind := wrap64 (3 + v)) hB hM (by omega) hQ' hd H1 (a + 1) l (by omega) (by omega) (by omega)
   refine ⟨e', a', Ev.step (fun k => by rw [spec_l3Make.j0]) (Pl.ev_ite_neg (by simp) ?_), p2, p3, by omega, by omega⟩
   rw [ev]
   simp only [Option.bind_some]
   exact Pl.ev_ite_neg h2 p1
 show ∃ e' a', Ev (fun k => spec_l3Make.f k c a l t d) (e', a') ∧ _
 by_cases h2 : t = 1
 ·obtain ⟨b, eb⟩ := chance_ev hc a h0 (by omega) 3 (by omega) (by omega)
  cases b with
  | true =>
   obtain ⟨e', a', p1, p2, p3, p4, p5⟩ := make_leaf c hc t d (a + 1) l (by omega) (by omega) (by omega)
   refine ⟨e', a', Ev.step (fun k => by rw [spec_l3Make.f]) (Pl.ev_ite_pos h2 (Pl.ev_ite_neg (ht0 h2) ?_)), p2, by omega, by omega, by omega⟩
   rw [eb]
   exact p1
  | false =>
   obtain ⟨e', a', p1, p2, p3, p4, p5⟩ := inner (a + 1) (by omega) (by omega)
   refine ⟨e', a', Ev.step (fun k => by rw [spec_l3Make.f]) (Pl.ev_ite_pos h2 (Pl.ev_ite_neg (ht0 h2) ?_)), p2, by omega, by omega, by omega⟩
   rw [eb]
   exact p1
 ·obtain ⟨e', a', p1, p2, p3, p4, p5⟩ := inner a h0 (by omega)
  exact ⟨e', a', Ev.step (fun k => by rw [spec_l3Make.f]) (Pl.ev_ite_neg h2 p1), p2, p3, p4, by omega⟩
theorem make_int0 {c : List Int} (hc : codeOk c) : drawsN 100000 1 4 (fun k a l => spec_l3Make.f k c a l 1 0) := by
 intro a l h0 h1 hl
 obtain ⟨e', a', p1, p2, p3, p4, p5⟩ := make_leaf c hc 1 0 a l h0 h1 hl
 refine ⟨e', a', ?_, p2, p3, p4, p5⟩
 show Ev (fun k => spec_l3Make.f k c a l 1 0) (e', a')
 exact Ev.step (fun k => by rw [spec_l3Make.f]) (Pl.ev_ite_pos rfl (Pl.ev_ite_pos rfl p1))
theorem make_ev {c : List Int} (hc : codeOk c) (t : Int) (ht : t = 1 ∨ t = 2) (d : Int) (hd : d = 1 ∨ d = 2) : drawsN 90000 7 100 (fun k a l => spec_l3Make.f k c a l t d) := by
 have w0 : wrap64 ((1 : Int) - 1) = 0 := by rw [Pl.wrap_in (by omega) (by omega)]; rfl
 have w1 : wrap64 ((2 : Int) - 1) = 1 := by rw [Pl.wrap_in (by omega) (by omega)]; rfl
 have i0 := make_int0 hc
 have one : ∀ t : Int, t = 1 ∨ t = 2 → drawsN 98000 3 18 (fun k a l => spec_l3Make.f k c a l t 1) := fun t ht => make_step hc ht (by omega) (by omega) (by omega) (by omega) (by rw [w0, if_neg (by omega)]) (fun _ => by omega) i0 (fun h => by omega)
 rcases hd with rfl | rfl
 ·exact drawsN_le (one t ht) (by omega) (by omega) (by omega)
 ·exact drawsN_le (make_step hc ht (by omega) (by omega) (by omega) (by omega) (by rw [w1, if_neg (by omega)]) (fun _ => by omega) (one 1 (.inl rfl)) (fun _ => one 2 (.inr rfl))) (by omega) (by omega) (by omega)
theorem draw3_ev {c : List Int} (hc : codeOk c) (a : Int) (h0 : 0 ≤ a) (h1 : a ≤ 10000) (t : Int) (ht : t = 1 ∨ t = 2) : ∃ e' a', Ev (fun k => spec_l3Draw.f k c a t) (e', a') ∧ 1 ≤ e'.length ∧ e'.length ≤ 7 ∧ a ≤ a' ∧ a' ≤ a + 200 := by
 obtain ⟨d, ed, hd⟩ := pick_ev hc a h0 (by omega) [1, 1, 2] (by simp) (by simp)
 have hd' : d = 1 ∨ d = 2 := by
  simp only [List.mem_cons, List.not_mem_nil, or_false] at hd
  omega
 obtain ⟨e', a', p1, p2, p3, p4, p5⟩ := make_ev hc t ht d hd' (a + 1) [] (by omega) (by omega) (by simp)
 simp only [List.length_nil] at p2 p3
 refine ⟨e', a', ?_, by omega, by omega, by omega, by omega⟩
 unfold spec_l3Draw.f
 rw [ed]
 simp only [Option.bind_some]
 exact Pl.ev_bind' p1 (Ev.step (fun k => by rw [spec_l3Draw.l0]) (Pl.ev_ite_neg (by show ¬ (e'.length : Int) > 16; omega) (Ev.now _)))
theorem bent3_ev {c : List Int} (hc : codeOk c) (a : Int) (h0 : 0 ≤ a) (h1 : a ≤ 1000) : ∃ e' a', Ev (fun k => spec_l3Bent.f k c a) (e', a') ∧ e'.length ≤ 17 ∧ a ≤ a' ∧ a' ≤ a + 300 := by
 obtain ⟨b, eb, b0, b1⟩ := next_ev hc a h0 (by omega) 2 (by omega) (by omega)
 obtain ⟨e, a1, ev, l1, l7, q1, q2⟩ := draw3_ev hc (a + 1) (by omega) (by omega) (1 + b) (by omega)
 obtain ⟨i, ei, i0, i1⟩ := next_ev hc a1 (by omega) (by omega) (e.length : Int) (by omega) (by omega)
 obtain ⟨s, es, s0, s1⟩ := next_ev hc (a1 + 1) (by omega) (by omega) 12 (by omega) (by omega)
 have start : ∀ R, Ev (fun k => (if s = 0 then ((spec_l1Pick.f c (a1 + 1 + 1) (([0, 11, 1, 9, 10] : List Int))).bind fun bt405 => (if 0 ≤ i then (if i < (e.length : Int) then (some ((e.set (i : Int).toNat (⟨bt405.1, (rd_T45 e i).f1, (rd_T45 e i).f2, (rd_T45 e i).f3⟩ : S45)), bt405.2)) else (none)) else (none))) else (if s = 1 then ((spec_l1Pick.f c (a1 + 1 + 1) (([(-1), 4, 10000] : List Int))).bind fun bt411 => (if 0 ≤ i then (if i < (e.length : Int) then (some ((e.set (i : Int).toNat (⟨(rd_T45 e i).f0, bt411.1, (rd_T45 e i).f2, (rd_T45 e i).f3⟩ : S45)), bt411.2)) else (none)) else (none))) else (if s = 2 then ((spec_l1Pick.f c (a1 + 1 + 1) (([0, 1, 9, (-1)] : List Int))).bind fun bt417 => (if 0 ≤ i then (if i < (e.length : Int) then (some ((e.set (i : Int).toNat (⟨(rd_T45 e i).f0, (rd_T45 e i).f1, bt417.1, (rd_T45 e i).f3⟩ : S45)), bt417.2)) else (none)) else (none))) else (if s = 3 then ((spec_l1Pick.f c (a1 + 1 + 1) (([0, 1, 9] : List Int))).bind fun bt423 => (if 0 ≤ i then (if i < (e.length : Int) then (some ((e.set (i : Int).toNat (⟨(rd_T45 e i).f0, (rd_T45 e i).f1, (rd_T45 e i).f2, bt423.1⟩ : S45)), bt423.2)) else (none)) else (none))) else (if s = 4 then (if 17 ≤ 8796093022208 then (some ((List.replicate 17 z45), (a1 + 1 + 1))) else (none)) else (if s = 5 then (if e.length < 4398046511104 then (some ((e ++ [(⟨1, 0, 0, 0⟩ : S45)]), (a1 + 1 + 1))) else (none)) else (some (e, (a1 + 1 + 1)))))))))) R → Ev (fun k => spec_l3Bent.f k c a) R := by
  intro R h
  unfold spec_l3Bent.f
  rw [eb]
  simp only [Option.bind_some]
  rw [Pl.wrap_in (x := 1 + b) (by omega) (by omega)]
  refine Pl.ev_bind' ev ?_
  simp only [ei, Option.bind_some]
  simp only [es, Option.bind_some]
  exact h
 have set : ∀ (l : List Int) (hl : 1 ≤ l.length) (hl' : l.length ≤ 1000) (mk : Int → S45), ∃ e' a', (spec_l1Pick.f c (a1 + 1 + 1) l).bind (fun bt => (if 0 ≤ i then (if i < (e.length : Int) then (some ((e.set (i : Int).toNat (mk bt.1)), bt.2)) else (none)) else (none))) = some (e', a') ∧ e'.length ≤ 17 ∧ a ≤ a' ∧ a' ≤ a + 300 := by
  intro l hl hl' mk
  obtain ⟨u, eu, _⟩ := pick_ev hc (a1 + 1 + 1) (by omega) (by omega) l hl hl'
  refine ⟨e.set i.toNat (mk u), a1 + 1 + 1 + 1, by rw [eu, Option.bind_some, if_pos i0, if_pos i1], by simp; omega, by omega, by omega⟩
 by_cases c0 : s = 0
 ·obtain ⟨e', a', p1, p2, p3, p4⟩ := set [0, 11, 1, 9, 10] (by simp) (by simp) (fun v => ⟨v, (rd_T45 e i).f1, (rd_T45 e i).f2, (rd_T45 e i).f3⟩)
  exact ⟨e', a', start _ (Pl.ev_ite_pos c0 (some_ev p1)), p2, p3, p4⟩
 by_cases c1 : s = 1
 ·obtain ⟨e', a', p1, p2, p3, p4⟩ := set [(-1), 4, 10000] (by simp) (by simp) (fun v => ⟨(rd_T45 e i).f0, v, (rd_T45 e i).f2, (rd_T45 e i).f3⟩)
  exact ⟨e', a', start _ (Pl.ev_ite_neg c0 (Pl.ev_ite_pos c1 (some_ev p1))), p2, p3, p4⟩
 by_cases c2 : s = 2
 ·obtain ⟨e', a', p1, p2, p3, p4⟩ := set [0, 1, 9, (-1)] (by simp) (by simp) (fun v => ⟨(rd_T45 e i).f0, (rd_T45 e i).f1, v, (rd_T45 e i).f3⟩)
  exact ⟨e', a', start _ (Pl.ev_ite_neg c0 (Pl.ev_ite_neg c1 (Pl.ev_ite_pos c2 (some_ev p1)))), p2, p3, p4⟩
 by_cases c3 : s = 3
 ·obtain ⟨e', a', p1, p2, p3, p4⟩ := set [0, 1, 9] (by simp) (by simp) (fun v => ⟨(rd_T45 e i).f0, (rd_T45 e i).f1, (rd_T45 e i).f2, v⟩)
  exact ⟨e', a', start _ (Pl.ev_ite_neg c0 (Pl.ev_ite_neg c1 (Pl.ev_ite_neg c2 (Pl.ev_ite_pos c3 (some_ev p1))))), p2, p3, p4⟩
 by_cases c4 : s = 4
 ·exact ⟨List.replicate 17 z45, a1 + 1 + 1, start _ (Pl.ev_ite_neg c0 (Pl.ev_ite_neg c1 (Pl.ev_ite_neg c2 (Pl.ev_ite_neg c3 (Pl.ev_ite_pos c4 (Pl.ev_ite_pos (by omega) (Ev.now _))))))), by simp, by omega, by omega⟩
 by_cases c5 : s = 5
 ·exact ⟨e ++ [⟨1, 0, 0, 0⟩], a1 + 1 + 1, start _ (Pl.ev_ite_neg c0 (Pl.ev_ite_neg c1 (Pl.ev_ite_neg c2 (Pl.ev_ite_neg c3 (Pl.ev_ite_neg c4 (Pl.ev_ite_pos c5 (Pl.ev_ite_pos (by omega) (Ev.now _)))))))), by simp; omega, by omega, by omega⟩
 exact ⟨e, a1 + 1 + 1, start _ (Pl.ev_ite_neg c0 (Pl.ev_ite_neg c1 (Pl.ev_ite_neg c2 (Pl.ev_ite_neg c3 (Pl.ev_ite_neg c4 (Pl.ev_ite_neg c5 (Ev.now _))))))), by omega, by omega, by omega⟩
theorem txt_len : ∀ T : Ex, T.okT → T.txt.length ≤ 5 * T.size
 | .con v, h => by
  have : v ≤ 9999 := h
  have := decDigits_4 v this
  show (Lib.decDigits v).length ≤ 5 * 1
  omega
 | .var v, h => by
  have h9 : v ≤ 9 := h
  have := decDigits_4 v (by omega)
  show (118 :: Lib.decDigits v).length ≤ 5 * 1
  rw [List.length_cons]
  omega
 | .nt a, h => by
  have := txt_len a h
  show (33 :: a.txt).length ≤ 5 * (a.size + 1)
  rw [List.length_cons]
  omega
 | .two k a b, h => by
  have h1 := txt_len a h.2.1
  have h2 := txt_len b h.2.2
  show (40 :: (a.txt ++ signB k :: (b.txt ++ [41]))).length ≤ 5 * (a.size + b.size + 1)
  simp only [List.length_cons, List.length_append, List.length_nil]
  omega
theorem text_tree (e : List Nd) (hl : e.length ≤ 1000) : ∀ (T : Ex), T.okT → ∀ (l r : List Nd), e = l ++ (T.nodes l.length ++ r) → Ev (fun k => spec_l3Text.f k e ((l.length + T.size - 1 : Nat) : Int)) (bs T.txt)
 | .con v, ht, l, r, he => by
  have hv : v ≤ 9999 := ht
  have g : e.getD l.length z45 = ⟨1, v, 0, 0⟩ := by
   rw [he, getD_mid (Nat.le_refl _) (by simp [Ex.nodes])]
   simp [Ex.nodes]
  have i : l.length + (Ex.con v).size - 1 = l.length := rfl
  have hi : l.length < e.length := by rw [he]; simp [Ex.nodes]
  have rdn : rd_T45 e ((l.length : Nat) : Int) = ⟨1, v, 0, 0⟩ := g
  rw [i]
  refine Ev.step (fun k => by rw [spec_l3Text.f]) ?_
  rw [rdn]
  exact Pl.ev_ite_pos (by omega) (Pl.ev_ite_pos (by omega) (Pl.ev_ite_pos rfl (Pl.ev_bind' (digits_ev v (by omega)) (Ev.now _))))
 | .var v, ht, l, r, he => by
  have hv : v ≤ 9 := ht
  have g : e.getD l.length z45 = ⟨2, v, 0, 0⟩ := by
   rw [he, getD_mid (Nat.le_refl _) (by simp [Ex.nodes])]
   simp [Ex.nodes]
  have i : l.length + (Ex.var v).size - 1 = l.length := rfl
  have hi : l.length < e.length := by rw [he]; simp [Ex.nodes]
  have rdn : rd_T45 e ((l.length : Nat) : Int) = ⟨2, v, 0, 0⟩ := g
  have h4 := decDigits_4 v (by omega)
  have e2 : (⟨#[118]⟩ : ByteArray) ++ bs (Lib.decDigits v) = bs (118 :: Lib.decDigits v) := bs_append [118] _
  rw [i]
  refine Ev.step (fun k => by rw [spec_l3Text.f]) ?_
  rw [rdn]
  refine Pl.ev_ite_pos (by omega) (Pl.ev_ite_pos (by omega) (Pl.ev_ite_neg (by show ¬ (2 : Int) = 1; omega) (Pl.ev_ite_pos rfl (Pl.ev_bind' (digits_ev v (by omega)) ?_))))
  rw [e2, bs_size]
  exact Pl.ev_ite_pos (by omega) (Ev.now _)
 | .nt a, ht, l, r, he => by
  have ht' : a.okT := ht
  have hn := Ex.nodes_len a l.length
  have hp := Ex.size_pos a
  have g : e.getD (l.length + a.size) z45 = ⟨10, 0, ((l.length + a.size - 1 : Nat) : Int), 0⟩ := by
   rw [he, getD_mid (by omega) (by simp [Ex.nodes, hn])]
   simp [Ex.nodes, List.getD_eq_getElem?_getD, List.getElem?_append_right, hn]
  have i : l.length + (Ex.nt a).size - 1 = l.length + a.size := by simp [Ex.size]; try omega
  have hi : l.length + a.size < e.length := by rw [he]; simp [Ex.nodes, hn]
  have rdn : rd_T45 e ((l.length + a.size : Nat) : Int) = ⟨10, 0, ((l.length + a.size - 1 : Nat) : Int), 0⟩ := g
  have t1 := text_tree e hl a ht' l ([⟨10, 0, ((l.length + a.size - 1 : Nat) : Int), 0⟩] ++ r) (by rw [he]; simp [Ex.nodes])
  have h5 := txt_len a ht'
  have e2 : (⟨#[33]⟩ : ByteArray) ++ bs a.txt = bs (33 :: a.txt) := bs_append [33] _
  rw [i]
  refine Ev.step (fun k => by rw [spec_l3Text.f]) ?_
  rw [rdn]
  refine Pl.ev_ite_pos (by omega) (Pl.ev_ite_pos (by omega) (Pl.ev_ite_neg (by show ¬ (10 : Int) = 1; omega) (Pl.ev_ite_neg (by show ¬ (10 : Int) = 2; omega) (Pl.ev_ite_pos rfl (Pl.ev_bind' t1 ?_)))))
  rw [e2, bs_size]
  exact Pl.ev_ite_pos (by omega) (Ev.now _)
 | .two k a c, ht, l, r, he => by
  obtain ⟨hk, ha, hc⟩ := ht
  have hn := Ex.nodes_len a l.length
  have hm := Ex.nodes_len c (l.length + a.size)
  have hp := Ex.size_pos a
  have hq := Ex.size_pos c
  have g : e.getD (l.length + a.size + c.size) z45 = ⟨k, 0, ((l.length + a.size - 1 : Nat) : Int), ((l.length + a.size + c.size - 1 : Nat) : Int)⟩ := by
   rw [he, getD_mid (by omega) (by simp [Ex.nodes, hn, hm]; omega)]
   have e1 : l.length + a.size + c.size - l.length = a.size + c.size := by omega
   rw [e1]
   simp only [Ex.nodes, List.getD_eq_getElem?_getD]
   rw [List.getElem?_append_right (by omega), List.getElem?_append_right (by omega), hn, hm]
   have e2 : a.size + c.size - a.size - c.size = 0 := by omega
   rw [e2]
   rfl
  have i : l.length + (Ex.two k a c).size - 1 = l.length + a.size + c.size := by simp [Ex.size]; omega
  have hi : l.length + a.size + c.size < e.length := by rw [he]; simp [Ex.nodes, hn, hm]; omega
  have rdn : rd_T45 e ((l.length + a.size + c.size : Nat) : Int) = ⟨k, 0, ((l.length + a.size - 1 : Nat) : Int), ((l.length + a.size + c.size - 1 : Nat) : Int)⟩ := g
  have t1 := text_tree e hl a ha l (c.nodes (l.length + a.size) ++ ([⟨k, 0, ((l.length + a.size - 1 : Nat) : Int), ((l.length + a.size + c.size - 1 : Nat) : Int)⟩] ++ r)) (by rw [he]; simp [Ex.nodes])
  have t2 := text_tree e hl c hc (l ++ a.nodes l.length) ([⟨k, 0, ((l.length + a.size - 1 : Nat) : Int), ((l.length + a.size + c.size - 1 : Nat) : Int)⟩] ++ r) (by rw [he]; simp [Ex.nodes, hn])
  have e3 : (l ++ a.nodes l.length).length = l.length + a.size := by simp [hn]
  rw [e3] at t2
  have ha5 := txt_len a ha
  have hc5 := txt_len c hc
  have e40 : (⟨#[40]⟩ : ByteArray) = bs [40] := rfl
  have e41 : (⟨#[41]⟩ : ByteArray) = bs [41] := rfl
  have w1 : wrap64 (k - 3) = k - 3 := Pl.wrap_in (by omega) (by omega)
  have w2 : wrap64 (k - 3 + 1) = k - 3 + 1 := Pl.wrap_in (by omega) (by omega)
  have sc := sign_cut k hk
  rw [w1, w2] at sc
  have s1 : (bs [40] ++ bs a.txt).size = 1 + a.txt.length := by rw [bs_append, bs_size]; simp; omega
  have s2 : ((bs [40] ++ bs a.txt) ++ bs [signB k]).size = 2 + a.txt.length := by rw [bs_append, bs_append, bs_size]; simp; omega
  have s3 : (((bs [40] ++ bs a.txt) ++ bs [signB k]) ++ bs c.txt).size = 2 + a.txt.length + c.txt.length := by rw [bs_append, bs_append, bs_append, bs_size]; simp; omega
  rw [i]
  refine Ev.step (fun k => by rw [spec_l3Text.f]) ?_
  rw [rdn]
  simp only [w1, w2, sc, e40, e41]
  refine Pl.ev_ite_pos (by omega) (Pl.ev_ite_pos (by omega) (Pl.ev_ite_neg (by omega) (Pl.ev_ite_neg (by omega) (Pl.ev_ite_neg (by omega) (Pl.ev_bind' t1 ?_)))))
  simp only [s1, bs_size]
  refine Pl.ev_ite_pos (by omega) (Pl.ev_ite_pos (by omega) (Pl.ev_ite_pos (by omega) (Pl.ev_ite_pos (by omega) (Pl.ev_ite_pos (by simp; omega) (Pl.ev_bind' t2 ?_)))))
  simp only [s2, s3, bs_size, bin_eq]
  exact Pl.ev_ite_pos (by omega) (Pl.ev_ite_pos (by omega) (Ev.now _))
def drawsT (B : Int) (M : Nat) (Q : Int) (g : Nat → Int → List NdD → Option (List NdD × Int)) : Prop :=
 ∀ a l, 0 ≤ a → a ≤ B → (l.length : Int) ≤ B → ∃ (T : Ex) (a' : Int), T.okT ∧ Ev (fun k => g k a l) (l ++ T.nodes l.length, a') ∧ T.size ≤ M ∧ a ≤ a' ∧ a' ≤ a + Q
theorem drawsT_le {B B' : Int} {M M' : Nat} {Q Q' : Int} {g : Nat → Int → List NdD → Option (List NdD × Int)} (h : drawsT B M Q g) (hB : B' ≤ B) (hM : M ≤ M') (hQ : Q ≤ Q') : drawsT B' M' Q' g := by
 intro a l h0 h1 h2
 obtain ⟨T, a', t, p1, p3, p4, p5⟩ := h a l h0 (by omega) (by omega)
 exact ⟨T, a', t, p1, by omega, p4, by omega⟩
theorem makeT_leaf (c : List Int) (hc : codeOk c) (t d : Int) : drawsT 100000 1 4 (fun k a l => spec_l3Make.j0 k l t d true c a) := by
 intro a l h0 h1 hl
 obtain ⟨b, eb⟩ := chance_ev hc a h0 (by omega) 2 (by omega) (by omega)
 by_cases hb : b = true
 ·obtain ⟨v, ev, v0, v1⟩ := next_ev hc (a + 1) (by omega) (by omega) 3 (by omega) (by omega)
  refine ⟨.var v.toNat, a + 1 + 1, ?_, ?_, Nat.le_refl _, by omega, by omega⟩
  ·show v.toNat ≤ 9
   omega
  ·show Ev (fun k => spec_l3Make.j0 k l t d true c a) (l ++ [⟨2, ((v.toNat : Nat) : Int), 0, 0⟩], _)
   rw [Int.toNat_of_nonneg v0]
   refine Ev.step (fun k => by rw [spec_l3Make.j0]) (Pl.ev_ite_pos rfl ?_)
   rw [eb]
   simp only [Option.bind_some]
   refine Pl.ev_ite_pos hb ?_
   rw [ev]
   exact Pl.ev_ite_pos (by omega) (Ev.now _)
 ·obtain ⟨v, ev, v0, v1⟩ := next_ev hc (a + 1) (by omega) (by omega) 20 (by omega) (by omega)
  obtain ⟨u, eu, hu⟩ := pick_ev hc (a + 1 + 1) (by omega) (by omega) [0, 1, 2, v, 9999] (by simp) (by simp)
  have hu' : 0 ≤ u ∧ u ≤ 9999 := by
   simp only [List.mem_cons, List.not_mem_nil, or_false] at hu
   omega
  refine ⟨.con u.toNat, a + 1 + 1 + 1, ?_, ?_, Nat.le_refl _, by omega, by omega⟩
  ·show u.toNat ≤ 9999
   omega
  ·show Ev (fun k => spec_l3Make.j0 k l t d true c a) (l ++ [⟨1, ((u.toNat : Nat) : Int), 0, 0⟩], _)
   rw [Int.toNat_of_nonneg hu'.1]
   refine Ev.step (fun k => by rw [spec_l3Make.j0]) (Pl.ev_ite_pos rfl ?_)
   rw [eb]
   simp only [Option.bind_some]
   refine Pl.ev_ite_neg hb ?_
   rw [ev]
   simp only [Option.bind_some]
   rw [eu]
   exact Pl.ev_ite_pos (by omega) (Ev.now _)
theorem makeT_parts {c : List Int} {part kind d d' B : Int} {M : Nat} {Q : Int} (hkk : 3 ≤ kind ∧ kind ≤ 10) (hB : B ≤ 100000) (hM : M ≤ 100) (hQ : 0 ≤ Q) (hQ' : Q ≤ 500) (hd : (if 0 > wrap64 (d - 1) then 0 else wrap64 (d - 1)) = d')
  (H : drawsT B M Q (fun k a l => spec_l3Make.f k c a l part d')) : drawsT (B - 1000) (2 * M + 1) (2 * Q) (fun k a l => spec_l3Make.j1 k l d kind part c a) := by
 intro a l h0 h1 hl
 obtain ⟨T1, a1, t1, ev1, p2, p3, p4⟩ := H a l h0 (by omega) (by omega)
 have n1 := Ex.nodes_len T1 l.length
 have z1 := Ex.size_pos T1
 have len1 : (l ++ T1.nodes l.length).length = l.length + T1.size := by simp [n1]
 obtain ⟨T2, a2, t2, ev2, q2, q3, q4⟩ := H a1 (l ++ T1.nodes l.length) (by omega) (by omega) (by omega)
 rw [len1] at ev2
 have n2 := Ex.nodes_len T2 (l.length + T1.size)
 have z2 := Ex.size_pos T2
 have len2 : ((l ++ T1.nodes l.length) ++ T2.nodes (l.length + T1.size)).length = l.length + T1.size + T2.size := by simp [n1, n2]; omega
 have ev1' : Ev (fun k => spec_l3Make.f k c a l part d') (l ++ T1.nodes l.length, a1) := ev1
 have ev2' : Ev (fun k => spec_l3Make.f k c a1 (l ++ T1.nodes l.length) part d') ((l ++ T1.nodes l.length) ++ T2.nodes (l.length + T1.size), a2) := ev2
 have w1 : wrap64 (((l.length + T1.size : Nat) : Int) - 1) = ((l.length + T1.size - 1 : Nat) : Int) := by rw [Pl.wrap_in (by omega) (by omega)]; omega
 have w2 : wrap64 (((l.length + T1.size + T2.size : Nat) : Int) - 1) = ((l.length + T1.size + T2.size - 1 : Nat) : Int) := by rw [Pl.wrap_in (by omega) (by omega)]; omega
 by_cases hk : kind = 10
 ·subst hk
  refine ⟨.nt T1, a1, t1, ?_, by show T1.size + 1 ≤ _; omega, by omega, by omega⟩
  show Ev (fun k => spec_l3Make.j1 k l d 10 part c a) (l ++ (T1.nodes l.length ++ [⟨10, 0, ((l.length + T1.size - 1 : Nat) : Int), 0⟩]), a1)
  refine Ev.step (fun k => by rw [spec_l3Make.j1]) ?_
  rw [max_eq, hd]
  simp only [Option.bind_some]
  refine Pl.ev_bind' ev1' (Pl.ev_ite_pos trivial (Pl.ev_ite_pos (show (l ++ T1.nodes l.length).length < 4398046511104 by omega) (Pl.ev_to (Ev.now _) ?_)))
  rw [len1, w1]
  simp only [List.append_assoc]
 ·refine ⟨.two kind T1 T2, a2, ⟨by omega, t1, t2⟩, ?_, by show T1.size + T2.size + 1 ≤ _; omega, by omega, by omega⟩
  show Ev (fun k => spec_l3Make.j1 k l d kind part c a) (l ++ (T1.nodes l.length ++ (T2.nodes (l.length + T1.size) ++ [⟨kind, 0, ((l.length + T1.size - 1 : Nat) : Int), ((l.length + T1.size + T2.size - 1 : Nat) : Int)⟩])), a2)
  refine Ev.step (fun k => by rw [spec_l3Make.j1]) ?_
  rw [max_eq, hd]
  simp only [Option.bind_some]
  refine Pl.ev_bind' ev1' (Pl.ev_ite_neg hk (Pl.ev_bind' ev2' (Pl.ev_ite_pos (show ((l ++ T1.nodes l.length) ++ T2.nodes (l.length + T1.size)).length < 4398046511104 by omega) (Pl.ev_to (Ev.now _) ?_))))
  rw [len1, len2, w1, w2]
  simp only [List.append_assoc]
theorem makeT_step {c : List Int} (hc : codeOk c) {t d d' B : Int} {M : Nat} {Q : Int} (ht : t = 1 ∨ t = 2) (hB : B ≤ 100000) (hM : M ≤ 100) (hQ : 4 ≤ Q) (hQ' : Q ≤ 500) (hd : (if 0 > wrap64 (d - 1) then 0 else wrap64 (d - 1)) = d') (ht0 : t = 1 → d ≠ 0)
  (H1 : drawsT B M Q (fun k a l => spec_l3Make.f k c a l 1 d')) (H2 : d > 1 → drawsT B M Q (fun k a l => spec_l3Make.f k c a l 2 d')) : drawsT (B - 2000) (2 * M + 1) (2 * Q + 10) (fun k a l => spec_l3Make.f k c a l t d) := by
 intro a l h0 h1 hl
 have inner : ∀ a : Int, 0 ≤ a → a ≤ B - 1999 → ∃ (T : Ex) (a' : Int), T.okT ∧ Ev (fun k => spec_l3Make.j0 k l t d false c a) (l ++ T.nodes l.length, a') ∧ T.size ≤ 2 * M + 1 ∧ a ≤ a' ∧ a' ≤ a + (2 * Q + 4) := by
  intro a h0 h1
  obtain ⟨v, ev, v0, v1⟩ := next_ev hc a h0 (by omega) 4 (by omega) (by omega)
  by_cases h2 : t = 2
  ·obtain ⟨u, eu, u0, u1⟩ := next_ev hc (a + 1) (by omega) (by omega) 2 (by omega) (by omega)
   have wu : 3 ≤ wrap64 (7 + u) ∧ wrap64 (7 + u) ≤ 10 := by rw [Pl.wrap_in (by omega) (by omega)]; omega
   by_cases hdd : d > 1
   ·obtain ⟨b, eb⟩ := chance_ev hc (a + 1 + 1) (by omega) (by omega) 3 (by omega) (by omega)
    by_cases hb : b = true
    ·obtain ⟨q, eq, q0, q1⟩ := next_ev hc (a + 1 + 1 + 1) (by omega) (by omega) 2 (by omega) (by omega)
     have wq : 3 ≤ wrap64 (9 + q) ∧ wrap64 (9 + q) ≤ 10 := by rw [Pl.wrap_in (by omega) (by omega)]; omega
     obtain ⟨T, a', t1, p1, p3, p4, p5⟩ := makeT_parts (kind := wrap64 (9 + q)) wq hB hM (by omega) hQ' hd (H2 hdd) (a + 1 + 1 + 1 + 1) l (by omega) (by omega) (by omega)
     refine ⟨T, a', t1, Ev.step (fun k => by rw [spec_l3Make.j0]) (Pl.ev_ite_neg (by simp) ?_), p3, by omega, by omega⟩
     rw [ev]
     simp only [Option.bind_some]
     refine Pl.ev_ite_pos h2 ?_
     rw [eu]
     simp only [Option.bind_some]
     refine Pl.ev_ite_pos hdd ?_
     rw [eb]
     simp only [Option.bind_some]
     refine Pl.ev_ite_pos hb ?_
     rw [eq]
     exact p1
    ·obtain ⟨T, a', t1, p1, p3, p4, p5⟩ := makeT_parts (kind := wrap64 (7 + u)) wu hB hM (by omega) hQ' hd H1 (a + 1 + 1 + 1) l (by omega) (by omega) (by omega)
     refine ⟨T, a', t1, Ev.step (fun k => by rw [spec_l3Make.j0]) (Pl.ev_ite_neg (by simp) ?_), p3, by omega, by omega⟩
     rw [ev]
     simp only [Option.bind_some]
     refine Pl.ev_ite_pos h2 ?_
     rw [eu]
     simp only [Option.bind_some]
     refine Pl.ev_ite_pos hdd ?_
     rw [eb]
     simp only [Option.bind_some]
     exact Pl.ev_ite_neg hb p1
   ·obtain ⟨T, a', t1, p1, p3, p4, p5⟩ := makeT_parts (kind := wrap64 (7 + u)) wu hB hM (by omega) hQ' hd H1 (a + 1 + 1) l (by omega) (by omega) (by omega)
    refine ⟨T, a', t1, Ev.step (fun k => by rw [spec_l3Make.j0]) (Pl.ev_ite_neg (by simp) ?_), p3, by omega, by omega⟩
    rw [ev]
    simp only [Option.bind_some]
    refine Pl.ev_ite_pos h2 ?_
    rw [eu]
    simp only [Option.bind_some]
    exact Pl.ev_ite_neg hdd p1
  ·have wv : 3 ≤ wrap64 (3 + v) ∧ wrap64 (3 + v) ≤ 10 := by rw [Pl.wrap_in (by omega) (by omega)]; omega
   obtain ⟨T, a', t1, p1, p3, p4, p5⟩ := makeT_parts (kind := wrap64 (3 + v)) wv hB hM (by omega) hQ' hd H1 (a + 1) l (by omega) (by omega) (by omega)
   refine ⟨T, a', t1, Ev.step (fun k => by rw [spec_l3Make.j0]) (Pl.ev_ite_neg (by simp) ?_), p3, by omega, by omega⟩
   rw [ev]
   simp only [Option.bind_some]
   exact Pl.ev_ite_neg h2 p1
 show ∃ (T : Ex) (a' : Int), T.okT ∧ Ev (fun k => spec_l3Make.f k c a l t d) (l ++ T.nodes l.length, a') ∧ _
 by_cases h2 : t = 1
 ·obtain ⟨b, eb⟩ := chance_ev hc a h0 (by omega) 3 (by omega) (by omega)
  cases b with
  | true =>
   obtain ⟨T, a', t1, p1, p3, p4, p5⟩ := makeT_leaf c hc t d (a + 1) l (by omega) (by omega) (by omega)
   refine ⟨T, a', t1, Ev.step (fun k => by rw [spec_l3Make.f]) (Pl.ev_ite_pos h2 (Pl.ev_ite_neg (ht0 h2) ?_)), by omega, by omega, by omega⟩
   rw [eb]
   exact p1
  | false =>
   obtain ⟨T, a', t1, p1, p3, p4, p5⟩ := inner (a + 1) (by omega) (by omega)
   refine ⟨T, a', t1, Ev.step (fun k => by rw [spec_l3Make.f]) (Pl.ev_ite_pos h2 (Pl.ev_ite_neg (ht0 h2) ?_)), by omega, by omega, by omega⟩
   rw [eb]
   exact p1
 ·obtain ⟨T, a', t1, p1, p3, p4, p5⟩ := inner a h0 (by omega)
  exact ⟨T, a', t1, Ev.step (fun k => by rw [spec_l3Make.f]) (Pl.ev_ite_neg h2 p1), p3, p4, by omega⟩
theorem makeT_int0 {c : List Int} (hc : codeOk c) : drawsT 100000 1 4 (fun k a l => spec_l3Make.f k c a l 1 0) := by
 intro a l h0 h1 hl
 obtain ⟨T, a', t1, p1, p3, p4, p5⟩ := makeT_leaf c hc 1 0 a l h0 h1 hl
 refine ⟨T, a', t1, ?_, p3, p4, p5⟩
 show Ev (fun k => spec_l3Make.f k c a l 1 0) (l ++ T.nodes l.length, a')
 exact Ev.step (fun k => by rw [spec_l3Make.f]) (Pl.ev_ite_pos rfl (Pl.ev_ite_pos rfl p1))
theorem makeT_ev {c : List Int} (hc : codeOk c) (t : Int) (ht : t = 1 ∨ t = 2) (d : Int) (hd : d = 1 ∨ d = 2) : drawsT 90000 7 100 (fun k a l => spec_l3Make.f k c a l t d) := by
 have w0 : wrap64 ((1 : Int) - 1) = 0 := by rw [Pl.wrap_in (by omega) (by omega)]; rfl
 have w1 : wrap64 ((2 : Int) - 1) = 1 := by rw [Pl.wrap_in (by omega) (by omega)]; rfl
 have i0 := makeT_int0 hc
 have one : ∀ t : Int, t = 1 ∨ t = 2 → drawsT 98000 3 18 (fun k a l => spec_l3Make.f k c a l t 1) := fun t ht => makeT_step hc ht (by omega) (by omega) (by omega) (by omega) (by rw [w0, if_neg (by omega)]) (fun _ => by omega) i0 (fun h => by omega)
 rcases hd with rfl | rfl
 ·exact drawsT_le (one t ht) (by omega) (by omega) (by omega)
 ·exact drawsT_le (makeT_step hc ht (by omega) (by omega) (by omega) (by omega) (by rw [w1, if_neg (by omega)]) (fun _ => by omega) (one 1 (.inl rfl)) (fun _ => one 2 (.inr rfl))) (by omega) (by omega) (by omega)
theorem draw3T_ev {c : List Int} (hc : codeOk c) (a : Int) (h0 : 0 ≤ a) (h1 : a ≤ 10000) (t : Int) (ht : t = 1 ∨ t = 2) : ∃ (T : Ex) (a' : Int), T.okT ∧ Ev (fun k => spec_l3Draw.f k c a t) (T.nodes 0, a') ∧ T.size ≤ 7 ∧ a ≤ a' ∧ a' ≤ a + 200 := by
 obtain ⟨d, ed, hd⟩ := pick_ev hc a h0 (by omega) [1, 1, 2] (by simp) (by simp)
 have hd' : d = 1 ∨ d = 2 := by
  simp only [List.mem_cons, List.not_mem_nil, or_false] at hd
  omega
 obtain ⟨T, a', t1, p1, p3, p4, p5⟩ := makeT_ev hc t ht d hd' (a + 1) [] (by omega) (by omega) (by simp)
 have hn := Ex.nodes_len T 0
 refine ⟨T, a', t1, ?_, by omega, by omega, by omega⟩
 unfold spec_l3Draw.f
 rw [ed]
 simp only [Option.bind_some]
 have p1' : Ev (fun k => spec_l3Make.f k c (a + 1) [] t d) (T.nodes 0, a') := p1
 exact Pl.ev_bind' p1' (Ev.step (fun k => by rw [spec_l3Draw.l0]) (Pl.ev_ite_neg (by show ¬ ((T.nodes 0).length : Int) > 16; omega) (Ev.now _)))
theorem drawText_ev {c : List Int} (hc : codeOk c) : ∃ s : ByteArray, Ev (fun k => spec_DrawParseExpr.f k c) s := by
 obtain ⟨b, eb, b0, b1⟩ := next_ev hc 0 (by omega) (by omega) 2 (by omega) (by omega)
 obtain ⟨T, a1, tT, ev, l7, q1, q2⟩ := draw3T_ev hc (0 + 1) (by omega) (by omega) (1 + b) (by omega)
 have hn := Ex.nodes_len T 0
 have hz := Ex.size_pos T
 have h5 := txt_len T tT
 have tx := text_tree (T.nodes 0) (by omega) T tT [] [] (by simp)
 have hsz : (bs T.txt).size = T.txt.length := bs_size _
 have hp : 1 ≤ T.txt.length := by
  cases T with
  | con v =>
   obtain ⟨c, d, h, _⟩ := dec_head v
   show 1 ≤ (Lib.decDigits v).length
   rw [h]; simp
  | var v => show 1 ≤ (118 :: Lib.decDigits v).length; simp
  | nt a => show 1 ≤ (33 :: a.txt).length; simp
  | two k a b => show 1 ≤ (40 :: (a.txt ++ signB k :: (b.txt ++ [41]))).length; simp
 obtain ⟨s, es, s0, s1⟩ := next_ev hc a1 (by omega) (by omega) 6 (by omega) (by omega)
 obtain ⟨i, ei, i0, i1⟩ := next_ev hc (a1 + 1) (by omega) (by omega) ((bs T.txt).size : Int) (by omega) (by omega)
 obtain ⟨u, eu, _⟩ := pick_ev hc (a1 + 1 + 1) (by omega) (by omega) [48, 40, 118, 57, 41] (by simp) (by simp)
 have tot : ∃ r, turnT c (a1 + 1) s (bs T.txt) = some r := by
  unfold turnT
  rw [ei]
  simp only [Option.bind_some]
  rw [eu]
  simp only [Option.bind_some]
  rw [if_pos (show 0 ≤ i ∧ i < ((bs T.txt).size : Int) from ⟨i0, i1⟩), if_pos (show 0 ≤ i ∧ i ≤ ((bs T.txt).size : Int) from ⟨i0, by omega⟩)]
  split
  ·exact ⟨_, rfl⟩
  ·split
   ·exact ⟨_, rfl⟩
   ·split <;> exact ⟨_, rfl⟩
 obtain ⟨r, hr⟩ := tot
 refine ⟨r, ?_⟩
 unfold spec_DrawParseExpr.f spec_l1Source.f
 simp only [Option.bind_some]
 rw [eb]
 simp only [Option.bind_some]
 rw [Pl.wrap_in (x := 1 + b) (by omega) (by omega)]
 refine Pl.ev_bind' ev ?_
 have ew : wrap64 (((T.nodes 0).length : Int) - 1) = (((([] : List Nd).length + T.size - 1 : Nat)) : Int) := by rw [Pl.wrap_in (by omega) (by omega), hn]; simp; omega
 simp only [ew]
 refine Pl.ev_bind' tx ?_
 simp only [es, Option.bind_some]
 refine Pl.ev_ite_pos (by omega) ?_
 simp only [hr]
 exact Ev.now _
end Go.Proofs.YtmppibhdnajjjaaDoor.P
