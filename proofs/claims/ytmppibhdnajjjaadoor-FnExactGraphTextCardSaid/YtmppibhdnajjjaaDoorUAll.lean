/- Plain words on functions with rounds: what a call comes to with rounds enough. No condition. What the program's picks of a code come to. No condition. What the checks of a range come to. No condition. What the program and the reference say of names, as plain functions: both the same. No condition. What the laws' own comparison of nodes comes to. No condition. What the laws' own sizes and copies of nodes come to. No condition. What the laws' own sizes, copies and comparisons of graphs come to. No condition. The code of a graph: the program and the reference say the same. No condition. The flows that leave a node: the program and the reference gather the same. No condition. A number's decimal digits: the program and the reference write the same. No condition. -/
import Derived.Test.YtmppibhdnajjjaaDoorWMore
import Derived.Lib.Strings
import Derived.Test.YtmppibhdnajjjaaDoorG9
import Derived.Test.YtmppibhdnajjjaaDoorG1
import Derived.Test.YtmppibhdnajjjaaDoorG3
import Derived.Test.YtmppibhdnajjjaaDoorG6
import Derived.Test.YtmppibhdnajjjaaDoorG5
import Derived.Test.YtmppibhdnajjjaaDoorGO
import Derived.Test.YtmppibhdnajjjaaDoorG7
import Derived.Test.YtmppibhdnajjjaaDoorG2
import Derived.Test.YtmppibhdnajjjaaDoorG12
import Derived.Test.YtmppibhdnajjjaaDoorG10
import Derived.Test.YtmppibhdnajjjaaDoorG11
import Derived.Test.YtmppibhdnajjjaaDoorG4
import Derived.Test.YtmppibhdnajjjaaDoorG13
import Derived.Test.YtmppibhdnajjjaaDoorGH
namespace Go.Proofs.YtmppibhdnajjjaaDoor
open Go.RowKit Go.Proofs.YtmppibhdnajjjaaDoorW.PrintWords Go.Proofs.YtmppibhdnajjjaaDoorW.PrintLast Go.Proofs.YtmppibhdnajjjaaDoorW.PrintMore
namespace Pl
variable {α β σ : Type}
theorem ev_iff_congr {g f : Nat → Option α} {r : α} (h : ∃ K, ∀ k, K ≤ k → g k = f k) : Ev g r ↔ Ev f r := by
 obtain ⟨K, h⟩ := h
 constructor
 ·rintro ⟨K', h'⟩
  exact ⟨max K K', fun k hk => by rw [← h k (by omega)]; exact h' k (by omega)⟩
 ·rintro ⟨K', h'⟩
  exact ⟨max K K', fun k hk => by rw [h k (by omega)]; exact h' k (by omega)⟩
theorem ev_some {x r : α} : Ev (fun _ => some x) r ↔ x = r := by
 constructor
 ·rintro ⟨K, h⟩
  exact Option.some.inj (h K (Nat.le_refl _))
 ·rintro rfl
  exact Ev.now _
theorem ev_none {r : α} : Ev (fun _ => none) r ↔ False := by
 constructor
 ·rintro ⟨K, h⟩
  exact absurd (h K (Nat.le_refl _)) (by simp)
 ·exact False.elim
theorem ev_ite {c : Prop} [Decidable c] {a b : Nat → Option α} {r : α} : Ev (fun k => if c then a k else b k) r ↔ if c then Ev a r else Ev b r := by
 by_cases h : c
 ·simp only [if_pos h]
 ·simp only [if_neg h]
theorem ev_bind {g : Nat → Option α} {f : Nat → α → Option β} {a : α} {r : β} (h : Ev g a) : Ev (fun k => (g k).bind (f k)) r ↔ Ev (fun k => f k a) r := by
 obtain ⟨K, h⟩ := h
 exact ev_iff_congr ⟨K, fun k hk => by rw [h k hk, Option.bind_some]⟩
theorem ev_bind' {g : Nat → Option α} {f : Nat → α → Option β} {a : α} {r : β} (h : Ev g a) (hf : Ev (fun k => f k a) r) : Ev (fun k => (g k).bind (f k)) r := (ev_bind h).2 hf
theorem ev_ite_pos {c : Prop} [Decidable c] {a b : Nat → Option α} {r : α} (hc : c) (h : Ev a r) : Ev (fun k => if c then a k else b k) r := by
 simp only [if_pos hc]; exact h
theorem ev_ite_neg {c : Prop} [Decidable c] {a b : Nat → Option α} {r : α} (hc : ¬ c) (h : Ev b r) : Ev (fun k => if c then a k else b k) r := by
 simp only [if_neg hc]; exact h
theorem ev_unique {g : Nat → Option α} {r s : α} (h : Ev g r) (h' : Ev g s) : r = s := by
 obtain ⟨K, h⟩ := h
 obtain ⟨K', h'⟩ := h'
 have h1 := h (max K K') (by omega)
 have h2 := h' (max K K') (by omega)
 rw [h1] at h2
 exact Option.some.inj h2
theorem ev_to {g : Nat → Option α} {r s : α} (h : Ev g r) (e : r = s) : Ev g s := e ▸ h
theorem loop {n : Nat} {g : Nat → Int → σ → Option β} {F : Nat → σ → β} (I : Nat → σ → Prop)
  (hend : ∀ s, I n s → Ev (fun k => g k (n : Int) s) (F n s))
  (hstep : ∀ i s, i < n → I i s → (∀ s', I (i + 1) s' → Ev (fun k => g k ((i : Int) + 1) s') (F (i + 1) s')) → Ev (fun k => g k (i : Int) s) (F i s)) :
  ∀ i s, i ≤ n → I i s → Ev (fun k => g k (i : Int) s) (F i s) := by
 intro i s hi
 obtain ⟨d, hd⟩ : ∃ d, n - i = d := ⟨_, rfl⟩
 induction d generalizing i s with
 | zero =>
  intro hI
  obtain rfl : i = n := by omega
  exact hend s hI
 | succ d ih =>
  intro hI
  refine hstep i s (by omega) hI (fun s' hI' => ?_)
  have := ih (i + 1) s' (by omega) (by omega) hI'
  simpa using this
theorem loop0 {n : Nat} {g : Nat → Int → Option β} {F : Nat → β}
  (hend : Ev (fun k => g k (n : Int)) (F n))
  (hstep : ∀ i, i < n → Ev (fun k => g k ((i : Int) + 1)) (F (i + 1)) → Ev (fun k => g k (i : Int)) (F i)) :
  ∀ i, i ≤ n → Ev (fun k => g k (i : Int)) (F i) := fun i hi =>
 loop (σ := Unit) (g := fun k i _ => g k i) (F := fun i _ => F i) (fun _ _ => True) (fun _ _ => hend) (fun i _ h _ hs => hstep i h (hs () trivial)) i () hi trivial
theorem wrap_nat {i : Nat} (h : i < 9223372036854775807) : wrap64 ((i : Int) + 1) = (i : Int) + 1 := by unfold wrap64; omega
theorem wrap_in {x : Int} (h : -9223372036854775808 ≤ x) (h' : x ≤ 9223372036854775807) : wrap64 x = x := by unfold wrap64; omega
theorem wf_i64 {x : Int} (h : (Lit.int .i64 x).wf = true) : -9223372036854775808 ≤ x ∧ x ≤ 9223372036854775807 := by
 simp [Lit.wf, IntKind.min, IntKind.max, IntKind.signed, IntKind.bits] at h
 omega
/-! bytes -/
theorem bt_get (s : ByteArray) (i : Nat) (h : i < s.size) : bt s (i : Int) = ((s.data.toList[i]'(by simpa using h)).toNat : Int) := by
 unfold bt
 rw [dif_pos (by simpa using h)]
 simp [ByteArray.getElem_eq_getElem_data]
theorem drop_get {l : List α} {i : Nat} (h : i < l.length) : l.drop i = l[i] :: l.drop (i + 1) := List.drop_eq_getElem_cons h
theorem size_toList (s : ByteArray) : s.data.toList.length = s.size := by simp
theorem toList_data (s : ByteArray) : s.toList = s.data.toList := ByteArray.toList_eq s
theorem bt_l {s : ByteArray} {l : List UInt8} (hl : s.data.toList = l) (i : Nat) (h : i < l.length) : bt s (i : Int) = (l[i].toNat : Int) := by
 subst hl
 exact bt_get s i (by simpa using h)
theorem size_l {s : ByteArray} {l : List UInt8} (hl : s.data.toList = l) : s.size = l.length := by subst hl; simp
theorem toList_l {s : ByteArray} {l : List UInt8} (hl : s.data.toList = l) : s.toList = l := by rw [toList_data, hl]
theorem drop_end {l : List α} : l.drop l.length = [] := List.drop_length
def smallB (c : UInt8) : Bool := decide (97 ≤ c.toNat ∧ c.toNat ≤ 122)
def printB (c : UInt8) : Bool := decide (32 ≤ c.toNat ∧ c.toNat ≤ 126)
def digitB (c : UInt8) : Bool := decide (48 ≤ c.toNat ∧ c.toNat ≤ 57)
def blankB (c : UInt8) : Bool := decide (c.toNat = 32 ∨ c.toNat = 10)
def nameC (l : List UInt8) : Int := if l = [] then 5 else if l.all smallB = true then (if l.length > 8 then 2 else 0) else 5
def valueC (l : List UInt8) : Int := if l.length > 40 then 2 else if l.all printB = true then 0 else 5
theorem rd_get (l : List Int) (i : Nat) (h : i < l.length) : rd l (i : Int) = l[i] := by
 unfold rd
 simp [List.getD_eq_getElem?_getD, List.getElem?_eq_getElem h]
theorem getD_get {l : List α} {z : α} {i : Nat} (h : i < l.length) : l.getD ((i : Int)).toNat z = l[i] := by
 simp [List.getD_eq_getElem?_getD, List.getElem?_eq_getElem h]
theorem fill {l : List α} {f : α → β} {z : β} {g : Nat → Int → List β → Option (List β)}
  (hend : ∀ acc, acc.length = l.length → Ev (fun k => g k (l.length : Int) acc) acc)
  (hstep : ∀ i (hi : i < l.length) acc, acc.length = l.length → Ev (fun k => g k ((i : Int) + 1) (acc.set i (f l[i]))) (l.map f) → Ev (fun k => g k (i : Int) acc) (l.map f)) :
  Ev (fun k => g k 0 (List.replicate l.length z)) (l.map f) := by
 have h := loop (n := l.length) (g := g) (F := fun _ _ => l.map f) (fun i acc => acc.length = l.length ∧ acc.take i = (l.map f).take i)
  (fun acc hI => ?_) (fun i acc hi hI hs => hstep i hi acc hI.1 (hs _ ⟨by simp [hI.1], ?_⟩)) 0 (List.replicate l.length z) (Nat.zero_le _) ⟨by simp, by simp⟩
 ·simpa using h
 ·have e : acc = l.map f := by
   have h1 := hI.2
   rw [List.take_of_length_le (by rw [hI.1]; exact Nat.le_refl _), List.take_of_length_le (by simp)] at h1
   exact h1
  have := hend acc hI.1
  rwa [e] at this ⊢
 ·have h1 : i < (l.map f).length := by simpa using hi
  obtain ⟨hI1, hI2⟩ := hI
  apply List.ext_getElem?
  intro j
  have hj := congrArg (fun z => z[j]?) hI2
  simp only [List.getElem?_take] at hj ⊢
  by_cases h2 : j < i
  ·rw [if_pos h2, if_pos h2] at hj
   rw [if_pos (by omega), if_pos (by omega), List.getElem?_set_ne (by omega), hj]
  ·by_cases h3 : j = i
   ·subst h3
    rw [if_pos (by omega), if_pos (by omega), List.getElem?_set_self (by omega), List.getElem?_eq_getElem h1]
    simp
   ·rw [if_neg (by omega), if_neg (by omega)]
theorem left {l : List α} {B : α → Prop} {g : Nat → Int → Int → Option Int}
  (hend : ∀ x, Ev (fun k => g k (l.length : Int) x) x)
  (hstep : ∀ i (hi : i < l.length) x, 0 ≤ x → x ≤ 1048576 → ∃ r, -1 ≤ r ∧ r ≤ x ∧ (0 ≤ r → B l[i]) ∧ (r < 0 → Ev (fun k => g k (i : Int) x) (-1)) ∧ (0 ≤ r → ∀ R, Ev (fun k => g k ((i : Int) + 1) r) R → Ev (fun k => g k (i : Int) x) R)) :
  ∀ x, 0 ≤ x → x ≤ 1048576 → ∃ r, -1 ≤ r ∧ r ≤ x ∧ (0 ≤ r → ∀ y ∈ l, B y) ∧ Ev (fun k => g k 0 x) r := by
 have main : ∀ d i x, i ≤ l.length → l.length - i = d → 0 ≤ x → x ≤ 1048576 → ∃ r, -1 ≤ r ∧ r ≤ x ∧ (0 ≤ r → ∀ y ∈ l.drop i, B y) ∧ Ev (fun k => g k (i : Int) x) r := by
  intro d
  induction d with
  | zero =>
   intro i x hi hd h0 h1
   obtain rfl : i = l.length := by omega
   exact ⟨x, by omega, Int.le_refl _, by simp, hend x⟩
  | succ d ih =>
   intro i x hi hd h0 h1
   have hi' : i < l.length := by omega
   obtain ⟨r, hr0, hr1, hB, hneg, hpos⟩ := hstep i hi' x h0 h1
   by_cases h : 0 ≤ r
   ·obtain ⟨q, hq0, hq1, hqB, hq⟩ := ih (i + 1) r (by omega) (by omega) h (by omega)
    refine ⟨q, hq0, by omega, fun h2 => ?_, hpos h q (by simpa using hq)⟩
    rw [drop_get hi']
    intro y hy
    rcases List.mem_cons.1 hy with rfl | hy
    ·exact hB h
    ·exact hqB h2 y hy
   ·exact ⟨-1, by omega, by omega, by omega, hneg (by omega)⟩
 intro x h0 h1
 obtain ⟨r, a, b, c, d⟩ := main _ 0 x (Nat.zero_le _) rfl h0 h1
 exact ⟨r, a, b, by simpa using c, by simpa using d⟩
def firstC : List Int → Int
 | [] => 0
 | c :: l => if c = 0 then firstC l else c
end Pl
end Go.Proofs.YtmppibhdnajjjaaDoor
namespace Go.Proofs.YtmppibhdnajjjaaDoor.G
set_option linter.unusedVariables false
set_option linter.unusedSimpArgs false
open Go.RowKit Go.Proofs.YtmppibhdnajjjaaDoor Go.Proofs.YtmppibhdnajjjaaDoorW.PrintWords Go.Proofs.YtmppibhdnajjjaaDoorW.PrintLast
theorem codeIf_eq (b : Bool) (c : Int) : impl_codeIf.f b c = some (if b = true then c else 0) := by
 unfold impl_codeIf.f
 cases b <;> rfl
theorem firstCode_l (l : List Int) (hl : l.length < 1000) : ∀ i, i ≤ l.length → Ev (fun k => impl_firstCode.l0 k l (l.length : Int) (i : Int)) (Pl.firstC (l.drop i)) := by
 refine Pl.loop0 (g := fun k i => impl_firstCode.l0 k l (l.length : Int) i) ?_ ?_
 ·refine Ev.step (fun k => by rw [impl_firstCode.l0]) ?_
  simp [Pl.ev_some, Pl.firstC]
 ·intro i hi ih
  refine Ev.step (fun k => by rw [impl_firstCode.l0]) ?_
  rw [Pl.drop_get hi]
  have e := Pl.rd_get l i hi
  simp only [Pl.ev_ite, Pl.ev_some, Pl.ev_none, Pl.firstC, e, Pl.wrap_nat (show i < 9223372036854775807 by omega)]
  rw [if_pos (by omega), if_pos (by omega), if_pos (by omega)]
  split
  ·exact ih
  ·rfl
theorem firstCode_ev (l : List Int) (hl : l.length < 1000) : Ev (fun k => impl_firstCode.f k l) (Pl.firstC l) := firstCode_l l hl 0 (Nat.zero_le _)
theorem l1In_eq (a lo hi : Int) : spec_l1In.f a lo hi = some (decide (lo ≤ a ∧ a ≤ hi)) := by
 unfold spec_l1In.f
 by_cases h : a ≥ lo
 ·rw [if_pos h]; congr 1; rw [decide_eq_decide]; omega
 ·rw [if_neg h]; congr 1; rw [eq_comm, decide_eq_false_iff_not]; omega
theorem inRange_eq (a lo hi : Int) : impl_inRange.f a lo hi = some (decide (lo ≤ a ∧ a ≤ hi)) := by
 unfold impl_inRange.f
 by_cases h : lo ≤ a
 ·rw [if_pos h]; congr 1; rw [decide_eq_decide]; omega
 ·rw [if_neg h]; congr 1; rw [eq_comm, decide_eq_false_iff_not]; omega
theorem l1Name_l {s : ByteArray} {l : List UInt8} (hl : s.data.toList = l) (hs : l.length < 9223372036854775807) : ∀ i, i ≤ l.length → Ev (fun k => spec_l1Name.l0 k s (i : Int)) (bif (l.drop i).all Pl.smallB then (if l = [] then 5 else if l.length > 8 then 2 else 0) else 5) := by
 have hz := Pl.size_l hl
 refine Pl.loop0 (g := fun k i => spec_l1Name.l0 k s i) ?_ ?_
 ·refine Ev.step (fun k => by rw [spec_l1Name.l0]) ?_
  simp only [Pl.ev_ite, Pl.ev_some, Pl.toList_l hl, hz, Pl.drop_end, List.all_nil, cond_true]
  rw [if_neg (by omega)]
  split
  ·rfl
  ·split
   ·rw [if_pos (by omega)]
   ·rw [if_neg (by omega)]
 ·intro i hi ih
  refine Ev.step (fun k => by rw [spec_l1Name.l0]) ?_
  rw [Pl.drop_get hi]
  simp only [Pl.ev_ite, Pl.ev_some, Pl.ev_none, Pl.bt_l hl i hi, hz, Pl.wrap_nat (show i < 9223372036854775807 by omega), List.all_cons]
  rw [if_pos (by omega), if_pos (by omega)]
  by_cases h : Pl.smallB l[i] = true
  ·have h' := of_decide_eq_true h
   rw [if_neg (by omega), if_neg (by omega), h, Bool.true_and]
   exact ih
  ·have h' : ¬ (97 ≤ (l[i]).toNat ∧ (l[i]).toNat ≤ 122) := fun e => h (decide_eq_true e)
   rw [Bool.not_eq_true] at h
   rw [h, Bool.false_and, cond_false]
   split
   ·rfl
   ·rw [if_pos (by omega)]
theorem l1Name_ev {s : ByteArray} {l : List UInt8} (hl : s.data.toList = l) (hs : l.length < 9223372036854775807) : Ev (fun k => spec_l1Name.f k s) (Pl.nameC l) := by
 have h := l1Name_l hl hs 0 (Nat.zero_le _)
 unfold spec_l1Name.f
 refine Pl.ev_to h ?_
 rw [List.drop_zero]
 unfold Pl.nameC
 split
 ·rename_i h0
  subst h0
  rfl
 ·cases l.all Pl.smallB <;> rfl
theorem isSmall_eq (c : UInt8) : impl_isSmall.f (c.toNat : Int) = some (Pl.smallB c) := by
 unfold impl_isSmall.f Pl.smallB
 by_cases h : (c.toNat : Int) ≥ 97
 ·rw [if_pos h]; congr 1; rw [decide_eq_decide]; omega
 ·rw [if_neg h]; congr 1; rw [eq_comm, decide_eq_false_iff_not]; omega
theorem areSmall_l {s : ByteArray} {l : List UInt8} (hl : s.data.toList = l) (hs : l.length < 9223372036854775807) : ∀ i, i ≤ l.length → Ev (fun k => impl_areAll__impl_isSmall.l0 k s (l.length : Int) (i : Int)) ((l.drop i).all Pl.smallB) := by
 have hz := Pl.size_l hl
 refine Pl.loop0 (g := fun k i => impl_areAll__impl_isSmall.l0 k s (l.length : Int) i) ?_ ?_
 ·refine Ev.step (fun k => by rw [impl_areAll__impl_isSmall.l0]) ?_
  simp [Pl.ev_some]
 ·intro i hi ih
  refine Ev.step (fun k => by rw [impl_areAll__impl_isSmall.l0]) ?_
  rw [Pl.drop_get hi]
  simp only [Pl.ev_ite, Pl.ev_some, Pl.ev_none, Pl.bt_l hl i hi, hz, isSmall_eq, Option.bind_some, Pl.wrap_nat (show i < 9223372036854775807 by omega), List.all_cons]
  rw [if_pos (by omega), if_pos (by omega), if_pos (by omega)]
  cases h : Pl.smallB l[i]
  ·rfl
  ·simpa [h] using ih
theorem impl_name {s : ByteArray} {l : List UInt8} (hl : s.data.toList = l) (hs : l.length < 9223372036854775807) : Ev (fun k => impl_NameFault.f k s) (Pl.nameC l) := by
 have hz := Pl.size_l hl
 have h := areSmall_l hl hs 0 (Nat.zero_le _)
 rw [List.drop_zero, ← hz] at h
 unfold impl_NameFault.f
 simp only [codeIf_eq, Option.bind_some, Pl.ev_ite, Pl.toList_l hl]
 unfold Pl.nameC
 split
 ·refine Pl.ev_bind' (firstCode_ev _ (by simp)) ?_
  simp [Pl.ev_some, Pl.firstC]
 ·refine Pl.ev_bind' h ?_
  refine Pl.ev_bind' (firstCode_ev _ (by simp)) ?_
  simp only [Pl.ev_some, Pl.firstC, hz]
  cases h1 : l.all Pl.smallB
  ·simp
  ·by_cases h2 : l.length > 8
   ·simp [h2]; rw [if_neg (by omega), if_pos (by omega)]
   ·simp [h2]; omega
theorem rd_iNode (l : List S45) (i : Nat) (h : i < l.length) : rd_T45 l (i : Int) = l[i] := Pl.getD_get h
theorem eqNodeS_ev (l : List S45) (hl : l.length ≤ 1048576) : Ev (fun k => laws_eqNodeS.f k l l) true := by
 unfold laws_eqNodeS.f
 simp only [if_true]
 refine Pl.loop0 (n := l.length) (g := fun k i => laws_eqNodeS.l0 k l l i) (F := fun _ => true) ?_ (fun i hi ih => ?_) 0 (Nat.zero_le _)
 ·refine Ev.step (fun k => by rw [laws_eqNodeS.l0]) ?_
  simp [Pl.ev_some]
 ·refine Ev.step (fun k => by rw [laws_eqNodeS.l0]) ?_
  simp only [Pl.ev_ite, Pl.ev_some, Pl.ev_none, laws_eqNode.f, if_true, Option.bind_some, Pl.wrap_nat (show i < 9223372036854775807 by omega)]
  rw [if_pos (by omega), if_pos (by omega), if_pos (by omega)]
  exact ih
theorem rd_lNode (l : List S67) (i : Nat) (h : i < l.length) : rd_T67 l (i : Int) = l[i] := Pl.getD_get h
def toNode (x : S67) : S45 := ⟨x.f0, x.f1, x.f2, x.f3⟩
theorem szNodeS_ev (l : List S67) (hl : l.length ≤ 9223372036854775807) (x : Int) (h0 : 0 ≤ x) (h1 : x ≤ 1048576) : ∃ r, -1 ≤ r ∧ r ≤ x ∧ (0 ≤ r → l.length ≤ 1048576) ∧ laws_szNodeS.f l x = some r := by
 have e : wrap64 (x - (l.length : Int)) = x - (l.length : Int) := Pl.wrap_in (by omega) (by omega)
 unfold laws_szNodeS.f
 rw [e]
 by_cases h : x - (l.length : Int) < 0
 ·rw [if_pos h]
  exact ⟨-1, by omega, by omega, by omega, rfl⟩
 ·rw [if_neg h]
  exact ⟨_, by omega, by omega, fun _ => by omega, rfl⟩
theorem toNodeS_ev (l : List S67) (hl : l.length ≤ 1048576) : Ev (fun k => laws_toNodeS.f k l) (l.map toNode) := by
 unfold laws_toNodeS.f
 simp only [Pl.ev_ite]
 rw [if_pos (by omega), if_pos (by simp; omega)]
 rw [show ((l.length : Int) : Int).toNat = l.length from by omega]
 refine Pl.fill (g := fun k i acc => laws_toNodeS.l0 k l acc i) (fun acc _ => ?_) (fun i hi acc ha ih => ?_)
 ·refine Ev.step (fun k => by rw [laws_toNodeS.l0]) ?_
  simp [Pl.ev_some]
 ·refine Ev.step (fun k => by rw [laws_toNodeS.l0]) ?_
  simp only [Pl.ev_ite, Pl.ev_some, Pl.ev_none, laws_toNode.f, Option.bind_some, rd_lNode l i hi, Pl.wrap_nat (show i < 9223372036854775807 by omega), Int.toNat_natCast]
  rw [if_pos (by omega), if_pos (by omega), if_pos (by omega)]
  exact ih
theorem rd_lGNode (l : List S135) (i : Nat) (h : i < l.length) : rd_T135 l (i : Int) = l[i] := Pl.getD_get h
theorem rd_iGNode (l : List S94) (i : Nat) (h : i < l.length) : rd_T94 l (i : Int) = l[i] := Pl.getD_get h
theorem rd_lFlow (l : List S138) (i : Nat) (h : i < l.length) : rd_T138 l (i : Int) = l[i] := Pl.getD_get h
theorem rd_iFlow (l : List S97) (i : Nat) (h : i < l.length) : rd_T97 l (i : Int) = l[i] := Pl.getD_get h
def toGNode (x : S135) : S94 := ⟨x.f0, x.f1, x.f2, x.f3, x.f4.map toNode⟩
def toFlow (x : S138) : S97 := ⟨x.f0, x.f1, x.f2.map toNode⟩
def bGNode (x : S135) : Prop := x.f2.size ≤ 1048576 ∧ x.f4.length ≤ 1048576
def bFlow (x : S138) : Prop := x.f2.length ≤ 1048576
theorem szGNode_ev (a : S135) (hw : wf135 a) (x : Int) (h0 : 0 ≤ x) (h1 : x ≤ 1048576) : ∃ r, -1 ≤ r ∧ r ≤ x ∧ (0 ≤ r → bGNode a) ∧ laws_szGNode.f a.f0 a.f1 a.f2 a.f3 a.f4 x = some r := by
 obtain ⟨w0, w1, w2, w3, w4⟩ := hw
 have e : wrap64 (x - (a.f2.size : Int)) = x - (a.f2.size : Int) := Pl.wrap_in (by omega) (by omega)
 unfold laws_szGNode.f
 rw [e]
 by_cases h : x - (a.f2.size : Int) < 0
 ·rw [if_pos h]
  exact ⟨-1, by omega, by omega, by omega, rfl⟩
 ·rw [if_neg h]
  obtain ⟨r, p, q, c, d⟩ := szNodeS_ev a.f4 w4.1 (x - (a.f2.size : Int)) (by omega) (by omega)
  rw [d, Option.bind_some]
  by_cases hr : r < 0
  ·rw [if_pos hr]
   exact ⟨-1, by omega, by omega, by omega, rfl⟩
  ·rw [if_neg hr]
   exact ⟨r, p, by omega, fun _ => ⟨by omega, c (by omega)⟩, rfl⟩
theorem szFlow_ev (a : S138) (hw : wf138 a) (x : Int) (h0 : 0 ≤ x) (h1 : x ≤ 1048576) : ∃ r, -1 ≤ r ∧ r ≤ x ∧ (0 ≤ r → bFlow a) ∧ laws_szFlow.f a.f0 a.f1 a.f2 x = some r := by
 obtain ⟨w0, w1, w2⟩ := hw
 unfold laws_szFlow.f
 obtain ⟨r, p, q, c, d⟩ := szNodeS_ev a.f2 w2.1 x h0 h1
 rw [d, Option.bind_some]
 by_cases hr : r < 0
 ·rw [if_pos hr]
  exact ⟨-1, by omega, by omega, by omega, rfl⟩
 ·rw [if_neg hr]
  exact ⟨r, p, by omega, fun _ => c (by omega), rfl⟩
theorem szGNodeS_ev (l : List S135) (hl : l.length ≤ 9223372036854775807) (hw : ∀ y ∈ l, wf135 y) (x : Int) (h0 : 0 ≤ x) (h1 : x ≤ 1048576) : ∃ r, -1 ≤ r ∧ r ≤ x ∧ (0 ≤ r → l.length ≤ 1048576 ∧ ∀ y ∈ l, bGNode y) ∧ Ev (fun k => laws_szGNodeS.f k l x) r := by
 have e : wrap64 (x - (l.length : Int)) = x - (l.length : Int) := Pl.wrap_in (by omega) (by omega)
 unfold laws_szGNodeS.f
 rw [e]
 by_cases h : x - (l.length : Int) < 0
 ·simp only [if_pos h]
  exact ⟨-1, by omega, by omega, by omega, Ev.now _⟩
 ·simp only [if_neg h]
  obtain ⟨r, a, b, c, d⟩ := Pl.left (l := l) (B := bGNode) (g := fun k i x => laws_szGNodeS.l0 k l x i) (fun x => by
   refine Ev.step (fun k => by rw [laws_szGNodeS.l0]) ?_
   simp [Pl.ev_some]) (fun i hi x h0 h1 => by
   obtain ⟨r, a, b, c, d⟩ := szGNode_ev l[i] (hw _ (List.getElem_mem hi)) x h0 h1
   refine ⟨r, a, b, c, fun hr => ?_, fun hr R hR => ?_⟩
   ·refine Ev.step (fun k => by rw [laws_szGNodeS.l0]) ?_
    simp only [Pl.ev_ite, rd_lGNode l i hi, d, Option.bind_some, if_pos hr]
    rw [if_pos (by omega), if_pos (by omega)]
    exact Ev.now _
   ·refine Ev.step (fun k => by rw [laws_szGNodeS.l0]) ?_
    simp only [Pl.ev_ite, rd_lGNode l i hi, d, Option.bind_some, if_neg (show ¬ r < 0 by omega), Pl.wrap_nat (show i < 9223372036854775807 by omega)]
    rw [if_pos (by omega), if_pos (by omega)]
    exact hR) (x - (l.length : Int)) (by omega) (by omega)
  exact ⟨r, a, by omega, fun hr => ⟨by omega, c hr⟩, d⟩
theorem szFlowS_ev (l : List S138) (hl : l.length ≤ 9223372036854775807) (hw : ∀ y ∈ l, wf138 y) (x : Int) (h0 : 0 ≤ x) (h1 : x ≤ 1048576) : ∃ r, -1 ≤ r ∧ r ≤ x ∧ (0 ≤ r → l.length ≤ 1048576 ∧ ∀ y ∈ l, bFlow y) ∧ Ev (fun k => laws_szFlowS.f k l x) r := by
 have e : wrap64 (x - (l.length : Int)) = x - (l.length : Int) := Pl.wrap_in (by omega) (by omega)
 unfold laws_szFlowS.f
 rw [e]
 by_cases h : x - (l.length : Int) < 0
 ·simp only [if_pos h]
  exact ⟨-1, by omega, by omega, by omega, Ev.now _⟩
 ·simp only [if_neg h]
  obtain ⟨r, a, b, c, d⟩ := Pl.left (l := l) (B := bFlow) (g := fun k i x => laws_szFlowS.l0 k l x i) (fun x => by
   refine Ev.step (fun k => by rw [laws_szFlowS.l0]) ?_
   simp [Pl.ev_some]) (fun i hi x h0 h1 => by
   obtain ⟨r, a, b, c, d⟩ := szFlow_ev l[i] (hw _ (List.getElem_mem hi)) x h0 h1
   refine ⟨r, a, b, c, fun hr => ?_, fun hr R hR => ?_⟩
   ·refine Ev.step (fun k => by rw [laws_szFlowS.l0]) ?_
    simp only [Pl.ev_ite, rd_lFlow l i hi, d, Option.bind_some, if_pos hr]
    rw [if_pos (by omega), if_pos (by omega)]
    exact Ev.now _
   ·refine Ev.step (fun k => by rw [laws_szFlowS.l0]) ?_
    simp only [Pl.ev_ite, rd_lFlow l i hi, d, Option.bind_some, if_neg (show ¬ r < 0 by omega), Pl.wrap_nat (show i < 9223372036854775807 by omega)]
    rw [if_pos (by omega), if_pos (by omega)]
    exact hR) (x - (l.length : Int)) (by omega) (by omega)
  exact ⟨r, a, by omega, fun hr => ⟨by omega, c hr⟩, d⟩
def bGraph (a : S49) : Prop := (a.f0.length ≤ 1048576 ∧ ∀ y ∈ a.f0, bGNode y) ∧ a.f1.length ≤ 1048576 ∧ ∀ y ∈ a.f1, bFlow y
theorem szGraph_ev (a : S49) (hw : wf49 a) (x : Int) (h0 : 0 ≤ x) (h1 : x ≤ 1048576) : ∃ r, -1 ≤ r ∧ r ≤ x ∧ (0 ≤ r → bGraph a) ∧ Ev (fun k => laws_szGraph.f k a.f0 a.f1 x) r := by
 unfold laws_szGraph.f
 obtain ⟨w0, w1⟩ := hw
 obtain ⟨r, p, q, c, d⟩ := szGNodeS_ev a.f0 w0.1 w0.2 x h0 h1
 by_cases hr : r < 0
 ·exact ⟨-1, by omega, by omega, by omega, Pl.ev_bind' d (by simp only [if_pos hr]; exact Ev.now _)⟩
 ·obtain ⟨r', p', q', c', d'⟩ := szFlowS_ev a.f1 w1.1 w1.2 r (by omega) (by omega)
  by_cases hr' : r' < 0
  ·exact ⟨-1, by omega, by omega, by omega, Pl.ev_bind' d (by simp only [if_neg hr]; exact Pl.ev_bind' d' (by simp only [if_pos hr']; exact Ev.now _))⟩
  ·exact ⟨r', p', by omega, fun _ => ⟨c (by omega), c' (by omega)⟩, Pl.ev_bind' d (by simp only [if_neg hr]; exact Pl.ev_bind' d' (by simp only [if_neg hr']; exact Ev.now _))⟩
theorem toGNodeS_ev (l : List S135) (hl : l.length ≤ 1048576) (hb : ∀ y ∈ l, bGNode y) : Ev (fun k => laws_toGNodeS.f k l) (l.map toGNode) := by
 unfold laws_toGNodeS.f
 simp only [Pl.ev_ite]
 rw [if_pos (by omega), if_pos (by simp; omega)]
 rw [show ((l.length : Int) : Int).toNat = l.length from by omega]
 refine Pl.fill (g := fun k i acc => laws_toGNodeS.l0 k l acc i) (fun acc _ => ?_) (fun i hi acc ha ih => ?_)
 ·refine Ev.step (fun k => by rw [laws_toGNodeS.l0]) ?_
  simp [Pl.ev_some]
 ·refine Ev.step (fun k => by rw [laws_toGNodeS.l0]) ?_
  simp only [Pl.ev_ite, Pl.ev_some, Pl.ev_none, rd_lGNode l i hi, Pl.wrap_nat (show i < 9223372036854775807 by omega), Int.toNat_natCast]
  rw [if_pos (by omega), if_pos (by omega)]
  obtain ⟨b1, b2⟩ := hb _ (List.getElem_mem hi)
  refine Pl.ev_bind' (a := (l[i].f0, l[i].f1, l[i].f2, l[i].f3, l[i].f4.map toNode)) (Pl.ev_bind' (toNodeS_ev l[i].f4 b2) (Ev.now _)) ?_
  simp only [Pl.ev_ite]
  rw [if_pos (by omega)]
  exact ih
theorem toFlowS_ev (l : List S138) (hl : l.length ≤ 1048576) (hb : ∀ y ∈ l, bFlow y) : Ev (fun k => laws_toFlowS.f k l) (l.map toFlow) := by
 unfold laws_toFlowS.f
 simp only [Pl.ev_ite]
 rw [if_pos (by omega), if_pos (by simp; omega)]
 rw [show ((l.length : Int) : Int).toNat = l.length from by omega]
 refine Pl.fill (g := fun k i acc => laws_toFlowS.l0 k l acc i) (fun acc _ => ?_) (fun i hi acc ha ih => ?_)
 ·refine Ev.step (fun k => by rw [laws_toFlowS.l0]) ?_
  simp [Pl.ev_some]
 ·refine Ev.step (fun k => by rw [laws_toFlowS.l0]) ?_
  simp only [Pl.ev_ite, Pl.ev_some, Pl.ev_none, rd_lFlow l i hi, Pl.wrap_nat (show i < 9223372036854775807 by omega), Int.toNat_natCast]
  rw [if_pos (by omega), if_pos (by omega)]
  have b2 := hb _ (List.getElem_mem hi)
  refine Pl.ev_bind' (a := (l[i].f0, l[i].f1, l[i].f2.map toNode)) (Pl.ev_bind' (toNodeS_ev l[i].f2 b2) (Ev.now _)) ?_
  simp only [Pl.ev_ite]
  rw [if_pos (by omega)]
  exact ih
theorem toGraph_ev (a : S49) (hb : bGraph a) : Ev (fun k => laws_toGraph.f k a.f0 a.f1) (a.f0.map toGNode, a.f1.map toFlow) := by
 unfold laws_toGraph.f
 obtain ⟨⟨h1, h2⟩, h3, h4⟩ := hb
 exact Pl.ev_bind' (toGNodeS_ev _ h1 h2) (Pl.ev_bind' (toFlowS_ev _ h3 h4) (Ev.now _))
def cG (g : List S94) : Prop := g.length ≤ 1048576 ∧ ∀ y ∈ g, y.f2.size ≤ 1048576 ∧ y.f4.length ≤ 1048576
def cF (f : List S97) : Prop := f.length ≤ 1048576 ∧ ∀ y ∈ f, y.f2.length ≤ 1048576
theorem cG_to (a : S49) (hb : bGraph a) : cG (a.f0.map toGNode) := by
 refine ⟨by simpa using hb.1.1, fun y hy => ?_⟩
 obtain ⟨x, hx, rfl⟩ := List.mem_map.1 hy
 have := hb.1.2 x hx
 exact ⟨this.1, by simpa [toGNode] using this.2⟩
theorem cF_to (a : S49) (hb : bGraph a) : cF (a.f1.map toFlow) := by
 refine ⟨by simpa using hb.2.1, fun y hy => ?_⟩
 obtain ⟨x, hx, rfl⟩ := List.mem_map.1 hy
 have : x.f2.length ≤ 1048576 := hb.2.2 x hx
 simpa [toFlow] using this
theorem eqGNodeS_ev (l : List S94) (hc : cG l) : Ev (fun k => laws_eqGNodeS.f k l l) true := by
 obtain ⟨hl, hb⟩ := hc
 unfold laws_eqGNodeS.f
 simp only [if_true]
 refine Pl.loop0 (n := l.length) (g := fun k i => laws_eqGNodeS.l0 k l l i) (F := fun _ => true) ?_ (fun i hi ih => ?_) 0 (Nat.zero_le _)
 ·refine Ev.step (fun k => by rw [laws_eqGNodeS.l0]) ?_
  simp [Pl.ev_some]
 ·refine Ev.step (fun k => by rw [laws_eqGNodeS.l0]) ?_
  simp only [Pl.ev_ite, Pl.ev_some, Pl.ev_none, laws_eqGNode.f, if_true, rd_iGNode l i hi, Pl.wrap_nat (show i < 9223372036854775807 by omega)]
  rw [if_pos (by omega), if_pos (by omega), if_pos (by omega)]
  have b := (hb _ (List.getElem_mem hi)).2
  refine Pl.ev_bind' (a := true) (Pl.ev_bind' (eqNodeS_ev l[i].f4 b) (by simp [Pl.ev_some])) ?_
  simp only [if_true]
  exact ih
theorem eqFlowS_ev (l : List S97) (hc : cF l) : Ev (fun k => laws_eqFlowS.f k l l) true := by
 obtain ⟨hl, hb⟩ := hc
 unfold laws_eqFlowS.f
 simp only [if_true]
 refine Pl.loop0 (n := l.length) (g := fun k i => laws_eqFlowS.l0 k l l i) (F := fun _ => true) ?_ (fun i hi ih => ?_) 0 (Nat.zero_le _)
 ·refine Ev.step (fun k => by rw [laws_eqFlowS.l0]) ?_
  simp [Pl.ev_some]
 ·refine Ev.step (fun k => by rw [laws_eqFlowS.l0]) ?_
  simp only [Pl.ev_ite, Pl.ev_some, Pl.ev_none, laws_eqFlow.f, if_true, rd_iFlow l i hi, Pl.wrap_nat (show i < 9223372036854775807 by omega)]
  rw [if_pos (by omega), if_pos (by omega), if_pos (by omega)]
  have b := hb _ (List.getElem_mem hi)
  refine Pl.ev_bind' (a := true) (Pl.ev_bind' (eqNodeS_ev l[i].f2 b) (by simp [Pl.ev_some])) ?_
  simp only [if_true]
  exact ih
theorem eqGraph_ev (g : List S94) (f : List S97) (hg : cG g) (hf : cF f) : Ev (fun k => laws_eqGraph.f k g f g f) true := by
 unfold laws_eqGraph.f
 refine Pl.ev_bind' (eqGNodeS_ev g hg) ?_
 simp only [if_true]
 exact Pl.ev_bind' (eqFlowS_ev f hf) (by simp only [if_true]; exact Ev.now _)
abbrev GN := S94
abbrev FL := S97
def bareC (x : GN) : Prop := (x.f0 = 3 ∨ x.f2.toList = []) ∧ ((x.f0 = 4 ∨ x.f0 = 5 ∨ x.f0 = 6 ∨ x.f0 = 11) ∨ x.f3 = 0) ∧ (x.f0 = 6 ∨ x.f4.length = 0) ∧ (x.f0 = 1 ∨ x.f0 = 2 → x.f1 = 0)
instance (x : GN) : Decidable (bareC x) := by unfold bareC; infer_instance
def gnC (x : GN) : Int :=
 if (1 ≤ x.f0 ∧ x.f0 ≤ 13) ∧ bareC x then
  (if (0 ≤ x.f1 ∧ x.f1 ≤ 23) ∧ (0 ≤ x.f3 ∧ x.f3 ≤ 99) then (if 16 < x.f4.length then 2 else if x.f0 = 3 then Pl.nameC x.f2.data.toList else 0) else 3)
 else 1
def flC (n : Nat) (fl : List FL) (i : Nat) (x : FL) : Int :=
 if (0 ≤ x.f0 ∧ x.f0 ≤ (n : Int) - 1) ∧ (0 ≤ x.f1 ∧ x.f1 ≤ (n : Int) - 1) then (if 16 < x.f2.length then 2 else if 0 < i ∧ x.f0 < (rd_T97 fl ((i - 1 : Nat) : Int)).f0 then 1 else 0) else 3
def codesC {α : Type} (c : Nat → α → Int) : Nat → List α → Int
 | _, [] => 0
 | i, x :: l => if c i x = 0 then codesC c (i + 1) l else c i x
def grC (g : List GN) (f : List FL) : Int :=
 if (2 ≤ g.length ∧ g.length ≤ 60) ∧ f.length ≤ 80 then (if codesC (fun _ => gnC) 0 g = 0 then codesC (flC g.length f) 0 f else codesC (fun _ => gnC) 0 g) else 2
theorem rd_oneG (x : S55) : rd_T55 [x] 0 = x := rfl
theorem rd_oneN (x : GN) : rd_T94 [x] 0 = x := rfl
theorem bare_eq (x : GN) : spec_l6Bare.f x = some (decide (bareC x)) := by
 unfold spec_l6Bare.f
 rw [rd_oneN]
 simp only [l1In_eq, Option.bind_some]
 obtain ⟨K, S, N, G, E⟩ := x
 unfold bareC
 simp only
 by_cases h1 : K = 1
 ·subst h1
  by_cases hN : N.toList = [] <;> by_cases hG : G = 0 <;> by_cases hE : E.length = 0 <;> by_cases hS : S = 0 <;> simp [hN, hG, hE, hS]
 by_cases h2 : K = 2
 ·subst h2
  by_cases hN : N.toList = [] <;> by_cases hG : G = 0 <;> by_cases hE : E.length = 0 <;> by_cases hS : S = 0 <;> simp [hN, hG, hE, hS]
 by_cases h3 : K = 3
 ·subst h3
  by_cases hG : G = 0 <;> by_cases hE : E.length = 0 <;> simp [hG, hE]
 by_cases h4 : K = 4
 ·subst h4
  by_cases hN : N.toList = [] <;> by_cases hE : E.length = 0 <;> simp [hN, hE]
 by_cases h5 : K = 5
 ·subst h5
  by_cases hN : N.toList = [] <;> by_cases hE : E.length = 0 <;> simp [hN, hE]
 by_cases h6 : K = 6
 ·subst h6
  by_cases hN : N.toList = [] <;> simp [hN]
 by_cases h11 : K = 11
 ·subst h11
  by_cases hN : N.toList = [] <;> by_cases hE : E.length = 0 <;> simp [hN, hE]
 have h46 : ¬ (4 ≤ K ∧ K ≤ 6) := by omega
 by_cases hN : N.toList = [] <;> by_cases hG : G = 0 <;> by_cases hE : E.length = 0 <;> simp [h1, h2, h3, h4, h5, h6, h11, h46, hN, hG, hE]
theorem implN_ev (x : GN) (h2 : x.f2.size ≤ 1048576) : Ev (fun k => impl_gnodeFault.f k x.f0 x.f1 x.f2 x.f3 x.f4) (gnC x) := by
 obtain ⟨K, S, N, G, E⟩ := x
 simp only at h2 ⊢
 have hname := impl_name (s := N) rfl (by rw [Pl.size_toList]; omega)
 have j1 : ∀ b c : Bool, (c = true ↔ ¬ bareC ⟨K, S, N, G, E⟩) → Ev (fun k => impl_gnodeFault.j1 k b c K S N G E) (gnC ⟨K, S, N, G, E⟩) := by
  intro b c hc
  refine Ev.step (fun k => by rw [impl_gnodeFault.j1]) ?_
  simp only [inRange_eq, codeIf_eq, Option.bind_some, Pl.ev_ite, decide_eq_true_eq]
  have j2 : ∀ v : Int, gnC ⟨K, S, N, G, E⟩ = (if v = 0 then (if K = 3 then Pl.nameC N.data.toList else 0) else v) → Ev (fun k => impl_gnodeFault.j2 k b c v K S N G E) (gnC ⟨K, S, N, G, E⟩) := by
   intro v hv
   rw [hv]
   refine Ev.step (fun k => by rw [impl_gnodeFault.j2]) ?_
   simp only [Pl.ev_ite, Pl.ev_some]
   by_cases hv0 : v = 0
   ·rw [if_pos hv0, if_pos hv0]
    by_cases h3 : K = 3
    ·rw [if_pos h3, if_pos h3]
     exact Pl.ev_bind' hname (Ev.now _)
    ·rw [if_neg h3, if_neg h3]
   ·rw [if_neg hv0, if_neg hv0]
  unfold gnC at j2 ⊢
  simp only at j2 ⊢
  by_cases hK : 1 ≤ K ∧ K ≤ 13
  ·rw [if_pos hK]
   by_cases hS : 0 ≤ S ∧ S ≤ 23
   ·rw [if_pos hS]
    refine Pl.ev_bind' (firstCode_ev _ (by simp)) (j2 _ ?_)
    by_cases hB : bareC ⟨K, S, N, G, E⟩
    ·have e : c = false := by
      cases hcc : c
      ·rfl
      ·exact absurd hB (hc.1 hcc)
     rw [if_pos ⟨hK, hB⟩, e]
     by_cases hG : 0 ≤ G ∧ G ≤ 99
     ·rw [if_pos ⟨hS, hG⟩]
      by_cases hE : 16 < E.length
      ·have : (E.length : Int) > 16 := by omega
       simp [Pl.firstC, hG, hE, this]
      ·have : ¬ ((E.length : Int) > 16) := by omega
       simp [Pl.firstC, hG, hE, this]
     ·rw [if_neg (fun h => hG h.2)]
      simp [Pl.firstC, hG]
    ·rw [if_neg (fun h => hB h.2), hc.2 hB]
     simp [Pl.firstC]
   ·rw [if_neg hS]
    refine Pl.ev_bind' (firstCode_ev _ (by simp)) (j2 _ ?_)
    by_cases hB : bareC ⟨K, S, N, G, E⟩
    ·have e : c = false := by
      cases hcc : c
      ·rfl
      ·exact absurd hB (hc.1 hcc)
     rw [if_pos ⟨hK, hB⟩, e, if_neg (fun h => hS h.1)]
     simp [Pl.firstC]
    ·rw [if_neg (fun h => hB h.2), hc.2 hB]
     simp [Pl.firstC]
  ·rw [if_neg hK]
   have e1 : (if (1 ≤ K ∧ K ≤ 13) ∧ bareC ⟨K, S, N, G, E⟩ then (if (0 ≤ S ∧ S ≤ 23) ∧ (0 ≤ G ∧ G ≤ 99) then (if 16 < E.length then 2 else if K = 3 then Pl.nameC N.data.toList else 0) else 3) else 1) = (1 : Int) := if_neg (fun h => hK h.1)
   by_cases hS : 0 ≤ S ∧ S ≤ 23
   ·rw [if_pos hS]
    refine Pl.ev_bind' (firstCode_ev _ (by simp)) (j2 _ ?_)
    rw [e1]
    simp [Pl.firstC]
   ·rw [if_neg hS]
    refine Pl.ev_bind' (firstCode_ev _ (by simp)) (j2 _ ?_)
    rw [e1]
    simp [Pl.firstC]
 have j0 : ∀ b : Bool, (b = true ↔ (K = 4 ∨ K = 5 ∨ K = 6 ∨ K = 11)) → Ev (fun k => impl_gnodeFault.j0 k b K S N G E) (gnC ⟨K, S, N, G, E⟩) := by
  intro b hb
  refine Ev.step (fun k => by rw [impl_gnodeFault.j0]) ?_
  simp only [Pl.ev_ite]
  unfold bareC at j1
  simp only at j1
  repeat' split
  all_goals (refine j1 _ _ ?_; clear j1 hname; first | (simp_all; done) | (simp_all; omega) | (simp_all; intro he; subst he; simp_all))
 unfold impl_gnodeFault.f
 simp only [Pl.ev_ite]
 repeat' split
 all_goals (refine j0 _ ?_; simp_all)
theorem codes_ev {α : Type} {l : List α} {c : Nat → α → Int} {d : Int} {g : Nat → Int → Option Int} (hend : Ev (fun k => g k (l.length : Int)) d)
  (hstep : ∀ i (hi : i < l.length), ∀ R, (c i l[i] = 0 → Ev (fun k => g k ((i : Int) + 1)) R) → (c i l[i] ≠ 0 → R = c i l[i]) → Ev (fun k => g k (i : Int)) R) :
  Ev (fun k => g k 0) (if codesC c 0 l = 0 then d else codesC c 0 l) := by
 have := Pl.loop0 (n := l.length) (g := g) (F := fun i => if codesC c i (l.drop i) = 0 then d else codesC c i (l.drop i)) ?_ (fun i hi ih => ?_) 0 (Nat.zero_le _)
 ·simpa using this
 ·rw [List.drop_length]
  simpa [codesC] using hend
 ·rw [Pl.drop_get hi]
  unfold codesC
  refine hstep i hi _ (fun h0 => ?_) (fun h0 => ?_)
  ·simp only [h0, if_true]
   exact ih
  ·simp only [if_neg h0]
theorem implGraph_ev (g : List GN) (f : List FL) (hg : cG g) (hf : cF f) : Ev (fun k => impl_GraphFault.f k g f) (grC g f) := by
 obtain ⟨hgl, hgb⟩ := hg
 obtain ⟨hfl, hfb⟩ := hf
 have flows : Ev (fun k => impl_GraphFault.l1 k f (f.length : Int) 0 g f) (if codesC (flC g.length f) 0 f = 0 then 0 else codesC (flC g.length f) 0 f) := by
  refine codes_ev (g := fun k i => impl_GraphFault.l1 k f (f.length : Int) i g f) ?_ (fun i hi R h1 h2 => ?_)
  ·refine Ev.step (fun k => by rw [impl_GraphFault.l1]) ?_
   simp [Pl.ev_some]
  ·refine Ev.step (fun k => by rw [impl_GraphFault.l1]) ?_
   have ew : wrap64 ((g.length : Int) - 1) = (g.length : Int) - 1 := Pl.wrap_in (by omega) (by omega)
   simp only [Pl.ev_ite, Pl.ev_none, rd_iFlow f i hi, impl_isPlace.f, inRange_eq, ew, Option.bind_some, decide_eq_true_eq]
   rw [if_pos (by omega), if_pos (by omega), if_pos (by omega)]
   have j3 : ∀ b : Bool, (b = true ↔ (0 ≤ f[i].f0 ∧ f[i].f0 ≤ (g.length : Int) - 1) ∧ (0 ≤ f[i].f1 ∧ f[i].f1 ≤ (g.length : Int) - 1)) → Ev (fun k => impl_GraphFault.j3 k (i : Int) b f (f.length : Int) (i : Int) g f f[i].f0 f[i].f1 f[i].f2) R := by
    intro b hb
    have fin : ∀ lt : Bool, (lt = true ↔ 0 < i ∧ f[i].f0 < (rd_T97 f ((i - 1 : Nat) : Int)).f0) → Ev (fun k => (impl_firstCode.f k ([if (!b) = true then 3 else 0, if decide ((f[i].f2.length : Int) > 16) = true then 2 else 0, if lt = true then 1 else 0] : List Int)).bind fun t => if t = 0 then impl_GraphFault.l1 k f (f.length : Int) ((i : Int) + 1) g f else some t) R := by
     intro lt hlt
     have e : Pl.firstC [if (!b) = true then 3 else 0, if decide ((f[i].f2.length : Int) > 16) = true then 2 else 0, if lt = true then 1 else 0] = flC g.length f i f[i] := by
      unfold flC
      by_cases hp : (0 ≤ f[i].f0 ∧ f[i].f0 ≤ (g.length : Int) - 1) ∧ (0 ≤ f[i].f1 ∧ f[i].f1 ≤ (g.length : Int) - 1)
      ·rw [if_pos hp, hb.2 hp]
       by_cases hE : 16 < f[i].f2.length
       ·rw [if_pos hE]
        have : (f[i].f2.length : Int) > 16 := by omega
        simp [Pl.firstC, this]
       ·rw [if_neg hE]
        have : ¬ ((f[i].f2.length : Int) > 16) := by omega
        by_cases hl : 0 < i ∧ f[i].f0 < (rd_T97 f ((i - 1 : Nat) : Int)).f0
        ·rw [if_pos hl, hlt.2 hl]; simp [Pl.firstC, this]
        ·rw [if_neg hl]
         have : lt = false := by
          cases hx : lt
          ·rfl
          ·exact absurd (hlt.1 hx) hl
         rw [this]; simp [Pl.firstC, *]
      ·rw [if_neg hp]
       have : b = false := by
        cases hx : b
        ·rfl
        ·exact absurd (hb.1 hx) hp
       rw [this]; simp [Pl.firstC]
     refine Pl.ev_bind' (Pl.ev_to (firstCode_ev _ (by simp)) e) ?_
     simp only [Pl.ev_ite, Pl.ev_some]
     by_cases h0 : flC g.length f i f[i] = 0
     ·rw [if_pos h0]; exact h1 h0
     ·rw [if_neg h0]; exact (h2 h0).symm
    refine Ev.step (fun k => by rw [impl_GraphFault.j3]) ?_
    simp only [codeIf_eq, Option.bind_some, Pl.ev_ite, Pl.ev_none, Pl.wrap_nat (show i < 9223372036854775807 by omega)]
    by_cases hi0 : 0 < i
    ·have ei : wrap64 ((i : Int) - 1) = ((i - 1 : Nat) : Int) := by rw [Pl.wrap_in (by omega) (by omega)]; omega
     rw [if_pos (by omega), ei, if_pos (by omega), if_pos (by omega)]
     exact fin _ (by rw [decide_eq_true_eq]; exact ⟨fun h => ⟨hi0, h⟩, fun h => h.2⟩)
    ·rw [if_neg (by omega)]
     exact fin false (by simp; omega)
   split
   ·rename_i hp; exact j3 _ (by rw [decide_eq_true_eq]; exact ⟨fun h => ⟨hp, h⟩, fun h => h.2⟩)
   ·rename_i hp; exact j3 _ (by simp only [Bool.false_eq_true, false_iff]; exact fun h => hp h.1)
 have nodes : Ev (fun k => impl_GraphFault.l0 k g (g.length : Int) 0 g f) (if codesC (fun _ => gnC) 0 g = 0 then codesC (flC g.length f) 0 f else codesC (fun _ => gnC) 0 g) := by
  refine codes_ev (c := fun _ => gnC) (g := fun k i => impl_GraphFault.l0 k g (g.length : Int) i g f) ?_ (fun i hi R h1 h2 => ?_)
  ·refine Ev.step (fun k => by rw [impl_GraphFault.l0]) ?_
   simp only [Pl.ev_ite]
   rw [if_neg (by omega)]
   refine Pl.ev_to flows ?_
   split
   ·rename_i h; exact h.symm
   ·rfl
  ·refine Ev.step (fun k => by rw [impl_GraphFault.l0]) ?_
   simp only [Pl.ev_ite, Pl.ev_none, rd_iGNode g i hi, Pl.wrap_nat (show i < 9223372036854775807 by omega)]
   rw [if_pos (by omega), if_pos (by omega), if_pos (by omega)]
   refine Pl.ev_bind' (implN_ev g[i] (hgb _ (List.getElem_mem hi)).1) ?_
   simp only [Pl.ev_ite, Pl.ev_some]
   by_cases h0 : gnC g[i] = 0
   ·rw [if_pos h0]; exact h1 h0
   ·rw [if_neg h0]; exact (h2 h0).symm
 unfold impl_GraphFault.f
 have j0 : ∀ b : Bool, (b = true ↔ ¬ ((2 ≤ g.length ∧ g.length ≤ 60) ∧ f.length ≤ 80)) → Ev (fun k => impl_GraphFault.j0 k b g f) (grC g f) := by
  intro b hb
  refine Ev.step (fun k => by rw [impl_GraphFault.j0]) ?_
  unfold grC
  simp only [Pl.ev_ite, Pl.ev_some]
  by_cases h : (2 ≤ g.length ∧ g.length ≤ 60) ∧ f.length ≤ 80
  ·rw [if_neg (fun hx => (hb.1 hx) h), if_pos h]; exact nodes
  ·rw [if_pos (hb.2 h), if_neg h]
 simp only [inRange_eq, Option.bind_some, Pl.ev_ite, decide_eq_true_eq]
 split
 ·rename_i h; exact j0 _ (by simp; omega)
 ·rename_i h; exact j0 _ (by simp; omega)
theorem specG6_ev (g : List GN) (f : List FL) (hg : cG g) (hf : cF f) : Ev (fun k => spec_l6Fault.f k (⟨g, f⟩ : S55)) (grC g f) := by
 obtain ⟨hgl, hgb⟩ := hg
 obtain ⟨hfl, hfb⟩ := hf
 have flows : (2 ≤ g.length ∧ g.length ≤ 60) → Ev (fun k => spec_l6Fault.l1 k ⟨g, f⟩ 0) (if codesC (flC g.length f) 0 f = 0 then 0 else codesC (flC g.length f) 0 f) := by
  intro _
  refine codes_ev (g := fun k i => spec_l6Fault.l1 k ⟨g, f⟩ i) ?_ (fun i hi R h1 h2 => ?_)
  ·refine Ev.step (fun k => by rw [spec_l6Fault.l1, rd_oneG]) ?_
   simp [Pl.ev_some]
  ·refine Ev.step (fun k => by rw [spec_l6Fault.l1, rd_oneG]) ?_
   have ew : wrap64 ((g.length : Int) - 1) = (g.length : Int) - 1 := Pl.wrap_in (by omega) (by omega)
   simp only [Pl.ev_ite, Pl.ev_none, rd_iFlow f i hi, l1In_eq, ew, Option.bind_some, decide_eq_true_eq]
   rw [if_pos (by omega), if_pos (by omega)]
   have j5 : ∀ b : Bool, (b = true ↔ ¬ ((0 ≤ f[i].f0 ∧ f[i].f0 ≤ (g.length : Int) - 1) ∧ (0 ≤ f[i].f1 ∧ f[i].f1 ≤ (g.length : Int) - 1))) → Ev (fun k => spec_l6Fault.j5 k ⟨g, f⟩ (i : Int) f b) R := by
    intro b hb
    refine Ev.step (fun k => by rw [spec_l6Fault.j5, rd_oneG]) ?_
    simp only [Pl.ev_ite, Pl.ev_none, Pl.ev_some, rd_iFlow f i hi, Pl.wrap_nat (show i < 9223372036854775807 by omega)]
    unfold flC at h1 h2
    by_cases hp : (0 ≤ f[i].f0 ∧ f[i].f0 ≤ (g.length : Int) - 1) ∧ (0 ≤ f[i].f1 ∧ f[i].f1 ≤ (g.length : Int) - 1)
    ·rw [if_pos hp] at h1 h2
     rw [if_neg (fun hx => (hb.1 hx) hp), if_pos (by omega), if_pos (by omega)]
     by_cases hE : 16 < f[i].f2.length
     ·rw [if_pos hE] at h1 h2
      rw [if_pos (by omega)]; exact (h2 (by omega)).symm
     ·rw [if_neg hE] at h1 h2
      rw [if_neg (by omega)]
      by_cases hi0 : 0 < i
      ·have ei : wrap64 ((i : Int) - 1) = ((i - 1 : Nat) : Int) := by rw [Pl.wrap_in (by omega) (by omega)]; omega
       rw [if_pos (by omega), ei, if_pos (by omega), if_pos (by omega)]
       by_cases hl : f[i].f0 < (rd_T97 f ((i - 1 : Nat) : Int)).f0
       ·rw [if_pos ⟨hi0, hl⟩] at h1 h2
        rw [if_pos hl]; exact (h2 (by omega)).symm
       ·rw [if_neg (fun h => hl h.2)] at h1 h2
        rw [if_neg hl]; exact h1 rfl
      ·rw [if_neg (fun h => hi0 h.1)] at h1 h2
       rw [if_neg (by omega)]; exact h1 rfl
    ·rw [if_neg hp] at h1 h2
     rw [if_pos (hb.2 hp)]; exact (h2 (by omega)).symm
   split
   ·rename_i hp; exact j5 _ (by simp only [Bool.not_eq_true', decide_eq_false_iff_not]; exact ⟨fun h hx => h hx.2, fun h hx => h ⟨hp, hx⟩⟩)
   ·rename_i hp; exact j5 _ (by simp only [true_iff]; exact fun h => hp h.1)
 have nodes : (2 ≤ g.length ∧ g.length ≤ 60) → Ev (fun k => spec_l6Fault.l0 k ⟨g, f⟩ 0) (if codesC (fun _ => gnC) 0 g = 0 then codesC (flC g.length f) 0 f else codesC (fun _ => gnC) 0 g) := by
  intro hlen
  refine codes_ev (c := fun _ => gnC) (g := fun k i => spec_l6Fault.l0 k ⟨g, f⟩ i) ?_ (fun i hi R h1 h2 => ?_)
  ·refine Ev.step (fun k => by rw [spec_l6Fault.l0, rd_oneG]) ?_
   simp only [Pl.ev_ite]
   rw [if_neg (by omega)]
   refine Pl.ev_to (flows hlen) ?_
   split
   ·rename_i h; exact h.symm
   ·rfl
  ·refine Ev.step (fun k => by rw [spec_l6Fault.l0, rd_oneG]) ?_
   simp only [Pl.ev_ite, Pl.ev_none, rd_iGNode g i hi, l1In_eq, bare_eq, Option.bind_some, decide_eq_true_eq]
   rw [if_pos (by omega), if_pos (by omega)]
   have hname := l1Name_ev (s := g[i].f2) rfl (by rw [Pl.size_toList]; have := (hgb _ (List.getElem_mem hi)).1; omega)
   have j3 : ∀ b : Bool, ((1 ≤ g[i].f0 ∧ g[i].f0 ≤ 13) ∧ bareC g[i]) → (b = true ↔ ¬ ((0 ≤ g[i].f1 ∧ g[i].f1 ≤ 23) ∧ (0 ≤ g[i].f3 ∧ g[i].f3 ≤ 99))) → Ev (fun k => spec_l6Fault.j3 k ⟨g, f⟩ (i : Int) g b) R := by
    intro b hA hb
    refine Ev.step (fun k => by rw [spec_l6Fault.j3]) ?_
    simp only [Pl.ev_ite, Pl.ev_none, Pl.ev_some, rd_iGNode g i hi, Pl.wrap_nat (show i < 9223372036854775807 by omega)]
    unfold gnC at h1 h2
    rw [if_pos hA] at h1 h2
    by_cases hp : (0 ≤ g[i].f1 ∧ g[i].f1 ≤ 23) ∧ (0 ≤ g[i].f3 ∧ g[i].f3 ≤ 99)
    ·rw [if_pos hp] at h1 h2
     rw [if_neg (fun hx => (hb.1 hx) hp), if_pos (by omega), if_pos (by omega)]
     by_cases hE : 16 < g[i].f4.length
     ·rw [if_pos hE] at h1 h2
      rw [if_pos (by omega)]; exact (h2 (by omega)).symm
     ·rw [if_neg hE] at h1 h2
      rw [if_neg (by omega)]
      by_cases h3 : g[i].f0 = 3
      ·rw [if_pos h3] at h1 h2
       rw [if_pos h3]
       refine Pl.ev_bind' hname ?_
       simp only [Pl.ev_ite, Pl.ev_some]
       by_cases h0 : Pl.nameC g[i].f2.data.toList = 0
       ·rw [if_pos h0]; exact h1 h0
       ·rw [if_neg h0]; exact (h2 h0).symm
      ·rw [if_neg h3] at h1 h2
       rw [if_neg h3]; exact h1 rfl
    ·rw [if_neg hp] at h1 h2
     rw [if_pos (hb.2 hp)]; exact (h2 (by omega)).symm
   have j2 : ∀ b : Bool, (b = true ↔ ¬ ((1 ≤ g[i].f0 ∧ g[i].f0 ≤ 13) ∧ bareC g[i])) → Ev (fun k => spec_l6Fault.j2 k ⟨g, f⟩ (i : Int) g b) R := by
    intro b hb
    refine Ev.step (fun k => by rw [spec_l6Fault.j2]) ?_
    simp only [Pl.ev_ite, Pl.ev_none, Pl.ev_some, rd_iGNode g i hi, l1In_eq, Option.bind_some, decide_eq_true_eq]
    by_cases hA : (1 ≤ g[i].f0 ∧ g[i].f0 ≤ 13) ∧ bareC g[i]
    ·rw [if_neg (fun hx => (hb.1 hx) hA), if_pos (by omega), if_pos (by omega)]
     split
     ·rename_i hp; exact j3 _ hA (by simp only [Bool.not_eq_true', decide_eq_false_iff_not]; exact ⟨fun h hx => h hx.2, fun h hx => h ⟨hp, hx⟩⟩)
     ·rename_i hp; exact j3 _ hA (by simp only [true_iff]; exact fun h => hp h.1)
    ·unfold gnC at h1 h2
     rw [if_neg hA] at h1 h2
     rw [if_pos (hb.2 hA)]; exact (h2 (by omega)).symm
   split
   ·rename_i hp; exact j2 _ (by simp only [Bool.not_eq_true', decide_eq_false_iff_not]; exact ⟨fun h hx => h hx.2, fun h hx => h ⟨hp, hx⟩⟩)
   ·rename_i hp; exact j2 _ (by simp only [true_iff]; exact fun h => hp h.1)
 have j0 : ∀ b : Bool, (b = true ↔ ¬ ((2 ≤ g.length ∧ g.length ≤ 60) ∧ f.length ≤ 80)) → Ev (fun k => spec_l6Fault.j0 k ⟨g, f⟩ b) (grC g f) := by
  intro b hb
  refine Ev.step (fun k => by rw [spec_l6Fault.j0]) ?_
  unfold grC
  simp only [Pl.ev_ite, Pl.ev_some]
  by_cases h : (2 ≤ g.length ∧ g.length ≤ 60) ∧ f.length ≤ 80
  ·rw [if_neg (fun hx => (hb.1 hx) h), if_pos h]; exact nodes h.1
  ·rw [if_pos (hb.2 h), if_neg h]
 unfold spec_l6Fault.f
 rw [rd_oneG]
 simp only [Pl.ev_ite]
 repeat' split
 all_goals (refine j0 _ ?_; simp; omega)
abbrev rdF (f : List FL) (j : Int) : FL := rd_T97 f j
def flowsC (f : List FL) (a : Int) (n : Nat) : List Int := ((List.range n).filter fun (j : Nat) => decide ((rdF f (j : Int)).f0 = a)).map fun (j : Nat) => (j : Int)
theorem flowsC_len (f : List FL) (a : Int) (n : Nat) : (flowsC f a n).length ≤ n := by
 unfold flowsC
 rw [List.length_map]
 have := List.length_filter_le (fun (j : Nat) => decide ((rdF f (j : Int)).f0 = a)) (List.range n)
 simpa using this
theorem flowsC_succ (f : List FL) (a : Int) (n : Nat) : flowsC f a (n + 1) = flowsC f a n ++ (if (rdF f (n : Int)).f0 = a then [(n : Int)] else []) := by
 unfold flowsC
 rw [List.range_succ, List.filter_append, List.map_append]
 congr 1
 by_cases h : (rdF f (n : Int)).f0 = a
 ·simp [h]
 ·simp [h]
theorem specFlows_ev (g : List GN) (f : List FL) (hf : f.length ≤ 1048576) (a : Int) : Ev (fun k => spec_l6From.f k (⟨g, f⟩ : S55) a) (flowsC f a f.length) := by
 unfold spec_l6From.f
 refine Pl.loop (σ := List Int) (n := f.length) (g := fun k i s => spec_l6From.l0 k (⟨g, f⟩ : S55) a s i) (F := fun _ _ => flowsC f a f.length) (fun i s => s = flowsC f a i) ?_ ?_ 0 [] (Nat.zero_le _) rfl
 ·intro s hs
  refine Ev.step (fun k => by rw [spec_l6From.l0, rd_oneG]) ?_
  rw [hs]
  exact Pl.ev_ite_neg (by simp) (Ev.now _)
 ·intro i s hi hs ih
  have e := flowsC_succ f a i
  have hle := flowsC_len f a i
  refine Ev.step (fun k => by rw [spec_l6From.l0, rd_oneG]) ?_
  rw [Pl.wrap_nat (show i < 9223372036854775807 by omega)]
  refine Pl.ev_ite_pos (show (i : Int) < (f.length : Int) by omega) (Pl.ev_ite_pos (by omega) ?_)
  by_cases h : (rdF f (i : Int)).f0 = a
  ·rw [if_pos h] at e
   exact Pl.ev_ite_pos h (Pl.ev_ite_pos (by rw [hs]; omega) (ih _ (by rw [hs, e])))
  ·rw [if_neg h, List.append_nil] at e
   exact Pl.ev_ite_neg h (ih _ (by rw [hs, e]))
theorem implFlows_ev (g : List GN) (f : List FL) (hf : f.length ≤ 1048576) (a : Int) : Ev (fun k => impl_Graph_flowsFrom.f k g f a) (flowsC f a f.length) := by
 unfold impl_Graph_flowsFrom.f impl_Graph_flows__impl_Graph_flowsFrom_1.f
 refine Pl.ev_bind' (a := flowsC f a f.length) ?_ (Ev.now _)
 refine Pl.loop (σ := List Int) (n := f.length) (g := fun k i s => impl_Graph_flows__impl_Graph_flowsFrom_1.l0 k s f (f.length : Int) i a) (F := fun _ _ => flowsC f a f.length) (fun i s => s = flowsC f a i) ?_ ?_ 0 [] (Nat.zero_le _) rfl
 ·intro s hs
  refine Ev.step (fun k => by rw [impl_Graph_flows__impl_Graph_flowsFrom_1.l0]) ?_
  rw [hs]
  exact Pl.ev_ite_neg (by omega) (Ev.now _)
 ·intro i s hi hs ih
  have e := flowsC_succ f a i
  have hle := flowsC_len f a i
  refine Ev.step (fun k => by rw [impl_Graph_flows__impl_Graph_flowsFrom_1.l0]) ?_
  rw [Pl.wrap_nat (show i < 9223372036854775807 by omega)]
  refine Pl.ev_ite_pos (by omega) (Pl.ev_ite_pos (by omega) (Pl.ev_ite_pos (by omega) ?_))
  refine Pl.ev_bind' (a := ((rdF f (i : Int)).f0 == a)) (Ev.now _) ?_
  by_cases h : (rdF f (i : Int)).f0 = a
  ·rw [if_pos h] at e
   exact Pl.ev_ite_pos (beq_iff_eq.2 h) (Pl.ev_ite_pos (by rw [hs]; omega) (ih _ (by rw [hs, e])))
  ·rw [if_neg h, List.append_nil] at e
   exact Pl.ev_ite_neg (by simpa using h) (ih _ (by rw [hs, e]))
def bs (l : List UInt8) : ByteArray := ⟨l.toArray⟩
theorem bs_data (l : List UInt8) : (bs l).data.toList = l := by simp [bs]
theorem bs_size (l : List UInt8) : (bs l).size = l.length := by rw [← Pl.size_toList, bs_data]
theorem bs_append (l m : List UInt8) : bs l ++ bs m = bs (l ++ m) := by
 have : (bs l ++ bs m).data.toList = (bs (l ++ m)).data.toList := by rw [ByteArray.data_append, bs_data]; simp [bs]
 generalize bs l ++ bs m = a at this
 generalize bs (l ++ m) = b at this
 obtain ⟨⟨x⟩⟩ := a
 obtain ⟨⟨y⟩⟩ := b
 simp at this
 rw [this]
theorem decDigits_le (n : Nat) : (Lib.decDigits n).length ≤ n + 1 := by
 induction n using Nat.strongRecOn with
 | _ n ih =>
  rw [Lib.decDigits]
  by_cases h : n < 10
  ·rw [dif_pos h]; simp
  ·rw [dif_neg h, List.length_append]
   have := ih (n / 10) (by omega)
   simp
   omega
theorem decDigits_4 (n : Nat) (h : n ≤ 9999) : (Lib.decDigits n).length ≤ 4 := by
 have e1 : ∀ n, n < 10 → (Lib.decDigits n).length ≤ 1 := fun n h => by rw [Lib.decDigits, dif_pos h]; simp
 have e2 : ∀ (k : Nat) (B : Nat), (∀ n, n < B → (Lib.decDigits n).length ≤ k) → ∀ n, n < 10 * B → (Lib.decDigits n).length ≤ k + 1 := by
  intro k B hB n hn
  rw [Lib.decDigits]
  by_cases h : n < 10
  ·rw [dif_pos h]; simp
  ·rw [dif_neg h, List.length_append]
   have := hB (n / 10) (by omega)
   simp
   omega
 exact e2 3 1000 (e2 2 100 (e2 1 10 e1)) n (by omega)
theorem dig_one (n : Nat) (h : n < 10) : strOfNums [(wrap64 (48 + (n : Int))) % 256] = bs [UInt8.ofNat (48 + n)] := by
 rw [Pl.wrap_in (by omega) (by omega)]
 unfold strOfNums bs
 simp only [List.map_cons, List.map_nil]
 have : ((48 + (n : Int)) % 256).toNat = 48 + n := by omega
 rw [this]
theorem decimal_eq (n : Nat) (h : n ≤ 1000000) : impl_decimal.f (n : Int) = some (bs (Lib.decDigits n)) := by
 first
 | (unfold impl_decimal.f; rw [if_pos ⟨by omega, by omega⟩])
 | (unfold impl_decimal.f strconv_FormatInt_90.f; rw [if_pos ⟨rfl, by omega, by omega⟩, Option.bind_some])
 unfold Lib.itoa bs
 rw [if_neg (by omega), Int.toNat_natCast]
theorem digits_ev (n : Nat) (h : n ≤ 1000000) : Ev (fun k => spec_l3Digits.f k (n : Int)) (bs (Lib.decDigits n)) := by
 induction n using Nat.strongRecOn with
 | _ n ih =>
  rw [Lib.decDigits]
  by_cases h10 : n < 10
  ·rw [dif_pos h10, ← dig_one n h10]
   exact Ev.step (fun k => by rw [spec_l3Digits.f]) (Pl.ev_ite_neg (by omega) (Pl.ev_ite_pos (by omega) (Ev.now _)))
  ·rw [dif_neg h10]
   have e : wrap64 (Int.tdiv (n : Int) 10) = ((n / 10 : Nat) : Int) := by
    rw [Int.tdiv_eq_ediv_of_nonneg (by omega), Pl.wrap_in (by omega) (by omega)]
    omega
   have em : Int.tmod (n : Int) 10 = ((n % 10 : Nat) : Int) := by
    rw [Int.tmod_eq_emod_of_nonneg (by omega)]
    omega
   have hd := ih (n / 10) (by omega) (by omega)
   have hl := decDigits_le (n / 10)
   refine Ev.step (fun k => by rw [spec_l3Digits.f]) (Pl.ev_ite_neg (by omega) (Pl.ev_ite_neg (by omega) ?_))
   rw [e, em]
   refine Pl.ev_bind' hd ?_
   simp only [Option.bind_some]
   rw [dig_one (n % 10) (by omega)]
   refine Pl.ev_ite_pos (by rw [bs_size, bs_size]; simp; omega) ?_
   rw [bs_append]
   exact Ev.now _
end Go.Proofs.YtmppibhdnajjjaaDoor.G
