/- Plain words on functions with rounds: what a call comes to with rounds enough. No condition. -/
import Derived.Test.YthoamjobclfjjaaGreatDoorWMore
import Derived.Lib.Strings
namespace Go.Proofs.YthoamjobclfjjaaGreatDoor
open Go.RowKit Go.Proofs.YthoamjobclfjjaaGreatDoorW.PrintWords Go.Proofs.YthoamjobclfjjaaGreatDoorW.PrintLast Go.Proofs.YthoamjobclfjjaaGreatDoorW.PrintMore
namespace Pl
variable {α β σ : Type}
theorem ev_iff_congr {g f : Nat → Option α} {r : α} (h : ∃ K, ∀ k, K ≤ k → g k = f k) : Ev g r ↔ Ev f r := by
  obtain ⟨K, h⟩ := h
  constructor
  · rintro ⟨K', h'⟩
    exact ⟨max K K', fun k hk => by rw [← h k (by omega)]; exact h' k (by omega)⟩
  · rintro ⟨K', h'⟩
    exact ⟨max K K', fun k hk => by rw [h k (by omega)]; exact h' k (by omega)⟩
theorem ev_some {x r : α} : Ev (fun _ => some x) r ↔ x = r := by
  constructor
  · rintro ⟨K, h⟩
    exact Option.some.inj (h K (Nat.le_refl _))
  · rintro rfl
    exact Ev.now _
theorem ev_none {r : α} : Ev (fun _ => none) r ↔ False := by
  constructor
  · rintro ⟨K, h⟩
    exact absurd (h K (Nat.le_refl _)) (by simp)
  · exact False.elim
theorem ev_ite {c : Prop} [Decidable c] {a b : Nat → Option α} {r : α} : Ev (fun k => if c then a k else b k) r ↔ if c then Ev a r else Ev b r := by
  by_cases h : c
  · simp only [if_pos h]
  · simp only [if_neg h]
theorem ev_bind {g : Nat → Option α} {f : Nat → α → Option β} {a : α} {r : β} (h : Ev g a) : Ev (fun k => (g k).bind (f k)) r ↔ Ev (fun k => f k a) r := by
  obtain ⟨K, h⟩ := h
  exact ev_iff_congr ⟨K, fun k hk => by rw [h k hk, Option.bind_some]⟩
theorem ev_bind' {g : Nat → Option α} {f : Nat → α → Option β} {a : α} {r : β} (h : Ev g a) (hf : Ev (fun k => f k a) r) : Ev (fun k => (g k).bind (f k)) r := (ev_bind h).2 hf
theorem ev_ite_pos {c : Prop} [Decidable c] {a b : Nat → Option α} {r : α} (hc : c) (h : Ev a r) : Ev (fun k => if c then a k else b k) r := by
  simp only [if_pos hc]; exact h
theorem ev_ite_neg {c : Prop} [Decidable c] {a b : Nat → Option α} {r : α} (hc : ¬ c) (h : Ev b r) : Ev (fun k => if c then a k else b k) r := by
  simp only [if_neg hc]; exact h
theorem ev_unique {g : Nat → Option α} {r s : α} (h : Ev g r) (h' : Ev g s) : r = s := by
  obtain ⟨K, h⟩ := h
  obtain ⟨K', h'⟩ := h'
  have h1 := h (max K K') (by omega)
  have h2 := h' (max K K') (by omega)
  rw [h1] at h2
  exact Option.some.inj h2
theorem ev_to {g : Nat → Option α} {r s : α} (h : Ev g r) (e : r = s) : Ev g s := e ▸ h
/-- What the rounds of a loop come to: from its end backwards. -/
theorem loop {n : Nat} {g : Nat → Int → σ → Option β} {F : Nat → σ → β} (I : Nat → σ → Prop)
    (hend : ∀ s, I n s → Ev (fun k => g k (n : Int) s) (F n s))
    (hstep : ∀ i s, i < n → I i s → (∀ s', I (i + 1) s' → Ev (fun k => g k ((i : Int) + 1) s') (F (i + 1) s')) → Ev (fun k => g k (i : Int) s) (F i s)) :
    ∀ i s, i ≤ n → I i s → Ev (fun k => g k (i : Int) s) (F i s) := by
  intro i s hi
  obtain ⟨d, hd⟩ : ∃ d, n - i = d := ⟨_, rfl⟩
  induction d generalizing i s with
  | zero =>
    intro hI
    obtain rfl : i = n := by omega
    exact hend s hI
  | succ d ih =>
    intro hI
    refine hstep i s (by omega) hI (fun s' hI' => ?_)
    have := ih (i + 1) s' (by omega) (by omega) hI'
    simpa using this
/-- A loop without a state. -/
theorem loop0 {n : Nat} {g : Nat → Int → Option β} {F : Nat → β}
    (hend : Ev (fun k => g k (n : Int)) (F n))
    (hstep : ∀ i, i < n → Ev (fun k => g k ((i : Int) + 1)) (F (i + 1)) → Ev (fun k => g k (i : Int)) (F i)) :
    ∀ i, i ≤ n → Ev (fun k => g k (i : Int)) (F i) := fun i hi =>
  loop (σ := Unit) (g := fun k i _ => g k i) (F := fun i _ => F i) (fun _ _ => True) (fun _ _ => hend) (fun i _ h _ hs => hstep i h (hs () trivial)) i () hi trivial
theorem wrap_nat {i : Nat} (h : i < 9223372036854775807) : wrap64 ((i : Int) + 1) = (i : Int) + 1 := by unfold wrap64; omega
theorem wrap_in {x : Int} (h : -9223372036854775808 ≤ x) (h' : x ≤ 9223372036854775807) : wrap64 x = x := by unfold wrap64; omega
theorem wf_i64 {x : Int} (h : (Lit.int .i64 x).wf = true) : -9223372036854775808 ≤ x ∧ x ≤ 9223372036854775807 := by
  simp [Lit.wf, IntKind.min, IntKind.max, IntKind.signed, IntKind.bits] at h
  omega
/-! bytes -/
theorem bt_get (s : ByteArray) (i : Nat) (h : i < s.size) : bt s (i : Int) = ((s.data.toList[i]'(by simpa using h)).toNat : Int) := by
  unfold bt
  rw [dif_pos (by simpa using h)]
  simp [ByteArray.getElem_eq_getElem_data]
theorem drop_get {l : List α} {i : Nat} (h : i < l.length) : l.drop i = l[i] :: l.drop (i + 1) := List.drop_eq_getElem_cons h
theorem size_toList (s : ByteArray) : s.data.toList.length = s.size := by simp
theorem toList_data (s : ByteArray) : s.toList = s.data.toList := ByteArray.toList_eq s
theorem bt_l {s : ByteArray} {l : List UInt8} (hl : s.data.toList = l) (i : Nat) (h : i < l.length) : bt s (i : Int) = (l[i].toNat : Int) := by
  subst hl
  exact bt_get s i (by simpa using h)
theorem size_l {s : ByteArray} {l : List UInt8} (hl : s.data.toList = l) : s.size = l.length := by subst hl; simp
theorem toList_l {s : ByteArray} {l : List UInt8} (hl : s.data.toList = l) : s.toList = l := by rw [toList_data, hl]
theorem drop_end {l : List α} : l.drop l.length = [] := List.drop_length
/-- bytes that are small letters; those that can be printed; digits; blanks -/
def smallB (c : UInt8) : Bool := decide (97 ≤ c.toNat ∧ c.toNat ≤ 122)
def printB (c : UInt8) : Bool := decide (32 ≤ c.toNat ∧ c.toNat ≤ 126)
def digitB (c : UInt8) : Bool := decide (48 ≤ c.toNat ∧ c.toNat ≤ 57)
def blankB (c : UInt8) : Bool := decide (c.toNat = 32 ∨ c.toNat = 10)
/-- A name's code; a value's. -/
def nameC (l : List UInt8) : Int := if l = [] then 5 else if l.all smallB = true then (if l.length > 8 then 2 else 0) else 5
def valueC (l : List UInt8) : Int := if l.length > 40 then 2 else if l.all printB = true then 0 else 5
theorem rd_get (l : List Int) (i : Nat) (h : i < l.length) : rd l (i : Int) = l[i] := by
  unfold rd
  simp [List.getD_eq_getElem?_getD, List.getElem?_eq_getElem h]
theorem getD_get {l : List α} {z : α} {i : Nat} (h : i < l.length) : l.getD ((i : Int)).toNat z = l[i] := by
  simp [List.getD_eq_getElem?_getD, List.getElem?_eq_getElem h]
/-- A list that is made and then filled, element by element. -/
theorem fill {l : List α} {f : α → β} {z : β} {g : Nat → Int → List β → Option (List β)}
    (hend : ∀ acc, acc.length = l.length → Ev (fun k => g k (l.length : Int) acc) acc)
    (hstep : ∀ i (hi : i < l.length) acc, acc.length = l.length → Ev (fun k => g k ((i : Int) + 1) (acc.set i (f l[i]))) (l.map f) → Ev (fun k => g k (i : Int) acc) (l.map f)) :
    Ev (fun k => g k 0 (List.replicate l.length z)) (l.map f) := by
  have h := loop (n := l.length) (g := g) (F := fun _ _ => l.map f) (fun i acc => acc.length = l.length ∧ acc.take i = (l.map f).take i)
    (fun acc hI => ?_) (fun i acc hi hI hs => hstep i hi acc hI.1 (hs _ ⟨by simp [hI.1], ?_⟩)) 0 (List.replicate l.length z) (Nat.zero_le _) ⟨by simp, by simp⟩
  · simpa using h
  · have e : acc = l.map f := by
      have h1 := hI.2
      rw [List.take_of_length_le (by rw [hI.1]; exact Nat.le_refl _), List.take_of_length_le (by simp)] at h1
      exact h1
    have := hend acc hI.1
    rwa [e] at this ⊢
  · have h1 : i < (l.map f).length := by simpa using hi
    obtain ⟨hI1, hI2⟩ := hI
    apply List.ext_getElem?
    intro j
    have hj := congrArg (fun z => z[j]?) hI2
    simp only [List.getElem?_take] at hj ⊢
    by_cases h2 : j < i
    · rw [if_pos h2, if_pos h2] at hj
      rw [if_pos (by omega), if_pos (by omega), List.getElem?_set_ne (by omega), hj]
    · by_cases h3 : j = i
      · subst h3
        rw [if_pos (by omega), if_pos (by omega), List.getElem?_set_self (by omega), List.getElem?_eq_getElem h1]
        simp
      · rw [if_neg (by omega), if_neg (by omega)]
/-- What is left of a size, element by element; below 0 it is -1, and that is the answer. -/
theorem left {l : List α} {B : α → Prop} {g : Nat → Int → Int → Option Int}
    (hend : ∀ x, Ev (fun k => g k (l.length : Int) x) x)
    (hstep : ∀ i (hi : i < l.length) x, 0 ≤ x → x ≤ 1048576 → ∃ r, -1 ≤ r ∧ r ≤ x ∧ (0 ≤ r → B l[i]) ∧ (r < 0 → Ev (fun k => g k (i : Int) x) (-1)) ∧ (0 ≤ r → ∀ R, Ev (fun k => g k ((i : Int) + 1) r) R → Ev (fun k => g k (i : Int) x) R)) :
    ∀ x, 0 ≤ x → x ≤ 1048576 → ∃ r, -1 ≤ r ∧ r ≤ x ∧ (0 ≤ r → ∀ y ∈ l, B y) ∧ Ev (fun k => g k 0 x) r := by
  have main : ∀ d i x, i ≤ l.length → l.length - i = d → 0 ≤ x → x ≤ 1048576 → ∃ r, -1 ≤ r ∧ r ≤ x ∧ (0 ≤ r → ∀ y ∈ l.drop i, B y) ∧ Ev (fun k => g k (i : Int) x) r := by
    intro d
    induction d with
    | zero =>
      intro i x hi hd h0 h1
      obtain rfl : i = l.length := by omega
      exact ⟨x, by omega, Int.le_refl _, by simp, hend x⟩
    | succ d ih =>
      intro i x hi hd h0 h1
      have hi' : i < l.length := by omega
      obtain ⟨r, hr0, hr1, hB, hneg, hpos⟩ := hstep i hi' x h0 h1
      by_cases h : 0 ≤ r
      · obtain ⟨q, hq0, hq1, hqB, hq⟩ := ih (i + 1) r (by omega) (by omega) h (by omega)
        refine ⟨q, hq0, by omega, fun h2 => ?_, hpos h q (by simpa using hq)⟩
        rw [drop_get hi']
        intro y hy
        rcases List.mem_cons.1 hy with rfl | hy
        · exact hB h
        · exact hqB h2 y hy
      · exact ⟨-1, by omega, by omega, by omega, hneg (by omega)⟩
  intro x h0 h1
  obtain ⟨r, a, b, c, d⟩ := main _ 0 x (Nat.zero_le _) rfl h0 h1
  exact ⟨r, a, b, by simpa using c, by simpa using d⟩
/-- a code's first that is not 0 -/
def firstC : List Int → Int
  | [] => 0
  | c :: l => if c = 0 then firstC l else c
end Pl
end Go.Proofs.YthoamjobclfjjaaGreatDoor
