/- Plain words on functions with rounds: what a call comes to with rounds enough. No condition. -/
import Derived.Test.YtjlcajhlggoleaaWMore
import Derived.Lib.Strings
namespace Go.Proofs.Ytjlcajhlggoleaa
open Go.RowKit Go.Proofs.YtjlcajhlggoleaaW.PrintWords Go.Proofs.YtjlcajhlggoleaaW.PrintLast Go.Proofs.YtjlcajhlggoleaaW.PrintMore
namespace Pl
variable {α β σ : Type}
theorem ev_iff_congr {g f : Nat → Option α} {r : α} (h : ∃ K, ∀ k, K ≤ k → g k = f k) : Ev g r ↔ Ev f r := by
  obtain ⟨K, h⟩ := h
  constructor
  · rintro ⟨K', h'⟩
    exact ⟨max K K', fun k hk => by rw [← h k (by omega)]; exact h' k (by omega)⟩
  · rintro ⟨K', h'⟩
    exact ⟨max K K', fun k hk => by rw [h k (by omega)]; exact h' k (by omega)⟩
theorem ev_some {x r : α} : Ev (fun _ => some x) r ↔ x = r := by
  constructor
  · rintro ⟨K, h⟩
    exact Option.some.inj (h K (Nat.le_refl _))
  · rintro rfl
    exact Ev.now _
theorem ev_none {r : α} : Ev (fun _ => none) r ↔ False := by
  constructor
  · rintro ⟨K, h⟩
    exact absurd (h K (Nat.le_refl _)) (by simp)
  · exact False.elim
theorem ev_ite {c : Prop} [Decidable c] {a b : Nat → Option α} {r : α} : Ev (fun k => if c then a k else b k) r ↔ if c then Ev a r else Ev b r := by
  by_cases h : c
  · simp only [if_pos h]
  · simp only [if_neg h]
theorem ev_bind {g : Nat → Option α} {f : Nat → α → Option β} {a : α} {r : β} (h : Ev g a) : Ev (fun k => (g k).bind (f k)) r ↔ Ev (fun k => f k a) r := by
  obtain ⟨K, h⟩ := h
  exact ev_iff_congr ⟨K, fun k hk => by rw [h k hk, Option.bind_some]⟩
theorem ev_bind' {g : Nat → Option α} {f : Nat → α → Option β} {a : α} {r : β} (h : Ev g a) (hf : Ev (fun k => f k a) r) : Ev (fun k => (g k).bind (f k)) r := (ev_bind h).2 hf
theorem ev_ite_pos {c : Prop} [Decidable c] {a b : Nat → Option α} {r : α} (hc : c) (h : Ev a r) : Ev (fun k => if c then a k else b k) r := by
  simp only [if_pos hc]; exact h
theorem ev_ite_neg {c : Prop} [Decidable c] {a b : Nat → Option α} {r : α} (hc : ¬ c) (h : Ev b r) : Ev (fun k => if c then a k else b k) r := by
  simp only [if_neg hc]; exact h
theorem ev_unique {g : Nat → Option α} {r s : α} (h : Ev g r) (h' : Ev g s) : r = s := by
  obtain ⟨K, h⟩ := h
  obtain ⟨K', h'⟩ := h'
  have h1 := h (max K K') (by omega)
  have h2 := h' (max K K') (by omega)
  rw [h1] at h2
  exact Option.some.inj h2
theorem ev_to {g : Nat → Option α} {r s : α} (h : Ev g r) (e : r = s) : Ev g s := e ▸ h
/-- What the rounds of a loop come to: from its end backwards. -/
theorem loop {n : Nat} {g : Nat → Int → σ → Option β} {F : Nat → σ → β} (I : Nat → σ → Prop)
    (hend : ∀ s, I n s → Ev (fun k => g k (n : Int) s) (F n s))
    (hstep : ∀ i s, i < n → I i s → (∀ s', I (i + 1) s' → Ev (fun k => g k ((i : Int) + 1) s') (F (i + 1) s')) → Ev (fun k => g k (i : Int) s) (F i s)) :
    ∀ i s, i ≤ n → I i s → Ev (fun k => g k (i : Int) s) (F i s) := by
  intro i s hi
  obtain ⟨d, hd⟩ : ∃ d, n - i = d := ⟨_, rfl⟩
  induction d generalizing i s with
  | zero =>
    intro hI
    obtain rfl : i = n := by omega
    exact hend s hI
  | succ d ih =>
    intro hI
    refine hstep i s (by omega) hI (fun s' hI' => ?_)
    have := ih (i + 1) s' (by omega) (by omega) hI'
    simpa using this
/-- A loop without a state. -/
theorem loop0 {n : Nat} {g : Nat → Int → Option β} {F : Nat → β}
    (hend : Ev (fun k => g k (n : Int)) (F n))
    (hstep : ∀ i, i < n → Ev (fun k => g k ((i : Int) + 1)) (F (i + 1)) → Ev (fun k => g k (i : Int)) (F i)) :
    ∀ i, i ≤ n → Ev (fun k => g k (i : Int)) (F i) := fun i hi =>
  loop (σ := Unit) (g := fun k i _ => g k i) (F := fun i _ => F i) (fun _ _ => True) (fun _ _ => hend) (fun i _ h _ hs => hstep i h (hs () trivial)) i () hi trivial
theorem wrap_nat {i : Nat} (h : i < 9223372036854775807) : wrap64 ((i : Int) + 1) = (i : Int) + 1 := by unfold wrap64; omega
theorem wrap_in {x : Int} (h : -9223372036854775808 ≤ x) (h' : x ≤ 9223372036854775807) : wrap64 x = x := by unfold wrap64; omega
theorem wf_i64 {x : Int} (h : (Lit.int .i64 x).wf = true) : -9223372036854775808 ≤ x ∧ x ≤ 9223372036854775807 := by
  simp [Lit.wf, IntKind.min, IntKind.max, IntKind.signed, IntKind.bits] at h
  omega
/-! bytes -/
theorem bt_get (s : ByteArray) (i : Nat) (h : i < s.size) : bt s (i : Int) = ((s.data.toList[i]'(by simpa using h)).toNat : Int) := by
  unfold bt
  rw [dif_pos (by simpa using h)]
  simp [ByteArray.getElem_eq_getElem_data]
theorem drop_get {l : List α} {i : Nat} (h : i < l.length) : l.drop i = l[i] :: l.drop (i + 1) := List.drop_eq_getElem_cons h
theorem size_toList (s : ByteArray) : s.data.toList.length = s.size := by simp
theorem toList_data (s : ByteArray) : s.toList = s.data.toList := ByteArray.toList_eq s
theorem bt_l {s : ByteArray} {l : List UInt8} (hl : s.data.toList = l) (i : Nat) (h : i < l.length) : bt s (i : Int) = (l[i].toNat : Int) := by
  subst hl
  exact bt_get s i (by simpa using h)
theorem size_l {s : ByteArray} {l : List UInt8} (hl : s.data.toList = l) : s.size = l.length := by subst hl; simp
theorem toList_l {s : ByteArray} {l : List UInt8} (hl : s.data.toList = l) : s.toList = l := by rw [toList_data, hl]
theorem drop_end {l : List α} : l.drop l.length = [] := List.drop_length
/-- bytes that are small letters; those that can be printed; digits; blanks -/
def smallB (c : UInt8) : Bool := decide (97 ≤ c.toNat ∧ c.toNat ≤ 122)
def printB (c : UInt8) : Bool := decide (32 ≤ c.toNat ∧ c.toNat ≤ 126)
def digitB (c : UInt8) : Bool := decide (48 ≤ c.toNat ∧ c.toNat ≤ 57)
def blankB (c : UInt8) : Bool := decide (c.toNat = 32 ∨ c.toNat = 10)
/-- A name's code; a value's. -/
def nameC (l : List UInt8) : Int := if l = [] then 5 else if l.all smallB = true then (if l.length > 8 then 2 else 0) else 5
def valueC (l : List UInt8) : Int := if l.length > 40 then 2 else if l.all printB = true then 0 else 5
theorem rd_get (l : List Int) (i : Nat) (h : i < l.length) : rd l (i : Int) = l[i] := by
  unfold rd
  simp [List.getD_eq_getElem?_getD, List.getElem?_eq_getElem h]
/-- a code's first that is not 0 -/
def firstC : List Int → Int
  | [] => 0
  | c :: l => if c = 0 then firstC l else c
end Pl
end Go.Proofs.Ytjlcajhlggoleaa
