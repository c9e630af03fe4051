/- Plain words on functions with rounds: what a call comes to with rounds enough. No condition. -/
import Derived.Test.YtbibioffldkanaaGreatDoorWMore
import Derived.Lib.Strings
namespace Go.Proofs.YtbibioffldkanaaGreatDoor
open Go.RowKit Go.Proofs.YtbibioffldkanaaGreatDoorW.PrintWords Go.Proofs.YtbibioffldkanaaGreatDoorW.PrintLast Go.Proofs.YtbibioffldkanaaGreatDoorW.PrintMore
namespace Pl
variable {α β σ : Type}
theorem AU {g f : Nat → Option α} {r : α} (h : ∃ K, ∀ k, K ≤ k → g k = f k) : Ev g r ↔ Ev f r := by
  obtain ⟨K, h⟩ := h
  constructor
  · rintro ⟨K', h'⟩
    exact ⟨max K K', fun k hk => by rw [← h k (by omega)]; exact h' k (by omega)⟩
  · rintro ⟨K', h'⟩
    exact ⟨max K K', fun k hk => by rw [h k (by omega)]; exact h' k (by omega)⟩
theorem kP {x r : α} : Ev (fun _ => some x) r ↔ x = r := by
  constructor
  · rintro ⟨K, h⟩
    exact Option.some.inj (h K (Nat.le_refl _))
  · rintro rfl
    exact Ev.now _
theorem mO {r : α} : Ev (fun _ => none) r ↔ False := by
  constructor
  · rintro ⟨K, h⟩
    exact absurd (h K (Nat.le_refl _)) (by simp)
  · exact False.elim
theorem lY {c : Prop} [Decidable c] {a b : Nat → Option α} {r : α} : Ev (fun k => if c then a k else b k) r ↔ if c then Ev a r else Ev b r := by
  by_cases h : c
  · simp only [if_pos h]
  · simp only [if_neg h]
theorem Jd {g : Nat → Option α} {f : Nat → α → Option β} {a : α} {r : β} (h : Ev g a) : Ev (fun k => (g k).bind (f k)) r ↔ Ev (fun k => f k a) r := by
  obtain ⟨K, h⟩ := h
  exact AU ⟨K, fun k hk => by rw [h k hk, Option.bind_some]⟩
theorem iw {g : Nat → Option α} {f : Nat → α → Option β} {a : α} {r : β} (h : Ev g a) (hf : Ev (fun k => f k a) r) : Ev (fun k => (g k).bind (f k)) r := (Jd h).2 hf
theorem fA {c : Prop} [Decidable c] {a b : Nat → Option α} {r : α} (hc : c) (h : Ev a r) : Ev (fun k => if c then a k else b k) r := by
  simp only [if_pos hc]; exact h
theorem fG {c : Prop} [Decidable c] {a b : Nat → Option α} {r : α} (hc : ¬ c) (h : Ev b r) : Ev (fun k => if c then a k else b k) r := by
  simp only [if_neg hc]; exact h
theorem E8 {g : Nat → Option α} {r s : α} (h : Ev g r) (h' : Ev g s) : r = s := by
  obtain ⟨K, h⟩ := h
  obtain ⟨K', h'⟩ := h'
  have h1 := h (max K K') (by omega)
  have h2 := h' (max K K') (by omega)
  rw [h1] at h2
  exact Option.some.inj h2
theorem lJ {g : Nat → Option α} {r s : α} (h : Ev g r) (e : r = s) : Ev g s := e ▸ h
/-- What the rounds of a loop come to: from its end backwards. -/
theorem loop {n : Nat} {g : Nat → Int → σ → Option β} {F : Nat → σ → β} (I : Nat → σ → Prop)
    (hend : ∀ s, I n s → Ev (fun k => g k (n : Int) s) (F n s))
    (hstep : ∀ i s, i < n → I i s → (∀ s', I (i + 1) s' → Ev (fun k => g k ((i : Int) + 1) s') (F (i + 1) s')) → Ev (fun k => g k (i : Int) s) (F i s)) :
    ∀ i s, i ≤ n → I i s → Ev (fun k => g k (i : Int) s) (F i s) := by
  intro i s hi
  obtain ⟨d, hd⟩ : ∃ d, n - i = d := ⟨_, rfl⟩
  induction d generalizing i s with
  | zero =>
    intro hI
    obtain rfl : i = n := by omega
    exact hend s hI
  | succ d ih =>
    intro hI
    refine hstep i s (by omega) hI (fun s' hI' => ?_)
    have := ih (i + 1) s' (by omega) (by omega) hI'
    simpa using this
/-- A loop without a state. -/
theorem rF {n : Nat} {g : Nat → Int → Option β} {F : Nat → β}
    (hend : Ev (fun k => g k (n : Int)) (F n))
    (hstep : ∀ i, i < n → Ev (fun k => g k ((i : Int) + 1)) (F (i + 1)) → Ev (fun k => g k (i : Int)) (F i)) :
    ∀ i, i ≤ n → Ev (fun k => g k (i : Int)) (F i) := fun i hi =>
  loop (σ := Unit) (g := fun k i _ => g k i) (F := fun i _ => F i) (fun _ _ => True) (fun _ _ => hend) (fun i _ h _ hs => hstep i h (hs () trivial)) i () hi trivial
theorem kV {i : Nat} (h : i < 9223372036854775807) : wrap64 ((i : Int) + 1) = (i : Int) + 1 := by unfold wrap64; omega
theorem wrap_in {x : Int} (h : -9223372036854775808 ≤ x) (h' : x ≤ 9223372036854775807) : wrap64 x = x := by unfold wrap64; omega
theorem o5 (s : ByteArray) (i : Nat) (h : i < s.size) : bt s (i : Int) = ((s.data.toList[i]'(by simpa using h)).toNat : Int) := by
  unfold bt
  rw [dif_pos (by simpa using h)]
  simp [ByteArray.getElem_eq_getElem_data]
theorem mf {l : List α} {i : Nat} (h : i < l.length) : l.drop i = l[i] :: l.drop (i + 1) := List.drop_eq_getElem_cons h
theorem jy (s : ByteArray) : s.data.toList.length = s.size := by simp
theorem toList_data (s : ByteArray) : s.toList = s.data.toList := ByteArray.toList_eq s
theorem zM {s : ByteArray} {l : List UInt8} (hl : s.data.toList = l) (i : Nat) (h : i < l.length) : bt s (i : Int) = (l[i].toNat : Int) := by
  subst hl
  exact o5 s i (by simpa using h)
theorem rZ {s : ByteArray} {l : List UInt8} (hl : s.data.toList = l) : s.size = l.length := by subst hl; simp
theorem uy {s : ByteArray} {l : List UInt8} (hl : s.data.toList = l) : s.toList = l := by rw [toList_data, hl]
theorem drop_end {l : List α} : l.drop l.length = [] := List.drop_length
/-- bytes that are small letters; those that can be printed; digits; blanks -/
def jV (c : UInt8) : Bool := decide (97 ≤ c.toNat ∧ c.toNat ≤ 122)
def nJ (c : UInt8) : Bool := decide (32 ≤ c.toNat ∧ c.toNat ≤ 126)
def nN (c : UInt8) : Bool := decide (48 ≤ c.toNat ∧ c.toNat ≤ 57)
def iR (c : UInt8) : Bool := decide (c.toNat = 32 ∨ c.toNat = 10)
/-- A name's code; a value's. -/
def kW (l : List UInt8) : Int := if l = [] then 5 else if l.all jV = true then (if l.length > 8 then 2 else 0) else 5
def pU (l : List UInt8) : Int := if l.length > 40 then 2 else if l.all nJ = true then 0 else 5
theorem yR (l : List Int) (i : Nat) (h : i < l.length) : rd l (i : Int) = l[i] := by
  unfold rd
  simp [List.getD_eq_getElem?_getD, List.getElem?_eq_getElem h]
theorem BX {l : List α} {z : α} {i : Nat} (h : i < l.length) : l.getD ((i : Int)).toNat z = l[i] := by
  simp [List.getD_eq_getElem?_getD, List.getElem?_eq_getElem h]
/-- A list that is made and then filled, element by element. -/
theorem left {l : List α} {B : α → Prop} {g : Nat → Int → Int → Option Int}
    (hend : ∀ x, Ev (fun k => g k (l.length : Int) x) x)
    (hstep : ∀ i (hi : i < l.length) x, 0 ≤ x → x ≤ 1048576 → ∃ r, -1 ≤ r ∧ r ≤ x ∧ (0 ≤ r → B l[i]) ∧ (r < 0 → Ev (fun k => g k (i : Int) x) (-1)) ∧ (0 ≤ r → ∀ R, Ev (fun k => g k ((i : Int) + 1) r) R → Ev (fun k => g k (i : Int) x) R)) :
    ∀ x, 0 ≤ x → x ≤ 1048576 → ∃ r, -1 ≤ r ∧ r ≤ x ∧ (0 ≤ r → ∀ y ∈ l, B y) ∧ Ev (fun k => g k 0 x) r := by
  have main : ∀ d i x, i ≤ l.length → l.length - i = d → 0 ≤ x → x ≤ 1048576 → ∃ r, -1 ≤ r ∧ r ≤ x ∧ (0 ≤ r → ∀ y ∈ l.drop i, B y) ∧ Ev (fun k => g k (i : Int) x) r := by
    intro d
    induction d with
    | zero =>
      intro i x hi hd h0 h1
      obtain rfl : i = l.length := by omega
      exact ⟨x, by omega, Int.le_refl _, by simp, hend x⟩
    | succ d ih =>
      intro i x hi hd h0 h1
      have hi' : i < l.length := by omega
      obtain ⟨r, hr0, hr1, hB, hneg, hpos⟩ := hstep i hi' x h0 h1
      by_cases h : 0 ≤ r
      · obtain ⟨q, hq0, hq1, hqB, hq⟩ := ih (i + 1) r (by omega) (by omega) h (by omega)
        refine ⟨q, hq0, by omega, fun h2 => ?_, hpos h q (by simpa using hq)⟩
        rw [mf hi']
        intro y hy
        rcases List.mem_cons.1 hy with rfl | hy
        · exact hB h
        · exact hqB h2 y hy
      · exact ⟨-1, by omega, by omega, by omega, hneg (by omega)⟩
  intro x h0 h1
  obtain ⟨r, a, b, c, d⟩ := main _ 0 x (Nat.zero_le _) rfl h0 h1
  exact ⟨r, a, b, by simpa using c, by simpa using d⟩
/-- a code's first that is not 0 -/
def lN : List Int → Int
  | [] => 0
  | c :: l => if c = 0 then lN l else c
end Pl
end Go.Proofs.YtbibioffldkanaaGreatDoor
