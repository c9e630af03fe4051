/- What the program's picks of a code come to. No condition. What the checks of a range come to. No condition. An element, an attr of a list. No condition. What the program and the reference say of the parents of elements: the same. No condition. What the program and the reference say of names, as plain functions: both the same. No condition. The written form of bytes, plain. No condition. The written form of a text: the program's and the reference's code of a text, the reference's loop. No condition but the text's size. The code of a tree: the program and the reference say the same. No condition. The places of an element's kids: the program's and the reference's. No condition but what each states. The bytes that a text written with marks of its own stands for, step by step, in plain words: no program in sight. No condition. The program's and the reference's way through a text written with marks of its own: both go by the same steps. Condition: the text has at most 400 bytes. What is written of a text reads as that text; what is read is printable. Plain. No condition. EscapeText and UnescapeText of the program and of the reference, and that what is written reads as it was. Plain. No condition but the text's size. The draws that a law's own inputs are made of: each is a number below its bound. No condition. The Value of an attr as the program finds it. No condition. Two lists of elements: the program and the reference say the same of whether they are the same. No condition. A mark's attrs as lists of bytes: the reference's way through them, the program's, and that the first agrees where the second comes to an end. Plain. No condition. The reference's way through a mark, step by step. No condition but the mark's size. The program's way through a mark, step by step. No condition but the mark's size. What both make of a mark's pieces: the codes in their order, and the element. No condition but the mark's size. A written mark with one byte turned, cut off, or with more behind it: the program can read it, or the reference says 5. Plain. No condition but what each states. The draws of FnKids: the mark that is drawn, and the elements. No condition but the code's size, which the law asks itself. The elements that FnKids draws: some list whose sizes are small. No condition but the code's size, which the law asks itself. -/
import Derived.Test.YtbibioffldkanaaGreatDoorXPure
import Derived.Test.YtbibioffldkanaaGreatDoorK5
import Derived.Test.YtbibioffldkanaaGreatDoorK10
import Derived.Test.YtbibioffldkanaaGreatDoorK2
import Derived.Test.YtbibioffldkanaaGreatDoorK14
import Derived.Test.YtbibioffldkanaaGreatDoorK4
import Derived.Test.YtbibioffldkanaaGreatDoorK7
import Derived.Test.YtbibioffldkanaaGreatDoorKH
import Derived.Test.YtbibioffldkanaaGreatDoorK8
import Derived.Test.YtbibioffldkanaaGreatDoorK9
import Derived.Test.YtbibioffldkanaaGreatDoorK11
import Derived.Lib.IndexMore
import Derived.Lib.ParseIntB
import Derived.Test.YtbibioffldkanaaGreatDoorK18
import Derived.Test.YtbibioffldkanaaGreatDoorK19
import Derived.Test.YtbibioffldkanaaGreatDoorK16
import Derived.Test.YtbibioffldkanaaGreatDoorK17
import Derived.Test.YtbibioffldkanaaGreatDoorK15
import Derived.Test.YtbibioffldkanaaGreatDoorK20
import Derived.Test.YtbibioffldkanaaGreatDoorKG
import Derived.Test.YtbibioffldkanaaGreatDoorKD
namespace Go.Proofs.YtbibioffldkanaaGreatDoor.K
set_option linter.unusedVariables false
set_option linter.unusedSimpArgs false
open Go.RowKit Go.Proofs.YtbibioffldkanaaGreatDoor Go.Proofs.YtbibioffldkanaaGreatDoorW.PrintWords Go.Proofs.YtbibioffldkanaaGreatDoorW.PrintLast
theorem oz (b : Bool) (c : Int) : iH.f b c = some (if b = true then c else 0) := by
 unfold iH.f
 cases b <;> rfl
theorem CS (l : List Int) (hl : l.length < 1000) : ∀ i, i ≤ l.length → Ev (fun k => fP.l0 k l (l.length : Int) (i : Int)) (Pl.lN (l.drop i)) := by
 refine Pl.rF (g := fun k i => fP.l0 k l (l.length : Int) i) ?_ ?_
 ·refine Ev.step (fun k => by rw [fP.l0]) ?_
  simp [Pl.kP, Pl.lN]
 ·intro i hi ih
  refine Ev.step (fun k => by rw [fP.l0]) ?_
  rw [Pl.mf hi]
  have e := Pl.yR l i hi
  simp only [Pl.lY, Pl.kP, Pl.mO, Pl.lN, e, Pl.kV (show i < 9223372036854775807 by omega)]
  rw [if_pos (by omega), if_pos (by omega), if_pos (by omega)]
  split
  ·exact ih
  ·rfl
theorem lw (l : List Int) (hl : l.length < 1000) : Ev (fun k => fP.f k l) (Pl.lN l) := CS l hl 0 (Nat.zero_le _)
theorem Jc (a lo hi : Int) : pg.f a lo hi = some (decide (lo ≤ a ∧ a ≤ hi)) := by
 unfold pg.f
 by_cases h : a ≥ lo
 ·rw [if_pos h]; congr 1; rw [decide_eq_decide]; omega
 ·rw [if_neg h]; congr 1; rw [eq_comm, decide_eq_false_iff_not]; omega
theorem uj (a lo hi : Int) : kR.f a lo hi = some (decide (lo ≤ a ∧ a ≤ hi)) := by
 unfold kR.f
 by_cases h : lo ≤ a
 ·rw [if_pos h]; congr 1; rw [decide_eq_decide]; omega
 ·rw [if_neg h]; congr 1; rw [eq_comm, decide_eq_false_iff_not]; omega
theorem qg (l : List S38) (i : Nat) (h : i < l.length) : iU l (i : Int) = l[i] := Pl.BX h
theorem qO (l : List S33) (i : Nat) (h : i < l.length) : fJ l (i : Int) = l[i] := Pl.BX h
abbrev StE := S33
abbrev prE (p : List StE) (j : Int) : Int := (fJ p j).f1
/-! parents and depths -/
def nX (p : List StE) (n : Nat) : Prop := ∀ j : Nat, j < n → (j = 0 → prE p j = -1) ∧ (0 < j → 0 ≤ prE p j ∧ prE p j ≤ (j : Int) - 1)
theorem uh {p : List StE} {n : Nat} (h : nX p n) {at' : Int} (h0 : 0 ≤ at') (h1 : at' < n) : -1 ≤ prE p at' ∧ prE p at' < at' := by
 obtain ⟨j, rfl⟩ := Int.eq_ofNat_of_zero_le h0
 obtain ⟨a, b⟩ := h j (by omega)
 by_cases hj : j = 0
 ·have := a hj; omega
 ·have := b (by omega); omega
def rD (p : List StE) : Nat → Int → Int
 | 0, _ => 0
 | f + 1, at' => if at' < 0 then 0 else rD p f (prE p at') + 1
def oZ (p : List StE) (at' : Int) : Int := rD p (at'.toNat + 1) at'
theorem yg {p : List StE} {n : Nat} (h : nX p n) : ∀ (f g : Nat) (at' : Int), -1 ≤ at' → at' < n → at' < f → at' < g → rD p f at' = rD p g at'
 | 0, 0, _, _, _, _, _ => rfl
 | 0, g + 1, at', h0, _, hf, _ => by rw [rD, rD, if_pos (by omega)]
 | f + 1, 0, at', h0, _, _, hg => by rw [rD, rD, if_pos (by omega)]
 | f + 1, g + 1, at', h0, h1, hf, hg => by
  rw [rD, rD]
  by_cases hn : at' < 0
  ·rw [if_pos hn, if_pos hn]
  ·rw [if_neg hn, if_neg hn]
   obtain ⟨a, b⟩ := uh h (by omega) h1
   rw [yg h f g _ a (by omega) (by omega) (by omega)]
theorem sQ (p : List StE) : oZ p (-1) = 0 := rfl
theorem yP {p : List StE} {n : Nat} (h : nX p n) {i : Int} (h0 : 0 ≤ i) (hp : -1 ≤ prE p i ∧ prE p i < i) (hn : i ≤ n) : oZ p i = oZ p (prE p i) + 1 := by
 unfold oZ
 rw [rD, if_neg (by omega), yg h i.toNat ((prE p i).toNat + 1) _ hp.1 (by omega) (by omega) (by omega)]
theorem uz {p : List StE} {n : Nat} (h : nX p n) : ∀ (m : Nat) (at' : Int), at'.toNat + 1 = m → -1 ≤ at' → at' < n → 0 ≤ oZ p at' ∧ oZ p at' ≤ at' + 1 := by
 intro m
 induction m using Nat.strongRecOn with
 | _ m ih =>
  intro at' hm h0 h1
  by_cases hn : at' < 0
  ·obtain rfl : at' = -1 := by omega
   rw [sQ]; omega
  ·obtain ⟨a, b⟩ := uh h (by omega) h1
   rw [yP h (by omega) ⟨a, b⟩ (by omega)]
   by_cases h2 : prE p at' < 0
   ·obtain h3 : prE p at' = -1 := by omega
    rw [h3, sQ]; omega
   ·have := ih ((prE p at').toNat + 1) (by omega) _ rfl a (by omega)
    omega
theorem wX {p : List StE} {n : Nat} (h : nX p n) (hn : n ≤ p.length) (h24 : n ≤ 40) : ∀ (m : Nat) (at' : Int), at'.toNat + 1 = m → -1 ≤ at' → at' < n → ∀ c, 0 ≤ c → c + oZ p at' ≤ 50 → Ev (fun k => ja.l0 k p at' c) (c + oZ p at') := by
 intro m
 induction m using Nat.strongRecOn with
 | _ m ih =>
  intro at' hm h0 h1 c hc hd
  have hle := uz h _ at' rfl h0 h1
  refine Ev.step (fun k => by rw [ja.l0]) ?_
  simp only [Pl.lY, Pl.mO, Pl.kP]
  by_cases hn' : at' < 0
  ·obtain rfl : at' = -1 := by omega
   rw [if_neg (by omega), sQ]; omega
  ·obtain ⟨a, b⟩ := uh h (by omega) h1
   have e := yP h (by omega) ⟨a, b⟩ (by omega)
   have hle2 := uz h _ (prE p at') rfl a (by omega)
   rw [if_pos (by omega), if_pos (by omega), if_pos (by omega), if_pos (by omega), Pl.wrap_in (by omega) (by omega), e, show c + (oZ p (prE p at') + 1) = c + 1 + oZ p (prE p at') from by omega]
   by_cases h2 : prE p at' < 0
   ·refine Ev.step (fun k => by rw [ja.l0]) ?_
    simp only [Pl.lY, Pl.mO, Pl.kP]
    have h3 : prE p at' = -1 := by omega
    have h4 : (fJ p at').f1 = -1 := h3
    have h5 : oZ p (prE p at') = 0 := by rw [h3, sQ]
    rw [h4, h5]
    simp
   ·exact ih ((prE p at').toNat + 1) (by omega) _ rfl a (by omega) (c + 1) (by omega) (by omega)
def plE (p : List StE) (i : Nat) : List Int := (List.range i).map fun (j : Nat) => prE p (j : Int)
def dlE (p : List StE) (i : Nat) : List Int := (List.range i).map fun (j : Nat) => oZ p (j : Int)
theorem wJ (p : List StE) (i : Nat) : (plE p i).length = i := by simp [plE]
theorem yG (p : List StE) (i : Nat) : (dlE p i).length = i := by simp [dlE]
theorem Md (p : List StE) (i : Nat) (j : Int) (h0 : 0 ≤ j) (h : j < i) : rd (plE p i) j = prE p j := by
 obtain ⟨j, rfl⟩ := Int.eq_ofNat_of_zero_le h0
 rw [Pl.yR _ j (by rw [wJ]; omega)]
 simp [plE]
theorem Gz (p : List StE) (i : Nat) (j : Int) (h0 : 0 ≤ j) (h : j < i) : rd (dlE p i) j = oZ p j := by
 obtain ⟨j, rfl⟩ := Int.eq_ofNat_of_zero_le h0
 rw [Pl.yR _ j (by rw [yG]; omega)]
 simp [dlE]
theorem BH (p : List StE) (i : Nat) : plE p i ++ [prE p (i : Int)] = plE p (i + 1) := by simp [plE, List.range_succ]
theorem C9 (p : List StE) (i : Nat) : dlE p i ++ [oZ p (i : Int)] = dlE p (i + 1) := by simp [dlE, List.range_succ]
theorem GK {p : List StE} {i : Nat} (hi : i < p.length) (h24 : p.length ≤ 40) (h : nX p i) (hq0 : -1 ≤ prE p i) (hq1 : prE p i < i) : ∀ (m : Nat) (at' : Int), at'.toNat + 1 = m → -1 ≤ at' → at' < i →
  ∃ b : Bool, Ev (fun k => jb.l0 k p i at') (b && decide (0 ≤ prE p i)) ∧ (at' < prE p i → b = false) ∧ Ev (fun k => fQ.l0 k (prE p i) at' (plE p i) (dlE p i)) (if b = true then (0, plE p (i + 1), dlE p (i + 1)) else (1, plE p i, dlE p i)) := by
 have hdeep := yP (i := (i : Int)) h (by omega) ⟨hq0, hq1⟩ (by omega)
 have fin : Ev (fun k => fQ.l0 k (prE p i) (prE p i) (plE p i) (dlE p i)) (0, plE p (i + 1), dlE p (i + 1)) := by
  refine Ev.step (fun k => by rw [fQ.l0]) ?_
  simp only [Pl.lY, Pl.mO, Pl.kP, Option.bind_some, wJ, yG, List.length_singleton]
  rw [if_neg (by omega), if_pos trivial]
  by_cases hq : prE p i ≥ 0
  ·rw [if_pos hq, if_pos (by omega), if_pos (by omega), if_pos (by omega), if_pos (by omega), Gz p i _ (by omega) (by omega)]
   have hle := uz h _ (prE p i) rfl hq0 (by omega)
   rw [Pl.wrap_in (by omega) (by omega), ← hdeep, BH, C9]
  ·rw [if_neg hq, if_pos (by omega), if_pos (by omega)]
   have e : prE p i = -1 := by omega
   have e2 : oZ p (i : Int) = 1 := by rw [hdeep, e, sQ]; rfl
   rw [← BH, ← C9, e2]
 intro m
 induction m using Nat.strongRecOn with
 | _ m ih =>
  intro at' hm h0 h1
  by_cases hn : at' < 0
  ·obtain rfl : at' = -1 := by omega
   by_cases hq : prE p i < 0
   ·have e : prE p i = -1 := by omega
    refine ⟨true, ?_, fun h' => by omega, ?_⟩
    ·refine Ev.step (fun k => by rw [jb.l0]) ?_
     simp only [Pl.lY, Pl.mO, Pl.kP]
     rw [if_neg (by omega)]
     simp; omega
    ·rw [e] at fin ⊢
     simpa using fin
   ·refine ⟨false, ?_, fun _ => rfl, ?_⟩
    ·refine Ev.step (fun k => by rw [jb.l0]) ?_
     simp only [Pl.lY, Pl.mO, Pl.kP]
     rw [if_neg (by omega)]
     simp
    ·refine Ev.step (fun k => by rw [fQ.l0]) ?_
     simp only [Pl.lY, Pl.mO, Pl.kP]
     rw [if_neg (by omega), if_neg (by omega)]
     simp
  ·obtain ⟨a, b⟩ := uh h (by omega) h1
   by_cases e : at' = prE p i
   ·refine ⟨true, ?_, fun h' => by omega, ?_⟩
    ·refine Ev.step (fun k => by rw [jb.l0]) ?_
     simp only [Pl.lY, Pl.mO, Pl.kP]
     rw [if_pos (by omega), if_pos (by omega), if_pos (by omega), if_pos e]
     simp; omega
    ·rw [e]
     simpa using fin
   ·have hs : ∀ r : Bool, Ev (fun k => jb.l0 k p i (prE p at')) r → Ev (fun k => jb.l0 k p i at') r := fun r hr => by
     refine Ev.step (fun k => by rw [jb.l0]) ?_
     simp only [Pl.lY, Pl.mO, Pl.kP]
     rw [if_pos (by omega), if_pos (by omega), if_pos (by omega), if_neg e, if_pos (by omega), if_pos (by omega)]
     exact hr
    have step : ∃ b : Bool, Ev (fun k => jb.l0 k p i (prE p at')) (b && decide (0 ≤ prE p i)) ∧ (prE p at' < prE p i → b = false) ∧ Ev (fun k => fQ.l0 k (prE p i) (prE p at') (plE p i) (dlE p i)) (if b = true then (0, plE p (i + 1), dlE p (i + 1)) else (1, plE p i, dlE p i)) := by
     by_cases h2 : prE p at' < 0
     ·have h3 : prE p at' = -1 := by omega
      rw [h3]
      by_cases hq : prE p i < 0
      ·have e' : prE p i = -1 := by omega
       refine ⟨true, ?_, fun h' => by omega, ?_⟩
       ·refine Ev.step (fun k => by rw [jb.l0]) ?_
        simp only [Pl.lY, Pl.mO, Pl.kP]
        rw [if_neg (by omega)]
        simp; omega
       ·rw [e'] at fin ⊢
        simpa using fin
      ·refine ⟨false, ?_, fun _ => rfl, ?_⟩
       ·refine Ev.step (fun k => by rw [jb.l0]) ?_
        simp only [Pl.lY, Pl.mO, Pl.kP]
        rw [if_neg (by omega)]
        simp
       ·refine Ev.step (fun k => by rw [fQ.l0]) ?_
        simp only [Pl.lY, Pl.mO, Pl.kP]
        rw [if_neg (by omega), if_neg (by omega)]
        simp
     ·exact ih ((prE p at').toNat + 1) (by omega) _ rfl a (by omega)
    obtain ⟨c, h1', h2', h3'⟩ := step
    by_cases hlt : at' < prE p i
    ·have hc := h2' (by omega)
     subst hc
     refine ⟨false, hs _ h1', fun _ => rfl, ?_⟩
     refine Ev.step (fun k => by rw [fQ.l0]) ?_
     simp only [Pl.lY, Pl.mO, Pl.kP]
     rw [if_neg (by omega), if_neg (by omega)]
     simp
    ·refine ⟨c, hs _ h1', fun h' => absurd h' hlt, ?_⟩
     refine Ev.step (fun k => by rw [fQ.l0]) ?_
     simp only [Pl.lY, Pl.mO, Pl.kP, wJ]
     rw [if_pos (by omega), if_pos (by omega), if_pos (by omega), Md p i _ (by omega) (by omega)]
     exact h3'
def qj (p : List StE) (i : Nat) : Prop := (i = 0 → prE p i = -1) ∧ (0 < i → 0 ≤ prE p i ∧ prE p i ≤ (i : Int) - 1)
instance (p : List StE) (i : Nat) : Decidable (qj p i) := by unfold qj; infer_instance
theorem BP {p : List StE} {i : Nat} (hi : i < p.length) (h24 : p.length ≤ 40) (h : nX p i) :
  (¬ qj p i ∧ Ev (fun k => fQ.f k (plE p i) (dlE p i) (prE p i)) (3, plE p i, dlE p i)) ∨
  (qj p i ∧ ∃ b : Bool, (0 < i → Ev (fun k => jb.f k p i) b) ∧ (i = 0 → b = true) ∧ Ev (fun k => fQ.f k (plE p i) (dlE p i) (prE p i)) (if b = true then (0, plE p (i + 1), dlE p (i + 1)) else (1, plE p i, dlE p i))) := by
 have go : ∀ (bad : Bool) r, Ev (fun k => fQ.j0 k (prE p i) (i : Int) bad (plE p i) (dlE p i)) r → bad = decide (¬ qj p i) → Ev (fun k => fQ.f k (plE p i) (dlE p i) (prE p i)) r := by
  intro bad r hr hb
  unfold fQ.f
  simp only [Pl.lY, Pl.mO, Pl.kP, wJ, uj, Option.bind_some]
  unfold qj at hb
  by_cases h0 : i = 0
  ·subst h0
   rw [if_pos (by omega)]
   by_cases hq : prE p ((0 : Nat) : Int) = -1
   ·rw [if_pos hq, if_neg (by omega)]
    have : bad = false := by rw [hb]; simpa using hq
    subst this
    exact hr
   ·rw [if_neg hq]
    have : bad = true := by rw [hb]; simpa using hq
    subst this
    exact hr
  ·rw [if_neg (by omega), if_pos (by omega), Pl.wrap_in (by omega) (by omega)]
   have : bad = !decide (0 ≤ prE p i ∧ prE p i ≤ (i : Int) - 1) := by
    rw [hb, ← decide_not, decide_eq_decide]
    constructor
    ·intro h' h''
     exact h' ⟨fun h' => absurd h' h0, fun _ => h''⟩
    ·intro h' h''
     exact h' (h''.2 (by omega))
   rw [← this]
   exact hr
 by_cases hr : qj p i
 ·right
  refine ⟨hr, ?_⟩
  have hq : -1 ≤ prE p i ∧ prE p i < i := by
   by_cases h0 : i = 0
   ·have := hr.1 h0; omega
   ·have := hr.2 (by omega); omega
  obtain ⟨b, b1, b2, b3⟩ := GK hi h24 h hq.1 hq.2 _ ((i : Int) - 1) rfl (by omega) (by omega)
  refine ⟨b, fun h0 => ?_, fun h0 => ?_, ?_⟩
  ·unfold jb.f
   rw [Pl.wrap_in (by omega) (by omega)]
   have := hr.2 h0
   have e : (b && decide (0 ≤ prE p i)) = b := by rw [decide_eq_true this.1, Bool.and_true]
   rwa [e] at b1
  ·subst h0
   have hq := hr.1 rfl
   cases b
   ·exfalso
    have f2 : Ev (fun k => fQ.l0 k (prE p ((0 : Nat) : Int)) (((0 : Nat) : Int) - 1) (plE p 0) (dlE p 0)) (0, [-1], [1]) := by
     refine Ev.step (fun k => by rw [fQ.l0]) ?_
     simp only [Pl.lY, Pl.mO, Pl.kP, Option.bind_some, wJ, yG, List.length_singleton]
     rw [hq]
     simp [plE, dlE]
    have := Pl.E8 f2 b3
    simp at this
   ·rfl
  ·refine go false _ ?_ (by simpa using hr)
   refine Ev.step (fun k => by rw [fQ.j0]) ?_
   simp only [Pl.lY, Pl.mO, Pl.kP]
   rw [if_neg (by simp), Pl.wrap_in (by omega) (by omega)]
   exact b3
 ·left
  refine ⟨hr, go true _ ?_ (by simpa using hr)⟩
  refine Ev.step (fun k => by rw [fQ.j0]) ?_
  simp only [Pl.lY, Pl.mO, Pl.kP]
  simp
theorem Hg {s : ByteArray} {l : List UInt8} (hl : s.data.toList = l) (hs : l.length < 9223372036854775807) : ∀ i, i ≤ l.length → Ev (fun k => iK.l0 k s (i : Int)) (bif (l.drop i).all Pl.jV then (if l = [] then 5 else if l.length > 8 then 2 else 0) else 5) := by
 have hz := Pl.rZ hl
 refine Pl.rF (g := fun k i => iK.l0 k s i) ?_ ?_
 ·refine Ev.step (fun k => by rw [iK.l0]) ?_
  simp only [Pl.lY, Pl.kP, Pl.uy hl, hz, Pl.drop_end, List.all_nil, cond_true]
  rw [if_neg (by omega)]
  split
  ·rfl
  ·split
   ·rw [if_pos (by omega)]
   ·rw [if_neg (by omega)]
 ·intro i hi ih
  refine Ev.step (fun k => by rw [iK.l0]) ?_
  rw [Pl.mf hi]
  simp only [Pl.lY, Pl.kP, Pl.mO, Pl.zM hl i hi, hz, Pl.kV (show i < 9223372036854775807 by omega), List.all_cons]
  rw [if_pos (by omega), if_pos (by omega)]
  by_cases h : Pl.jV l[i] = true
  ·have h' := of_decide_eq_true h
   rw [if_neg (by omega), if_neg (by omega), h, Bool.true_and]
   exact ih
  ·have h' : ¬ (97 ≤ (l[i]).toNat ∧ (l[i]).toNat ≤ 122) := fun e => h (decide_eq_true e)
   rw [Bool.not_eq_true] at h
   rw [h, Bool.false_and, cond_false]
   split
   ·rfl
   ·rw [if_pos (by omega)]
theorem uU {s : ByteArray} {l : List UInt8} (hl : s.data.toList = l) (hs : l.length < 9223372036854775807) : Ev (fun k => iK.f k s) (Pl.kW l) := by
 have h := Hg hl hs 0 (Nat.zero_le _)
 unfold iK.f
 refine Pl.lJ h ?_
 rw [List.drop_zero]
 unfold Pl.kW
 split
 ·rename_i h0
  subst h0
  rfl
 ·cases l.all Pl.jV <;> rfl
theorem vW (c : UInt8) : ng.f (c.toNat : Int) = some (Pl.jV c) := by
 unfold ng.f Pl.jV
 by_cases h : (c.toNat : Int) ≥ 97
 ·rw [if_pos h]; congr 1; rw [decide_eq_decide]; omega
 ·rw [if_neg h]; congr 1; rw [eq_comm, decide_eq_false_iff_not]; omega
theorem Ej {s : ByteArray} {l : List UInt8} (hl : s.data.toList = l) (hs : l.length < 9223372036854775807) : ∀ i, i ≤ l.length → Ev (fun k => gV.l0 k s (l.length : Int) (i : Int)) ((l.drop i).all Pl.jV) := by
 have hz := Pl.rZ hl
 refine Pl.rF (g := fun k i => gV.l0 k s (l.length : Int) i) ?_ ?_
 ·refine Ev.step (fun k => by rw [gV.l0]) ?_
  simp [Pl.kP]
 ·intro i hi ih
  refine Ev.step (fun k => by rw [gV.l0]) ?_
  rw [Pl.mf hi]
  simp only [Pl.lY, Pl.kP, Pl.mO, Pl.zM hl i hi, hz, vW, Option.bind_some, Pl.kV (show i < 9223372036854775807 by omega), List.all_cons]
  rw [if_pos (by omega), if_pos (by omega), if_pos (by omega)]
  cases h : Pl.jV l[i]
  ·rfl
  ·simpa [h] using ih
theorem vw {s : ByteArray} {l : List UInt8} (hl : s.data.toList = l) (hs : l.length < 9223372036854775807) : Ev (fun k => jw.f k s) (Pl.kW l) := by
 have hz := Pl.rZ hl
 have h := Ej hl hs 0 (Nat.zero_le _)
 rw [List.drop_zero, ← hz] at h
 unfold jw.f
 simp only [oz, Option.bind_some, Pl.lY, Pl.uy hl]
 unfold Pl.kW
 split
 ·refine Pl.iw (lw _ (by simp)) ?_
  simp [Pl.kP, Pl.lN]
 ·refine Pl.iw h ?_
  refine Pl.iw (lw _ (by simp)) ?_
  simp only [Pl.kP, Pl.lN, hz]
  cases h1 : l.all Pl.jV
  ·simp
  ·by_cases h2 : l.length > 8
   ·simp [h2]; rw [if_neg (by omega), if_pos (by omega)]
   ·simp [h2]; omega
def uO (c : UInt8) : Option ByteArray :=
 if c = 34 then some ⟨#[38, 113, 117, 111, 116, 59]⟩ else if c = 38 then some ⟨#[38, 97, 109, 112, 59]⟩ else if c = 62 then some ⟨#[38, 103, 116, 59]⟩ else if c = 60 then some ⟨#[38, 108, 116, 59]⟩ else none
def wW (c : UInt8) : List UInt8 := match uO c with | some t => t.data.toList | none => [c]
def nR (l : List UInt8) : List UInt8 := l.flatMap wW
def zS (s : ByteArray) : ByteArray := ⟨(nR s.data.toList).toArray⟩
theorem qN (c : UInt8) : (c = 34 ∧ uO c = some ⟨#[38, 113, 117, 111, 116, 59]⟩) ∨ (c = 38 ∧ uO c = some ⟨#[38, 97, 109, 112, 59]⟩) ∨ (c = 62 ∧ uO c = some ⟨#[38, 103, 116, 59]⟩) ∨ (c = 60 ∧ uO c = some ⟨#[38, 108, 116, 59]⟩) ∨ (c ≠ 34 ∧ c ≠ 38 ∧ c ≠ 62 ∧ c ≠ 60 ∧ uO c = none) := by
 unfold uO
 by_cases h1 : c = 34
 ·exact .inl ⟨h1, if_pos h1⟩
 by_cases h2 : c = 38
 ·exact .inr (.inl ⟨h2, by rw [if_neg h1, if_pos h2]⟩)
 by_cases h3 : c = 62
 ·exact .inr (.inr (.inl ⟨h3, by rw [if_neg h1, if_neg h2, if_pos h3]⟩))
 by_cases h4 : c = 60
 ·exact .inr (.inr (.inr (.inl ⟨h4, by rw [if_neg h1, if_neg h2, if_neg h3, if_pos h4]⟩)))
 ·exact .inr (.inr (.inr (.inr ⟨h1, h2, h3, h4, by rw [if_neg h1, if_neg h2, if_neg h3, if_neg h4]⟩)))
theorem Em {c : UInt8} {t : ByteArray} (h : uO c = some t) : 4 ≤ t.size ∧ t.size ≤ 6 := by
 rcases qN c with ⟨rfl, e⟩ | ⟨rfl, e⟩ | ⟨rfl, e⟩ | ⟨rfl, e⟩ | ⟨_, _, _, _, e⟩ <;> rw [e] at h
 ·obtain rfl := Option.some.inj h; decide
 ·obtain rfl := Option.some.inj h; decide
 ·obtain rfl := Option.some.inj h; decide
 ·obtain rfl := Option.some.inj h; decide
 ·cases h
theorem mi {c : UInt8} {t : ByteArray} (h : uO c = some t) : wW c = t.data.toList := by unfold wW; rw [h]
theorem sZ {c : UInt8} (h : uO c = none) : wW c = [c] := by unfold wW; rw [h]
theorem BR (c : UInt8) : 1 ≤ (wW c).length ∧ (wW c).length ≤ 6 := by
 cases h : uO c with
 | none => rw [sZ h]; simp
 | some t =>
  have := Em h
  rw [mi h]
  have e : t.data.toList.length = t.size := rfl
  omega
theorem xq (c : UInt8) (l : List UInt8) : nR (c :: l) = wW c ++ nR l := by simp [nR]
theorem Ci (a b : List UInt8) : nR (a ++ b) = nR a ++ nR b := by simp [nR]
theorem F6 (l : List UInt8) (i : Nat) (hi : i < l.length) : nR (l.take (i + 1)) = nR (l.take i) ++ wW l[i] := by
 rw [List.take_succ_eq_append_getElem hi, Ci, xq]
 simp [nR]
theorem uT : ∀ l : List UInt8, l.length ≤ (nR l).length ∧ (nR l).length ≤ 6 * l.length
 | [] => by simp [nR]
 | c :: l => by
  have h1 := uT l
  have h2 := BR c
  rw [xq, List.length_append, List.length_cons]
  omega
/-! values -/
theorem Dw (c : UInt8) : jZ.f (c.toNat : Int) = some (Pl.nJ c) := by
 unfold jZ.f Pl.nJ
 by_cases h : (c.toNat : Int) ≥ 32
 ·rw [if_pos h]; congr 1; rw [decide_eq_decide]; omega
 ·rw [if_neg h]; congr 1; rw [eq_comm, decide_eq_false_iff_not]; omega
theorem isPrint_eq (c : UInt8) : l7.f (c.toNat : Int) = some (Pl.nJ c) := by
 unfold l7.f Pl.nJ
 by_cases h : (c.toNat : Int) ≥ 32
 ·rw [if_pos h]; congr 1; rw [decide_eq_decide]; omega
 ·rw [if_neg h]; congr 1; rw [eq_comm, decide_eq_false_iff_not]; omega
theorem DR {s : ByteArray} {l : List UInt8} (hl : s.data.toList = l) : Ev (fun k => ji.f k s) (Pl.pU l) := by
 have hz := Pl.rZ hl
 unfold ji.f Pl.pU
 by_cases h40 : l.length > 40
 ·rw [if_pos h40]
  exact Pl.fA (by omega) (Ev.now _)
 ·rw [if_neg h40]
  refine Pl.fG (by omega) ?_
  have main := Pl.rF (n := l.length) (g := fun k i => ji.l0 k s i) (F := fun i => if (l.drop i).all Pl.nJ = true then (0 : Int) else 5) ?_ ?_ 0 (Nat.zero_le _)
  ·simpa using main
  ·refine Ev.step (fun k => by rw [ji.l0]) ?_
   refine Pl.fG (by omega) (Pl.lJ (Ev.now _) (by simp))
  ·intro i hi ih
   refine Ev.step (fun k => by rw [ji.l0]) ?_
   rw [Pl.mf hi, Pl.zM hl i hi, Pl.kV (show i < 9223372036854775807 by omega)]
   simp only [Dw, Option.bind_some, List.all_cons]
   refine Pl.fA (by omega) (Pl.fA (by omega) ?_)
   by_cases h : Pl.nJ l[i] = true
   ·exact Pl.fA h (Pl.lJ ih (by simp [h]))
   ·exact Pl.fG h (Pl.lJ (Ev.now _) (by simp [h]))
theorem D6 {s : ByteArray} {l : List UInt8} (hl : s.data.toList = l) (hs : l.length < 9223372036854775807) : Ev (fun k => gU.f k s) (l.all Pl.nJ) := by
 have hz := Pl.rZ hl
 unfold gU.f
 rw [hz]
 have main := Pl.rF (n := l.length) (g := fun k i => gU.l0 k s (l.length : Int) i) (F := fun i => (l.drop i).all Pl.nJ) ?_ ?_ 0 (Nat.zero_le _)
 ·simpa using main
 ·refine Ev.step (fun k => by rw [gU.l0]) ?_
  exact Pl.fG (by omega) (Pl.lJ (Ev.now _) (by simp))
 ·intro i hi ih
  refine Ev.step (fun k => by rw [gU.l0]) ?_
  rw [Pl.mf hi, Pl.zM hl i hi, Pl.kV (show i < 9223372036854775807 by omega)]
  simp only [isPrint_eq, Option.bind_some, List.all_cons]
  refine Pl.fA (by omega) (Pl.fA (by omega) (Pl.fA (by omega) ?_))
  cases h : Pl.nJ l[i]
  ·exact Pl.fG (by simp) (Ev.now _)
  ·refine Pl.fA rfl ?_
   rw [Bool.true_and]
   exact ih
theorem AV {s : ByteArray} {l : List UInt8} (hl : s.data.toList = l) (hs : l.length < 9223372036854775807) : Ev (fun k => kM.f k s) (Pl.pU l) := by
 have hz := Pl.rZ hl
 unfold kM.f
 simp only [oz, Option.bind_some]
 refine Pl.iw (D6 hl hs) ?_
 refine Pl.iw (lw _ (by simp)) (Pl.lJ (Ev.now _) ?_)
 unfold Pl.pU
 by_cases h40 : l.length > 40
 ·rw [if_pos h40]
  simp [Pl.lN, hz]
  omega
 ·rw [if_neg h40]
  cases l.all Pl.nJ
  ·simp [Pl.lN, hz]
   omega
  ·simp [Pl.lN, hz]
   omega
/-! the written form -/
theorem vJ (L M : List UInt8) : (⟨L.toArray⟩ : ByteArray) ++ ⟨M.toArray⟩ = ⟨(L ++ M).toArray⟩ := by
 apply ByteArray.ext
 rw [ByteArray.data_append]
 simp
theorem Dc (s : ByteArray) (i : Nat) (hi : i < s.data.toList.length) : s.extract i (i + 1) = ⟨[s.data.toList[i]].toArray⟩ := by
 apply ByteArray.ext
 rw [ByteArray.data_extract]
 have hi' : i < s.data.size := by simpa using hi
 have hzz : s.data.size = s.size := rfl
 apply Array.ext
 ·simp
  omega
 ·intro k h1 h2
  have : k = 0 := by simp at h2; exact h2
  subst this
  simp
theorem CZ (L : List UInt8) : (⟨L.toArray⟩ : ByteArray).size = L.length := by simp [ByteArray.size]
theorem Eg (s : ByteArray) (hs : s.size ≤ 1000000) : Ev (fun k => iZ.f k s) (zS s) := by
 have hz : s.data.toList.length = s.size := rfl
 unfold iZ.f
 have main := Pl.loop (n := s.data.toList.length) (g := fun k i acc => iZ.l0 k s acc i) (F := fun _ _ => zS s) (fun i acc => acc = ⟨(nR (s.data.toList.take i)).toArray⟩) ?_ ?_ 0 (⟨#[]⟩ : ByteArray) (Nat.zero_le _) rfl
 ·exact main
 ·rintro acc rfl
  refine Ev.step (fun k => by rw [iZ.l0]) ?_
  refine Pl.fG (by omega) (Pl.lJ (Ev.now _) ?_)
  rw [List.take_length]
  rfl
 ·rintro i acc hi rfl ih
  refine Ev.step (fun k => by rw [iZ.l0]) ?_
  have hle := (uT (s.data.toList.take i)).2
  have hlt : (s.data.toList.take i).length = i := List.length_take_of_le (Nat.le_of_lt hi)
  have hst := F6 s.data.toList i hi
  rw [Pl.zM rfl i hi, Pl.kV (show i < 9223372036854775807 by omega)]
  refine Pl.fA (by omega) (Pl.fA (by omega) ?_)
  rw [CZ]
  rcases qN s.data.toList[i] with ⟨e, e2⟩ | ⟨e, e2⟩ | ⟨e, e2⟩ | ⟨e, e2⟩ | ⟨n1, n2, n3, n4, e2⟩
  ·rw [e]
   refine Pl.fG (by decide) (Pl.fG (by decide) (Pl.fG (by decide) (Pl.fA (by decide) (Pl.fA (by omega) ?_))))
   refine ih _ ?_
   rw [hst, mi e2]
   exact vJ _ [38, 113, 117, 111, 116, 59]
  ·rw [e]
   refine Pl.fG (by decide) (Pl.fG (by decide) (Pl.fA (by decide) (Pl.fA (by omega) ?_)))
   refine ih _ ?_
   rw [hst, mi e2]
   exact vJ _ [38, 97, 109, 112, 59]
  ·rw [e]
   refine Pl.fG (by decide) (Pl.fA (by decide) (Pl.fA (by omega) ?_))
   refine ih _ ?_
   rw [hst, mi e2]
   exact vJ _ [38, 103, 116, 59]
  ·rw [e]
   refine Pl.fA (by decide) (Pl.fA (by omega) ?_)
   refine ih _ ?_
   rw [hst, mi e2]
   exact vJ _ [38, 108, 116, 59]
  ·have ne : ∀ m : UInt8, s.data.toList[i] ≠ m → ((s.data.toList[i].toNat : Nat) : Int) ≠ ((m.toNat : Nat) : Int) := fun m h e => h (UInt8.toNat_inj.1 (by omega))
   refine Pl.fG (ne 60 n4) (Pl.fG (ne 62 n3) (Pl.fG (ne 38 n2) (Pl.fG (ne 34 n1) (Pl.fA (by omega) (Pl.fA (by omega) ?_)))))
   have ex : s.extract (i : Int).toNat ((i : Int) + 1).toNat = ⟨[s.data.toList[i]].toArray⟩ := by
    rw [show ((i : Int)).toNat = i by omega, show ((i : Int) + 1).toNat = i + 1 by omega]
    exact Dc s i hi
   rw [ex, CZ]
   refine Pl.fA (by simp; omega) ?_
   refine ih _ ?_
   rw [hst, sZ e2]
   exact vJ _ _
abbrev At := S38
/-! values -/
def nz : List At → List UInt8 → Nat → Int
 | [], _, _ => -1
 | y :: l, s, i => if y.f0.toList = s then (i : Int) else nz l s (i + 1)
theorem uB (l : List At) (hl : l.length ≤ 1048576) (s : ByteArray) : Ev (fun k => iP.f k l s) (nz l s.toList 0) := by
 unfold iP.f
 have main := Pl.rF (n := l.length) (g := fun k i => iP.l0 k l s i) (F := fun i => nz (l.drop i) s.toList i) ?_ ?_ 0 (Nat.zero_le _)
 ·simpa using main
 ·refine Ev.step (fun k => by rw [iP.l0]) ?_
  rw [List.drop_length]
  exact Pl.fG (by omega) (Ev.now _)
 ·intro i hi ih
  refine Ev.step (fun k => by rw [iP.l0]) ?_
  rw [Pl.mf hi, Pl.kV (show i < 9223372036854775807 by omega), qg l i hi]
  refine Pl.fA (by omega) (Pl.fA (by omega) ?_)
  by_cases h : l[i].f0.toList = s.toList
  ·exact Pl.lJ (Pl.fA h (Ev.now _)) (by rw [nz, if_pos h])
  ·exact Pl.lJ (Pl.fG h ih) (by rw [nz, if_neg h])
theorem AZ (l : List At) (hl : l.length ≤ 1048576) (s : ByteArray) : Ev (fun k => fM.f k l s) (nz l s.toList 0) := by
 unfold fM.f
 have main := Pl.rF (n := l.length) (g := fun k i => fM.l0 k l (l.length : Int) i s) (F := fun i => nz (l.drop i) s.toList i) ?_ ?_ 0 (Nat.zero_le _)
 ·simpa using main
 ·refine Ev.step (fun k => by rw [fM.l0]) ?_
  rw [List.drop_length]
  exact Pl.fG (by omega) (Ev.now _)
 ·intro i hi ih
  refine Ev.step (fun k => by rw [fM.l0]) ?_
  rw [Pl.mf hi, Pl.kV (show i < 9223372036854775807 by omega), qg l i hi]
  refine Pl.fA (by omega) (Pl.fA (by omega) (Pl.fA (by omega) ?_))
  refine Pl.iw (a := (l[i].f0.toList == s.toList)) (Ev.now _) ?_
  by_cases h : l[i].f0.toList = s.toList
  ·exact Pl.lJ (Pl.fA (beq_iff_eq.2 h) (Ev.now _)) (by rw [nz, if_pos h])
  ·exact Pl.lJ (Pl.fG (by simpa using h) ih) (by rw [nz, if_neg h])
theorem wV (l : List At) (hl : l.length ≤ 1048576) (s : ByteArray) : Ev (fun k => kQ.f k l s) (decide (nz l s.toList 0 ≥ 0)) := by
 unfold kQ.f iG.f
 exact Pl.iw (Pl.iw (AZ l hl s) (Ev.now _)) (Ev.now _)
def wC (l : List At) (i : Nat) (x : At) : Int := Pl.lN [Pl.kW x.f0.data.toList, if nz (l.take i) x.f0.toList 0 ≥ 0 then 6 else 0, Pl.pU x.f1.data.toList]
def qm (l : List At) : Nat → List At → Int
 | _, [] => 0
 | i, x :: r => if wC l i x = 0 then qm l (i + 1) r else wC l i x
def okA (l : List At) : Prop := l.length ≤ 1048576 ∧ ∀ y ∈ l, y.f0.size ≤ 1048576 ∧ y.f1.size ≤ 1048576
theorem Kq (a b c : Int) : Pl.lN [a, b, c] = if a = 0 then (if b = 0 then c else b) else a := by
 unfold Pl.lN Pl.lN Pl.lN Pl.lN
 by_cases ha : a = 0
 ·rw [if_pos ha, if_pos ha]
  by_cases hb : b = 0
  ·rw [if_pos hb, if_pos hb]
   by_cases hc : c = 0
   ·rw [if_pos hc, hc]
   ·rw [if_neg hc]
  ·rw [if_neg hb, if_neg hb]
 ·rw [if_neg ha, if_neg ha]
theorem Bg (l : List At) (h : okA l) : Ev (fun k => je.f k l) (qm l 0 l) := by
 obtain ⟨hl, hb⟩ := h
 unfold je.f
 have main := Pl.rF (n := l.length) (g := fun k i => je.l0 k l i) (F := fun i => qm l i (l.drop i)) ?_ ?_ 0 (Nat.zero_le _)
 ·simpa using main
 ·refine Ev.step (fun k => by rw [je.l0]) ?_
  rw [List.drop_length]
  exact Pl.fG (by omega) (Ev.now _)
 ·intro i hi ih
  obtain ⟨b1, b2⟩ := hb _ (List.getElem_mem hi)
  have z1 : l[i].f0.data.toList.length < 9223372036854775807 := by rw [Pl.jy]; omega
  refine Ev.step (fun k => by rw [je.l0]) ?_
  rw [Pl.mf hi, Pl.kV (show i < 9223372036854775807 by omega), qg l i hi, Int.toNat_natCast]
  refine Pl.fA (by omega) (Pl.fA (by omega) (Pl.iw (uU rfl z1) ?_))
  unfold qm wC
  rw [Kq]
  by_cases hn : Pl.kW l[i].f0.data.toList = 0
  ·refine Pl.fA hn (Pl.fA (by omega) (Pl.iw (uB (l.take i) (by rw [List.length_take]; omega) _) ?_))
   rw [if_pos hn]
   by_cases hf : nz (l.take i) l[i].f0.toList 0 ≥ 0
   ·simp only [if_pos hf]
    exact Pl.lJ (Ev.now _) (by simp)
   ·simp only [if_neg hf, if_true]
    refine Pl.iw (DR rfl) ?_
    by_cases hv : Pl.pU l[i].f1.data.toList = 0
    ·exact Pl.lJ (Pl.fA hv ih) (by rw [if_pos hv])
    ·exact Pl.lJ (Pl.fG hv (Ev.now _)) (by rw [if_neg hv])
  ·exact Pl.lJ (Pl.fG hn (Ev.now _)) (by rw [if_neg hn, if_neg hn])
theorem AL (l : List At) (h : okA l) : Ev (fun k => ik.f k l) (qm l 0 l) := by
 obtain ⟨hl, hb⟩ := h
 unfold ik.f
 have main := Pl.rF (n := l.length) (g := fun k i => ik.l0 k l l (l.length : Int) i) (F := fun i => qm l i (l.drop i)) ?_ ?_ 0 (Nat.zero_le _)
 ·simpa using main
 ·refine Ev.step (fun k => by rw [ik.l0]) ?_
  rw [List.drop_length]
  exact Pl.fG (by omega) (Ev.now _)
 ·intro i hi ih
  obtain ⟨b1, b2⟩ := hb _ (List.getElem_mem hi)
  have z1 : l[i].f0.data.toList.length < 9223372036854775807 := by rw [Pl.jy]; omega
  have z2 : l[i].f1.data.toList.length < 9223372036854775807 := by rw [Pl.jy]; omega
  refine Ev.step (fun k => by rw [ik.l0]) ?_
  rw [Pl.mf hi, Pl.kV (show i < 9223372036854775807 by omega), qg l i hi, Int.toNat_natCast]
  refine Pl.fA (by omega) (Pl.fA (by omega) (Pl.fA (by omega) (Pl.iw (vw rfl z1) (Pl.fA (by omega) (Pl.iw (wV (l.take i) (by rw [List.length_take]; omega) _) ?_)))))
  simp only [oz, Option.bind_some]
  refine Pl.iw (AV rfl z2) (Pl.iw (lw _ (by simp)) ?_)
  rw [show Pl.lN [Pl.kW l[i].f0.data.toList, if decide (nz (l.take i) l[i].f0.toList 0 ≥ 0) = true then (6 : Int) else 0, Pl.pU l[i].f1.data.toList] = wC l i l[i] from by unfold wC; simp only [decide_eq_true_eq]]
  unfold qm
  by_cases hc : wC l i l[i] = 0
  ·exact Pl.lJ (Pl.fA hc ih) (by rw [if_pos hc])
  ·exact Pl.lJ (Pl.fG hc (Ev.now _)) (by rw [if_neg hc])
/-! elements -/
abbrev rdE (p : List StE) (j : Int) : StE := fJ p j
def BA (p : List StE) : Prop := ∀ i : Nat, i < p.length → (rdE p i).f0.size ≤ 1048576 ∧ okA (rdE p i).f2
theorem xQ (a b : Int) : Pl.lN [a, b] = if a = 0 then b else a := by
 unfold Pl.lN Pl.lN Pl.lN
 by_cases ha : a = 0
 ·by_cases hb : b = 0
  ·rw [if_pos ha, if_pos hb, if_pos ha, hb]
  ·rw [if_pos ha, if_neg hb, if_pos ha]
 ·rw [if_neg ha, if_neg ha]
def EU (p : List StE) (i : Nat) : Prop := Pl.kW (rdE p i).f0.data.toList = 0 ∧ (rdE p i).f2.length ≤ 6 ∧ qm (rdE p i).f2 0 (rdE p i).f2 = 0
theorem JS {p : List StE} {i : Nat} (hi : i < p.length) (h40 : p.length ≤ 40) (h : nX p i) (hz : BA p) :
  ∃ c : Int, (∀ R, (c ≠ 0 → R = c) → (c = 0 → Ev (fun k => gp.l0 k p ((i : Int) + 1)) R) → Ev (fun k => gp.l0 k p i) R) ∧
   (∀ R, (c ≠ 0 → R = c) → (c = 0 → Ev (fun k => gq.l0 k p (p.length : Int) ((i : Int) + 1) (plE p (i + 1)) (dlE p (i + 1))) R) → Ev (fun k => gq.l0 k p (p.length : Int) i (plE p i) (dlE p i)) R) ∧ (c = 0 → nX p (i + 1) ∧ EU p i) := by
 obtain ⟨hz1, hz2⟩ := hz i hi
 have z1 : (rdE p i).f0.data.toList.length < 9223372036854775807 := by rw [Pl.jy]; omega
 -- the reference, behind the name
 have spec : ∀ R, (Pl.kW (rdE p i).f0.data.toList ≠ 0 → R = Pl.kW (rdE p i).f0.data.toList) → (Pl.kW (rdE p i).f0.data.toList = 0 → ∀ bad : Bool, (bad = true ↔ ¬ qj p i) → Ev (fun k => gp.j2 k p i bad) R) → Ev (fun k => gp.l0 k p i) R := by
  intro R h1 h2
  refine Ev.step (fun k => by rw [gp.l0]) ?_
  refine Pl.fA (by omega) (Pl.fA (by omega) (Pl.iw (uU rfl z1) ?_))
  by_cases hn : Pl.kW (rdE p i).f0.data.toList = 0
  ·refine Pl.fA hn ?_
   have h3 := h2 hn
   by_cases h0 : i = 0
   ·refine Pl.fA (by omega) ?_
    by_cases hq : prE p i = -1
    ·refine Pl.fA hq (Pl.fG (by omega) ?_)
     exact h3 false ⟨fun h' => by simp at h', fun h' => absurd ⟨fun _ => hq, fun h'' => by omega⟩ h'⟩
    ·refine Pl.fG hq ?_
     exact h3 true ⟨fun _ h' => hq (h'.1 h0), fun _ => rfl⟩
   ·refine Pl.fG (by omega) (Pl.fA (by omega) ?_)
    simp only [Jc, Option.bind_some]
    rw [Pl.wrap_in (by omega) (by omega)]
    refine h3 _ ⟨fun h' h'' => ?_, fun h' => ?_⟩
    ·have := h''.2 (by omega)
     simp only [Bool.not_eq_true', decide_eq_false_iff_not] at h'
     exact h' this
    ·simp only [Bool.not_eq_true', decide_eq_false_iff_not]
     exact fun h'' => h' ⟨fun h0' => absurd h0' h0, fun _ => h''⟩
  ·rw [h1 hn]
   exact Pl.fG hn (Ev.now _)
 have implpre : ∀ (nc : Int) (L1 L2 : List Int) R, Ev (fun k => fQ.f k (plE p i) (dlE p i) (prE p i)) (nc, L1, L2) → ((if Pl.kW (rdE p i).f0.data.toList = 0 then nc else Pl.kW (rdE p i).f0.data.toList) ≠ 0 → R = (if Pl.kW (rdE p i).f0.data.toList = 0 then nc else Pl.kW (rdE p i).f0.data.toList)) →
   (Pl.kW (rdE p i).f0.data.toList = 0 → nc = 0 → Ev (fun k => (lg.f L1 L2).bind fun bt243 => (if bt243.1 > 8 then ((iH.f true 2).bind fun t250 => ((ik.f k ((rdE p i).f2)).bind fun t251 => ((fP.f k (([t250, t251] : List Int))).bind fun t255 => (if t255 = 0 then (gq.l0 k p (p.length : Int) ((i : Int) + 1) bt243.2.1 bt243.2.2) else (some t255))))) else ((iH.f (decide ((((rdE p i).f2).length : Int) > 6)) 2).bind fun t256 => ((ik.f k ((rdE p i).f2)).bind fun t257 => ((fP.f k (([t256, t257] : List Int))).bind fun t261 => (if t261 = 0 then (gq.l0 k p (p.length : Int) ((i : Int) + 1) bt243.2.1 bt243.2.2) else (some t261))))))) R) → Ev (fun k => gq.l0 k p (p.length : Int) i (plE p i) (dlE p i)) R := by
  intro nc L1 L2 R hn h1 h2
  refine Ev.step (fun k => by rw [gq.l0]) ?_
  rw [Pl.kV (show i < 9223372036854775807 by omega)]
  refine Pl.fA (by omega) (Pl.fA (by omega) (Pl.fA (by omega) (Pl.iw (vw rfl z1) (Pl.iw hn (Pl.iw (lw _ (by simp)) ?_)))))
  rw [xQ]
  by_cases hc : (if Pl.kW (rdE p i).f0.data.toList = 0 then nc else Pl.kW (rdE p i).f0.data.toList) = 0
  ·have hn0 : Pl.kW (rdE p i).f0.data.toList = 0 := by
    by_cases q : Pl.kW (rdE p i).f0.data.toList = 0
    ·exact q
    ·rw [if_neg q] at hc; exact absurd hc q
   have hc' := hc
   rw [if_pos hn0] at hc'
   exact Pl.fA hc (h2 hn0 hc')
  ·rw [h1 hc]
   exact Pl.fG hc (Ev.now _)
 by_cases hn : Pl.kW (rdE p i).f0.data.toList = 0
 ·rcases BP hi h40 h with ⟨hr, nx⟩ | ⟨hr, b, b1, b2, nx⟩
  ·refine ⟨3, fun R h1 _ => spec R (fun h' => absurd hn h') (fun _ bad hbad => ?_), fun R h1 _ => implpre 3 _ _ R nx (fun _ => ?_) (fun _ h' => absurd h' (by omega)), fun h' => absurd h' (by omega)⟩
   ·obtain rfl := hbad.2 hr
    rw [h1 (by omega)]
    refine Ev.step (fun k => by rw [gp.j2]) ?_
    exact Pl.fA rfl (Ev.now _)
   ·rw [if_pos hn]
    exact h1 (by omega)
  ·have j2 : ∀ R, (b = true → Ev (fun k => gp.j3 k p i false) R) → (b = false → R = 1) → ∀ bad : Bool, (bad = true ↔ ¬ qj p i) → Ev (fun k => gp.j2 k p i bad) R := by
    intro R h1 h2 bad hbad
    obtain rfl : bad = false := by cases bad; rfl; exact absurd hr (hbad.1 rfl)
    refine Ev.step (fun k => by rw [gp.j2]) ?_
    refine Pl.fG (by simp) ?_
    by_cases h0 : i = 0
    ·exact Pl.fG (by omega) (h1 (b2 h0))
    ·refine Pl.fA (by omega) (Pl.iw (b1 (by omega)) ?_)
     cases hb : b
     ·rw [h2 hb]
      refine Ev.step (fun k => by rw [gp.j3]) ?_
      exact Pl.fA rfl (Ev.now _)
     ·exact h1 hb
   cases hb : b
   ·rw [hb] at nx
    refine ⟨1, fun R h1 _ => spec R (fun h' => absurd hn h') (fun _ => j2 R (fun h' => by rw [hb] at h'; cases h') (fun _ => h1 (by omega))), fun R h1 _ => implpre 1 _ _ R nx (fun _ => ?_) (fun _ h' => absurd h' (by omega)), fun h' => absurd h' (by omega)⟩
    rw [if_pos hn]
    exact h1 (by omega)
   ·rw [hb] at nx
    have ht : nX p (i + 1) := by
     intro j hj
     by_cases hj' : j < i
     ·exact h j hj'
     ·obtain rfl : j = i := by omega
      exact hr
    have hdl := uz ht _ (i : Int) rfl (by omega) (by omega)
    have hdeep := wX ht (by omega) (by omega) _ (i : Int) rfl (by omega) (by omega) 0 (by omega) (by omega)
    rw [Int.zero_add] at hdeep
    have hlast : lg.f (plE p (i + 1)) (dlE p (i + 1)) = some (oZ p i, plE p (i + 1), dlE p (i + 1)) := by
     unfold lg.f
     rw [yG, Pl.wrap_in (by omega) (by omega), if_pos (by omega), if_pos (by omega), show (((i + 1 : Nat) : Int) - 1) = (i : Int) from by omega, Gz p (i + 1) _ (by omega) (by omega)]
    have sA := Bg _ hz2
    have mA := AL _ hz2
    by_cases hm : oZ p i > 8 ∨ ((rdE p i).f2.length : Int) > 6
    ·have j4 : Ev (fun k => gp.j4 k p i true) 2 := by
      refine Ev.step (fun k => by rw [gp.j4]) ?_
      exact Pl.fA rfl (Ev.now _)
     refine ⟨2, fun R h1 _ => spec R (fun h' => absurd hn h') (fun _ => j2 R (fun _ => ?_) (fun h' => by rw [hb] at h'; cases h')), fun R h1 _ => implpre 0 _ _ R nx (fun h' => absurd (if_pos hn) h') (fun _ _ => ?_), fun h' => absurd h' (by omega)⟩
     ·rw [h1 (by omega)]
      refine Ev.step (fun k => by rw [gp.j3]) ?_
      refine Pl.fG (by simp) (Pl.iw (by unfold ja.f; exact hdeep) ?_)
      by_cases hd : oZ p i > 8
      ·exact Pl.fA hd j4
      ·refine Pl.fG hd (Pl.fA (by omega) (Pl.fA (by omega) ?_))
       rw [decide_eq_true (show ((fJ p (i : Int)).f2.length : Int) > 6 from hm.resolve_left hd)]
       exact j4
     ·rw [h1 (by omega)]
      simp only [hlast, oz, Option.bind_some]
      by_cases hd : oZ p i > 8
      ·refine Pl.fA hd (Pl.iw mA (Pl.iw (lw _ (by simp)) ?_))
       rw [xQ]
       exact Pl.fG (by simp) (Pl.lJ (Ev.now _) (by simp))
      ·refine Pl.fG hd (Pl.iw mA (Pl.iw (lw _ (by simp)) ?_))
       rw [xQ, decide_eq_true (hm.resolve_left hd)]
       exact Pl.fG (by simp) (Pl.lJ (Ev.now _) (by simp))
    ·have hd : ¬ oZ p i > 8 := fun h' => hm (Or.inl h')
     have ha : ¬ ((rdE p i).f2.length : Int) > 6 := fun h' => hm (Or.inr h')
     refine ⟨qm (rdE p i).f2 0 (rdE p i).f2, fun R h1 h2 => spec R (fun h' => absurd hn h') (fun _ => j2 R (fun _ => ?_) (fun h' => by rw [hb] at h'; cases h')), fun R h1 h2 => implpre 0 _ _ R nx (fun h' => absurd (if_pos hn) h') (fun _ _ => ?_), fun hc0 => ⟨ht, hn, by omega, hc0⟩⟩
     ·refine Ev.step (fun k => by rw [gp.j3]) ?_
      refine Pl.fG (by simp) (Pl.iw (by unfold ja.f; exact hdeep) ?_)
      refine Pl.fG hd (Pl.fA (by omega) (Pl.fA (by omega) ?_))
      rw [decide_eq_false (show ¬ ((fJ p (i : Int)).f2.length : Int) > 6 from ha)]
      refine Ev.step (fun k => by rw [gp.j4]) ?_
      rw [Pl.kV (show i < 9223372036854775807 by omega)]
      refine Pl.fG (by simp) (Pl.fA (by omega) (Pl.fA (by omega) (Pl.iw sA ?_)))
      by_cases hc : qm (rdE p i).f2 0 (rdE p i).f2 = 0
      ·exact Pl.fA hc (h2 hc)
      ·rw [h1 hc]
       exact Pl.fG hc (Ev.now _)
     ·simp only [hlast, oz, Option.bind_some]
      refine Pl.fG hd (Pl.iw mA (Pl.iw (lw _ (by simp)) ?_))
      rw [xQ, decide_eq_false ha]
      simp only [Bool.false_eq_true, if_false, if_true]
      by_cases hc : qm (rdE p i).f2 0 (rdE p i).f2 = 0
      ·exact Pl.fA hc (h2 hc)
      ·rw [h1 hc]
       exact Pl.fG hc (Ev.now _)
 ·refine ⟨Pl.kW (rdE p i).f0.data.toList, fun R h1 _ => spec R (fun h' => h1 h') (fun h' => absurd h' hn), fun R h1 _ => ?_, fun h' => absurd h' hn⟩
  rcases BP hi h40 h with ⟨hr, nx⟩ | ⟨hr, b, b1, b2, nx⟩
  ·exact implpre _ _ _ R nx (fun _ => by rw [if_neg hn]; exact h1 hn) (fun h' => absurd h' hn)
  ·cases hb : b
   ·rw [hb] at nx
    exact implpre _ _ _ R nx (fun _ => by rw [if_neg hn]; exact h1 hn) (fun h' => absurd h' hn)
   ·rw [hb] at nx
    exact implpre _ _ _ R nx (fun _ => by rw [if_neg hn]; exact h1 hn) (fun h' => absurd h' hn)
theorem tree_good (p : List StE) (hl : p.length ≤ 1048576) (hz : BA p) : ∃ c : Int, Ev (fun k => gp.f k p) c ∧ Ev (fun k => gq.f k p) c ∧ (c = 0 → (1 ≤ p.length ∧ p.length ≤ 40) ∧ nX p p.length ∧ ∀ i, i < p.length → EU p i) := by
 by_cases hb : 1 ≤ p.length ∧ p.length ≤ 40
 ·have main : ∀ d i : Nat, p.length - i = d → i ≤ p.length → nX p i → (∀ j, j < i → EU p j) → ∃ c : Int, Ev (fun k => gp.l0 k p i) c ∧ Ev (fun k => gq.l0 k p (p.length : Int) i (plE p i) (dlE p i)) c ∧ (c = 0 → (1 ≤ p.length ∧ p.length ≤ 40) ∧ nX p p.length ∧ ∀ i, i < p.length → EU p i) := by
   intro d
   induction d with
   | zero =>
    intro i hd hi ht hg
    obtain rfl : i = p.length := by omega
    refine ⟨0, ?_, ?_, fun _ => ⟨hb, ht, hg⟩⟩
    ·refine Ev.step (fun k => by rw [gp.l0]) ?_
     exact Pl.fG (by omega) (Ev.now _)
    ·refine Ev.step (fun k => by rw [gq.l0]) ?_
     exact Pl.fG (by omega) (Ev.now _)
   | succ d ih =>
    intro i hd hi ht hg
    obtain ⟨c, s, m, n⟩ := JS (show i < p.length by omega) hb.2 ht hz
    by_cases hc : c = 0
    ·obtain ⟨c2, s2, m2, n2⟩ := ih (i + 1) (by omega) (by omega) (n hc).1 (fun j hj => by
      by_cases hj' : j < i
      ·exact hg j hj'
      ·obtain rfl : j = i := by omega
       exact (n hc).2)
     rw [show ((i + 1 : Nat) : Int) = (i : Int) + 1 from by omega] at s2 m2
     exact ⟨c2, s c2 (fun h' => absurd hc h') (fun _ => s2), m c2 (fun h' => absurd hc h') (fun _ => m2), n2⟩
    ·exact ⟨c, s c (fun _ => rfl) (fun h' => absurd h' hc), m c (fun _ => rfl) (fun h' => absurd h' hc), fun h' => absurd h' hc⟩
  obtain ⟨c, s, m, n⟩ := main p.length 0 (by omega) (by omega) (fun j hj => absurd hj (by omega)) (fun j hj => absurd hj (by omega))
  refine ⟨c, ?_, ?_, n⟩
  ·unfold gp.f
   refine Pl.fG (by omega) ?_
   refine Ev.step (fun k => by rw [gp.j0]) ?_
   exact Pl.fG (by simp; omega) s
  ·unfold gq.f
   simp only [uj, Option.bind_some]
   exact Pl.fA (by simp; omega) m
 ·refine ⟨2, ?_, ?_, fun h' => absurd h' (by omega)⟩
  ·unfold gp.f
   have out : Ev (fun k => gp.j0 k p true) 2 := by
    refine Ev.step (fun k => by rw [gp.j0]) ?_
    exact Pl.fA rfl (Ev.now _)
   by_cases h1 : (p.length : Int) < 1
   ·exact Pl.fA h1 out
   ·refine Pl.fG h1 ?_
    rw [decide_eq_true (show (p.length : Int) > 40 by omega)]
    exact out
  ·unfold gq.f
   simp only [uj, Option.bind_some]
   exact Pl.fG (by simp; omega) (Ev.now _)
def oV (p : List StE) (a : Int) (n : Nat) : List Int := ((List.range n).filter fun (j : Nat) => decide (prE p (j : Int) = a)).map fun (j : Nat) => (j : Int)
theorem xg (p : List StE) (a : Int) (n : Nat) : (oV p a n).length ≤ n := by
 unfold oV
 rw [List.length_map]
 have := List.length_filter_le (fun (j : Nat) => decide (prE p (j : Int) = a)) (List.range n)
 simpa using this
theorem y9 (p : List StE) (a : Int) (n : Nat) : oV p a (n + 1) = oV p a n ++ (if prE p (n : Int) = a then [(n : Int)] else []) := by
 unfold oV
 rw [List.range_succ, List.filter_append, List.map_append]
 congr 1
 by_cases h : prE p (n : Int) = a
 ·simp [h]
 ·simp [h]
theorem Dq (p : List StE) (hl : p.length ≤ 1048576) (a : Int) : Ev (fun k => jf.f k p a) (oV p a p.length) := by
 unfold jf.f
 refine Pl.loop (σ := List Int) (n := p.length) (g := fun k i s => jf.l0 k p a s i) (F := fun _ _ => oV p a p.length) (fun i s => s = oV p a i) ?_ ?_ 0 [] (Nat.zero_le _) rfl
 ·intro s hs
  refine Ev.step (fun k => by rw [jf.l0]) ?_
  rw [hs]
  exact Pl.fG (by omega) (Ev.now _)
 ·intro i s hi hs ih
  have e := y9 p a i
  have hle := xg p a i
  refine Ev.step (fun k => by rw [jf.l0]) ?_
  rw [Pl.kV (show i < 9223372036854775807 by omega)]
  refine Pl.fA (by omega) (Pl.fA (by omega) ?_)
  by_cases h : prE p (i : Int) = a
  ·rw [if_pos h] at e
   exact Pl.fA h (Pl.fA (by rw [hs]; omega) (ih _ (by rw [hs, e])))
  ·rw [if_neg h, List.append_nil] at e
   exact Pl.fG h (ih _ (by rw [hs, e]))
theorem Dj (p : List StE) (hl : p.length ≤ 1048576) (ht : nX p p.length) (a : Int) (h0 : 0 ≤ a) : Ev (fun k => jo.f k p a) (oV p a p.length) := by
 unfold jo.f
 refine Pl.loop (σ := List Int) (n := p.length) (g := fun k i s => jo.l0 k a s p (p.length : Int) i) (F := fun _ _ => oV p a p.length) (fun i s => s = oV p a i) ?_ ?_ 0 [] (Nat.zero_le _) rfl
 ·intro s hs
  refine Ev.step (fun k => by rw [jo.l0]) ?_
  rw [hs]
  exact Pl.fG (by omega) (Ev.now _)
 ·intro i s hi hs ih
  have e := y9 p a i
  have hle := xg p a i
  refine Ev.step (fun k => by rw [jo.l0]) ?_
  rw [Pl.kV (show i < 9223372036854775807 by omega)]
  refine Pl.fA (by omega) (Pl.fA (by omega) (Pl.fA (by omega) ?_))
  by_cases h : prE p (i : Int) = a
  ·rw [if_pos h] at e
   have hi0 : 0 < i := by
    by_cases hz : i = 0
    ·have := (ht i hi).1 hz
     omega
    ·omega
   exact Pl.fA h (Pl.fA (by omega) (Pl.fA (by rw [hs]; omega) (ih _ (by rw [hs, e]))))
  ·rw [if_neg h, List.append_nil] at e
   exact Pl.fG h (ih _ (by rw [hs, e]))
theorem qy (b : UInt8) (l : List UInt8) (c : UInt8) : Lib.index (b :: l) [c] = if b = c then 0 else if Lib.index l [c] = -1 then -1 else Lib.index l [c] + 1 := by
 have e : [c].isPrefixOf (b :: l) = (b == c) := by
  simp only [List.isPrefixOf, Bool.and_true]
  rw [Bool.eq_iff_iff]
  simp only [beq_iff_eq]
  exact eq_comm
 rw [Lib.index, e]
 simp only [beq_iff_eq]
theorem Ag : ∀ l : List UInt8, (59 : UInt8) ∉ l → Lib.index l [59] = -1
 | [], _ => rfl
 | b :: l, h => by
  rw [List.mem_cons, not_or] at h
  rw [qy, if_neg (fun e => h.1 e.symm), Ag l h.2, if_pos rfl]
theorem Dl : ∀ N r : List UInt8, (59 : UInt8) ∉ N → Lib.index (N ++ 59 :: r) [59] = (N.length : Int)
 | [], r, _ => by
  rw [List.nil_append, qy, if_pos rfl]
  rfl
 | b :: N, r, h => by
  rw [List.mem_cons, not_or] at h
  rw [List.cons_append, qy, if_neg (fun e => h.1 e.symm), Dl N r h.2, if_neg (by omega), List.length_cons]
  omega
theorem JO (l : List UInt8) (h : (59 : UInt8) ∉ l) : Lib.cut l [59] = (l, [], false) := by
 unfold Lib.cut
 rw [Ag l h]
 rfl
theorem MB (N r : List UInt8) (h : (59 : UInt8) ∉ N) : Lib.cut (N ++ 59 :: r) [59] = (N, r, true) := by
 unfold Lib.cut
 rw [Dl N r h, if_pos (by omega)]
 simp
theorem yA (l : List UInt8) : (59 : UInt8) ∉ l ∨ ∃ N r, (59 : UInt8) ∉ N ∧ l = N ++ 59 :: r := by
 by_cases h : (59 : UInt8) ∈ l
 ·right
  obtain ⟨a, b, e, h⟩ := List.eq_append_cons_of_mem h
  exact ⟨a, b, h, e⟩
 ·exact .inl h
theorem ED : ∀ M N x r : List UInt8, (59 : UInt8) ∉ M → (59 : UInt8) ∉ N → M ++ 59 :: x = N ++ 59 :: r → M = N ∧ x = r
 | [], [], x, r, _, _, h => by simpa using h
 | [], b :: N, x, r, _, hN, h => by
  rw [List.nil_append, List.cons_append, List.cons.injEq] at h
  rw [List.mem_cons, not_or] at hN
  exact absurd h.1 hN.1
 | a :: M, [], x, r, hM, _, h => by
  rw [List.nil_append, List.cons_append, List.cons.injEq] at h
  rw [List.mem_cons, not_or] at hM
  exact absurd h.1.symm hM.1
 | a :: M, b :: N, x, r, hM, hN, h => by
  rw [List.cons_append, List.cons_append, List.cons.injEq] at h
  rw [List.mem_cons, not_or] at hM hN
  obtain ⟨rfl, e⟩ := ED M N x r hM.2 hN.2 h.2
  rw [h.1]
  exact ⟨rfl, e⟩
def vF (a : Nat) (d : List UInt8) : Nat := d.foldl (fun a c => a * 10 + (c.toNat - 48)) a
theorem KG : ∀ (d : List UInt8) (a : Nat), a ≤ vF a d
 | [], a => Nat.le_refl _
 | c :: d, a => by
  have := KG d (a * 10 + (c.toNat - 48))
  show a ≤ vF (a * 10 + (c.toNat - 48)) d
  omega
theorem JZ (a : Nat) (d : List UInt8) (c : UInt8) : vF a (d ++ [c]) = vF a d * 10 + (c.toNat - 48) := by
 unfold vF
 rw [List.foldl_append]
 rfl
theorem Dv {c : UInt8} (h : Pl.nN c = true) : 48 ≤ c.toNat ∧ c.toNat ≤ 57 := of_decide_eq_true h
theorem Ho : ∀ (d : List UInt8) (a : Nat), d.all Pl.nN = true → vF a d < (a + 1) * 10 ^ d.length
 | [], a, _ => by simp [vF]
 | c :: d, a, h => by
  rw [List.all_cons, Bool.and_eq_true] at h
  have hc := Dv h.1
  have h1 := Ho d (a * 10 + (c.toNat - 48)) h.2
  show vF (a * 10 + (c.toNat - 48)) d < _
  refine Nat.lt_of_lt_of_le h1 ?_
  rw [List.length_cons, Nat.pow_succ, Nat.mul_comm (10 ^ d.length) 10, ← Nat.mul_assoc]
  exact Nat.mul_le_mul_right _ (by omega)
theorem KC : ∀ (d : List UInt8) (a : Nat), d.all Pl.nN = true → vF a d ≤ 60000 → Lib.parseUintM (2 ^ 16 - 1) a d = .ok (vF a d)
 | [], a, _, _ => rfl
 | c :: d, a, ha, hv => by
  rw [List.all_cons, Bool.and_eq_true] at ha
  have hc := Dv ha.1
  have h1 := KG d (a * 10 + (c.toNat - 48))
  have e : vF a (c :: d) = vF (a * 10 + (c.toNat - 48)) d := rfl
  rw [e] at hv ⊢
  rw [Lib.parseUintM, if_pos hc, if_neg (by omega), if_neg (by omega)]
  exact KC d _ ha.2 hv
def xI (D : List UInt8) : Option UInt8 := if D ≠ [] ∧ D.length ≤ 3 ∧ D.all Pl.nN = true ∧ 32 ≤ vF 0 D ∧ vF 0 D ≤ 126 then some (UInt8.ofNat (vF 0 D)) else none
def qW (N : List UInt8) : Option UInt8 :=
 if N = [108, 116] then some 60 else if N = [103, 116] then some 62 else if N = [97, 109, 112] then some 38 else if N = [113, 117, 111, 116] then some 34 else if N = [97, 112, 111, 115] then some 39 else
 match N with
 | [] => none
 | c :: D => if c = 35 then xI D else none
theorem BO (D : List UInt8) : qW (35 :: D) = xI D := by
 unfold qW
 rw [if_neg (by simp), if_neg (by simp), if_neg (by simp), if_neg (by simp), if_neg (by simp)]
 exact if_pos rfl
theorem Ff (a0 : ByteArray) (hs : a0.size ≤ 281474976710656) : ∃ v : Int, nZ.f a0 = some (v, (qW a0.data.toList).isSome) ∧ ∀ c, qW a0.data.toList = some c → v = (c.toNat : Int) := by
 unfold nZ.f qW
 rw [Pl.toList_data]
 by_cases h1 : a0.data.toList = [108, 116]
 ·rw [if_pos h1, if_pos h1]
  exact ⟨60, rfl, fun c hc => by cases hc; rfl⟩
 rw [if_neg h1, if_neg h1]
 by_cases h2 : a0.data.toList = [103, 116]
 ·rw [if_pos h2, if_pos h2]
  exact ⟨62, rfl, fun c hc => by cases hc; rfl⟩
 rw [if_neg h2, if_neg h2]
 by_cases h3 : a0.data.toList = [97, 109, 112]
 ·rw [if_pos h3, if_pos h3]
  exact ⟨38, rfl, fun c hc => by cases hc; rfl⟩
 rw [if_neg h3, if_neg h3]
 by_cases h4 : a0.data.toList = [113, 117, 111, 116]
 ·rw [if_pos h4, if_pos h4]
  exact ⟨34, rfl, fun c hc => by cases hc; rfl⟩
 rw [if_neg h4, if_neg h4]
 by_cases h5 : a0.data.toList = [97, 112, 111, 115]
 ·rw [if_pos h5, if_pos h5]
  exact ⟨39, rfl, fun c hc => by cases hc; rfl⟩
 rw [if_neg h5, if_neg h5, if_pos hs]
 unfold xW pX
 generalize a0.data.toList = N
 clear h1 h2 h3 h4 h5 hs
 cases N with
 | nil => exact ⟨_, rfl, fun c hc => by cases hc⟩
 | cons b D =>
  by_cases hb : b = 35
  ·subst hb
   have e1 : Lib.hasPrefix (35 :: D) [35] = true := by simp [Lib.hasPrefix, List.isPrefixOf]
   have e2 : Lib.trimPrefix (35 :: D) [35] = D := by unfold Lib.trimPrefix; rw [if_pos e1]; rfl
   rw [e1, e2]
   show ∃ v : Int, some (((zN D : Nat) : Int) % 256, _) = some (v, (xI D).isSome) ∧ ∀ c, xI D = some c → v = (c.toNat : Int)
   by_cases hD : D ≠ [] ∧ D.length ≤ 3 ∧ D.all Pl.nN = true
   ·have hp : Lib.parseUintB 16 D = .ok (vF 0 D) := by
     unfold Lib.parseUintB
     rw [if_neg hD.1]
     have hlt := Ho D 0 hD.2.2
     have : 10 ^ D.length ≤ 10 ^ 3 := Nat.pow_le_pow_right (by omega) hD.2.1
     exact KC D 0 hD.2.2 (by omega)
    have hn : zN D = vF 0 D := by unfold zN; rw [hp]
    have hP : DK D = true := by unfold DK; rw [hp]
    rw [hn, hP, decide_eq_true hD.2.1, hD.2.2]
    unfold xI
    by_cases hr : 32 ≤ vF 0 D ∧ vF 0 D ≤ 126
    ·rw [if_pos ⟨hD.1, hD.2.1, hD.2.2, hr⟩, decide_eq_true hr.1, decide_eq_true hr.2]
     refine ⟨_, rfl, fun c hc => ?_⟩
     obtain rfl : UInt8.ofNat (vF 0 D) = c := Option.some.inj hc
     rw [UInt8.toNat_ofNat_of_lt' (by show _ < 256; omega)]
     omega
    ·rw [if_neg (fun h => hr h.2.2.2)]
     refine ⟨((vF 0 D : Nat) : Int) % 256, ?_, fun c hc => by cases hc⟩
     congr 2
     by_cases h1 : 32 ≤ vF 0 D
     ·rw [decide_eq_true h1, decide_eq_false (fun h => hr ⟨h1, h⟩)]
      rfl
     ·rw [decide_eq_false h1]
      rfl
   ·have hn : xI D = none := by unfold xI; exact if_neg (fun h => hD ⟨h.1, h.2.1, h.2.2.1⟩)
    rw [hn]
    refine ⟨((zN D : Nat) : Int) % 256, ?_, fun c hc => by cases hc⟩
    congr 2
    by_cases h0 : D = []
    ·subst h0; rfl
    ·by_cases hl : D.length ≤ 3
     ·have ha : D.all Pl.nN = false := by
       cases h : D.all Pl.nN
       ·rfl
       ·exact absurd ⟨h0, hl, h⟩ hD
      rw [ha]
      simp
     ·rw [decide_eq_false hl]
      simp
  ·have e1 : Lib.hasPrefix (b :: D) [35] = false := by
    unfold Lib.hasPrefix
    rw [List.isPrefixOf, Bool.and_eq_false_iff]
    exact .inl (beq_eq_false_iff_ne.2 (Ne.symm hb))
   rw [e1]
   show ∃ v : Int, some (_, false) = some (v, (if b = 35 then xI D else none : Option UInt8).isSome) ∧ ∀ c, (if b = 35 then xI D else none) = some c → v = (c.toNat : Int)
   rw [if_neg hb]
   exact ⟨_, rfl, fun c hc => by cases hc⟩
def oD (c : UInt8) : Bool := decide (32 ≤ c.toNat ∧ c.toNat ≤ 126 ∧ c.toNat ≠ 60 ∧ c.toNat ≠ 62 ∧ c.toNat ≠ 34)
def qc : List UInt8 → Option (UInt8 × List UInt8)
 | [] => none
 | c :: t => if c = 38 then (if (Lib.cut t [59]).2.2 = true then (qW (Lib.cut t [59]).1).map (fun b => (b, (Lib.cut t [59]).2.1)) else none) else if oD c = true then some (c, t) else none
theorem Bz (t : List UInt8) : qc (38 :: t) = if (Lib.cut t [59]).2.2 = true then (qW (Lib.cut t [59]).1).map (fun b => (b, (Lib.cut t [59]).2.1)) else none := by
 rw [qc, if_pos rfl]
theorem uS {t : List UInt8} (h : (59 : UInt8) ∉ t) : qc (38 :: t) = none := by
 rw [Bz, JO t h]
 rfl
theorem qi {N r : List UInt8} (h : (59 : UInt8) ∉ N) : qc (38 :: (N ++ 59 :: r)) = (qW N).map (fun b => (b, r)) := by
 rw [Bz, MB N r h]
 rfl
def wH (l : List UInt8) : Int × Int := match qc l with
 | none => (0, 0)
 | some (c, r) => ((c.toNat : Int), (l.length : Int) - (r.length : Int))
theorem yK {l : List UInt8} {c : UInt8} {r : List UInt8} (h : qc l = some (c, r)) : ∃ p, p ≠ [] ∧ l = p ++ r := by
 cases l with
 | nil => cases h
 | cons b t =>
  by_cases hb : b = 38
  ·subst hb
   rcases yA t with h' | ⟨N, r', h', rfl⟩
   ·rw [uS h'] at h; cases h
   ·rw [qi h'] at h
    cases he : qW N with
    | none => rw [he] at h; cases h
    | some x =>
     rw [he] at h
     obtain ⟨rfl, rfl⟩ : x = c ∧ r' = r := by simpa using h
     exact ⟨38 :: (N ++ [59]), by simp, by simp⟩
  ·change (if b = 38 then _ else _) = _ at h
   rw [if_neg hb] at h
   by_cases hs : oD b = true
   ·rw [if_pos hs] at h
    obtain ⟨rfl, rfl⟩ : b = c ∧ t = r := by simpa using h
    exact ⟨[b], by simp, rfl⟩
   ·rw [if_neg hs] at h; cases h
def xu (j a : Nat) (u : List UInt8) : Int × Int := if j = 0 then (0, 0) else if u.head? = some 59 then (if a < 32 ∨ 126 < a then (0, 0) else ((a : Int), (j : Int) + 3)) else (0, 0)
def AC : Nat → Nat → Nat → List UInt8 → Int × Int
 | 0, j, a, u => xu j a u
 | _ + 1, j, a, [] => xu j a []
 | r + 1, j, a, c :: u => if Pl.nN c = true then AC r (j + 1) (a * 10 + (c.toNat - 48)) u else xu j a (c :: u)
theorem KH {D : List UInt8} (h : D.all Pl.nN = true) : (59 : UInt8) ∉ D := fun hm => by
 have := List.all_eq_true.1 h _ hm
 exact absurd this (by decide)
theorem Bv (D u : List UInt8) (hD : D.all Pl.nN = true) (h3 : D.length ≤ 3) (hend : D.length = 3 ∨ ∀ c, u.head? = some c → Pl.nN c = false) : xu D.length (vF 0 D) u = wH (38 :: 35 :: (D ++ u)) := by
 have hlt := Ho D 0 hD
 have h10 : 10 ^ D.length ≤ 10 ^ 3 := Nat.pow_le_pow_right (by omega) h3
 unfold xu
 by_cases hu : u.head? = some 59
 ·obtain ⟨r, rfl⟩ : ∃ r, u = 59 :: r := by
   cases u with
   | nil => cases hu
   | cons c r => exact ⟨r, by rw [Option.some.inj hu]⟩
  have h59 : (59 : UInt8) ∉ 35 :: D := by
   rw [List.mem_cons, not_or]
   exact ⟨by decide, KH hD⟩
  have hst : qc (38 :: 35 :: (D ++ 59 :: r)) = (qW (35 :: D)).map (fun b => (b, r)) := qi h59
  unfold wH
  rw [hst, BO, if_pos hu]
  unfold xI
  by_cases hj : D = []
  ·subst hj; rfl
  ·have hj' : ¬ D.length = 0 := fun h => hj (List.length_eq_zero_iff.1 h)
   rw [if_neg hj']
   by_cases hr : 32 ≤ vF 0 D ∧ vF 0 D ≤ 126
   ·rw [if_neg (by omega), if_pos ⟨hj, h3, hD, hr⟩]
    show _ = (_, _)
    rw [Prod.mk.injEq]
    constructor
    ·rw [UInt8.toNat_ofNat_of_lt' (by show _ < 256; omega)]
    ·simp only [List.length_cons, List.length_append]
     omega
   ·rw [if_pos (by omega), if_neg (fun h => hr h.2.2.2)]
    rfl
 ·have hz : (if D.length = 0 then ((0, 0) : Int × Int) else if u.head? = some 59 then (if vF 0 D < 32 ∨ 126 < vF 0 D then (0, 0) else ((vF 0 D : Int), (D.length : Int) + 3)) else (0, 0)) = (0, 0) := by
   rw [if_neg hu]; split <;> rfl
  rw [hz]
  suffices hs : qc (38 :: 35 :: (D ++ u)) = none by unfold wH; rw [hs]
  rcases yA (35 :: (D ++ u)) with h' | ⟨N, r, h', e⟩
  ·exact uS h'
  ·rw [e, qi h']
   cases N with
   | nil => cases e
   | cons b N =>
    rw [List.cons_append, List.cons.injEq] at e
    obtain ⟨rfl, e⟩ := e
    rw [BO]
    unfold xI
    rw [if_neg]
    ·rfl
    ·rintro ⟨n0, n3, nd, _⟩
     have g1 : (D ++ u)[N.length]? = some 59 := by rw [e]; simp
     rcases Nat.lt_trichotomy N.length D.length with hlt' | heq | hgt
     ·rw [List.getElem?_append_left hlt'] at g1
      exact KH hD (List.mem_of_getElem? g1)
     ·rw [List.getElem?_append_right (by omega), heq, Nat.sub_self] at g1
      exact hu (by rw [List.head?_eq_getElem?]; exact g1)
     ·rcases hend with h | h
      ·omega
      ·have g2 : (D ++ u)[D.length]? = u.head? := by
        rw [List.getElem?_append_right (Nat.le_refl _), Nat.sub_self, List.head?_eq_getElem?]
       rw [e, List.getElem?_append_left hgt, List.getElem?_eq_getElem hgt] at g2
       have := h _ g2.symm
       have hd := List.all_eq_true.1 nd _ (List.getElem_mem hgt)
       rw [hd] at this
       cases this
theorem EM : ∀ (r : Nat) (D u : List UInt8), D.all Pl.nN = true → D.length + r = 3 → AC r D.length (vF 0 D) u = wH (38 :: 35 :: (D ++ u))
 | 0, D, u, hD, h => Bv D u hD (by omega) (.inl (by omega))
 | r + 1, D, [], hD, h => Bv D [] hD (by omega) (.inr fun c hc => by cases hc)
 | r + 1, D, c :: u, hD, h => by
  rw [AC]
  by_cases hc : Pl.nN c = true
  ·rw [if_pos hc]
   have := EM r (D ++ [c]) u (by rw [List.all_append, hD]; simp [hc]) (by simp; omega)
   rw [JZ, List.length_append, List.append_assoc] at this
   exact this
  ·rw [if_neg hc]
   exact Bv D (c :: u) hD (by omega) (.inr fun x hx => by cases hx; simpa using hc)
def EP (t : List UInt8) : Int × Int :=
 if [108, 116, 59].isPrefixOf t = true then (60, 4) else if [103, 116, 59].isPrefixOf t = true then (62, 4) else if [97, 109, 112, 59].isPrefixOf t = true then (38, 5) else if [113, 117, 111, 116, 59].isPrefixOf t = true then (34, 6) else if [97, 112, 111, 115, 59].isPrefixOf t = true then (39, 6) else (0, 0)
theorem wU {M t : List UInt8} (h : (59 : UInt8) ∉ t) : (M ++ [59]).isPrefixOf t = false := by
 cases hp : (M ++ [59]).isPrefixOf t
 ·rfl
 ·rw [List.isPrefixOf_iff_prefix] at hp
  obtain ⟨x, rfl⟩ := hp
  simp at h
theorem pre_at {M N r : List UInt8} (hM : (59 : UInt8) ∉ M) (hN : (59 : UInt8) ∉ N) : (M ++ [59]).isPrefixOf (N ++ 59 :: r) = decide (N = M) := by
 rw [Bool.eq_iff_iff, List.isPrefixOf_iff_prefix, decide_eq_true_iff]
 constructor
 ·rintro ⟨x, hx⟩
  rw [List.append_assoc] at hx
  exact (ED M N x r hM hN hx).1.symm
 ·rintro rfl
  exact ⟨r, by simp⟩
theorem Cm (t : List UInt8) (h35 : t.head? ≠ some 35) : EP t = wH (38 :: t) := by
 unfold EP wH
 rcases yA t with h | ⟨N, r, h, rfl⟩
 ·have e1 := wU (M := [108, 116]) h
  have e2 := wU (M := [103, 116]) h
  have e3 := wU (M := [97, 109, 112]) h
  have e4 := wU (M := [113, 117, 111, 116]) h
  have e5 := wU (M := [97, 112, 111, 115]) h
  simp only [List.cons_append, List.nil_append] at e1 e2 e3 e4 e5
  rw [e1, e2, e3, e4, e5, uS h]
  rfl
 ·have e1 := pre_at (M := [108, 116]) (r := r) (by decide) h
  have e2 := pre_at (M := [103, 116]) (r := r) (by decide) h
  have e3 := pre_at (M := [97, 109, 112]) (r := r) (by decide) h
  have e4 := pre_at (M := [113, 117, 111, 116]) (r := r) (by decide) h
  have e5 := pre_at (M := [97, 112, 111, 115]) (r := r) (by decide) h
  have hl : (((38 :: (N ++ 59 :: r) : List UInt8).length : Nat) : Int) - (r.length : Int) = (N.length : Int) + 2 := by
   simp only [List.length_cons, List.length_append]
   omega
  simp only [List.cons_append, List.nil_append] at e1 e2 e3 e4 e5
  rw [e1, e2, e3, e4, e5, qi h]
  unfold qW
  by_cases h1 : N = [108, 116]
  ·rw [decide_eq_true h1, if_pos rfl, if_pos h1]
   show _ = (((60 : UInt8).toNat : Int), _)
   rw [hl, h1]; rfl
  rw [decide_eq_false h1, if_neg Bool.false_ne_true, if_neg h1]
  by_cases h2 : N = [103, 116]
  ·rw [decide_eq_true h2, if_pos rfl, if_pos h2]
   show _ = (((62 : UInt8).toNat : Int), _)
   rw [hl, h2]; rfl
  rw [decide_eq_false h2, if_neg Bool.false_ne_true, if_neg h2]
  by_cases h3 : N = [97, 109, 112]
  ·rw [decide_eq_true h3, if_pos rfl, if_pos h3]
   show _ = (((38 : UInt8).toNat : Int), _)
   rw [hl, h3]; rfl
  rw [decide_eq_false h3, if_neg Bool.false_ne_true, if_neg h3]
  by_cases h4 : N = [113, 117, 111, 116]
  ·rw [decide_eq_true h4, if_pos rfl, if_pos h4]
   show _ = (((34 : UInt8).toNat : Int), _)
   rw [hl, h4]; rfl
  rw [decide_eq_false h4, if_neg Bool.false_ne_true, if_neg h4]
  by_cases h5 : N = [97, 112, 111, 115]
  ·rw [decide_eq_true h5, if_pos rfl, if_pos h5]
   show _ = (((39 : UInt8).toNat : Int), _)
   rw [hl, h5]; rfl
  rw [decide_eq_false h5, if_neg Bool.false_ne_true, if_neg h5]
  cases N with
  | nil => rfl
  | cons b D =>
   have hb : ¬ b = 35 := fun e => h35 (by rw [e]; rfl)
   simp only [if_neg hb]
   rfl
theorem Lj {a b : ByteArray} (h : a.data.toList = b.data.toList) : a = b := by
 obtain ⟨⟨x⟩⟩ := a
 obtain ⟨⟨y⟩⟩ := b
 simp at h
 rw [h]
theorem IG (s p : List UInt8) (h : p.length ≤ s.length) : (s.take p.length == p) = p.isPrefixOf s := by
 have := Lib.hasPrefix_of_take s p
 rw [decide_eq_true h, Bool.true_and] at this
 exact this
theorem JQ {s p : List UInt8} (h : p.isPrefixOf s = true) : p.length ≤ s.length := by
 rw [List.isPrefixOf_iff_prefix] at h
 exact h.length_le
theorem qX (t w : ByteArray) (i : Nat) (h0 : 0 < w.size) (h : i + w.size < 9223372036854775807) : jW.f t (i : Int) w = some (w.data.toList.isPrefixOf (t.data.toList.drop i)) := by
 unfold jW.f
 rw [Pl.wrap_in (by omega) (by omega)]
 have hw := Pl.jy w
 have ht := Pl.jy t
 by_cases hle : (i : Int) + (w.size : Int) ≤ (t.size : Int)
 ·rw [if_pos hle, if_pos (by omega), if_pos (by omega), Lib.extract_toList, Lib.toList_data]
  congr 1
  rw [← IG _ _ (by rw [List.length_drop]; omega)]
  have e1 : ((i : Int)).toNat = i := by omega
  have e2 : ((i : Int) + (w.size : Int)).toNat - ((i : Int)).toNat = w.data.toList.length := by omega
  rw [e2, e1]
 ·rw [if_neg hle]
  congr 1
  rw [eq_comm, Bool.eq_false_iff]
  intro h'
  have := JQ h'
  rw [List.length_drop] at this
  omega
theorem L6 (a : Nat) (u : List UInt8) : xu 0 a u = (0, 0) := if_pos rfl
theorem yJ {j a : Nat} {u : List UInt8} (h : u.head? ≠ some 59) : xu j a u = (0, 0) := by
 unfold xu
 rw [if_neg h]
 split <;> rfl
theorem Di {j a : Nat} {u : List UInt8} (h : a < 32 ∨ 126 < a) : xu j a u = (0, 0) := by
 unfold xu
 rw [if_pos h]
 split
 ·rfl
 ·split <;> rfl
theorem Je {j a : Nat} {u : List UInt8} (hj : j ≠ 0) (h : u.head? = some 59) (h1 : ¬ (a < 32 ∨ 126 < a)) : xu j a u = ((a : Int), (j : Int) + 3) := by
 unfold xu
 rw [if_neg hj, if_pos h, if_neg h1]
theorem EW (P n i : Int) (j a : Nat) (c : UInt8) (u : List UInt8) (hP : P = i + 2 + j) (hn : P < n) (hp : 0 ≤ P) (hj : j ≤ 3) : Ev (fun k : Nat => if P = i + 2 then some ((0, 0) : Int × Int) else if P ≥ n then some (0, 0) else if (c.toNat : Int) = 59 then (if (a : Int) < 32 then some (0, 0) else if (a : Int) > 126 then some (0, 0) else some ((a : Int) % 256, P + 1 - i)) else some (0, 0)) (xu j a (c :: u)) := by
 by_cases hj0 : j = 0
 ·subst hj0
  rw [L6]
  exact Pl.fA (by omega) (Ev.now _)
 ·refine Pl.fG (by omega) (Pl.fG (by omega) ?_)
  by_cases hc : c = 59
  ·subst hc
   refine Pl.fA (by decide) ?_
   by_cases h1 : a < 32
   ·rw [Di (.inl h1)]
    exact Pl.fA (by omega) (Ev.now _)
   ·refine Pl.fG (by omega) ?_
    by_cases h2 : 126 < a
    ·rw [Di (.inr h2)]
     exact Pl.fA (by omega) (Ev.now _)
    ·rw [Je hj0 rfl (by omega)]
     refine Pl.fG (by omega) (Pl.lJ (Ev.now _) ?_)
     rw [Prod.mk.injEq]
     constructor <;> omega
  ·have hc' : ¬ (c.toNat : Int) = 59 := fun h => hc (UInt8.toNat_inj.1 (by show c.toNat = 59; omega))
   rw [yJ (u := c :: u) (fun h => hc (Option.some.inj h))]
   exact Pl.fG hc' (Ev.now _)
theorem Jz (s : ByteArray) (hs : s.size ≤ 400) (i : Nat) : ∀ (r j a : Nat), j + r = 3 → a < 10 ^ j → i + 2 + j ≤ s.size → Ev (fun k => jd.l0 k s (i : Int) (a : Int) ((i + 2 + j : Nat) : Int)) (AC r j a (s.data.toList.drop (i + 2 + j))) := by
 intro r
 induction r with
 | zero =>
  intro j a hj ha hP
  have ht := Pl.jy s
  refine Ev.step (fun k => by rw [jd.l0]) ?_
  rw [Pl.wrap_in (x := (i : Int) + 5) (by omega) (by omega), Pl.wrap_in (x := (i : Int) + 2) (by omega) (by omega)]
  by_cases hlt : i + 2 + j < s.size
  ·have hd := Pl.mf (l := s.data.toList) (i := i + 2 + j) (by omega)
   have hb := Pl.zM (s := s) rfl (i + 2 + j) (by omega)
   rw [hd, AC, hb, Pl.wrap_in (x := ((i + 2 + j : Nat) : Int) + 1) (by omega) (by omega), Pl.wrap_in (x := ((i + 2 + j : Nat) : Int) + 1 - (i : Int)) (by omega) (by omega)]
   generalize s.data.toList[i + 2 + j] = c
   refine Pl.fA (by omega) ?_
   refine Pl.fG (by omega) ?_
   have := EW ((i + 2 + j : Nat) : Int) (s.size : Int) (i : Int) j a c (s.data.toList.drop (i + 2 + j + 1)) (by omega) (by omega) (by omega) (by omega)
   refine Ev.congr (fun k => ?_) this
   rw [if_pos (show (0 : Int) ≤ ((i + 2 + j : Nat) : Int) by omega)]
  ·have hd : s.data.toList.drop (i + 2 + j) = [] := List.drop_eq_nil_iff.2 (by omega)
   rw [hd, AC, yJ (by simp)]
   refine Pl.fG (by omega) ?_
   refine Pl.fG (by omega) ?_
   exact Pl.fA (by omega) (Ev.now _)
 | succ r ih =>
  intro j a hj ha hP
  have ht := Pl.jy s
  have h10 : 10 ^ j ≤ 10 ^ 2 := Nat.pow_le_pow_right (by omega) (by omega)
  refine Ev.step (fun k => by rw [jd.l0]) ?_
  rw [Pl.wrap_in (x := (i : Int) + 5) (by omega) (by omega), Pl.wrap_in (x := (i : Int) + 2) (by omega) (by omega)]
  by_cases hlt : i + 2 + j < s.size
  ·have hd := Pl.mf (l := s.data.toList) (i := i + 2 + j) (by omega)
   have hb := Pl.zM (s := s) rfl (i + 2 + j) (by omega)
   rw [hd, AC, hb, Pl.wrap_in (x := ((i + 2 + j : Nat) : Int) + 1) (by omega) (by omega), Pl.wrap_in (x := ((i + 2 + j : Nat) : Int) + 1 - (i : Int)) (by omega) (by omega), Pl.wrap_in (x := (a : Int) * 10) (by omega) (by omega)]
   have ih' := ih (j + 1)
   rw [show i + 2 + (j + 1) = i + 2 + j + 1 by omega] at ih'
   generalize s.data.toList[i + 2 + j] = c at *
   have hend := EW ((i + 2 + j : Nat) : Int) (s.size : Int) (i : Int) j a c (s.data.toList.drop (i + 2 + j + 1)) (by omega) (by omega) (by omega) (by omega)
   refine Pl.fA (by omega) ?_
   refine Pl.fA (by omega) ?_
   refine Pl.fA (by omega) ?_
   by_cases hdg : Pl.nN c = true
   ·rw [if_pos hdg]
    have hc := Dv hdg
    refine Pl.fA (by omega) ?_
    refine Pl.fA (by omega) ?_
    have e : wrap64 ((a : Int) * 10 + ((c.toNat : Int) - 48) % 256) = ((a * 10 + (c.toNat - 48) : Nat) : Int) := by
     rw [Pl.wrap_in (by omega) (by omega)]
     omega
    rw [e]
    have := ih' (a * 10 + (c.toNat - 48)) (by omega) (by rw [Nat.pow_succ]; omega) (by omega)
    exact this
   ·rw [if_neg hdg]
    have hc : ¬ (48 ≤ c.toNat ∧ c.toNat ≤ 57) := fun h => hdg (decide_eq_true h)
    by_cases h48 : 48 ≤ c.toNat
    ·refine Pl.fA (by omega) ?_
     exact Pl.fG (by omega) hend
    ·exact Pl.fG (by omega) hend
  ·have hd : s.data.toList.drop (i + 2 + j) = [] := List.drop_eq_nil_iff.2 (by omega)
   rw [hd, AC, yJ (by simp)]
   refine Pl.fG (by omega) ?_
   by_cases hj0 : j = 0
   ·exact Pl.fA (by omega) (Ev.now _)
   ·exact Pl.fG (by omega) (Pl.fA (by omega) (Ev.now _))
theorem IM (c : Int) : jZ.f c = some (decide (32 ≤ c ∧ c ≤ 126)) := by
 unfold jZ.f
 by_cases h : c ≥ 32
 ·rw [if_pos h]; congr 1; rw [decide_eq_decide]; omega
 ·rw [if_neg h, decide_eq_false (by omega)]
theorem BL (c : Int) : l7.f c = some (decide (32 ≤ c ∧ c ≤ 126)) := by
 unfold l7.f
 by_cases h : c ≥ 32
 ·rw [if_pos h]; congr 1; rw [decide_eq_decide]; omega
 ·rw [if_neg h, decide_eq_false (by omega)]
theorem FI {c : UInt8} (h : c ≠ 38) (t : List UInt8) : wH (c :: t) = if oD c = true then ((c.toNat : Int), 1) else (0, 0) := by
 unfold wH
 rw [qc, if_neg h]
 by_cases hs : oD c = true
 ·rw [if_pos hs, if_pos hs]
  show (_, _) = _
  rw [Prod.mk.injEq]
  exact ⟨rfl, by simp only [List.length_cons]; omega⟩
 ·rw [if_neg hs, if_neg hs]
theorem JP (s : ByteArray) (i : Nat) (hs : s.size ≤ 400) (hi : i < s.size) (t : List UInt8) (hd : s.data.toList.drop i = 38 :: t) : Ev (fun k => jD.l0 k s (i : Int) (([(⟨#[38, 108, 116, 59]⟩ : ByteArray), (⟨#[38, 103, 116, 59]⟩ : ByteArray), (⟨#[38, 97, 109, 112, 59]⟩ : ByteArray), (⟨#[38, 113, 117, 111, 116, 59]⟩ : ByteArray), (⟨#[38, 97, 112, 111, 115, 59]⟩ : ByteArray)] : List ByteArray)) 0) (EP t) := by
 have q1 : jW.f s (i : Int) (⟨#[38, 108, 116, 59]⟩ : ByteArray) = some ([108, 116, 59].isPrefixOf t) := by rw [qX s _ i (by show 0 < 4; omega) (by show i + 4 < _; omega), hd]; rfl
 have q2 : jW.f s (i : Int) (⟨#[38, 103, 116, 59]⟩ : ByteArray) = some ([103, 116, 59].isPrefixOf t) := by rw [qX s _ i (by show 0 < 4; omega) (by show i + 4 < _; omega), hd]; rfl
 have q3 : jW.f s (i : Int) (⟨#[38, 97, 109, 112, 59]⟩ : ByteArray) = some ([97, 109, 112, 59].isPrefixOf t) := by rw [qX s _ i (by show 0 < 5; omega) (by show i + 5 < _; omega), hd]; rfl
 have q4 : jW.f s (i : Int) (⟨#[38, 113, 117, 111, 116, 59]⟩ : ByteArray) = some ([113, 117, 111, 116, 59].isPrefixOf t) := by rw [qX s _ i (by show 0 < 6; omega) (by show i + 6 < _; omega), hd]; rfl
 have q5 : jW.f s (i : Int) (⟨#[38, 97, 112, 111, 115, 59]⟩ : ByteArray) = some ([97, 112, 111, 115, 59].isPrefixOf t) := by rw [qX s _ i (by show 0 < 6; omega) (by show i + 6 < _; omega), hd]; rfl
 unfold EP
 refine Ev.step (fun k => by rw [jD.l0]) ?_
 refine Pl.fA (by decide) (Pl.fA (by decide) ?_)
 refine Ev.congr (fun k => by rw [show jG ByteArray.empty _ (0 : Int) = (⟨#[38, 108, 116, 59]⟩ : ByteArray) from rfl, q1, Option.bind_some]) ?_
 by_cases h1 : [108, 116, 59].isPrefixOf t = true
 ·rw [if_pos h1]
  exact Pl.fA h1 (Pl.fA (by decide) (Ev.now _))
 rw [if_neg h1]
 refine Pl.fG h1 ?_
 refine Ev.step (fun k => by rw [jD.l0, show wrap64 ((0 : Int) + 1) = 1 by unfold wrap64; omega]) ?_
 refine Pl.fA (by decide) (Pl.fA (by decide) ?_)
 refine Ev.congr (fun k => by rw [show jG ByteArray.empty _ (1 : Int) = (⟨#[38, 103, 116, 59]⟩ : ByteArray) from rfl, q2, Option.bind_some]) ?_
 by_cases h2 : [103, 116, 59].isPrefixOf t = true
 ·rw [if_pos h2]
  exact Pl.fA h2 (Pl.fA (by decide) (Ev.now _))
 rw [if_neg h2]
 refine Pl.fG h2 ?_
 refine Ev.step (fun k => by rw [jD.l0, show wrap64 ((1 : Int) + 1) = 2 by unfold wrap64; omega]) ?_
 refine Pl.fA (by decide) (Pl.fA (by decide) ?_)
 refine Ev.congr (fun k => by rw [show jG ByteArray.empty _ (2 : Int) = (⟨#[38, 97, 109, 112, 59]⟩ : ByteArray) from rfl, q3, Option.bind_some]) ?_
 by_cases h3 : [97, 109, 112, 59].isPrefixOf t = true
 ·rw [if_pos h3]
  exact Pl.fA h3 (Pl.fA (by decide) (Ev.now _))
 rw [if_neg h3]
 refine Pl.fG h3 ?_
 refine Ev.step (fun k => by rw [jD.l0, show wrap64 ((2 : Int) + 1) = 3 by unfold wrap64; omega]) ?_
 refine Pl.fA (by decide) (Pl.fA (by decide) ?_)
 refine Ev.congr (fun k => by rw [show jG ByteArray.empty _ (3 : Int) = (⟨#[38, 113, 117, 111, 116, 59]⟩ : ByteArray) from rfl, q4, Option.bind_some]) ?_
 by_cases h4 : [113, 117, 111, 116, 59].isPrefixOf t = true
 ·rw [if_pos h4]
  exact Pl.fA h4 (Pl.fA (by decide) (Ev.now _))
 rw [if_neg h4]
 refine Pl.fG h4 ?_
 refine Ev.step (fun k => by rw [jD.l0, show wrap64 ((3 : Int) + 1) = 4 by unfold wrap64; omega]) ?_
 refine Pl.fA (by decide) (Pl.fA (by decide) ?_)
 refine Ev.congr (fun k => by rw [show jG ByteArray.empty _ (4 : Int) = (⟨#[38, 97, 112, 111, 115, 59]⟩ : ByteArray) from rfl, q5, Option.bind_some]) ?_
 by_cases h5 : [97, 112, 111, 115, 59].isPrefixOf t = true
 ·rw [if_pos h5]
  exact Pl.fA h5 (Pl.fA (by decide) (Ev.now _))
 rw [if_neg h5]
 refine Pl.fG h5 ?_
 refine Ev.step (fun k => by rw [jD.l0, show wrap64 ((4 : Int) + 1) = 5 by unfold wrap64; omega]) ?_
 exact Pl.fG (by decide) (Ev.now _)
theorem JB (s : ByteArray) (hs : s.size ≤ 400) (i : Nat) (hi : i < s.size) : Ev (fun k => jD.f k s (i : Int)) (wH (s.data.toList.drop i)) := by
 have ht := Pl.jy s
 have hd := Pl.mf (l := s.data.toList) (i := i) (by omega)
 have hb := Pl.zM (s := s) rfl i (by omega)
 have hst : jW.f s (i : Int) (⟨#[38, 35]⟩ : ByteArray) = some ([38, 35].isPrefixOf (s.data.toList.drop i)) := qX s _ i (by show 0 < 2; omega) (by show i + 2 < _; omega)
 have hnum := Jz s hs i 3 0 0 rfl (by decide)
 have hnam := JP s i hs hi (s.data.toList.drop (i + 1))
 have hdd : ∀ x, s.data.toList.drop (i + 1) = 35 :: x → s.data.toList.drop (i + 2 + 0) = x ∧ i + 2 ≤ s.size := fun x hx => by
  have e : s.data.toList.drop (i + 2 + 0) = (s.data.toList.drop (i + 1)).drop 1 := by rw [List.drop_drop]
  have e2 : (s.data.toList.drop (i + 1)).length = x.length + 1 := by rw [hx]; rfl
  rw [List.length_drop] at e2
  rw [e, hx]
  exact ⟨rfl, by omega⟩
 unfold jD.f
 rw [hst, hb]
 refine Pl.fA (by omega) (Pl.fA (by omega) ?_)
 rw [hd] at hnam ⊢
 generalize s.data.toList[i] = c at *
 generalize s.data.toList.drop (i + 1) = t at *
 by_cases hc : c = 38
 ·subst hc
  refine Pl.fA (by decide) ?_
  simp only [Option.bind_some]
  cases t with
  | nil =>
   refine Pl.fG (by decide) ?_
   exact Pl.lJ (hnam rfl) (Cm [] (by simp))
  | cons b x =>
   by_cases hb : b = 35
   ·subst hb
    refine Pl.fA (by simp [List.isPrefixOf]) ?_
    obtain ⟨e1, e2⟩ := hdd x rfl
    have h1 := hnum (by omega)
    rw [e1] at h1
    have h2 := EM 3 [] x rfl rfl
    have h3 : AC 3 0 0 x = wH (38 :: 35 :: x) := h2
    rw [h3] at h1
    have e3 : wrap64 ((i : Int) + 2) = ((i + 2 + 0 : Nat) : Int) := by rw [Pl.wrap_in (by omega) (by omega)]; omega
    refine Pl.iw (a := wH (38 :: 35 :: x)) ?_ (Ev.now _)
    unfold jd.f
    rw [e3]
    exact h1
   ·refine Pl.fG ?_ ?_
    ·simp only [List.isPrefixOf, Bool.and_true, beq_self_eq_true, Bool.true_and, beq_iff_eq]
     exact Ne.symm hb
    ·exact Pl.lJ (hnam rfl) (Cm (b :: x) (by simp [hb]))
 ·have hc' : ¬ (c.toNat : Int) = 38 := fun h => hc (UInt8.toNat_inj.1 (by show c.toNat = 38; omega))
  refine Pl.fG hc' ?_
  simp only [IM, Option.bind_some]
  rw [FI hc]
  by_cases hp : 32 ≤ c.toNat ∧ c.toNat ≤ 126
  ·refine Pl.fA (decide_eq_true (by omega)) ?_
   by_cases h1 : c.toNat = 60
   ·rw [if_neg (show ¬ oD c = true by unfold oD; rw [decide_eq_true_iff]; omega)]
    exact Pl.fA (by omega) (Ev.now _)
   refine Pl.fG (by omega) ?_
   by_cases h2 : c.toNat = 62
   ·rw [if_neg (show ¬ oD c = true by unfold oD; rw [decide_eq_true_iff]; omega)]
    exact Pl.fA (by omega) (Ev.now _)
   refine Pl.fG (by omega) ?_
   by_cases h3 : c.toNat = 34
   ·rw [if_neg (show ¬ oD c = true by unfold oD; rw [decide_eq_true_iff]; omega)]
    exact Pl.fA (by omega) (Ev.now _)
   refine Pl.fG (by omega) ?_
   rw [if_pos (show oD c = true by unfold oD; rw [decide_eq_true_iff]; omega)]
   exact Ev.now _
  ·rw [if_neg (show ¬ oD c = true by unfold oD; rw [decide_eq_true_iff]; omega)]
   exact Pl.fG (by rw [decide_eq_true_iff]; omega) (Ev.now _)
theorem JD (l : List UInt8) : (Lib.cut l [59]).1.length ≤ l.length := by
 unfold Lib.cut
 split
 ·simp only [List.length_take]; omega
 ·exact Nat.le_refl _
theorem BF (a : ByteArray) (x4 : List Int) (c : UInt8) (t : List UInt8) (ha : a.data.toList = c :: t) (hs : a.size ≤ 400) (hx : x4.length ≤ 400) :
  (qc (c :: t) = none → Ev (fun k => gZ.l0 k a x4) ((⟨#[]⟩ : ByteArray), false)) ∧ ∀ b r, qc (c :: t) = some (b, r) → ∀ out, Ev (fun k => gZ.l0 k ⟨r.toArray⟩ (x4 ++ [(b.toNat : Int)])) out → Ev (fun k => gZ.l0 k a x4) out := by
 have hz := Pl.rZ ha
 rw [List.length_cons] at hz
 have hb := Pl.zM ha 0 (by simp)
 have hb' : bt a 0 = (c.toNat : Int) := hb
 have hex : a.extract 1 a.size = ⟨t.toArray⟩ := by
  refine Lj ?_
  rw [← Lib.toList_data, Lib.extract_toList, ha]
  have e : a.size - 1 = t.length := by omega
  rw [e]
  simp
 have hne : ¬ a.toList = [] := by rw [Pl.toList_data, ha]; simp
 have key : ∀ R, (Ev (fun k => if (c.toNat : Int) = 38 then ((strings_Cut.f (⟨t.toArray⟩ : ByteArray) (⟨#[59]⟩ : ByteArray)).bind fun bt153 => ((nZ.f bt153.1).bind fun bt156 => (if bt153.2.2 = true then (gZ.j1 k x4 bt153.2.1 true bt156.1 bt156.2 (!bt156.2)) else (gZ.j1 k x4 bt153.2.1 false bt156.1 bt156.2 true)))) else ((l7.f (c.toNat : Int)).bind fun t161 => (if t161 = true then (if (c.toNat : Int) = 60 then (some ((⟨#[]⟩ : ByteArray), false)) else (if (c.toNat : Int) = 62 then (some ((⟨#[]⟩ : ByteArray), false)) else (if (c.toNat : Int) = 34 then (some ((⟨#[]⟩ : ByteArray), false)) else (if x4.length < 140737488355328 then (gZ.l0 k (⟨t.toArray⟩ : ByteArray) (x4 ++ [(c.toNat : Int)])) else (none))))) else (some ((⟨#[]⟩ : ByteArray), false))))) R) → Ev (fun k => gZ.l0 k a x4) R := fun R h => by
  refine Ev.step (fun k => by rw [gZ.l0, hb', hex]) ?_
  exact Pl.fG hne (Pl.fA (by omega) (Pl.fA (by omega) h))
 by_cases hc : c = 38
 ·subst hc
  have hcut : strings_Cut.f (⟨t.toArray⟩ : ByteArray) (⟨#[59]⟩ : ByteArray) = some (⟨(Lib.cut t [59]).1.toArray⟩, ⟨(Lib.cut t [59]).2.1.toArray⟩, (Lib.cut t [59]).2.2) := by
   unfold strings_Cut.f
   have : (⟨t.toArray⟩ : ByteArray).size = t.length := by rw [← Pl.jy]
   rw [if_pos (by omega)]
  have hl := JD t
  rw [Bz]
  rw [hcut] at key
  generalize Lib.cut t [59] = C at *
  obtain ⟨N, r, e⟩ := C
  obtain ⟨v, hv, hv2⟩ := Ff (⟨N.toArray⟩ : ByteArray) (by
   have : (⟨N.toArray⟩ : ByteArray).size = N.length := by rw [← Pl.jy]
   have hl' : N.length ≤ t.length := hl
   omega)
  have hN : (⟨N.toArray⟩ : ByteArray).data.toList = N := rfl
  rw [hN] at hv hv2
  have key2 : ∀ R, Ev (fun k => if e = true then (gZ.j1 k x4 ⟨r.toArray⟩ true v (qW N).isSome (!(qW N).isSome)) else (gZ.j1 k x4 ⟨r.toArray⟩ false v (qW N).isSome true)) R → Ev (fun k => gZ.l0 k a x4) R := fun R h => by
   refine key R (Pl.fA (by decide) ?_)
   simp only [Option.bind_some, hv]
   exact h
  show ((if e = true then (qW N).map (fun b => (b, r)) else none) = none → _) ∧ ∀ b r', (if e = true then (qW N).map (fun b => (b, r)) else none) = some (b, r') → _
  cases e with
  | false =>
   refine ⟨fun _ => key2 _ (Pl.fG (by decide) ?_), fun b r' h => by cases h⟩
   refine Ev.step (fun k => by rw [gZ.j1]) ?_
   exact Pl.fA rfl (Ev.now _)
  | true =>
   rw [if_pos rfl]
   cases hE : qW N with
   | none =>
    rw [hE] at key2
    refine ⟨fun _ => key2 _ (Pl.fA rfl ?_), fun b r' h => by cases h⟩
    refine Ev.step (fun k => by rw [gZ.j1]) ?_
    exact Pl.fA rfl (Ev.now _)
   | some x =>
    rw [hE] at key2
    refine ⟨fun h => (by cases h), fun b r' h out hout => key2 _ (Pl.fA rfl ?_)⟩
    obtain ⟨rfl, rfl⟩ : x = b ∧ r = r' := by simpa using h
    refine Ev.step (fun k => by rw [gZ.j1]) ?_
    refine Pl.fG (by simp) (Pl.fA (by omega) ?_)
    rw [hv2 x hE]
    exact hout
 ·have hc' : ¬ (c.toNat : Int) = 38 := fun h => hc (UInt8.toNat_inj.1 (by show c.toNat = 38; omega))
  rw [qc, if_neg hc]
  have key2 := fun R h => key R (Pl.fG hc' h)
  simp only [BL, Option.bind_some] at key2
  by_cases hp : 32 ≤ c.toNat ∧ c.toNat ≤ 126
  ·have key3 := fun R h => key2 R (Pl.fA (decide_eq_true (by omega)) h)
   by_cases h1 : c.toNat = 60
   ·rw [if_neg (show ¬ oD c = true by unfold oD; rw [decide_eq_true_iff]; omega)]
    exact ⟨fun _ => key3 _ (Pl.fA (by omega) (Ev.now _)), fun b r' h => by cases h⟩
   by_cases h2 : c.toNat = 62
   ·rw [if_neg (show ¬ oD c = true by unfold oD; rw [decide_eq_true_iff]; omega)]
    exact ⟨fun _ => key3 _ (Pl.fG (by omega) (Pl.fA (by omega) (Ev.now _))), fun b r' h => by cases h⟩
   by_cases h3 : c.toNat = 34
   ·rw [if_neg (show ¬ oD c = true by unfold oD; rw [decide_eq_true_iff]; omega)]
    exact ⟨fun _ => key3 _ (Pl.fG (by omega) (Pl.fG (by omega) (Pl.fA (by omega) (Ev.now _)))), fun b r' h => by cases h⟩
   rw [if_pos (show oD c = true by unfold oD; rw [decide_eq_true_iff]; omega)]
   refine ⟨fun h => (by cases h), fun b r' h out hout => ?_⟩
   obtain ⟨rfl, rfl⟩ : c = b ∧ t = r' := by simpa using h
   exact key3 _ (Pl.fG (by omega) (Pl.fG (by omega) (Pl.fG (by omega) (Pl.fA (by omega) hout))))
  ·rw [if_neg (show ¬ oD c = true by unfold oD; rw [decide_eq_true_iff]; omega)]
   exact ⟨fun _ => key2 _ (Pl.fG (by rw [decide_eq_true_iff]; omega) (Ev.now _)), fun b r' h => by cases h⟩
def yM (x : List Int) : Option (List Int) → Int × ByteArray
 | none => (5, (⟨#[]⟩ : ByteArray))
 | some ys => if ((x ++ ys).length : Int) > 40 then (2, (⟨#[]⟩ : ByteArray)) else (0, strOfNums (x ++ ys))
def DX (x : List Int) : Option (List Int) → ByteArray × Bool
 | none => ((⟨#[]⟩ : ByteArray), false)
 | some ys => (strOfNums (x ++ ys), true)
theorem CX (x : List Int) : yM x (some []) = if (x.length : Int) > 40 then (2, (⟨#[]⟩ : ByteArray)) else (0, strOfNums x) := by
 unfold yM
 simp only [List.append_nil]
theorem CG (x : List Int) : DX x (some []) = (strOfNums x, true) := by
 show (strOfNums (x ++ []), true) = _
 rw [List.append_nil]
theorem zV (x : List Int) : yM [] (some x) = if (x.length : Int) > 40 then (2, (⟨#[]⟩ : ByteArray)) else (0, strOfNums x) := rfl
theorem FN (x : List Int) : DX [] (some x) = (strOfNums x, true) := rfl
theorem Gq (x : List Int) (b : Int) (r : Option (List Int)) : yM (x ++ [b]) r = yM x (r.map (b :: ·)) := by
 cases r with
 | none => rfl
 | some ys =>
  unfold yM
  simp only [Option.map_some, List.append_assoc, List.cons_append, List.nil_append]
theorem IE (x : List Int) (b : Int) (r : Option (List Int)) : DX (x ++ [b]) r = DX x (r.map (b :: ·)) := by
 cases r with
 | none => rfl
 | some ys =>
  unfold DX
  simp only [Option.map_some, List.append_assoc, List.cons_append, List.nil_append]
def xC : Nat → List UInt8 → Option (List UInt8)
 | _, [] => some []
 | 0, _ :: _ => none
 | f + 1, c :: t => match qc (c :: t) with
  | none => none
  | some (b, r) => (xC f r).map (b :: ·)
theorem tu (f : Nat) : xC f [] = some [] := by cases f <;> rfl
theorem sS (f : Nat) (c : UInt8) (t : List UInt8) : xC (f + 1) (c :: t) = match qc (c :: t) with
  | none => none
  | some (b, r) => (xC f r).map (b :: ·) := rfl
def toI (o : Option (List UInt8)) : Option (List Int) := o.map fun l => l.map fun b => (b.toNat : Int)
theorem GN (b : UInt8) (o : Option (List UInt8)) : (toI o).map ((b.toNat : Int) :: ·) = toI (o.map (b :: ·)) := by cases o <;> rfl
theorem KU (s : ByteArray) (hs : s.size ≤ 400) : ∀ n i, s.size - i ≤ n → i ≤ s.size → ∃ res : Option (List Int), (∀ x3 : List Int, x3.length ≤ i → Ev (fun k => iF.l0 k s x3 (i : Int)) (yM x3 res)) ∧ (∀ (a : ByteArray) (x4 : List Int), a.data.toList = s.data.toList.drop i → x4.length ≤ i → Ev (fun k => gZ.l0 k a x4) (DX x4 res)) ∧ res = toI (xC n (s.data.toList.drop i)) := by
 have ht := Pl.jy s
 intro n
 induction n with
 | zero =>
  intro i hn hi
  refine ⟨some [], fun x3 hx => ?_, fun a x4 ha hx => ?_, by rw [show s.data.toList.drop i = [] from List.drop_eq_nil_iff.2 (by omega), tu]; rfl⟩
  ·refine Ev.step (fun k => by rw [iF.l0]) ?_
   refine Pl.fG (by omega) ?_
   rw [CX]
   have hev : Ev (fun _ : Nat => if (x3.length : Int) > 40 then some (2, (⟨#[]⟩ : ByteArray)) else some ((0 : Int), strOfNums x3)) (if (x3.length : Int) > 40 then (2, (⟨#[]⟩ : ByteArray)) else (0, strOfNums x3)) := by
    by_cases h : (x3.length : Int) > 40
    ·simp only [if_pos h]; exact Ev.now _
    ·simp only [if_neg h]; exact Ev.now _
   exact hev
  ·refine Ev.step (fun k => by rw [gZ.l0]) ?_
   rw [CG]
   refine Pl.fA ?_ (Ev.now _)
   rw [Pl.toList_data, ha]
   exact List.drop_eq_nil_iff.2 (by omega)
 | succ n ih =>
  intro i hn hi
  by_cases hlt : i < s.size
  ·have hd := Pl.mf (l := s.data.toList) (i := i) (by omega)
   have hone := JB s hs i hlt
   have hsz : ∀ a : ByteArray, a.data.toList = s.data.toList.drop i → a.size ≤ 400 := fun a ha => by
    rw [Pl.rZ ha, List.length_drop]
    omega
   cases hst : qc (s.data.toList.drop i) with
   | none =>
    refine ⟨none, fun x3 hx => ?_, fun a x4 ha hx => ?_, by rw [hd] at hst ⊢; rw [sS, hst]; rfl⟩
    ·refine Ev.step (fun k => by rw [iF.l0]) ?_
     refine Pl.fA (by omega) ?_
     refine Pl.iw hone ?_
     unfold wH
     rw [hst]
     exact Pl.fA rfl (Ev.now _)
    ·exact (BF a x4 _ _ (ha.trans hd) (hsz a ha) (by omega)).1 (by rw [← hd]; exact hst)
   | some br =>
    obtain ⟨b, r⟩ := br
    obtain ⟨p, hp, hpr⟩ := yK hst
    have hlen : p.length + r.length = s.size - i := by
     have := congrArg List.length hpr
     rw [List.length_append, List.length_drop] at this
     omega
    have hp1 : 1 ≤ p.length := by
     cases p with
     | nil => exact absurd rfl hp
     | cons => simp
    have hr : s.data.toList.drop (i + p.length) = r := by
     rw [← List.drop_drop, hpr]
     simp
    obtain ⟨res, h1, h2, h3⟩ := ih (i + p.length) (by omega) (by omega)
    refine ⟨res.map ((b.toNat : Int) :: ·), fun x3 hx => ?_, fun a x4 ha hx => ?_, by rw [h3, hr]; rw [hd] at hst ⊢; rw [sS, hst]; exact GN b _⟩
    ·refine Ev.step (fun k => by rw [iF.l0]) ?_
     refine Pl.fA (by omega) ?_
     refine Pl.iw hone ?_
     have hv : wH (s.data.toList.drop i) = ((b.toNat : Int), (p.length : Int)) := by
      unfold wH
      rw [hst]
      show (_, _) = _
      rw [Prod.mk.injEq, List.length_drop]
      exact ⟨rfl, by omega⟩
     rw [hv]
     refine Pl.fG (by show ¬ (p.length : Int) = 0; omega) (Pl.fA (by omega) ?_)
     have e : wrap64 ((i : Int) + (p.length : Int)) = ((i + p.length : Nat) : Int) := by rw [Pl.wrap_in (by omega) (by omega)]; omega
     rw [← Gq]
     show Ev (fun k => iF.l0 k s (x3 ++ [(b.toNat : Int)]) (wrap64 ((i : Int) + (p.length : Int)))) _
     rw [e]
     exact h1 _ (by rw [List.length_append]; show x3.length + 1 ≤ _; omega)
    ·refine (BF a x4 _ _ (ha.trans hd) (hsz a ha) (by omega)).2 b r (by rw [← hd]; exact hst) _ ?_
     rw [← IE]
     exact h2 _ _ (by rw [hr]) (by rw [List.length_append]; show x4.length + 1 ≤ _; omega)
  ·obtain rfl : i = s.size := by omega
   refine ⟨some [], fun x3 hx => ?_, fun a x4 ha hx => ?_, by rw [show s.data.toList.drop s.size = [] from List.drop_eq_nil_iff.2 (by omega), tu]; rfl⟩
   ·refine Ev.step (fun k => by rw [iF.l0]) ?_
    refine Pl.fG (by omega) ?_
    rw [CX]
    have hev : Ev (fun _ : Nat => if (x3.length : Int) > 40 then some (2, (⟨#[]⟩ : ByteArray)) else some ((0 : Int), strOfNums x3)) (if (x3.length : Int) > 40 then (2, (⟨#[]⟩ : ByteArray)) else (0, strOfNums x3)) := by
     by_cases h : (x3.length : Int) > 40
     ·simp only [if_pos h]; exact Ev.now _
     ·simp only [if_neg h]; exact Ev.now _
    exact hev
   ·refine Ev.step (fun k => by rw [gZ.l0]) ?_
    rw [CG]
    refine Pl.fA ?_ (Ev.now _)
    rw [Pl.toList_data, ha]
    exact List.drop_eq_nil_iff.2 (by omega)
theorem Ey {c : UInt8} (h : Pl.nJ c = true) (h1 : c ≠ 60) (h2 : c ≠ 62) (h3 : c ≠ 34) : oD c = true := by
 have hp : 32 ≤ c.toNat ∧ c.toNat ≤ 126 := of_decide_eq_true h
 have ne : ∀ m : UInt8, c ≠ m → c.toNat ≠ m.toNat := fun m h e => h (UInt8.toNat_inj.1 e)
 exact decide_eq_true ⟨hp.1, hp.2, ne 60 h1, ne 62 h2, ne 34 h3⟩
theorem II (c : UInt8) (hc : Pl.nJ c = true) (r : List UInt8) : qc (wW c ++ r) = some (c, r) := by
 rcases qN c with ⟨e, e2⟩ | ⟨e, e2⟩ | ⟨e, e2⟩ | ⟨e, e2⟩ | ⟨n1, n2, n3, n4, e2⟩
 ·rw [mi e2, e]
  exact (qi (N := [113, 117, 111, 116]) (r := r) (by decide)).trans (by rw [show qW [113, 117, 111, 116] = some 34 from by decide]; rfl)
 ·rw [mi e2, e]
  exact (qi (N := [97, 109, 112]) (r := r) (by decide)).trans (by rw [show qW [97, 109, 112] = some 38 from by decide]; rfl)
 ·rw [mi e2, e]
  exact (qi (N := [103, 116]) (r := r) (by decide)).trans (by rw [show qW [103, 116] = some 62 from by decide]; rfl)
 ·rw [mi e2, e]
  exact (qi (N := [108, 116]) (r := r) (by decide)).trans (by rw [show qW [108, 116] = some 60 from by decide]; rfl)
 ·rw [sZ e2]
  show (if c = 38 then _ else if oD c = true then some (c, r) else none) = _
  rw [if_neg n2, if_pos (Ey hc n4 n3 n1)]
theorem EC : ∀ (l : List UInt8) (f : Nat), l.length ≤ f → l.all Pl.nJ = true → xC f (nR l) = some l
 | [], f, _, _ => tu f
 | c :: l, 0, h, _ => absurd h (by simp)
 | c :: l, f + 1, h, hp => by
  rw [List.all_cons, Bool.and_eq_true] at hp
  have ih := EC l f (by simpa using h) hp.2
  have hs := II c hp.1 (nR l)
  rw [xq]
  obtain ⟨x, y, e⟩ : ∃ x y, wW c ++ nR l = x :: y := by
   have := (BR c).1
   cases hq : wW c with
   | nil => rw [hq] at this; simp at this
   | cons x y => exact ⟨x, y ++ nR l, rfl⟩
  rw [e] at hs ⊢
  rw [sS, hs]
  show (xC f (nR l)).map (c :: ·) = _
  rw [ih]
  rfl
theorem Ea {D : List UInt8} {b : UInt8} (h : xI D = some b) : Pl.nJ b = true := by
 unfold xI at h
 split at h
 ·rename_i q
  obtain ⟨_, _, _, h1, h2⟩ := q
  cases h
  exact decide_eq_true (by rw [UInt8.toNat_ofNat']; omega)
 ·cases h
theorem FY {N : List UInt8} {b : UInt8} (h : qW N = some b) : Pl.nJ b = true := by
 unfold qW at h
 split at h
 ·cases h; decide
 split at h
 ·cases h; decide
 split at h
 ·cases h; decide
 split at h
 ·cases h; decide
 split at h
 ·cases h; decide
 split at h
 ·cases h
 ·split at h
  ·exact Ea h
  ·cases h
theorem Dy {l : List UInt8} {b : UInt8} {r : List UInt8} (h : qc l = some (b, r)) : Pl.nJ b = true := by
 cases l with
 | nil => cases h
 | cons c t =>
  by_cases hb : c = 38
  ·subst hb
   rcases yA t with h' | ⟨N, r', h', rfl⟩
   ·rw [uS h'] at h; cases h
   ·rw [qi h'] at h
    cases he : qW N with
    | none => rw [he] at h; cases h
    | some x =>
     rw [he] at h
     obtain ⟨rfl, rfl⟩ : x = b ∧ r' = r := by simpa using h
     exact FY he
  ·change (if c = 38 then _ else _) = _ at h
   rw [if_neg hb] at h
   by_cases hs : oD c = true
   ·rw [if_pos hs] at h
    obtain ⟨rfl, rfl⟩ : c = b ∧ t = r := by simpa using h
    have := of_decide_eq_true hs
    exact decide_eq_true ⟨this.1, this.2.1⟩
   ·rw [if_neg hs] at h; cases h
theorem Fe : ∀ (f : Nat) (l ys : List UInt8), xC f l = some ys → ys.all Pl.nJ = true
 | f, [], ys, h => by
  rw [tu] at h
  cases h
  rfl
 | 0, _ :: _, _, h => by cases h
 | f + 1, c :: t, ys, h => by
  rw [sS] at h
  cases hs : qc (c :: t) with
  | none => rw [hs] at h; cases h
  | some br =>
   obtain ⟨b, r⟩ := br
   rw [hs] at h
   change (xC f r).map (b :: ·) = some ys at h
   cases hd : xC f r with
   | none => rw [hd] at h; cases h
   | some zs =>
    rw [hd] at h
    cases h
    rw [List.all_cons, Dy hs, Fe f r zs hd]
    rfl
theorem GM (l : List UInt8) : strOfNums (l.map fun b => (b.toNat : Int)) = ⟨l.toArray⟩ := by
 apply ByteArray.ext
 have e : ((fun n : Int => UInt8.ofNat n.toNat) ∘ fun b : UInt8 => (b.toNat : Int)) = id := by
  funext b
  simp
 unfold strOfNums
 simp [e]
theorem Hz (c : UInt8) : ∀ x ∈ wW c, x ≠ 60 ∧ x ≠ 62 ∧ x ≠ 34 := by
 rcases qN c with ⟨e, e2⟩ | ⟨e, e2⟩ | ⟨e, e2⟩ | ⟨e, e2⟩ | ⟨n1, n2, n3, n4, e2⟩
 ·rw [mi e2]
  decide
 ·rw [mi e2]
  decide
 ·rw [mi e2]
  decide
 ·rw [mi e2]
  decide
 ·rw [sZ e2]
  intro x hx
  rw [List.mem_singleton] at hx
  subst hx
  exact ⟨n4, n3, n1⟩
theorem uw (l : List UInt8) : ∀ x ∈ nR l, x ≠ 60 ∧ x ≠ 62 ∧ x ≠ 34 := by
 intro x hx
 unfold nR at hx
 obtain ⟨c, _, h⟩ := List.mem_flatMap.1 hx
 exact Hz c x h
theorem Jg (s : ByteArray) (hs : s.size ≤ 400) (res : Option (List Int)) (h : Ev (fun k => gZ.f k s) (DX [] res)) : Ev (fun k => jX.f k s) (yM [] res) := by
 unfold jX.f
 refine Pl.fG (by omega) (Pl.iw h ?_)
 simp only [oz, Option.bind_some]
 cases res with
 | none =>
  refine Pl.iw (lw _ (by simp)) ?_
  refine Pl.fG ?_ (Pl.lJ (Ev.now _) ?_)
  ·show ¬ Pl.lN [if (!false) = true then 5 else 0, if decide ((0 : Int) > 40) = true then 2 else 0] = 0
   decide
  ·rfl
 | some ys =>
  rw [FN, zV]
  refine Pl.iw (lw _ (by simp)) ?_
  have hz : ((strOfNums ys).size : Int) = (ys.length : Int) := by
   unfold strOfNums
   rw [← Pl.jy]
   simp
  by_cases h40 : (ys.length : Int) > 40
  ·have e : Pl.lN [if (!(strOfNums ys, true).2) = true then (5 : Int) else 0, if decide (((strOfNums ys, true).1.size : Int) > 40) = true then 2 else 0] = 2 := by
    simp only [hz, decide_eq_true h40]
    rfl
   rw [e, if_pos h40]
   exact Pl.fG (by decide) (Ev.now _)
  ·have e : Pl.lN [if (!(strOfNums ys, true).2) = true then (5 : Int) else 0, if decide (((strOfNums ys, true).1.size : Int) > 40) = true then 2 else 0] = 0 := by
    simp only [hz, decide_eq_false h40]
    rfl
   rw [e, if_neg h40]
   exact Pl.fA rfl (Ev.now _)
theorem Ba (l : List UInt8) : (Pl.pU l = 0 ∧ l.length ≤ 40) ∨ Pl.pU l ≠ 0 := by
 unfold Pl.pU
 by_cases h : l.length > 40
 ·rw [if_pos h]
  exact .inr (by decide)
 ·rw [if_neg h]
  by_cases h2 : l.all Pl.nJ = true
  ·rw [if_pos h2]
   exact .inl ⟨rfl, by omega⟩
  ·rw [if_neg h2]
   exact .inr (by decide)
def unR (s : ByteArray) : Int × ByteArray := if s.size ≤ 400 then yM [] (toI (xC 400 s.data.toList)) else (2, (⟨#[]⟩ : ByteArray))
theorem KE (s : ByteArray) (hs : s.size ≤ 1048576) : Ev (fun k => iF.f k s) (unR s) ∧ Ev (fun k => jX.f k s) (unR s) := by
 unfold unR
 by_cases h : s.size ≤ 400
 ·rw [if_pos h]
  obtain ⟨res, h1, h2, h3⟩ := KU s h 400 0 (by omega) (by omega)
  rw [List.drop_zero] at h3
  rw [← h3]
  refine ⟨?_, Jg s h res (h2 s [] rfl (Nat.le_refl _))⟩
  unfold iF.f
  exact Pl.fG (by omega) (h1 [] (Nat.le_refl _))
 ·rw [if_neg h]
  refine ⟨?_, ?_⟩
  ·unfold iF.f
   exact Pl.fA (by omega) (Ev.now _)
  ·unfold jX.f
   exact Pl.fA (by omega) (Ev.now _)
theorem GR (l : List UInt8) : yM [] (toI (some l)) = if l.length ≤ 40 then (0, (⟨l.toArray⟩ : ByteArray)) else (2, (⟨#[]⟩ : ByteArray)) := by
 show yM [] (some (l.map fun b => (b.toNat : Int))) = _
 rw [zV, GM, List.length_map]
 by_cases h : l.length ≤ 40
 ·rw [if_pos h, if_neg (by omega)]
 ·rw [if_neg h, if_pos (by omega)]
theorem H5 (l : List UInt8) (h : l.length ≤ 40) (hp : l.all Pl.nJ = true) : Pl.pU l = 0 := by
 unfold Pl.pU
 rw [if_neg (by omega), if_pos hp]
theorem Me (t : ByteArray) (h : Pl.pU t.data.toList = 0) : unR (zS t) = (0, t) := by
 rcases Ba t.data.toList with ⟨_, h40⟩ | e
 ·have hp : t.data.toList.all Pl.nJ = true := by
   unfold Pl.pU at h
   rw [if_neg (by omega)] at h
   by_cases hq : t.data.toList.all Pl.nJ = true
   ·exact hq
   ·rw [if_neg hq] at h; cases h
  have hz : (zS t).size ≤ 6 * t.data.toList.length := by
   have h2 := (uT t.data.toList).2
   have e : (zS t).size = (nR t.data.toList).length := by simp [zS, ByteArray.size]
   omega
  unfold unR
  rw [if_pos (by omega)]
  have e : (zS t).data.toList = nR t.data.toList := by simp [zS]
  rw [e, EC _ 400 (by omega) hp, GR, if_pos h40]
 ·exact absurd h e
def codeOk (c : List Int) : Prop := c.length ≤ 1048577 ∧ ∀ x ∈ c, 0 ≤ x ∧ x ≤ 255
theorem wf_u8 {x : Int} (h : (Lit.int .u8 x).wf = true) : 0 ≤ x ∧ x ≤ 255 := by
 simp [Lit.wf, IntKind.min, IntKind.max, IntKind.signed, IntKind.bits] at h
 omega
theorem FP {c : List Int} (h : ¬ (c.length : Int) > 1048576) (hc : ∀ x ∈ c, (Lit.int .u8 x).wf = true) : codeOk c := ⟨by omega, fun x hx => wf_u8 (hc x hx)⟩
theorem EK {c : List Int} (hc : ∀ x ∈ c, 0 ≤ x ∧ x ≤ 255) (i : Int) : 0 ≤ rd c i ∧ rd c i ≤ 255 := by
 unfold rd
 rw [List.getD_eq_getElem?_getD]
 cases h : c[i.toNat]? with
 | none => simp
 | some x => exact hc x (List.mem_of_getElem? h)
theorem tmod_in {x n : Int} (hx : 0 ≤ x) (hn : 0 < n) : 0 ≤ Int.tmod x n ∧ Int.tmod x n < n := by
 rw [Int.tmod_eq_emod_of_nonneg hx]
 exact ⟨Int.emod_nonneg _ (by omega), Int.emod_lt_of_pos _ hn⟩
theorem Jq {x n : Int} (hx : 0 ≤ x) (hn : 0 < n) : 0 ≤ Int.tdiv x n ∧ Int.tdiv x n ≤ x := by
 rw [Int.tdiv_eq_ediv_of_nonneg hx]
 exact ⟨Int.ediv_nonneg hx (by omega), Int.ediv_le_self _ hx⟩
theorem oH {c : List Int} (hc : codeOk c) (a : Int) (h0 : 0 ≤ a) (h1 : a ≤ 1000000) (n : Int) (n0 : 1 ≤ n) (n1 : n ≤ 1000000) : ∃ v, iC.f c a n = some (v, a + 1) ∧ 0 ≤ v ∧ v < n := by
 obtain ⟨hl, hb⟩ := hc
 unfold iC.f
 have e1 : wrap64 (a + 1) = a + 1 := Pl.wrap_in (by omega) (by omega)
 have e2 : wrap64 (a + 1 - 1) = a := by rw [Pl.wrap_in (by omega) (by omega)]; omega
 rw [if_neg (by omega), e1, e2]
 by_cases k0 : (c.length : Int) = 0
 ·rw [if_pos k0, if_neg (by omega), Pl.wrap_in (x := a * 7) (by omega) (by omega)]
  exact ⟨_, rfl, tmod_in (by omega) (by omega)⟩
 ·obtain ⟨t0, t1⟩ := tmod_in (x := a) (n := (c.length : Int)) h0 (by omega)
  obtain ⟨d0, d1⟩ := Jq (x := a) (n := (c.length : Int)) h0 (by omega)
  obtain ⟨b0, b1⟩ := EK hb (Int.tmod a (c.length : Int))
  rw [if_neg k0, if_pos t0, if_pos t1]
  have w1 : wrap64 (rd c (Int.tmod a (c.length : Int))) = rd c (Int.tmod a (c.length : Int)) := Pl.wrap_in (by omega) (by omega)
  have w2 : wrap64 (Int.tdiv a (c.length : Int)) = Int.tdiv a (c.length : Int) := Pl.wrap_in (by omega) (by omega)
  have w3 : wrap64 (Int.tdiv a (c.length : Int) * 37) = Int.tdiv a (c.length : Int) * 37 := Pl.wrap_in (by omega) (by omega)
  have w4 : wrap64 (rd c (Int.tmod a (c.length : Int)) + Int.tdiv a (c.length : Int) * 37) = rd c (Int.tmod a (c.length : Int)) + Int.tdiv a (c.length : Int) * 37 := Pl.wrap_in (by omega) (by omega)
  by_cases big : n > 200
  ·obtain ⟨u0, u1⟩ := tmod_in (x := a + 1) (n := (c.length : Int)) (by omega) (by omega)
   obtain ⟨q0, q1⟩ := EK hb (Int.tmod (a + 1) (c.length : Int))
   rw [if_pos big, e1, if_pos u0, if_pos u1, if_neg (by omega), w1, w2, w3, w4]
   have w5 : wrap64 (rd c (Int.tmod (a + 1) (c.length : Int))) = rd c (Int.tmod (a + 1) (c.length : Int)) := Pl.wrap_in (by omega) (by omega)
   rw [w5]
   refine ⟨_, rfl, tmod_in ?_ (by omega)⟩
   rw [Pl.wrap_in (x := (rd c (Int.tmod a (c.length : Int)) + Int.tdiv a (c.length : Int) * 37) * 251) (by omega) (by omega), Pl.wrap_in (x := rd c (Int.tmod (a + 1) (c.length : Int)) * 13) (by omega) (by omega)]
   rw [Pl.wrap_in (x := (rd c (Int.tmod a (c.length : Int)) + Int.tdiv a (c.length : Int) * 37) * 251 + rd c (Int.tmod (a + 1) (c.length : Int)) * 13) (by omega) (by omega), Pl.wrap_in (by omega) (by omega)]
   omega
  ·rw [if_neg big, if_neg (by omega), w1, w2, w3, w4]
   exact ⟨_, rfl, tmod_in (by omega) (by omega)⟩
theorem AB {c : List Int} (hc : codeOk c) (a : Int) (h0 : 0 ≤ a) (h1 : a ≤ 1000000) (l : List Int) (l0 : 1 ≤ l.length) (l1 : l.length ≤ 1000) : ∃ v, lh.f c a l = some (v, a + 1) ∧ v ∈ l := by
 obtain ⟨v, e, v0, v1⟩ := oH hc a h0 h1 (l.length : Int) (by omega) (by omega)
 unfold lh.f
 rw [e, Option.bind_some]
 refine ⟨rd l v, by rw [if_pos v0, if_pos v1], ?_⟩
 obtain ⟨i, rfl⟩ : ∃ i : Nat, v = i := ⟨v.toNat, by omega⟩
 rw [Pl.yR l i (by omega)]
 exact List.getElem_mem _
def AX : List At → List UInt8 → ByteArray × Bool
 | [], _ => ((⟨#[]⟩ : ByteArray), false)
 | y :: l, s => if y.f0.toList = s then (y.f1, true) else AX l s
theorem D7 (t : ByteArray) (q : Int) (l : List At) (h : l.length ≤ 1048576) (s : ByteArray) : Ev (fun k => jq.f k t q l s) (AX l s.toList) := by
 unfold jq.f
 have main := Pl.rF (n := l.length) (g := fun k i => jq.l0 k s l (l.length : Int) i) (F := fun i => AX (l.drop i) s.toList) ?_ ?_ 0 (Nat.zero_le _)
 ·simpa using main
 ·refine Ev.step (fun k => by rw [jq.l0]) ?_
  rw [List.drop_length]
  exact Pl.fG (by omega) (Ev.now _)
 ·intro i hi ih
  refine Ev.step (fun k => by rw [jq.l0]) ?_
  rw [Pl.mf hi, Pl.kV (show i < 9223372036854775807 by omega), qg l i hi]
  refine Pl.fA (by omega) (Pl.fA (by omega) (Pl.fA (by omega) ?_))
  by_cases h : l[i].f0.toList = s.toList
  ·exact Pl.lJ (Pl.fA h (Ev.now _)) (by rw [AX, if_pos h])
  ·exact Pl.lJ (Pl.fG h ih) (by rw [AX, if_neg h])
def BN (x y : S38) : Bool := (x.f0.toList == y.f0.toList) && (x.f1.toList == y.f1.toList)
def tN : List S38 → List S38 → Bool
 | [], [] => true
 | x :: l, y :: m => BN x y && tN l m
 | _, _ => false
def CE (x y : S33) : Bool := (x.f0.toList == y.f0.toList) && (x.f1 == y.f1) && tN x.f2 y.f2
def tV : List S33 → List S33 → Bool
 | [], [] => true
 | x :: l, y :: m => CE x y && tV l m
 | _, _ => false
theorem yO : ∀ l m, l.length ≠ m.length → tN l m = false
 | [], [], h => absurd rfl h
 | [], _ :: _, _ => rfl
 | _ :: _, [], _ => rfl
 | x :: l, y :: m, h => by rw [tN, yO l m (fun e => h (by simp [e])), Bool.and_false]
theorem zk : ∀ l m, l.length ≠ m.length → tV l m = false
 | [], [], h => absurd rfl h
 | [], _ :: _, _ => rfl
 | _ :: _, [], _ => rfl
 | x :: l, y :: m, h => by rw [tV, zk l m (fun e => h (by simp [e])), Bool.and_false]
theorem MH (a b : Bool) : ((!a || !b) = true) ↔ ¬ ((a && b) = true) := by cases a <;> cases b <;> simp
theorem Hq (l m : List S38) (hl : l.length ≤ 1048576) : Ev (fun k => iy.f k l m) (tN l m) := by
 unfold iy.f
 simp only [Pl.lY]
 split
 ·rename_i h
  have hm : l.length = m.length := by omega
  have := Pl.rF (n := l.length) (g := fun k i => iy.l0 k l m (l.length : Int) i) (F := fun i => tN (l.drop i) (m.drop i)) ?_ (fun i hi ih => ?_) 0 (Nat.zero_le _)
  ·simpa using this
  ·refine Ev.step (fun k => by rw [iy.l0]) ?_
   simp only [Pl.lY, Pl.kP]
   rw [if_neg (by omega), List.drop_length, show List.drop l.length m = [] from by rw [hm]; exact List.drop_length]
   rfl
  ·refine Ev.step (fun k => by rw [iy.l0]) ?_
   have hi' : i < m.length := by omega
   simp only [Pl.lY, Pl.kP, Pl.mO, qg l i hi, qg m i hi', Pl.mf hi, Pl.mf hi', tN, MH, Pl.kV (show i < 9223372036854775807 by omega)]
   rw [if_pos (by omega), if_pos (by omega), if_pos (by omega), if_pos (by omega)]
   cases h2 : BN l[i] m[i]
   ·rw [if_pos (by unfold BN at h2; simp [h2])]
    rfl
   ·rw [if_neg (by unfold BN at h2; simp [h2])]
    exact ih
 ·rename_i h
  exact Pl.kP.2 (yO l m (by omega)).symm
theorem IY (x y : S33) (hx : x.f2.length ≤ 1048576) : Ev (fun k => kL.f k x.f0 x.f1 x.f2 y.f0 y.f1 y.f2) (CE x y) := by
 unfold kL.f CE
 simp only [Pl.lY]
 split
 ·rename_i h
  split
  ·rename_i h2
   refine Pl.iw (Hq x.f2 y.f2 hx) (Pl.kP.2 ?_)
   simp [h, h2]
  ·rename_i h2
   exact Pl.kP.2 (by simp [h2])
 ·rename_i h
  exact Pl.kP.2 (by simp [h])
theorem Fa (l m : List S33) (hl : l.length ≤ 1048576) (hb : ∀ y ∈ l, y.f2.length ≤ 1048576) : Ev (fun k => ku.f k l m) (tV l m) := by
 unfold ku.f
 refine Pl.iw (a := tV l m) ?_ (Ev.now _)
 unfold fF.f
 simp only [Pl.lY]
 split
 ·rename_i h
  have hm : l.length = m.length := by omega
  have := Pl.rF (n := l.length) (g := fun k i => fF.l0 k m l (l.length : Int) i) (F := fun i => tV (l.drop i) (m.drop i)) ?_ (fun i hi ih => ?_) 0 (Nat.zero_le _)
  ·simpa using this
  ·refine Ev.step (fun k => by rw [fF.l0]) ?_
   simp only [Pl.lY, Pl.kP]
   rw [if_neg (by omega), List.drop_length, show List.drop l.length m = [] from by rw [hm]; exact List.drop_length]
   rfl
  ·refine Ev.step (fun k => by rw [fF.l0]) ?_
   have hi' : i < m.length := by omega
   simp only [Pl.lY, Pl.kP, Pl.mO, qO l i hi, qO m i hi', Pl.mf hi, Pl.mf hi', tV, Pl.kV (show i < 9223372036854775807 by omega)]
   rw [if_pos (by omega), if_pos (by omega), if_pos (by omega), if_pos (by omega)]
   refine Pl.iw (IY l[i] m[i] (hb _ (List.getElem_mem hi))) ?_
   cases h2 : CE l[i] m[i]
   ·exact Pl.kP.2 rfl
   ·simpa [h2] using ih
 ·rename_i h
  exact Pl.kP.2 (zk l m (by omega)).symm
abbrev Prs := List (List UInt8 × List UInt8)
def nT : Nat → List UInt8 → Option Prs
 | 0, _ => none
 | f + 1, r =>
  if r.dropWhile Pl.iR = [] then some [] else
  if (r.dropWhile Pl.iR).length = r.length then none else
  if [61, 34].isPrefixOf ((r.dropWhile Pl.iR).dropWhile (· != 61)) = false then none else
  if (34 : UInt8) ∈ ((r.dropWhile Pl.iR).dropWhile (· != 61)).drop 2 then
   (nT f (((((r.dropWhile Pl.iR).dropWhile (· != 61)).drop 2).dropWhile (· != 34)).drop 1)).map (((r.dropWhile Pl.iR).takeWhile (· != 61), (((r.dropWhile Pl.iR).dropWhile (· != 61)).drop 2).takeWhile (· != 34)) :: ·)
  else none
def sV : Nat → List UInt8 → Option (Prs × Bool)
 | 0, _ => none
 | f + 1, x =>
  if x.dropWhile Pl.iR = [62] then some ([], false) else
  if x.dropWhile Pl.iR = [47, 62] then some ([], true) else
  if (x.dropWhile Pl.iR).length = x.length then none else
  if (x.dropWhile Pl.iR).takeWhile Pl.jV = [] then none else
  if [61, 34].isPrefixOf ((x.dropWhile Pl.iR).dropWhile Pl.jV) = false then none else
  if (34 : UInt8) ∈ ((x.dropWhile Pl.iR).dropWhile Pl.jV).drop 2 then
   (sV f (((((x.dropWhile Pl.iR).dropWhile Pl.jV).drop 2).dropWhile (· != 34)).drop 1)).map (fun z => (((x.dropWhile Pl.iR).takeWhile Pl.jV, (((x.dropWhile Pl.iR).dropWhile Pl.jV).drop 2).takeWhile (· != 34)) :: z.1, z.2))
  else none
section
variable {p : UInt8 → Bool} {a b : List UInt8}
theorem oJ (ha : ∀ c ∈ a, p c = true) (hb : ∀ c, b.head? = some c → p c = false) : (a ++ b).dropWhile p = b := by
 induction a with
 | nil =>
  cases b with
  | nil => rfl
  | cons c t => rw [List.nil_append, List.dropWhile_cons, if_neg]; rw [hb c rfl]; decide
 | cons c t ih =>
  rw [List.cons_append, List.dropWhile_cons, if_pos (ha c (List.mem_cons_self ..))]
  exact ih (fun d hd => ha d (List.mem_cons_of_mem _ hd))
theorem rf (ha : ∀ c ∈ a, p c = true) (hb : ∀ c, b.head? = some c → p c = false) : (a ++ b).takeWhile p = a := by
 induction a with
 | nil =>
  cases b with
  | nil => rfl
  | cons c t => rw [List.nil_append, List.takeWhile_cons, if_neg]; rw [hb c rfl]; decide
 | cons c t ih =>
  rw [List.cons_append, List.takeWhile_cons, if_pos (ha c (List.mem_cons_self ..)), ih (fun d hd => ha d (List.mem_cons_of_mem _ hd))]
theorem tX : ∀ l : List UInt8, l.dropWhile p = l.drop (l.takeWhile p).length
 | [] => rfl
 | c :: t => by
  rw [List.dropWhile_cons, List.takeWhile_cons]
  by_cases h : p c = true
  ·rw [if_pos h, if_pos h, List.length_cons, List.drop_succ_cons]
   exact tX t
  ·rw [if_neg h, if_neg h]; rfl
theorem vC : ∀ l : List UInt8, l.takeWhile p = l.take (l.takeWhile p).length
 | [] => rfl
 | c :: t => by
  rw [List.takeWhile_cons]
  by_cases h : p c = true
  ·rw [if_pos h, List.length_cons, List.take_succ_cons, ← vC t]
  ·rw [if_neg h]; rfl
theorem sO : ∀ l : List UInt8, l.takeWhile p ++ l.dropWhile p = l
 | [] => rfl
 | c :: t => by
  rw [List.dropWhile_cons, List.takeWhile_cons]
  by_cases h : p c = true
  ·rw [if_pos h, if_pos h, List.cons_append, sO t]
  ·rw [if_neg h, if_neg h]; rfl
theorem tZ : ∀ l : List UInt8, ∀ c ∈ l.takeWhile p, p c = true
 | [], c, h => by cases h
 | d :: t, c, h => by
  rw [List.takeWhile_cons] at h
  by_cases hd : p d = true
  ·rw [if_pos hd] at h
   rcases List.mem_cons.1 h with rfl | h
   ·exact hd
   ·exact tZ t c h
  ·rw [if_neg hd] at h; cases h
theorem dw_head : ∀ l : List UInt8, ∀ c, (l.dropWhile p).head? = some c → p c = false
 | [], c, h => by cases h
 | d :: t, c, h => by
  rw [List.dropWhile_cons] at h
  by_cases hd : p d = true
  ·rw [if_pos hd] at h
   exact dw_head t c h
  ·rw [if_neg hd] at h
   obtain rfl : d = c := by simpa using h
   exact Bool.eq_false_iff.2 hd
theorem su (l : List UInt8) : (l.dropWhile p).length ≤ l.length := by
 have := congrArg List.length (sO (p := p) l)
 rw [List.length_append] at this
 omega
end
theorem oL {m : UInt8} {t : List UInt8} {q : UInt8 → Bool} (h : q m = false) : ∀ c, (m :: t).head? = some c → q c = false := fun c hc => by
 injection hc with hc
 rw [← hc]
 exact h
theorem xH {m c : UInt8} (h : c ≠ m) : (c != m) = true := by simpa using h
theorem ny {c : UInt8} (h : Pl.jV c = true) : Pl.iR c = false := by
 unfold Pl.jV at h; unfold Pl.iR
 have := of_decide_eq_true h
 exact decide_eq_false (by omega)
theorem rC {f : Nat} {sp nm v r : List UInt8} (hs : ∀ c ∈ sp, Pl.iR c = true) (hs0 : sp ≠ []) (hn : (61 : UInt8) ∉ nm) (hh : ∀ c, nm.head? = some c → Pl.iR c = false) (hv : (34 : UInt8) ∉ v) :
  nT (f + 1) (sp ++ (nm ++ 61 :: 34 :: (v ++ 34 :: r))) = (nT f r).map ((nm, v) :: ·) := by
 have e1 : (sp ++ (nm ++ 61 :: 34 :: (v ++ 34 :: r))).dropWhile Pl.iR = nm ++ 61 :: 34 :: (v ++ 34 :: r) := oJ hs (fun c hc => by
  cases nm with
  | nil => exact oL (by decide) c hc
  | cons d t => exact hh c hc)
 have e2 : (nm ++ 61 :: 34 :: (v ++ 34 :: r)).dropWhile (· != 61) = 61 :: 34 :: (v ++ 34 :: r) := oJ (fun c hc => xH (fun e => hn (e ▸ hc))) (oL (by decide))
 have e3 : (nm ++ 61 :: 34 :: (v ++ 34 :: r)).takeWhile (· != 61) = nm := rf (fun c hc => xH (fun e => hn (e ▸ hc))) (oL (by decide))
 have e4 : (v ++ 34 :: r).dropWhile (· != 34) = 34 :: r := oJ (fun c hc => xH (fun e => hv (e ▸ hc))) (oL (by decide))
 have e5 : (v ++ 34 :: r).takeWhile (· != 34) = v := rf (fun c hc => xH (fun e => hv (e ▸ hc))) (oL (by decide))
 have hl : 0 < sp.length := List.length_pos_iff.2 hs0
 rw [nT, e1, e2, e3, if_neg (by simp), if_neg (by simp only [List.length_append, List.length_cons]; omega), if_neg (by simp [List.isPrefixOf]), if_pos (by simp)]
 show (nT f (((v ++ 34 :: r).dropWhile (· != 34)).drop 1)).map ((nm, (v ++ 34 :: r).takeWhile (· != 34)) :: ·) = _
 rw [e4, e5]
 rfl
theorem F9 {f : Nat} {sp nm v r : List UInt8} (hs : ∀ c ∈ sp, Pl.iR c = true) (hs0 : sp ≠ []) (hn : ∀ c ∈ nm, Pl.jV c = true) (hn0 : nm ≠ []) (hv : (34 : UInt8) ∉ v) :
  sV (f + 1) (sp ++ (nm ++ 61 :: 34 :: (v ++ 34 :: r))) = (sV f r).map (fun z => ((nm, v) :: z.1, z.2)) := by
 have e1 : (sp ++ (nm ++ 61 :: 34 :: (v ++ 34 :: r))).dropWhile Pl.iR = nm ++ 61 :: 34 :: (v ++ 34 :: r) := oJ hs (fun c hc => by
  cases nm with
  | nil => exact absurd rfl hn0
  | cons d t =>
   obtain rfl : d = c := by simpa using hc
   exact ny (hn d (List.mem_cons_self ..)))
 have e2 : (nm ++ 61 :: 34 :: (v ++ 34 :: r)).dropWhile Pl.jV = 61 :: 34 :: (v ++ 34 :: r) := oJ hn (oL (by decide))
 have e3 : (nm ++ 61 :: 34 :: (v ++ 34 :: r)).takeWhile Pl.jV = nm := rf hn (oL (by decide))
 have e4 : (v ++ 34 :: r).dropWhile (· != 34) = 34 :: r := oJ (fun c hc => xH (fun e => hv (e ▸ hc))) (oL (by decide))
 have e5 : (v ++ 34 :: r).takeWhile (· != 34) = v := rf (fun c hc => xH (fun e => hv (e ▸ hc))) (oL (by decide))
 have hl : 0 < sp.length := List.length_pos_iff.2 hs0
 have hx : ∀ y : List UInt8, y.length < 3 → nm ++ 61 :: 34 :: (v ++ 34 :: r) ≠ y := fun y hy e => by
  have := congrArg List.length e
  have := List.length_pos_iff.2 hn0
  simp only [List.length_append, List.length_cons] at *
  omega
 rw [sV, e1, e2, e3, if_neg (hx _ (by decide)), if_neg (hx _ (by decide)), if_neg (by simp only [List.length_append, List.length_cons]; omega), if_neg hn0, if_neg (by simp [List.isPrefixOf]), if_pos (by simp)]
 show (sV f (((v ++ 34 :: r).dropWhile (· != 34)).drop 1)).map (fun z => ((nm, (v ++ 34 :: r).takeWhile (· != 34)) :: z.1, z.2)) = _
 rw [e4, e5]
 rfl
theorem pre2 {l : List UInt8} (h : ¬ [61, 34].isPrefixOf l = false) : ∃ t, l = 61 :: 34 :: t := by
 have h := Bool.not_eq_false _ ▸ h
 obtain ⟨t, rfl⟩ := List.isPrefixOf_iff_prefix.1 h
 exact ⟨t, rfl⟩
theorem rJ {v : List UInt8} (h : (34 : UInt8) ∈ v) : ∃ r, v.dropWhile (· != 34) = 34 :: r ∧ v = v.takeWhile (· != 34) ++ 34 :: r := by
 have e := sO (p := fun c => c != 34) v
 cases hd : v.dropWhile (· != 34) with
 | nil =>
  rw [hd, List.append_nil] at e
  have := tZ (p := fun c => c != 34) v 34 (by rw [e]; exact h)
  simp at this
 | cons c r =>
  have hc := dw_head (p := fun c => c != 34) v c (by rw [hd]; rfl)
  obtain rfl : c = 34 := by simpa using hc
  rw [hd] at e
  exact ⟨r, rfl, e.symm⟩
def mF (cl : Bool) : List UInt8 := if cl = true then [47, 62] else [62]
theorem CP : ∀ (f : Nat) (x : List UInt8) (ps : Prs) (cl : Bool), sV f x = some (ps, cl) → ∃ b, x = b ++ mF cl ∧ (∀ g, b.length < g → nT g b = some ps) ∧ (∀ c, b.head? = some c → Pl.iR c = true) ∧ (∀ q ∈ ps, q.1 ≠ [] ∧ ∀ c ∈ q.1, Pl.jV c = true) ∧ b.getLast? ≠ some 47
 | 0, _, _, _, h => by cases h
 | f + 1, x, ps, cl, h => by
  have hx := sO (p := Pl.iR) x
  have hsp := tZ (p := Pl.iR) x
  have hbe := dw_head (p := Pl.iR) x
  have fin : ∀ sp : List UInt8, (∀ c ∈ sp, Pl.iR c = true) → (∀ g, sp.length < g → nT g sp = some []) ∧ (∀ c, sp.head? = some c → Pl.iR c = true) ∧ sp.getLast? ≠ some 47 := by
   intro sp hs
   refine ⟨fun g hg => ?_, fun c hc => hs c (List.mem_of_mem_head? hc), fun e => ?_⟩
   ·obtain ⟨g', rfl⟩ : ∃ g', g = g' + 1 := ⟨g - 1, by omega⟩
    have e : sp.dropWhile Pl.iR = [] := by
     have := oJ (p := Pl.iR) (a := sp) (b := []) hs (fun c hc => by cases hc)
     rwa [List.append_nil] at this
    rw [nT, if_pos e]
   ·have := hs 47 (List.mem_of_mem_getLast? e)
    exact absurd this (by decide)
  rw [sV] at h
  by_cases h1 : x.dropWhile Pl.iR = [62]
  ·rw [if_pos h1] at h
   obtain ⟨rfl, rfl⟩ : [] = ps ∧ false = cl := by simpa using h
   rw [h1] at hx
   obtain ⟨q1, q2, q3⟩ := fin _ hsp
   exact ⟨_, hx.symm, q1, q2, by simp, q3⟩
  rw [if_neg h1] at h
  by_cases h2 : x.dropWhile Pl.iR = [47, 62]
  ·rw [if_pos h2] at h
   obtain ⟨rfl, rfl⟩ : [] = ps ∧ true = cl := by simpa using h
   rw [h2] at hx
   obtain ⟨q1, q2, q3⟩ := fin _ hsp
   exact ⟨_, hx.symm, q1, q2, by simp, q3⟩
  rw [if_neg h2] at h
  by_cases h3 : (x.dropWhile Pl.iR).length = x.length
  ·rw [if_pos h3] at h; cases h
  rw [if_neg h3] at h
  by_cases h4 : (x.dropWhile Pl.iR).takeWhile Pl.jV = []
  ·rw [if_pos h4] at h; cases h
  rw [if_neg h4] at h
  by_cases h5 : [61, 34].isPrefixOf ((x.dropWhile Pl.iR).dropWhile Pl.jV) = false
  ·rw [if_pos h5] at h; cases h
  rw [if_neg h5] at h
  obtain ⟨v, hv⟩ := pre2 h5
  have hnm := sO (p := Pl.jV) (x.dropWhile Pl.iR)
  have hsm := tZ (p := Pl.jV) (x.dropWhile Pl.iR)
  rw [hv] at h hnm
  generalize (x.dropWhile Pl.iR).takeWhile Pl.jV = nm at h h4 hnm hsm
  by_cases h6 : (34 : UInt8) ∈ v
  ·have h6' : (34 : UInt8) ∈ (61 :: 34 :: v).drop 2 := h6
   rw [if_pos h6'] at h
   obtain ⟨r, hr, hvr⟩ := rJ h6
   have hv34 := tZ (p := fun c => c != 34) v
   have h : (sV f ((v.dropWhile (· != 34)).drop 1)).map (fun z => ((nm, v.takeWhile (· != 34)) :: z.1, z.2)) = some (ps, cl) := h
   rw [hr] at h
   generalize v.takeWhile (· != 34) = vv at h hvr hv34
   obtain ⟨⟨ps', cl'⟩, hc, hz⟩ := Option.map_eq_some_iff.1 h
   obtain ⟨rfl, rfl⟩ : (nm, vv) :: ps' = ps ∧ cl' = cl := by simpa using hz
   obtain ⟨b, rb, q1, q2, q3, q4⟩ := CP f r ps' cl' hc
   have hs0 : x.takeWhile Pl.iR ≠ [] := fun e => by
    rw [e, List.nil_append] at hx
    exact h3 (by rw [hx])
   have hn34 : (34 : UInt8) ∉ vv := fun hm => by have := hv34 34 hm; simp at this
   generalize x.takeWhile Pl.iR = sp at hx hsp hs0
   refine ⟨sp ++ (nm ++ 61 :: 34 :: (vv ++ 34 :: b)), ?_, fun g hg => ?_, fun c hc => ?_, fun q hq => ?_, ?_⟩
   ·rw [← hx, ← hnm, hvr]
    subst rb
    simp
   ·obtain ⟨g', rfl⟩ : ∃ g', g = g' + 1 := ⟨g - 1, by omega⟩
    rw [rC hsp hs0 (fun hm => by have := hsm 61 hm; exact absurd this (by decide)) (fun c hc => ny (hsm c (List.mem_of_mem_head? hc))) hn34, q1 g' (by simp only [List.length_append, List.length_cons] at hg; omega)]
    rfl
   ·cases sp with
    | nil => exact absurd rfl hs0
    | cons d t =>
     injection hc with hc
     rw [← hc]
     exact hsp d (List.mem_cons_self ..)
   ·rcases List.mem_cons.1 hq with rfl | hq
    ·exact ⟨h4, hsm⟩
    ·exact q3 q hq
   ·rw [show sp ++ (nm ++ 61 :: 34 :: (vv ++ 34 :: b)) = (sp ++ nm ++ 61 :: 34 :: vv ++ [34]) ++ b by simp]
    cases b with
    | nil =>
     rw [List.append_nil, List.getLast?_concat]
     decide
    | cons d t =>
     rw [List.getLast?_append]
     intro e
     cases hq : (d :: t).getLast? with
     | none => simp at hq
     | some z =>
      rw [hq] at e q4
      exact q4 e
  ·have h6' : ¬ (34 : UInt8) ∈ (61 :: 34 :: v).drop 2 := h6
   rw [if_neg h6'] at h; cases h
theorem scan {β : Type} {g h : Nat → Int → Option β} {L : List UInt8} {p : UInt8 → Bool} {e : Nat} (he : e ≤ L.length) {R : β}
  (h1 : ∀ i (hi : i < L.length), i < e → p L[i] = true → Ev (fun k => g k ((i : Int) + 1)) R → Ev (fun k => g k (i : Int)) R)
  (h2 : ∀ i (hi : i < L.length), i < e → p L[i] = false → Ev (fun k => h k (i : Int)) R → Ev (fun k => g k (i : Int)) R)
  (h3 : Ev (fun k => h k (e : Int)) R → Ev (fun k => g k (e : Int)) R) :
  ∀ d i, e - i = d → i ≤ e → Ev (fun k => h k ((i + (((L.take e).drop i).takeWhile p).length : Nat) : Int)) R → Ev (fun k => g k (i : Int)) R := by
 intro d
 induction d with
 | zero =>
  intro i hd hi hh
  obtain rfl : i = e := by omega
  refine h3 ?_
  rw [List.drop_of_length_le (by rw [List.length_take]; omega)] at hh
  exact hh
 | succ d ih =>
  intro i hd hi hh
  have hi' : i < (L.take e).length := by rw [List.length_take]; omega
  have hie : i < e := by omega
  rw [List.drop_eq_getElem_cons hi', List.getElem_take, List.takeWhile_cons] at hh
  by_cases hp : p L[i] = true
  ·refine h1 i (by omega) hie hp ?_
   have := ih (i + 1) (by omega) (by omega) (by
    rw [if_pos hp, List.length_cons] at hh
    rw [show i + 1 + (((L.take e).drop (i + 1)).takeWhile p).length = i + ((((L.take e).drop (i + 1)).takeWhile p).length + 1) by omega]
    exact hh)
   exact this
  ·rw [if_neg hp] at hh
   exact h2 i (by omega) hie (Bool.eq_false_iff.2 hp) hh
def bA (l : List UInt8) : ByteArray := ⟨l.toArray⟩
theorem sD (l : List UInt8) : (bA l).data.toList = l := rfl
def pcs (ps : Prs) : List ByteArray := ps.flatMap fun q => [bA q.1, bA q.2]
def Dk (acc : List ByteArray) (cl : Bool) : Option Prs → List ByteArray × Bool × Bool
 | none => ([], false, false)
 | some ps => (acc ++ pcs ps, cl, true)
theorem G8 (acc : List ByteArray) (cl : Bool) (n v : List UInt8) (o : Option Prs) : Dk (acc ++ [bA n, bA v]) cl o = Dk acc cl (o.map ((n, v) :: ·)) := by
 cases o with
 | none => rfl
 | some ps => simp [Dk, pcs]
theorem yQ (m : ByteArray) (e a n : Nat) (h : a + n ≤ e) (he : e ≤ m.size) : m.extract a (a + n) = bA (((m.data.toList.take e).drop a).take n) := by
 apply ByteArray.ext
 rw [ByteArray.data_extract]
 apply Array.ext'
 simp only [bA, Array.toList_extract, List.extract_eq_take_drop]
 rw [show a + n - a = n by omega, List.drop_take, List.take_take, Nat.min_eq_left (by omega)]
theorem oM {p : UInt8 → Bool} (l : List UInt8) : (l.takeWhile p).length ≤ l.length := by
 have := congrArg List.length (sO (p := p) l)
 rw [List.length_append] at this
 omega
theorem qA (c : UInt8) : Pl.iR c = true ↔ ((c.toNat : Int) = 32 ∨ (c.toNat : Int) = 10) := by
 unfold Pl.iR
 rw [decide_eq_true_iff]
 omega
theorem uC (m c : UInt8) : (c != m) = true ↔ ¬ (c.toNat : Int) = (m.toNat : Int) := by
 rw [bne_iff_ne, ne_eq, ← UInt8.toNat_inj]
 omega
section
variable {m : ByteArray} {e : Nat} {cl : Bool}
theorem JU (hm : m.size ≤ 600) (he : e ≤ m.size) : ∀ (f i : Nat) (acc : List ByteArray), i ≤ e → ((m.data.toList.take e).drop i).length < f → acc.length + (e - i) ≤ 2000 →
  Ev (fun k => fB.l1 k m (e : Int) cl (i : Int) acc) (Dk acc cl (nT f ((m.data.toList.take e).drop i))) := by
 have hsz : m.data.toList.length = m.size := Pl.jy m
 intro f
 induction f with
 | zero => intro i acc hi hf; omega
 | succ f ih =>
  intro i acc hi hf ha
  have hlen : ∀ j, ((m.data.toList.take e).drop j).length = e - j := fun j => by rw [List.length_drop, List.length_take]; omega
  refine Ev.step (fun k => by rw [fB.l1]) ?_
  refine scan (g := fun k i' => fB.l2 k m (e : Int) cl i' acc (i : Int)) (h := fun k i' => fB.j6 k m (e : Int) cl i' acc (i : Int)) (p := Pl.iR) (L := m.data.toList) (e := e) (by omega) ?_ ?_ ?_ _ i rfl hi ?_
  ·intro j hj hje hp ih2
   refine Ev.step (fun k => by rw [fB.l2]) ?_
   rw [Pl.o5 m j (by omega), Pl.kV (show j < 9223372036854775807 by omega)]
   refine Pl.fA (by omega) (Pl.fA (by omega) (Pl.fA (by omega) ?_))
   rcases (qA _).1 hp with h | h
   ·exact Pl.fA h ih2
   ·by_cases h' : ((m.data.toList[j].toNat : Nat) : Int) = 32
    ·exact Pl.fA h' ih2
    ·exact Pl.fG h' (Pl.fA h ih2)
  ·intro j hj hje hp ih2
   have hn : ¬ (((m.data.toList[j].toNat : Nat) : Int) = 32 ∨ ((m.data.toList[j].toNat : Nat) : Int) = 10) := fun h => by rw [(qA _).2 h] at hp; cases hp
   refine Ev.step (fun k => by rw [fB.l2]) ?_
   rw [Pl.o5 m j (by omega)]
   exact Pl.fA (by omega) (Pl.fA (by omega) (Pl.fA (by omega) (Pl.fG (fun h => hn (.inl h)) (Pl.fG (fun h => hn (.inr h)) ih2))))
  ·intro ih2
   refine Ev.step (fun k => by rw [fB.l2]) ?_
   exact Pl.fG (by omega) ih2
  ·have hn1 := oM (p := Pl.iR) ((m.data.toList.take e).drop i)
   rw [hlen] at hn1
   have hd1 := tX (p := Pl.iR) ((m.data.toList.take e).drop i)
   rw [List.drop_drop] at hd1
   rw [nT, hd1]
   have hq0 := dw_head (p := Pl.iR) ((m.data.toList.take e).drop i)
   rw [hd1] at hq0
   generalize (((m.data.toList.take e).drop i).takeWhile Pl.iR).length = n1 at hn1 hd1 hq0 ⊢
   obtain ⟨i1, hi1⟩ : ∃ i1, i + n1 = i1 := ⟨_, rfl⟩
   rw [hi1] at hd1 hq0 ⊢
   refine Ev.step (fun k => by rw [fB.j6]) ?_
   by_cases hz : e ≤ i1
   ·rw [if_pos (List.eq_nil_of_length_eq_zero (by rw [hlen]; omega))]
    refine Pl.fA (by omega) (Pl.lJ (Ev.now _) ?_)
    simp [Dk, pcs]
   rw [if_neg (fun h => by have := congrArg List.length h; rw [hlen] at this; simp at this; omega)]
   refine Pl.fG (by omega) ?_
   refine scan (g := fun k i' => fB.l3 k m (e : Int) cl i' acc (i : Int) (i1 : Int)) (h := fun k i' => fB.j8 k m (e : Int) cl i' acc (i : Int) (i1 : Int)) (p := fun c => c != 61) (L := m.data.toList) (e := e) (by omega) ?_ ?_ ?_ _ i1 rfl (by omega) ?_
   ·intro j hj hje hp ih2
    refine Ev.step (fun k => by rw [fB.l3]) ?_
    rw [Pl.o5 m j (by omega), Pl.kV (show j < 9223372036854775807 by omega)]
    exact Pl.fA (by omega) (Pl.fA (by omega) (Pl.fA (by omega) (Pl.fG ((uC 61 _).1 hp) ih2)))
   ·intro j hj hje hp ih2
    have hp' : ((m.data.toList[j].toNat : Nat) : Int) = 61 := Classical.byContradiction fun h => by rw [(uC 61 _).2 h] at hp; cases hp
    refine Ev.step (fun k => by rw [fB.l3]) ?_
    rw [Pl.o5 m j (by omega)]
    exact Pl.fA (by omega) (Pl.fA (by omega) (Pl.fA (by omega) (Pl.fA hp' ih2)))
   ·intro ih2
    refine Ev.step (fun k => by rw [fB.l3]) ?_
    exact Pl.fG (by omega) ih2
   ·have hn2 := oM (p := fun c => c != 61) ((m.data.toList.take e).drop i1)
    rw [hlen] at hn2
    have hd2 := tX (p := fun c => c != 61) ((m.data.toList.take e).drop i1)
    have ht2 := vC (p := fun c => c != 61) ((m.data.toList.take e).drop i1)
    rw [List.drop_drop] at hd2
    have hq2 := dw_head (p := fun c => c != 61) ((m.data.toList.take e).drop i1)
    rw [hd2]
    rw [hd2] at hq2
    generalize (((m.data.toList.take e).drop i1).takeWhile (fun c => c != 61)).length = n2 at hn2 hd2 ht2 hq2 ⊢
    rw [ht2]
    obtain ⟨i2, hi2⟩ : ∃ i2, i1 + n2 = i2 := ⟨_, rfl⟩
    have hx2 := yQ m e i1 n2 (by omega) he
    rw [hi2] at hd2 hq2 hx2 ⊢
    refine Ev.step (fun k => by rw [fB.j8]) ?_
    have bad : ∀ x8 : List ByteArray, Ev (fun k => fB.j9 k m (e : Int) cl (i2 : Int) x8 (i1 : Int) true) ([], false, false) := fun x8 => by
     refine Ev.step (fun k => by rw [fB.j9]) ?_
     exact Pl.fA rfl (Ev.now _)
    by_cases hsame : i = i1
    ·rw [if_pos (by rw [hlen, hlen]; omega)]
     exact Pl.fA (by omega) (bad _)
    rw [if_neg (by rw [hlen, hlen]; omega)]
    refine Pl.fG (by omega) ?_
    rw [Pl.kV (show i2 < 9223372036854775807 by omega)]
    by_cases hend : e ≤ i2 + 1
    ·rw [if_pos]
     ·exact Pl.fA (by omega) (bad _)
     ·rw [Bool.eq_false_iff]
      intro h
      have := (List.isPrefixOf_iff_prefix.1 h).length_le
      rw [hlen] at this
      simp at this
      omega
    refine Pl.fG (by omega) (Pl.fA (by omega) (Pl.fA (by omega) ?_))
    have hb := Pl.o5 m (i2 + 1) (by omega)
    rw [show ((i2 + 1 : Nat) : Int) = (i2 : Int) + 1 from by omega] at hb
    rw [hb]
    have hlt : i2 < (m.data.toList.take e).length := by rw [List.length_take]; omega
    have hlt' : i2 + 1 < (m.data.toList.take e).length := by rw [List.length_take]; omega
    have hc2 := List.drop_eq_getElem_cons hlt
    rw [List.drop_eq_getElem_cons hlt', List.getElem_take, List.getElem_take] at hc2
    have h61 : m.data.toList[i2] = 61 := by
     have := hq2 (m.data.toList[i2]) (by rw [hc2]; rfl)
     simpa using this
    rw [hc2, h61]
    by_cases h34 : m.data.toList[i2 + 1] = 34
    case neg =>
     rw [if_pos (by rw [Bool.eq_false_iff]; intro h; have := List.isPrefixOf_iff_prefix.1 h; simp at this; exact h34 this.symm)]
     have hne : (((m.data.toList[i2 + 1].toNat : Nat) : Int) != 34) = true := by
      rw [bne_iff_ne]
      exact (uC 34 _).1 (xH h34)
     rw [hne]
     exact bad _
    rw [h34, if_neg (by simp [List.isPrefixOf])]
    have hd34 : ((((34 : UInt8).toNat : Nat) : Int) != 34) = false := by decide
    rw [hd34]
    refine Ev.step (fun k => by rw [fB.j9]) (Pl.fG (by decide) ?_)
    rw [Pl.wrap_in (x := (i2 : Int) + 2) (by omega) (by omega)]
    show Ev _ (Dk acc cl (if (34 : UInt8) ∈ (m.data.toList.take e).drop (i2 + 1 + 1) then (nT f ((((m.data.toList.take e).drop (i2 + 1 + 1)).dropWhile (· != 34)).drop 1)).map ((((m.data.toList.take e).drop i1).take n2, ((m.data.toList.take e).drop (i2 + 1 + 1)).takeWhile (· != 34)) :: ·) else none))
    rw [show i2 + 1 + 1 = i2 + 2 by omega, show (i2 : Int) + 2 = ((i2 + 2 : Nat) : Int) by omega]
    have hn3 := oM (p := fun c => c != 34) ((m.data.toList.take e).drop (i2 + 2))
    rw [hlen] at hn3
    have hd3 := tX (p := fun c => c != 34) ((m.data.toList.take e).drop (i2 + 2))
    have ht3 := vC (p := fun c => c != 34) ((m.data.toList.take e).drop (i2 + 2))
    rw [List.drop_drop] at hd3
    -- what stands behind the scan
    have leave : ∀ i3 : Nat, i2 + 2 ≤ i3 → i3 ≤ e → i3 = i2 + 2 + (((m.data.toList.take e).drop (i2 + 2)).takeWhile (fun c => c != 34)).length →
      Ev (fun k => if (i3 : Int) ≥ (e : Int) then some (([] : List ByteArray), false, false) else if 0 ≤ (i1 : Int) then (if (i1 : Int) ≤ (i2 : Int) then (if (i2 : Int) ≤ (m.size : Int) then (if 0 ≤ ((i2 + 2 : Nat) : Int) then (if ((i2 + 2 : Nat) : Int) ≤ (i3 : Int) then (if (i3 : Int) ≤ (m.size : Int) then ((some (([m.extract ((i1 : Int)).toNat ((i2 : Int)).toNat, m.extract (((i2 + 2 : Nat) : Int)).toNat ((i3 : Int)).toNat] : List ByteArray) : List ByteArray)).bind fun y => (if acc.length + y.length < 8796093022208 then (fB.l1 k m (e : Int) cl (wrap64 ((i3 : Int) + 1)) (acc ++ y)) else (none))) else (none)) else (none)) else (none)) else (none)) else (none)) else (none))
       (Dk acc cl (if (34 : UInt8) ∈ (m.data.toList.take e).drop (i2 + 2) then (nT f ((((m.data.toList.take e).drop (i2 + 2)).dropWhile (· != 34)).drop 1)).map ((((m.data.toList.take e).drop i1).take n2, ((m.data.toList.take e).drop (i2 + 2)).takeWhile (· != 34)) :: ·) else none)) := by
     intro i3 hge hle hi3
     by_cases h : e ≤ i3
     ·refine Pl.fA (by omega) ?_
      rw [if_neg]
      ·exact Ev.now _
      ·intro hm34
       obtain ⟨r, hr, _⟩ := rJ hm34
       rw [hd3, ← hi3] at hr
       have := congrArg List.length hr
       rw [hlen] at this
       simp at this
       omega
     ·have h3 : i3 < (m.data.toList.take e).length := by rw [List.length_take]; omega
      have hc3 := List.drop_eq_getElem_cons h3
      have hmem : (34 : UInt8) ∈ (m.data.toList.take e).drop (i2 + 2) := by
       have hh := dw_head (p := fun c => c != 34) ((m.data.toList.take e).drop (i2 + 2))
       rw [hd3, ← hi3, hc3] at hh
       have h34' : (m.data.toList.take e)[i3] = 34 := by simpa using hh _ rfl
       rw [← sO (p := fun c => c != 34) ((m.data.toList.take e).drop (i2 + 2)), hd3, ← hi3, hc3, h34']
       simp
      rw [if_pos hmem]
      refine Pl.fG (by omega) (Pl.fA (by omega) (Pl.fA (by omega) (Pl.fA (by omega) (Pl.fA (by omega) (Pl.fA (by omega) (Pl.fA (by omega) ?_))))))
      simp only [Option.bind_some, Int.toNat_natCast]
      have hx3 := yQ m e (i2 + 2) (((m.data.toList.take e).drop (i2 + 2)).takeWhile (fun c => c != 34)).length (by omega) he
      rw [← hi3, ← ht3] at hx3
      rw [hx2, hx3]
      refine Pl.fA (by simp; omega) ?_
      rw [Pl.kV (show i3 < 9223372036854775807 by omega)]
      have hdd : ((m.data.toList.take e).drop (i2 + 2)).dropWhile (fun c => c != 34) = (m.data.toList.take e).drop i3 := by rw [hd3, ← hi3]
      rw [hdd, List.drop_drop]
      have := ih (i3 + 1) (acc ++ [bA (((m.data.toList.take e).drop i1).take n2), bA (((m.data.toList.take e).drop (i2 + 2)).takeWhile (fun c => c != 34))]) (by omega) (by rw [hlen] at hf ⊢; omega) (by simp; omega)
      rw [G8] at this
      exact this
    generalize hRes : Dk acc cl (if (34 : UInt8) ∈ (m.data.toList.take e).drop (i2 + 2) then (nT f ((((m.data.toList.take e).drop (i2 + 2)).dropWhile (· != 34)).drop 1)).map ((((m.data.toList.take e).drop i1).take n2, ((m.data.toList.take e).drop (i2 + 2)).takeWhile (· != 34)) :: ·) else none) = Res at leave ⊢
    refine scan (g := fun k i' => fB.l4 k m (e : Int) cl (i2 : Int) acc (i1 : Int) ((i2 + 2 : Nat) : Int) i') (h := fun k i' => if i' ≥ (e : Int) then some (([] : List ByteArray), false, false) else if 0 ≤ (i1 : Int) then (if (i1 : Int) ≤ (i2 : Int) then (if (i2 : Int) ≤ (m.size : Int) then (if 0 ≤ ((i2 + 2 : Nat) : Int) then (if ((i2 + 2 : Nat) : Int) ≤ i' then (if i' ≤ (m.size : Int) then ((some (([m.extract ((i1 : Int)).toNat ((i2 : Int)).toNat, m.extract (((i2 + 2 : Nat) : Int)).toNat (i').toNat] : List ByteArray) : List ByteArray)).bind fun y => (if acc.length + y.length < 8796093022208 then (fB.l1 k m (e : Int) cl (wrap64 (i' + 1)) (acc ++ y)) else (none))) else (none)) else (none)) else (none)) else (none)) else (none)) else (none)) (p := fun c => c != 34) (L := m.data.toList) (e := e) (by omega) ?_ ?_ ?_ _ (i2 + 2) rfl (by omega) ?_
    ·intro j hj hje hp ih2
     refine Ev.step (fun k => by rw [fB.l4]) ?_
     rw [Pl.o5 m j (by omega), Pl.kV (show j < 9223372036854775807 by omega)]
     exact Pl.fA (by omega) (Pl.fA (by omega) (Pl.fA (by omega) (Pl.fG ((uC 34 _).1 hp) ih2)))
    ·intro j hj hje hp ih2
     have hp' : ((m.data.toList[j].toNat : Nat) : Int) = 34 := Classical.byContradiction fun h => by rw [(uC 34 _).2 h] at hp; cases hp
     refine Ev.step (fun k => by rw [fB.l4]) ?_
     rw [Pl.o5 m j (by omega)]
     exact Pl.fA (by omega) (Pl.fA (by omega) (Pl.fA (by omega) (Pl.fA hp' ih2)))
    ·intro ih2
     refine Ev.step (fun k => by rw [fB.l4]) ?_
     exact Pl.fG (by omega) ih2
    ·exact leave _ (by omega) (by omega) rfl
end
def nbB (c : UInt8) : Bool := !(Pl.iR c)
def qw (L : List UInt8) : List UInt8 := (L.take (if L[L.length - 2]? = some 47 then L.length - 2 else L.length - 1)).drop 1
def qx (L : List UInt8) : Option (List UInt8 × Prs × Bool) :=
 if L.length < 2 then none else if L.head? ≠ some 60 then none else if L.getLast? ≠ some 62 then none else
 (nT (L.length + 1) ((qw L).dropWhile nbB)).map fun ps => ((qw L).takeWhile nbB, ps, decide (L[L.length - 2]? = some 47))
def LM : Option (List UInt8 × Prs × Bool) → List ByteArray × Bool × Bool
 | none => ([], false, false)
 | some z => (bA z.1 :: pcs z.2.1, z.2.2, true)
theorem IA (m : ByteArray) (hm : m.size ≤ 600) : Ev (fun k => fB.f k m) (LM (qx m.data.toList)) := by
 have hsz : m.data.toList.length = m.size := Pl.jy m
 unfold fB.f qx
 have bad : ∀ x5 : Int, Ev (fun k => fB.j0 k m x5 true) ([], false, false) := fun x5 => by
  refine Ev.step (fun k => by rw [fB.j0]) ?_
  exact Pl.fA rfl (Ev.now _)
 by_cases h2 : m.size < 2
 ·rw [if_pos (by omega)]
  rw [Pl.wrap_in (x := (m.size : Int) - 1) (by omega) (by omega)]
  exact Pl.fA (by omega) (bad _)
 rw [if_neg (by omega), Pl.wrap_in (x := (m.size : Int) - 1) (by omega) (by omega)]
 refine Pl.fG (by omega) (Pl.fA (by omega) ?_)
 have h0 := Pl.o5 m 0 (by omega)
 have hh : m.data.toList.head? = some (m.data.toList[0]'(by omega)) := by rw [List.head?_eq_getElem?, List.getElem?_eq_getElem]
 rw [show ((0 : Nat) : Int) = 0 from rfl] at h0
 rw [h0, hh]
 by_cases h60 : m.data.toList[0]'(by omega) = 60
 case neg =>
  rw [if_pos (fun e => h60 (by injection e))]
  exact Pl.fG ((uC 60 _).1 (xH h60)) (bad _)
 rw [if_neg (by rw [h60]; simp)]
 refine Pl.fA (by rw [h60]; rfl) (Pl.fA (by omega) (Pl.fA (by omega) ?_))
 have h1 := Pl.o5 m (m.size - 1) (by omega)
 rw [show ((m.size - 1 : Nat) : Int) = (m.size : Int) - 1 from by omega] at h1
 have hl : m.data.toList.getLast? = some (m.data.toList[m.size - 1]'(by omega)) := by
  rw [List.getLast?_eq_getElem?, show m.data.toList.length - 1 = m.size - 1 by omega]
  exact List.getElem?_eq_getElem _
 rw [h1, hl]
 by_cases h62 : m.data.toList[m.size - 1]'(by omega) = 62
 case neg =>
  have hb62 : (((m.data.toList[m.size - 1]'(by omega)).toNat : Int) != 62) = true := by
   rw [bne_iff_ne]
   exact (uC 62 _).1 (xH h62)
  rw [if_pos (fun e => h62 (by injection e)), hb62]
  exact bad _
 rw [if_neg (by rw [h62]; simp), h62]
 have hd62 : ((((62 : UInt8).toNat : Nat) : Int) != 62) = false := by decide
 rw [hd62]
 refine Ev.step (fun k => by rw [fB.j0]) (Pl.fG (by decide) ?_)
 have h3 := Pl.o5 m (m.size - 2) (by omega)
 rw [Pl.wrap_in (x := (m.size : Int) - 1 - 1) (by omega) (by omega), show (m.size : Int) - 1 - 1 = ((m.size - 2 : Nat) : Int) by omega, h3]
 refine Pl.fA (by omega) (Pl.fA (by omega) ?_)
 have hq : m.data.toList[m.data.toList.length - 2]? = some (m.data.toList[m.size - 2]'(by omega)) := by
  rw [show m.data.toList.length - 2 = m.size - 2 by omega]
  exact List.getElem?_eq_getElem _
 -- from the tag on
 have go : ∀ (e : Nat) (cl : Bool), 1 ≤ e → e < m.size → Ev (fun k => fB.j1 k m (e : Int) cl) (LM ((nT (m.data.toList.length + 1) (((m.data.toList.take e).drop 1).dropWhile nbB)).map fun ps => (((m.data.toList.take e).drop 1).takeWhile nbB, ps, cl))) := by
  intro e cl he1 he
  refine Ev.step (fun k => by rw [fB.j1]) ?_
  refine scan (g := fun k i' => fB.l0 k m (e : Int) cl i') (h := fun k i' => fB.j3 k m (e : Int) cl i') (p := nbB) (L := m.data.toList) (e := e) (by omega) ?_ ?_ ?_ _ 1 rfl he1 ?_
  ·intro j hj hje hp ih2
   have hn : ¬ (((m.data.toList[j].toNat : Nat) : Int) = 32 ∨ ((m.data.toList[j].toNat : Nat) : Int) = 10) := fun h => by unfold nbB at hp; rw [(qA _).2 h] at hp; cases hp
   refine Ev.step (fun k => by rw [fB.l0]) ?_
   rw [Pl.o5 m j (by omega), Pl.kV (show j < 9223372036854775807 by omega)]
   exact Pl.fA (by omega) (Pl.fA (by omega) (Pl.fA (by omega) (Pl.fG (fun h => hn (.inl h)) (Pl.fG (fun h => hn (.inr h)) ih2))))
  ·intro j hj hje hp ih2
   have hb : Pl.iR m.data.toList[j] = true := by unfold nbB at hp; simpa using hp
   refine Ev.step (fun k => by rw [fB.l0]) ?_
   rw [Pl.o5 m j (by omega)]
   refine Pl.fA (by omega) (Pl.fA (by omega) (Pl.fA (by omega) ?_))
   rcases (qA _).1 hb with h | h
   ·exact Pl.fA h ih2
   ·by_cases h' : ((m.data.toList[j].toNat : Nat) : Int) = 32
    ·exact Pl.fA h' ih2
    ·exact Pl.fG h' (Pl.fA h ih2)
  ·intro ih2
   refine Ev.step (fun k => by rw [fB.l0]) ?_
   exact Pl.fG (by omega) ih2
  ·have hlen : ((m.data.toList.take e).drop 1).length = e - 1 := by rw [List.length_drop, List.length_take]; omega
   have hn := oM (p := nbB) ((m.data.toList.take e).drop 1)
   rw [hlen] at hn
   have hd := tX (p := nbB) ((m.data.toList.take e).drop 1)
   have ht := vC (p := nbB) ((m.data.toList.take e).drop 1)
   rw [List.drop_drop] at hd
   rw [hd]
   generalize (((m.data.toList.take e).drop 1).takeWhile nbB).length = n at hn hd ht ⊢
   rw [ht]
   have hx := yQ m e 1 n (by omega) (by omega)
   refine Ev.step (fun k => by rw [fB.j3]) (Pl.fA (by omega) (Pl.fA (by omega) ?_))
   simp only [Int.toNat_natCast]
   rw [hx]
   have := JU (cl := cl) hm (show e ≤ m.size by omega) (m.data.toList.length + 1) (1 + n) [bA (((m.data.toList.take e).drop 1).take n)] (by omega) (by rw [List.length_drop, List.length_take]; omega) (by simp; omega)
   refine Pl.lJ this ?_
   cases nT (m.data.toList.length + 1) ((m.data.toList.take e).drop (1 + n)) <;> rfl
 unfold qw
 rw [hq]
 by_cases h47 : m.data.toList[m.size - 2]'(by omega) = 47
 ·rw [if_pos (by rw [h47]), h47]
  refine Pl.fA (by decide) ?_
  have h1e : 1 ≤ m.size - 2 := by
   rcases Nat.eq_zero_or_pos (m.size - 2) with h | h
   ·exfalso
    have : m.data.toList[m.size - 2]'(by omega) = m.data.toList[0]'(by omega) := by congr 1
    rw [h47, h60] at this
    exact absurd this (by decide)
   ·exact h
  have := go (m.size - 2) true h1e (by omega)
  rw [hsz] at this ⊢
  refine Pl.lJ this ?_
  simp
 ·rw [if_neg (fun e => h47 (by injection e))]
  refine Pl.fG ((uC 47 _).1 (xH h47)) ?_
  have := go (m.size - 1) false (by omega) (by omega)
  rw [show ((m.size - 1 : Nat) : Int) = (m.size : Int) - 1 from by omega] at this
  have hdd : decide (some (m.data.toList[m.size - 2]'(by omega)) = some 47) = false := decide_eq_false (fun e => h47 (by injection e))
  rw [hdd]
  rw [hsz] at this ⊢
  exact this
theorem xR : ∀ l : List UInt8, (34 : UInt8) ∉ l → Lib.index l [34] = -1
 | [], _ => rfl
 | b :: l, h => by
  rw [List.mem_cons, not_or] at h
  rw [qy, if_neg (fun e => h.1 e.symm), xR l h.2, if_pos rfl]
theorem zC : ∀ N r : List UInt8, (34 : UInt8) ∉ N → Lib.index (N ++ 34 :: r) [34] = (N.length : Int)
 | [], r, _ => by
  rw [List.nil_append, qy, if_pos rfl]
  rfl
 | b :: N, r, h => by
  rw [List.mem_cons, not_or] at h
  rw [List.cons_append, qy, if_neg (fun e => h.1 e.symm), zC N r h.2, if_neg (by omega), List.length_cons]
  omega
theorem FD (l : List UInt8) (h : (34 : UInt8) ∉ l) : Lib.cut l [34] = (l, [], false) := by
 unfold Lib.cut
 rw [xR l h]
 rfl
theorem GY (N r : List UInt8) (h : (34 : UInt8) ∉ N) : Lib.cut (N ++ 34 :: r) [34] = (N, r, true) := by
 unfold Lib.cut
 rw [zC N r h, if_pos (by omega)]
 simp
theorem yN (c : UInt8) : oh.f (c.toNat : Int) = some (Pl.iR c) := by
 unfold oh.f
 by_cases h : ((c.toNat : Nat) : Int) = 32
 ·rw [(qA c).2 (.inl h)]
  simp [h]
 ·by_cases h2 : ((c.toNat : Nat) : Int) = 10
  ·rw [(qA c).2 (.inr h2)]
   simp [h, h2]
  ·have : Pl.iR c = false := by
    rw [Bool.eq_false_iff]
    intro e
    rcases (qA c).1 e with h' | h'
    ·exact h h'
    ·exact h2 h'
   rw [this]
   simp [h, h2]
theorem EG (a : ByteArray) (n : Nat) (hn : n ≤ a.size) : a.extract 0 n = bA (a.data.toList.take n) ∧ a.extract n a.size = bA (a.data.toList.drop n) := by
 have e1 := yQ a a.size 0 n (by omega) (Nat.le_refl _)
 have e2 := yQ a a.size n (a.size - n) (by omega) (Nat.le_refl _)
 have hs : a.data.toList.length = a.size := Pl.jy a
 have ht : a.data.toList.take a.size = a.data.toList := List.take_of_length_le (by omega)
 rw [ht] at e1 e2
 rw [List.drop_zero, Nat.zero_add] at e1
 rw [show n + (a.size - n) = a.size by omega, List.take_of_length_le (by rw [List.length_drop]; omega)] at e2
 exact ⟨e1, e2⟩
theorem ul (a : ByteArray) (hs : a.size ≤ 600) : Ev (fun k => gy.f k a) (bA (a.data.toList.takeWhile Pl.jV), bA (a.data.toList.dropWhile Pl.jV)) := by
 have hsz : a.data.toList.length = a.size := Pl.jy a
 unfold gy.f
 have hn := oM (p := Pl.jV) a.data.toList
 have hd := tX (p := Pl.jV) a.data.toList
 have ht := vC (p := Pl.jV) a.data.toList
 have main := scan (g := fun k i' => gy.l0 k a i') (h := fun k i' => if 0 ≤ i' then (if i' ≤ (a.size : Int) then (some (a.extract 0 (i' : Int).toNat, a.extract (i' : Int).toNat a.size)) else (none)) else (none)) (p := Pl.jV) (L := a.data.toList) (e := a.data.toList.length) (Nat.le_refl _) (R := (bA (a.data.toList.takeWhile Pl.jV), bA (a.data.toList.dropWhile Pl.jV))) ?_ ?_ ?_ _ 0 rfl (Nat.zero_le _)
 ·refine main ?_
  rw [List.take_length, List.drop_zero, Nat.zero_add]
  obtain ⟨e1, e2⟩ := EG a (a.data.toList.takeWhile Pl.jV).length (by omega)
  rw [← ht] at e1
  rw [← hd] at e2
  refine Pl.fA (by omega) (Pl.fA (by omega) ?_)
  simp only [Int.toNat_natCast]
  rw [e1, e2]
  exact Ev.now _
 ·intro j hj hje hp ih2
  refine Ev.step (fun k => by rw [gy.l0]) ?_
  rw [Pl.o5 a j (by omega), Pl.kV (show j < 9223372036854775807 by omega), vW, hp]
  exact Pl.fA (by omega) (Pl.fA (by omega) (Pl.iw (Ev.now _) (Pl.fA rfl ih2)))
 ·intro j hj hje hp ih2
  refine Ev.step (fun k => by rw [gy.l0]) ?_
  rw [Pl.o5 a j (by omega), vW, hp]
  refine Pl.fA (by omega) (Pl.fA (by omega) (Pl.iw (Ev.now _) (Pl.fG (by decide) ?_)))
  have h2 := (Pl.lY (c := 0 ≤ (j : Int))).1 ih2
  rw [if_pos (by omega)] at h2
  exact h2
 ·intro ih2
  refine Ev.step (fun k => by rw [gy.l0]) ?_
  exact Pl.fG (by omega) ih2
theorem Ce (a : ByteArray) (hs : a.size ≤ 600) : Ev (fun k => ig.f k a) (bA (a.data.toList.takeWhile Pl.iR), bA (a.data.toList.dropWhile Pl.iR)) := by
 have hsz : a.data.toList.length = a.size := Pl.jy a
 unfold ig.f
 have hn := oM (p := Pl.iR) a.data.toList
 have hd := tX (p := Pl.iR) a.data.toList
 have ht := vC (p := Pl.iR) a.data.toList
 have main := scan (g := fun k i' => ig.l0 k a i') (h := fun k i' => if 0 ≤ i' then (if i' ≤ (a.size : Int) then (some (a.extract 0 (i' : Int).toNat, a.extract (i' : Int).toNat a.size)) else (none)) else (none)) (p := Pl.iR) (L := a.data.toList) (e := a.data.toList.length) (Nat.le_refl _) (R := (bA (a.data.toList.takeWhile Pl.iR), bA (a.data.toList.dropWhile Pl.iR))) ?_ ?_ ?_ _ 0 rfl (Nat.zero_le _)
 ·refine main ?_
  rw [List.take_length, List.drop_zero, Nat.zero_add]
  obtain ⟨e1, e2⟩ := EG a (a.data.toList.takeWhile Pl.iR).length (by omega)
  rw [← ht] at e1
  rw [← hd] at e2
  refine Pl.fA (by omega) (Pl.fA (by omega) ?_)
  simp only [Int.toNat_natCast]
  rw [e1, e2]
  exact Ev.now _
 ·intro j hj hje hp ih2
  refine Ev.step (fun k => by rw [ig.l0]) ?_
  rw [Pl.o5 a j (by omega), Pl.kV (show j < 9223372036854775807 by omega), yN, hp]
  exact Pl.fA (by omega) (Pl.fA (by omega) (Pl.iw (Ev.now _) (Pl.fA rfl ih2)))
 ·intro j hj hje hp ih2
  refine Ev.step (fun k => by rw [ig.l0]) ?_
  rw [Pl.o5 a j (by omega), yN, hp]
  refine Pl.fA (by omega) (Pl.fA (by omega) (Pl.iw (Ev.now _) (Pl.fG (by decide) ?_)))
  have h2 := (Pl.lY (c := 0 ≤ (j : Int))).1 ih2
  rw [if_pos (by omega)] at h2
  exact h2
 ·intro ih2
  refine Ev.step (fun k => by rw [ig.l0]) ?_
  exact Pl.fG (by omega) ih2
def toS (q : List UInt8 × List UInt8) : S38 := ⟨bA q.1, bA q.2⟩
theorem Jo (tg : ByteArray) (q : Int) : ∀ (f : Nat) (x : ByteArray) (acc : List S38), x.size < f → x.size ≤ 600 → acc.length + x.size ≤ 2000 →
  (∀ ps cl, sV f x.data.toList = some (ps, cl) → Ev (fun k => gQ.l0 k x true tg q acc) (tg, q, acc ++ ps.map toS, cl, true)) ∧ (sV f x.data.toList = none → ∃ es, Ev (fun k => gQ.l0 k x true tg q acc) (tg, q, es, false, false)) := by
 intro f
 induction f with
 | zero => intro x acc hx; omega
 | succ f ih =>
  intro x acc hx h6 ha
  have hsz : x.data.toList.length = x.size := Pl.jy x
  have hb := Ce x h6
  have hbe := su (p := Pl.iR) x.data.toList
  have hxx := congrArg List.length (sO (p := Pl.iR) x.data.toList)
  rw [List.length_append] at hxx
  obtain ⟨sp, hsp⟩ : ∃ sp, x.data.toList.takeWhile Pl.iR = sp := ⟨_, rfl⟩
  rw [hsp] at hb hxx
  rw [sV]
  obtain ⟨be, hbeq⟩ : ∃ be, x.data.toList.dropWhile Pl.iR = be := ⟨_, rfl⟩
  rw [hbeq] at hb hbe hxx ⊢
  have hbs : (bA be).size = be.length := by rw [← Pl.jy, sD]
  have tl : ∀ l : List UInt8, (bA l).toList = l := fun l => Pl.uy (sD l)
  -- a way out with true
  have out : ∀ (cl : Bool), (be == [47, 62]) = cl → Ev (fun k => gQ.j2 k true (bA sp) (bA be) true tg q acc) (tg, q, acc, cl, true) := by
   intro cl hcl
   refine Ev.step (fun k => by rw [gQ.j2]) (Pl.fA rfl (Pl.lJ (Ev.now _) ?_))
   rw [tl, hcl]
  by_cases h1 : be = [62]
  ·rw [if_pos h1]
   refine ⟨fun ps cl h => ?_, fun h => by cases h⟩
   obtain ⟨rfl, rfl⟩ : [] = ps ∧ false = cl := by simpa using h
   refine Ev.step (fun k => by rw [gQ.l0]) (Pl.iw hb ?_)
   refine Pl.fA ((tl be).trans h1) ?_
   refine Pl.lJ (out false (by rw [h1]; decide)) ?_
   simp
  rw [if_neg h1]
  by_cases h2 : be = [47, 62]
  ·rw [if_pos h2]
   refine ⟨fun ps cl h => ?_, fun h => by cases h⟩
   obtain ⟨rfl, rfl⟩ : [] = ps ∧ true = cl := by simpa using h
   refine Ev.step (fun k => by rw [gQ.l0]) (Pl.iw hb ?_)
   refine Pl.fG (fun e => h1 ((tl be).symm.trans e)) ?_
   have e : ((bA be).toList == [47, 62]) = true := by rw [tl, h2]; decide
   rw [e]
   refine Pl.lJ (out true (by rw [h2]; decide)) ?_
   simp
  rw [if_neg h2]
  -- the step on
  have hs := ul (bA be) (by omega)
  rw [sD] at hs
  obtain ⟨nm, hnm⟩ : ∃ nm, be.takeWhile Pl.jV = nm := ⟨_, rfl⟩
  obtain ⟨r, hr⟩ : ∃ r, be.dropWhile Pl.jV = r := ⟨_, rfl⟩
  have hrl := su (p := Pl.jV) be
  rw [hnm, hr] at hs
  rw [hr] at hrl
  rw [hnm, hr]
  have hcp : strings_CutPrefix.f (bA r) (⟨#[61, 34]⟩ : ByteArray) = some (bA (Lib.trimPrefix r [61, 34]), Lib.hasPrefix r [61, 34]) := rfl
  have htl : (Lib.trimPrefix r [61, 34]).length ≤ r.length := by
   unfold Lib.trimPrefix
   split
   ·rw [List.length_drop]; omega
   ·exact Nat.le_refl _
  obtain ⟨v, hv⟩ : ∃ v, Lib.trimPrefix r [61, 34] = v := ⟨_, rfl⟩
  rw [hv] at hcp htl
  have hct : strings_Cut.f (bA v) (⟨#[34]⟩ : ByteArray) = some (bA (Lib.cut v [34]).1, bA (Lib.cut v [34]).2.1, (Lib.cut v [34]).2.2) := by
   unfold strings_Cut.f
   rw [if_pos (by rw [← Pl.jy, sD]; omega)]
   rfl
  have step : ∀ R, Ev (fun k => if (bA sp).toList = ([] : List UInt8) then (some (tg, q, acc, false, false)) else (if (bA nm).toList = ([] : List UInt8) then (some (tg, q, acc, false, false)) else (if Lib.hasPrefix r [61, 34] = true then (if (Lib.cut v [34]).2.2 = true then (if acc.length < 4398046511104 then (gQ.l0 k (bA (Lib.cut v [34]).2.1) true tg q (acc ++ [(⟨bA nm, bA (Lib.cut v [34]).1⟩ : S38)])) else (none)) else (some (tg, q, acc, false, false))) else (some (tg, q, acc, false, false))))) R → Ev (fun k => gQ.l0 k x true tg q acc) R := by
   intro R h
   refine Ev.step (fun k => by rw [gQ.l0]) (Pl.iw hb ?_)
   refine Pl.fG (fun e => h1 ((tl be).symm.trans e)) ?_
   have e : ((bA be).toList == [47, 62]) = false := by rw [tl]; simpa using h2
   rw [e]
   refine Ev.step (fun k => by rw [gQ.j2]) ?_
   refine Pl.fG (by decide) (Pl.iw hs ?_)
   simp only [hcp, hct, Option.bind_some]
   exact h
  have fail : ∀ {o : Option (Prs × Bool)}, o = none → (∃ es, Ev (fun k => gQ.l0 k x true tg q acc) (tg, q, es, false, false)) → (∀ ps cl, o = some (ps, cl) → Ev (fun k => gQ.l0 k x true tg q acc) (tg, q, acc ++ ps.map toS, cl, true)) ∧ (o = none → ∃ es, Ev (fun k => gQ.l0 k x true tg q acc) (tg, q, es, false, false)) := fun ho h => ⟨fun ps cl e => by (rw [ho] at e; cases e), fun _ => h⟩
  by_cases h3 : be.length = x.data.toList.length
  ·rw [if_pos h3]
   have : sp = [] := List.eq_nil_of_length_eq_zero (by omega)
   exact fail rfl ⟨acc, step _ (Pl.fA (by rw [tl]; exact this) (Ev.now _))⟩
  rw [if_neg h3]
  have hsp0 : ¬ (bA sp).toList = [] := fun e => by rw [tl] at e; rw [e] at hxx; simp at hxx; omega
  by_cases h4 : nm = []
  ·rw [if_pos h4]
   exact fail rfl ⟨acc, step _ (Pl.fG hsp0 (Pl.fA (by rw [tl]; exact h4) (Ev.now _)))⟩
  rw [if_neg h4]
  have hnm0 : ¬ (bA nm).toList = [] := fun e => h4 (by rw [tl] at e; exact e)
  by_cases h5 : [61, 34].isPrefixOf r = false
  ·rw [if_pos h5]
   exact fail rfl ⟨acc, step _ (Pl.fG hsp0 (Pl.fG hnm0 (Pl.fG (by unfold Lib.hasPrefix; rw [h5]; decide) (Ev.now _))))⟩
  rw [if_neg h5]
  have h5' : Lib.hasPrefix r [61, 34] = true := by unfold Lib.hasPrefix; exact Bool.not_eq_false _ ▸ h5
  have hv2 : v = r.drop 2 := by rw [← hv]; unfold Lib.trimPrefix; rw [if_pos h5']; rfl
  rw [← hv2]
  by_cases h7 : (34 : UInt8) ∈ v
  ·rw [if_pos h7]
   obtain ⟨rest, hrest, hvr⟩ := rJ h7
   have h34 : (34 : UInt8) ∉ v.takeWhile (· != 34) := fun hm => by have := tZ (p := fun c => c != 34) v 34 hm; simp at this
   have hcut : Lib.cut v [34] = (v.takeWhile (· != 34), rest, true) := by
    conv => lhs; rw [hvr]
    exact GY _ _ h34
   rw [hrest]
   have hrl2 : rest.length < v.length := by
    have := congrArg List.length hvr
    rw [List.length_append, List.length_cons] at this
    omega
   have hbr : (bA rest).size = rest.length := by rw [← Pl.jy, sD]
   obtain ⟨i1, i2⟩ := ih (bA rest) (acc ++ [(⟨bA nm, bA (v.takeWhile (· != 34))⟩ : S38)]) (by omega) (by omega) (by simp; omega)
   rw [sD] at i1 i2
   have go : ∀ R, Ev (fun k => gQ.l0 k (bA rest) true tg q (acc ++ [(⟨bA nm, bA (v.takeWhile (· != 34))⟩ : S38)])) R → Ev (fun k => gQ.l0 k x true tg q acc) R := by
    intro R h
    refine step R (Pl.fG hsp0 (Pl.fG hnm0 (Pl.fA h5' ?_)))
    rw [hcut]
    exact Pl.fA rfl (Pl.fA (by omega) h)
   show (∀ ps cl, (sV f rest).map (fun z => ((nm, v.takeWhile (· != 34)) :: z.1, z.2)) = some (ps, cl) → _) ∧ ((sV f rest).map (fun z => ((nm, v.takeWhile (· != 34)) :: z.1, z.2)) = none → _)
   cases hc : sV f rest with
   | none =>
    obtain ⟨es, he⟩ := i2 hc
    exact fail rfl ⟨es, go _ he⟩
   | some z =>
    obtain ⟨ps', cl'⟩ := z
    refine ⟨fun ps cl h => ?_, fun h => by cases h⟩
    obtain ⟨rfl, rfl⟩ : (nm, v.takeWhile (· != 34)) :: ps' = ps ∧ cl' = cl := by simpa using h
    refine Pl.lJ (go _ (i1 ps' cl' hc)) ?_
    rw [List.append_assoc]
    rfl
  ·rw [if_neg h7]
   have hcut := FD v h7
   refine fail rfl ⟨acc, step _ (Pl.fG hsp0 (Pl.fG hnm0 (Pl.fA h5' (Pl.fG ?_ (Ev.now _)))))⟩
   rw [hcut]
   simp
def yx (L : List UInt8) : Option (List UInt8 × Prs × Bool) :=
 if [60].isPrefixOf L = false then none else if (L.drop 1).takeWhile Pl.jV = [] then none else
 (sV (L.length + 1) ((L.drop 1).dropWhile Pl.jV)).map fun z => ((L.drop 1).takeWhile Pl.jV, z.1, z.2)
theorem Jt (m : ByteArray) (hm : m.size ≤ 600) : (∀ tg ps cl, yx m.data.toList = some (tg, ps, cl) → Ev (fun k => gQ.f k m) (bA tg, -1, ps.map toS, cl, true)) ∧ (yx m.data.toList = none → ∃ t q es b, Ev (fun k => gQ.f k m) (t, q, es, b, false)) := by
 have hsz : m.data.toList.length = m.size := Pl.jy m
 unfold yx gQ.f
 have tl : ∀ l : List UInt8, (bA l).toList = l := fun l => Pl.uy (sD l)
 have hcp : strings_CutPrefix.f m (⟨#[60]⟩ : ByteArray) = some (bA (Lib.trimPrefix m.data.toList [60]), Lib.hasPrefix m.data.toList [60]) := rfl
 simp only [hcp, Option.bind_some]
 by_cases h0 : [60].isPrefixOf m.data.toList = false
 ·rw [if_pos h0]
  refine ⟨fun _ _ _ h => (by cases h), fun _ => ?_⟩
  have hf : Lib.hasPrefix m.data.toList [60] = false := h0
  have ht : Lib.trimPrefix m.data.toList [60] = m.data.toList := by unfold Lib.trimPrefix; rw [if_neg (by rw [hf]; decide)]
  rw [hf, ht]
  have hs := ul (bA m.data.toList) (by rw [← Pl.jy, sD]; omega)
  refine ⟨_, _, _, _, Pl.iw hs (Pl.fG (by decide) (Ev.step (fun k => by rw [gQ.j0]) (Pl.fA rfl (Ev.now _))))⟩
 rw [if_neg h0]
 have hf : Lib.hasPrefix m.data.toList [60] = true := Bool.not_eq_false _ ▸ h0
 have ht : Lib.trimPrefix m.data.toList [60] = m.data.toList.drop 1 := by unfold Lib.trimPrefix; rw [if_pos hf]; rfl
 rw [hf, ht]
 have hdl : (m.data.toList.drop 1).length ≤ m.size := by rw [List.length_drop]; omega
 generalize m.data.toList.drop 1 = r at hdl ⊢
 have hs := ul (bA r) (by rw [← Pl.jy, sD]; omega)
 rw [sD] at hs
 have hrl := su (p := Pl.jV) r
 generalize r.takeWhile Pl.jV = tg at hs ⊢
 generalize r.dropWhile Pl.jV = x at hs hrl ⊢
 have hxz : (bA x).size = x.length := by rw [← Pl.jy, sD]
 by_cases h1 : tg = []
 ·rw [if_pos h1]
  refine ⟨fun _ _ _ h => (by cases h), fun _ => ⟨_, _, _, _, Pl.iw hs (Pl.fA rfl (Ev.step (fun k => by rw [gQ.j0]) (Pl.fA ?_ (Ev.now _))))⟩⟩
  rw [tl, h1]
  rfl
 rw [if_neg h1]
 have hj : ∀ R, Ev (fun k => gQ.l0 k (bA x) true (bA tg) (-1) []) R → Ev (fun k => (gy.f k (bA r)).bind fun bt406 => (if true = true then (gQ.j0 k bt406.2 true (bt406.1.toList.isEmpty) bt406.1 (-1)) else (gQ.j0 k bt406.2 false true bt406.1 (-1)))) R := by
  intro R h
  refine Pl.iw hs (Pl.fA rfl (Ev.step (fun k => by rw [gQ.j0]) (Pl.fG ?_ h)))
  rw [tl]
  cases tg with
  | nil => exact absurd rfl h1
  | cons c t => simp
 obtain ⟨c1, c2⟩ := Jo (bA tg) (-1) (m.data.toList.length + 1) (bA x) [] (by omega) (by omega) (by simp; omega)
 rw [sD] at c1 c2
 cases hc : sV (m.data.toList.length + 1) x with
 | none =>
  obtain ⟨es, he⟩ := c2 hc
  exact ⟨fun _ _ _ h => (by cases h), fun _ => ⟨_, _, _, _, hj _ he⟩⟩
 | some z =>
  obtain ⟨ps', cl'⟩ := z
  refine ⟨fun tg' ps cl h => ?_, fun h => by cases h⟩
  obtain ⟨rfl, rfl, rfl⟩ : tg = tg' ∧ ps' = ps ∧ cl' = cl := by simpa using h
  exact hj _ (c1 _ _ hc)
def oU : List At → Prs → Int × List At
 | acc, [] => (if acc.length > 6 then 2 else 0, acc)
 | acc, (n, v) :: ps => if Pl.kW n ≠ 0 then (Pl.kW n, acc) else if (unR (bA v)).1 ≠ 0 then ((unR (bA v)).1, acc) else if nz acc n 0 ≥ 0 then (6, acc) else oU (acc ++ [(⟨bA n, (unR (bA v)).2⟩ : At)]) ps
def xe : Option (List UInt8 × Prs × Bool) → Int × Int × List StE
 | none => (5, 0, [])
 | some z => if Pl.kW z.1 ≠ 0 then (Pl.kW z.1, 0, []) else if (oU [] z.2.1).1 = 0 then (0, if z.2.2 = true then 1 else 0, [(⟨bA z.1, -1, (oU [] z.2.1).2⟩ : StE)]) else ((oU [] z.2.1).1, 0, [])
def xk (ps : Prs) : Prop := ps.length ≤ 600 ∧ ∀ q ∈ ps, q.1.length ≤ 600 ∧ q.2.length ≤ 600
theorem uY : ∀ (f : Nat) (r : List UInt8) (ps : Prs), nT f r = some ps → ps.length ≤ r.length ∧ ∀ q ∈ ps, q.1.length ≤ r.length ∧ q.2.length ≤ r.length
 | 0, _, _, h => by cases h
 | f + 1, r, ps, h => by
  rw [nT] at h
  have l1 := su (p := Pl.iR) r
  generalize r.dropWhile Pl.iR = r1 at h l1
  have l2 := su (p := fun c => c != 61) r1
  have l2' := oM (p := fun c => c != 61) r1
  generalize hr2 : r1.dropWhile (fun c => c != 61) = r2 at h l2
  by_cases h1 : r1 = []
  ·rw [if_pos h1] at h
   obtain rfl := Option.some.inj h
   exact ⟨by simp, by simp⟩
  rw [if_neg h1] at h
  by_cases h2 : r1.length = r.length
  ·rw [if_pos h2] at h; cases h
  rw [if_neg h2] at h
  by_cases h3 : [61, 34].isPrefixOf r2 = false
  ·rw [if_pos h3] at h; cases h
  rw [if_neg h3] at h
  by_cases h4 : (34 : UInt8) ∈ r2.drop 2
  ·rw [if_pos h4] at h
   obtain ⟨ps', hp, rfl⟩ := Option.map_eq_some_iff.1 h
   obtain ⟨rest, hrest, _⟩ := rJ h4
   have l3 := su (p := fun c => c != 34) (r2.drop 2)
   have l3' := oM (p := fun c => c != 34) (r2.drop 2)
   rw [hrest] at hp l3
   rw [List.length_drop] at l3 l3'
   rw [List.length_cons] at l3
   obtain ⟨q1, q2⟩ := uY f rest ps' hp
   refine ⟨by simp only [List.length_cons]; omega, fun q hq => ?_⟩
   rcases List.mem_cons.1 hq with rfl | hq
   ·exact ⟨by show (r1.takeWhile _).length ≤ _; omega, by show ((r2.drop 2).takeWhile _).length ≤ _; omega⟩
   ·have := q2 q hq
    omega
  ·rw [if_neg h4] at h; cases h
theorem nV (l : List UInt8) : (bA l).size = l.length := by rw [← Pl.jy, sD]
theorem sG (l : List UInt8) : (bA l).toList = l := Pl.uy (sD l)
theorem yC (ps : Prs) : (pcs ps).length = 2 * ps.length := by
 induction ps with
 | nil => rfl
 | cons q ps ih =>
  show ([bA q.1, bA q.2] ++ pcs ps).length = _
  rw [List.length_append, ih, List.length_cons]
  simp
  omega
theorem LZ (tg : ByteArray) (pre : Prs) (n v : List UInt8) (ps : Prs) : jG ByteArray.empty (tg :: (pcs pre ++ pcs ((n, v) :: ps))) (1 + 2 * (pre.length : Int)) = bA n ∧ jG ByteArray.empty (tg :: (pcs pre ++ pcs ((n, v) :: ps))) (2 + 2 * (pre.length : Int)) = bA v := by
 have hl := yC pre
 have e : pcs ((n, v) :: ps) = bA n :: bA v :: pcs ps := rfl
 unfold jG
 rw [e, show (1 + 2 * (pre.length : Int)).toNat = 2 * pre.length + 1 by omega, show (2 + 2 * (pre.length : Int)).toNat = 2 * pre.length + 1 + 1 by omega]
 simp only [List.getD_eq_getElem?_getD, List.getElem?_cons_succ]
 rw [List.getElem?_append_right (by omega), List.getElem?_append_right (by omega), hl]
 simp
theorem zh (tg : ByteArray) (q : Int) (t : ByteArray) (cl : Bool) : ∀ (ps pre : Prs) (acc : List At), xk ps → pre.length + ps.length ≤ 600 → acc.length ≤ pre.length →
  Ev (fun k => iM.l0 k (t :: (pcs pre ++ pcs ps)) cl (1 + 2 * (pre.length : Int)) tg q acc) (tg, q, (oU acc ps).2, (if (oU acc ps).1 = 0 then cl else false), (oU acc ps).1)
 | [], pre, acc, hs, hp, ha => by
  have hl := yC pre
  refine Ev.step (fun k => by rw [iM.l0]) (Pl.fG (by simp [pcs] at hl ⊢; omega) ?_)
  unfold oU
  by_cases h : acc.length > 6
  ·rw [if_pos h]
   exact Pl.fA (by omega) (Pl.lJ (Ev.now _) (by simp))
  ·rw [if_neg h]
   exact Pl.fG (by omega) (Pl.lJ (Ev.now _) (by simp))
 | (n, v) :: ps, pre, acc, hs, hp, ha => by
  have hl := yC pre
  have hl2 := yC ps
  have hn : n.length ≤ 600 := (hs.2 (n, v) (List.mem_cons_self ..)).1
  have hv : v.length ≤ 600 := (hs.2 (n, v) (List.mem_cons_self ..)).2
  have hs' : xk ps := ⟨by have := hs.1; simp only [List.length_cons] at this; omega, fun q hq => hs.2 q (List.mem_cons_of_mem _ hq)⟩
  simp only [List.length_cons] at hp
  obtain ⟨r1, r2⟩ := LZ t pre n v ps
  have hfl : (t :: (pcs pre ++ pcs ((n, v) :: ps))).length = 2 * pre.length + 2 * ps.length + 3 := by
   have e : pcs ((n, v) :: ps) = bA n :: bA v :: pcs ps := rfl
   rw [e, List.length_cons, List.length_append, List.length_cons, List.length_cons]
   omega
  refine Ev.step (fun k => by rw [iM.l0]) (Pl.fA (by rw [hfl]; omega) (Pl.fA (by omega) ?_))
  rw [r1]
  refine Pl.iw (uU (sD n) (by omega)) ?_
  rw [oU]
  by_cases h1 : Pl.kW n = 0
  case neg =>
   rw [if_pos h1]
   refine Pl.fG h1 (Pl.lJ (Ev.now _) ?_)
   simp [h1]
  rw [if_neg (by simpa using h1)]
  refine Pl.fA h1 ?_
  rw [Pl.wrap_in (x := 1 + 2 * (pre.length : Int) + 1) (by omega) (by omega), show 1 + 2 * (pre.length : Int) + 1 = 2 + 2 * (pre.length : Int) by omega]
  refine Pl.fA (by omega) (Pl.fA (by rw [hfl]; omega) ?_)
  rw [r2]
  refine Pl.iw (KE (bA v) (by rw [nV]; omega)).1 ?_
  by_cases h2 : (unR (bA v)).1 = 0
  case neg =>
   rw [if_pos h2]
   refine Pl.fG h2 (Pl.lJ (Ev.now _) ?_)
   simp [h2]
  rw [if_neg (by simpa using h2)]
  refine Pl.fA h2 ?_
  have hat := uB acc (by omega) (bA n)
  rw [sG] at hat
  refine Pl.iw hat ?_
  by_cases h3 : nz acc n 0 ≥ 0
  ·rw [if_pos h3]
   refine Pl.fA h3 (Pl.lJ (Ev.now _) ?_)
   simp
  rw [if_neg h3]
  refine Pl.fG h3 (Pl.fA (by omega) ?_)
  have := zh tg q t cl ps (pre ++ [(n, v)]) (acc ++ [(⟨bA n, (unR (bA v)).2⟩ : At)]) hs' (by simp; omega) (by simp; omega)
  rw [show pcs (pre ++ [(n, v)]) ++ pcs ps = pcs pre ++ pcs ((n, v) :: ps) by simp [pcs]] at this
  rw [Pl.wrap_in (x := 1 + 2 * (pre.length : Int) + 2) (by omega) (by omega)]
  rw [List.length_append, show ((pre.length + [(n, v)].length : Nat) : Int) = (pre.length : Int) + 1 by simp, show 1 + 2 * ((pre.length : Int) + 1) = 1 + 2 * (pre.length : Int) + 2 by omega] at this
  exact this
theorem yZ : ∀ (ps : Prs) (dn : List At) (c : Int), xk ps → dn.length + ps.length ≤ 600 →
  ∃ (c' : Int) (dn' : List At), Ev (fun k => zL k dn (ps.map toS) c) (c', dn') ∧ dn'.length = dn.length + ps.length ∧ (c ≠ 0 → c' = c) ∧ (c = 0 → (c' = 0 ∧ oU dn ps = (if dn'.length > 6 then 2 else 0, dn')) ∨ (c' ≠ 0 ∧ (oU dn ps).1 = c'))
 | [], dn, c, _, _ => ⟨c, dn, Ev.now _, rfl, fun _ => rfl, fun h => .inl ⟨h, rfl⟩⟩
 | (n, v) :: ps, dn, c, hs, hp => by
  have hn : n.length ≤ 600 := (hs.2 (n, v) (List.mem_cons_self ..)).1
  have hv : v.length ≤ 600 := (hs.2 (n, v) (List.mem_cons_self ..)).2
  have hs' : xk ps := ⟨by have := hs.1; simp only [List.length_cons] at this; omega, fun q hq => hs.2 q (List.mem_cons_of_mem _ hq)⟩
  simp only [List.length_cons] at hp
  obtain ⟨c', dn', i1, i2, i3, i4⟩ := yZ ps (dn ++ [(⟨bA n, (unR (bA v)).2⟩ : At)]) (Pl.lN [c, Pl.kW n, (unR (bA v)).1, if nz dn n 0 ≥ 0 then 6 else 0]) hs' (by simp; omega)
  have htk := wV dn (by omega) (bA n)
  rw [sG] at htk
  have hd : (if decide (nz dn n 0 ≥ 0) = true then (6 : Int) else 0) = if nz dn n 0 ≥ 0 then 6 else 0 := by
   by_cases h : nz dn n 0 ≥ 0 <;> simp [h]
  refine ⟨c', dn', ?_, by rw [i2]; simp; omega, fun hc => ?_, fun hc => ?_⟩
  ·show Ev (fun k => (jX.f k (bA v)).bind fun u => (jw.f k (bA n)).bind fun nf => (kQ.f k dn (bA n)).bind fun tk => (iH.f tk 6).bind fun ci => (fP.f k [c, nf, u.1, ci]).bind fun c' => zL k (dn ++ [(⟨bA n, u.2⟩ : At)]) (ps.map toS) c') _
   refine Pl.iw (KE (bA v) (by rw [nV]; omega)).2 (Pl.iw (vw (sD n) (by omega)) (Pl.iw htk ?_))
   simp only [oz, Option.bind_some, hd]
   exact Pl.iw (lw _ (by simp)) i1
  ·have e : Pl.lN [c, Pl.kW n, (unR (bA v)).1, if nz dn n 0 ≥ 0 then 6 else 0] = c := by unfold Pl.lN; rw [if_neg hc]
   rw [e] at i3
   exact i3 hc
  ·subst hc
   rw [oU]
   by_cases h1 : Pl.kW n = 0
   case neg =>
    have e : Pl.lN [0, Pl.kW n, (unR (bA v)).1, if nz dn n 0 ≥ 0 then 6 else 0] = Pl.kW n := by simp only [Pl.lN, if_true, if_neg h1]
    rw [e] at i3
    rw [if_pos h1, i3 h1]
    exact .inr ⟨h1, rfl⟩
   rw [if_neg (by simpa using h1)]
   by_cases h2 : (unR (bA v)).1 = 0
   case neg =>
    have e : Pl.lN [0, Pl.kW n, (unR (bA v)).1, if nz dn n 0 ≥ 0 then 6 else 0] = (unR (bA v)).1 := by simp only [Pl.lN, if_true, if_pos h1, if_neg h2]
    rw [e] at i3
    rw [if_pos h2, i3 h2]
    exact .inr ⟨h2, rfl⟩
   rw [if_neg (by simpa using h2)]
   by_cases h3 : nz dn n 0 ≥ 0
   ·have e : Pl.lN [0, Pl.kW n, (unR (bA v)).1, if nz dn n 0 ≥ 0 then 6 else 0] = 6 := by simp only [Pl.lN, if_true, if_pos h1, if_pos h2, if_pos h3]; rfl
    rw [e] at i3
    rw [if_pos h3, i3 (by decide)]
    exact .inr ⟨by decide, rfl⟩
   rw [if_neg h3]
   have e : Pl.lN [0, Pl.kW n, (unR (bA v)).1, if nz dn n 0 ≥ 0 then 6 else 0] = 0 := by simp only [Pl.lN, if_true, if_pos h1, if_pos h2, if_neg h3]
   exact i4 e
theorem Du (m : ByteArray) (hm : m.size ≤ 600) : Ev (fun k => jO.f k m) (xe (qx m.data.toList)) := by
 have hsz : m.data.toList.length = m.size := Pl.jy m
 unfold jO.f
 have hr := IA m hm
 have main : ∀ R : ByteArray × Int × List At × Bool × Int, Ev (fun k => iM.f k m) R → Ev (fun k => (iM.f k m).bind fun b => if b.2.2.2.2 = 0 then some ((0 : Int), (if b.2.2.2.1 = true then (1 : Int) else 0), [(⟨b.1, b.2.1, b.2.2.1⟩ : StE)]) else some (b.2.2.2.2, 0, [])) (if R.2.2.2.2 = 0 then ((0 : Int), (if R.2.2.2.1 = true then (1 : Int) else 0), [(⟨R.1, R.2.1, R.2.2.1⟩ : StE)]) else (R.2.2.2.2, 0, [])) := by
  intro R h
  refine Pl.iw h ?_
  by_cases h0 : R.2.2.2.2 = 0
  ·exact Pl.lJ (Pl.fA h0 (Ev.now _)) (by rw [if_pos h0])
  ·exact Pl.lJ (Pl.fG h0 (Ev.now _)) (by rw [if_neg h0])
 cases hz : qx m.data.toList with
 | none =>
  rw [hz] at hr
  refine Pl.lJ (main ((⟨#[]⟩ : ByteArray), -1, [], false, 5) ?_) rfl
  unfold iM.f
  exact Pl.fG (by omega) (Pl.iw hr (Pl.fG (by simp [LM]) (Ev.now _)))
 | some z =>
  obtain ⟨tg, ps, cl⟩ := z
  rw [hz] at hr
  have hsm : xk ps ∧ tg.length ≤ 600 := by
   unfold qx at hz
   split at hz
   ·cases hz
   split at hz
   ·cases hz
   split at hz
   ·cases hz
   obtain ⟨ps', hp, he⟩ := Option.map_eq_some_iff.1 hz
   obtain ⟨rfl, rfl, rfl⟩ : _ = tg ∧ ps' = ps ∧ _ = cl := by simpa using he
   have hb : (qw m.data.toList).length ≤ 600 := by unfold qw; rw [List.length_drop, List.length_take]; omega
   have h1 := su (p := nbB) (qw m.data.toList)
   have h2 := oM (p := nbB) (qw m.data.toList)
   obtain ⟨q1, q2⟩ := uY _ _ _ hp
   exact ⟨⟨by omega, fun q hq => by have := q2 q hq; omega⟩, by omega⟩
  obtain ⟨hsp, htg⟩ := hsm
  have hrd : jG ByteArray.empty (bA tg :: pcs ps) 0 = bA tg := rfl
  have hnm : Ev (fun k => iK.f k (jG ByteArray.empty (bA tg :: pcs ps) 0)) (Pl.kW tg) := by
   rw [hrd]
   exact uU (sD tg) (by omega)
  by_cases h0 : Pl.kW tg = 0
  ·refine Pl.lJ (main (bA tg, -1, (oU [] ps).2, (if (oU [] ps).1 = 0 then cl else false), (oU [] ps).1) ?_) ?_
   ·unfold iM.f
    refine Pl.fG (by omega) (Pl.iw hr (Pl.fA rfl (Pl.fA ?_ (Pl.iw hnm (Pl.fA h0 ?_)))))
    ·show (0 : Int) < ((bA tg :: pcs ps).length : Int)
     rw [List.length_cons]; omega
    ·have := zh (bA tg) (-1) (bA tg) cl ps [] [] hsp (by have := hsp.1; simp; omega) (by simp)
     exact this
   ·unfold xe
    by_cases h1 : (oU [] ps).1 = 0
    ·simp [h0, h1]
    ·simp [h0, h1]
  ·refine Pl.lJ (main ((⟨#[]⟩ : ByteArray), -1, [], false, Pl.kW tg) ?_) ?_
   ·unfold iM.f
    refine Pl.fG (by omega) (Pl.iw hr (Pl.fA rfl (Pl.fA ?_ (Pl.iw hnm (Pl.fG h0 (Ev.now _))))))
    show (0 : Int) < ((bA tg :: pcs ps).length : Int)
    rw [List.length_cons]; omega
   ·unfold xe
    simp [h0]
theorem xG {L : List UInt8} {z : List UInt8 × Prs × Bool} (h : yx L = some z) : qx L = some z := by
 unfold yx at h
 by_cases h0 : [60].isPrefixOf L = false
 ·rw [if_pos h0] at h; cases h
 rw [if_neg h0] at h
 obtain ⟨r, rfl⟩ : ∃ r, L = 60 :: r := by
  obtain ⟨t, rfl⟩ := List.isPrefixOf_iff_prefix.1 (show [60].isPrefixOf L = true from Bool.not_eq_false _ ▸ h0)
  exact ⟨t, rfl⟩
 have hd1 : (60 :: r).drop 1 = r := rfl
 rw [hd1] at h
 by_cases h1 : r.takeWhile Pl.jV = []
 ·rw [if_pos h1] at h; cases h
 rw [if_neg h1] at h
 obtain ⟨⟨ps, cl⟩, hc, rfl⟩ := Option.map_eq_some_iff.1 h
 obtain ⟨b, hb, q1, q2, _, q4⟩ := CP _ _ _ _ hc
 have hr := sO (p := Pl.jV) r
 have hsm := tZ (p := Pl.jV) r
 rw [hb] at hr
 generalize r.takeWhile Pl.jV = tg at h1 hr hsm ⊢
 subst hr
 have htl := List.length_pos_iff.2 h1
 have e1 : 60 :: (tg ++ (b ++ mF cl)) = (60 :: (tg ++ b)) ++ mF cl := by simp
 have hE : (mF cl).getLast? = some 62 := by cases cl <;> rfl
 have hlen : (60 :: (tg ++ (b ++ mF cl))).length = tg.length + b.length + (mF cl).length + 1 := by simp; omega
 -- the byte ahead of the last
 have hl47 : (60 :: (tg ++ (b ++ mF cl)))[(60 :: (tg ++ (b ++ mF cl))).length - 2]? = some 47 ↔ cl = true := by
  rw [e1]
  cases cl with
  | true =>
   refine ⟨fun _ => rfl, fun _ => ?_⟩
   have el : ((60 :: (tg ++ b)) ++ mF true).length - 2 = (60 :: (tg ++ b)).length := by
    rw [List.length_append, show (mF true).length = 2 from rfl]
    omega
   rw [el, List.getElem?_append_right (Nat.le_refl _), Nat.sub_self]
   rfl
  | false =>
   refine ⟨fun h => ?_, fun h => by cases h⟩
   exfalso
   have el : ((60 :: (tg ++ b)) ++ mF false).length - 2 = (60 :: (tg ++ b)).length - 1 := by simp [mF]
   rw [el, List.getElem?_append_left (by simp), ← List.getLast?_eq_getElem?] at h
   rw [show (60 :: (tg ++ b)) = (60 :: tg) ++ b by simp, List.getLast?_append] at h
   cases hbl : b.getLast? with
   | some c =>
    rw [hbl] at h q4
    exact q4 h
   | none =>
    rw [hbl] at h
    have h : (60 :: tg).getLast? = some 47 := h
    have hm := List.mem_of_getLast? h
    rcases List.mem_cons.1 hm with h | h
    ·exact absurd h (by decide)
    ·exact absurd (hsm 47 h) (by decide)
 have hbody : qw (60 :: (tg ++ (b ++ mF cl))) = tg ++ b := by
  unfold qw
  cases cl with
  | true =>
   rw [if_pos (hl47.2 rfl), hlen, e1]
   rw [List.take_append_of_le_length (by simp [mF]), List.take_of_length_le (by simp [mF])]
   rfl
  | false =>
   rw [if_neg (fun h => by have := hl47.1 h; cases this), hlen, e1]
   rw [List.take_append_of_le_length (by simp [mF]), List.take_of_length_le (by simp [mF])]
   rfl
 unfold qx
 have el : 1 ≤ (mF cl).length := by cases cl <;> decide
 rw [if_neg (by rw [hlen]; omega), if_neg (by simp), if_neg (by rw [e1, List.getLast?_append, hE]; simp), hbody]
 have hnb : ∀ c ∈ tg, nbB c = true := fun c hc => by unfold nbB; rw [ny (hsm c hc)]; rfl
 have hbh : ∀ c, b.head? = some c → nbB c = false := fun c hc => by unfold nbB; rw [q2 c hc]; rfl
 rw [oJ hnb hbh, rf hnb hbh, q1 _ (by rw [hlen]; omega)]
 have hdd : decide ((60 :: (tg ++ (b ++ mF cl)))[(60 :: (tg ++ (b ++ mF cl))).length - 2]? = some 47) = cl := by
  cases cl with
  | true => exact decide_eq_true (hl47.2 rfl)
  | false => exact decide_eq_false (fun h => by have := hl47.1 h; cases this)
 rw [hdd]
 rfl
theorem Eb (m : ByteArray) (hm : m.size ≤ 600) : Ev (fun k => kE.f k m) (match yx m.data.toList with | none => (5, 0, []) | some z => xe (some z)) := by
 have hsz : m.data.toList.length = m.size := Pl.jy m
 unfold kE.f
 obtain ⟨c1, c2⟩ := Jt m hm
 refine Pl.fG (by omega) ?_
 cases hz : yx m.data.toList with
 | none =>
  obtain ⟨t, q, es, b, he⟩ := c2 hz
  exact Pl.iw he (Pl.fG (by simp) (Ev.now _))
 | some z =>
  obtain ⟨tg, ps, cl⟩ := z
  have hsm : xk ps ∧ tg.length ≤ 600 := by
   have hs := xG hz
   unfold qx at hs
   split at hs
   ·cases hs
   split at hs
   ·cases hs
   split at hs
   ·cases hs
   obtain ⟨ps', hp, he⟩ := Option.map_eq_some_iff.1 hs
   obtain ⟨rfl, rfl, rfl⟩ : _ = tg ∧ ps' = ps ∧ _ = cl := by simpa using he
   have hb : (qw m.data.toList).length ≤ 600 := by unfold qw; rw [List.length_drop, List.length_take]; omega
   have h1 := su (p := nbB) (qw m.data.toList)
   have h2 := oM (p := nbB) (qw m.data.toList)
   obtain ⟨q1, q2⟩ := uY _ _ _ hp
   exact ⟨⟨by omega, fun q hq => by have := q2 q hq; omega⟩, by omega⟩
  obtain ⟨hsp, htg⟩ := hsm
  refine Pl.iw (c1 tg ps cl hz) (Pl.fA rfl (Pl.fA (by rw [List.length_map]; have := hsp.1; omega) (Pl.iw (vw (sD tg) (by omega)) ?_)))
  obtain ⟨c', dn', i1, i2, i3, i4⟩ := yZ ps [] (Pl.kW tg) hsp (by have := hsp.1; simp; omega)
  refine Pl.iw i1 ?_
  simp only [oz, Option.bind_some]
  have hm6 : (if decide ((dn'.length : Int) > 6) = true then (2 : Int) else 0) = if dn'.length > 6 then 2 else 0 := by
   by_cases h : dn'.length > 6
   ·rw [if_pos h, if_pos (by simp; omega)]
   ·rw [if_neg h, if_neg (by simp; omega)]
  rw [hm6]
  refine Pl.iw (lw _ (by simp)) ?_
  rw [xQ]
  have hR : xe (some (tg, ps, cl)) = if Pl.kW tg ≠ 0 then (Pl.kW tg, 0, []) else if (oU [] ps).1 = 0 then (0, if cl = true then 1 else 0, [(⟨bA tg, -1, (oU [] ps).2⟩ : StE)]) else ((oU [] ps).1, 0, []) := rfl
  show Ev _ (xe (some (tg, ps, cl)))
  by_cases h0 : Pl.kW tg = 0
  case neg =>
   have hc := i3 h0
   rw [hc, if_neg h0]
   exact Pl.lJ (Pl.fG h0 (Ev.now _)) (by rw [hR, if_pos h0])
  rcases i4 h0 with ⟨e1, e2⟩ | ⟨e1, e2⟩
  ·rw [if_pos e1]
   by_cases h6 : dn'.length > 6
   ·rw [if_pos h6] at e2 ⊢
    exact Pl.lJ (Pl.fG (by decide) (Ev.now _)) (by rw [hR, e2]; simp [h0])
   ·rw [if_neg h6] at e2 ⊢
    exact Pl.lJ (Pl.fA rfl (Ev.now _)) (by rw [hR, e2]; simp [h0])
  ·rw [if_neg e1]
   exact Pl.lJ (Pl.fG e1 (Ev.now _)) (by rw [hR, e2]; simp [h0, e1])
theorem Hy (m : ByteArray) (h : m.size ≤ 600 → yx m.data.toList ≠ none ∨ xe (qx m.data.toList) = (5, 0, [])) : ∃ R : Int × Int × List StE, Ev (fun k => kE.f k m) R ∧ Ev (fun k => jO.f k m) R ∧ R.2.2.length ≤ 1 ∧ ∀ y ∈ R.2.2, y.f2.length ≤ 1048576 := by
 by_cases hm : m.size ≤ 600
 ·have i := Eb m hm
  have s := Du m hm
  have fin : ∀ z : List UInt8 × Prs × Bool, (oU [] z.2.1).2.length ≤ 600 → (xe (some z)).2.2.length ≤ 1 ∧ ∀ y ∈ (xe (some z)).2.2, y.f2.length ≤ 1048576 := by
   intro z hz
   have hR : xe (some z) = if Pl.kW z.1 ≠ 0 then (Pl.kW z.1, 0, []) else if (oU [] z.2.1).1 = 0 then (0, if z.2.2 = true then 1 else 0, [(⟨bA z.1, -1, (oU [] z.2.1).2⟩ : StE)]) else ((oU [] z.2.1).1, 0, []) := rfl
   rw [hR]
   by_cases h0 : Pl.kW z.1 ≠ 0
   ·rw [if_pos h0]; simp
   ·rw [if_neg h0]
    by_cases h1 : (oU [] z.2.1).1 = 0
    ·rw [if_pos h1]
     refine ⟨by simp, fun y hy => ?_⟩
     obtain rfl : y = _ := by simpa using hy
     show (oU [] z.2.1).2.length ≤ 1048576
     omega
    ·rw [if_neg h1]; simp
  cases hz : yx m.data.toList with
  | none =>
   rw [hz] at i
   rcases h hm with h | h
   ·exact absurd hz h
   ·rw [h] at s
    exact ⟨_, i, s, by simp, by simp⟩
  | some z =>
   rw [hz] at i
   rw [xG hz] at s
   have hsz : m.data.toList.length = m.size := Pl.jy m
   have run_len : ∀ (ps : Prs) (acc : List At), (oU acc ps).2.length ≤ acc.length + ps.length := by
    intro ps
    induction ps with
    | nil => intro acc; simp [oU]
    | cons q ps ih =>
     intro acc
     obtain ⟨n, v⟩ := q
     rw [oU]
     split
     ·simp
     split
     ·simp
     split
     ·simp
     ·have := ih (acc ++ [(⟨bA n, (unR (bA v)).2⟩ : At)])
      simp at this ⊢
      omega
   have hlz : z.2.1.length ≤ 600 := by
    have hs := xG hz
    unfold qx at hs
    split at hs
    ·cases hs
    split at hs
    ·cases hs
    split at hs
    ·cases hs
    obtain ⟨ps', hp, rfl⟩ := Option.map_eq_some_iff.1 hs
    have hb : (qw m.data.toList).length ≤ 600 := by unfold qw; rw [List.length_drop, List.length_take]; omega
    have h1 := su (p := nbB) (qw m.data.toList)
    have := (uY _ _ _ hp).1
    show ps'.length ≤ 600
    omega
   have := run_len z.2.1 []
   simp at this
   exact ⟨_, i, s, (fin z (by omega)).1, (fin z (by omega)).2⟩
 ·refine ⟨(2, 0, []), ?_, ?_, by simp, by simp⟩
  ·unfold kE.f
   exact Pl.fA (by omega) (Ev.now _)
  ·unfold jO.f
   have e : Ev (fun k => iM.f k m) ((⟨#[]⟩ : ByteArray), (-1), ([] : List At), false, 2) := by
    unfold iM.f
    exact Pl.fA (by omega) (Ev.now _)
   exact Pl.iw e (Pl.fG (by decide) (Ev.now _))
def okC (x : List UInt8) : Prop := ∀ f, x.length < f → sV f x ≠ none
def wS (r : List UInt8) : Prop := ∀ f, r.length < f → nT f r = none
def five (r : List UInt8) (acc : List At) : Prop := ∀ f, r.length < f → nT f r = none ∨ ∃ ps, nT f r = some ps ∧ (oU acc ps).1 = 5
theorem o7 {r : List UInt8} {acc : List At} (h : wS r) : five r acc := fun f hf => .inl (h f hf)
def blanks (l : List UInt8) : Prop := ∀ c ∈ l, Pl.iR c = true
def smalls (l : List UInt8) : Prop := ∀ c ∈ l, Pl.jV c = true
def heads (p : UInt8 → Bool) (l : List UInt8) : Prop := ∀ c, l.head? = some c → p c = false
theorem uq {f n : Nat} (h : n < f) : ∃ g, f = g + 1 ∧ n ≤ g := ⟨f - 1, by omega, by omega⟩
theorem rU {sp : List UInt8} {cl : Bool} (hs : blanks sp) : okC (sp ++ mF cl) := fun f hf => by
 obtain ⟨g, rfl, _⟩ := uq hf
 have e : (sp ++ mF cl).dropWhile Pl.iR = mF cl := oJ hs (fun c hc => by cases cl <;> (injection hc with hc; rw [← hc]; decide))
 rw [sV, e]
 cases cl
 ·rw [if_pos (show mF false = [62] from rfl)]; simp
 ·rw [if_neg (show mF true ≠ [62] by decide), if_pos (show mF true = [47, 62] from rfl)]; simp
theorem qJ {sp nm v r : List UInt8} (hs : blanks sp) (hs0 : sp ≠ []) (hn : smalls nm) (hn0 : nm ≠ []) (hv : (34 : UInt8) ∉ v) (h : okC r) : okC (sp ++ (nm ++ 61 :: 34 :: (v ++ 34 :: r))) := fun f hf => by
 obtain ⟨g, rfl, hg⟩ := uq hf
 rw [F9 hs hs0 hn hn0 hv]
 simp only [List.length_append, List.length_cons] at hg
 have := h g (by omega)
 cases hq : sV g r with
 | none => exact absurd hq this
 | some z => simp
section
variable {sp nm v r : List UInt8} {acc : List At}
theorem xy (hs : blanks sp) (hs0 : sp ≠ []) (hn : (61 : UInt8) ∉ nm) (hh : heads Pl.iR nm) (hv : (34 : UInt8) ∉ v) (h : wS r) : wS (sp ++ (nm ++ 61 :: 34 :: (v ++ 34 :: r))) := fun f hf => by
 obtain ⟨g, rfl, hg⟩ := uq hf
 simp only [List.length_append, List.length_cons] at hg
 rw [rC hs hs0 hn hh hv, h g (by omega)]
 rfl
theorem Ae (hs : blanks sp) (hs0 : sp ≠ []) (hn : (61 : UInt8) ∉ nm) (hh : heads Pl.iR nm) (hv : (34 : UInt8) ∉ v) (h0 : Pl.kW nm = 0) (h1 : (unR (bA v)).1 = 0) (h2 : ¬ nz acc nm 0 ≥ 0) (h : five r (acc ++ [(⟨bA nm, (unR (bA v)).2⟩ : At)])) : five (sp ++ (nm ++ 61 :: 34 :: (v ++ 34 :: r))) acc := fun f hf => by
 obtain ⟨g, rfl, hg⟩ := uq hf
 simp only [List.length_append, List.length_cons] at hg
 rw [rC hs hs0 hn hh hv]
 rcases h g (by omega) with e | ⟨ps, e, e5⟩
 ·rw [e]; exact .inl rfl
 ·rw [e]
  refine .inr ⟨_, rfl, ?_⟩
  rw [oU, if_neg (by simpa using h0), if_neg (by simpa using h1), if_neg h2]
  exact e5
theorem Gn (hs : blanks sp) (hs0 : sp ≠ []) (hn : (61 : UInt8) ∉ nm) (hh : heads Pl.iR nm) (hv : (34 : UInt8) ∉ v) (h0 : Pl.kW nm = 0) (h1 : (unR (bA v)).1 = 5) : five (sp ++ (nm ++ 61 :: 34 :: (v ++ 34 :: r))) acc := fun f hf => by
 obtain ⟨g, rfl, hg⟩ := uq hf
 rw [rC hs hs0 hn hh hv]
 cases nT g r with
 | none => exact .inl rfl
 | some ps =>
  refine .inr ⟨_, rfl, ?_⟩
  rw [oU, if_neg (by simpa using h0), if_pos (by rw [h1]; decide)]
  exact h1
theorem FH (hs : blanks sp) (hs0 : sp ≠ []) (hn : (61 : UInt8) ∉ nm) (hh : heads Pl.iR nm) (hv : (34 : UInt8) ∉ v) (h0 : Pl.kW nm = 5) : five (sp ++ (nm ++ 61 :: 34 :: (v ++ 34 :: r))) acc := fun f hf => by
 obtain ⟨g, rfl, hg⟩ := uq hf
 rw [rC hs hs0 hn hh hv]
 cases nT g r with
 | none => exact .inl rfl
 | some ps =>
  refine .inr ⟨_, rfl, ?_⟩
  rw [oU, if_pos (by rw [h0]; decide)]
  exact h0
theorem rH {c : UInt8} (h : Pl.iR c = false) : wS (c :: r) := fun f hf => by
 obtain ⟨g, rfl, hg⟩ := uq hf
 have e : (c :: r).dropWhile Pl.iR = c :: r := by rw [List.dropWhile_cons, if_neg (by rw [h]; decide)]
 rw [nT, e, if_neg (by simp), if_pos rfl]
theorem wG {l : List UInt8} (h : ∃ b ∈ l, Pl.jV b = false) : Pl.kW l = 5 := by
 obtain ⟨b, hb, h⟩ := h
 unfold Pl.kW
 by_cases h0 : l = []
 ·rw [if_pos h0]
 ·rw [if_neg h0, if_neg]
  intro ha
  rw [List.all_eq_true.1 ha b hb] at h
  cases h
theorem Az {l : List UInt8} (h : smalls l) (h0 : l ≠ []) (h8 : l.length ≤ 8) : Pl.kW l = 0 := by
 unfold Pl.kW
 rw [if_neg h0, if_pos (List.all_eq_true.2 h), if_neg (by omega)]
theorem uu {q : List UInt8} (hs : blanks sp) (hq : (61 : UInt8) ∉ q) (hq0 : q ≠ []) (hh : heads Pl.iR q) (hb : ∃ b ∈ q, Pl.jV b = false) : five (sp ++ (q ++ r)) acc := fun f hf => by
 obtain ⟨g, rfl, hg⟩ := uq hf
 have e : (sp ++ (q ++ r)).dropWhile Pl.iR = q ++ r := oJ hs (fun c hc => by
  cases q with
  | nil => exact absurd rfl hq0
  | cons d t => exact hh c hc)
 rw [nT, e, if_neg (by simp [hq0])]
 by_cases h1 : (q ++ r).length = (sp ++ (q ++ r)).length
 ·rw [if_pos h1]; exact .inl rfl
 rw [if_neg h1]
 by_cases h2 : [61, 34].isPrefixOf ((q ++ r).dropWhile (· != 61)) = false
 ·rw [if_pos h2]; exact .inl rfl
 rw [if_neg h2]
 by_cases h3 : (34 : UInt8) ∈ ((q ++ r).dropWhile (· != 61)).drop 2
 ·rw [if_pos h3]
  have ht : (q ++ r).takeWhile (· != 61) = q ++ r.takeWhile (· != 61) := List.takeWhile_append_of_pos (fun c hc => xH (fun e => hq (e ▸ hc)))
  cases nT g (((((q ++ r).dropWhile (· != 61)).drop 2).dropWhile (· != 34)).drop 1) with
  | none => exact .inl rfl
  | some ps =>
   refine .inr ⟨_, rfl, ?_⟩
   obtain ⟨b, hb, hs⟩ := hb
   have h5 : Pl.kW ((q ++ r).takeWhile (· != 61)) = 5 := by
    rw [ht]
    exact wG ⟨b, List.mem_append_left _ hb, hs⟩
   rw [oU, if_pos (by rw [h5]; decide)]
   exact h5
 ·rw [if_neg h3]; exact .inl rfl
theorem Ak (h : (61 : UInt8) ∉ r) (h0 : r.dropWhile Pl.iR ≠ []) : wS r := fun f hf => by
 obtain ⟨g, rfl, hg⟩ := uq hf
 rw [nT, if_neg h0]
 by_cases h1 : (r.dropWhile Pl.iR).length = r.length
 ·rw [if_pos h1]
 rw [if_neg h1, if_pos]
 have : (r.dropWhile Pl.iR).dropWhile (· != 61) = [] := by
  cases hd : (r.dropWhile Pl.iR).dropWhile (· != 61) with
  | nil => rfl
  | cons c t =>
   exfalso
   have hc := dw_head (p := fun c => c != 61) (r.dropWhile Pl.iR) c (by rw [hd]; rfl)
   obtain rfl : c = 61 := by simpa using hc
   apply h
   rw [← sO (p := Pl.iR) r, ← sO (p := fun c => c != 61) (r.dropWhile Pl.iR), hd]
   simp
 rw [this]
 rfl
theorem Cj {t : List UInt8} (hs : blanks sp) (hn : (61 : UInt8) ∉ nm) (hh : heads Pl.iR nm) (ht : t.head? ≠ some 34) : wS (sp ++ (nm ++ 61 :: t)) := fun f hf => by
 obtain ⟨g, rfl, hg⟩ := uq hf
 have e1 : (sp ++ (nm ++ 61 :: t)).dropWhile Pl.iR = nm ++ 61 :: t := oJ hs (fun c hc => by
  cases nm with
  | nil => exact oL (by decide) c hc
  | cons d t => exact hh c hc)
 have e2 : (nm ++ 61 :: t).dropWhile (· != 61) = 61 :: t := oJ (fun c hc => xH (fun e => hn (e ▸ hc))) (oL (by decide))
 rw [nT, e1, e2, if_neg (by simp)]
 by_cases h1 : (nm ++ 61 :: t).length = (sp ++ (nm ++ 61 :: t)).length
 ·rw [if_pos h1]
 rw [if_neg h1, if_pos]
 rw [Bool.eq_false_iff]
 intro h
 obtain ⟨u, hu⟩ := List.isPrefixOf_iff_prefix.1 h
 apply ht
 have : t = 34 :: u := by
  injection hu with _ hu
  exact hu.symm
 rw [this]
 rfl
theorem D5 (hs : blanks sp) (hn : (61 : UInt8) ∉ nm) (hh : heads Pl.iR nm) (hv : (34 : UInt8) ∉ v) : wS (sp ++ (nm ++ 61 :: 34 :: v)) := fun f hf => by
 obtain ⟨g, rfl, hg⟩ := uq hf
 have e1 : (sp ++ (nm ++ 61 :: 34 :: v)).dropWhile Pl.iR = nm ++ 61 :: 34 :: v := oJ hs (fun c hc => by
  cases nm with
  | nil => exact oL (by decide) c hc
  | cons d t => exact hh c hc)
 have e2 : (nm ++ 61 :: 34 :: v).dropWhile (· != 61) = 61 :: 34 :: v := oJ (fun c hc => xH (fun e => hn (e ▸ hc))) (oL (by decide))
 rw [nT, e1, e2, if_neg (by simp)]
 by_cases h1 : (nm ++ 61 :: 34 :: v).length = (sp ++ (nm ++ 61 :: 34 :: v)).length
 ·rw [if_pos h1]
 rw [if_neg h1, if_neg (by simp [List.isPrefixOf]), if_neg (show ¬ (34 : UInt8) ∈ (61 :: 34 :: v).drop 2 from hv)]
end
/-! written attrs -/
def flat : Prs → List UInt8
 | [] => []
 | (n, v) :: xs => 32 :: (n ++ 61 :: 34 :: (nR v ++ 34 :: flat xs))
def uJ (q : List UInt8 × List UInt8) : Prop := smalls q.1 ∧ q.1 ≠ [] ∧ q.1.length ≤ 8 ∧ q.2.length ≤ 7 ∧ (∀ c ∈ q.2, Pl.nJ c = true ∧ c ≠ 61)
theorem J9 {c : UInt8} (h : c ≠ 61) : ∀ x ∈ wW c, x ≠ 61 := by
 rcases qN c with ⟨_, e2⟩ | ⟨_, e2⟩ | ⟨_, e2⟩ | ⟨_, e2⟩ | ⟨_, _, _, _, e2⟩
 ·rw [mi e2]; decide
 ·rw [mi e2]; decide
 ·rw [mi e2]; decide
 ·rw [mi e2]; decide
 ·rw [sZ e2]
  intro x hx
  obtain rfl : x = c := by simpa using hx
  exact h
theorem EX {l : List UInt8} (h : ∀ c ∈ l, c ≠ 61) : ∀ x ∈ nR l, x ≠ 61 := by
 intro x hx
 unfold nR at hx
 obtain ⟨c, hc, hx⟩ := List.mem_flatMap.1 hx
 exact J9 (h c hc) x hx
theorem JC {q : List UInt8 × List UInt8} (h : uJ q) : (unR (bA (nR q.2))).1 = 0 := by
 have hv : Pl.pU (bA q.2).data.toList = 0 := by
  rw [sD]
  exact H5 _ (by have := h.2.2.2.1; omega) (List.all_eq_true.2 (fun c hc => (h.2.2.2.2 c hc).1))
 have := Me (bA q.2) hv
 rw [show zS (bA q.2) = bA (nR q.2) from rfl] at this
 rw [this]
theorem Nb {l : List UInt8} (h : l.length ≤ 40) : (unR (bA l)).1 = 0 ∨ (unR (bA l)).1 = 5 := by
 have dec_len : ∀ (f : Nat) (l ys : List UInt8), xC f l = some ys → ys.length ≤ l.length := by
  intro f
  induction f with
  | zero =>
   intro l ys hd
   cases l with
   | nil =>
    rw [tu] at hd
    obtain rfl := Option.some.inj hd
    simp
   | cons c t => cases hd
  | succ f ih =>
   intro l ys hd
   cases l with
   | nil =>
    rw [tu] at hd
    obtain rfl := Option.some.inj hd
    simp
   | cons c t =>
    rw [sS] at hd
    cases hs : qc (c :: t) with
    | none => rw [hs] at hd; cases hd
    | some z =>
     obtain ⟨b, r⟩ := z
     rw [hs] at hd
     obtain ⟨ys', hy, rfl⟩ := Option.map_eq_some_iff.1 hd
     obtain ⟨p, hp, e⟩ := yK hs
     have := ih r ys' hy
     have hpl := List.length_pos_iff.2 hp
     rw [e, List.length_append, List.length_cons]
     omega
 unfold unR
 rw [if_pos (by rw [nV]; omega), sD]
 cases hd : xC 400 l with
 | none => exact .inr rfl
 | some ys =>
  have := dec_len _ _ _ hd
  rw [GR, if_pos (by omega)]
  exact .inl rfl
theorem zU {l : List At} {s : List UInt8} : ∀ i, (∀ y ∈ l, y.f0.toList ≠ s) → nz l s i = -1 := by
 induction l with
 | nil => intro i _; rfl
 | cons y l ih =>
  intro i h
  rw [nz, if_neg (h y (List.mem_cons_self ..))]
  exact ih (i + 1) (fun z hz => h z (List.mem_cons_of_mem _ hz))
theorem qY {c : UInt8} (h : Pl.iR c = true) : blanks [c] := by
 intro d hd
 obtain rfl : d = c := by simpa using hd
 exact h
theorem qI : blanks [32] := qY (by decide)
theorem sK {t : List UInt8} (ht : okC t) : ∀ xs : Prs, (∀ q ∈ xs, uJ q) → okC (flat xs ++ t)
 | [], _ => ht
 | (n, v) :: xs, h => by
  obtain ⟨h1, h2, _⟩ := h (n, v) (List.mem_cons_self ..)
  have ih := sK ht xs (fun q hq => h q (List.mem_cons_of_mem _ hq))
  have := qJ (sp := [32]) (nm := n) (v := nR v) (r := flat xs ++ t) qI (by simp) h1 h2 (fun hm => (uw v 34 hm).2.2 rfl) ih
  rw [flat]
  simpa using this
theorem rQ {l : List UInt8} (h : smalls l) : (61 : UInt8) ∉ l := fun hm => by have := h 61 hm; exact absurd this (by decide)
theorem oq {l : List UInt8} (h : smalls l) : heads Pl.iR l := fun c hc => ny (h c (List.mem_of_mem_head? hc))
theorem Ah {t : List UInt8} (ht : wS t) : ∀ xs : Prs, (∀ q ∈ xs, uJ q) → wS (flat xs ++ t)
 | [], _ => ht
 | (n, v) :: xs, h => by
  obtain ⟨h1, h2, _⟩ := h (n, v) (List.mem_cons_self ..)
  have ih := Ah ht xs (fun q hq => h q (List.mem_cons_of_mem _ hq))
  have := xy (sp := [32]) (nm := n) (v := nR v) (r := flat xs ++ t) qI (by simp) (rQ h1) (oq h1) (fun hm => (uw v 34 hm).2.2 rfl) ih
  rw [flat]
  simpa using this
def okT (c : UInt8) : Prop := Pl.iR c = true ∨ c = 97 ∨ c = 34 ∨ c = 61
theorem xw {l : List UInt8} {j : Nat} {c : UInt8} (h : j < l.length) : l.set j c = l.take j ++ c :: l.drop (j + 1) := List.set_eq_take_append_cons_drop.trans (if_pos h)
theorem rO {c : UInt8} (h : Pl.iR c = true) : Pl.jV c = false := by
 cases hs : Pl.jV c with
 | false => rfl
 | true => rw [ny hs] at h; cases h
theorem tq {l : List UInt8} {j : Nat} {c : UInt8} (h : c ∈ l.take j) : c ∈ l := List.mem_of_mem_take h
theorem zx {l : List UInt8} {j : Nat} {c : UInt8} (h : c ∈ l.drop j) : c ∈ l := List.mem_of_mem_drop h
theorem turned (e : List UInt8) (he : okC e) : ∀ (xs : Prs) (acc : List At), xs.length ≤ 2 → (∀ q ∈ xs, uJ q) → xs.Pairwise (fun x y => x.1 ≠ y.1) → (∀ q ∈ xs, ∀ y ∈ acc, y.f0.toList ≠ q.1) → ∀ (j : Nat) (c : UInt8), j < (flat xs).length → okT c →
  okC ((flat xs).set j c ++ e) ∨ five ((flat xs).set j c) acc
 | [], _, _, _, _, _, j, c, hj, _ => by simp [flat] at hj
 | (n, v) :: xs, acc, hlen, hg, hpw, hacc, j, c, hj, hc => by
  obtain ⟨h1, h2, h8, hv7, hvb⟩ := hg (n, v) (List.mem_cons_self ..)
  have hgs : ∀ q ∈ xs, uJ q := fun q hq => hg q (List.mem_cons_of_mem _ hq)
  have hrest := sK he xs hgs
  have hE34 : (34 : UInt8) ∉ nR v := fun hm => (uw v 34 hm).2.2 rfl
  have hE61 : (61 : UInt8) ∉ nR v := fun hm => EX (fun c hc => (hvb c hc).2) 61 hm rfl
  have hElen := (uT v).2
  have hv7' : v.length ≤ 7 := hv7
  have hun : (unR (bA (nR v))).1 = 0 := JC (hg (n, v) (List.mem_cons_self ..))
  have hn0 : Pl.kW n = 0 := Az h1 h2 h8
  rw [flat] at hj ⊢
  -- xs it was
  have same : okC ((32 :: (n ++ 61 :: 34 :: (nR v ++ 34 :: flat xs))) ++ e) := by
   have := sK he ((n, v) :: xs) hg
   rwa [flat] at this
  generalize nR v = E at *
  rcases j with _ | j
  ·rw [List.set_cons_zero]
   rcases hc with hb | rfl | rfl | rfl
   ·refine .inl ?_
    have := qJ (sp := [c]) (nm := n) (v := E) (r := flat xs ++ e) (qY hb) (by simp) h1 h2 hE34 hrest
    simpa using this
   ·exact .inr (o7 (rH (by decide)))
   ·exact .inr (o7 (rH (by decide)))
   ·exact .inr (o7 (rH (by decide)))
  rw [List.set_cons_succ]
  simp only [List.length_cons] at hj
  by_cases hjn : j < n.length
  ·rw [List.set_append_left _ _ hjn]
   have hset := xw (c := c) hjn
   have hmem : ∀ x, x ∈ n.set j c → x = c ∨ x ∈ n := fun x hx => (List.mem_or_eq_of_mem_set hx).symm
   have hne : n.set j c ≠ [] := fun h => by have := congrArg List.length h; rw [List.length_set] at this; simp at this; exact h2 this
   rcases hc with hb | rfl | rfl | rfl
   ·-- a blank
    rcases j with _ | j
    ·cases n with
     | nil => exact absurd rfl h2
     | cons d t =>
      rw [List.set_cons_zero]
      have hsp : blanks [32, c] := by
       intro x hx
       rcases List.mem_cons.1 hx with rfl | hx
       ·decide
       ·obtain rfl : x = c := by simpa using hx
        exact hb
      by_cases ht : t = []
      ·subst ht
       refine .inr ?_
       have := FH (sp := [32, c]) (nm := []) (v := E) (r := flat xs) (acc := acc) hsp (by simp) (by simp) (fun x hx => by cases hx) hE34 rfl
       simpa using this
      ·refine .inl ?_
       have := qJ (sp := [32, c]) (nm := t) (v := E) (r := flat xs ++ e) hsp (by simp) (fun x hx => h1 x (List.mem_cons_of_mem _ hx)) ht hE34 hrest
       simpa using this
    ·refine .inr ?_
     refine uu (sp := [32]) (q := n.set (j + 1) c) qI (fun hm => ?_) hne (fun x hx => ?_) ⟨c, ?_, rO hb⟩
     ·rcases hmem 61 hm with h | h
      ·rw [← h] at hb; exact absurd hb (by decide)
      ·exact rQ h1 h
     ·cases n with
      | nil => exact absurd rfl h2
      | cons d t =>
       rw [List.set_cons_succ] at hx
       injection hx with hx
       rw [← hx]
       exact ny (h1 d (List.mem_cons_self ..))
     ·rw [hset]; simp
   ·refine .inl ?_
    have := qJ (sp := [32]) (nm := n.set j 97) (v := E) (r := flat xs ++ e) qI (by simp) (fun x hx => by
     rcases hmem x hx with rfl | h
     ·decide
     ·exact h1 x h) hne hE34 hrest
    simpa using this
   ·refine .inr ?_
    refine uu (sp := [32]) (q := n.set j 34) qI (fun hm => ?_) hne (fun x hx => ?_) ⟨34, ?_, by decide⟩
    ·rcases hmem 61 hm with h | h
     ·exact absurd h (by decide)
     ·exact rQ h1 h
    ·rcases hmem x (List.mem_of_mem_head? hx) with rfl | h
     ·decide
     ·exact ny (h1 x h)
    ·rw [hset]; simp
   ·refine .inr (o7 ?_)
    rw [hset]
    have := Cj (sp := [32]) (nm := n.take j) (t := n.drop (j + 1) ++ 61 :: 34 :: (E ++ 34 :: flat xs)) qI (fun hm => rQ h1 (tq hm)) (oq (fun x hx => h1 x (tq hx))) (fun h => by
     cases hd : n.drop (j + 1) with
     | nil =>
      rw [hd] at h
      simp at h
     | cons d t =>
      rw [hd] at h
      injection h with h
      have := h1 34 (zx (j := j + 1) (by rw [hd, h]; simp))
      exact absurd this (by decide))
    simpa using this
  rw [List.set_append_right _ _ (by omega)]
  obtain ⟨i, rfl⟩ : ∃ i, j = n.length + i := ⟨j - n.length, by omega⟩
  rw [Nat.add_sub_cancel_left]
  have hl : i < (61 :: 34 :: (E ++ 34 :: flat xs)).length := by
   simp only [List.length_append] at hj
   omega
  clear hj hjn
  have h32n : ∀ Y : List UInt8, (32 :: (n ++ Y)) = [32] ++ (n ++ Y) := fun Y => rfl
  rcases i with _ | i
  ·-- the '='
   rw [List.set_cons_zero]
   by_cases h61 : c = 61
   ·subst h61; exact .inl same
   ·refine .inr ?_
    have := uu (sp := [32]) (q := n ++ [c, 34]) (r := E ++ 34 :: flat xs) (acc := acc) qI (fun hm => by
     rcases List.mem_append.1 hm with h | h
     ·exact rQ h1 h
     ·simp at h; exact h61 h.symm) (by simp) (fun x hx => by
     cases n with
     | nil => exact absurd rfl h2
     | cons d t =>
      injection hx with hx
      rw [← hx]
      exact ny (h1 d (List.mem_cons_self ..))) ⟨34, by simp, by decide⟩
    simpa using this
  rw [List.set_cons_succ]
  rcases i with _ | i
  ·-- the opening quote
   rw [List.set_cons_zero]
   by_cases h34 : c = 34
   ·subst h34; exact .inl same
   ·refine .inr (o7 ?_)
    exact Cj (sp := [32]) (nm := n) (t := c :: (E ++ 34 :: flat xs)) qI (rQ h1) (oq h1) (fun h => h34 (by injection h))
  rw [List.set_cons_succ]
  simp only [List.length_cons] at hl
  by_cases hiE : i < E.length
  ·rw [List.set_append_left _ _ hiE]
   by_cases h34 : c = 34
   ·-- a quote within the value
    subst h34
    refine .inr ?_
    rw [xw hiE]
    have hp34 : (34 : UInt8) ∉ E.take i := fun hm => hE34 (tq hm)
    rw [h32n, List.append_assoc, List.cons_append]
    cases hs : E.drop (i + 1) with
    | nil => exact o7 (xy qI (by simp) (rQ h1) (oq h1) hp34 (rH (by decide)))
    | cons b t =>
     have hi2 : i + 1 < E.length := by
      have := congrArg List.length hs
      rw [List.length_drop, List.length_cons] at this
      omega
     have hs61 : (61 : UInt8) ∉ b :: t := fun hm => hE61 (zx (by rw [hs]; exact hm))
     have tail : ∀ acc', five ((b :: t) ++ 34 :: flat xs) acc' := by
      intro acc'
      have hd := sO (p := Pl.iR) (b :: t)
      have hh := dw_head (p := Pl.iR) (b :: t)
      have hb := tZ (p := Pl.iR) (b :: t)
      generalize (b :: t).takeWhile Pl.iR = sb at hd hb
      generalize (b :: t).dropWhile Pl.iR = s1 at hd hh
      rw [← hd]
      have := uu (sp := sb) (q := s1 ++ [34]) (r := flat xs) (acc := acc') hb (fun hm => by
       rcases List.mem_append.1 hm with h | h
       ·exact hs61 (by rw [← hd]; exact List.mem_append_right _ h)
       ·simp at h) (by simp) (fun x hx => by
       cases s1 with
       | nil => exact oL (by decide) x hx
       | cons d u => exact hh x hx) ⟨34, by simp, by decide⟩
      simpa using this
     rcases Nb (l := E.take i) (by rw [List.length_take]; omega) with h0 | h5
     ·exact Ae qI (by simp) (rQ h1) (oq h1) hp34 hn0 h0 (by rw [zU 0 (hacc (n, v) (List.mem_cons_self ..))]; decide) (tail _)
     ·exact Gn qI (by simp) (rQ h1) (oq h1) hp34 hn0 h5
   ·refine .inl ?_
    have := qJ (sp := [32]) (nm := n) (v := E.set i c) (r := flat xs ++ e) qI (by simp) h1 h2 (fun hm => by
     rcases List.mem_or_eq_of_mem_set hm with h | h
     ·exact hE34 h
     ·exact h34 h.symm) hrest
    simpa using this
  rw [List.set_append_right _ _ (by omega)]
  obtain ⟨q, rfl⟩ : ∃ q, i = E.length + q := ⟨i - E.length, by omega⟩
  rw [Nat.add_sub_cancel_left]
  simp only [List.length_append, List.length_cons] at hl
  rcases q with _ | q
  ·-- the closing quote
   rw [List.set_cons_zero]
   by_cases h34 : c = 34
   ·subst h34; exact .inl same
   ·refine .inr (o7 ?_)
    rw [h32n]
    cases xs with
    | nil => exact D5 qI (rQ h1) (oq h1) (fun hm => by
      rcases List.mem_append.1 hm with h | h
      ·exact hE34 h
      ·simp [flat] at h; exact h34 h.symm)
    | cons q2 xs2 =>
     obtain ⟨n2, v2⟩ := q2
     have hxs2 : xs2 = [] := List.eq_nil_of_length_eq_zero (by simp only [List.length_cons] at hlen; omega)
     subst hxs2
     obtain ⟨g1, g2, _, _, g5⟩ := hgs (n2, v2) (List.mem_cons_self ..)
     rw [flat, flat]
     have hE2 : (61 : UInt8) ∉ nR v2 := fun hm => EX (fun c hc => (g5 c hc).2) 61 hm rfl
     have := xy (sp := [32]) (nm := n) (v := E ++ c :: 32 :: (n2 ++ [61])) (r := nR v2 ++ [34]) qI (by simp) (rQ h1) (oq h1) (fun hm => by
      rcases List.mem_append.1 hm with h | h
      ·exact hE34 h
      ·rcases List.mem_cons.1 h with h | h
       ·exact h34 h.symm
       ·rcases List.mem_cons.1 h with h | h
        ·exact absurd h (by decide)
        ·rcases List.mem_append.1 h with h | h
         ·exact absurd (g1 34 h) (by decide)
         ·simp at h) (Ak (fun hm => by
      rcases List.mem_append.1 hm with h | h
      ·exact hE2 h
      ·simp at h) (fun h0 => by
      have hd := sO (p := Pl.iR) (nR v2 ++ [34])
      rw [h0, List.append_nil] at hd
      have := tZ (p := Pl.iR) (nR v2 ++ [34]) 34 (by rw [hd]; simp)
      exact absurd this (by decide)))
     simpa using this
  rw [List.set_cons_succ]
  -- behind
  have hq : q < (flat xs).length := by omega
  have ih := turned e he xs (acc ++ [(⟨bA n, (unR (bA E)).2⟩ : At)]) (by simp at hlen; omega) hgs hpw.of_cons (fun z hz y hy => by
   rcases List.mem_append.1 hy with h | h
   ·exact hacc z (List.mem_cons_of_mem _ hz) y h
   ·obtain rfl : y = _ := by simpa using h
    rw [sG]
    exact List.rel_of_pairwise_cons hpw hz) q c hq hc
  rcases ih with h | h
  ·refine .inl ?_
   have := qJ (sp := [32]) (nm := n) (v := E) (r := (flat xs).set q c ++ e) qI (by simp) h1 h2 hE34 h
   simpa using this
  ·refine .inr ?_
   exact Ae qI (by simp) (rQ h1) (oq h1) hE34 hn0 hun (by rw [zU 0 (hacc (n, v) (List.mem_cons_self ..))]; decide) h
theorem wZ {tg x : List UInt8} (h : smalls tg) (h0 : tg ≠ []) (hx : heads Pl.jV x) (hok : okC x) : yx (60 :: (tg ++ x)) ≠ none := by
 unfold yx
 have hd : (60 :: (tg ++ x)).drop 1 = tg ++ x := rfl
 rw [if_neg (by simp [List.isPrefixOf]), hd, oJ h hx, rf h hx, if_neg h0]
 have := hok ((60 :: (tg ++ x)).length + 1) (by simp; omega)
 cases hq : sV ((60 :: (tg ++ x)).length + 1) x with
 | none => exact absurd hq this
 | some z => simp
theorem zf (b : List UInt8) (cl : Bool) (h : cl = false → b.getLast? ≠ some 47) : qx (60 :: (b ++ mF cl)) = (nT ((60 :: (b ++ mF cl)).length + 1) (b.dropWhile nbB)).map fun ps => (b.takeWhile nbB, ps, cl) := by
 have e1 : 60 :: (b ++ mF cl) = (60 :: b) ++ mF cl := rfl
 have hE : (mF cl).getLast? = some 62 := by cases cl <;> rfl
 have hlen : (60 :: (b ++ mF cl)).length = b.length + (mF cl).length + 1 := by simp
 have hl47 : (60 :: (b ++ mF cl))[(60 :: (b ++ mF cl)).length - 2]? = some 47 ↔ cl = true := by
  rw [e1]
  cases cl with
  | true =>
   refine ⟨fun _ => rfl, fun _ => ?_⟩
   have el : ((60 :: b) ++ mF true).length - 2 = (60 :: b).length := by
    rw [List.length_append, show (mF true).length = 2 from rfl]
    omega
   rw [el, List.getElem?_append_right (Nat.le_refl _), Nat.sub_self]
   rfl
  | false =>
   refine ⟨fun h' => ?_, fun h' => by cases h'⟩
   exfalso
   have el : ((60 :: b) ++ mF false).length - 2 = (60 :: b).length - 1 := by simp [mF]
   rw [el, List.getElem?_append_left (by simp), ← List.getLast?_eq_getElem?] at h'
   rw [show (60 :: b) = [60] ++ b by simp, List.getLast?_append] at h'
   cases hbl : b.getLast? with
   | some c =>
    rw [hbl] at h'
    exact h rfl (hbl.trans h')
   | none =>
    rw [hbl] at h'
    simp at h'
 have hbody : qw (60 :: (b ++ mF cl)) = b := by
  unfold qw
  cases cl with
  | true =>
   rw [if_pos (hl47.2 rfl), hlen, e1]
   rw [List.take_append_of_le_length (by simp [mF]), List.take_of_length_le (by simp [mF])]
   rfl
  | false =>
   rw [if_neg (fun h => by have := hl47.1 h; cases this), hlen, e1]
   rw [List.take_append_of_le_length (by simp [mF]), List.take_of_length_le (by simp [mF])]
   rfl
 unfold qx
 have el : 1 ≤ (mF cl).length := by cases cl <;> decide
 rw [if_neg (by rw [hlen]; omega), if_neg (by simp), if_neg (by rw [e1, List.getLast?_append, hE]; simp), hbody]
 have hdd : decide ((60 :: (b ++ mF cl))[(60 :: (b ++ mF cl)).length - 2]? = some 47) = cl := by
  cases cl with
  | true => exact decide_eq_true (hl47.2 rfl)
  | false => exact decide_eq_false (fun h => by have := hl47.1 h; cases this)
 rw [hdd]
theorem wM {b : List UInt8} {cl : Bool} (h : cl = false → b.getLast? ≠ some 47) (h5 : Pl.kW (b.takeWhile nbB) = 5) : xe (qx (60 :: (b ++ mF cl))) = (5, 0, []) := by
 rw [zf b cl h]
 cases nT ((60 :: (b ++ mF cl)).length + 1) (b.dropWhile nbB) with
 | none => rfl
 | some ps =>
  show (if Pl.kW (b.takeWhile nbB) ≠ 0 then _ else _) = _
  rw [if_pos (by rw [h5]; decide), h5]
theorem zu {b : List UInt8} {cl : Bool} (h : cl = false → b.getLast? ≠ some 47) (h0 : Pl.kW (b.takeWhile nbB) = 0) (h5 : five (b.dropWhile nbB) []) : xe (qx (60 :: (b ++ mF cl))) = (5, 0, []) := by
 rw [zf b cl h]
 have hl := su (p := nbB) b
 rcases h5 ((60 :: (b ++ mF cl)).length + 1) (by simp; omega) with e | ⟨ps, e, e5⟩
 ·rw [e]; rfl
 ·rw [e]
  show (if Pl.kW (b.takeWhile nbB) ≠ 0 then _ else if (oU [] ps).1 = 0 then _ else ((oU [] ps).1, 0, [])) = _
  rw [if_neg (by rw [h0]; decide), if_neg (by rw [e5]; decide), e5]
theorem CO {c : UInt8} (h : Pl.iR c = false) : nbB c = true := by unfold nbB; rw [h]; rfl
theorem Ep {c : UInt8} (h : Pl.iR c = true) : nbB c = false := by unfold nbB; rw [h]; rfl
theorem Fj : ∀ xs : Prs, heads nbB (flat xs)
 | [] => fun c hc => by cases hc
 | (n, v) :: xs => by
  rw [flat]
  exact oL (by decide)
theorem yf {e : List UInt8} (he : heads Pl.jV e) : ∀ xs : Prs, heads Pl.jV (flat xs ++ e)
 | [] => he
 | (n, v) :: xs => by
  rw [flat]
  exact oL (by decide)
def fits (L : List UInt8) : Prop := yx L ≠ none ∨ xe (qx L) = (5, 0, [])
structure xX (tg : List UInt8) (xs : Prs) : Prop where
 small : smalls tg
 ne : tg ≠ []
 le : tg.length ≤ 8
 two : xs.length ≤ 2
 good : ∀ q ∈ xs, uJ q
 apart : xs.Pairwise (fun x y => x.1 ≠ y.1)
section
variable {tg : List UInt8} {xs : Prs}
theorem AO (h : xX tg xs) {e : List UInt8} (he : okC e) (hs : heads Pl.jV e) : fits (60 :: (tg ++ (flat xs ++ e))) := .inl (wZ h.small h.ne (yf hs xs) (sK he xs h.good))
theorem Cf (h : xX tg xs) (cl : Bool) : fits (60 :: (tg ++ (flat xs ++ mF cl))) := AO h (rU (sp := []) (fun c hc => by cases hc)) (fun c hc => by cases cl <;> (injection hc with hc; rw [← hc]; decide))
theorem Fb (h : xX tg xs) : fits (60 :: (tg ++ (flat xs ++ [32, 10, 32, 120, 61, 34, 49, 34, 32, 32, 47, 62]))) := by
 refine AO h ?_ (oL (by decide))
 exact qJ (sp := [32, 10, 32]) (nm := [120]) (v := [49]) (r := [32, 32] ++ mF true) (by unfold blanks; decide) (by decide) (by unfold smalls; decide) (by decide) (by decide) (rU (by unfold blanks; decide))
theorem Ai : ∀ (xs : Prs), (∀ q ∈ xs, uJ q) → (62 : UInt8) ∉ flat xs
 | [], _ => by simp [flat]
 | (n, v) :: xs, h => by
  obtain ⟨h1, _⟩ := h (n, v) (List.mem_cons_self ..)
  have ih := Ai xs (fun q hq => h q (List.mem_cons_of_mem _ hq))
  rw [flat]
  intro hm
  rcases List.mem_cons.1 hm with hm | hm
  ·exact absurd hm (by decide)
  rcases List.mem_append.1 hm with hm | hm
  ·exact absurd (h1 62 hm) (by decide)
  rcases List.mem_cons.1 hm with hm | hm
  ·exact absurd hm (by decide)
  rcases List.mem_cons.1 hm with hm | hm
  ·exact absurd hm (by decide)
  rcases List.mem_append.1 hm with hm | hm
  ·exact (uw v 62 hm).2.1 rfl
  rcases List.mem_cons.1 hm with hm | hm
  ·exact absurd hm (by decide)
  ·exact ih hm
theorem Ap {L : List UInt8} (h : L.getLast? ≠ some 62) : xe (qx L) = (5, 0, []) := by
 unfold qx
 by_cases h1 : L.length < 2
 ·rw [if_pos h1]; rfl
 rw [if_neg h1]
 by_cases h2 : L.head? ≠ some 60
 ·rw [if_pos h2]; rfl
 rw [if_neg h2, if_pos h]
 rfl
theorem Gl (h : xX tg xs) (i : Nat) (hi : i < (60 :: (tg ++ (flat xs ++ [47, 62]))).length) : fits ((60 :: (tg ++ (flat xs ++ [47, 62]))).take i) := by
 refine .inr (Ap fun e => ?_)
 have hm := List.mem_of_getLast? e
 have e2 : 60 :: (tg ++ (flat xs ++ [47, 62])) = (60 :: (tg ++ (flat xs ++ [47]))) ++ [62] := by simp
 rw [e2] at hm hi
 rw [List.take_append_of_le_length (by simp only [List.length_append, List.length_cons, List.length_nil] at hi ⊢; omega)] at hm
 have hm := List.mem_of_mem_take hm
 rcases List.mem_cons.1 hm with hm | hm
 ·exact absurd hm (by decide)
 rcases List.mem_append.1 hm with hm | hm
 ·exact absurd (h.small 62 hm) (by decide)
 rcases List.mem_append.1 hm with hm | hm
 ·exact Ai xs h.good hm
 ·simp at hm
theorem IK (h : xX tg xs) (i : Nat) (hi : i < (60 :: (tg ++ (flat xs ++ [47, 62]))).length) (c : UInt8) (hc : okT c) : fits ((60 :: (tg ++ (flat xs ++ [47, 62]))).set i c) := by
 have htgnb : ∀ c ∈ tg, nbB c = true := fun c hc => CO (ny (h.small c hc))
 have hn0 : Pl.kW tg = 0 := Az h.small h.ne h.le
 have c60 : c ≠ 60 := by
  rcases hc with hb | rfl | rfl | rfl
  ·intro e; rw [e] at hb; exact absurd hb (by decide)
  ·decide
  ·decide
  ·decide
 have c62 : c ≠ 62 := by
  rcases hc with hb | rfl | rfl | rfl
  ·intro e; rw [e] at hb; exact absurd hb (by decide)
  ·decide
  ·decide
  ·decide
 have c47 : c ≠ 47 := by
  rcases hc with hb | rfl | rfl | rfl
  ·intro e; rw [e] at hb; exact absurd hb (by decide)
  ·decide
  ·decide
  ·decide
 rcases i with _ | i
 ·rw [List.set_cons_zero]
  refine .inr ?_
  unfold qx
  split
  ·rfl
  rw [if_pos (by simpa using c60)]
  rfl
 rw [List.set_cons_succ]
 simp only [List.length_cons, List.length_append] at hi
 by_cases hit : i < tg.length
 ·-- within the tag
  rw [List.set_append_left _ _ hit]
  have hset := xw (c := c) hit
  have hmem : ∀ x, x ∈ tg.set i c → x = c ∨ x ∈ tg := fun x hx => (List.mem_or_eq_of_mem_set hx).symm
  have hne : tg.set i c ≠ [] := fun e => by have := congrArg List.length e; rw [List.length_set] at this; simp at this; exact h.ne this
  have hcm : c ∈ tg.set i c := by rw [hset]; simp
  have bad : Pl.iR c = false → Pl.jV c = false → fits (60 :: (tg.set i c ++ (flat xs ++ [47, 62]))) := by
   intro hb hsm
   have := wM (b := tg.set i c ++ flat xs) (cl := true) (fun h => by cases h) (by
    rw [rf (fun x hx => by
     rcases hmem x hx with rfl | hx
     ·exact CO hb
     ·exact htgnb x hx) (Fj xs)]
    exact wG ⟨c, hcm, hsm⟩)
   rw [List.append_assoc] at this
   exact .inr this
  rcases hc with hb | rfl | rfl | rfl
  ·-- a blank
   rw [hset, List.append_assoc, List.cons_append]
   have hpre : smalls (tg.take i) := fun x hx => h.small x (tq hx)
   have hpost : smalls (tg.drop (i + 1)) := fun x hx => h.small x (zx hx)
   have htw : (tg.take i ++ c :: (tg.drop (i + 1) ++ flat xs)).takeWhile nbB = tg.take i := rf (fun x hx => htgnb x (tq hx)) (oL (Ep hb))
   have hdw : (tg.take i ++ c :: (tg.drop (i + 1) ++ flat xs)).dropWhile nbB = c :: (tg.drop (i + 1) ++ flat xs) := oJ (fun x hx => htgnb x (tq hx)) (oL (Ep hb))
   by_cases hp0 : tg.take i = []
   ·have := wM (b := tg.take i ++ c :: (tg.drop (i + 1) ++ flat xs)) (cl := true) (fun h => by cases h) (by rw [htw, hp0]; rfl)
    refine .inr ?_
    simpa [mF] using this
   ·by_cases hq0 : tg.drop (i + 1) = []
    ·rw [hq0, List.nil_append]
     refine .inl (wZ hpre hp0 (oL (rO hb)) ?_)
     cases hxs : xs with
     | nil => exact rU (sp := [c]) (cl := true) (qY hb)
     | cons q xs' =>
      obtain ⟨n, v⟩ := q
      have hgd := h.good
      rw [hxs] at hgd
      obtain ⟨g1, g2, _⟩ := hgd (n, v) (List.mem_cons_self ..)
      have := qJ (sp := [c, 32]) (nm := n) (v := nR v) (r := flat xs' ++ mF true) (fun x hx => by
       rcases List.mem_cons.1 hx with rfl | hx
       ·exact hb
       ·exact qI x hx) (by simp) g1 g2 (fun hm => (uw v 34 hm).2.2 rfl) (sK (show okC (mF true) from rU (sp := []) (cl := true) (fun c hc => by cases hc)) xs' (fun q hq => hgd q (List.mem_cons_of_mem _ hq)))
      rw [flat]
      simpa [mF] using this
    ·refine .inr ?_
     have hf : five (c :: (tg.drop (i + 1) ++ flat xs)) [] := by
      cases hxs : xs with
      | nil =>
       refine o7 (Ak (fun hm => ?_) (fun e => ?_))
       ·rcases List.mem_cons.1 hm with hm | hm
        ·rw [← hm] at hb; exact absurd hb (by decide)
        ·simp [flat] at hm; exact rQ hpost hm
       ·have e2 : (c :: (tg.drop (i + 1) ++ flat [])).dropWhile Pl.iR = tg.drop (i + 1) := by
         rw [show c :: (tg.drop (i + 1) ++ flat []) = [c] ++ tg.drop (i + 1) by simp [flat]]
         exact oJ (qY hb) (oq hpost)
        rw [e2] at e
        exact hq0 e
      | cons q xs' =>
       obtain ⟨n, v⟩ := q
       rw [flat]
       have := uu (sp := [c]) (q := tg.drop (i + 1) ++ [32]) (r := n ++ 61 :: 34 :: (nR v ++ 34 :: flat xs')) (acc := []) (qY hb) (fun hm => by
        rcases List.mem_append.1 hm with hm | hm
        ·exact rQ hpost hm
        ·simp at hm) (by simp) (fun x hx => by
        cases hd : tg.drop (i + 1) with
        | nil => exact absurd hd hq0
        | cons d t =>
         rw [hd] at hx hpost
         injection hx with hx
         rw [← hx]
         exact ny (hpost d (List.mem_cons_self ..))) ⟨32, by simp, by decide⟩
       simpa using this
     have := zu (b := tg.take i ++ c :: (tg.drop (i + 1) ++ flat xs)) (cl := true) (fun h => by cases h) (by
      rw [htw]
      exact Az hpre hp0 (by rw [List.length_take]; have := h.le; omega)) (by rw [hdw]; exact hf)
     simpa [mF] using this
  ·refine .inl (wZ (fun x hx => ?_) hne (yf (oL (by decide)) xs) (sK (rU (sp := []) (cl := true) (fun c hc => by cases hc)) xs h.good))
   rcases hmem x hx with rfl | hx
   ·decide
   ·exact h.small x hx
  ·exact bad (by decide) (by decide)
  ·exact bad (by decide) (by decide)
 rw [List.set_append_right _ _ (by omega)]
 obtain ⟨j, rfl⟩ : ∃ j, i = tg.length + j := ⟨i - tg.length, by omega⟩
 rw [Nat.add_sub_cancel_left]
 clear hit
 by_cases hjf : j < (flat xs).length
 ·-- within the attrs
  rw [List.set_append_left _ _ hjf]
  by_cases hj0 : j = 0 ∧ Pl.iR c = false
  ·obtain ⟨rfl, hb⟩ := hj0
   cases hxs : xs with
   | nil => rw [hxs] at hjf; simp [flat] at hjf
   | cons q xs' =>
    obtain ⟨n, v⟩ := q
    rw [flat, List.set_cons_zero]
    have hgd := h.good
    rw [hxs] at hgd
    obtain ⟨g1, g2, _⟩ := hgd (n, v) (List.mem_cons_self ..)
    refine .inr ?_
    have := wM (b := (tg ++ c :: (n ++ [61])) ++ 34 :: (nR v ++ 34 :: flat xs')) (cl := true) (fun h => by cases h) (by
     have hall : ∀ x ∈ tg ++ c :: (n ++ [61]), nbB x = true := fun x hx => by
      rcases List.mem_append.1 hx with hx | hx
      ·exact htgnb x hx
      rcases List.mem_cons.1 hx with rfl | hx
      ·exact CO hb
      rcases List.mem_append.1 hx with hx | hx
      ·exact CO (ny (g1 x hx))
      ·obtain rfl : x = 61 := by simpa using hx
       decide
     rw [List.takeWhile_append_of_pos hall]
     exact wG ⟨61, by simp, by decide⟩)
    simpa [mF] using this
  ·have hhead : heads nbB ((flat xs).set j c) := fun x hx => by
    cases hxs : xs with
    | nil => rw [hxs] at hjf; simp [flat] at hjf
    | cons q xs' =>
     obtain ⟨n, v⟩ := q
     rw [hxs, flat] at hx
     rcases j with _ | j
     ·rw [List.set_cons_zero] at hx
      injection hx with hx
      rw [← hx]
      cases hb : Pl.iR c with
      | true => exact Ep hb
      | false => exact absurd ⟨rfl, hb⟩ hj0
     ·rw [List.set_cons_succ] at hx
      injection hx with hx
      rw [← hx]
      decide
   have hsm : heads Pl.jV ((flat xs).set j c ++ [47, 62]) := fun x hx => by
    cases hf : (flat xs).set j c with
    | nil =>
     rw [hf] at hx
     exact oL (by decide) x hx
    | cons d t =>
     rw [hf] at hx hhead
     injection hx with hx
     rw [← hx]
     have := hhead d rfl
     unfold nbB at this
     exact rO (by simpa using this)
   rcases turned [47, 62] (rU (sp := []) (cl := true) (fun c hc => by cases hc)) xs [] h.two h.good h.apart (fun _ _ y hy => by cases hy) j c hjf hc with ho | hf
   ·exact .inl (wZ h.small h.ne hsm ho)
   ·have := zu (b := tg ++ (flat xs).set j c) (cl := true) (fun h => by cases h) (by rw [rf htgnb hhead]; exact hn0) (by rw [oJ htgnb hhead]; exact hf)
    rw [List.append_assoc] at this
    exact .inr this
 rw [List.set_append_right _ _ (by omega)]
 obtain ⟨q, rfl⟩ : ∃ q, j = (flat xs).length + q := ⟨j - (flat xs).length, by omega⟩
 rw [Nat.add_sub_cancel_left]
 have hq : q = 0 ∨ q = 1 := by simp at hi; omega
 rcases hq with rfl | rfl
 ·-- the '/'
  rw [List.set_cons_zero]
  have hlast : (tg ++ (flat xs ++ [c])).getLast? ≠ some 47 := by
   rw [← List.append_assoc, List.getLast?_concat]
   simpa using c47
  have e0 : 60 :: (tg ++ (flat xs ++ c :: [62])) = 60 :: ((tg ++ (flat xs ++ [c])) ++ mF false) := by simp [mF]
  cases hb : Pl.iR c with
  | true =>
   refine AO h ?_ (oL (rO hb))
   exact rU (sp := [c]) (cl := false) (qY hb)
  | false =>
   cases hxs : xs with
   | nil =>
    rw [hxs] at hlast e0
    have bad : Pl.jV c = false → fits (60 :: (tg ++ (flat [] ++ c :: [62]))) := by
     intro hsm
     rw [e0]
     have hall : ∀ x ∈ tg ++ (flat [] ++ [c]), nbB x = true := fun x hx => by
      rcases List.mem_append.1 hx with hx | hx
      ·exact htgnb x hx
      ·obtain rfl : x = c := by simpa [flat] using hx
       exact CO hb
     refine .inr (wM (fun _ => hlast) ?_)
     have := rf (p := nbB) (b := []) hall (fun c hc => by cases hc)
     rw [List.append_nil] at this
     rw [this]
     exact wG ⟨c, by simp, hsm⟩
    rcases hc with hb' | rfl | rfl | rfl
    ·rw [hb'] at hb; cases hb
    ·refine .inl ?_
     have := wZ (tg := tg ++ [97]) (x := [62]) (fun x hx => by
      rcases List.mem_append.1 hx with hx | hx
      ·exact h.small x hx
      ·obtain rfl : x = 97 := by simpa using hx
       decide) (by simp) (oL (by decide)) (rU (sp := []) (cl := false) (fun c hc => by cases hc))
     simpa [flat] using this
    ·exact bad (by decide)
    ·exact bad (by decide)
   | cons z xs' =>
    rw [← hxs, e0]
    have hhd : heads nbB (flat xs ++ [c]) := fun x hx => by
     rw [hxs] at hx
     obtain ⟨n, v⟩ := z
     rw [flat] at hx
     exact oL (by decide) x hx
    refine .inr (zu (fun _ => hlast) (by rw [rf htgnb hhd]; exact hn0) ?_)
    rw [oJ htgnb hhd]
    exact o7 (Ah (rH hb) xs h.good)
 ·-- the '>'
  rw [List.set_cons_succ, List.set_cons_zero]
  refine .inr (Ap ?_)
  rw [show 60 :: (tg ++ (flat xs ++ [47, c])) = (60 :: (tg ++ (flat xs ++ [47]))) ++ [c] by simp, List.getLast?_concat]
  simpa using c62
end
theorem ES (l : List UInt8) : strOfNums (l.map fun b => (b.toNat : Int)) = bA l := GM l
theorem Ir (l : List UInt8) : bytesOf (bA l) = l.map fun b => (b.toNat : Int) := rfl
theorem zA {l : List ByteArray} {w : Int} (h0 : 0 ≤ w) (h1 : w < l.length) : jG ByteArray.empty l w ∈ l := by
 unfold jG
 rw [List.getD_eq_getElem?_getD, List.getElem?_eq_getElem (by omega)]
 exact List.getElem_mem _
def Gm (v : List UInt8) : Prop := ∀ c ∈ v, Pl.nJ c = true ∧ c ≠ 61
theorem DT (c : List Int) (hc : codeOk c) (a : Int) (h0 : 0 ≤ a) (h1 : a ≤ 100000) : ∃ (v : List UInt8) (a' : Int), v.length ≤ 7 ∧ Gm v ∧ a ≤ a' ∧ a' ≤ a + 10 ∧ Ev (fun k => iD.f k c a) (bA v, a') := by
 have main : ∀ d n : Nat, n = d → ∀ (x : List UInt8) (a : Int), Gm x → 0 ≤ a → a + n ≤ 200000 → x.length + n ≤ 7 → ∃ (v : List UInt8) (a' : Int), v.length ≤ 7 ∧ Gm v ∧ a ≤ a' ∧ a' ≤ a + n ∧ Ev (fun k => iD.l0 k (x.map fun b => (b.toNat : Int)) (n : Int) c a) (bA v, a') := by
  intro d
  induction d with
  | zero =>
   intro n hn x a hx h0 h1 h2
   subst hn
   refine ⟨x, a, by omega, hx, by omega, by omega, Ev.step (fun k => by rw [iD.l0]) (Pl.fG (by omega) ?_)⟩
   rw [ES]
   exact Ev.now _
  | succ d ih =>
   intro n hn x a hx h0 h1 h2
   subst hn
   obtain ⟨u, eu, hu⟩ := AB hc a (by omega) (by omega) [97, 98, 60, 62, 38, 34, 39, 32] (by simp) (by simp)
   have hb : ∃ b : UInt8, Pl.nJ b = true ∧ b ≠ 61 ∧ u % 256 = (b.toNat : Int) := by
    simp only [List.mem_cons, List.not_mem_nil, or_false] at hu
    rcases hu with rfl | rfl | rfl | rfl | rfl | rfl | rfl | rfl
    ·exact ⟨97, by decide, by decide, by decide⟩
    ·exact ⟨98, by decide, by decide, by decide⟩
    ·exact ⟨60, by decide, by decide, by decide⟩
    ·exact ⟨62, by decide, by decide, by decide⟩
    ·exact ⟨38, by decide, by decide, by decide⟩
    ·exact ⟨34, by decide, by decide, by decide⟩
    ·exact ⟨39, by decide, by decide, by decide⟩
    ·exact ⟨32, by decide, by decide, by decide⟩
   obtain ⟨b, b1, b2, b3⟩ := hb
   obtain ⟨v, a', q1, q2, q3, q4, q5⟩ := ih d rfl (x ++ [b]) (a + 1) (fun y hy => by
    rcases List.mem_append.1 hy with h | h
    ·exact hx y h
    ·obtain rfl : y = b := by simpa using h
     exact ⟨b1, b2⟩) (by omega) (by omega) (by rw [List.length_append]; show x.length + 1 + d ≤ 7; omega)
   refine ⟨v, a', q1, q2, by omega, by omega, Ev.step (fun k => by rw [iD.l0]) (Pl.fA (by omega) ?_)⟩
   rw [eu]
   simp only [Option.bind_some]
   rw [Pl.wrap_in (by omega) (by omega), show ((d + 1 : Nat) : Int) - 1 = (d : Int) by omega, b3]
   refine Pl.fA (by rw [List.length_map]; omega) ?_
   rw [List.map_append] at q5
   exact q5
 unfold iD.f
 obtain ⟨w, e, v0, v1⟩ := oH hc a h0 (by omega) 8 (by omega) (by omega)
 obtain ⟨n, rfl⟩ : ∃ n : Nat, w = n := ⟨w.toNat, by omega⟩
 obtain ⟨v, a', q1, q2, q3, q4, q5⟩ := main n n rfl [] (a + 1) (fun y hy => by cases hy) (by omega) (by omega) (by show 0 + n ≤ 7; omega)
 refine ⟨v, a', q1, q2, by omega, by omega, ?_⟩
 rw [e]
 simp only [Option.bind_some]
 exact q5
theorem Af {l : List At} {s : List UInt8} : ∀ i : Nat, nz l s i < 0 → ∀ y ∈ l, y.f0.toList ≠ s := by
 induction l with
 | nil => intro i _ y hy; cases hy
 | cons z l ih =>
  intro i h y hy
  rw [nz] at h
  by_cases hz : z.f0.toList = s
  ·rw [if_pos hz] at h; omega
  ·rw [if_neg hz] at h
   rcases List.mem_cons.1 hy with rfl | hy
   ·exact hz
   ·exact ih (i + 1) h y hy
theorem uQ (c : List Int) (hc : codeOk c) (a : Int) (h0 : 0 ≤ a) (h1 : a ≤ 90000) (par : Int) : ∃ (tg : List UInt8) (xs : Prs) (a' : Int), xX tg xs ∧ a ≤ a' ∧ a' ≤ a + 50 ∧ Ev (fun k => gu.f k c a par) (bA tg, par, xs.map toS, a') := by
 unfold gu.f oQ.f
 obtain ⟨w, e, w0, w1⟩ := oH hc a h0 (by omega) 5 (by omega) (by omega)
 obtain ⟨tg, ht, htg⟩ : ∃ tg : List UInt8, jG ByteArray.empty [(⟨#[97]⟩ : ByteArray), (⟨#[116, 97, 115, 107]⟩ : ByteArray), (⟨#[115, 101, 113]⟩ : ByteArray), (⟨#[105, 100]⟩ : ByteArray), (⟨#[98]⟩ : ByteArray)] w = bA tg ∧ (smalls tg ∧ tg ≠ [] ∧ tg.length ≤ 8) := by
  have hm := zA (l := [(⟨#[97]⟩ : ByteArray), (⟨#[116, 97, 115, 107]⟩ : ByteArray), (⟨#[115, 101, 113]⟩ : ByteArray), (⟨#[105, 100]⟩ : ByteArray), (⟨#[98]⟩ : ByteArray)]) w0 w1
  generalize jG ByteArray.empty [(⟨#[97]⟩ : ByteArray), (⟨#[116, 97, 115, 107]⟩ : ByteArray), (⟨#[115, 101, 113]⟩ : ByteArray), (⟨#[105, 100]⟩ : ByteArray), (⟨#[98]⟩ : ByteArray)] w = x at hm ⊢
  simp only [List.mem_cons, List.not_mem_nil, or_false] at hm
  rcases hm with rfl | rfl | rfl | rfl | rfl
  ·exact ⟨[97], rfl, by unfold smalls; decide⟩
  ·exact ⟨[116, 97, 115, 107], rfl, by unfold smalls; decide⟩
  ·exact ⟨[115, 101, 113], rfl, by unfold smalls; decide⟩
  ·exact ⟨[105, 100], rfl, by unfold smalls; decide⟩
  ·exact ⟨[98], rfl, by unfold smalls; decide⟩
 have loop : ∀ d n : Nat, n = d → ∀ (xs : Prs) (a : Int), 0 ≤ a → a + 20 * n ≤ 95000 → xs.length + n ≤ 2 → (∀ q ∈ xs, uJ q) → xs.Pairwise (fun x y => x.1 ≠ y.1) → ∃ (ys : Prs) (a' : Int), ys.length ≤ 2 ∧ (∀ q ∈ ys, uJ q) ∧ ys.Pairwise (fun x y => x.1 ≠ y.1) ∧ a ≤ a' ∧ a' ≤ a + 20 * n ∧ Ev (fun k => gu.l0 k (n : Int) c a (bA tg) par (xs.map toS)) (bA tg, par, ys.map toS, a') := by
  intro d
  induction d with
  | zero =>
   intro n hn xs a h0 h1 h2 hg hp
   subst hn
   exact ⟨xs, a, by omega, hg, hp, by omega, by omega, Ev.step (fun k => by rw [gu.l0]) (Pl.fG (by omega) (Ev.now _))⟩
  | succ d ih =>
   intro n hn xs a h0 h1 h2 hg hp
   subst hn
   obtain ⟨u, eu, u0, u1⟩ := oH hc a h0 (by omega) 3 (by omega) (by omega)
   obtain ⟨nm, hnm, hn1, hn2, hn8⟩ : ∃ nm : List UInt8, jG ByteArray.empty [(⟨#[120]⟩ : ByteArray), (⟨#[121]⟩ : ByteArray), (⟨#[105, 100]⟩ : ByteArray)] u = bA nm ∧ smalls nm ∧ nm ≠ [] ∧ nm.length ≤ 8 := by
    have hm := zA (l := [(⟨#[120]⟩ : ByteArray), (⟨#[121]⟩ : ByteArray), (⟨#[105, 100]⟩ : ByteArray)]) u0 u1
    generalize jG ByteArray.empty [(⟨#[120]⟩ : ByteArray), (⟨#[121]⟩ : ByteArray), (⟨#[105, 100]⟩ : ByteArray)] u = x at hm ⊢
    simp only [List.mem_cons, List.not_mem_nil, or_false] at hm
    rcases hm with rfl | rfl | rfl
    ·exact ⟨[120], rfl, by unfold smalls; decide⟩
    ·exact ⟨[121], rfl, by unfold smalls; decide⟩
    ·exact ⟨[105, 100], rfl, by unfold smalls; decide⟩
   obtain ⟨v, a1, q1, q2, q3, q4, q5⟩ := DT c hc (a + 1) (by omega) (by omega)
   have hat := uB (xs.map toS) (by rw [List.length_map]; omega) (bA nm)
   rw [sG] at hat
   have step : ∀ (zs : Prs) R, (if nz (xs.map toS) nm 0 < 0 then zs = xs ++ [(nm, v)] else zs = xs) → Ev (fun k => gu.l0 k (d : Int) c a1 (bA tg) par (zs.map toS)) R → Ev (fun k => gu.l0 k ((d + 1 : Nat) : Int) c a (bA tg) par (xs.map toS)) R := by
    intro zs R hz h
    refine Ev.step (fun k => by rw [gu.l0]) (Pl.fA (by omega) ?_)
    simp only [Option.bind_some]
    rw [eu]
    simp only [Option.bind_some]
    refine Pl.fA u0 (Pl.fA u1 ?_)
    rw [hnm]
    refine Pl.iw q5 (Pl.iw hat ?_)
    rw [Pl.wrap_in (by omega) (by omega), show ((d + 1 : Nat) : Int) - 1 = (d : Int) by omega]
    by_cases hf : nz (xs.map toS) nm 0 < 0
    ·rw [if_pos hf] at hz
     subst hz
     refine Pl.fA hf (Pl.fA (by rw [List.length_map]; omega) ?_)
     rw [List.map_append] at h
     exact h
    ·rw [if_neg hf] at hz
     subst hz
     exact Pl.fG hf h
   by_cases hf : nz (xs.map toS) nm 0 < 0
   ·have hne := Af 0 hf
    obtain ⟨ys, a', r1, r2, r3, r4, r5, r6⟩ := ih d rfl (xs ++ [(nm, v)]) a1 (by omega) (by omega) (by simp; omega) (fun q hq => by
     rcases List.mem_append.1 hq with h | h
     ·exact hg q h
     ·obtain rfl : q = (nm, v) := by simpa using h
      exact ⟨hn1, hn2, hn8, q1, q2⟩) (by
     rw [List.pairwise_append]
     refine ⟨hp, List.pairwise_singleton _ _, fun x hx y hy => ?_⟩
     obtain rfl : y = (nm, v) := by simpa using hy
     have := hne (toS x) (List.mem_map.2 ⟨x, hx, rfl⟩)
     unfold toS at this
     rwa [sG] at this)
    exact ⟨ys, a', r1, r2, r3, by omega, by omega, step _ _ (by rw [if_pos hf]) r6⟩
   ·obtain ⟨ys, a', r1, r2, r3, r4, r5, r6⟩ := ih d rfl xs a1 (by omega) (by omega) (by omega) hg hp
    exact ⟨ys, a', r1, r2, r3, by omega, by omega, step _ _ (by rw [if_neg hf]) r6⟩
 obtain ⟨u, eu, u0, u1⟩ := oH hc (a + 1) (by omega) (by omega) 3 (by omega) (by omega)
 obtain ⟨n, rfl⟩ : ∃ n : Nat, u = n := ⟨u.toNat, by omega⟩
 obtain ⟨ys, a', r1, r2, r3, r4, r5, r6⟩ := loop n n rfl [] (a + 1 + 1) (by omega) (by omega) (by show 0 + n ≤ 2; omega) (fun q hq => by cases hq) List.Pairwise.nil
 refine ⟨tg, ys, a', ⟨htg.1, htg.2.1, htg.2.2, r1, r2, r3⟩, by omega, by omega, ?_⟩
 simp only [Option.bind_some]
 rw [e]
 simp only [Option.bind_some]
 have w1' : w < (([(⟨#[97]⟩ : ByteArray), (⟨#[116, 97, 115, 107]⟩ : ByteArray), (⟨#[115, 101, 113]⟩ : ByteArray), (⟨#[105, 100]⟩ : ByteArray), (⟨#[98]⟩ : ByteArray)] : List ByteArray).length : Int) := w1
 rw [if_pos w0, if_pos w1', ht]
 simp only [Option.bind_some]
 rw [eu]
 simp only [Option.bind_some]
 exact r6
/-! the written mark -/
theorem wo (a b : List UInt8) : bA a ++ bA b = bA (a ++ b) := vJ a b
theorem Dn : ∀ xs : Prs, (∀ q ∈ xs, uJ q) → (flat xs).length ≤ 60 * xs.length
 | [], _ => by simp [flat]
 | (n, v) :: xs, h => by
  obtain ⟨h1, h2, h8, hv7, hvb⟩ := h (n, v) (List.mem_cons_self ..)
  have ih := Dn xs (fun q hq => h q (List.mem_cons_of_mem _ hq))
  have hE := (uT v).2
  have h8' : n.length ≤ 8 := h8
  have hv7' : v.length ≤ 7 := hv7
  rw [flat]
  simp only [List.length_cons, List.length_append]
  omega
theorem Hu {tg : List UInt8} {xs : Prs} (h : xX tg xs) : Ev (fun k => jg.f k [(⟨bA tg, -1, xs.map toS⟩ : StE)] 0) (bA (60 :: (tg ++ (flat xs ++ [47, 62])))) := by
 have hkids : oV [(⟨bA tg, -1, xs.map toS⟩ : StE)] 0 1 = [] := rfl
 have kids := Dq [(⟨bA tg, -1, xs.map toS⟩ : StE)] (by simp) 0
 rw [show [(⟨bA tg, -1, xs.map toS⟩ : StE)].length = 1 from rfl, hkids] at kids
 have hrd : fJ [(⟨bA tg, -1, xs.map toS⟩ : StE)] 0 = ⟨bA tg, -1, xs.map toS⟩ := rfl
 have tle := h.le
 have hone : (0 : Int) < ((([(⟨bA tg, -1, xs.map toS⟩ : StE)] : List StE).length : Nat) : Int) := by simp
 have hnil : ((([] : List Int).length : Nat) : Int) = 0 := rfl
 have main : ∀ (ys : Prs) (i : Nat) (A : List UInt8), xs.drop i = ys → i ≤ xs.length → A.length + 60 * ys.length ≤ 1000 → (∀ q ∈ ys, uJ q) → Ev (fun k => jC.l0 k [(⟨bA tg, -1, xs.map toS⟩ : StE)] 0 (bA A) (i : Int)) (bA (A ++ (flat ys ++ [47, 62]))) := by
  intro ys
  induction ys with
  | nil =>
   intro i A hd hi hA hg
   have hil : i = xs.length := by
    have := congrArg List.length hd
    rw [List.length_drop] at this
    simp at this
    omega
   refine Ev.step (fun k => by rw [jC.l0]) (Pl.fA (by omega) (Pl.fA hone (Pl.fG (by rw [hrd, List.length_map]; omega) (Pl.iw kids (Pl.fA hnil (Pl.fA ?_ (Pl.lJ (Ev.now _) ?_)))))))
   ·rw [nV]; simp at hA; omega
   ·exact wo A [47, 62]
  | cons q ys ih =>
   intro i A hd hi hA hg
   obtain ⟨n, v⟩ := q
   obtain ⟨h1, h2, h8, hv7, hvb⟩ := hg (n, v) (List.mem_cons_self ..)
   have h8' : n.length ≤ 8 := h8
   have hv7' : v.length ≤ 7 := hv7
   have hE := (uT v).2
   simp only [List.length_cons] at hA
   have hil : i < xs.length := by
    have := congrArg List.length hd
    rw [List.length_drop] at this
    simp at this
    omega
   have hxi : xs[i] = (n, v) ∧ xs.drop (i + 1) = ys := by
    rw [List.drop_eq_getElem_cons hil] at hd
    injection hd with e1 e2
    exact ⟨e1, e2⟩
   have hat : iU (xs.map toS) (i : Int) = ⟨bA n, bA v⟩ := by
    rw [qg _ i (by rw [List.length_map]; exact hil), List.getElem_map, hxi.1]
    rfl
   have esc := Eg (bA v) (by rw [nV]; omega)
   rw [show zS (bA v) = bA (nR v) from rfl] at esc
   have e1 : bA A ++ (⟨#[32]⟩ : ByteArray) = bA (A ++ [32]) := wo A [32]
   refine Ev.step (fun k => by rw [jC.l0]) (Pl.fA (by omega) (Pl.fA hone (Pl.fA (by rw [hrd, List.length_map]; omega) ?_)))
   rw [hrd]
   simp only [hat]
   rw [e1, wo]
   have e2 : bA (A ++ [32] ++ n) ++ (⟨#[61, 34]⟩ : ByteArray) = bA (A ++ [32] ++ n ++ [61, 34]) := wo _ [61, 34]
   rw [e2]
   refine Pl.fA (by rw [nV]; omega) (Pl.fA (by omega) (Pl.fA (by rw [nV, nV]; simp; omega) (Pl.fA (by rw [nV]; simp; omega) (Pl.iw esc ?_))))
   rw [wo]
   have e3 : bA (A ++ [32] ++ n ++ [61, 34] ++ nR v) ++ (⟨#[34]⟩ : ByteArray) = bA (A ++ [32] ++ n ++ [61, 34] ++ nR v ++ [34]) := wo _ [34]
   rw [e3]
   refine Pl.fA (by rw [nV, nV]; simp; omega) (Pl.fA (by rw [nV]; simp; omega) ?_)
   rw [Pl.kV (show i < 9223372036854775807 by have := h.two; omega)]
   have := ih (i + 1) (A ++ [32] ++ n ++ [61, 34] ++ nR v ++ [34]) hxi.2 (by omega) (by simp; omega) (fun q hq => hg q (List.mem_cons_of_mem _ hq))
   rw [show A ++ [32] ++ n ++ [61, 34] ++ nR v ++ [34] ++ (flat ys ++ [47, 62]) = A ++ (flat ((n, v) :: ys) ++ [47, 62]) by simp [flat]] at this
   exact this
 have mark : Ev (fun k => jC.f k [(⟨bA tg, -1, xs.map toS⟩ : StE)] 0) (bA (60 :: (tg ++ (flat xs ++ [47, 62])))) := by
  unfold jC.f
  have e0 : (⟨#[60]⟩ : ByteArray) ++ bA tg = bA (60 :: tg) := wo [60] tg
  have := main xs 0 (60 :: tg) rfl (Nat.zero_le _) (by have := h.two; simp; omega) h.good
  refine Pl.fA (by omega) (Pl.fA hone (Pl.fA ?_ ?_))
  ·show 1 + (bA tg).size ≤ _
   rw [nV]; omega
  ·rw [hrd]
   show Ev (fun k => jC.l0 k _ 0 ((⟨#[60]⟩ : ByteArray) ++ bA tg) 0) _
   rw [e0]
   exact this
 refine Ev.step (fun k => by rw [jg.f]) (Pl.fA (by omega) (Pl.fA hone (Pl.iw mark (Pl.iw kids ?_))))
 exact Pl.fA hnil (Ev.now _)
theorem DC (c : List Int) (hc : codeOk c) : ∃ m : ByteArray, (m.size ≤ 600 → fits m.data.toList) ∧ Ev (fun k => jL.f k c) m := by
 unfold jL.f
 have es : lZ.f c = some (c, 0) := rfl
 rw [es]
 simp only [Option.bind_some]
 obtain ⟨tg, xs, a, hD, a0, a1, de⟩ := uQ c hc 0 (by omega) (by omega) (-1)
 obtain ⟨u, eu, u0, u1⟩ := oH hc a (by omega) (by omega) 7 (by omega) (by omega)
 obtain ⟨T, hT⟩ : ∃ T, 60 :: (tg ++ (flat xs ++ [47, 62])) = T := ⟨_, rfl⟩
 have wr := Hu hD
 rw [hT] at wr
 have hTl : T.length = tg.length + (flat xs).length + 3 := by rw [← hT]; simp; omega
 have hfl := Dn xs hD.good
 have htl := hD.le
 have htw := hD.two
 -- what the text is turned to
 have turn : ∃ (M : List UInt8) (a' : Int), fits M ∧ 0 ≤ a' ∧ a' ≤ 1000 ∧ CV c (a + 1) u (bA T) = some (M.map (fun b => (b.toNat : Int)), a') := by
  unfold CV
  rw [Ir, nV]
  by_cases c0 : u = 0
  ·rw [if_pos c0]
   obtain ⟨i, ei, i0, i1⟩ := oH hc (a + 1) (by omega) (by omega) (T.length : Int) (by omega) (by omega)
   obtain ⟨d, ed, hd⟩ := AB hc (a + 1 + 1) (by omega) (by omega) [32, 34, 61, 97, 10] (by simp) (by simp)
   rw [ei]
   simp only [Option.bind_some]
   rw [ed]
   simp only [Option.bind_some]
   rw [if_pos ⟨i0, i1⟩]
   obtain ⟨n, rfl⟩ : ∃ n : Nat, i = n := ⟨i.toNat, by omega⟩
   have hb : ∃ b : UInt8, okT b ∧ d % 256 = (b.toNat : Int) := by
    simp only [List.mem_cons, List.not_mem_nil, or_false] at hd
    rcases hd with rfl | rfl | rfl | rfl | rfl
    ·exact ⟨32, .inl (by decide), by decide⟩
    ·exact ⟨34, .inr (.inr (.inl rfl)), by decide⟩
    ·exact ⟨61, .inr (.inr (.inr rfl)), by decide⟩
    ·exact ⟨97, .inr (.inl rfl), by decide⟩
    ·exact ⟨10, .inl (by decide), by decide⟩
   obtain ⟨b, hb, e⟩ := hb
   refine ⟨T.set n b, a + 1 + 1 + 1, ?_, by omega, by omega, ?_⟩
   ·rw [← hT]
    exact IK hD n (by rw [hT]; omega) b hb
   ·rw [e, Int.toNat_natCast, List.map_set]
  rw [if_neg c0]
  have h2 : T.take (T.length - 2) = 60 :: (tg ++ flat xs) := by
   rw [← hT]
   rw [show 60 :: (tg ++ (flat xs ++ [47, 62])) = (60 :: (tg ++ flat xs)) ++ [47, 62] by simp, List.take_append_of_le_length (by simp only [List.length_cons, List.length_append, List.length_nil]; omega), List.take_of_length_le (by simp only [List.length_cons, List.length_append, List.length_nil]; omega)]
  by_cases c1 : u = 1
  ·rw [if_pos c1, if_pos (by omega)]
   refine ⟨60 :: (tg ++ (flat xs ++ [62])), a + 1, Cf hD false, by omega, by omega, ?_⟩
   rw [← List.map_take, h2]
   simp
  rw [if_neg c1]
  by_cases c2 : u = 2
  ·rw [if_pos c2]
   obtain ⟨i, ei, i0, i1⟩ := oH hc (a + 1) (by omega) (by omega) (T.length : Int) (by omega) (by omega)
   rw [ei]
   simp only [Option.bind_some]
   rw [if_pos ⟨i0, by omega⟩]
   obtain ⟨n, rfl⟩ : ∃ n : Nat, i = n := ⟨i.toNat, by omega⟩
   refine ⟨T.take n, a + 1 + 1, ?_, by omega, by omega, ?_⟩
   ·rw [← hT]
    exact Gl hD n (by rw [hT]; omega)
   ·rw [Int.toNat_natCast, List.map_take]
  rw [if_neg c2]
  by_cases c3 : u = 3
  ·rw [if_pos c3, if_pos (by omega)]
   refine ⟨60 :: (tg ++ (flat xs ++ [32, 10, 32, 120, 61, 34, 49, 34, 32, 32, 47, 62])), a + 1, Fb hD, by omega, by omega, ?_⟩
   rw [← List.map_take, h2]
   simp
  rw [if_neg c3]
  refine ⟨T, a + 1, ?_, by omega, by omega, rfl⟩
  rw [← hT]
  exact Cf hD true
 obtain ⟨M, a', hM, a0', a1', ht⟩ := turn
 obtain ⟨v, ev, v0, v1⟩ := oH hc a' a0' (by omega) 40 (by omega) (by omega)
 have ech : lF.f c a' 40 = some (v == 0, a' + 1) := by
  unfold lF.f
  rw [ev, Option.bind_some]
 refine ⟨if (v == 0) = true then strOfNums (List.replicate 601 0) else bA M, fun hz => ?_, Pl.iw de (Pl.iw wr ?_)⟩
 ·by_cases hv : (v == 0) = true
  ·rw [if_pos hv, strOfNums_size, List.length_replicate] at hz
   omega
  ·rw [if_neg hv, sD]
   exact hM
 ·rw [eu]
  simp only [Option.bind_some]
  refine Pl.fA (by rw [nV]; omega) ?_
  rw [ht]
  simp only [Option.bind_some]
  rw [ech]
  simp only [Option.bind_some]
  rw [ES]
  exact Ev.now _
def szE (e : StE) : Prop := e.f0.size ≤ 1048576 ∧ okA e.f2
def szL (p : List StE) : Prop := ∀ e ∈ p, szE e
theorem FO {p : List StE} (h : szL p) : BA p := fun i hi => by
 have e : rdE p (i : Int) = p[i] := qO p i hi
 rw [e]
 exact h _ (List.getElem_mem _)
theorem yz {p : List StE} (h : szL p) (i : Nat) {e : StE} (he : szE e) : szL (p.set i e) := fun x hx => by
 rcases List.mem_or_eq_of_mem_set hx with hx | rfl
 ·exact h x hx
 ·exact he
theorem Eh {p : List StE} (h : szL p) {i : Int} (h0 : 0 ≤ i) (h1 : i < p.length) : szE (rdE p i) := by
 obtain ⟨n, rfl⟩ := Int.eq_ofNat_of_zero_le h0
 rw [show rdE p (n : Int) = p[n] from qO p n (by omega)]
 exact h _ (List.getElem_mem _)
theorem Am {tg : List UInt8} {xs : Prs} (h : xX tg xs) (par : Int) : szE (⟨bA tg, par, xs.map toS⟩ : StE) := by
 have tl := h.le
 have tw := h.two
 refine ⟨by show (bA tg).size ≤ _; rw [nV]; omega, by show (xs.map toS).length ≤ _; rw [List.length_map]; omega, fun y hy => ?_⟩
 obtain ⟨q, hq, rfl⟩ := List.mem_map.1 hy
 obtain ⟨_, _, h8, h7, _⟩ := h.good q hq
 exact ⟨by show (bA q.1).size ≤ _; rw [nV]; omega, by show (bA q.2).size ≤ _; rw [nV]; omega⟩
theorem BZ (p : List StE) (e : StE) (j : Nat) (hj : j < p.length) : prE (p ++ [e]) (j : Int) = prE p (j : Int) := by
 show (fJ (p ++ [e]) (j : Int)).f1 = (fJ p (j : Int)).f1
 rw [qO _ j (by simp; omega), qO p j hj, List.getElem_append_left hj]
theorem Dh (p : List StE) (e : StE) : prE (p ++ [e]) (p.length : Int) = e.f1 := by
 show (fJ (p ++ [e]) (p.length : Int)).f1 = _
 rw [qO _ p.length (by simp)]
 simp
def szR (p : List StE) : Prop := ∀ e ∈ p, szE e ∧ e.f2.length ≤ 2
theorem Ha (c : List Int) (hc : codeOk c) : ∃ (p : List StE) (a : Int), szR p ∧ 1 ≤ p.length ∧ p.length ≤ 8 ∧ 0 ≤ a ∧ a ≤ 5000 ∧ Ev (fun k => gJ.f k c 0) (p, a) := by
 -- the way up
 have up : ∀ (p : List StE), nX p p.length → p.length ≤ 8 → ∀ (d : Nat) (x x4 a : Int), x.toNat = d → 0 ≤ x → x < p.length → 0 ≤ a → a + d ≤ 50000 → ∃ x' a' : Int, 0 ≤ x' ∧ x' < p.length ∧ a ≤ a' ∧ a' ≤ a + d ∧ ∀ R, Ev (fun k => gJ.j2 k p x4 x' c a') R → Ev (fun k => gJ.l1 k p x4 x c a) R := by
  intro p ht hl d
  induction d using Nat.strongRecOn with
  | _ d ih =>
   intro x x4 a hd h0 h1 ha0 ha1
   by_cases hx : x > 0
   ·obtain ⟨w, ew, w0, w1⟩ := oH hc a ha0 (by omega) 2 (by omega) (by omega)
    have ech : lF.f c a 2 = some (w == 0, a + 1) := by
     unfold lF.f
     rw [ew, Option.bind_some]
    by_cases hw : (w == 0) = true
    ·have hp : 0 ≤ prE p x ∧ prE p x < x := by
      obtain ⟨n, rfl⟩ := Int.eq_ofNat_of_zero_le h0
      have := (ht n (by omega)).2 (by omega)
      omega
     obtain ⟨x', a', q1, q2, q3, q4, q5⟩ := ih (prE p x).toNat (by omega) (prE p x) x4 (a + 1) rfl hp.1 (by omega) (by omega) (by omega)
     refine ⟨x', a', q1, q2, by omega, by omega, fun R h => ?_⟩
     refine Ev.step (fun k => by rw [gJ.l1]) (Pl.fA hx ?_)
     rw [ech]
     simp only [Option.bind_some]
     exact Pl.fA hw (Pl.fA h0 (Pl.fA h1 (q5 R h)))
    ·refine ⟨x, a + 1, h0, h1, by omega, by omega, fun R h => ?_⟩
     refine Ev.step (fun k => by rw [gJ.l1]) (Pl.fA hx ?_)
     rw [ech]
     simp only [Option.bind_some]
     exact Pl.fG hw h
   ·exact ⟨x, a, h0, h1, by omega, by omega, fun R h => Ev.step (fun k => by rw [gJ.l1]) (Pl.fG hx h)⟩
 have loop : ∀ d n : Nat, n = d → ∀ (p : List StE) (a : Int), nX p p.length → szR p → 1 ≤ p.length → p.length + n ≤ 8 → 0 ≤ a → a + 100 * n ≤ 5000 → ∃ (p' : List StE) (a' : Int), szR p' ∧ 1 ≤ p'.length ∧ p'.length ≤ 8 ∧ 0 ≤ a' ∧ a' ≤ 5000 ∧ Ev (fun k => gJ.l0 k p (n : Int) c a) (p', a') := by
  intro d
  induction d with
  | zero =>
   intro n hn p a ht hs h1 h2 h3 h4
   subst hn
   exact ⟨p, a, hs, h1, by omega, h3, by omega, Ev.step (fun k => by rw [gJ.l0]) (Pl.fG (by omega) (Ev.now _))⟩
  | succ d ih =>
   intro n hn p a ht hs h1 h2 h3 h4
   subst hn
   obtain ⟨x', a1, q1, q2, q3, q4, q5⟩ := up p ht (by omega) ((p.length : Int) - 1).toNat ((p.length : Int) - 1) ((d + 1 : Nat) : Int) a rfl (by omega) (by omega) h3 (by omega)
   have hdl := uz ht (x'.toNat + 1) x' rfl (by omega) q2
   have hdeep := wX ht (Nat.le_refl _) (by omega) (x'.toNat + 1) x' rfl (by omega) q2 0 (by omega) (by omega)
   rw [Int.zero_add] at hdeep
   have enter : ∀ R, Ev (fun k => if oZ p x' < 8 then ((gu.f k c a1 x').bind fun bt163 => (if p.length < 2932031007402 then (gJ.l0 k (p ++ [(⟨bt163.1, bt163.2.1, bt163.2.2.1⟩ : StE)]) (d : Int) c bt163.2.2.2) else (none))) else (gJ.l0 k p (d : Int) c a1)) R → Ev (fun k => gJ.l0 k p ((d + 1 : Nat) : Int) c a) R := by
    intro R h
    refine Ev.step (fun k => by rw [gJ.l0]) (Pl.fA (by omega) ?_)
    rw [Pl.wrap_in (x := (p.length : Int) - 1) (by omega) (by omega)]
    refine q5 R (Ev.step (fun k => by rw [gJ.j2]) ?_)
    rw [Pl.wrap_in (x := ((d + 1 : Nat) : Int) - 1) (by omega) (by omega), show ((d + 1 : Nat) : Int) - 1 = (d : Int) by omega]
    refine Pl.iw (a := oZ p x') ?_ h
    unfold ja.f
    exact hdeep
   by_cases h8 : oZ p x' < 8
   ·obtain ⟨tg, xs, a2, hD, r1, r2, r3⟩ := uQ c hc a1 (by omega) (by omega) x'
    have ht' : nX (p ++ [(⟨bA tg, x', xs.map toS⟩ : StE)]) (p ++ [(⟨bA tg, x', xs.map toS⟩ : StE)]).length := by
     intro j hj
     rw [List.length_append] at hj
     by_cases hjp : j < p.length
     ·rw [BZ p _ j hjp]
      exact ht j hjp
     ·obtain rfl : j = p.length := by simp at hj; omega
      rw [Dh]
      exact ⟨fun h => by omega, fun _ => ⟨q1, by show x' ≤ _; omega⟩⟩
    have hs' : szR (p ++ [(⟨bA tg, x', xs.map toS⟩ : StE)]) := fun e he => by
     rcases List.mem_append.1 he with he | he
     ·exact hs e he
     ·obtain rfl : e = _ := by simpa using he
      exact ⟨Am hD x', by show (xs.map toS).length ≤ 2; rw [List.length_map]; exact hD.two⟩
    obtain ⟨p', a', s1, s2, s3, s4, s5, s6⟩ := ih d rfl (p ++ [(⟨bA tg, x', xs.map toS⟩ : StE)]) a2 ht' hs' (by simp) (by simp; omega) (by omega) (by omega)
    exact ⟨p', a', s1, s2, s3, s4, s5, enter _ (Pl.fA h8 (Pl.iw r3 (Pl.fA (by omega) s6)))⟩
   ·obtain ⟨p', a', s1, s2, s3, s4, s5, s6⟩ := ih d rfl p a1 ht hs h1 (by omega) (by omega) (by omega)
    exact ⟨p', a', s1, s2, s3, s4, s5, enter _ (Pl.fG h8 s6)⟩
 unfold gJ.f
 obtain ⟨tg, xs, a, hD, r1, r2, r3⟩ := uQ c hc 0 (by omega) (by omega) (-1)
 obtain ⟨u, eu, u0, u1⟩ := oH hc a (by omega) (by omega) 8 (by omega) (by omega)
 obtain ⟨n, rfl⟩ : ∃ n : Nat, u = n := ⟨u.toNat, by omega⟩
 obtain ⟨p', a', s1, s2, s3, s4, s5, s6⟩ := loop n n rfl [(⟨bA tg, -1, xs.map toS⟩ : StE)] (a + 1) (fun j hj => by
  obtain rfl : j = 0 := by simp at hj; exact hj
  exact ⟨fun _ => rfl, fun h => absurd h (by omega)⟩) (fun e he => by
  obtain rfl : e = _ := by simpa using he
  exact ⟨Am hD (-1), by show (xs.map toS).length ≤ 2; rw [List.length_map]; exact hD.two⟩) (by simp) (by simp; omega) (by omega) (by omega)
 refine ⟨p', a', s1, s2, s3, s4, s5, Pl.iw r3 ?_⟩
 rw [eu]
 simp only [Option.bind_some]
 exact s6
theorem Dp (c : List Int) (hc : codeOk c) : ∃ p : List StE, p.length ≤ 1048576 ∧ BA p ∧ Ev (fun k => jH.f k c) p := by
 suffices h : ∃ (p : List StE) (a : Int), p.length ≤ 1048576 ∧ szL p ∧ Ev (fun k => lV.f k c 0) (p, a) by
  obtain ⟨p, a, h1, h2, h3⟩ := h
  refine ⟨p, h1, FO h2, ?_⟩
  unfold jH.f
  have es : lZ.f c = some (c, 0) := rfl
  rw [es]
  simp only [Option.bind_some]
  exact Pl.iw h3 (Ev.now _)
 obtain ⟨p, a, sR, s2, s3, s4, s5, s6⟩ := Ha c hc
 have s1 : szL p := fun e he => (sR e he).1
 unfold lV.f
 obtain ⟨u, eu, u0, u1⟩ := oH hc a (by omega) (by omega) 14 (by omega) (by omega)
 have small0 : szE (rdE p 0) := Eh s1 (by omega) (by omega)
 by_cases c0 : u = 0
 ·obtain ⟨i, ei, i0, i1⟩ := oH hc (a + 1) (by omega) (by omega) (p.length : Int) (by omega) (by omega)
  obtain ⟨d, ed, hd⟩ := AB hc (a + 1 + 1) (by omega) (by omega) [-1, 0, 5, 40] (by simp) (by simp)
  have hz := Eh s1 i0 i1
  refine ⟨p.set i.toNat (⟨(rdE p i).f0, d, (rdE p i).f2⟩ : StE), a + 1 + 1 + 1, by rw [List.length_set]; omega, yz s1 _ ⟨hz.1, hz.2⟩, Pl.iw s6 ?_⟩
  simp only [eu, Option.bind_some]
  refine Pl.fA c0 ?_
  simp only [ei, ed, Option.bind_some]
  exact Pl.fA i0 (Pl.fA i1 (Ev.now _))
 by_cases c1 : u = 1
 ·obtain ⟨i, ei, i0, i1⟩ := oH hc (a + 1) (by omega) (by omega) (p.length : Int) (by omega) (by omega)
  obtain ⟨d, ed, d0, d1⟩ := oH hc (a + 1 + 1) (by omega) (by omega) 3 (by omega) (by omega)
  have hz := Eh s1 i0 i1
  have hm := zA (l := [(⟨#[]⟩ : ByteArray), (⟨#[65]⟩ : ByteArray), (⟨#[97, 98, 99, 100, 101, 102, 103, 104, 105]⟩ : ByteArray)]) d0 d1
  refine ⟨p.set i.toNat (⟨jG ByteArray.empty [(⟨#[]⟩ : ByteArray), (⟨#[65]⟩ : ByteArray), (⟨#[97, 98, 99, 100, 101, 102, 103, 104, 105]⟩ : ByteArray)] d, (rdE p i).f1, (rdE p i).f2⟩ : StE), a + 1 + 1 + 1, by rw [List.length_set]; omega, yz s1 _ ⟨?_, hz.2⟩, Pl.iw s6 ?_⟩
  ·show (jG ByteArray.empty _ d).size ≤ _
   generalize jG ByteArray.empty [(⟨#[]⟩ : ByteArray), (⟨#[65]⟩ : ByteArray), (⟨#[97, 98, 99, 100, 101, 102, 103, 104, 105]⟩ : ByteArray)] d = x at hm ⊢
   simp only [List.mem_cons, List.not_mem_nil, or_false] at hm
   rcases hm with rfl | rfl | rfl <;> decide
  ·simp only [eu, Option.bind_some]
   refine Pl.fG c0 (Pl.fA c1 ?_)
   simp only [ei, ed, Option.bind_some]
   exact Pl.fA d0 (Pl.fA d1 (Pl.fA i0 (Pl.fA i1 (Ev.now _))))
 by_cases c2 : u = 2
 ·have h6 : (rdE p 0).f2.length ≤ 2 := by
   rw [show rdE p 0 = p[0] from qO p 0 (by omega)]
   exact (sR _ (List.getElem_mem _)).2
  refine ⟨p.set (0 : Int).toNat (⟨(rdE p 0).f0, (rdE p 0).f1, (rdE p 0).f2 ++ [(⟨(⟨#[120]⟩ : ByteArray), (⟨#[10]⟩ : ByteArray)⟩ : At), (⟨(⟨#[120]⟩ : ByteArray), (⟨#[]⟩ : ByteArray)⟩ : At)]⟩ : StE), a + 1, by rw [List.length_set]; omega, ?_, Pl.iw s6 ?_⟩
  ·refine yz s1 _ ⟨small0.1, by rw [List.length_append]; simp; omega, fun y hy => ?_⟩
   rcases List.mem_append.1 hy with hy | hy
   ·exact small0.2.2 y hy
   ·simp only [List.mem_cons, List.not_mem_nil, or_false] at hy
    rcases hy with rfl | rfl <;> exact ⟨by decide, by decide⟩
  ·simp only [eu, Option.bind_some]
   refine Pl.fG c0 (Pl.fG c1 (Pl.fA c2 (Pl.fA (by omega) (Pl.fA ?_ (Ev.now _)))))
   show (rdE p 0).f2.length + 2 < _
   omega
 by_cases c3 : u = 3
 ·refine ⟨List.replicate 41 z33, a + 1, by rw [List.length_replicate]; omega, fun e he => ?_, Pl.iw s6 ?_⟩
  ·obtain rfl := (List.mem_replicate.1 he).2
   exact ⟨by decide, by decide, fun y hy => by cases hy⟩
  ·simp only [eu, Option.bind_some]
   exact Pl.fG c0 (Pl.fG c1 (Pl.fG c2 (Pl.fA c3 (Pl.fA (by omega) (Ev.now _)))))
 by_cases c4 : u = 4
 ·refine ⟨p.set (0 : Int).toNat (⟨(rdE p 0).f0, (rdE p 0).f1, List.replicate 7 z38⟩ : StE), a + 1, by rw [List.length_set]; omega, yz s1 _ ⟨small0.1, by show (List.replicate 7 _).length ≤ _; rw [List.length_replicate]; omega, fun y hy => ?_⟩, Pl.iw s6 ?_⟩
  ·obtain rfl := (List.mem_replicate.1 hy).2
   exact ⟨by decide, by decide⟩
  ·simp only [eu, Option.bind_some]
   exact Pl.fG c0 (Pl.fG c1 (Pl.fG c2 (Pl.fG c3 (Pl.fA c4 (Pl.fA (by omega) (Pl.fA (by omega) (Ev.now _)))))))
 ·refine ⟨p, a + 1, by omega, s1, Pl.iw s6 ?_⟩
  simp only [eu, Option.bind_some]
  exact Pl.fG c0 (Pl.fG c1 (Pl.fG c2 (Pl.fG c3 (Pl.fG c4 (Ev.now _)))))
end Go.Proofs.YtbibioffldkanaaGreatDoor.K
