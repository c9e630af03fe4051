/- What the program's picks of a code come to. No condition. The bytes that a text written with marks of its own stands for, step by step, in plain words: no program in sight. No condition. The program's and the reference's way through a text written with marks of its own: both go by the same steps. Condition: the text has at most 400 bytes. The written form of a text: the program's and the reference's code of a text, the reference's loop. No condition but the text's size. What is written of a text reads as that text; what is read is printable. Plain. No condition. EscapeText and UnescapeText of the program and of the reference, and that what is written reads as it was. Plain. No condition but the text's size. The draws that a law's own inputs are made of: each is a number below its bound. No condition. -/
import Derived.Test.YthoamjobclfjjaaGreatDoorXPure
import Derived.Test.YthoamjobclfjjaaGreatDoorK1
import Derived.Lib.IndexMore
import Derived.Lib.ParseIntB
import Derived.Test.YthoamjobclfjjaaGreatDoorKH
import Derived.Test.YthoamjobclfjjaaGreatDoorK2
import Derived.Test.YthoamjobclfjjaaGreatDoorK3
import Derived.Test.YthoamjobclfjjaaGreatDoorK5
import Derived.Test.YthoamjobclfjjaaGreatDoorK6
import Derived.Test.YthoamjobclfjjaaGreatDoorK4
namespace Go.Proofs.YthoamjobclfjjaaGreatDoor.K
set_option linter.unusedVariables false
set_option linter.unusedSimpArgs false
open Go.RowKit Go.Proofs.YthoamjobclfjjaaGreatDoor Go.Proofs.YthoamjobclfjjaaGreatDoorW.PrintWords Go.Proofs.YthoamjobclfjjaaGreatDoorW.PrintLast
theorem codeIf_eq (b : Bool) (c : Int) : impl_codeIf.f b c = some (if b = true then c else 0) := by
 unfold impl_codeIf.f
 cases b <;> rfl
theorem firstCode_l (l : List Int) (hl : l.length < 1000) : ∀ i, i ≤ l.length → Ev (fun k => impl_firstCode.l0 k l (l.length : Int) (i : Int)) (Pl.firstC (l.drop i)) := by
 refine Pl.loop0 (g := fun k i => impl_firstCode.l0 k l (l.length : Int) i) ?_ ?_
 ·refine Ev.step (fun k => by rw [impl_firstCode.l0]) ?_
  simp [Pl.ev_some, Pl.firstC]
 ·intro i hi ih
  refine Ev.step (fun k => by rw [impl_firstCode.l0]) ?_
  rw [Pl.drop_get hi]
  have e := Pl.rd_get l i hi
  simp only [Pl.ev_ite, Pl.ev_some, Pl.ev_none, Pl.firstC, e, Pl.wrap_nat (show i < 9223372036854775807 by omega)]
  rw [if_pos (by omega), if_pos (by omega), if_pos (by omega)]
  split
  ·exact ih
  ·rfl
theorem firstCode_ev (l : List Int) (hl : l.length < 1000) : Ev (fun k => impl_firstCode.f k l) (Pl.firstC l) := firstCode_l l hl 0 (Nat.zero_le _)
theorem index_cons (b : UInt8) (l : List UInt8) (c : UInt8) : Lib.index (b :: l) [c] = if b = c then 0 else if Lib.index l [c] = -1 then -1 else Lib.index l [c] + 1 := by
 have e : [c].isPrefixOf (b :: l) = (b == c) := by
  simp only [List.isPrefixOf, Bool.and_true]
  rw [Bool.eq_iff_iff]
  simp only [beq_iff_eq]
  exact eq_comm
 rw [Lib.index, e]
 simp only [beq_iff_eq]
theorem index_not : ∀ l : List UInt8, (59 : UInt8) ∉ l → Lib.index l [59] = -1
 | [], _ => rfl
 | b :: l, h => by
  rw [List.mem_cons, not_or] at h
  rw [index_cons, if_neg (fun e => h.1 e.symm), index_not l h.2, if_pos rfl]
theorem index_at : ∀ N r : List UInt8, (59 : UInt8) ∉ N → Lib.index (N ++ 59 :: r) [59] = (N.length : Int)
 | [], r, _ => by
  rw [List.nil_append, index_cons, if_pos rfl]
  rfl
 | b :: N, r, h => by
  rw [List.mem_cons, not_or] at h
  rw [List.cons_append, index_cons, if_neg (fun e => h.1 e.symm), index_at N r h.2, if_neg (by omega), List.length_cons]
  omega
theorem cut_not (l : List UInt8) (h : (59 : UInt8) ∉ l) : Lib.cut l [59] = (l, [], false) := by
 unfold Lib.cut
 rw [index_not l h]
 rfl
theorem cut_at (N r : List UInt8) (h : (59 : UInt8) ∉ N) : Lib.cut (N ++ 59 :: r) [59] = (N, r, true) := by
 unfold Lib.cut
 rw [index_at N r h, if_pos (by omega)]
 simp
theorem split59 (l : List UInt8) : (59 : UInt8) ∉ l ∨ ∃ N r, (59 : UInt8) ∉ N ∧ l = N ++ 59 :: r := by
 by_cases h : (59 : UInt8) ∈ l
 ·right
  obtain ⟨a, b, e, h⟩ := List.eq_append_cons_of_mem h
  exact ⟨a, b, h, e⟩
 ·exact .inl h
theorem app_inj : ∀ M N x r : List UInt8, (59 : UInt8) ∉ M → (59 : UInt8) ∉ N → M ++ 59 :: x = N ++ 59 :: r → M = N ∧ x = r
 | [], [], x, r, _, _, h => by simpa using h
 | [], b :: N, x, r, _, hN, h => by
  rw [List.nil_append, List.cons_append, List.cons.injEq] at h
  rw [List.mem_cons, not_or] at hN
  exact absurd h.1 hN.1
 | a :: M, [], x, r, hM, _, h => by
  rw [List.nil_append, List.cons_append, List.cons.injEq] at h
  rw [List.mem_cons, not_or] at hM
  exact absurd h.1.symm hM.1
 | a :: M, b :: N, x, r, hM, hN, h => by
  rw [List.cons_append, List.cons_append, List.cons.injEq] at h
  rw [List.mem_cons, not_or] at hM hN
  obtain ⟨rfl, e⟩ := app_inj M N x r hM.2 hN.2 h.2
  rw [h.1]
  exact ⟨rfl, e⟩
def vF (a : Nat) (d : List UInt8) : Nat := d.foldl (fun a c => a * 10 + (c.toNat - 48)) a
theorem vF_ge : ∀ (d : List UInt8) (a : Nat), a ≤ vF a d
 | [], a => Nat.le_refl _
 | c :: d, a => by
  have := vF_ge d (a * 10 + (c.toNat - 48))
  show a ≤ vF (a * 10 + (c.toNat - 48)) d
  omega
theorem vF_snoc (a : Nat) (d : List UInt8) (c : UInt8) : vF a (d ++ [c]) = vF a d * 10 + (c.toNat - 48) := by
 unfold vF
 rw [List.foldl_append]
 rfl
theorem dig_is {c : UInt8} (h : Pl.digitB c = true) : 48 ≤ c.toNat ∧ c.toNat ≤ 57 := of_decide_eq_true h
theorem vF_lt : ∀ (d : List UInt8) (a : Nat), d.all Pl.digitB = true → vF a d < (a + 1) * 10 ^ d.length
 | [], a, _ => by simp [vF]
 | c :: d, a, h => by
  rw [List.all_cons, Bool.and_eq_true] at h
  have hc := dig_is h.1
  have h1 := vF_lt d (a * 10 + (c.toNat - 48)) h.2
  show vF (a * 10 + (c.toNat - 48)) d < _
  refine Nat.lt_of_lt_of_le h1 ?_
  rw [List.length_cons, Nat.pow_succ, Nat.mul_comm (10 ^ d.length) 10, ← Nat.mul_assoc]
  exact Nat.mul_le_mul_right _ (by omega)
theorem pM_ok : ∀ (d : List UInt8) (a : Nat), d.all Pl.digitB = true → vF a d ≤ 60000 → Lib.parseUintM (2 ^ 16 - 1) a d = .ok (vF a d)
 | [], a, _, _ => rfl
 | c :: d, a, ha, hv => by
  rw [List.all_cons, Bool.and_eq_true] at ha
  have hc := dig_is ha.1
  have h1 := vF_ge d (a * 10 + (c.toNat - 48))
  have e : vF a (c :: d) = vF (a * 10 + (c.toNat - 48)) d := rfl
  rw [e] at hv ⊢
  rw [Lib.parseUintM, if_pos hc, if_neg (by omega), if_neg (by omega)]
  exact pM_ok d _ ha.2 hv
def numB (D : List UInt8) : Option UInt8 := if D ≠ [] ∧ D.length ≤ 3 ∧ D.all Pl.digitB = true ∧ 32 ≤ vF 0 D ∧ vF 0 D ≤ 126 then some (UInt8.ofNat (vF 0 D)) else none
def entB (N : List UInt8) : Option UInt8 :=
 if N = [108, 116] then some 60 else if N = [103, 116] then some 62 else if N = [97, 109, 112] then some 38 else if N = [113, 117, 111, 116] then some 34 else if N = [97, 112, 111, 115] then some 39 else
 match N with
 | [] => none
 | c :: D => if c = 35 then numB D else none
theorem entB_num (D : List UInt8) : entB (35 :: D) = numB D := by
 unfold entB
 rw [if_neg (by simp), if_neg (by simp), if_neg (by simp), if_neg (by simp), if_neg (by simp)]
 exact if_pos rfl
theorem entity_is (a0 : ByteArray) (hs : a0.size ≤ 281474976710656) : ∃ v : Int, impl_entity.f a0 = some (v, (entB a0.data.toList).isSome) ∧ ∀ c, entB a0.data.toList = some c → v = (c.toNat : Int) := by
 unfold impl_entity.f entB
 rw [Pl.toList_data]
 by_cases h1 : a0.data.toList = [108, 116]
 ·rw [if_pos h1, if_pos h1]
  exact ⟨60, rfl, fun c hc => by cases hc; rfl⟩
 rw [if_neg h1, if_neg h1]
 by_cases h2 : a0.data.toList = [103, 116]
 ·rw [if_pos h2, if_pos h2]
  exact ⟨62, rfl, fun c hc => by cases hc; rfl⟩
 rw [if_neg h2, if_neg h2]
 by_cases h3 : a0.data.toList = [97, 109, 112]
 ·rw [if_pos h3, if_pos h3]
  exact ⟨38, rfl, fun c hc => by cases hc; rfl⟩
 rw [if_neg h3, if_neg h3]
 by_cases h4 : a0.data.toList = [113, 117, 111, 116]
 ·rw [if_pos h4, if_pos h4]
  exact ⟨34, rfl, fun c hc => by cases hc; rfl⟩
 rw [if_neg h4, if_neg h4]
 by_cases h5 : a0.data.toList = [97, 112, 111, 115]
 ·rw [if_pos h5, if_pos h5]
  exact ⟨39, rfl, fun c hc => by cases hc; rfl⟩
 rw [if_neg h5, if_neg h5, if_pos hs]
 unfold entOk entD
 generalize a0.data.toList = N
 clear h1 h2 h3 h4 h5 hs
 cases N with
 | nil => exact ⟨_, rfl, fun c hc => by cases hc⟩
 | cons b D =>
  by_cases hb : b = 35
  ·subst hb
   have e1 : Lib.hasPrefix (35 :: D) [35] = true := by simp [Lib.hasPrefix, List.isPrefixOf]
   have e2 : Lib.trimPrefix (35 :: D) [35] = D := by unfold Lib.trimPrefix; rw [if_pos e1]; rfl
   rw [e1, e2]
   show ∃ v : Int, some (((entN D : Nat) : Int) % 256, _) = some (v, (numB D).isSome) ∧ ∀ c, numB D = some c → v = (c.toNat : Int)
   by_cases hD : D ≠ [] ∧ D.length ≤ 3 ∧ D.all Pl.digitB = true
   ·have hp : Lib.parseUintB 16 D = .ok (vF 0 D) := by
     unfold Lib.parseUintB
     rw [if_neg hD.1]
     have hlt := vF_lt D 0 hD.2.2
     have : 10 ^ D.length ≤ 10 ^ 3 := Nat.pow_le_pow_right (by omega) hD.2.1
     exact pM_ok D 0 hD.2.2 (by omega)
    have hn : entN D = vF 0 D := by unfold entN; rw [hp]
    have hP : entP D = true := by unfold entP; rw [hp]
    rw [hn, hP, decide_eq_true hD.2.1, hD.2.2]
    unfold numB
    by_cases hr : 32 ≤ vF 0 D ∧ vF 0 D ≤ 126
    ·rw [if_pos ⟨hD.1, hD.2.1, hD.2.2, hr⟩, decide_eq_true hr.1, decide_eq_true hr.2]
     refine ⟨_, rfl, fun c hc => ?_⟩
     obtain rfl : UInt8.ofNat (vF 0 D) = c := Option.some.inj hc
     rw [UInt8.toNat_ofNat_of_lt' (by show _ < 256; omega)]
     omega
    ·rw [if_neg (fun h => hr h.2.2.2)]
     refine ⟨((vF 0 D : Nat) : Int) % 256, ?_, fun c hc => by cases hc⟩
     congr 2
     by_cases h1 : 32 ≤ vF 0 D
     ·rw [decide_eq_true h1, decide_eq_false (fun h => hr ⟨h1, h⟩)]
      rfl
     ·rw [decide_eq_false h1]
      rfl
   ·have hn : numB D = none := by unfold numB; exact if_neg (fun h => hD ⟨h.1, h.2.1, h.2.2.1⟩)
    rw [hn]
    refine ⟨((entN D : Nat) : Int) % 256, ?_, fun c hc => by cases hc⟩
    congr 2
    by_cases h0 : D = []
    ·subst h0; rfl
    ·by_cases hl : D.length ≤ 3
     ·have ha : D.all Pl.digitB = false := by
       cases h : D.all Pl.digitB
       ·rfl
       ·exact absurd ⟨h0, hl, h⟩ hD
      rw [ha]
      simp
     ·rw [decide_eq_false hl]
      simp
  ·have e1 : Lib.hasPrefix (b :: D) [35] = false := by
    unfold Lib.hasPrefix
    rw [List.isPrefixOf, Bool.and_eq_false_iff]
    exact .inl (beq_eq_false_iff_ne.2 (Ne.symm hb))
   rw [e1]
   show ∃ v : Int, some (_, false) = some (v, (if b = 35 then numB D else none : Option UInt8).isSome) ∧ ∀ c, (if b = 35 then numB D else none) = some c → v = (c.toNat : Int)
   rw [if_neg hb]
   exact ⟨_, rfl, fun c hc => by cases hc⟩
def selfB (c : UInt8) : Bool := decide (32 ≤ c.toNat ∧ c.toNat ≤ 126 ∧ c.toNat ≠ 60 ∧ c.toNat ≠ 62 ∧ c.toNat ≠ 34)
def stepU : List UInt8 → Option (UInt8 × List UInt8)
 | [] => none
 | c :: t => if c = 38 then (if (Lib.cut t [59]).2.2 = true then (entB (Lib.cut t [59]).1).map (fun b => (b, (Lib.cut t [59]).2.1)) else none) else if selfB c = true then some (c, t) else none
theorem stepU_c (t : List UInt8) : stepU (38 :: t) = if (Lib.cut t [59]).2.2 = true then (entB (Lib.cut t [59]).1).map (fun b => (b, (Lib.cut t [59]).2.1)) else none := by
 rw [stepU, if_pos rfl]
theorem stepU_not {t : List UInt8} (h : (59 : UInt8) ∉ t) : stepU (38 :: t) = none := by
 rw [stepU_c, cut_not t h]
 rfl
theorem stepU_at {N r : List UInt8} (h : (59 : UInt8) ∉ N) : stepU (38 :: (N ++ 59 :: r)) = (entB N).map (fun b => (b, r)) := by
 rw [stepU_c, cut_at N r h]
 rfl
def oneR (l : List UInt8) : Int × Int := match stepU l with
 | none => (0, 0)
 | some (c, r) => ((c.toNat : Int), (l.length : Int) - (r.length : Int))
theorem stepU_less {l : List UInt8} {c : UInt8} {r : List UInt8} (h : stepU l = some (c, r)) : ∃ p, p ≠ [] ∧ l = p ++ r := by
 cases l with
 | nil => cases h
 | cons b t =>
  by_cases hb : b = 38
  ·subst hb
   rcases split59 t with h' | ⟨N, r', h', rfl⟩
   ·rw [stepU_not h'] at h; cases h
   ·rw [stepU_at h'] at h
    cases he : entB N with
    | none => rw [he] at h; cases h
    | some x =>
     rw [he] at h
     obtain ⟨rfl, rfl⟩ : x = c ∧ r' = r := by simpa using h
     exact ⟨38 :: (N ++ [59]), by simp, by simp⟩
  ·change (if b = 38 then _ else _) = _ at h
   rw [if_neg hb] at h
   by_cases hs : selfB b = true
   ·rw [if_pos hs] at h
    obtain ⟨rfl, rfl⟩ : b = c ∧ t = r := by simpa using h
    exact ⟨[b], by simp, rfl⟩
   ·rw [if_neg hs] at h; cases h
def numE (j a : Nat) (u : List UInt8) : Int × Int := if j = 0 then (0, 0) else if u.head? = some 59 then (if a < 32 ∨ 126 < a then (0, 0) else ((a : Int), (j : Int) + 3)) else (0, 0)
def numL : Nat → Nat → Nat → List UInt8 → Int × Int
 | 0, j, a, u => numE j a u
 | _ + 1, j, a, [] => numE j a []
 | r + 1, j, a, c :: u => if Pl.digitB c = true then numL r (j + 1) (a * 10 + (c.toNat - 48)) u else numE j a (c :: u)
theorem not59 {D : List UInt8} (h : D.all Pl.digitB = true) : (59 : UInt8) ∉ D := fun hm => by
 have := List.all_eq_true.1 h _ hm
 exact absurd this (by decide)
theorem numE_is (D u : List UInt8) (hD : D.all Pl.digitB = true) (h3 : D.length ≤ 3) (hend : D.length = 3 ∨ ∀ c, u.head? = some c → Pl.digitB c = false) : numE D.length (vF 0 D) u = oneR (38 :: 35 :: (D ++ u)) := by
 have hlt := vF_lt D 0 hD
 have h10 : 10 ^ D.length ≤ 10 ^ 3 := Nat.pow_le_pow_right (by omega) h3
 unfold numE
 by_cases hu : u.head? = some 59
 ·obtain ⟨r, rfl⟩ : ∃ r, u = 59 :: r := by
   cases u with
   | nil => cases hu
   | cons c r => exact ⟨r, by rw [Option.some.inj hu]⟩
  have h59 : (59 : UInt8) ∉ 35 :: D := by
   rw [List.mem_cons, not_or]
   exact ⟨by decide, not59 hD⟩
  have hst : stepU (38 :: 35 :: (D ++ 59 :: r)) = (entB (35 :: D)).map (fun b => (b, r)) := stepU_at h59
  unfold oneR
  rw [hst, entB_num, if_pos hu]
  unfold numB
  by_cases hj : D = []
  ·subst hj; rfl
  ·have hj' : ¬ D.length = 0 := fun h => hj (List.length_eq_zero_iff.1 h)
   rw [if_neg hj']
   by_cases hr : 32 ≤ vF 0 D ∧ vF 0 D ≤ 126
   ·rw [if_neg (by omega), if_pos ⟨hj, h3, hD, hr⟩]
    show _ = (_, _)
    rw [Prod.mk.injEq]
    constructor
    ·rw [UInt8.toNat_ofNat_of_lt' (by show _ < 256; omega)]
    ·simp only [List.length_cons, List.length_append]
     omega
   ·rw [if_pos (by omega), if_neg (fun h => hr h.2.2.2)]
    rfl
 ·have hz : (if D.length = 0 then ((0, 0) : Int × Int) else if u.head? = some 59 then (if vF 0 D < 32 ∨ 126 < vF 0 D then (0, 0) else ((vF 0 D : Int), (D.length : Int) + 3)) else (0, 0)) = (0, 0) := by
   rw [if_neg hu]; split <;> rfl
  rw [hz]
  suffices hs : stepU (38 :: 35 :: (D ++ u)) = none by unfold oneR; rw [hs]
  rcases split59 (35 :: (D ++ u)) with h' | ⟨N, r, h', e⟩
  ·exact stepU_not h'
  ·rw [e, stepU_at h']
   cases N with
   | nil => cases e
   | cons b N =>
    rw [List.cons_append, List.cons.injEq] at e
    obtain ⟨rfl, e⟩ := e
    rw [entB_num]
    unfold numB
    rw [if_neg]
    ·rfl
    ·rintro ⟨n0, n3, nd, _⟩
     have g1 : (D ++ u)[N.length]? = some 59 := by rw [e]; simp
     rcases Nat.lt_trichotomy N.length D.length with hlt' | heq | hgt
     ·rw [List.getElem?_append_left hlt'] at g1
      exact not59 hD (List.mem_of_getElem? g1)
     ·rw [List.getElem?_append_right (by omega), heq, Nat.sub_self] at g1
      exact hu (by rw [List.head?_eq_getElem?]; exact g1)
     ·rcases hend with h | h
      ·omega
      ·have g2 : (D ++ u)[D.length]? = u.head? := by
        rw [List.getElem?_append_right (Nat.le_refl _), Nat.sub_self, List.head?_eq_getElem?]
       rw [e, List.getElem?_append_left hgt, List.getElem?_eq_getElem hgt] at g2
       have := h _ g2.symm
       have hd := List.all_eq_true.1 nd _ (List.getElem_mem hgt)
       rw [hd] at this
       cases this
theorem numL_is : ∀ (r : Nat) (D u : List UInt8), D.all Pl.digitB = true → D.length + r = 3 → numL r D.length (vF 0 D) u = oneR (38 :: 35 :: (D ++ u))
 | 0, D, u, hD, h => numE_is D u hD (by omega) (.inl (by omega))
 | r + 1, D, [], hD, h => numE_is D [] hD (by omega) (.inr fun c hc => by cases hc)
 | r + 1, D, c :: u, hD, h => by
  rw [numL]
  by_cases hc : Pl.digitB c = true
  ·rw [if_pos hc]
   have := numL_is r (D ++ [c]) u (by rw [List.all_append, hD]; simp [hc]) (by simp; omega)
   rw [vF_snoc, List.length_append, List.append_assoc] at this
   exact this
  ·rw [if_neg hc]
   exact numE_is D (c :: u) hD (by omega) (.inr fun x hx => by cases hx; simpa using hc)
def nameR (t : List UInt8) : Int × Int :=
 if [108, 116, 59].isPrefixOf t = true then (60, 4) else if [103, 116, 59].isPrefixOf t = true then (62, 4) else if [97, 109, 112, 59].isPrefixOf t = true then (38, 5) else if [113, 117, 111, 116, 59].isPrefixOf t = true then (34, 6) else if [97, 112, 111, 115, 59].isPrefixOf t = true then (39, 6) else (0, 0)
theorem pre_not {M t : List UInt8} (h : (59 : UInt8) ∉ t) : (M ++ [59]).isPrefixOf t = false := by
 cases hp : (M ++ [59]).isPrefixOf t
 ·rfl
 ·rw [List.isPrefixOf_iff_prefix] at hp
  obtain ⟨x, rfl⟩ := hp
  simp at h
theorem pre_at {M N r : List UInt8} (hM : (59 : UInt8) ∉ M) (hN : (59 : UInt8) ∉ N) : (M ++ [59]).isPrefixOf (N ++ 59 :: r) = decide (N = M) := by
 rw [Bool.eq_iff_iff, List.isPrefixOf_iff_prefix, decide_eq_true_iff]
 constructor
 ·rintro ⟨x, hx⟩
  rw [List.append_assoc] at hx
  exact (app_inj M N x r hM hN hx).1.symm
 ·rintro rfl
  exact ⟨r, by simp⟩
theorem nameR_is (t : List UInt8) (h35 : t.head? ≠ some 35) : nameR t = oneR (38 :: t) := by
 unfold nameR oneR
 rcases split59 t with h | ⟨N, r, h, rfl⟩
 ·have e1 := pre_not (M := [108, 116]) h
  have e2 := pre_not (M := [103, 116]) h
  have e3 := pre_not (M := [97, 109, 112]) h
  have e4 := pre_not (M := [113, 117, 111, 116]) h
  have e5 := pre_not (M := [97, 112, 111, 115]) h
  simp only [List.cons_append, List.nil_append] at e1 e2 e3 e4 e5
  rw [e1, e2, e3, e4, e5, stepU_not h]
  rfl
 ·have e1 := pre_at (M := [108, 116]) (r := r) (by decide) h
  have e2 := pre_at (M := [103, 116]) (r := r) (by decide) h
  have e3 := pre_at (M := [97, 109, 112]) (r := r) (by decide) h
  have e4 := pre_at (M := [113, 117, 111, 116]) (r := r) (by decide) h
  have e5 := pre_at (M := [97, 112, 111, 115]) (r := r) (by decide) h
  have hl : (((38 :: (N ++ 59 :: r) : List UInt8).length : Nat) : Int) - (r.length : Int) = (N.length : Int) + 2 := by
   simp only [List.length_cons, List.length_append]
   omega
  simp only [List.cons_append, List.nil_append] at e1 e2 e3 e4 e5
  rw [e1, e2, e3, e4, e5, stepU_at h]
  unfold entB
  by_cases h1 : N = [108, 116]
  ·rw [decide_eq_true h1, if_pos rfl, if_pos h1]
   show _ = (((60 : UInt8).toNat : Int), _)
   rw [hl, h1]; rfl
  rw [decide_eq_false h1, if_neg Bool.false_ne_true, if_neg h1]
  by_cases h2 : N = [103, 116]
  ·rw [decide_eq_true h2, if_pos rfl, if_pos h2]
   show _ = (((62 : UInt8).toNat : Int), _)
   rw [hl, h2]; rfl
  rw [decide_eq_false h2, if_neg Bool.false_ne_true, if_neg h2]
  by_cases h3 : N = [97, 109, 112]
  ·rw [decide_eq_true h3, if_pos rfl, if_pos h3]
   show _ = (((38 : UInt8).toNat : Int), _)
   rw [hl, h3]; rfl
  rw [decide_eq_false h3, if_neg Bool.false_ne_true, if_neg h3]
  by_cases h4 : N = [113, 117, 111, 116]
  ·rw [decide_eq_true h4, if_pos rfl, if_pos h4]
   show _ = (((34 : UInt8).toNat : Int), _)
   rw [hl, h4]; rfl
  rw [decide_eq_false h4, if_neg Bool.false_ne_true, if_neg h4]
  by_cases h5 : N = [97, 112, 111, 115]
  ·rw [decide_eq_true h5, if_pos rfl, if_pos h5]
   show _ = (((39 : UInt8).toNat : Int), _)
   rw [hl, h5]; rfl
  rw [decide_eq_false h5, if_neg Bool.false_ne_true, if_neg h5]
  cases N with
  | nil => rfl
  | cons b D =>
   have hb : ¬ b = 35 := fun e => h35 (by rw [e]; rfl)
   simp only [if_neg hb]
   rfl
theorem ba_ext {a b : ByteArray} (h : a.data.toList = b.data.toList) : a = b := by
 obtain ⟨⟨x⟩⟩ := a
 obtain ⟨⟨y⟩⟩ := b
 simp at h
 rw [h]
theorem pre_take (s p : List UInt8) (h : p.length ≤ s.length) : (s.take p.length == p) = p.isPrefixOf s := by
 have := Lib.hasPrefix_of_take s p
 rw [decide_eq_true h, Bool.true_and] at this
 exact this
theorem pre_len {s p : List UInt8} (h : p.isPrefixOf s = true) : p.length ≤ s.length := by
 rw [List.isPrefixOf_iff_prefix] at h
 exact h.length_le
theorem starts_eq (t w : ByteArray) (i : Nat) (h0 : 0 < w.size) (h : i + w.size < 9223372036854775807) : spec_l1Starts.f t (i : Int) w = some (w.data.toList.isPrefixOf (t.data.toList.drop i)) := by
 unfold spec_l1Starts.f
 rw [Pl.wrap_in (by omega) (by omega)]
 have hw := Pl.size_toList w
 have ht := Pl.size_toList t
 by_cases hle : (i : Int) + (w.size : Int) ≤ (t.size : Int)
 ·rw [if_pos hle, if_pos (by omega), if_pos (by omega), Lib.extract_toList, Lib.toList_data]
  congr 1
  rw [← pre_take _ _ (by rw [List.length_drop]; omega)]
  have e1 : ((i : Int)).toNat = i := by omega
  have e2 : ((i : Int) + (w.size : Int)).toNat - ((i : Int)).toNat = w.data.toList.length := by omega
  rw [e2, e1]
 ·rw [if_neg hle]
  congr 1
  rw [eq_comm, Bool.eq_false_iff]
  intro h'
  have := pre_len h'
  rw [List.length_drop] at this
  omega
theorem numE_0 (a : Nat) (u : List UInt8) : numE 0 a u = (0, 0) := if_pos rfl
theorem numE_bad {j a : Nat} {u : List UInt8} (h : u.head? ≠ some 59) : numE j a u = (0, 0) := by
 unfold numE
 rw [if_neg h]
 split <;> rfl
theorem numE_out {j a : Nat} {u : List UInt8} (h : a < 32 ∨ 126 < a) : numE j a u = (0, 0) := by
 unfold numE
 rw [if_pos h]
 split
 ·rfl
 ·split <;> rfl
theorem numE_ok {j a : Nat} {u : List UInt8} (hj : j ≠ 0) (h : u.head? = some 59) (h1 : ¬ (a < 32 ∨ 126 < a)) : numE j a u = ((a : Int), (j : Int) + 3) := by
 unfold numE
 rw [if_neg hj, if_pos h, if_neg h1]
theorem numTail (P n i : Int) (j a : Nat) (c : UInt8) (u : List UInt8) (hP : P = i + 2 + j) (hn : P < n) (hp : 0 ≤ P) (hj : j ≤ 3) : Ev (fun k : Nat => if P = i + 2 then some ((0, 0) : Int × Int) else if P ≥ n then some (0, 0) else if (c.toNat : Int) = 59 then (if (a : Int) < 32 then some (0, 0) else if (a : Int) > 126 then some (0, 0) else some ((a : Int) % 256, P + 1 - i)) else some (0, 0)) (numE j a (c :: u)) := by
 by_cases hj0 : j = 0
 ·subst hj0
  rw [numE_0]
  exact Pl.ev_ite_pos (by omega) (Ev.now _)
 ·refine Pl.ev_ite_neg (by omega) (Pl.ev_ite_neg (by omega) ?_)
  by_cases hc : c = 59
  ·subst hc
   refine Pl.ev_ite_pos (by decide) ?_
   by_cases h1 : a < 32
   ·rw [numE_out (.inl h1)]
    exact Pl.ev_ite_pos (by omega) (Ev.now _)
   ·refine Pl.ev_ite_neg (by omega) ?_
    by_cases h2 : 126 < a
    ·rw [numE_out (.inr h2)]
     exact Pl.ev_ite_pos (by omega) (Ev.now _)
    ·rw [numE_ok hj0 rfl (by omega)]
     refine Pl.ev_ite_neg (by omega) (Pl.ev_to (Ev.now _) ?_)
     rw [Prod.mk.injEq]
     constructor <;> omega
  ·have hc' : ¬ (c.toNat : Int) = 59 := fun h => hc (UInt8.toNat_inj.1 (by show c.toNat = 59; omega))
   rw [numE_bad (u := c :: u) (fun h => hc (Option.some.inj h))]
   exact Pl.ev_ite_neg hc' (Ev.now _)
theorem specNum (s : ByteArray) (hs : s.size ≤ 400) (i : Nat) : ∀ (r j a : Nat), j + r = 3 → a < 10 ^ j → i + 2 + j ≤ s.size → Ev (fun k => spec_l1Number.l0 k s (i : Int) (a : Int) ((i + 2 + j : Nat) : Int)) (numL r j a (s.data.toList.drop (i + 2 + j))) := by
 intro r
 induction r with
 | zero =>
  intro j a hj ha hP
  have ht := Pl.size_toList s
  refine Ev.step (fun k => by rw [spec_l1Number.l0]) ?_
  rw [Pl.wrap_in (x := (i : Int) + 5) (by omega) (by omega), Pl.wrap_in (x := (i : Int) + 2) (by omega) (by omega)]
  by_cases hlt : i + 2 + j < s.size
  ·have hd := Pl.drop_get (l := s.data.toList) (i := i + 2 + j) (by omega)
   have hb := Pl.bt_l (s := s) rfl (i + 2 + j) (by omega)
   rw [hd, numL, hb, Pl.wrap_in (x := ((i + 2 + j : Nat) : Int) + 1) (by omega) (by omega), Pl.wrap_in (x := ((i + 2 + j : Nat) : Int) + 1 - (i : Int)) (by omega) (by omega)]
   generalize s.data.toList[i + 2 + j] = c
   refine Pl.ev_ite_pos (by omega) ?_
   refine Pl.ev_ite_neg (by omega) ?_
   have := numTail ((i + 2 + j : Nat) : Int) (s.size : Int) (i : Int) j a c (s.data.toList.drop (i + 2 + j + 1)) (by omega) (by omega) (by omega) (by omega)
   refine Ev.congr (fun k => ?_) this
   rw [if_pos (show (0 : Int) ≤ ((i + 2 + j : Nat) : Int) by omega)]
  ·have hd : s.data.toList.drop (i + 2 + j) = [] := List.drop_eq_nil_iff.2 (by omega)
   rw [hd, numL, numE_bad (by simp)]
   refine Pl.ev_ite_neg (by omega) ?_
   refine Pl.ev_ite_neg (by omega) ?_
   exact Pl.ev_ite_pos (by omega) (Ev.now _)
 | succ r ih =>
  intro j a hj ha hP
  have ht := Pl.size_toList s
  have h10 : 10 ^ j ≤ 10 ^ 2 := Nat.pow_le_pow_right (by omega) (by omega)
  refine Ev.step (fun k => by rw [spec_l1Number.l0]) ?_
  rw [Pl.wrap_in (x := (i : Int) + 5) (by omega) (by omega), Pl.wrap_in (x := (i : Int) + 2) (by omega) (by omega)]
  by_cases hlt : i + 2 + j < s.size
  ·have hd := Pl.drop_get (l := s.data.toList) (i := i + 2 + j) (by omega)
   have hb := Pl.bt_l (s := s) rfl (i + 2 + j) (by omega)
   rw [hd, numL, hb, Pl.wrap_in (x := ((i + 2 + j : Nat) : Int) + 1) (by omega) (by omega), Pl.wrap_in (x := ((i + 2 + j : Nat) : Int) + 1 - (i : Int)) (by omega) (by omega), Pl.wrap_in (x := (a : Int) * 10) (by omega) (by omega)]
   have ih' := ih (j + 1)
   rw [show i + 2 + (j + 1) = i + 2 + j + 1 by omega] at ih'
   generalize s.data.toList[i + 2 + j] = c at *
   have hend := numTail ((i + 2 + j : Nat) : Int) (s.size : Int) (i : Int) j a c (s.data.toList.drop (i + 2 + j + 1)) (by omega) (by omega) (by omega) (by omega)
   refine Pl.ev_ite_pos (by omega) ?_
   refine Pl.ev_ite_pos (by omega) ?_
   refine Pl.ev_ite_pos (by omega) ?_
   by_cases hdg : Pl.digitB c = true
   ·rw [if_pos hdg]
    have hc := dig_is hdg
    refine Pl.ev_ite_pos (by omega) ?_
    refine Pl.ev_ite_pos (by omega) ?_
    have e : wrap64 ((a : Int) * 10 + ((c.toNat : Int) - 48) % 256) = ((a * 10 + (c.toNat - 48) : Nat) : Int) := by
     rw [Pl.wrap_in (by omega) (by omega)]
     omega
    rw [e]
    have := ih' (a * 10 + (c.toNat - 48)) (by omega) (by rw [Nat.pow_succ]; omega) (by omega)
    exact this
   ·rw [if_neg hdg]
    have hc : ¬ (48 ≤ c.toNat ∧ c.toNat ≤ 57) := fun h => hdg (decide_eq_true h)
    by_cases h48 : 48 ≤ c.toNat
    ·refine Pl.ev_ite_pos (by omega) ?_
     exact Pl.ev_ite_neg (by omega) hend
    ·exact Pl.ev_ite_neg (by omega) hend
  ·have hd : s.data.toList.drop (i + 2 + j) = [] := List.drop_eq_nil_iff.2 (by omega)
   rw [hd, numL, numE_bad (by simp)]
   refine Pl.ev_ite_neg (by omega) ?_
   by_cases hj0 : j = 0
   ·exact Pl.ev_ite_pos (by omega) (Ev.now _)
   ·exact Pl.ev_ite_neg (by omega) (Pl.ev_ite_pos (by omega) (Ev.now _))
theorem plain_eq (c : Int) : spec_l1Plain.f c = some (decide (32 ≤ c ∧ c ≤ 126)) := by
 unfold spec_l1Plain.f
 by_cases h : c ≥ 32
 ·rw [if_pos h]; congr 1; rw [decide_eq_decide]; omega
 ·rw [if_neg h, decide_eq_false (by omega)]
theorem isPrintI_eq (c : Int) : impl_isPrint.f c = some (decide (32 ≤ c ∧ c ≤ 126)) := by
 unfold impl_isPrint.f
 by_cases h : c ≥ 32
 ·rw [if_pos h]; congr 1; rw [decide_eq_decide]; omega
 ·rw [if_neg h, decide_eq_false (by omega)]
theorem oneR_self {c : UInt8} (h : c ≠ 38) (t : List UInt8) : oneR (c :: t) = if selfB c = true then ((c.toNat : Int), 1) else (0, 0) := by
 unfold oneR
 rw [stepU, if_neg h]
 by_cases hs : selfB c = true
 ·rw [if_pos hs, if_pos hs]
  show (_, _) = _
  rw [Prod.mk.injEq]
  exact ⟨rfl, by simp only [List.length_cons]; omega⟩
 ·rw [if_neg hs, if_neg hs]
theorem names_l (s : ByteArray) (i : Nat) (hs : s.size ≤ 400) (hi : i < s.size) (t : List UInt8) (hd : s.data.toList.drop i = 38 :: t) : Ev (fun k => spec_l1One.l0 k s (i : Int) (([(⟨#[38, 108, 116, 59]⟩ : ByteArray), (⟨#[38, 103, 116, 59]⟩ : ByteArray), (⟨#[38, 97, 109, 112, 59]⟩ : ByteArray), (⟨#[38, 113, 117, 111, 116, 59]⟩ : ByteArray), (⟨#[38, 97, 112, 111, 115, 59]⟩ : ByteArray)] : List ByteArray)) 0) (nameR t) := by
 have q1 : spec_l1Starts.f s (i : Int) (⟨#[38, 108, 116, 59]⟩ : ByteArray) = some ([108, 116, 59].isPrefixOf t) := by rw [starts_eq s _ i (by show 0 < 4; omega) (by show i + 4 < _; omega), hd]; rfl
 have q2 : spec_l1Starts.f s (i : Int) (⟨#[38, 103, 116, 59]⟩ : ByteArray) = some ([103, 116, 59].isPrefixOf t) := by rw [starts_eq s _ i (by show 0 < 4; omega) (by show i + 4 < _; omega), hd]; rfl
 have q3 : spec_l1Starts.f s (i : Int) (⟨#[38, 97, 109, 112, 59]⟩ : ByteArray) = some ([97, 109, 112, 59].isPrefixOf t) := by rw [starts_eq s _ i (by show 0 < 5; omega) (by show i + 5 < _; omega), hd]; rfl
 have q4 : spec_l1Starts.f s (i : Int) (⟨#[38, 113, 117, 111, 116, 59]⟩ : ByteArray) = some ([113, 117, 111, 116, 59].isPrefixOf t) := by rw [starts_eq s _ i (by show 0 < 6; omega) (by show i + 6 < _; omega), hd]; rfl
 have q5 : spec_l1Starts.f s (i : Int) (⟨#[38, 97, 112, 111, 115, 59]⟩ : ByteArray) = some ([97, 112, 111, 115, 59].isPrefixOf t) := by rw [starts_eq s _ i (by show 0 < 6; omega) (by show i + 6 < _; omega), hd]; rfl
 unfold nameR
 refine Ev.step (fun k => by rw [spec_l1One.l0]) ?_
 refine Pl.ev_ite_pos (by decide) (Pl.ev_ite_pos (by decide) ?_)
 refine Ev.congr (fun k => by rw [show rdOf ByteArray.empty _ (0 : Int) = (⟨#[38, 108, 116, 59]⟩ : ByteArray) from rfl, q1, Option.bind_some]) ?_
 by_cases h1 : [108, 116, 59].isPrefixOf t = true
 ·rw [if_pos h1]
  exact Pl.ev_ite_pos h1 (Pl.ev_ite_pos (by decide) (Ev.now _))
 rw [if_neg h1]
 refine Pl.ev_ite_neg h1 ?_
 refine Ev.step (fun k => by rw [spec_l1One.l0, show wrap64 ((0 : Int) + 1) = 1 by unfold wrap64; omega]) ?_
 refine Pl.ev_ite_pos (by decide) (Pl.ev_ite_pos (by decide) ?_)
 refine Ev.congr (fun k => by rw [show rdOf ByteArray.empty _ (1 : Int) = (⟨#[38, 103, 116, 59]⟩ : ByteArray) from rfl, q2, Option.bind_some]) ?_
 by_cases h2 : [103, 116, 59].isPrefixOf t = true
 ·rw [if_pos h2]
  exact Pl.ev_ite_pos h2 (Pl.ev_ite_pos (by decide) (Ev.now _))
 rw [if_neg h2]
 refine Pl.ev_ite_neg h2 ?_
 refine Ev.step (fun k => by rw [spec_l1One.l0, show wrap64 ((1 : Int) + 1) = 2 by unfold wrap64; omega]) ?_
 refine Pl.ev_ite_pos (by decide) (Pl.ev_ite_pos (by decide) ?_)
 refine Ev.congr (fun k => by rw [show rdOf ByteArray.empty _ (2 : Int) = (⟨#[38, 97, 109, 112, 59]⟩ : ByteArray) from rfl, q3, Option.bind_some]) ?_
 by_cases h3 : [97, 109, 112, 59].isPrefixOf t = true
 ·rw [if_pos h3]
  exact Pl.ev_ite_pos h3 (Pl.ev_ite_pos (by decide) (Ev.now _))
 rw [if_neg h3]
 refine Pl.ev_ite_neg h3 ?_
 refine Ev.step (fun k => by rw [spec_l1One.l0, show wrap64 ((2 : Int) + 1) = 3 by unfold wrap64; omega]) ?_
 refine Pl.ev_ite_pos (by decide) (Pl.ev_ite_pos (by decide) ?_)
 refine Ev.congr (fun k => by rw [show rdOf ByteArray.empty _ (3 : Int) = (⟨#[38, 113, 117, 111, 116, 59]⟩ : ByteArray) from rfl, q4, Option.bind_some]) ?_
 by_cases h4 : [113, 117, 111, 116, 59].isPrefixOf t = true
 ·rw [if_pos h4]
  exact Pl.ev_ite_pos h4 (Pl.ev_ite_pos (by decide) (Ev.now _))
 rw [if_neg h4]
 refine Pl.ev_ite_neg h4 ?_
 refine Ev.step (fun k => by rw [spec_l1One.l0, show wrap64 ((3 : Int) + 1) = 4 by unfold wrap64; omega]) ?_
 refine Pl.ev_ite_pos (by decide) (Pl.ev_ite_pos (by decide) ?_)
 refine Ev.congr (fun k => by rw [show rdOf ByteArray.empty _ (4 : Int) = (⟨#[38, 97, 112, 111, 115, 59]⟩ : ByteArray) from rfl, q5, Option.bind_some]) ?_
 by_cases h5 : [97, 112, 111, 115, 59].isPrefixOf t = true
 ·rw [if_pos h5]
  exact Pl.ev_ite_pos h5 (Pl.ev_ite_pos (by decide) (Ev.now _))
 rw [if_neg h5]
 refine Pl.ev_ite_neg h5 ?_
 refine Ev.step (fun k => by rw [spec_l1One.l0, show wrap64 ((4 : Int) + 1) = 5 by unfold wrap64; omega]) ?_
 exact Pl.ev_ite_neg (by decide) (Ev.now _)
theorem specOne (s : ByteArray) (hs : s.size ≤ 400) (i : Nat) (hi : i < s.size) : Ev (fun k => spec_l1One.f k s (i : Int)) (oneR (s.data.toList.drop i)) := by
 have ht := Pl.size_toList s
 have hd := Pl.drop_get (l := s.data.toList) (i := i) (by omega)
 have hb := Pl.bt_l (s := s) rfl i (by omega)
 have hst : spec_l1Starts.f s (i : Int) (⟨#[38, 35]⟩ : ByteArray) = some ([38, 35].isPrefixOf (s.data.toList.drop i)) := starts_eq s _ i (by show 0 < 2; omega) (by show i + 2 < _; omega)
 have hnum := specNum s hs i 3 0 0 rfl (by decide)
 have hnam := names_l s i hs hi (s.data.toList.drop (i + 1))
 have hdd : ∀ x, s.data.toList.drop (i + 1) = 35 :: x → s.data.toList.drop (i + 2 + 0) = x ∧ i + 2 ≤ s.size := fun x hx => by
  have e : s.data.toList.drop (i + 2 + 0) = (s.data.toList.drop (i + 1)).drop 1 := by rw [List.drop_drop]
  have e2 : (s.data.toList.drop (i + 1)).length = x.length + 1 := by rw [hx]; rfl
  rw [List.length_drop] at e2
  rw [e, hx]
  exact ⟨rfl, by omega⟩
 unfold spec_l1One.f
 rw [hst, hb]
 refine Pl.ev_ite_pos (by omega) (Pl.ev_ite_pos (by omega) ?_)
 rw [hd] at hnam ⊢
 generalize s.data.toList[i] = c at *
 generalize s.data.toList.drop (i + 1) = t at *
 by_cases hc : c = 38
 ·subst hc
  refine Pl.ev_ite_pos (by decide) ?_
  simp only [Option.bind_some]
  cases t with
  | nil =>
   refine Pl.ev_ite_neg (by decide) ?_
   exact Pl.ev_to (hnam rfl) (nameR_is [] (by simp))
  | cons b x =>
   by_cases hb : b = 35
   ·subst hb
    refine Pl.ev_ite_pos (by simp [List.isPrefixOf]) ?_
    obtain ⟨e1, e2⟩ := hdd x rfl
    have h1 := hnum (by omega)
    rw [e1] at h1
    have h2 := numL_is 3 [] x rfl rfl
    have h3 : numL 3 0 0 x = oneR (38 :: 35 :: x) := h2
    rw [h3] at h1
    have e3 : wrap64 ((i : Int) + 2) = ((i + 2 + 0 : Nat) : Int) := by rw [Pl.wrap_in (by omega) (by omega)]; omega
    refine Pl.ev_bind' (a := oneR (38 :: 35 :: x)) ?_ (Ev.now _)
    unfold spec_l1Number.f
    rw [e3]
    exact h1
   ·refine Pl.ev_ite_neg ?_ ?_
    ·simp only [List.isPrefixOf, Bool.and_true, beq_self_eq_true, Bool.true_and, beq_iff_eq]
     exact Ne.symm hb
    ·exact Pl.ev_to (hnam rfl) (nameR_is (b :: x) (by simp [hb]))
 ·have hc' : ¬ (c.toNat : Int) = 38 := fun h => hc (UInt8.toNat_inj.1 (by show c.toNat = 38; omega))
  refine Pl.ev_ite_neg hc' ?_
  simp only [plain_eq, Option.bind_some]
  rw [oneR_self hc]
  by_cases hp : 32 ≤ c.toNat ∧ c.toNat ≤ 126
  ·refine Pl.ev_ite_pos (decide_eq_true (by omega)) ?_
   by_cases h1 : c.toNat = 60
   ·rw [if_neg (show ¬ selfB c = true by unfold selfB; rw [decide_eq_true_iff]; omega)]
    exact Pl.ev_ite_pos (by omega) (Ev.now _)
   refine Pl.ev_ite_neg (by omega) ?_
   by_cases h2 : c.toNat = 62
   ·rw [if_neg (show ¬ selfB c = true by unfold selfB; rw [decide_eq_true_iff]; omega)]
    exact Pl.ev_ite_pos (by omega) (Ev.now _)
   refine Pl.ev_ite_neg (by omega) ?_
   by_cases h3 : c.toNat = 34
   ·rw [if_neg (show ¬ selfB c = true by unfold selfB; rw [decide_eq_true_iff]; omega)]
    exact Pl.ev_ite_pos (by omega) (Ev.now _)
   refine Pl.ev_ite_neg (by omega) ?_
   rw [if_pos (show selfB c = true by unfold selfB; rw [decide_eq_true_iff]; omega)]
   exact Ev.now _
  ·rw [if_neg (show ¬ selfB c = true by unfold selfB; rw [decide_eq_true_iff]; omega)]
   exact Pl.ev_ite_neg (by rw [decide_eq_true_iff]; omega) (Ev.now _)
theorem cut_len (l : List UInt8) : (Lib.cut l [59]).1.length ≤ l.length := by
 unfold Lib.cut
 split
 ·simp only [List.length_take]; omega
 ·exact Nat.le_refl _
theorem implStep (a : ByteArray) (x4 : List Int) (c : UInt8) (t : List UInt8) (ha : a.data.toList = c :: t) (hs : a.size ≤ 400) (hx : x4.length ≤ 400) :
  (stepU (c :: t) = none → Ev (fun k => impl_unescape.l0 k a x4) ((⟨#[]⟩ : ByteArray), false)) ∧ ∀ b r, stepU (c :: t) = some (b, r) → ∀ out, Ev (fun k => impl_unescape.l0 k ⟨r.toArray⟩ (x4 ++ [(b.toNat : Int)])) out → Ev (fun k => impl_unescape.l0 k a x4) out := by
 have hz := Pl.size_l ha
 rw [List.length_cons] at hz
 have hb := Pl.bt_l ha 0 (by simp)
 have hb' : bt a 0 = (c.toNat : Int) := hb
 have hex : a.extract 1 a.size = ⟨t.toArray⟩ := by
  refine ba_ext ?_
  rw [← Lib.toList_data, Lib.extract_toList, ha]
  have e : a.size - 1 = t.length := by omega
  rw [e]
  simp
 have hne : ¬ a.toList = [] := by rw [Pl.toList_data, ha]; simp
 have key : ∀ R, (Ev (fun k => if (c.toNat : Int) = 38 then ((strings_Cut.f (⟨t.toArray⟩ : ByteArray) (⟨#[59]⟩ : ByteArray)).bind fun bt153 => ((impl_entity.f bt153.1).bind fun bt156 => (if bt153.2.2 = true then (impl_unescape.j1 k x4 bt153.2.1 true bt156.1 bt156.2 (!bt156.2)) else (impl_unescape.j1 k x4 bt153.2.1 false bt156.1 bt156.2 true)))) else ((impl_isPrint.f (c.toNat : Int)).bind fun t161 => (if t161 = true then (if (c.toNat : Int) = 60 then (some ((⟨#[]⟩ : ByteArray), false)) else (if (c.toNat : Int) = 62 then (some ((⟨#[]⟩ : ByteArray), false)) else (if (c.toNat : Int) = 34 then (some ((⟨#[]⟩ : ByteArray), false)) else (if x4.length < 140737488355328 then (impl_unescape.l0 k (⟨t.toArray⟩ : ByteArray) (x4 ++ [(c.toNat : Int)])) else (none))))) else (some ((⟨#[]⟩ : ByteArray), false))))) R) → Ev (fun k => impl_unescape.l0 k a x4) R := fun R h => by
  refine Ev.step (fun k => by rw [impl_unescape.l0, hb', hex]) ?_
  exact Pl.ev_ite_neg hne (Pl.ev_ite_pos (by omega) (Pl.ev_ite_pos (by omega) h))
 by_cases hc : c = 38
 ·subst hc
  have hcut : strings_Cut.f (⟨t.toArray⟩ : ByteArray) (⟨#[59]⟩ : ByteArray) = some (⟨(Lib.cut t [59]).1.toArray⟩, ⟨(Lib.cut t [59]).2.1.toArray⟩, (Lib.cut t [59]).2.2) := by
   unfold strings_Cut.f
   have : (⟨t.toArray⟩ : ByteArray).size = t.length := by rw [← Pl.size_toList]
   rw [if_pos (by omega)]
  have hl := cut_len t
  rw [stepU_c]
  rw [hcut] at key
  generalize Lib.cut t [59] = C at *
  obtain ⟨N, r, e⟩ := C
  obtain ⟨v, hv, hv2⟩ := entity_is (⟨N.toArray⟩ : ByteArray) (by
   have : (⟨N.toArray⟩ : ByteArray).size = N.length := by rw [← Pl.size_toList]
   have hl' : N.length ≤ t.length := hl
   omega)
  have hN : (⟨N.toArray⟩ : ByteArray).data.toList = N := rfl
  rw [hN] at hv hv2
  have key2 : ∀ R, Ev (fun k => if e = true then (impl_unescape.j1 k x4 ⟨r.toArray⟩ true v (entB N).isSome (!(entB N).isSome)) else (impl_unescape.j1 k x4 ⟨r.toArray⟩ false v (entB N).isSome true)) R → Ev (fun k => impl_unescape.l0 k a x4) R := fun R h => by
   refine key R (Pl.ev_ite_pos (by decide) ?_)
   simp only [Option.bind_some, hv]
   exact h
  show ((if e = true then (entB N).map (fun b => (b, r)) else none) = none → _) ∧ ∀ b r', (if e = true then (entB N).map (fun b => (b, r)) else none) = some (b, r') → _
  cases e with
  | false =>
   refine ⟨fun _ => key2 _ (Pl.ev_ite_neg (by decide) ?_), fun b r' h => by cases h⟩
   refine Ev.step (fun k => by rw [impl_unescape.j1]) ?_
   exact Pl.ev_ite_pos rfl (Ev.now _)
  | true =>
   rw [if_pos rfl]
   cases hE : entB N with
   | none =>
    rw [hE] at key2
    refine ⟨fun _ => key2 _ (Pl.ev_ite_pos rfl ?_), fun b r' h => by cases h⟩
    refine Ev.step (fun k => by rw [impl_unescape.j1]) ?_
    exact Pl.ev_ite_pos rfl (Ev.now _)
   | some x =>
    rw [hE] at key2
    refine ⟨fun h => (by cases h), fun b r' h out hout => key2 _ (Pl.ev_ite_pos rfl ?_)⟩
    obtain ⟨rfl, rfl⟩ : x = b ∧ r = r' := by simpa using h
    refine Ev.step (fun k => by rw [impl_unescape.j1]) ?_
    refine Pl.ev_ite_neg (by simp) (Pl.ev_ite_pos (by omega) ?_)
    rw [hv2 x hE]
    exact hout
 ·have hc' : ¬ (c.toNat : Int) = 38 := fun h => hc (UInt8.toNat_inj.1 (by show c.toNat = 38; omega))
  rw [stepU, if_neg hc]
  have key2 := fun R h => key R (Pl.ev_ite_neg hc' h)
  simp only [isPrintI_eq, Option.bind_some] at key2
  by_cases hp : 32 ≤ c.toNat ∧ c.toNat ≤ 126
  ·have key3 := fun R h => key2 R (Pl.ev_ite_pos (decide_eq_true (by omega)) h)
   by_cases h1 : c.toNat = 60
   ·rw [if_neg (show ¬ selfB c = true by unfold selfB; rw [decide_eq_true_iff]; omega)]
    exact ⟨fun _ => key3 _ (Pl.ev_ite_pos (by omega) (Ev.now _)), fun b r' h => by cases h⟩
   by_cases h2 : c.toNat = 62
   ·rw [if_neg (show ¬ selfB c = true by unfold selfB; rw [decide_eq_true_iff]; omega)]
    exact ⟨fun _ => key3 _ (Pl.ev_ite_neg (by omega) (Pl.ev_ite_pos (by omega) (Ev.now _))), fun b r' h => by cases h⟩
   by_cases h3 : c.toNat = 34
   ·rw [if_neg (show ¬ selfB c = true by unfold selfB; rw [decide_eq_true_iff]; omega)]
    exact ⟨fun _ => key3 _ (Pl.ev_ite_neg (by omega) (Pl.ev_ite_neg (by omega) (Pl.ev_ite_pos (by omega) (Ev.now _)))), fun b r' h => by cases h⟩
   rw [if_pos (show selfB c = true by unfold selfB; rw [decide_eq_true_iff]; omega)]
   refine ⟨fun h => (by cases h), fun b r' h out hout => ?_⟩
   obtain ⟨rfl, rfl⟩ : c = b ∧ t = r' := by simpa using h
   exact key3 _ (Pl.ev_ite_neg (by omega) (Pl.ev_ite_neg (by omega) (Pl.ev_ite_neg (by omega) (Pl.ev_ite_pos (by omega) hout))))
  ·rw [if_neg (show ¬ selfB c = true by unfold selfB; rw [decide_eq_true_iff]; omega)]
   exact ⟨fun _ => key2 _ (Pl.ev_ite_neg (by rw [decide_eq_true_iff]; omega) (Ev.now _)), fun b r' h => by cases h⟩
def outS (x : List Int) : Option (List Int) → Int × ByteArray
 | none => (5, (⟨#[]⟩ : ByteArray))
 | some ys => if ((x ++ ys).length : Int) > 40 then (2, (⟨#[]⟩ : ByteArray)) else (0, strOfNums (x ++ ys))
def outI (x : List Int) : Option (List Int) → ByteArray × Bool
 | none => ((⟨#[]⟩ : ByteArray), false)
 | some ys => (strOfNums (x ++ ys), true)
theorem outS_nil (x : List Int) : outS x (some []) = if (x.length : Int) > 40 then (2, (⟨#[]⟩ : ByteArray)) else (0, strOfNums x) := by
 unfold outS
 simp only [List.append_nil]
theorem outI_nil (x : List Int) : outI x (some []) = (strOfNums x, true) := by
 show (strOfNums (x ++ []), true) = _
 rw [List.append_nil]
theorem outS_nil2 (x : List Int) : outS [] (some x) = if (x.length : Int) > 40 then (2, (⟨#[]⟩ : ByteArray)) else (0, strOfNums x) := rfl
theorem outI_nil2 (x : List Int) : outI [] (some x) = (strOfNums x, true) := rfl
theorem outS_map (x : List Int) (b : Int) (r : Option (List Int)) : outS (x ++ [b]) r = outS x (r.map (b :: ·)) := by
 cases r with
 | none => rfl
 | some ys =>
  unfold outS
  simp only [Option.map_some, List.append_assoc, List.cons_append, List.nil_append]
theorem outI_map (x : List Int) (b : Int) (r : Option (List Int)) : outI (x ++ [b]) r = outI x (r.map (b :: ·)) := by
 cases r with
 | none => rfl
 | some ys =>
  unfold outI
  simp only [Option.map_some, List.append_assoc, List.cons_append, List.nil_append]
def decF : Nat → List UInt8 → Option (List UInt8)
 | _, [] => some []
 | 0, _ :: _ => none
 | f + 1, c :: t => match stepU (c :: t) with
  | none => none
  | some (b, r) => (decF f r).map (b :: ·)
theorem decF_nil (f : Nat) : decF f [] = some [] := by cases f <;> rfl
theorem decF_cons (f : Nat) (c : UInt8) (t : List UInt8) : decF (f + 1) (c :: t) = match stepU (c :: t) with
  | none => none
  | some (b, r) => (decF f r).map (b :: ·) := rfl
def toI (o : Option (List UInt8)) : Option (List Int) := o.map fun l => l.map fun b => (b.toNat : Int)
theorem toI_cons (b : UInt8) (o : Option (List UInt8)) : (toI o).map ((b.toNat : Int) :: ·) = toI (o.map (b :: ·)) := by cases o <;> rfl
theorem un_dec (s : ByteArray) (hs : s.size ≤ 400) : ∀ n i, s.size - i ≤ n → i ≤ s.size → ∃ res : Option (List Int), (∀ x3 : List Int, x3.length ≤ i → Ev (fun k => spec_UnescapeText.l0 k s x3 (i : Int)) (outS x3 res)) ∧ (∀ (a : ByteArray) (x4 : List Int), a.data.toList = s.data.toList.drop i → x4.length ≤ i → Ev (fun k => impl_unescape.l0 k a x4) (outI x4 res)) ∧ res = toI (decF n (s.data.toList.drop i)) := by
 have ht := Pl.size_toList s
 intro n
 induction n with
 | zero =>
  intro i hn hi
  refine ⟨some [], fun x3 hx => ?_, fun a x4 ha hx => ?_, by rw [show s.data.toList.drop i = [] from List.drop_eq_nil_iff.2 (by omega), decF_nil]; rfl⟩
  ·refine Ev.step (fun k => by rw [spec_UnescapeText.l0]) ?_
   refine Pl.ev_ite_neg (by omega) ?_
   rw [outS_nil]
   have hev : Ev (fun _ : Nat => if (x3.length : Int) > 40 then some (2, (⟨#[]⟩ : ByteArray)) else some ((0 : Int), strOfNums x3)) (if (x3.length : Int) > 40 then (2, (⟨#[]⟩ : ByteArray)) else (0, strOfNums x3)) := by
    by_cases h : (x3.length : Int) > 40
    ·simp only [if_pos h]; exact Ev.now _
    ·simp only [if_neg h]; exact Ev.now _
   exact hev
  ·refine Ev.step (fun k => by rw [impl_unescape.l0]) ?_
   rw [outI_nil]
   refine Pl.ev_ite_pos ?_ (Ev.now _)
   rw [Pl.toList_data, ha]
   exact List.drop_eq_nil_iff.2 (by omega)
 | succ n ih =>
  intro i hn hi
  by_cases hlt : i < s.size
  ·have hd := Pl.drop_get (l := s.data.toList) (i := i) (by omega)
   have hone := specOne s hs i hlt
   have hsz : ∀ a : ByteArray, a.data.toList = s.data.toList.drop i → a.size ≤ 400 := fun a ha => by
    rw [Pl.size_l ha, List.length_drop]
    omega
   cases hst : stepU (s.data.toList.drop i) with
   | none =>
    refine ⟨none, fun x3 hx => ?_, fun a x4 ha hx => ?_, by rw [hd] at hst ⊢; rw [decF_cons, hst]; rfl⟩
    ·refine Ev.step (fun k => by rw [spec_UnescapeText.l0]) ?_
     refine Pl.ev_ite_pos (by omega) ?_
     refine Pl.ev_bind' hone ?_
     unfold oneR
     rw [hst]
     exact Pl.ev_ite_pos rfl (Ev.now _)
    ·exact (implStep a x4 _ _ (ha.trans hd) (hsz a ha) (by omega)).1 (by rw [← hd]; exact hst)
   | some br =>
    obtain ⟨b, r⟩ := br
    obtain ⟨p, hp, hpr⟩ := stepU_less hst
    have hlen : p.length + r.length = s.size - i := by
     have := congrArg List.length hpr
     rw [List.length_append, List.length_drop] at this
     omega
    have hp1 : 1 ≤ p.length := by
     cases p with
     | nil => exact absurd rfl hp
     | cons => simp
    have hr : s.data.toList.drop (i + p.length) = r := by
     rw [← List.drop_drop, hpr]
     simp
    obtain ⟨res, h1, h2, h3⟩ := ih (i + p.length) (by omega) (by omega)
    refine ⟨res.map ((b.toNat : Int) :: ·), fun x3 hx => ?_, fun a x4 ha hx => ?_, by rw [h3, hr]; rw [hd] at hst ⊢; rw [decF_cons, hst]; exact toI_cons b _⟩
    ·refine Ev.step (fun k => by rw [spec_UnescapeText.l0]) ?_
     refine Pl.ev_ite_pos (by omega) ?_
     refine Pl.ev_bind' hone ?_
     have hv : oneR (s.data.toList.drop i) = ((b.toNat : Int), (p.length : Int)) := by
      unfold oneR
      rw [hst]
      show (_, _) = _
      rw [Prod.mk.injEq, List.length_drop]
      exact ⟨rfl, by omega⟩
     rw [hv]
     refine Pl.ev_ite_neg (by show ¬ (p.length : Int) = 0; omega) (Pl.ev_ite_pos (by omega) ?_)
     have e : wrap64 ((i : Int) + (p.length : Int)) = ((i + p.length : Nat) : Int) := by rw [Pl.wrap_in (by omega) (by omega)]; omega
     rw [← outS_map]
     show Ev (fun k => spec_UnescapeText.l0 k s (x3 ++ [(b.toNat : Int)]) (wrap64 ((i : Int) + (p.length : Int)))) _
     rw [e]
     exact h1 _ (by rw [List.length_append]; show x3.length + 1 ≤ _; omega)
    ·refine (implStep a x4 _ _ (ha.trans hd) (hsz a ha) (by omega)).2 b r (by rw [← hd]; exact hst) _ ?_
     rw [← outI_map]
     exact h2 _ _ (by rw [hr]) (by rw [List.length_append]; show x4.length + 1 ≤ _; omega)
  ·obtain rfl : i = s.size := by omega
   refine ⟨some [], fun x3 hx => ?_, fun a x4 ha hx => ?_, by rw [show s.data.toList.drop s.size = [] from List.drop_eq_nil_iff.2 (by omega), decF_nil]; rfl⟩
   ·refine Ev.step (fun k => by rw [spec_UnescapeText.l0]) ?_
    refine Pl.ev_ite_neg (by omega) ?_
    rw [outS_nil]
    have hev : Ev (fun _ : Nat => if (x3.length : Int) > 40 then some (2, (⟨#[]⟩ : ByteArray)) else some ((0 : Int), strOfNums x3)) (if (x3.length : Int) > 40 then (2, (⟨#[]⟩ : ByteArray)) else (0, strOfNums x3)) := by
     by_cases h : (x3.length : Int) > 40
     ·simp only [if_pos h]; exact Ev.now _
     ·simp only [if_neg h]; exact Ev.now _
    exact hev
   ·refine Ev.step (fun k => by rw [impl_unescape.l0]) ?_
    rw [outI_nil]
    refine Pl.ev_ite_pos ?_ (Ev.now _)
    rw [Pl.toList_data, ha]
    exact List.drop_eq_nil_iff.2 (by omega)
theorem un_both (s : ByteArray) (hs : s.size ≤ 400) : ∀ n i, s.size - i ≤ n → i ≤ s.size → ∃ res : Option (List Int), (∀ x3 : List Int, x3.length ≤ i → Ev (fun k => spec_UnescapeText.l0 k s x3 (i : Int)) (outS x3 res)) ∧ (∀ (a : ByteArray) (x4 : List Int), a.data.toList = s.data.toList.drop i → x4.length ≤ i → Ev (fun k => impl_unescape.l0 k a x4) (outI x4 res)) := fun n i h1 h2 => by
 obtain ⟨res, a, b, _⟩ := un_dec s hs n i h1 h2
 exact ⟨res, a, b⟩
/-! values -/
theorem l1Plain_eq (c : UInt8) : spec_l1Plain.f (c.toNat : Int) = some (Pl.printB c) := by
 unfold spec_l1Plain.f Pl.printB
 by_cases h : (c.toNat : Int) ≥ 32
 ·rw [if_pos h]; congr 1; rw [decide_eq_decide]; omega
 ·rw [if_neg h]; congr 1; rw [eq_comm, decide_eq_false_iff_not]; omega
theorem isPrint_eq (c : UInt8) : impl_isPrint.f (c.toNat : Int) = some (Pl.printB c) := by
 unfold impl_isPrint.f Pl.printB
 by_cases h : (c.toNat : Int) ≥ 32
 ·rw [if_pos h]; congr 1; rw [decide_eq_decide]; omega
 ·rw [if_neg h]; congr 1; rw [eq_comm, decide_eq_false_iff_not]; omega
theorem l1Value_ev {s : ByteArray} {l : List UInt8} (hl : s.data.toList = l) : Ev (fun k => spec_l1Value.f k s) (Pl.valueC l) := by
 have hz := Pl.size_l hl
 unfold spec_l1Value.f Pl.valueC
 by_cases h40 : l.length > 40
 ·rw [if_pos h40]
  exact Pl.ev_ite_pos (by omega) (Ev.now _)
 ·rw [if_neg h40]
  refine Pl.ev_ite_neg (by omega) ?_
  have main := Pl.loop0 (n := l.length) (g := fun k i => spec_l1Value.l0 k s i) (F := fun i => if (l.drop i).all Pl.printB = true then (0 : Int) else 5) ?_ ?_ 0 (Nat.zero_le _)
  ·simpa using main
  ·refine Ev.step (fun k => by rw [spec_l1Value.l0]) ?_
   refine Pl.ev_ite_neg (by omega) (Pl.ev_to (Ev.now _) (by simp))
  ·intro i hi ih
   refine Ev.step (fun k => by rw [spec_l1Value.l0]) ?_
   rw [Pl.drop_get hi, Pl.bt_l hl i hi, Pl.wrap_nat (show i < 9223372036854775807 by omega)]
   simp only [l1Plain_eq, Option.bind_some, List.all_cons]
   refine Pl.ev_ite_pos (by omega) (Pl.ev_ite_pos (by omega) ?_)
   by_cases h : Pl.printB l[i] = true
   ·exact Pl.ev_ite_pos h (Pl.ev_to ih (by simp [h]))
   ·exact Pl.ev_ite_neg h (Pl.ev_to (Ev.now _) (by simp [h]))
theorem arePrint_l {s : ByteArray} {l : List UInt8} (hl : s.data.toList = l) (hs : l.length < 9223372036854775807) : Ev (fun k => impl_areAll__impl_isPrint.f k s) (l.all Pl.printB) := by
 have hz := Pl.size_l hl
 unfold impl_areAll__impl_isPrint.f
 rw [hz]
 have main := Pl.loop0 (n := l.length) (g := fun k i => impl_areAll__impl_isPrint.l0 k s (l.length : Int) i) (F := fun i => (l.drop i).all Pl.printB) ?_ ?_ 0 (Nat.zero_le _)
 ·simpa using main
 ·refine Ev.step (fun k => by rw [impl_areAll__impl_isPrint.l0]) ?_
  exact Pl.ev_ite_neg (by omega) (Pl.ev_to (Ev.now _) (by simp))
 ·intro i hi ih
  refine Ev.step (fun k => by rw [impl_areAll__impl_isPrint.l0]) ?_
  rw [Pl.drop_get hi, Pl.bt_l hl i hi, Pl.wrap_nat (show i < 9223372036854775807 by omega)]
  simp only [isPrint_eq, Option.bind_some, List.all_cons]
  refine Pl.ev_ite_pos (by omega) (Pl.ev_ite_pos (by omega) (Pl.ev_ite_pos (by omega) ?_))
  cases h : Pl.printB l[i]
  ·exact Pl.ev_ite_neg (by simp) (Ev.now _)
  ·refine Pl.ev_ite_pos rfl ?_
   rw [Bool.true_and]
   exact ih
theorem implValue_ev {s : ByteArray} {l : List UInt8} (hl : s.data.toList = l) (hs : l.length < 9223372036854775807) : Ev (fun k => impl_valueFault.f k s) (Pl.valueC l) := by
 have hz := Pl.size_l hl
 unfold impl_valueFault.f
 simp only [codeIf_eq, Option.bind_some]
 refine Pl.ev_bind' (arePrint_l hl hs) ?_
 refine Pl.ev_bind' (firstCode_ev _ (by simp)) (Pl.ev_to (Ev.now _) ?_)
 unfold Pl.valueC
 by_cases h40 : l.length > 40
 ·rw [if_pos h40]
  simp [Pl.firstC, hz]
  omega
 ·rw [if_neg h40]
  cases l.all Pl.printB
  ·simp [Pl.firstC, hz]
   omega
  ·simp [Pl.firstC, hz]
   omega
/-! the written form -/
theorem app_arr (L M : List UInt8) : (⟨L.toArray⟩ : ByteArray) ++ ⟨M.toArray⟩ = ⟨(L ++ M).toArray⟩ := by
 apply ByteArray.ext
 rw [ByteArray.data_append]
 simp
theorem extract_one (s : ByteArray) (i : Nat) (hi : i < s.data.toList.length) : s.extract i (i + 1) = ⟨[s.data.toList[i]].toArray⟩ := by
 apply ByteArray.ext
 rw [ByteArray.data_extract]
 have hi' : i < s.data.size := by simpa using hi
 have hzz : s.data.size = s.size := rfl
 apply Array.ext
 ·simp
  omega
 ·intro k h1 h2
  have : k = 0 := by simp at h2; exact h2
  subst this
  simp
theorem arr_size (L : List UInt8) : (⟨L.toArray⟩ : ByteArray).size = L.length := by simp [ByteArray.size]
theorem specEsc_ev (s : ByteArray) (hs : s.size ≤ 1000000) : Ev (fun k => spec_l1Escape.f k s) (escB s) := by
 have hz : s.data.toList.length = s.size := rfl
 unfold spec_l1Escape.f
 have main := Pl.loop (n := s.data.toList.length) (g := fun k i acc => spec_l1Escape.l0 k s acc i) (F := fun _ _ => escB s) (fun i acc => acc = ⟨(escL (s.data.toList.take i)).toArray⟩) ?_ ?_ 0 (⟨#[]⟩ : ByteArray) (Nat.zero_le _) rfl
 ·exact main
 ·rintro acc rfl
  refine Ev.step (fun k => by rw [spec_l1Escape.l0]) ?_
  refine Pl.ev_ite_neg (by omega) (Pl.ev_to (Ev.now _) ?_)
  rw [List.take_length]
  rfl
 ·rintro i acc hi rfl ih
  refine Ev.step (fun k => by rw [spec_l1Escape.l0]) ?_
  have hle := (escL_le (s.data.toList.take i)).2
  have hlt : (s.data.toList.take i).length = i := List.length_take_of_le (Nat.le_of_lt hi)
  have hst := escL_step s.data.toList i hi
  rw [Pl.bt_l rfl i hi, Pl.wrap_nat (show i < 9223372036854775807 by omega)]
  refine Pl.ev_ite_pos (by omega) (Pl.ev_ite_pos (by omega) ?_)
  rw [arr_size]
  rcases repOf_cases s.data.toList[i] with ⟨e, e2⟩ | ⟨e, e2⟩ | ⟨e, e2⟩ | ⟨e, e2⟩ | ⟨n1, n2, n3, n4, e2⟩
  ·rw [e]
   refine Pl.ev_ite_neg (by decide) (Pl.ev_ite_neg (by decide) (Pl.ev_ite_neg (by decide) (Pl.ev_ite_pos (by decide) (Pl.ev_ite_pos (by omega) ?_))))
   refine ih _ ?_
   rw [hst, esc1_some e2]
   exact app_arr _ [38, 113, 117, 111, 116, 59]
  ·rw [e]
   refine Pl.ev_ite_neg (by decide) (Pl.ev_ite_neg (by decide) (Pl.ev_ite_pos (by decide) (Pl.ev_ite_pos (by omega) ?_)))
   refine ih _ ?_
   rw [hst, esc1_some e2]
   exact app_arr _ [38, 97, 109, 112, 59]
  ·rw [e]
   refine Pl.ev_ite_neg (by decide) (Pl.ev_ite_pos (by decide) (Pl.ev_ite_pos (by omega) ?_))
   refine ih _ ?_
   rw [hst, esc1_some e2]
   exact app_arr _ [38, 103, 116, 59]
  ·rw [e]
   refine Pl.ev_ite_pos (by decide) (Pl.ev_ite_pos (by omega) ?_)
   refine ih _ ?_
   rw [hst, esc1_some e2]
   exact app_arr _ [38, 108, 116, 59]
  ·have ne : ∀ m : UInt8, s.data.toList[i] ≠ m → ((s.data.toList[i].toNat : Nat) : Int) ≠ ((m.toNat : Nat) : Int) := fun m h e => h (UInt8.toNat_inj.1 (by omega))
   refine Pl.ev_ite_neg (ne 60 n4) (Pl.ev_ite_neg (ne 62 n3) (Pl.ev_ite_neg (ne 38 n2) (Pl.ev_ite_neg (ne 34 n1) (Pl.ev_ite_pos (by omega) (Pl.ev_ite_pos (by omega) ?_)))))
   have ex : s.extract (i : Int).toNat ((i : Int) + 1).toNat = ⟨[s.data.toList[i]].toArray⟩ := by
    rw [show ((i : Int)).toNat = i by omega, show ((i : Int) + 1).toNat = i + 1 by omega]
    exact extract_one s i hi
   rw [ex, arr_size]
   refine Pl.ev_ite_pos (by simp; omega) ?_
   refine ih _ ?_
   rw [hst, esc1_none e2]
   exact app_arr _ _
theorem self_print {c : UInt8} (h : Pl.printB c = true) (h1 : c ≠ 60) (h2 : c ≠ 62) (h3 : c ≠ 34) : selfB c = true := by
 have hp : 32 ≤ c.toNat ∧ c.toNat ≤ 126 := of_decide_eq_true h
 have ne : ∀ m : UInt8, c ≠ m → c.toNat ≠ m.toNat := fun m h e => h (UInt8.toNat_inj.1 e)
 exact decide_eq_true ⟨hp.1, hp.2, ne 60 h1, ne 62 h2, ne 34 h3⟩
theorem step_esc (c : UInt8) (hc : Pl.printB c = true) (r : List UInt8) : stepU (esc1 c ++ r) = some (c, r) := by
 rcases repOf_cases c with ⟨e, e2⟩ | ⟨e, e2⟩ | ⟨e, e2⟩ | ⟨e, e2⟩ | ⟨n1, n2, n3, n4, e2⟩
 ·rw [esc1_some e2, e]
  exact (stepU_at (N := [113, 117, 111, 116]) (r := r) (by decide)).trans (by rw [show entB [113, 117, 111, 116] = some 34 from by decide]; rfl)
 ·rw [esc1_some e2, e]
  exact (stepU_at (N := [97, 109, 112]) (r := r) (by decide)).trans (by rw [show entB [97, 109, 112] = some 38 from by decide]; rfl)
 ·rw [esc1_some e2, e]
  exact (stepU_at (N := [103, 116]) (r := r) (by decide)).trans (by rw [show entB [103, 116] = some 62 from by decide]; rfl)
 ·rw [esc1_some e2, e]
  exact (stepU_at (N := [108, 116]) (r := r) (by decide)).trans (by rw [show entB [108, 116] = some 60 from by decide]; rfl)
 ·rw [esc1_none e2]
  show (if c = 38 then _ else if selfB c = true then some (c, r) else none) = _
  rw [if_neg n2, if_pos (self_print hc n4 n3 n1)]
theorem dec_esc : ∀ (l : List UInt8) (f : Nat), l.length ≤ f → l.all Pl.printB = true → decF f (escL l) = some l
 | [], f, _, _ => decF_nil f
 | c :: l, 0, h, _ => absurd h (by simp)
 | c :: l, f + 1, h, hp => by
  rw [List.all_cons, Bool.and_eq_true] at hp
  have ih := dec_esc l f (by simpa using h) hp.2
  have hs := step_esc c hp.1 (escL l)
  rw [escL_cons]
  obtain ⟨x, y, e⟩ : ∃ x y, esc1 c ++ escL l = x :: y := by
   have := (esc1_len c).1
   cases hq : esc1 c with
   | nil => rw [hq] at this; simp at this
   | cons x y => exact ⟨x, y ++ escL l, rfl⟩
  rw [e] at hs ⊢
  rw [decF_cons, hs]
  show (decF f (escL l)).map (c :: ·) = _
  rw [ih]
  rfl
theorem numB_print {D : List UInt8} {b : UInt8} (h : numB D = some b) : Pl.printB b = true := by
 unfold numB at h
 split at h
 ·rename_i q
  obtain ⟨_, _, _, h1, h2⟩ := q
  cases h
  exact decide_eq_true (by rw [UInt8.toNat_ofNat']; omega)
 ·cases h
theorem ent_print {N : List UInt8} {b : UInt8} (h : entB N = some b) : Pl.printB b = true := by
 unfold entB at h
 split at h
 ·cases h; decide
 split at h
 ·cases h; decide
 split at h
 ·cases h; decide
 split at h
 ·cases h; decide
 split at h
 ·cases h; decide
 split at h
 ·cases h
 ·split at h
  ·exact numB_print h
  ·cases h
theorem step_print {l : List UInt8} {b : UInt8} {r : List UInt8} (h : stepU l = some (b, r)) : Pl.printB b = true := by
 cases l with
 | nil => cases h
 | cons c t =>
  by_cases hb : c = 38
  ·subst hb
   rcases split59 t with h' | ⟨N, r', h', rfl⟩
   ·rw [stepU_not h'] at h; cases h
   ·rw [stepU_at h'] at h
    cases he : entB N with
    | none => rw [he] at h; cases h
    | some x =>
     rw [he] at h
     obtain ⟨rfl, rfl⟩ : x = b ∧ r' = r := by simpa using h
     exact ent_print he
  ·change (if c = 38 then _ else _) = _ at h
   rw [if_neg hb] at h
   by_cases hs : selfB c = true
   ·rw [if_pos hs] at h
    obtain ⟨rfl, rfl⟩ : c = b ∧ t = r := by simpa using h
    have := of_decide_eq_true hs
    exact decide_eq_true ⟨this.1, this.2.1⟩
   ·rw [if_neg hs] at h; cases h
theorem dec_print : ∀ (f : Nat) (l ys : List UInt8), decF f l = some ys → ys.all Pl.printB = true
 | f, [], ys, h => by
  rw [decF_nil] at h
  cases h
  rfl
 | 0, _ :: _, _, h => by cases h
 | f + 1, c :: t, ys, h => by
  rw [decF_cons] at h
  cases hs : stepU (c :: t) with
  | none => rw [hs] at h; cases h
  | some br =>
   obtain ⟨b, r⟩ := br
   rw [hs] at h
   change (decF f r).map (b :: ·) = some ys at h
   cases hd : decF f r with
   | none => rw [hd] at h; cases h
   | some zs =>
    rw [hd] at h
    cases h
    rw [List.all_cons, step_print hs, dec_print f r zs hd]
    rfl
theorem nums_l (l : List UInt8) : strOfNums (l.map fun b => (b.toNat : Int)) = ⟨l.toArray⟩ := by
 apply ByteArray.ext
 have e : ((fun n : Int => UInt8.ofNat n.toNat) ∘ fun b : UInt8 => (b.toNat : Int)) = id := by
  funext b
  simp
 unfold strOfNums
 simp [e]
theorem esc1_not (c : UInt8) : ∀ x ∈ esc1 c, x ≠ 60 ∧ x ≠ 62 ∧ x ≠ 34 := by
 rcases repOf_cases c with ⟨e, e2⟩ | ⟨e, e2⟩ | ⟨e, e2⟩ | ⟨e, e2⟩ | ⟨n1, n2, n3, n4, e2⟩
 ·rw [esc1_some e2]
  decide
 ·rw [esc1_some e2]
  decide
 ·rw [esc1_some e2]
  decide
 ·rw [esc1_some e2]
  decide
 ·rw [esc1_none e2]
  intro x hx
  rw [List.mem_singleton] at hx
  subst hx
  exact ⟨n4, n3, n1⟩
theorem escL_not (l : List UInt8) : ∀ x ∈ escL l, x ≠ 60 ∧ x ≠ 62 ∧ x ≠ 34 := by
 intro x hx
 unfold escL at hx
 obtain ⟨c, _, h⟩ := List.mem_flatMap.1 hx
 exact esc1_not c x h
theorem impl_ev (s : ByteArray) (hs : s.size ≤ 400) (res : Option (List Int)) (h : Ev (fun k => impl_unescape.f k s) (outI [] res)) : Ev (fun k => impl_UnescapeText.f k s) (outS [] res) := by
 unfold impl_UnescapeText.f
 refine Pl.ev_ite_neg (by omega) (Pl.ev_bind' h ?_)
 simp only [codeIf_eq, Option.bind_some]
 cases res with
 | none =>
  refine Pl.ev_bind' (firstCode_ev _ (by simp)) ?_
  refine Pl.ev_ite_neg ?_ (Pl.ev_to (Ev.now _) ?_)
  ·show ¬ Pl.firstC [if (!false) = true then 5 else 0, if decide ((0 : Int) > 40) = true then 2 else 0] = 0
   decide
  ·rfl
 | some ys =>
  rw [outI_nil2, outS_nil2]
  refine Pl.ev_bind' (firstCode_ev _ (by simp)) ?_
  have hz : ((strOfNums ys).size : Int) = (ys.length : Int) := by
   unfold strOfNums
   rw [← Pl.size_toList]
   simp
  by_cases h40 : (ys.length : Int) > 40
  ·have e : Pl.firstC [if (!(strOfNums ys, true).2) = true then (5 : Int) else 0, if decide (((strOfNums ys, true).1.size : Int) > 40) = true then 2 else 0] = 2 := by
    simp only [hz, decide_eq_true h40]
    rfl
   rw [e, if_pos h40]
   exact Pl.ev_ite_neg (by decide) (Ev.now _)
  ·have e : Pl.firstC [if (!(strOfNums ys, true).2) = true then (5 : Int) else 0, if decide (((strOfNums ys, true).1.size : Int) > 40) = true then 2 else 0] = 0 := by
    simp only [hz, decide_eq_false h40]
    rfl
   rw [e, if_neg h40]
   exact Pl.ev_ite_pos rfl (Ev.now _)
theorem valueC_cases (l : List UInt8) : (Pl.valueC l = 0 ∧ l.length ≤ 40) ∨ Pl.valueC l ≠ 0 := by
 unfold Pl.valueC
 by_cases h : l.length > 40
 ·rw [if_pos h]
  exact .inr (by decide)
 ·rw [if_neg h]
  by_cases h2 : l.all Pl.printB = true
  ·rw [if_pos h2]
   exact .inl ⟨rfl, by omega⟩
  ·rw [if_neg h2]
   exact .inr (by decide)
def escR (s : ByteArray) : Int × ByteArray := if Pl.valueC s.data.toList = 0 then (0, escB s) else (Pl.valueC s.data.toList, (⟨#[]⟩ : ByteArray))
theorem esc_ev (s : ByteArray) (hs : s.size ≤ 1048576) : Ev (fun k => spec_EscapeText.f k s) (escR s) ∧ Ev (fun k => impl_EscapeText.f k s) (escR s) := by
 have hz : s.data.toList.length = s.size := rfl
 have v1 := l1Value_ev (s := s) rfl
 have v2 := implValue_ev (s := s) rfl (by omega)
 unfold escR
 rcases valueC_cases s.data.toList with ⟨e, h40⟩ | e
 ·rw [if_pos e]
  refine ⟨?_, ?_⟩
  ·unfold spec_EscapeText.f
   exact Pl.ev_bind' v1 (Pl.ev_ite_pos e (Pl.ev_bind' (specEsc_ev s (by omega)) (Ev.now _)))
  ·unfold impl_EscapeText.f
   refine Pl.ev_bind' v2 (Pl.ev_ite_pos e (Pl.ev_bind' (a := escB s) ?_ (Ev.now _)))
   rw [show impl_escape.f s = some (escB s) from if_pos (by omega)]
   exact Ev.now _
 ·rw [if_neg e]
  refine ⟨?_, ?_⟩
  ·unfold spec_EscapeText.f
   exact Pl.ev_bind' v1 (Pl.ev_ite_neg e (Ev.now _))
  ·unfold impl_EscapeText.f
   exact Pl.ev_bind' v2 (Pl.ev_ite_neg e (Ev.now _))
def unR (s : ByteArray) : Int × ByteArray := if s.size ≤ 400 then outS [] (toI (decF 400 s.data.toList)) else (2, (⟨#[]⟩ : ByteArray))
theorem un_ev (s : ByteArray) (hs : s.size ≤ 1048576) : Ev (fun k => spec_UnescapeText.f k s) (unR s) ∧ Ev (fun k => impl_UnescapeText.f k s) (unR s) := by
 unfold unR
 by_cases h : s.size ≤ 400
 ·rw [if_pos h]
  obtain ⟨res, h1, h2, h3⟩ := un_dec s h 400 0 (by omega) (by omega)
  rw [List.drop_zero] at h3
  rw [← h3]
  refine ⟨?_, impl_ev s h res (h2 s [] rfl (Nat.le_refl _))⟩
  unfold spec_UnescapeText.f
  exact Pl.ev_ite_neg (by omega) (h1 [] (Nat.le_refl _))
 ·rw [if_neg h]
  refine ⟨?_, ?_⟩
  ·unfold spec_UnescapeText.f
   exact Pl.ev_ite_pos (by omega) (Ev.now _)
  ·unfold impl_UnescapeText.f
   exact Pl.ev_ite_pos (by omega) (Ev.now _)
theorem outS_l (l : List UInt8) : outS [] (toI (some l)) = if l.length ≤ 40 then (0, (⟨l.toArray⟩ : ByteArray)) else (2, (⟨#[]⟩ : ByteArray)) := by
 show outS [] (some (l.map fun b => (b.toNat : Int))) = _
 rw [outS_nil2, nums_l, List.length_map]
 by_cases h : l.length ≤ 40
 ·rw [if_pos h, if_neg (by omega)]
 ·rw [if_neg h, if_pos (by omega)]
theorem value_ok (l : List UInt8) (h : l.length ≤ 40) (hp : l.all Pl.printB = true) : Pl.valueC l = 0 := by
 unfold Pl.valueC
 rw [if_neg (by omega), if_pos hp]
theorem un_ok (s : ByteArray) (h : (unR s).1 = 0) : Pl.valueC (unR s).2.data.toList = 0 := by
 unfold unR at h ⊢
 by_cases h4 : s.size ≤ 400
 ·rw [if_pos h4] at h ⊢
  cases hd : decF 400 s.data.toList with
  | none => rw [hd] at h; cases h
  | some l =>
   rw [hd, outS_l] at h
   rw [outS_l]
   by_cases hl : l.length ≤ 40
   ·rw [if_pos hl]
    exact value_ok l hl (dec_print _ _ _ hd)
   ·rw [if_neg hl] at h; cases h
 ·rw [if_neg h4] at h
  cases h
theorem un_esc (t : ByteArray) (h : Pl.valueC t.data.toList = 0) : unR (escB t) = (0, t) := by
 rcases valueC_cases t.data.toList with ⟨_, h40⟩ | e
 ·have hp : t.data.toList.all Pl.printB = true := by
   unfold Pl.valueC at h
   rw [if_neg (by omega)] at h
   by_cases hq : t.data.toList.all Pl.printB = true
   ·exact hq
   ·rw [if_neg hq] at h; cases h
  have hz : (escB t).size ≤ 6 * t.data.toList.length := by
   have h2 := (escL_le t.data.toList).2
   have e : (escB t).size = (escL t.data.toList).length := by simp [escB, ByteArray.size]
   omega
  unfold unR
  rw [if_pos (by omega)]
  have e : (escB t).data.toList = escL t.data.toList := by simp [escB]
  rw [e, dec_esc _ 400 (by omega) hp, outS_l, if_pos h40]
 ·exact absurd h e
def codeOk (c : List Int) : Prop := c.length ≤ 1048577 ∧ ∀ x ∈ c, 0 ≤ x ∧ x ≤ 255
theorem wf_u8 {x : Int} (h : (Lit.int .u8 x).wf = true) : 0 ≤ x ∧ x ≤ 255 := by
 simp [Lit.wf, IntKind.min, IntKind.max, IntKind.signed, IntKind.bits] at h
 omega
theorem codeOk_of {c : List Int} (h : ¬ (c.length : Int) > 1048576) (hc : ∀ x ∈ c, (Lit.int .u8 x).wf = true) : codeOk c := ⟨by omega, fun x hx => wf_u8 (hc x hx)⟩
theorem rd_byte {c : List Int} (hc : ∀ x ∈ c, 0 ≤ x ∧ x ≤ 255) (i : Int) : 0 ≤ rd c i ∧ rd c i ≤ 255 := by
 unfold rd
 rw [List.getD_eq_getElem?_getD]
 cases h : c[i.toNat]? with
 | none => simp
 | some x => exact hc x (List.mem_of_getElem? h)
theorem tmod_in {x n : Int} (hx : 0 ≤ x) (hn : 0 < n) : 0 ≤ Int.tmod x n ∧ Int.tmod x n < n := by
 rw [Int.tmod_eq_emod_of_nonneg hx]
 exact ⟨Int.emod_nonneg _ (by omega), Int.emod_lt_of_pos _ hn⟩
theorem tdiv_in {x n : Int} (hx : 0 ≤ x) (hn : 0 < n) : 0 ≤ Int.tdiv x n ∧ Int.tdiv x n ≤ x := by
 rw [Int.tdiv_eq_ediv_of_nonneg hx]
 exact ⟨Int.ediv_nonneg hx (by omega), Int.ediv_le_self _ hx⟩
theorem next_ev {c : List Int} (hc : codeOk c) (a : Int) (h0 : 0 ≤ a) (h1 : a ≤ 1000000) (n : Int) (n0 : 1 ≤ n) (n1 : n ≤ 1000000) : ∃ v, spec_l1Next.f c a n = some (v, a + 1) ∧ 0 ≤ v ∧ v < n := by
 obtain ⟨hl, hb⟩ := hc
 unfold spec_l1Next.f
 have e1 : wrap64 (a + 1) = a + 1 := Pl.wrap_in (by omega) (by omega)
 have e2 : wrap64 (a + 1 - 1) = a := by rw [Pl.wrap_in (by omega) (by omega)]; omega
 rw [if_neg (by omega), e1, e2]
 by_cases k0 : (c.length : Int) = 0
 ·rw [if_pos k0, if_neg (by omega), Pl.wrap_in (x := a * 7) (by omega) (by omega)]
  exact ⟨_, rfl, tmod_in (by omega) (by omega)⟩
 ·obtain ⟨t0, t1⟩ := tmod_in (x := a) (n := (c.length : Int)) h0 (by omega)
  obtain ⟨d0, d1⟩ := tdiv_in (x := a) (n := (c.length : Int)) h0 (by omega)
  obtain ⟨b0, b1⟩ := rd_byte hb (Int.tmod a (c.length : Int))
  rw [if_neg k0, if_pos t0, if_pos t1]
  have w1 : wrap64 (rd c (Int.tmod a (c.length : Int))) = rd c (Int.tmod a (c.length : Int)) := Pl.wrap_in (by omega) (by omega)
  have w2 : wrap64 (Int.tdiv a (c.length : Int)) = Int.tdiv a (c.length : Int) := Pl.wrap_in (by omega) (by omega)
  have w3 : wrap64 (Int.tdiv a (c.length : Int) * 37) = Int.tdiv a (c.length : Int) * 37 := Pl.wrap_in (by omega) (by omega)
  have w4 : wrap64 (rd c (Int.tmod a (c.length : Int)) + Int.tdiv a (c.length : Int) * 37) = rd c (Int.tmod a (c.length : Int)) + Int.tdiv a (c.length : Int) * 37 := Pl.wrap_in (by omega) (by omega)
  by_cases big : n > 200
  ·obtain ⟨u0, u1⟩ := tmod_in (x := a + 1) (n := (c.length : Int)) (by omega) (by omega)
   obtain ⟨q0, q1⟩ := rd_byte hb (Int.tmod (a + 1) (c.length : Int))
   rw [if_pos big, e1, if_pos u0, if_pos u1, if_neg (by omega), w1, w2, w3, w4]
   have w5 : wrap64 (rd c (Int.tmod (a + 1) (c.length : Int))) = rd c (Int.tmod (a + 1) (c.length : Int)) := Pl.wrap_in (by omega) (by omega)
   rw [w5]
   refine ⟨_, rfl, tmod_in ?_ (by omega)⟩
   rw [Pl.wrap_in (x := (rd c (Int.tmod a (c.length : Int)) + Int.tdiv a (c.length : Int) * 37) * 251) (by omega) (by omega), Pl.wrap_in (x := rd c (Int.tmod (a + 1) (c.length : Int)) * 13) (by omega) (by omega)]
   rw [Pl.wrap_in (x := (rd c (Int.tmod a (c.length : Int)) + Int.tdiv a (c.length : Int) * 37) * 251 + rd c (Int.tmod (a + 1) (c.length : Int)) * 13) (by omega) (by omega), Pl.wrap_in (by omega) (by omega)]
   omega
  ·rw [if_neg big, if_neg (by omega), w1, w2, w3, w4]
   exact ⟨_, rfl, tmod_in (by omega) (by omega)⟩
theorem pick_ev {c : List Int} (hc : codeOk c) (a : Int) (h0 : 0 ≤ a) (h1 : a ≤ 1000000) (l : List Int) (l0 : 1 ≤ l.length) (l1 : l.length ≤ 1000) : ∃ v, spec_l1Pick.f c a l = some (v, a + 1) ∧ v ∈ l := by
 obtain ⟨v, e, v0, v1⟩ := next_ev hc a h0 h1 (l.length : Int) (by omega) (by omega)
 unfold spec_l1Pick.f
 rw [e, Option.bind_some]
 refine ⟨rd l v, by rw [if_pos v0, if_pos v1], ?_⟩
 obtain ⟨i, rfl⟩ : ∃ i : Nat, v = i := ⟨v.toNat, by omega⟩
 rw [Pl.rd_get l i (by omega)]
 exact List.getElem_mem _
end Go.Proofs.YthoamjobclfjjaaGreatDoor.K
