/- The bytes that a text written with marks of its own stands for, step by step, in plain words: no program in sight. No condition. -/
import Derived.Test.YtmppibhdnajjjaaDoorXPure
import Derived.Lib.IndexMore
import Derived.Lib.ParseIntB
import Derived.Test.YtmppibhdnajjjaaDoorKH
namespace Go.Proofs.YtmppibhdnajjjaaDoor.K
set_option linter.unusedVariables false
set_option linter.unusedSimpArgs false
open Go.RowKit Go.Proofs.YtmppibhdnajjjaaDoor Go.Proofs.YtmppibhdnajjjaaDoorW.PrintWords Go.Proofs.YtmppibhdnajjjaaDoorW.PrintLast
theorem index_cons (b : UInt8) (l : List UInt8) (c : UInt8) : Lib.index (b :: l) [c] = if b = c then 0 else if Lib.index l [c] = -1 then -1 else Lib.index l [c] + 1 := by
  have e : [c].isPrefixOf (b :: l) = (b == c) := by
    simp only [List.isPrefixOf, Bool.and_true]
    rw [Bool.eq_iff_iff]
    simp only [beq_iff_eq]
    exact eq_comm
  rw [Lib.index, e]
  simp only [beq_iff_eq]
theorem index_not : ∀ l : List UInt8, (59 : UInt8) ∉ l → Lib.index l [59] = -1
  | [], _ => rfl
  | b :: l, h => by
    rw [List.mem_cons, not_or] at h
    rw [index_cons, if_neg (fun e => h.1 e.symm), index_not l h.2, if_pos rfl]
theorem index_at : ∀ N r : List UInt8, (59 : UInt8) ∉ N → Lib.index (N ++ 59 :: r) [59] = (N.length : Int)
  | [], r, _ => by
    rw [List.nil_append, index_cons, if_pos rfl]
    rfl
  | b :: N, r, h => by
    rw [List.mem_cons, not_or] at h
    rw [List.cons_append, index_cons, if_neg (fun e => h.1 e.symm), index_at N r h.2, if_neg (by omega), List.length_cons]
    omega
theorem cut_not (l : List UInt8) (h : (59 : UInt8) ∉ l) : Lib.cut l [59] = (l, [], false) := by
  unfold Lib.cut
  rw [index_not l h]
  rfl
theorem cut_at (N r : List UInt8) (h : (59 : UInt8) ∉ N) : Lib.cut (N ++ 59 :: r) [59] = (N, r, true) := by
  unfold Lib.cut
  rw [index_at N r h, if_pos (by omega)]
  simp
theorem split59 (l : List UInt8) : (59 : UInt8) ∉ l ∨ ∃ N r, (59 : UInt8) ∉ N ∧ l = N ++ 59 :: r := by
  by_cases h : (59 : UInt8) ∈ l
  · right
    obtain ⟨a, b, e, h⟩ := List.eq_append_cons_of_mem h
    exact ⟨a, b, h, e⟩
  · exact .inl h
theorem app_inj : ∀ M N x r : List UInt8, (59 : UInt8) ∉ M → (59 : UInt8) ∉ N → M ++ 59 :: x = N ++ 59 :: r → M = N ∧ x = r
  | [], [], x, r, _, _, h => by simpa using h
  | [], b :: N, x, r, _, hN, h => by
    rw [List.nil_append, List.cons_append, List.cons.injEq] at h
    rw [List.mem_cons, not_or] at hN
    exact absurd h.1 hN.1
  | a :: M, [], x, r, hM, _, h => by
    rw [List.nil_append, List.cons_append, List.cons.injEq] at h
    rw [List.mem_cons, not_or] at hM
    exact absurd h.1.symm hM.1
  | a :: M, b :: N, x, r, hM, hN, h => by
    rw [List.cons_append, List.cons_append, List.cons.injEq] at h
    rw [List.mem_cons, not_or] at hM hN
    obtain ⟨rfl, e⟩ := app_inj M N x r hM.2 hN.2 h.2
    rw [h.1]
    exact ⟨rfl, e⟩
/-- The number that digits are. -/
def vF (a : Nat) (d : List UInt8) : Nat := d.foldl (fun a c => a * 10 + (c.toNat - 48)) a
theorem vF_ge : ∀ (d : List UInt8) (a : Nat), a ≤ vF a d
  | [], a => Nat.le_refl _
  | c :: d, a => by
    have := vF_ge d (a * 10 + (c.toNat - 48))
    show a ≤ vF (a * 10 + (c.toNat - 48)) d
    omega
theorem vF_snoc (a : Nat) (d : List UInt8) (c : UInt8) : vF a (d ++ [c]) = vF a d * 10 + (c.toNat - 48) := by
  unfold vF
  rw [List.foldl_append]
  rfl
theorem dig_is {c : UInt8} (h : Pl.digitB c = true) : 48 ≤ c.toNat ∧ c.toNat ≤ 57 := of_decide_eq_true h
theorem vF_lt : ∀ (d : List UInt8) (a : Nat), d.all Pl.digitB = true → vF a d < (a + 1) * 10 ^ d.length
  | [], a, _ => by simp [vF]
  | c :: d, a, h => by
    rw [List.all_cons, Bool.and_eq_true] at h
    have hc := dig_is h.1
    have h1 := vF_lt d (a * 10 + (c.toNat - 48)) h.2
    show vF (a * 10 + (c.toNat - 48)) d < _
    refine Nat.lt_of_lt_of_le h1 ?_
    rw [List.length_cons, Nat.pow_succ, Nat.mul_comm (10 ^ d.length) 10, ← Nat.mul_assoc]
    exact Nat.mul_le_mul_right _ (by omega)
theorem pM_ok : ∀ (d : List UInt8) (a : Nat), d.all Pl.digitB = true → vF a d ≤ 60000 → Lib.parseUintM (2 ^ 16 - 1) a d = .ok (vF a d)
  | [], a, _, _ => rfl
  | c :: d, a, ha, hv => by
    rw [List.all_cons, Bool.and_eq_true] at ha
    have hc := dig_is ha.1
    have h1 := vF_ge d (a * 10 + (c.toNat - 48))
    have e : vF a (c :: d) = vF (a * 10 + (c.toNat - 48)) d := rfl
    rw [e] at hv ⊢
    rw [Lib.parseUintM, if_pos hc, if_neg (by omega), if_neg (by omega)]
    exact pM_ok d _ ha.2 hv
/-- One to three digits that are the number of a printable byte. -/
def numB (D : List UInt8) : Option UInt8 := if D ≠ [] ∧ D.length ≤ 3 ∧ D.all Pl.digitB = true ∧ 32 ≤ vF 0 D ∧ vF 0 D ≤ 126 then some (UInt8.ofNat (vF 0 D)) else none
/-- What a name stands for. -/
def entB (N : List UInt8) : Option UInt8 :=
  if N = [108, 116] then some 60 else if N = [103, 116] then some 62 else if N = [97, 109, 112] then some 38 else if N = [113, 117, 111, 116] then some 34 else if N = [97, 112, 111, 115] then some 39 else
  match N with
  | [] => none
  | c :: D => if c = 35 then numB D else none
theorem entB_num (D : List UInt8) : entB (35 :: D) = numB D := by
  unfold entB
  rw [if_neg (by simp), if_neg (by simp), if_neg (by simp), if_neg (by simp), if_neg (by simp)]
  exact if_pos rfl
/-- What the program's entity tells is what the name stands for. -/
theorem entity_is (a0 : ByteArray) (hs : a0.size ≤ 281474976710656) : ∃ v : Int, impl_entity.f a0 = some (v, (entB a0.data.toList).isSome) ∧ ∀ c, entB a0.data.toList = some c → v = (c.toNat : Int) := by
  unfold impl_entity.f entB
  rw [Pl.toList_data]
  by_cases h1 : a0.data.toList = [108, 116]
  · rw [if_pos h1, if_pos h1]
    exact ⟨60, rfl, fun c hc => by cases hc; rfl⟩
  rw [if_neg h1, if_neg h1]
  by_cases h2 : a0.data.toList = [103, 116]
  · rw [if_pos h2, if_pos h2]
    exact ⟨62, rfl, fun c hc => by cases hc; rfl⟩
  rw [if_neg h2, if_neg h2]
  by_cases h3 : a0.data.toList = [97, 109, 112]
  · rw [if_pos h3, if_pos h3]
    exact ⟨38, rfl, fun c hc => by cases hc; rfl⟩
  rw [if_neg h3, if_neg h3]
  by_cases h4 : a0.data.toList = [113, 117, 111, 116]
  · rw [if_pos h4, if_pos h4]
    exact ⟨34, rfl, fun c hc => by cases hc; rfl⟩
  rw [if_neg h4, if_neg h4]
  by_cases h5 : a0.data.toList = [97, 112, 111, 115]
  · rw [if_pos h5, if_pos h5]
    exact ⟨39, rfl, fun c hc => by cases hc; rfl⟩
  rw [if_neg h5, if_neg h5, if_pos hs]
  unfold entOk entD
  generalize a0.data.toList = N
  clear h1 h2 h3 h4 h5 hs
  cases N with
  | nil => exact ⟨_, rfl, fun c hc => by cases hc⟩
  | cons b D =>
    by_cases hb : b = 35
    · subst hb
      have e1 : Lib.hasPrefix (35 :: D) [35] = true := by simp [Lib.hasPrefix, List.isPrefixOf]
      have e2 : Lib.trimPrefix (35 :: D) [35] = D := by unfold Lib.trimPrefix; rw [if_pos e1]; rfl
      rw [e1, e2]
      show ∃ v : Int, some (((entN D : Nat) : Int) % 256, _) = some (v, (numB D).isSome) ∧ ∀ c, numB D = some c → v = (c.toNat : Int)
      by_cases hD : D ≠ [] ∧ D.length ≤ 3 ∧ D.all Pl.digitB = true
      · have hp : Lib.parseUintB 16 D = .ok (vF 0 D) := by
          unfold Lib.parseUintB
          rw [if_neg hD.1]
          have hlt := vF_lt D 0 hD.2.2
          have : 10 ^ D.length ≤ 10 ^ 3 := Nat.pow_le_pow_right (by omega) hD.2.1
          exact pM_ok D 0 hD.2.2 (by omega)
        have hn : entN D = vF 0 D := by unfold entN; rw [hp]
        have hP : entP D = true := by unfold entP; rw [hp]
        rw [hn, hP, decide_eq_true hD.2.1, hD.2.2]
        unfold numB
        by_cases hr : 32 ≤ vF 0 D ∧ vF 0 D ≤ 126
        · rw [if_pos ⟨hD.1, hD.2.1, hD.2.2, hr⟩, decide_eq_true hr.1, decide_eq_true hr.2]
          refine ⟨_, rfl, fun c hc => ?_⟩
          obtain rfl : UInt8.ofNat (vF 0 D) = c := Option.some.inj hc
          rw [UInt8.toNat_ofNat_of_lt' (by show _ < 256; omega)]
          omega
        · rw [if_neg (fun h => hr h.2.2.2)]
          refine ⟨((vF 0 D : Nat) : Int) % 256, ?_, fun c hc => by cases hc⟩
          congr 2
          by_cases h1 : 32 ≤ vF 0 D
          · rw [decide_eq_true h1, decide_eq_false (fun h => hr ⟨h1, h⟩)]
            rfl
          · rw [decide_eq_false h1]
            rfl
      · have hn : numB D = none := by unfold numB; exact if_neg (fun h => hD ⟨h.1, h.2.1, h.2.2.1⟩)
        rw [hn]
        refine ⟨((entN D : Nat) : Int) % 256, ?_, fun c hc => by cases hc⟩
        congr 2
        by_cases h0 : D = []
        · subst h0; rfl
        · by_cases hl : D.length ≤ 3
          · have ha : D.all Pl.digitB = false := by
              cases h : D.all Pl.digitB
              · rfl
              · exact absurd ⟨h0, hl, h⟩ hD
            rw [ha]
            simp
          · rw [decide_eq_false hl]
            simp
    · have e1 : Lib.hasPrefix (b :: D) [35] = false := by
        unfold Lib.hasPrefix
        rw [List.isPrefixOf, Bool.and_eq_false_iff]
        exact .inl (beq_eq_false_iff_ne.2 (Ne.symm hb))
      rw [e1]
      show ∃ v : Int, some (_, false) = some (v, (if b = 35 then numB D else none : Option UInt8).isSome) ∧ ∀ c, (if b = 35 then numB D else none) = some c → v = (c.toNat : Int)
      rw [if_neg hb]
      exact ⟨_, rfl, fun c hc => by cases hc⟩
/-- A byte that stands for itself. -/
def selfB (c : UInt8) : Bool := decide (32 ≤ c.toNat ∧ c.toNat ≤ 126 ∧ c.toNat ≠ 60 ∧ c.toNat ≠ 62 ∧ c.toNat ≠ 34)
/-- One step: a byte, and what is left. -/
def stepU : List UInt8 → Option (UInt8 × List UInt8)
  | [] => none
  | c :: t => if c = 38 then (if (Lib.cut t [59]).2.2 = true then (entB (Lib.cut t [59]).1).map (fun b => (b, (Lib.cut t [59]).2.1)) else none) else if selfB c = true then some (c, t) else none
theorem stepU_c (t : List UInt8) : stepU (38 :: t) = if (Lib.cut t [59]).2.2 = true then (entB (Lib.cut t [59]).1).map (fun b => (b, (Lib.cut t [59]).2.1)) else none := by
  rw [stepU, if_pos rfl]
theorem stepU_not {t : List UInt8} (h : (59 : UInt8) ∉ t) : stepU (38 :: t) = none := by
  rw [stepU_c, cut_not t h]
  rfl
theorem stepU_at {N r : List UInt8} (h : (59 : UInt8) ∉ N) : stepU (38 :: (N ++ 59 :: r)) = (entB N).map (fun b => (b, r)) := by
  rw [stepU_c, cut_at N r h]
  rfl
/-- The same as the reference counts it: the byte, and how many bytes it takes; 0: none. -/
def oneR (l : List UInt8) : Int × Int := match stepU l with
  | none => (0, 0)
  | some (c, r) => ((c.toNat : Int), (l.length : Int) - (r.length : Int))
theorem stepU_less {l : List UInt8} {c : UInt8} {r : List UInt8} (h : stepU l = some (c, r)) : ∃ p, p ≠ [] ∧ l = p ++ r := by
  cases l with
  | nil => cases h
  | cons b t =>
    by_cases hb : b = 38
    · subst hb
      rcases split59 t with h' | ⟨N, r', h', rfl⟩
      · rw [stepU_not h'] at h; cases h
      · rw [stepU_at h'] at h
        cases he : entB N with
        | none => rw [he] at h; cases h
        | some x =>
          rw [he] at h
          obtain ⟨rfl, rfl⟩ : x = c ∧ r' = r := by simpa using h
          exact ⟨38 :: (N ++ [59]), by simp, by simp⟩
    · change (if b = 38 then _ else _) = _ at h
      rw [if_neg hb] at h
      by_cases hs : selfB b = true
      · rw [if_pos hs] at h
        obtain ⟨rfl, rfl⟩ : b = c ∧ t = r := by simpa using h
        exact ⟨[b], by simp, rfl⟩
      · rw [if_neg hs] at h; cases h
/-- The end of a number: j digits before, that are a. -/
def numE (j a : Nat) (u : List UInt8) : Int × Int := if j = 0 then (0, 0) else if u.head? = some 59 then (if a < 32 ∨ 126 < a then (0, 0) else ((a : Int), (j : Int) + 3)) else (0, 0)
def numL : Nat → Nat → Nat → List UInt8 → Int × Int
  | 0, j, a, u => numE j a u
  | _ + 1, j, a, [] => numE j a []
  | r + 1, j, a, c :: u => if Pl.digitB c = true then numL r (j + 1) (a * 10 + (c.toNat - 48)) u else numE j a (c :: u)
theorem not59 {D : List UInt8} (h : D.all Pl.digitB = true) : (59 : UInt8) ∉ D := fun hm => by
  have := List.all_eq_true.1 h _ hm
  exact absurd this (by decide)
theorem numE_is (D u : List UInt8) (hD : D.all Pl.digitB = true) (h3 : D.length ≤ 3) (hend : D.length = 3 ∨ ∀ c, u.head? = some c → Pl.digitB c = false) : numE D.length (vF 0 D) u = oneR (38 :: 35 :: (D ++ u)) := by
  have hlt := vF_lt D 0 hD
  have h10 : 10 ^ D.length ≤ 10 ^ 3 := Nat.pow_le_pow_right (by omega) h3
  unfold numE
  by_cases hu : u.head? = some 59
  · obtain ⟨r, rfl⟩ : ∃ r, u = 59 :: r := by
      cases u with
      | nil => cases hu
      | cons c r => exact ⟨r, by rw [Option.some.inj hu]⟩
    have h59 : (59 : UInt8) ∉ 35 :: D := by
      rw [List.mem_cons, not_or]
      exact ⟨by decide, not59 hD⟩
    have hst : stepU (38 :: 35 :: (D ++ 59 :: r)) = (entB (35 :: D)).map (fun b => (b, r)) := stepU_at h59
    unfold oneR
    rw [hst, entB_num, if_pos hu]
    unfold numB
    by_cases hj : D = []
    · subst hj; rfl
    · have hj' : ¬ D.length = 0 := fun h => hj (List.length_eq_zero_iff.1 h)
      rw [if_neg hj']
      by_cases hr : 32 ≤ vF 0 D ∧ vF 0 D ≤ 126
      · rw [if_neg (by omega), if_pos ⟨hj, h3, hD, hr⟩]
        show _ = (_, _)
        rw [Prod.mk.injEq]
        constructor
        · rw [UInt8.toNat_ofNat_of_lt' (by show _ < 256; omega)]
        · simp only [List.length_cons, List.length_append]
          omega
      · rw [if_pos (by omega), if_neg (fun h => hr h.2.2.2)]
        rfl
  · have hz : (if D.length = 0 then ((0, 0) : Int × Int) else if u.head? = some 59 then (if vF 0 D < 32 ∨ 126 < vF 0 D then (0, 0) else ((vF 0 D : Int), (D.length : Int) + 3)) else (0, 0)) = (0, 0) := by
      rw [if_neg hu]; split <;> rfl
    rw [hz]
    suffices hs : stepU (38 :: 35 :: (D ++ u)) = none by unfold oneR; rw [hs]
    rcases split59 (35 :: (D ++ u)) with h' | ⟨N, r, h', e⟩
    · exact stepU_not h'
    · rw [e, stepU_at h']
      cases N with
      | nil => cases e
      | cons b N =>
        rw [List.cons_append, List.cons.injEq] at e
        obtain ⟨rfl, e⟩ := e
        rw [entB_num]
        unfold numB
        rw [if_neg]
        · rfl
        · rintro ⟨n0, n3, nd, _⟩
          have g1 : (D ++ u)[N.length]? = some 59 := by rw [e]; simp
          rcases Nat.lt_trichotomy N.length D.length with hlt' | heq | hgt
          · rw [List.getElem?_append_left hlt'] at g1
            exact not59 hD (List.mem_of_getElem? g1)
          · rw [List.getElem?_append_right (by omega), heq, Nat.sub_self] at g1
            exact hu (by rw [List.head?_eq_getElem?]; exact g1)
          · rcases hend with h | h
            · omega
            · have g2 : (D ++ u)[D.length]? = u.head? := by
                rw [List.getElem?_append_right (Nat.le_refl _), Nat.sub_self, List.head?_eq_getElem?]
              rw [e, List.getElem?_append_left hgt, List.getElem?_eq_getElem hgt] at g2
              have := h _ g2.symm
              have hd := List.all_eq_true.1 nd _ (List.getElem_mem hgt)
              rw [hd] at this
              cases this
theorem numL_is : ∀ (r : Nat) (D u : List UInt8), D.all Pl.digitB = true → D.length + r = 3 → numL r D.length (vF 0 D) u = oneR (38 :: 35 :: (D ++ u))
  | 0, D, u, hD, h => numE_is D u hD (by omega) (.inl (by omega))
  | r + 1, D, [], hD, h => numE_is D [] hD (by omega) (.inr fun c hc => by cases hc)
  | r + 1, D, c :: u, hD, h => by
    rw [numL]
    by_cases hc : Pl.digitB c = true
    · rw [if_pos hc]
      have := numL_is r (D ++ [c]) u (by rw [List.all_append, hD]; simp [hc]) (by simp; omega)
      rw [vF_snoc, List.length_append, List.append_assoc] at this
      exact this
    · rw [if_neg hc]
      exact numE_is D (c :: u) hD (by omega) (.inr fun x hx => by cases hx; simpa using hc)
/-- The names that the reference tries, one behind the other. -/
def nameR (t : List UInt8) : Int × Int :=
  if [108, 116, 59].isPrefixOf t = true then (60, 4) else if [103, 116, 59].isPrefixOf t = true then (62, 4) else if [97, 109, 112, 59].isPrefixOf t = true then (38, 5) else if [113, 117, 111, 116, 59].isPrefixOf t = true then (34, 6) else if [97, 112, 111, 115, 59].isPrefixOf t = true then (39, 6) else (0, 0)
theorem pre_not {M t : List UInt8} (h : (59 : UInt8) ∉ t) : (M ++ [59]).isPrefixOf t = false := by
  cases hp : (M ++ [59]).isPrefixOf t
  · rfl
  · rw [List.isPrefixOf_iff_prefix] at hp
    obtain ⟨x, rfl⟩ := hp
    simp at h
theorem pre_at {M N r : List UInt8} (hM : (59 : UInt8) ∉ M) (hN : (59 : UInt8) ∉ N) : (M ++ [59]).isPrefixOf (N ++ 59 :: r) = decide (N = M) := by
  rw [Bool.eq_iff_iff, List.isPrefixOf_iff_prefix, decide_eq_true_iff]
  constructor
  · rintro ⟨x, hx⟩
    rw [List.append_assoc] at hx
    exact (app_inj M N x r hM hN hx).1.symm
  · rintro rfl
    exact ⟨r, by simp⟩
theorem nameR_is (t : List UInt8) (h35 : t.head? ≠ some 35) : nameR t = oneR (38 :: t) := by
  unfold nameR oneR
  rcases split59 t with h | ⟨N, r, h, rfl⟩
  · have e1 := pre_not (M := [108, 116]) h
    have e2 := pre_not (M := [103, 116]) h
    have e3 := pre_not (M := [97, 109, 112]) h
    have e4 := pre_not (M := [113, 117, 111, 116]) h
    have e5 := pre_not (M := [97, 112, 111, 115]) h
    simp only [List.cons_append, List.nil_append] at e1 e2 e3 e4 e5
    rw [e1, e2, e3, e4, e5, stepU_not h]
    rfl
  · have e1 := pre_at (M := [108, 116]) (r := r) (by decide) h
    have e2 := pre_at (M := [103, 116]) (r := r) (by decide) h
    have e3 := pre_at (M := [97, 109, 112]) (r := r) (by decide) h
    have e4 := pre_at (M := [113, 117, 111, 116]) (r := r) (by decide) h
    have e5 := pre_at (M := [97, 112, 111, 115]) (r := r) (by decide) h
    have hl : (((38 :: (N ++ 59 :: r) : List UInt8).length : Nat) : Int) - (r.length : Int) = (N.length : Int) + 2 := by
      simp only [List.length_cons, List.length_append]
      omega
    simp only [List.cons_append, List.nil_append] at e1 e2 e3 e4 e5
    rw [e1, e2, e3, e4, e5, stepU_at h]
    unfold entB
    by_cases h1 : N = [108, 116]
    · rw [decide_eq_true h1, if_pos rfl, if_pos h1]
      show _ = (((60 : UInt8).toNat : Int), _)
      rw [hl, h1]; rfl
    rw [decide_eq_false h1, if_neg Bool.false_ne_true, if_neg h1]
    by_cases h2 : N = [103, 116]
    · rw [decide_eq_true h2, if_pos rfl, if_pos h2]
      show _ = (((62 : UInt8).toNat : Int), _)
      rw [hl, h2]; rfl
    rw [decide_eq_false h2, if_neg Bool.false_ne_true, if_neg h2]
    by_cases h3 : N = [97, 109, 112]
    · rw [decide_eq_true h3, if_pos rfl, if_pos h3]
      show _ = (((38 : UInt8).toNat : Int), _)
      rw [hl, h3]; rfl
    rw [decide_eq_false h3, if_neg Bool.false_ne_true, if_neg h3]
    by_cases h4 : N = [113, 117, 111, 116]
    · rw [decide_eq_true h4, if_pos rfl, if_pos h4]
      show _ = (((34 : UInt8).toNat : Int), _)
      rw [hl, h4]; rfl
    rw [decide_eq_false h4, if_neg Bool.false_ne_true, if_neg h4]
    by_cases h5 : N = [97, 112, 111, 115]
    · rw [decide_eq_true h5, if_pos rfl, if_pos h5]
      show _ = (((39 : UInt8).toNat : Int), _)
      rw [hl, h5]; rfl
    rw [decide_eq_false h5, if_neg Bool.false_ne_true, if_neg h5]
    cases N with
    | nil => rfl
    | cons b D =>
      have hb : ¬ b = 35 := fun e => h35 (by rw [e]; rfl)
      simp only [if_neg hb]
      rfl
end Go.Proofs.YtmppibhdnajjjaaDoor.K
