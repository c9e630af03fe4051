/- Trees of steps: what they say in memory, where their steps' rows lie in a world that was before; what the reference makes of them, as plain functions. No condition. spec.l7Grow walked: a process as a tree. No condition but what it states. spec.l7Plain walked: a tree made plain. No condition but what it states. spec.l7Flat walked: a tree as steps behind others; spec.l7PlainOf and spec.IsPlain. No condition but what each states. spec.l7PlainOf and spec.IsPlain walked: a process made plain; whether it is as it was. No condition but what each states. impl.IsPlain walked. No condition but what it states. -/
import Derived.Test.YtjbcpghpafacaaaI7
import Derived.Test.YtjbcpghpafacaaaI11
import Derived.Test.YtjbcpghpafacaaaI10
import Derived.Test.YtjbcpghpafacaaaI19
import Derived.Test.YtjbcpghpafacaaaI17
namespace Go.Proofs.Ytjbcpghpafacaaa.I
set_option linter.unusedVariables false
set_option linter.unusedSimpArgs false
open Go.RowKit Go.Proofs.Ytjbcpghpafacaaa Go.Proofs.YtjbcpghpafacaaaW.PrintWords Go.Proofs.YtjbcpghpafacaaaW.PrintLast Go.Proofs.YtjbcpghpafacaaaW.PrintMore
abbrev Sp := S37
structure Tr where
 st : Sp
 kids : List Tr
def zTr : Tr := ⟨z37, []⟩
def FT (w0 : World) (d : Kd Tr) : Kd Tr := Kd.iso (Kd.pair (Kd.fixed k37 w0) (Kd.slice 51 d)) (fun x : Tr => (x.st, x.kids))
theorem monoT (w0 : World) : Kd.Mono (FT w0) := Kd.mono_iso _ (Kd.mono_pair (Kd.mono_const _) (Kd.mono_slice 51 Kd.mono_id))
theorem subT (w0 : World) : Kd.Sub (FT w0) [51] := Kd.sub_iso _ (Kd.sub_pair (Kd.sub_const _ (fun q hq => by cases hq)) (Kd.sub_slice 51 (by decide) Kd.sub_id))
theorem szT (w0 : World) : ∀ n, (Kd.upto (FT w0) 7 [51] n).sz = 7 := Kd.upto_sz (fun _ => rfl)
def kT (w0 : World) : Kd Tr := Kd.fix (FT w0) 7 [51] (szT w0) (Kd.upto_E (subT w0))
def stC (x : Sp) (A4 : Option Addr) (c4 : Nat) (A5 : Option Addr) (c5 : Nat) : List Value := [.int .i64 x.f0, .int .i64 x.f1, .string x.f2, .int .i64 x.f3, .slice A4 x.f4.length c4, .slice A5 x.f5.length c5]
def StP (w0 : World) (x : Sp) (A4 : Option Addr) (c4 : Nat) (A5 : Option Addr) (c5 : Nat) : Prop := x.f4.length ≤ c4 ∧ k74.C w0 A4 x.f4.length x.f4 ∧ x.f5.length ≤ c5 ∧ k74.C w0 A5 x.f5.length x.f5
theorem stP_open {w0 : World} {x : Sp} {cs : List Value} (h : k37.K w0 x cs) : ∃ A4 c4 A5 c5, cs = stC x A4 c4 A5 c5 ∧ StP w0 x A4 c4 A5 c5 := by
 obtain ⟨A4, c4, A5, c5, rfl, l4, g4, l5, g5⟩ := k37_open h
 exact ⟨A4, c4, A5, c5, rfl, l4, g4, l5, g5⟩
theorem stP_mk {w0 : World} {x : Sp} {A4 : Option Addr} {c4 : Nat} {A5 : Option Addr} {c5 : Nat} (h : StP w0 x A4 c4 A5 c5) : k37.K w0 x (stC x A4 c4 A5 c5) := k37_mk w0 x h.1 h.2.1 h.2.2.1 h.2.2.2
theorem kT_open {w0 w : World} {x : Tr} {cs : List Value} (h : (kT w0).K w x cs) : ∃ A4 c4 A5 c5 A6 c6, cs = stC x.st A4 c4 A5 c5 ++ [.slice A6 x.kids.length c6] ∧ StP w0 x.st A4 c4 A5 c5 ∧ x.kids.length ≤ c6 ∧ (kT w0).C w A6 x.kids.length x.kids := by
 obtain ⟨n, h⟩ := h
 cases n with
 | zero => exact h.elim
 | succ n =>
  obtain ⟨_, _, rfl, s0, ⟨A6, c6, rfl, l6, g6⟩⟩ := h
  obtain ⟨A4, c4, A5, c5, rfl, hp⟩ := stP_open s0
  exact ⟨A4, c4, A5, c5, A6, c6, rfl, hp, l6, Kd.fix_C g6⟩
theorem kT_openM {w0 w : World} {base : Nat} {ok : Nat → Prop} {x : Tr} {cs : List Value} (h : (kT w0).M w base ok x cs) : ∃ A4 c4 A5 c5 v6, cs = stC x.st A4 c4 A5 c5 ++ [v6] ∧ StP w0 x.st A4 c4 A5 c5 ∧ (kT w0).R 51 w base ok v6 x.kids := by
 obtain ⟨n, h⟩ := h
 cases n with
 | zero => exact h.elim
 | succ n =>
  obtain ⟨_, _, rfl, s0, ⟨v6, rfl, g6⟩⟩ := h
  obtain ⟨A4, c4, A5, c5, rfl, hp⟩ := stP_open s0
  exact ⟨A4, c4, A5, c5, v6, rfl, hp, Kd.fix_R g6⟩
theorem kT_mkM {w0 w : World} {base : Nat} {ok : Nat → Prop} {x : Tr} {A4 : Option Addr} {c4 : Nat} {A5 : Option Addr} {c5 : Nat} {v6 : Value} (hp : StP w0 x.st A4 c4 A5 c5) (g6 : (kT w0).R 51 w base ok v6 x.kids) : (kT w0).M w base ok x (stC x.st A4 c4 A5 c5 ++ [v6]) := by
 obtain ⟨n6, q6⟩ := Kd.fix_R_back (monoT w0) g6
 exact ⟨n6 + 1, ⟨_, [v6], rfl, stP_mk hp, ⟨v6, rfl, q6⟩⟩⟩
/-! plain functions -/
def mapO {α β : Type} (f : α → Option β) : List α → Option (List β)
 | [] => some []
 | x :: xs => (f x).bind fun y => (mapO f xs).bind fun ys => some (y :: ys)
theorem mapO_mono {α β : Type} {f g : α → Option β} (h : ∀ x, LeO (f x) (g x)) : ∀ l, LeO (mapO f l) (mapO g l)
 | [] => LeO.refl _
 | x :: xs => LeO.bind (h x) (fun _ => LeO.bind (mapO_mono h xs) (fun _ => LeO.refl _))
def foldO {α β : Type} (f : β → α → Option β) : β → List α → Option β
 | b, [] => some b
 | b, x :: xs => (f b x).bind fun b' => foldO f b' xs
theorem foldO_mono {α β : Type} {f g : β → α → Option β} (h : ∀ b x, LeO (f b x) (g b x)) : ∀ l b, LeO (foldO f b l) (foldO g b l)
 | [], _ => LeO.refl _
 | x :: xs, b => LeO.bind (h b x) (fun b' => foldO_mono h xs b')
def growF : Nat → List Sp → Int → Option Tr
 | 0, _, _ => none
 | k + 1, l, a => if 0 ≤ a ∧ a < (l.length : Int) then (spec_l4Kids.f k l a).bind fun ks => if ks.length ≤ 1000000 then (mapO (growF k l) ks).bind fun ts => some ⟨rd_T37 l a, ts⟩ else none else none
theorem growF_mono (l : List Sp) : ∀ k a, LeO (growF k l a) (growF (k + 1) l a)
 | 0, _ => LeO.none _
 | k + 1, a => LeO.ite (LeO.bind (spec_l4Kids.mono _ _ _) (fun _ => LeO.ite (LeO.bind (mapO_mono (growF_mono l k) _) (fun _ => LeO.refl _)) (LeO.refl _))) (LeO.refl _)
def isSeq (t : Tr) : Bool := decide (t.st.f0 = 1)
def takeIn (p : Bool) (x : Tr) : List Tr := if (p && isSeq x) = true then x.kids else [x]
def onlyOf (s : Sp) (x : Tr) : Tr := if s.f4.length > 0 then ⟨{ x.st with f4 := s.f4 }, x.kids⟩ else x
def plainF : Nat → Tr → Option Tr
 | 0, _ => none
 | k + 1, t => (mapO (plainF k) t.kids).bind fun ks => if (ks.flatMap (takeIn (isSeq t))).length ≤ 1000000 then
   some (if (isSeq t && decide ((ks.flatMap (takeIn (isSeq t))).length = 1)) = true then onlyOf t.st ((ks.flatMap (takeIn (isSeq t))).getD 0 zTr) else ⟨t.st, ks.flatMap (takeIn (isSeq t))⟩) else none
theorem plainF_mono : ∀ k t, LeO (plainF k t) (plainF (k + 1) t)
 | 0, _ => LeO.none _
 | k + 1, t => LeO.bind (mapO_mono (plainF_mono k) _) (fun _ => LeO.refl _)
def flatF : Nat → List Sp → Tr → Int → Option (List Sp)
 | 0, _, _, _ => none
 | k + 1, p, t, q => if p.length ≤ 1000000 then foldO (fun b x => flatF k b x (p.length : Int)) (p ++ [{ t.st with f1 := q }]) t.kids else none
theorem flatF_mono : ∀ k p t q, LeO (flatF k p t q) (flatF (k + 1) p t q)
 | 0, _, _, _ => LeO.none _
 | k + 1, p, t, q => LeO.ite (foldO_mono (fun b x => flatF_mono k b x _) _ _) (LeO.refl _)
def spec_l7PlainOf.f (k : Nat) (l0 : List Sp) : Option (List Sp) := (growF k l0 0).bind fun t => (plainF k t).bind fun u => (flatF k [] u (-1)).bind fun p => spec_l4Copy.f k p
theorem spec_l7PlainOf.mono : ∀ l0 k, LeO (spec_l7PlainOf.f k l0) (spec_l7PlainOf.f (k + 1) l0) := fun l0 k =>
 LeO.bind (growF_mono l0 k 0) (fun t => LeO.bind (plainF_mono k t) (fun u => LeO.bind (flatF_mono k [] u (-1)) (fun p => spec_l4Copy.mono _ _)))
attribute [local go_sem] Instr.field asAgg
theorem info51 : (Try.prog.info? 51).map (fun i => (i.zero, i.size, i.bytes)) = some (some (.agg #[.int .i64 0, .int .i64 0, .string (⟨#[]⟩ : ByteArray), .int .i64 0, .slice none 0 0, .slice none 0 0, .slice none 0 0]), 7, 112) := by kernel_rfl
theorem row_far {α : Type} {d : Kd α} {e : Nat} {w : World} {base : Nat} {ok : Nat → Prop} {v : Value} {xs : List α} (h : d.R e w base ok v xs) {g : Nat} (hg : g < base) (j : Nat) (u : Value) : d.R e (w.setCell ⟨g, j, none⟩ u) base ok v xs :=
 Kd.R_mono (Kd.R_far (p := ⟨g, j, none⟩) (Kd.R_bound h) (fun k hk => by have := hk.2.1; show k ≠ g; omega) u) (fun _ hk => hk.1)
theorem put7 {w : World} {g t : Nat} {x0 x1 x2 x3 x4 x5 x6 : Value} (h : w.heap[g]? = some (.cells #[x0, x1, x2, x3, x4, x5, x6] t (0, 0))) (c0 c1 c2 c3 c4 c5 c6 : Value) : (((((((w.setCell ⟨g, 0, none⟩ c0).setCell ⟨g, 1, none⟩ c1).setCell ⟨g, 2, none⟩ c2).setCell ⟨g, 3, none⟩ c3).setCell ⟨g, 4, none⟩ c4).setCell ⟨g, 5, none⟩ c5).setCell ⟨g, 6, none⟩ c6).heap[g]? = some (.cells #[c0, c1, c2, c3, c4, c5, c6] t (0, 0)) := blk_put (cs' := #[c0, c1, c2, c3, c4, c5, c6]) (blk_put (cs' := #[c0, c1, c2, c3, c4, c5, x6]) (blk_put (cs' := #[c0, c1, c2, c3, c4, x5, x6]) (blk_put (cs' := #[c0, c1, c2, c3, x4, x5, x6]) (blk_put (cs' := #[c0, c1, c2, x3, x4, x5, x6]) (blk_put (cs' := #[c0, c1, x2, x3, x4, x5, x6]) (blk_put (cs' := #[c0, x1, x2, x3, x4, x5, x6]) h 0 c0 rfl) 1 c1 rfl) 2 c2 rfl) 3 c3 rfl) 4 c4 rfl) 5 c5 rfl) 6 c6 rfl
theorem bel7 {B : Nat} {a w : World} (h : Below B a w) {g : Nat} (hg : B ≤ g) (c0 c1 c2 c3 c4 c5 c6 : Value) : Below B a (((((((w.setCell ⟨g, 0, none⟩ c0).setCell ⟨g, 1, none⟩ c1).setCell ⟨g, 2, none⟩ c2).setCell ⟨g, 3, none⟩ c3).setCell ⟨g, 4, none⟩ c4).setCell ⟨g, 5, none⟩ c5).setCell ⟨g, 6, none⟩ c6) := ((((((h.setCell (p := ⟨g, 0, none⟩) hg c0).setCell (p := ⟨g, 1, none⟩) hg c1).setCell (p := ⟨g, 2, none⟩) hg c2).setCell (p := ⟨g, 3, none⟩) hg c3).setCell (p := ⟨g, 4, none⟩) hg c4).setCell (p := ⟨g, 5, none⟩) hg c5).setCell (p := ⟨g, 6, none⟩) hg c6
theorem far7 {α : Type} {d : Kd α} {e : Nat} {w : World} {base : Nat} {ok : Nat → Prop} {v : Value} {xs : List α} (h : d.R e w base ok v xs) {g : Nat} (hg : g < base) (c0 c1 c2 c3 c4 c5 c6 : Value) : d.R e (((((((w.setCell ⟨g, 0, none⟩ c0).setCell ⟨g, 1, none⟩ c1).setCell ⟨g, 2, none⟩ c2).setCell ⟨g, 3, none⟩ c3).setCell ⟨g, 4, none⟩ c4).setCell ⟨g, 5, none⟩ c5).setCell ⟨g, 6, none⟩ c6) base ok v xs := row_far (row_far (row_far (row_far (row_far (row_far (row_far h hg 0 c0) hg 1 c1) hg 2 c2) hg 3 c3) hg 4 c4) hg 5 c5) hg 6 c6
theorem put6 {w : World} {g t : Nat} {x0 x1 x2 x3 x4 x5 : Value} (h : w.heap[g]? = some (.cells #[x0, x1, x2, x3, x4, x5] t (0, 0))) (c0 c1 c2 c3 c4 c5 : Value) : ((((((w.setCell ⟨g, 0, none⟩ c0).setCell ⟨g, 1, none⟩ c1).setCell ⟨g, 2, none⟩ c2).setCell ⟨g, 3, none⟩ c3).setCell ⟨g, 4, none⟩ c4).setCell ⟨g, 5, none⟩ c5).heap[g]? = some (.cells #[c0, c1, c2, c3, c4, c5] t (0, 0)) := blk_put (cs' := #[c0, c1, c2, c3, c4, c5]) (blk_put (cs' := #[c0, c1, c2, c3, c4, x5]) (blk_put (cs' := #[c0, c1, c2, c3, x4, x5]) (blk_put (cs' := #[c0, c1, c2, x3, x4, x5]) (blk_put (cs' := #[c0, c1, x2, x3, x4, x5]) (blk_put (cs' := #[c0, x1, x2, x3, x4, x5]) h 0 c0 rfl) 1 c1 rfl) 2 c2 rfl) 3 c3 rfl) 4 c4 rfl) 5 c5 rfl
theorem bel6 {B : Nat} {a w : World} (h : Below B a w) {g : Nat} (hg : B ≤ g) (c0 c1 c2 c3 c4 c5 : Value) : Below B a ((((((w.setCell ⟨g, 0, none⟩ c0).setCell ⟨g, 1, none⟩ c1).setCell ⟨g, 2, none⟩ c2).setCell ⟨g, 3, none⟩ c3).setCell ⟨g, 4, none⟩ c4).setCell ⟨g, 5, none⟩ c5) := (((((h.setCell (p := ⟨g, 0, none⟩) hg c0).setCell (p := ⟨g, 1, none⟩) hg c1).setCell (p := ⟨g, 2, none⟩) hg c2).setCell (p := ⟨g, 3, none⟩) hg c3).setCell (p := ⟨g, 4, none⟩) hg c4).setCell (p := ⟨g, 5, none⟩) hg c5
theorem far6 {α : Type} {d : Kd α} {e : Nat} {w : World} {base : Nat} {ok : Nat → Prop} {v : Value} {xs : List α} (h : d.R e w base ok v xs) {g : Nat} (hg : g < base) (c0 c1 c2 c3 c4 c5 : Value) : d.R e ((((((w.setCell ⟨g, 0, none⟩ c0).setCell ⟨g, 1, none⟩ c1).setCell ⟨g, 2, none⟩ c2).setCell ⟨g, 3, none⟩ c3).setCell ⟨g, 4, none⟩ c4).setCell ⟨g, 5, none⟩ c5) base ok v xs := row_far (row_far (row_far (row_far (row_far (row_far h hg 0 c0) hg 1 c1) hg 2 c2) hg 3 c3) hg 4 c4) hg 5 c5
theorem ints_grown {w0 w w1 : World} {base b2 : Nat} {ok ok2 : Nat → Prop} {u v : Value} {ks : List Int} {xs : List Tr} (h : (Kd.int .i64).R 2 w base ok u ks) (ho : (kT w0).R 51 w b2 ok2 v xs) (hg : w.grownBy w1 v.ownBlock) : (Kd.int .i64).R 2 w1 base ok u ks := by
 cases hv : v.ownBlock with
 | none => exact Kd.R_grown h hg (fun k _ => by rw [hv]; simp)
 | some g =>
  obtain ⟨inner, hown⟩ := Kd.R_own ho
  obtain ⟨cells, hc⟩ := own_typed hown g hv
  refine Kd.R_mono (Kd.R_grown (Kd.R_types h hc (by decide)) hg (fun k hk => ?_)) (fun _ hk => hk.1)
  rw [hv]
  intro e
  injection e with e
  exact hk.2 e
theorem mapO_drop {α β : Type} {f : α → Option β} {l : List α} {i : Nat} (hi : i < l.length) {r : List β} (h : mapO f (l.drop i) = some r) : ∃ y r', r = y :: r' ∧ f l[i] = some y ∧ mapO f (l.drop (i + 1)) = some r' := by
 rw [List.drop_eq_getElem_cons hi, mapO] at h
 obtain ⟨y, hy, h⟩ := Option.bind_eq_some_iff.mp h
 obtain ⟨r', hr', h⟩ := Option.bind_eq_some_iff.mp h
 exact ⟨y, r', (Option.some.inj h).symm, hy, hr'⟩
theorem mapO_end {α β : Type} {f : α → Option β} {l : List α} {r : List β} (h : mapO f (l.drop l.length) = some r) : r = [] := by
 rw [List.drop_length, mapO] at h
 exact (Option.some.inj h).symm
theorem rd_nat (fs : List Int) (q : Nat) (h : q < fs.length) : rd fs (q : Int) = fs[q] := by
 unfold rd
 simp [List.getD_eq_getElem?_getD, h]
theorem ints_at {W : World} {base : Nat} {ok : Nat → Prop} {A : Option Addr} {n c j : Nat} {ks : List Int} (h : (Kd.int .i64).R 2 W base ok (.slice A n c) ks) (hj : j < ks.length) : ∃ ad, A = some ad ∧ W.cell? (ad.add j) = some (.int .i64 ks[j]) := by
 obtain ⟨hn, _, hC⟩ := Kd.R_reads' h
 obtain ⟨ad, e, hc⟩ := Kd.at_int hC (j : Int) (by omega) (by omega)
 rw [rd_nat ks j hj, Int.toNat_natCast] at hc
 exact ⟨ad, e, hc⟩
theorem ints_cell {W : World} {base : Nat} {ok : Nat → Prop} {ad : Addr} {n c j : Nat} {ks : List Int} {kj : Int} (h : (Kd.int .i64).R 2 W base ok (.slice (some ad) n c) ks) (hj : j < ks.length) (hk : ks[j] = kj) : W.cell? (ad.add j) = some (.int .i64 kj) := by
 obtain ⟨ad', e, hc⟩ := ints_at h hj
 injection e with e
 subst e
 rw [← hk]
 exact hc
theorem nextI (i : Nat) (h : i < 9223372036854775807) : Value.int .i64 (wrap64 ((i : Int) + 1)) = .int .i64 ((i + 1 : Nat) : Int) := by
 have : wrap64 ((i : Int) + 1) = ((i + 1 : Nat) : Int) := by unfold wrap64; omega
 rw [this]
def growT6 : Bool × List (List Nat × List Nat) := (true, [([], []), ([0], [0]), ([], []), ([], []), ([], []), ([3, 4], [3, 4]), ([5], [5]), ([2, 6], [2, 6]), ([7], [7]), ([1, 8, 7], [1, 8]), ([0, 1, 2, 3, 4, 5, 6, 7, 8, 9], []), ([10, 9, 9, 0, 1, 2, 3, 4, 5, 6, 7, 8, 9], [9, 10])])
def growB6 : List Nat := [0, 1, 0, 0, 0, 24, 56, 124, 252, 511, 1023, 2047]
theorem growTab : rtab .any (opsOf Try.f25 6) = growT6 := by kernel_rfl
theorem growBits : waitsOk growT6.2 growB6 = true := by kernel_rfl
set_option maxHeartbeats 8000000 in
set_option maxRecDepth 100000 in
theorem grow_calls (w0 : World) (A : Option Addr) (c : Nat) (l0 : List Sp) (hc : l0.length ≤ c) (hr0 : Kd.C k37 w0 A l0.length l0) : ∀ (k : Nat) (a1 : Int) (r : Tr) (w : World), Below w0.heap.size w0 w → growF k l0 a1 = some r →
  Calls Try.prog 25 #[.slice A l0.length c, .int .i64 a1] w fun e w' => ∃ cs, e = .returned (.agg cs.toArray) ∧ (kT w0).M w' w.heap.size (fun _ => True) r cs ∧ Below w.heap.size w w'
 | 0, _, _, _, _, h => by cases h
 | k + 1, a1, r, w, HW, h => by
  unfold growF at h
  by_cases ha : 0 ≤ a1 ∧ a1 < (l0.length : Int)
  case neg => rw [if_neg ha] at h; cases h
  rw [if_pos ha] at h
  obtain ⟨ks, hks, h⟩ := Option.bind_eq_some_iff.mp h
  by_cases hlen : ks.length ≤ 1000000
  case neg => rw [if_neg hlen] at h; cases h
  rw [if_pos hlen] at h
  obtain ⟨ts, hts, h⟩ := Option.bind_eq_some_iff.mp h
  obtain rfl := Option.some.inj h
  clear h
  obtain ⟨ad, A4, c4, A5, c5, rfl, e0, e1, e2, e3, e4, e5, l4, g4_, l5, g5_⟩ := at_T37 hr0 a1 ha.1 ha.2
  have hp : StP w0 (rd_T37 l0 a1) A4 c4 A5 c5 := ⟨l4, g4_, l5, g5_⟩
  clear l4 g4_ l5 g5_
  have IH := grow_calls w0 (some ad) c l0 hc hr0 k
  have p0 := eq_true ha.1
  have p1 := eq_true ha.2
  clear ha
  have hu51 := Try.underlying51
  have hu37 := Try.underlying37
  go_enter Try.func25, Try.ntmps25
  go_wp2_with (first
   | ((with_reducible refine gate_dst (N := 4) rfl ?_); refine box_event ?hg (N := 4) ?hd (cs := #[.int .i64 0, .int .i64 0, .string (⟨#[]⟩ : ByteArray), .int .i64 0, .slice none 0 0, .slice none 0 0, .slice none 0 0]) (t := 51) ?hr ?_; (case hd => rfl); (case hg => rfl); (case hr => first | (go_simp; done) | (go_simp; rfl)); intro g4 hg4 w1 hx4 hb4; have ge4 : w.heap.size ≤ g4 := (by rw [hg4]; exact Nat.le_refl _); clear hg4; have v0 := ((below_then HW HW.size hb4).cell (World.block_lt_of_cell? w0 _ e0)).trans e0; have v1 := ((below_then HW HW.size hb4).cell (World.block_lt_of_cell? w0 _ e1)).trans e1; have v2 := ((below_then HW HW.size hb4).cell (World.block_lt_of_cell? w0 _ e2)).trans e2; have v3 := ((below_then HW HW.size hb4).cell (World.block_lt_of_cell? w0 _ e3)).trans e3; have v4 := ((below_then HW HW.size hb4).cell (World.block_lt_of_cell? w0 _ e4)).trans e4; have v5 := ((below_then HW HW.size hb4).cell (World.block_lt_of_cell? w0 _ e5)).trans e5)
   | ((with_reducible refine gate_dst (N := 5) rfl ?_); refine box_event ?hg (N := 5) ?hd (cs := #[.int .i64 0, .int .i64 0, .string (⟨#[]⟩ : ByteArray), .int .i64 0, .slice none 0 0, .slice none 0 0, .slice none 0 0]) (t := 51) ?hr ?_; (case hd => rfl); (case hg => rfl); (case hr => first | (go_simp; done) | (go_simp; rfl)); intro g5 hg5 w2 hx5 hb5; have gen : w1.heap.size ≤ g5 := (by rw [hg5]; exact Nat.le_refl _); clear hg5; have n0 : w2.cell? ⟨g5, 0, none⟩ = _ := (blk_cell hx5 0).trans rfl; have m0 := blk_frozen hx5 0; have n1 : w2.cell? ⟨g5, 1, none⟩ = _ := (blk_cell hx5 1).trans rfl; have m1 := blk_frozen hx5 1; have n2 : w2.cell? ⟨g5, 2, none⟩ = _ := (blk_cell hx5 2).trans rfl; have m2 := blk_frozen hx5 2; have n3 : w2.cell? ⟨g5, 3, none⟩ = _ := (blk_cell hx5 3).trans rfl; have m3 := blk_frozen hx5 3; have n4 : w2.cell? ⟨g5, 4, none⟩ = _ := (blk_cell hx5 4).trans rfl; have m4 := blk_frozen hx5 4; have n5 : w2.cell? ⟨g5, 5, none⟩ = _ := (blk_cell hx5 5).trans rfl; have m5 := blk_frozen hx5 5; have n6 : w2.cell? ⟨g5, 6, none⟩ = _ := (blk_cell hx5 6).trans rfl; have m6 := blk_frozen hx5 6; have hbn1 := bel7 hb5 gen (.int .i64 (rd_T37 l0 a1).f0) (.int .i64 (rd_T37 l0 a1).f1) (.string (rd_T37 l0 a1).f2) (.int .i64 (rd_T37 l0 a1).f3) (.slice A4 (rd_T37 l0 a1).f4.length c4) (.slice A5 (rd_T37 l0 a1).f5.length c5) (.slice none 0 0); have xn := put7 hx5 (.int .i64 (rd_T37 l0 a1).f0) (.int .i64 (rd_T37 l0 a1).f1) (.string (rd_T37 l0 a1).f2) (.int .i64 (rd_T37 l0 a1).f3) (.slice A4 (rd_T37 l0 a1).f4.length c4) (.slice A5 (rd_T37 l0 a1).f5.length c5) (.slice none 0 0); have hbn := below_step hb4 hbn1)
   | (go_at_call 44; refine (spec_l4Kids.calls k (some ad) c l0 a1 ks _ (Kd.C_below hr0 (below_then HW HW.size hbn)) hc hks).mono ?_; rintro e w3 ⟨v6, rfl, hv6, hb6⟩))
  have hB3 := below_step hbn hb6
  have x5 := blk_below xn hb6
  have x4 := blk_below (blk_below hx4 hbn1) hb6
  obtain ⟨A6, c6, rfl⟩ := Kd.R_slice hv6
  have hI3 := Kd.R_lower hv6 (below_size hbn)
  have ge5 : w.heap.size ≤ g5 := Nat.le_trans (below_size hb4) gen
  have ne45 : g4 ≠ g5 := Nat.ne_of_lt (Nat.lt_of_lt_of_le (blk_lt hx4) gen)
  obtain ⟨Bs, hBs⟩ : ∃ Bs, Bs = w3.heap.size := ⟨_, rfl⟩
  have l4 : g4 < Bs := by rw [hBs]; exact blk_lt x4
  have l5 : g5 < Bs := by rw [hBs]; exact blk_lt x5
  have hBw : w.heap.size ≤ Bs := by rw [hBs]; exact below_size hB3
  have hBs3 : Bs ≤ w3.heap.size := Nat.le_of_eq hBs
  clear hBs hbn1 hbn xn hx4 hx5 hb4 hb5 hb6 hv6 gen n0 n1 n2 n3 n4 n5 n6 m0 m1 m2 m3 m4 m5 m6 v0 v1 v2 v3 v4 v5 e0 e1 e2 e3 e4 e5 w1 w2
  go_loopg [7] (ks.length) (fun n v7 w' => ∃ (j : Nat) (dn rest : List Tr) (v : Value), v7 = .int .i64 (j : Int) ∧ n + j = ks.length ∧ Aside0 (mapO (growF k l0) (ks.drop j) = some rest) ∧ Aside0 (dn ++ rest = ts) ∧ Aside0 (dn.length = j) ∧ Aside0 (w'.heap[g4]? = some (.cells #[.int .i64 0, .int .i64 0, .string (⟨#[]⟩ : ByteArray), .int .i64 0, .slice none 0 0, .slice none 0 0, .slice none 0 0] 51 (0, 0))) ∧ Aside0 (w'.heap[g5]? = some (.cells #[.int .i64 (rd_T37 l0 a1).f0, .int .i64 (rd_T37 l0 a1).f1, .string (rd_T37 l0 a1).f2, .int .i64 (rd_T37 l0 a1).f3, .slice A4 (rd_T37 l0 a1).f4.length c4, .slice A5 (rd_T37 l0 a1).f5.length c5, v] 51 (0, 0))) ∧ Aside0 ((kT w0).R 51 w' Bs (fun _ => True) v dn) ∧ Aside0 ((Kd.int .i64).R 2 w' w.heap.size (fun _ => True) (.slice A6 ks.length c6) ks) ∧ Aside0 (Below w.heap.size w w') ∧ Aside0 (Bs ≤ w'.heap.size))
  case atStart => exact ⟨0, [], ts, .slice none 0 0, rfl, rfl, ⟨by simpa using hts⟩, ⟨rfl⟩, ⟨rfl⟩, ⟨x4⟩, ⟨x5⟩, ⟨Kd.R_nil _ _ _ _ _⟩, ⟨hI3⟩, ⟨hB3⟩, ⟨hBs3⟩⟩
  case round =>
   obtain ⟨j, dn, rest, v, rfl, hn, HT, HD, HL, X4, X5, HR, HI, HB, HS⟩ := hrel
   clear hB3 hI3 x4 x5 hBs3 hts w3
   by_cases hj : j < ks.length
   ·obtain ⟨m, rfl⟩ : ∃ m, gk = m + 1 := ⟨gk - 1, by omega⟩
    obtain ⟨t, rest', rfl, ht, hrest⟩ := mapO_drop hj HT.out
    have hjc := ints_at HI.out hj
    obtain ⟨ad6, rfl, hjc⟩ := hjc
    obtain ⟨kj, hkj⟩ : ∃ kj, ks[j] = kj := ⟨_, rfl⟩
    rw [hkj] at ht hjc
    have q1d : decide ((j : Int) < (ks.length : Int)) = true := decide_eq_true (by omega)
    have q0 := eq_true (show (0 : Int) ≤ (j : Int) by omega)
    have q1 := eq_true (show (j : Int) < (ks.length : Int) by omega)
    obtain ⟨inner, hown⟩ := Kd.R_own HR.out
    have hlt : ∀ b, v.ownBlock = some b → Bs ≤ b := fun b hb => own_base hown b hb
    clear hown inner
    have c6v : wr.cell? ⟨g5, 6, none⟩ = some v := (blk_cell X5.out 6).trans rfl
    try go_wp2
    refine start_ (n := 12) (S := fun w' => w'.cell? ⟨g5, 6, none⟩ = some v ∧ w'.cell? (ad6.add j) = some (.int .i64 kj)) (ds := [11]) #[false, false, false, false, false, false, false, false, false, false, false, false] (by kernel_rfl) rfl rfl ⟨c6v, hjc⟩ (fun hHeld => ?_)
    refine with_tabW growTab growBits (fun HT_ HW_ => ?_)
    have X48 := blk_drew X4.out
    have X58 := blk_drew X5.out
    have HR8 := Kd.R_drew HR.out
    have HI8 := Kd.R_drew HI.out
    have HB8 := below_drew1 HB.out
    have HS8 : Bs ≤ wr.drew.heap.size := HS.out
    clear X4 X5 HR HI HB HS c6v hjc
    generalize wr.drew = W8 at X48 X58 HR8 HI8 HB8 HS8 hHeld ⊢
    refine pure_ (i := 0) (N := some 22) (v := ?_) (a' := ?_) #[true, false, false, false, false, false, false, false, false, false, false, false] rfl rfl (any_of HT_.out (by kernel_rfl)) (fun _ _ _ h => h) (Or.inl ⟨by rfl, ?_⟩) ?_ ?_
    rotate_left
    ·intro w'
     go_simp
     with_reducible rfl
    rotate_left
    ·simp only [Act.put, List.setIfInBounds_toArray, List.set_cons_zero, List.set_cons_succ, i64_w, i32_w]
     rfl
    refine take_ (i := 1) (N := some 23) (v := ?_) (a' := ?_) #[true, true, false, false, false, false, false, false, false, false, false, false] rfl rfl (take_ofW HT_.out HW_.out (by kernel_rfl)) (fun _ _ _ h => h) (Or.inl ⟨by rfl, ?_⟩) hHeld ?_ ?_
    rotate_left
    ·rintro w' ⟨s0, s1⟩
     go_simp
     with_reducible rfl
    rotate_left
    ·simp only [Act.put, List.setIfInBounds_toArray, List.set_cons_zero, List.set_cons_succ, i64_w, i32_w]
     rfl
    refine pure_ (i := 2) (N := some 24) (v := ?_) (a' := ?_) #[true, true, true, false, false, false, false, false, false, false, false, false] rfl rfl (any_of HT_.out (by kernel_rfl)) (fun _ _ _ h => h) (Or.inl ⟨by rfl, ?_⟩) ?_ ?_
    rotate_left
    ·intro w'
     go_simp
     with_reducible rfl
    rotate_left
    ·simp only [Act.put, List.setIfInBounds_toArray, List.set_cons_zero, List.set_cons_succ, i64_w, i32_w]
     rfl
    refine pure_ (i := 3) (N := some 25) (v := ?_) (a' := ?_) #[true, true, true, true, false, false, false, false, false, false, false, false] rfl rfl (any_of HT_.out (by kernel_rfl)) (fun _ _ _ h => h) (Or.inl ⟨by rfl, ?_⟩) ?_ ?_
    rotate_left
    ·intro w'
     go_simp
     with_reducible rfl
    rotate_left
    ·simp only [Act.put, List.setIfInBounds_toArray, List.set_cons_zero, List.set_cons_succ, i64_w, i32_w]
     rfl
    refine pure_ (i := 4) (N := some 26) (v := ?_) (a' := ?_) #[true, true, true, true, true, false, false, false, false, false, false, false] rfl rfl (any_of HT_.out (by kernel_rfl)) (fun _ _ _ h => h) (Or.inl ⟨by rfl, ?_⟩) ?_ ?_
    rotate_left
    ·intro w'
     go_simp
     with_reducible rfl
    rotate_left
    ·simp only [Act.put, List.setIfInBounds_toArray, List.set_cons_zero, List.set_cons_succ, i64_w, i32_w]
     rfl
    refine pure_ (i := 5) (N := some 27) (v := ?_) (a' := ?_) #[true, true, true, true, true, true, false, false, false, false, false, false] rfl rfl (any_of HT_.out (by kernel_rfl)) (fun _ _ _ h => h) (Or.inl ⟨by rfl, ?_⟩) ?_ ?_
    rotate_left
    ·intro w'
     go_simp
     with_reducible rfl
    rotate_left
    ·simp only [Act.put, List.setIfInBounds_toArray, List.set_cons_zero, List.set_cons_succ, i64_w, i32_w]
     rfl
    refine take_ (i := 6) (N := some 28) (v := ?_) (a' := ?_) #[true, true, true, true, true, true, true, false, false, false, false, false] rfl rfl (take_ofW HT_.out HW_.out (by kernel_rfl)) (fun _ _ _ h => h) (Or.inl ⟨by rfl, ?_⟩) hHeld ?_ ?_
    rotate_left
    ·rintro w' ⟨s0, s1⟩
     go_simp
     with_reducible rfl
    rotate_left
    ·simp only [Act.put, List.setIfInBounds_toArray, List.set_cons_zero, List.set_cons_succ, i64_w, i32_w]
     rfl
    refine one_ (i := 7) (N := some 29) #[true, true, true, true, true, true, true, true, false, false, false, false] rfl rfl (one_of HT_.out (by kernel_rfl)) (by decide) (fun K hK => ?_)
    refine goes_ Try.func25 (by kernel_rfl) rfl #[.slice (some ad) l0.length c, .int .i64 kj] (by rfl) rfl rfl (by (try simp only [List.map_toArray, List.map_cons, List.map_nil]); first | done | rfl | (simp only [List.length_drop, List.length_take]; rfl)) ?_
    refine (IH kj t _ (below_then HW HW.size HB8) ht).mono ?_
    rintro e w9 ⟨cs, rfl, hm, hb9⟩
    obtain ⟨B4, d4, B5, d5, v9, rfl, hp9, hr9⟩ := kT_openM hm
    obtain ⟨inner, hown⟩ := Kd.R_own HR8
    have hM9 := (kT w0).M_lower HS8 (Kd.M_new hm hown)
    clear hm hr9 hown inner
    simp only [stC, List.cons_append, List.nil_append] at hM9 ⊢
    refine ⟨_, rfl, ?_⟩
    have X49 := blk_below X48 hb9
    have X59 := blk_below X58 hb9
    have HR9 := Kd.R_below HR8 hb9
    have HI9 := Kd.R_below HI8 hb9
    have HB9 := below_step HB8 hb9
    have HS9 := Nat.le_trans HS8 (below_size hb9)
    refine hK.out _ _ ⟨(blk_cell X59 6).trans rfl, ints_cell HI9 hj hkj⟩ (fun hHeld => ?_)
    clear HB8 X48 X58 HR8 HI8 HS8 hb9
    clear hK K
    refine norm_ (a' := ?_) ?_ ?_
    rotate_left
    ·show Act.put _ (some 29) _ = _
     simp only [Act.put, List.setIfInBounds_toArray, List.set_cons_zero, List.set_cons_succ, i64_w, i32_w]
     rfl
    refine one_ (i := 8) (N := some 30) #[true, true, true, true, true, true, true, true, true, false, false, false] rfl rfl (one_of HT_.out (by kernel_rfl)) (by decide) (fun K hK => ?_)
    refine value_ (w1 := ?_) (v := ?_) (by rfl) rfl ?_ ?_
    rotate_left 2
    ·go_simp
     constructor
     ·rfl
     ·rfl
    refine hK.out _ _ ⟨(blk_cell (blk_alloc X59 _) 6).trans rfl, ints_cell (Kd.R_alloc HI9 _) hj hkj⟩ (fun hHeld => ?_)
    clear hK K
    refine norm_ (a' := ?_) ?_ ?_
    rotate_left
    ·show Act.put _ (some 30) _ = _
     simp only [Act.put, List.setIfInBounds_toArray, List.set_cons_zero, List.set_cons_succ, i64_w, i32_w]
     rfl
    refine one_ (i := 9) (N := some 31) #[true, true, true, true, true, true, true, true, true, true, false, false] rfl rfl (one_of HT_.out (by kernel_rfl)) (by decide) (fun K hK => ?_)
    refine Kd.R_append_step (kT w0) (w0 := w9) Bs (by rfl) (.tmp 23) (.tmp 30) 49 51 (.agg #[.int .i64 0, .int .i64 0, .string (⟨#[]⟩ : ByteArray), .int .i64 0, .slice none 0 0, .slice none 0 0, .slice none 0 0]) 112 rfl Try.underlying49 info51 rfl (by show 0 < 7; decide) (by decide) v dn t _ (fun _ => True) _ rfl rfl ?aP (fun _ hk => hk) ?aF ?aO ?aB ?aS ?aL ?_
    case aP => exact hM9
    case aF => exact fun _ _ => trivial
    case aO => exact HR9
    case aB => exact Below.refl _ _
    case aS => exact HS9
    case aL => have := HL.out; omega
    intro v1 w1 ho hb hg hat
    obtain ⟨Ao, co, rfl⟩ := Kd.R_slice ho
    obtain ⟨no, hno⟩ : ∃ no, (dn ++ [t]).length = no := ⟨_, rfl⟩
    rw [hno] at ho ⊢
    clear hno
    have X41 := blk_grown X49 hg (fun e => by have := hlt g4 e.symm; omega)
    have X51 := blk_grown X59 hg (fun e => by have := hlt g5 e.symm; omega)
    have HI1 := ints_grown HI9 HR9 hg
    have HB1 := HB9.trans (hb.mono hBw)
    have HS1 := Nat.le_trans HS9 hb.size
    clear X49 X59 HR9 HI9 HB9 HS9 hb hg hat hM9 hlt
    refine hK.out _ _ ⟨(blk_cell X51 6).trans rfl, ints_cell HI1 hj hkj⟩ (fun hHeld => ?_)
    clear hK K
    refine norm_ (a' := ?_) ?_ ?_
    rotate_left
    ·show Act.put _ (some 31) _ = _
     simp only [Act.put, List.setIfInBounds_toArray, List.set_cons_zero, List.set_cons_succ, i64_w, i32_w]
     rfl
    refine pure_ (i := 10) (N := some 32) (v := ?_) (a' := ?_) #[true, true, true, true, true, true, true, true, true, true, true, false] rfl rfl (any_of HT_.out (by kernel_rfl)) (fun _ _ _ h => h) (Or.inl ⟨by rfl, ?_⟩) ?_ ?_
    rotate_left
    ·intro w'
     go_simp
     with_reducible rfl
    rotate_left
    ·simp only [Act.put, List.setIfInBounds_toArray, List.set_cons_zero, List.set_cons_succ, i64_w, i32_w]
     rfl
    refine last_ (i := 11) (N := none) #[true, true, true, true, true, true, true, true, true, true, true, true] rfl rfl (one_of HT_.out (by kernel_rfl)) (by decide) (fun K hK => ?_)
    have hs6 : w1.cell? ⟨g5, 6, none⟩ = some v := (blk_cell X51 6).trans rfl
    have hf6 := blk_frozen X51 6
    refine skip_ (w1 := ?_) (by rfl) rfl ?_ ?_
    rotate_left
    ·go_simp
     rfl
    refine hK.out _ _ ?_
    clear hK K
    refine done_ (done_of HT_.out (by kernel_rfl)) ?_
    clear HT_ HW_ hHeld hs6 hf6
    have X52 := blk_put X51 6 (.slice Ao no co) rfl
    have X42 := blk_far X41 (p := ⟨g5, 6, none⟩) ne45 (.slice Ao no co)
    have HR2 := row_far ho l5 6 (.slice Ao no co)
    have HI2 := Kd.R_set HI1 X51 (by decide) 6 (.slice Ao no co)
    have HB2 := HB1.setCell (p := ⟨g5, 6, none⟩) ge5 (.slice Ao no co)
    have HS2 : Bs ≤ (w1.setCell ⟨g5, 6, none⟩ (.slice Ao no co)).heap.size := by rw [World.size_setCell]; exact HS1
    clear X51 X41 ho HI1 HB1 HS1
    generalize w1.setCell ⟨g5, 6, none⟩ (.slice Ao no co) = W2 at X52 X42 HR2 HI2 HB2 HS2 ⊢
    try go_wp2
    go_roundg m
    case measure => exact Nat.lt_succ_self m
    case rel => exact ⟨j + 1, dn ++ [t], rest', .slice Ao no co, (by first | rfl | exact nextI j (by omega)), by omega, ⟨hrest⟩, ⟨by rw [← HD.out, List.append_assoc]; rfl⟩, ⟨by rw [List.length_append, HL.out]; rfl⟩, ⟨X42⟩, ⟨X52⟩, ⟨HR2⟩, ⟨HI2⟩, ⟨HB2⟩, ⟨HS2⟩⟩
   ·have q1d : decide ((j : Int) < (ks.length : Int)) = false := decide_eq_false (by omega)
    obtain rfl : gk = 0 := by omega
    have hje : j = ks.length := by omega
    have hr := HT.out
    rw [hje] at hr
    have hdn := HD.out
    rw [mapO_end hr, List.append_nil] at hdn
    have HR' := HR.out
    rw [hdn] at HR'
    obtain ⟨Av, cv, rfl⟩ := Kd.R_slice HR'
    clear HT HD hr hje hdn
    have z0 : wr.cell? ⟨g5, 0, none⟩ = _ := (blk_cell X5.out 0).trans rfl
    have y0 : wr.cell? ⟨g4, 0, none⟩ = _ := (blk_cell X4.out 0).trans rfl
    have f0 := blk_frozen X4.out 0
    have z1 : wr.cell? ⟨g5, 1, none⟩ = _ := (blk_cell X5.out 1).trans rfl
    have y1 : wr.cell? ⟨g4, 1, none⟩ = _ := (blk_cell X4.out 1).trans rfl
    have f1 := blk_frozen X4.out 1
    have z2 : wr.cell? ⟨g5, 2, none⟩ = _ := (blk_cell X5.out 2).trans rfl
    have y2 : wr.cell? ⟨g4, 2, none⟩ = _ := (blk_cell X4.out 2).trans rfl
    have f2 := blk_frozen X4.out 2
    have z3 : wr.cell? ⟨g5, 3, none⟩ = _ := (blk_cell X5.out 3).trans rfl
    have y3 : wr.cell? ⟨g4, 3, none⟩ = _ := (blk_cell X4.out 3).trans rfl
    have f3 := blk_frozen X4.out 3
    have z4 : wr.cell? ⟨g5, 4, none⟩ = _ := (blk_cell X5.out 4).trans rfl
    have y4 : wr.cell? ⟨g4, 4, none⟩ = _ := (blk_cell X4.out 4).trans rfl
    have f4 := blk_frozen X4.out 4
    have z5 : wr.cell? ⟨g5, 5, none⟩ = _ := (blk_cell X5.out 5).trans rfl
    have y5 : wr.cell? ⟨g4, 5, none⟩ = _ := (blk_cell X4.out 5).trans rfl
    have f5 := blk_frozen X4.out 5
    have z6 : wr.cell? ⟨g5, 6, none⟩ = _ := (blk_cell X5.out 6).trans rfl
    have y6 : wr.cell? ⟨g4, 6, none⟩ = _ := (blk_cell X4.out 6).trans rfl
    have f6 := blk_frozen X4.out 6
    go_wp2
    refine bodyPost_ret (results_cell_row rfl _ _ g4 51 #[.int .i64 (rd_T37 l0 a1).f0, .int .i64 (rd_T37 l0 a1).f1, .string (rd_T37 l0 a1).f2, .int .i64 (rd_T37 l0 a1).f3, .slice A4 (rd_T37 l0 a1).f4.length c4, .slice A5 (rd_T37 l0 a1).f5.length c5, .slice Av ts.length cv] (0, 0) _ rfl (put7 X4.out _ _ _ _ _ _ _) Try.underlying51 rfl (by kernel_rfl)) rfl ?_
    refine ⟨_, rfl, kT_mkM hp (Kd.R_lower (far7 HR' l4 _ _ _ _ _ _ _) hBw), bel7 HB.out ge4 _ _ _ _ _ _ _⟩
attribute [local go_sem] Instr.field asAgg
theorem kT_mk {w0 w : World} {x : Tr} {A4 : Option Addr} {c4 : Nat} {A5 : Option Addr} {c5 : Nat} {A6 : Option Addr} {c6 : Nat} (hp : StP w0 x.st A4 c4 A5 c5) (l6 : x.kids.length ≤ c6) (g6 : (kT w0).C w A6 x.kids.length x.kids) : (kT w0).K w x (stC x.st A4 c4 A5 c5 ++ [.slice A6 x.kids.length c6]) := by
 obtain ⟨n6, q6⟩ := Kd.fix_C_back (monoT w0) g6
 exact ⟨n6 + 1, ⟨_, [_], rfl, stP_mk hp, ⟨A6, c6, rfl, l6, q6⟩⟩⟩
theorem row_at {Rr : Tr → List Value → Prop} {w : World} {A : Option Addr} {n : Nat} {xs : List Tr} (h : ReadsRow Rr 7 w A n xs) (i : Nat) (hi : i < xs.length) : ∃ ad c, A = some ad ∧ Rr xs[i] c ∧ ∀ j u, c[j]? = some u → w.cell? (ad.add (i * 7 + j)) = some u := by
 obtain ⟨ad, e, hc⟩ := h.2.2 (by have := h.1; omega)
 obtain ⟨c, _, hr, hcell⟩ := hc i _ (List.getElem?_eq_getElem hi)
 exact ⟨ad, c, e, hr, hcell⟩
def At7 (w : World) (p : Addr) (s : Sp) (A4 : Option Addr) (c4 : Nat) (A5 : Option Addr) (c5 : Nat) (u : Value) : Prop := w.cell? p = some (.int .i64 s.f0) ∧ w.cell? ⟨p.block, p.off + 1, none⟩ = some (.int .i64 s.f1) ∧ w.cell? ⟨p.block, p.off + 2, none⟩ = some (.string s.f2) ∧ w.cell? ⟨p.block, p.off + 3, none⟩ = some (.int .i64 s.f3) ∧ w.cell? ⟨p.block, p.off + 4, none⟩ = some (.slice A4 s.f4.length c4) ∧ w.cell? ⟨p.block, p.off + 5, none⟩ = some (.slice A5 s.f5.length c5) ∧ w.cell? ⟨p.block, p.off + 6, none⟩ = some u
theorem at7 {w : World} {ad : Addr} {i : Nat} {s : Sp} {A4 : Option Addr} {c4 : Nat} {A5 : Option Addr} {c5 : Nat} {u : Value} (hc : ∀ j v, (stC s A4 c4 A5 c5 ++ [u])[j]? = some v → w.cell? (ad.add (i * 7 + j)) = some v) : At7 w (ad.add (i * 7)) s A4 c4 A5 c5 u :=
 ⟨hc 0 _ rfl, by rw [← add_field _ _ 1 (by omega)]; exact hc 1 _ rfl, by rw [← add_field _ _ 2 (by omega)]; exact hc 2 _ rfl, by rw [← add_field _ _ 3 (by omega)]; exact hc 3 _ rfl, by rw [← add_field _ _ 4 (by omega)]; exact hc 4 _ rfl, by rw [← add_field _ _ 5 (by omega)]; exact hc 5 _ rfl, by rw [← add_field _ _ 6 (by omega)]; exact hc 6 _ rfl⟩
theorem rows_of {w0 w : World} {e base : Nat} {ok : Nat → Prop} {A : Option Addr} {n c : Nat} {xs : List Tr} (h : (kT w0).R e w base ok (.slice A n c) xs) : ReadsRow ((kT w0).M w base ok) 7 w A xs.length xs := by
 obtain ⟨A', c', he, _, hr⟩ := OwnRow.reads h.2
 injection he with h1 h2 h3
 subst h1
 exact hr.imp_ (Below.refl _ _) (fun _ _ hp => (kT w0).M_mono (fun _ hk => hk.1) hp)
theorem flat_le {f : Tr → List Tr} {a b l : List Tr} {y : Tr} (h : a ++ y :: b = l) (hl : (l.flatMap f).length ≤ 1000000) : (a.flatMap f).length + (f y).length ≤ 1000000 := by
 rw [← h] at hl
 simp only [List.flatMap_append, List.flatMap_cons, List.length_append] at hl
 omega
theorem M_off {w0 w : World} {base Bs : Nat} {u : Value} {x : Tr} {cs : List Value} (h : (kT w0).M w base (fun _ => True) x cs) (hle : Bs ≤ base) (hu : ∀ b, u.ownBlock = some b → b < base) : (kT w0).M w Bs (fun k => True ∧ some k ≠ u.ownBlock) x cs :=
 (kT w0).M_lower hle ((kT w0).M_mono (fun k hk => ⟨trivial, fun e => by have := hu k e.symm; have := hk.2.1; omega⟩) ((kT w0).M_bound h))
theorem takeIn_kids {x : Tr} (h : (x.st.f0 == 1) = true) : takeIn true x = x.kids := by
 have e : isSeq x = true := h
 unfold takeIn
 rw [e]
 rfl
theorem takeIn_one {b : Bool} {x : Tr} (h : (b && (x.st.f0 == 1)) = false) : takeIn b x = [x] := by
 have e : (b && isSeq x) = false := h
 unfold takeIn
 rw [e]
 rfl
theorem addr_0 (ad : Addr) : ad.add (0 * 7) = ad := rfl
set_option maxHeartbeats 8000000 in
set_option maxRecDepth 100000 in
theorem plain_calls (w0 : World) : ∀ (k : Nat) (t r : Tr) (cs : List Value) (w : World), (kT w0).K w t cs → plainF k t = some r →
  Calls Try.prog 24 #[.agg cs.toArray] w fun e w' => ∃ cs', e = .returned (.agg cs'.toArray) ∧ (kT w0).M w' w.heap.size (fun _ => True) r cs' ∧ Below w.heap.size w w'
 | 0, _, _, _, _, _, h => by cases h
 | k + 1, ⟨s, kd⟩, r, cs, w, hK, h => by
  unfold plainF at h
  obtain ⟨ks, hks, h⟩ := Option.bind_eq_some_iff.mp h
  by_cases hlen : (ks.flatMap (takeIn (isSeq ⟨s, kd⟩))).length ≤ 1000000
  case neg => rw [if_neg hlen] at h; cases h
  rw [if_pos hlen] at h
  obtain ⟨A4, c4, A5, c5, A6, c6, rfl, hp, l6, hC⟩ := kT_open hK
  clear hK
  simp only at hp l6 hC hks
  have hkl : kd.length ≤ 9223372036854775807 := hC.2.1
  have IH := plain_calls w0 k
  obtain ⟨bs, hbs⟩ : ∃ bs, isSeq ⟨s, kd⟩ = bs := ⟨_, rfl⟩
  rw [hbs] at h hlen
  have hb1 : (s.f0 == 1) = bs := by rw [← hbs]; unfold isSeq; rfl
  clear hbs
  have hu51 := Try.underlying51
  have hu37 := Try.underlying37
  simp only [stC, List.cons_append, List.nil_append]
  go_enter Try.func24, Try.ntmps24
  go_upto_region 2 with (first
   | ((with_reducible refine gate_dst (N := 1) rfl ?_); refine box_event ?hg (N := 1) ?hd (cs := #[.int .i64 s.f0, .int .i64 s.f1, .string s.f2, .int .i64 s.f3, .slice A4 s.f4.length c4, .slice A5 s.f5.length c5, .slice A6 kd.length c6]) (t := 51) ?hr ?_; (case hd => rfl); (case hg => rfl); (case hr => first | (go_simp; done) | (go_simp; rfl)); intro g1 hg1 w1 hx1 hb1_; have ge1 : w.heap.size ≤ g1 := (by rw [hg1]; exact Nat.le_refl _); clear hg1)
   | ((with_reducible refine gate_dst (N := 2) rfl ?_); refine box_event ?hg (N := 2) ?hd (cs := #[.int .i64 0, .int .i64 0, .string (⟨#[]⟩ : ByteArray), .int .i64 0, .slice none 0 0, .slice none 0 0, .slice none 0 0]) (t := 51) ?hr ?_; (case hd => rfl); (case hg => rfl); (case hr => first | (go_simp; done) | (go_simp; rfl)); intro g2 hg2 w2 hx2 hb2; have ge2 : w.heap.size ≤ g2 := (by rw [hg2]; exact below_size hb1_); have ne12 : g1 ≠ g2 := (by rw [hg2]; exact Nat.ne_of_lt (blk_lt hx1)); clear hg2)
   | ((with_reducible refine gate_dst (N := 7) rfl ?_); refine Kd.R_lit (kT w0) w2.heap.size 51 ?hg (N := 7) ?hd (xs := ([] : List Tr)) (inner := []) (ok := fun _ => True) (okp := fun _ => True) ?hr ?hp (fun _ hk => hk) trivial (Below.refl _ _) (Nat.le_refl _) (by simp) ?_; (case hd => rfl); (case hg => rfl); (case hr => first | (go_simp; done) | (go_simp; rfl)); (case hp => exact Reps.none _ _); intro u0 w3 hu0 hb3 hg_ hnew_; clear hg_ hnew_))
  have hb12 := below_step hb1_ hb2
  have hB3 := below_step hb12 hb3
  have x1 := blk_below (blk_below hx1 hb2) hb3
  have x2 := blk_below hx2 hb3
  obtain ⟨A3, c3, rfl⟩ := Kd.R_slice hu0
  obtain ⟨Bs, hBs⟩ : ∃ Bs, Bs = w2.heap.size := ⟨_, rfl⟩
  rw [← hBs] at hu0
  have l1 : g1 < Bs := by rw [hBs]; exact blk_lt (blk_below hx1 hb2)
  have l2 : g2 < Bs := by rw [hBs]; exact blk_lt hx2
  have hBw : w.heap.size ≤ Bs := by rw [hBs]; exact below_size hb12
  have hBs3 : Bs ≤ w3.heap.size := by rw [hBs]; exact below_size hb3
  clear hBs hb12 hb1_ hb2 hb3 hx1 hx2
  simp only [List.length_nil] at hu0 ⊢
  go_wp2
  go_loopg [3, 4] (kd.length) (fun n v3 v4 w' => ∃ (i : Nat) (dn rest : List Tr) (Au : Option Addr) (nu cu : Nat), v3 = .slice Au nu cu ∧ v4 = .int .i64 (i : Int) ∧ n + i = kd.length ∧ Aside0 (mapO (plainF k) (kd.drop i) = some rest) ∧ Aside0 (dn ++ rest = ks) ∧ Aside0 (w'.heap[g1]? = some (.cells #[.int .i64 s.f0, .int .i64 s.f1, .string s.f2, .int .i64 s.f3, .slice A4 s.f4.length c4, .slice A5 s.f5.length c5, .slice A6 kd.length c6] 51 (0, 0))) ∧ Aside0 (w'.heap[g2]? = some (.cells #[.int .i64 0, .int .i64 0, .string (⟨#[]⟩ : ByteArray), .int .i64 0, .slice none 0 0, .slice none 0 0, .slice none 0 0] 51 (0, 0))) ∧ Aside0 ((kT w0).R 51 w' Bs (fun _ => True) (.slice Au nu cu) (dn.flatMap (takeIn bs))) ∧ Aside0 (Below w.heap.size w w') ∧ Aside0 (Bs ≤ w'.heap.size))
  case atStart => exact ⟨0, [], ks, A3, 0, c3, rfl, rfl, rfl, ⟨by simpa using hks⟩, ⟨rfl⟩, ⟨x1⟩, ⟨x2⟩, ⟨hu0⟩, ⟨hB3⟩, ⟨hBs3⟩⟩
  case round =>
   obtain ⟨i, dn, rest, Au, nu, cu, rfl, rfl, hn, HT, HD, X1, X2, HR, HB, HS⟩ := hrel
   clear hB3 x1 x2 hu0 hBs3 hks
   by_cases hi : i < kd.length
   ·obtain ⟨m, rfl⟩ : ∃ m, gk = m + 1 := ⟨gk - 1, by omega⟩
    obtain ⟨y, rest', rfl, hy, hrest⟩ := mapO_drop hi HT.out
    have hlim := flat_le (f := takeIn bs) HD.out hlen
    obtain ⟨ad6, ce, rfl, hKe, hce⟩ := row_at (Kd.C_below hC HB.out) i hi
    obtain ⟨te, hte⟩ : ∃ te, kd[i] = te := ⟨_, rfl⟩
    rw [hte] at hKe hy
    clear hte
    obtain ⟨D4, e4, D5, e5, D6, e6, rfl, hpe, le6, hCe⟩ := kT_open hKe
    have hKe := kT_mk hpe le6 hCe
    obtain ⟨r0, r1, r2, r3, r4, r5, r6⟩ := at7 hce
    clear hce hpe le6 hCe
    simp only [stC, List.cons_append, List.nil_append] at hKe
    have p0 := eq_true (show (0 : Int) ≤ (i : Int) by omega)
    have p1 := eq_true (show (i : Int) < (kd.length : Int) by omega)
    have p1d : decide ((i : Int) < (kd.length : Int)) = true := decide_eq_true (by omega)
    have z6 : wr.cell? ⟨g1, 6, none⟩ = some (.slice (some ad6) kd.length c6) := (blk_cell X1.out 6).trans rfl
    have hul : ∀ b, (Value.slice Au nu cu).ownBlock = some b → b < wr.heap.size := fun b hb => by
     obtain ⟨inner, hown⟩ := Kd.R_own HR.out
     exact own_lt hown b hb
    have hub : ∀ b, (Value.slice Au nu cu).ownBlock = some b → Bs ≤ b := fun b hb => by
     obtain ⟨inner, hown⟩ := Kd.R_own HR.out
     exact own_base hown b hb
    go_upto_region 6 with (first
     | (go_at_call 24; refine (IH te y _ _ hKe hy).mono ?_; rintro e w9 ⟨cs9, rfl, hm, hb9⟩; obtain ⟨B4, d4, B5, d5, v9, rfl, hp9, hr9⟩ := kT_openM hm; obtain ⟨A9, c9, rfl⟩ := Kd.R_slice hr9; simp only [stC, List.cons_append, List.nil_append] at hm ⊢)
     | ((with_reducible refine gate_dst (N := 5) rfl ?_); refine box_event ?hg (N := 5) ?hd (cs := #[.int .i64 0, .int .i64 0, .string (⟨#[]⟩ : ByteArray), .int .i64 0, .slice none 0 0, .slice none 0 0, .slice none 0 0]) (t := 51) ?hr ?_; (case hd => rfl); (case hg => rfl); (case hr => first | (go_simp; done) | (go_simp; rfl)); intro g5 hg5 w5 hx5 hb5; have gen : w9.heap.size ≤ g5 := (by rw [hg5]; exact Nat.le_refl _); clear hg5; have n0 : w5.cell? ⟨g5, 0, none⟩ = _ := (blk_cell hx5 0).trans rfl; have m0 := blk_frozen hx5 0; have n1 : w5.cell? ⟨g5, 1, none⟩ = _ := (blk_cell hx5 1).trans rfl; have m1 := blk_frozen hx5 1; have n2 : w5.cell? ⟨g5, 2, none⟩ = _ := (blk_cell hx5 2).trans rfl; have m2 := blk_frozen hx5 2; have n3 : w5.cell? ⟨g5, 3, none⟩ = _ := (blk_cell hx5 3).trans rfl; have m3 := blk_frozen hx5 3; have n4 : w5.cell? ⟨g5, 4, none⟩ = _ := (blk_cell hx5 4).trans rfl; have m4 := blk_frozen hx5 4; have n5 : w5.cell? ⟨g5, 5, none⟩ = _ := (blk_cell hx5 5).trans rfl; have m5 := blk_frozen hx5 5; have n6 : w5.cell? ⟨g5, 6, none⟩ = _ := (blk_cell hx5 6).trans rfl; have m6 := blk_frozen hx5 6; have hbn1 := (bel7 hb5 gen (.int .i64 y.st.f0) (.int .i64 y.st.f1) (.string y.st.f2) (.int .i64 y.st.f3) (.slice B4 y.st.f4.length d4) (.slice B5 y.st.f5.length d5) (.slice A9 y.kids.length c9)); have xn := (put7 hx5 (.int .i64 y.st.f0) (.int .i64 y.st.f1) (.string y.st.f2) (.int .i64 y.st.f3) (.slice B4 y.st.f4.length d4) (.slice B5 y.st.f5.length d5) (.slice A9 y.kids.length c9))))
    have X19 := blk_below X1.out hb9
    have X29 := blk_below X2.out hb9
    have HR9 := Kd.R_below HR.out hb9
    have HB9 := below_step HB.out hb9
    have HS9 := Nat.le_trans HS.out (below_size hb9)
    clear n0 n1 n2 n3 n4 n5 n6 m0 m1 m2 m3 m4 m5 m6 r0 r1 r2 r3 r4 r5 r6 z6
    generalize World.setCell _ ⟨g5, 6, none⟩ _ = Wn at hbn1 xn ⊢
    have X1n := blk_below X19 hbn1
    have X2n := blk_below X29 hbn1
    have HRn := Kd.R_below HR9 hbn1
    have HBn := below_step HB9 hbn1
    have HSn := Nat.le_trans HS9 (below_size hbn1)
    have hr9n := Kd.R_below hr9 hbn1
    have hMn := M_off (Kd.M_below hm hbn1) HS.out hul
    have HS0 := HS.out
    clear X1 X2 HR HB HS X19 X29 HR9 HB9 HS9 hr9 hm hbn1 gen hb9
    have z0 : Wn.cell? ⟨g1, 0, none⟩ = some (.int .i64 s.f0) := (blk_cell X1n 0).trans rfl
    have q0 : Wn.cell? ⟨g5, 0, none⟩ = some (.int .i64 y.st.f0) := (blk_cell xn 0).trans rfl
    have q1 : Wn.cell? ⟨g5, 1, none⟩ = some (.int .i64 y.st.f1) := (blk_cell xn 1).trans rfl
    have q2 : Wn.cell? ⟨g5, 2, none⟩ = some (.string y.st.f2) := (blk_cell xn 2).trans rfl
    have q3 : Wn.cell? ⟨g5, 3, none⟩ = some (.int .i64 y.st.f3) := (blk_cell xn 3).trans rfl
    have q4 : Wn.cell? ⟨g5, 4, none⟩ = some (.slice B4 y.st.f4.length d4) := (blk_cell xn 4).trans rfl
    have q5 : Wn.cell? ⟨g5, 5, none⟩ = some (.slice B5 y.st.f5.length d5) := (blk_cell xn 5).trans rfl
    have q6 : Wn.cell? ⟨g5, 6, none⟩ = some (.slice A9 y.kids.length c9) := (blk_cell xn 6).trans rfl
    cases bs
    ·rw [takeIn_one (b := false) (x := y) rfl] at hlim
     have hlim := (show (dn.flatMap (takeIn false)).length + 1 ≤ 1000000 from hlim)
     go_wp2_with ((with_reducible refine gate_builtin (b := .append) (xs := #[.tmp 35, .tmp 37]) rfl ?_); at_builtin; refine Kd.R_append (kT w0) (w0 := Wn) Bs rfl (.tmp 35) (.tmp 37) 49 51 (.agg #[.int .i64 0, .int .i64 0, .string (⟨#[]⟩ : ByteArray), .int .i64 0, .slice none 0 0, .slice none 0 0, .slice none 0 0]) 112 rfl Try.underlying49 info51 rfl (by show 0 < 7; decide) (by decide) (.slice Au nu cu) (dn.flatMap (takeIn false)) y _ (fun _ => True) _ rfl rfl hMn (fun _ hk => hk) (fun _ _ => trivial) HRn (Below.refl _ _) HSn (by omega) ?_; intro v1 w1 ho hb hg hat)
     have he : (dn ++ [y]).flatMap (takeIn false) = dn.flatMap (takeIn false) ++ [y] := by rw [List.flatMap_append, List.flatMap_singleton, takeIn_one rfl]
     have X1m := blk_grown X1n hg (fun e => by have := hub g1 e.symm; omega)
     have X2m := blk_grown X2n hg (fun e => by have := hub g2 e.symm; omega)
     have HBm := HBn.trans (hb.mono hBw)
     have HSm := Nat.le_trans HSn hb.size
     rw [← he] at ho
     obtain ⟨Ao, co, rfl⟩ := Kd.R_slice ho
     clear X1n X2n HRn HBn HSn hb hg hat hMn hr9n z0 q0 q1 q2 q3 q4 q5 q6 xn
     try go_wp2
     go_roundg m
     case measure => exact Nat.lt_succ_self m
     case rel => exact ⟨i + 1, dn ++ [y], rest', Ao, _, co, rfl, (by first | rfl | exact nextI i (by omega)), by omega, ⟨hrest⟩, ⟨by rw [← HD.out, List.append_assoc]; rfl⟩, ⟨X1m⟩, ⟨X2m⟩, ⟨ho⟩, ⟨HBm⟩, ⟨HSm⟩⟩
    ·cases hy1 : (y.st.f0 == 1)
     ·rw [takeIn_one (b := true) (x := y) (by rw [hy1]; rfl)] at hlim
      have hlim := (show (dn.flatMap (takeIn true)).length + 1 ≤ 1000000 from hlim)
      go_wp2_with ((with_reducible refine gate_builtin (b := .append) (xs := #[.tmp 35, .tmp 37]) rfl ?_); at_builtin; refine Kd.R_append (kT w0) (w0 := Wn) Bs rfl (.tmp 35) (.tmp 37) 49 51 (.agg #[.int .i64 0, .int .i64 0, .string (⟨#[]⟩ : ByteArray), .int .i64 0, .slice none 0 0, .slice none 0 0, .slice none 0 0]) 112 rfl Try.underlying49 info51 rfl (by show 0 < 7; decide) (by decide) (.slice Au nu cu) (dn.flatMap (takeIn true)) y _ (fun _ => True) _ rfl rfl hMn (fun _ hk => hk) (fun _ _ => trivial) HRn (Below.refl _ _) HSn (by omega) ?_; intro v1 w1 ho hb hg hat)
      have he : (dn ++ [y]).flatMap (takeIn true) = dn.flatMap (takeIn true) ++ [y] := by rw [List.flatMap_append, List.flatMap_singleton, takeIn_one (by rw [hy1]; rfl)]
      have X1m := blk_grown X1n hg (fun e => by have := hub g1 e.symm; omega)
      have X2m := blk_grown X2n hg (fun e => by have := hub g2 e.symm; omega)
      have HBm := HBn.trans (hb.mono hBw)
      have HSm := Nat.le_trans HSn hb.size
      rw [← he] at ho
      obtain ⟨Ao, co, rfl⟩ := Kd.R_slice ho
      clear X1n X2n HRn HBn HSn hb hg hat hMn hr9n z0 q0 q1 q2 q3 q4 q5 q6 xn
      try go_wp2
      go_roundg m
      case measure => exact Nat.lt_succ_self m
      case rel => exact ⟨i + 1, dn ++ [y], rest', Ao, _, co, rfl, (by first | rfl | exact nextI i (by omega)), by omega, ⟨hrest⟩, ⟨by rw [← HD.out, List.append_assoc]; rfl⟩, ⟨X1m⟩, ⟨X2m⟩, ⟨ho⟩, ⟨HBm⟩, ⟨HSm⟩⟩
     ·rw [takeIn_kids hy1] at hlim
      go_wp2_with ((with_reducible refine gate_builtin (b := .append) (xs := #[.tmp 31, .tmp 33]) rfl ?_); at_builtin; refine Kd.R_append_rows (kT w0) (w0 := Wn) Bs rfl (.tmp 31) (.tmp 33) 49 51 (.agg #[.int .i64 0, .int .i64 0, .string (⟨#[]⟩ : ByteArray), .int .i64 0, .slice none 0 0, .slice none 0 0, .slice none 0 0]) 112 rfl Try.underlying49 info51 rfl (by show 0 < 7; decide) (by decide) (.slice Au nu cu) (dn.flatMap (takeIn true)) y.kids A9 y.kids.length c9 (fun _ => True) (fun k => True ∧ some k ≠ (Value.slice Au nu cu).ownBlock) rfl rfl HRn (rows_of hr9n) (fun x cs h => M_off h HS0 hul) (fun _ hk => hk) (fun _ _ => trivial) (Below.refl _ _) HSn (by omega) ?_; intro v1 w1 ho hb hg hat)
      have he : (dn ++ [y]).flatMap (takeIn true) = dn.flatMap (takeIn true) ++ y.kids := by rw [List.flatMap_append, List.flatMap_singleton, takeIn_kids hy1]
      have X1m := blk_grown X1n hg (fun e => by have := hub g1 e.symm; omega)
      have X2m := blk_grown X2n hg (fun e => by have := hub g2 e.symm; omega)
      have HBm := HBn.trans (hb.mono hBw)
      have HSm := Nat.le_trans HSn hb.size
      rw [← he] at ho
      obtain ⟨Ao, co, rfl⟩ := Kd.R_slice ho
      clear X1n X2n HRn HBn HSn hb hg hat hMn hr9n z0 q0 q1 q2 q3 q4 q5 q6 xn
      try go_wp2
      go_roundg m
      case measure => exact Nat.lt_succ_self m
      case rel => exact ⟨i + 1, dn ++ [y], rest', Ao, _, co, rfl, (by first | rfl | exact nextI i (by omega)), by omega, ⟨hrest⟩, ⟨by rw [← HD.out, List.append_assoc]; rfl⟩, ⟨X1m⟩, ⟨X2m⟩, ⟨ho⟩, ⟨HBm⟩, ⟨HSm⟩⟩
   ·have p1d : decide ((i : Int) < (kd.length : Int)) = false := decide_eq_false (by omega)
    obtain rfl : gk = 0 := by omega
    have hie : i = kd.length := by omega
    have hr := HT.out
    rw [hie] at hr
    have hdn := HD.out
    rw [mapO_end hr, List.append_nil] at hdn
    have HR' := HR.out
    rw [hdn] at HR'
    clear HT HD HR hr hie hdn
    have hnu := (Kd.R_reads' HR').1
    obtain ⟨L, hL⟩ : ∃ L, ks.flatMap (takeIn bs) = L := ⟨_, rfl⟩
    rw [hL] at HR' h hnu
    clear hL hlen
    subst hnu
    have z6 : wr.cell? ⟨g1, 6, none⟩ = some (.slice A6 kd.length c6) := (blk_cell X1.out 6).trans rfl
    have f6 := blk_frozen X1.out 6
    go_upto_region 10 with fail
    have X1b := blk_put (cs' := #[.int .i64 s.f0, .int .i64 s.f1, .string s.f2, .int .i64 s.f3, .slice A4 s.f4.length c4, .slice A5 s.f5.length c5, .slice Au L.length cu]) X1.out 6 (.slice Au L.length cu) rfl
    have X2b := blk_far X2.out (p := ⟨g1, 6, none⟩) (Ne.symm ne12) (.slice Au L.length cu)
    have HRb := row_far HR' l1 6 (.slice Au L.length cu)
    have HBb := HB.out.setCell (p := ⟨g1, 6, none⟩) ge1 (.slice Au L.length cu)
    clear X1 X2 HR' HB z6 f6
    generalize wr.setCell ⟨g1, 6, none⟩ (.slice Au L.length cu) = Wb at X1b X2b HRb HBb ⊢
    have z0 : Wb.cell? ⟨g1, 0, none⟩ = some (.int .i64 s.f0) := (blk_cell X1b 0).trans rfl
    have y0 : Wb.cell? ⟨g2, 0, none⟩ = some (.int .i64 0) := (blk_cell X2b 0).trans rfl
    have g0_ := blk_frozen X2b 0
    have z1 : Wb.cell? ⟨g1, 1, none⟩ = some (.int .i64 s.f1) := (blk_cell X1b 1).trans rfl
    have y1 : Wb.cell? ⟨g2, 1, none⟩ = some (.int .i64 0) := (blk_cell X2b 1).trans rfl
    have g1_ := blk_frozen X2b 1
    have z2 : Wb.cell? ⟨g1, 2, none⟩ = some (.string s.f2) := (blk_cell X1b 2).trans rfl
    have y2 : Wb.cell? ⟨g2, 2, none⟩ = some (.string (⟨#[]⟩ : ByteArray)) := (blk_cell X2b 2).trans rfl
    have g2_ := blk_frozen X2b 2
    have z3 : Wb.cell? ⟨g1, 3, none⟩ = some (.int .i64 s.f3) := (blk_cell X1b 3).trans rfl
    have y3 : Wb.cell? ⟨g2, 3, none⟩ = some (.int .i64 0) := (blk_cell X2b 3).trans rfl
    have g3_ := blk_frozen X2b 3
    have z4 : Wb.cell? ⟨g1, 4, none⟩ = some (.slice A4 s.f4.length c4) := (blk_cell X1b 4).trans rfl
    have y4 : Wb.cell? ⟨g2, 4, none⟩ = some (.slice none 0 0) := (blk_cell X2b 4).trans rfl
    have g4_ := blk_frozen X2b 4
    have z5 : Wb.cell? ⟨g1, 5, none⟩ = some (.slice A5 s.f5.length c5) := (blk_cell X1b 5).trans rfl
    have y5 : Wb.cell? ⟨g2, 5, none⟩ = some (.slice none 0 0) := (blk_cell X2b 5).trans rfl
    have g5_ := blk_frozen X2b 5
    have z6 : Wb.cell? ⟨g1, 6, none⟩ = some (.slice Au L.length cu) := (blk_cell X1b 6).trans rfl
    have y6 : Wb.cell? ⟨g2, 6, none⟩ = some (.slice none 0 0) := (blk_cell X2b 6).trans rfl
    have g6_ := blk_frozen X2b 6
    by_cases hq : (bs && decide (L.length = 1)) = true
    ·rw [if_pos hq] at h
     obtain rfl := Option.some.inj h
     clear h
     rw [Bool.and_eq_true, decide_eq_true_eq] at hq
     obtain ⟨rfl, hq⟩ := hq
     obtain ⟨x, rfl⟩ := List.length_eq_one_iff.1 hq
     obtain ⟨adu, cx, rfl, hMx, hcx⟩ := row_at (rows_of HRb) 0 (by simp)
     have hMx : (kT w0).M Wb Bs (fun _ => True) x cx := hMx
     obtain ⟨E4, i4, E5, i5, vx, rfl, hpx, hrx⟩ := kT_openM hMx
     obtain ⟨A7, c7, rfl⟩ := Kd.R_slice hrx
     have r7 := at7 hcx
     rw [addr_0] at r7
     obtain ⟨r0, r1, r2, r3, r4, r5, r6⟩ := r7
     clear hMx hcx
     go_upto_region 12 with ((with_reducible refine gate_dst (N := 6) rfl ?_); refine box_event ?hg (N := 6) ?hd (cs := #[.int .i64 0, .int .i64 0, .string (⟨#[]⟩ : ByteArray), .int .i64 0, .slice none 0 0, .slice none 0 0, .slice none 0 0]) (t := 51) ?hr ?_; (case hd => rfl); (case hg => rfl); (case hr => first | (go_simp; done) | (go_simp; rfl)); intro g6 hg6 w6 hx6 hb6; have gen6 : Wb.heap.size ≤ g6 := (by rw [hg6]; exact Nat.le_refl _); clear hg6; have n0 : w6.cell? ⟨g6, 0, none⟩ = _ := (blk_cell hx6 0).trans rfl; have m0 := blk_frozen hx6 0; have n1 : w6.cell? ⟨g6, 1, none⟩ = _ := (blk_cell hx6 1).trans rfl; have m1 := blk_frozen hx6 1; have n2 : w6.cell? ⟨g6, 2, none⟩ = _ := (blk_cell hx6 2).trans rfl; have m2 := blk_frozen hx6 2; have n3 : w6.cell? ⟨g6, 3, none⟩ = _ := (blk_cell hx6 3).trans rfl; have m3 := blk_frozen hx6 3; have n4 : w6.cell? ⟨g6, 4, none⟩ = _ := (blk_cell hx6 4).trans rfl; have m4 := blk_frozen hx6 4; have n5 : w6.cell? ⟨g6, 5, none⟩ = _ := (blk_cell hx6 5).trans rfl; have m5 := blk_frozen hx6 5; have n6 : w6.cell? ⟨g6, 6, none⟩ = _ := (blk_cell hx6 6).trans rfl; have m6 := blk_frozen hx6 6; have hbn6 := (bel7 hb6 gen6 (.int .i64 x.st.f0) (.int .i64 x.st.f1) (.string x.st.f2) (.int .i64 x.st.f3) (.slice E4 x.st.f4.length i4) (.slice E5 x.st.f5.length i5) (.slice A7 x.kids.length c7)); have xn6 := (put7 hx6 (.int .i64 x.st.f0) (.int .i64 x.st.f1) (.string x.st.f2) (.int .i64 x.st.f3) (.slice E4 x.st.f4.length i4) (.slice E5 x.st.f5.length i5) (.slice A7 x.kids.length c7)))
     clear n0 n1 n2 n3 n5 n6 m0 m1 m2 m3 m5 m6 r0 r1 r2 r3 r4 r5 r6 z0 z1 z2 z3 z4 z5 z6 y0 y1 y2 y3 y4 y5 y6 n4 m4
     generalize World.setCell _ ⟨g6, 6, none⟩ _ = Wc at hbn6 xn6 ⊢
     have X1c := blk_below X1b hbn6
     have z4 : Wc.cell? ⟨g1, 4, none⟩ = some (.slice A4 s.f4.length c4) := (blk_cell X1c 4).trans rfl
     by_cases hf : 0 < s.f4.length
     ·have hf1 : decide (0 < (s.f4.length : Int)) = true := decide_eq_true (by omega)
      have hf2 : decide (0 < s.f4.length) = true := decide_eq_true hf
      have n4 : Wc.cell? ⟨g6, 4, none⟩ = some (.slice E4 x.st.f4.length i4) := (blk_cell xn6 4).trans rfl
      have m4 := blk_frozen xn6 4
      go_upto_region 14 with fail
      have xd := blk_put (cs' := #[.int .i64 x.st.f0, .int .i64 x.st.f1, .string x.st.f2, .int .i64 x.st.f3, .slice A4 s.f4.length c4, .slice E5 x.st.f5.length i5, .slice A7 x.kids.length c7]) xn6 4 (.slice A4 s.f4.length c4) rfl
      have hbd := hbn6.setCell (p := ⟨g6, 4, none⟩) gen6 (.slice A4 s.f4.length c4)
      clear z4 n4 m4 xn6 hbn6 X1c
      generalize Wc.setCell ⟨g6, 4, none⟩ (.slice A4 s.f4.length c4) = Wd at xd hbd ⊢
      have e : onlyOf s x = ⟨{ x.st with f4 := s.f4 }, x.kids⟩ := if_pos hf
      have hpd : StP w0 { x.st with f4 := s.f4 } A4 c4 E5 i5 := ⟨hp.1, hp.2.1, hpx.2.2.1, hpx.2.2.2⟩
      have X2d := blk_below X2b hbd
      have HRd := Kd.R_below hrx hbd
      have HBd := below_step HBb hbd
      have z0 : Wd.cell? ⟨g6, 0, none⟩ = some (.int .i64 x.st.f0) := (blk_cell xd 0).trans rfl
      have y0 : Wd.cell? ⟨g2, 0, none⟩ = some (.int .i64 0) := (blk_cell X2d 0).trans rfl
      have h0_ := blk_frozen X2d 0
      have z1 : Wd.cell? ⟨g6, 1, none⟩ = some (.int .i64 x.st.f1) := (blk_cell xd 1).trans rfl
      have y1 : Wd.cell? ⟨g2, 1, none⟩ = some (.int .i64 0) := (blk_cell X2d 1).trans rfl
      have h1_ := blk_frozen X2d 1
      have z2 : Wd.cell? ⟨g6, 2, none⟩ = some (.string x.st.f2) := (blk_cell xd 2).trans rfl
      have y2 : Wd.cell? ⟨g2, 2, none⟩ = some (.string (⟨#[]⟩ : ByteArray)) := (blk_cell X2d 2).trans rfl
      have h2_ := blk_frozen X2d 2
      have z3 : Wd.cell? ⟨g6, 3, none⟩ = some (.int .i64 x.st.f3) := (blk_cell xd 3).trans rfl
      have y3 : Wd.cell? ⟨g2, 3, none⟩ = some (.int .i64 0) := (blk_cell X2d 3).trans rfl
      have h3_ := blk_frozen X2d 3
      have z4 : Wd.cell? ⟨g6, 4, none⟩ = some (.slice A4 s.f4.length c4) := (blk_cell xd 4).trans rfl
      have y4 : Wd.cell? ⟨g2, 4, none⟩ = some (.slice none 0 0) := (blk_cell X2d 4).trans rfl
      have h4_ := blk_frozen X2d 4
      have z5 : Wd.cell? ⟨g6, 5, none⟩ = some (.slice E5 x.st.f5.length i5) := (blk_cell xd 5).trans rfl
      have y5 : Wd.cell? ⟨g2, 5, none⟩ = some (.slice none 0 0) := (blk_cell X2d 5).trans rfl
      have h5_ := blk_frozen X2d 5
      have z6 : Wd.cell? ⟨g6, 6, none⟩ = some (.slice A7 x.kids.length c7) := (blk_cell xd 6).trans rfl
      have y6 : Wd.cell? ⟨g2, 6, none⟩ = some (.slice none 0 0) := (blk_cell X2d 6).trans rfl
      have h6_ := blk_frozen X2d 6
      go_wp2
      refine bodyPost_ret (results_cell_row rfl _ _ g2 51 #[.int .i64 x.st.f0, .int .i64 x.st.f1, .string x.st.f2, .int .i64 x.st.f3, .slice A4 s.f4.length c4, .slice E5 x.st.f5.length i5, .slice A7 x.kids.length c7] (0, 0) _ rfl (put7 X2d _ _ _ _ _ _ _) Try.underlying51 rfl (by kernel_rfl)) rfl ?_
      refine ⟨_, rfl, (by first | exact kT_mkM hpd (Kd.R_lower (far7 HRd l2 _ _ _ _ _ _ _) hBw) | (show (kT w0).M _ _ _ (onlyOf s x) _; rw [e]; exact kT_mkM hpd (Kd.R_lower (far7 HRd l2 _ _ _ _ _ _ _) hBw))), bel7 HBd ge2 _ _ _ _ _ _ _⟩
     ·have hf1 : decide (0 < (s.f4.length : Int)) = false := decide_eq_false (by omega)
      have hf2 : decide (0 < s.f4.length) = false := decide_eq_false hf
      go_upto_region 14 with fail
      have xd := xn6
      have hbd := hbn6
      clear z4 xn6 hbn6 X1c
      have e : onlyOf s x = x := if_neg hf
      have hpd : StP w0 x.st E4 i4 E5 i5 := hpx
      obtain ⟨Wd, hWd⟩ : ∃ Wd, Wd = Wc := ⟨_, rfl⟩
      rw [← hWd] at xd hbd ⊢
      clear hWd
      have X2d := blk_below X2b hbd
      have HRd := Kd.R_below hrx hbd
      have HBd := below_step HBb hbd
      have z0 : Wd.cell? ⟨g6, 0, none⟩ = some (.int .i64 x.st.f0) := (blk_cell xd 0).trans rfl
      have y0 : Wd.cell? ⟨g2, 0, none⟩ = some (.int .i64 0) := (blk_cell X2d 0).trans rfl
      have h0_ := blk_frozen X2d 0
      have z1 : Wd.cell? ⟨g6, 1, none⟩ = some (.int .i64 x.st.f1) := (blk_cell xd 1).trans rfl
      have y1 : Wd.cell? ⟨g2, 1, none⟩ = some (.int .i64 0) := (blk_cell X2d 1).trans rfl
      have h1_ := blk_frozen X2d 1
      have z2 : Wd.cell? ⟨g6, 2, none⟩ = some (.string x.st.f2) := (blk_cell xd 2).trans rfl
      have y2 : Wd.cell? ⟨g2, 2, none⟩ = some (.string (⟨#[]⟩ : ByteArray)) := (blk_cell X2d 2).trans rfl
      have h2_ := blk_frozen X2d 2
      have z3 : Wd.cell? ⟨g6, 3, none⟩ = some (.int .i64 x.st.f3) := (blk_cell xd 3).trans rfl
      have y3 : Wd.cell? ⟨g2, 3, none⟩ = some (.int .i64 0) := (blk_cell X2d 3).trans rfl
      have h3_ := blk_frozen X2d 3
      have z4 : Wd.cell? ⟨g6, 4, none⟩ = some (.slice E4 x.st.f4.length i4) := (blk_cell xd 4).trans rfl
      have y4 : Wd.cell? ⟨g2, 4, none⟩ = some (.slice none 0 0) := (blk_cell X2d 4).trans rfl
      have h4_ := blk_frozen X2d 4
      have z5 : Wd.cell? ⟨g6, 5, none⟩ = some (.slice E5 x.st.f5.length i5) := (blk_cell xd 5).trans rfl
      have y5 : Wd.cell? ⟨g2, 5, none⟩ = some (.slice none 0 0) := (blk_cell X2d 5).trans rfl
      have h5_ := blk_frozen X2d 5
      have z6 : Wd.cell? ⟨g6, 6, none⟩ = some (.slice A7 x.kids.length c7) := (blk_cell xd 6).trans rfl
      have y6 : Wd.cell? ⟨g2, 6, none⟩ = some (.slice none 0 0) := (blk_cell X2d 6).trans rfl
      have h6_ := blk_frozen X2d 6
      go_wp2
      refine bodyPost_ret (results_cell_row rfl _ _ g2 51 #[.int .i64 x.st.f0, .int .i64 x.st.f1, .string x.st.f2, .int .i64 x.st.f3, .slice E4 x.st.f4.length i4, .slice E5 x.st.f5.length i5, .slice A7 x.kids.length c7] (0, 0) _ rfl (put7 X2d _ _ _ _ _ _ _) Try.underlying51 rfl (by kernel_rfl)) rfl ?_
      refine ⟨_, rfl, (by first | exact kT_mkM hpd (Kd.R_lower (far7 HRd l2 _ _ _ _ _ _ _) hBw) | (show (kT w0).M _ _ _ (onlyOf s x) _; rw [e]; exact kT_mkM hpd (Kd.R_lower (far7 HRd l2 _ _ _ _ _ _ _) hBw))), bel7 HBd ge2 _ _ _ _ _ _ _⟩
    ·rw [if_neg hq] at h
     obtain rfl := Option.some.inj h
     clear h
     have hn1 : bs = true → ((L.length : Int) == 1) = false := fun hb => by
      subst hb
      rw [Bool.true_and, decide_eq_true_eq] at hq
      exact beq_eq_false_iff_ne.mpr (by omega)
     clear hq
     cases bs
     ·clear hn1
      go_wp2
      refine bodyPost_ret (results_cell_row rfl _ _ g2 51 #[.int .i64 s.f0, .int .i64 s.f1, .string s.f2, .int .i64 s.f3, .slice A4 s.f4.length c4, .slice A5 s.f5.length c5, .slice Au L.length cu] (0, 0) _ rfl (put7 X2b _ _ _ _ _ _ _) Try.underlying51 rfl (by kernel_rfl)) rfl ?_
      refine ⟨_, rfl, kT_mkM hp (Kd.R_lower (far7 HRb l2 _ _ _ _ _ _ _) hBw), bel7 HBb ge2 _ _ _ _ _ _ _⟩
     ·have hn1 := hn1 rfl
      go_wp2
      refine bodyPost_ret (results_cell_row rfl _ _ g2 51 #[.int .i64 s.f0, .int .i64 s.f1, .string s.f2, .int .i64 s.f3, .slice A4 s.f4.length c4, .slice A5 s.f5.length c5, .slice Au L.length cu] (0, 0) _ rfl (put7 X2b _ _ _ _ _ _ _) Try.underlying51 rfl (by kernel_rfl)) rfl ?_
      refine ⟨_, rfl, kT_mkM hp (Kd.R_lower (far7 HRb l2 _ _ _ _ _ _ _) hBw), bel7 HBb ge2 _ _ _ _ _ _ _⟩
attribute [local go_sem] Instr.field asAgg
abbrev dS (w0 : World) : Kd Sp := Kd.fixed k37 w0
structure KB (w : World) (v : Value) (w' : World) (v' : Value) : Prop where
 kept : ∀ b, b < w.heap.size → some b ≠ v.ownBlock → w'.heap[b]? = w.heap[b]?
 size : w.heap.size ≤ w'.heap.size
 at_ : v'.ownBlock = v.ownBlock ∨ ∃ b, v'.ownBlock = some b ∧ w.heap.size ≤ b
theorem KB.trans {w w1 w2 : World} {v v1 v2 : Value} (h : KB w v w1 v1) (k : KB w1 v1 w2 v2) : KB w v w2 v2 where
 kept := fun b hb hne => (k.kept b (Nat.lt_of_lt_of_le hb h.size) (fun e => by
  rcases h.at_ with h1 | ⟨b', h1, h2⟩
  ·exact hne (e.trans h1)
  ·rw [h1] at e; injection e with e; omega)).trans (h.kept b hb hne)
 size := Nat.le_trans h.size k.size
 at_ := by
  rcases k.at_ with h1 | ⟨b, h1, h2⟩
  ·rcases h.at_ with h3 | ⟨b', h3, h4⟩
   ·exact .inl (h1.trans h3)
   ·exact .inr ⟨b', h1.trans h3, h4⟩
  ·exact .inr ⟨b, h1, Nat.le_trans h.size h2⟩
theorem row_typed {α : Type} {d : Kd α} {e base : Nat} {ok : Nat → Prop} {w : World} {v : Value} {xs : List α} (h : d.R e w base ok v xs) : ∀ b, v.ownBlock = some b → ∃ cells, w.heap[b]? = some (.cells cells e (0, 0)) := fun b hb => by
 obtain ⟨inner, hown⟩ := Kd.R_own h
 exact own_typed hown b hb
theorem tree_kept {w0 w w1 : World} {base : Nat} {ok : Nat → Prop} {u v v1 : Value} {xs : List Tr} (h : (kT w0).R 51 w base ok u xs) (hv : ∀ b, v.ownBlock = some b → ∃ cells, w.heap[b]? = some (.cells cells 37 (0, 0))) (hk : KB w v w1 v1) : (kT w0).R 51 w1 base ok u xs := by
 cases hq : v.ownBlock with
 | none => exact Kd.R_step h (fun k _ hlt => hk.kept k hlt (by rw [hq]; simp))
 | some g =>
  obtain ⟨cells, hc⟩ := hv g hq
  refine Kd.R_mono (Kd.R_step (Kd.R_types h hc (by show ∀ q, q ∈ [51, 51] → q ≠ 37; decide)) (fun k hk' hlt => hk.kept k hlt (fun e => ?_))) (fun _ h' => h'.1)
  rw [hq] at e
  injection e with e
  exact hk'.2 e
structure PtAt (w0 w : World) (p : Addr) (s : Sp) (A4 : Option Addr) (c4 : Nat) (A5 : Option Addr) (c5 : Nat) (u : Value) : Prop where
 cells : At7 w p s A4 c4 A5 c5 u
 typed : ∃ cs, w.heap[p.block]? = some (.cells cs 51 (0, 0))
theorem PtAt.kept {w0 w w1 : World} {p : Addr} {s : Sp} {A4 : Option Addr} {c4 : Nat} {A5 : Option Addr} {c5 : Nat} {u v v1 : Value} (h : PtAt w0 w p s A4 c4 A5 c5 u) (hv : ∀ b, v.ownBlock = some b → ∃ cells, w.heap[b]? = some (.cells cells 37 (0, 0))) (hk : KB w v w1 v1) : PtAt w0 w1 p s A4 c4 A5 c5 u := by
 obtain ⟨cs, hcs⟩ := h.typed
 have e : w1.heap[p.block]? = w.heap[p.block]? := hk.kept _ (blk_lt hcs) (fun e => by
  obtain ⟨cells, hc⟩ := hv _ e.symm
  rw [hcs] at hc
  injection hc with hc
  injection hc with _ hc
  exact absurd hc (by decide))
 have key : ∀ j, w1.cell? ⟨p.block, j, none⟩ = w.cell? ⟨p.block, j, none⟩ := fun j => World.cell?_of_block e
 obtain ⟨h0, h1, h2, h3, h4, h5, h6⟩ := h.cells
 exact ⟨⟨(World.cell?_of_block (a := p) e).trans h0, (key _).trans h1, (key _).trans h2, (key _).trans h3, (key _).trans h4, (key _).trans h5, (key _).trans h6⟩, ⟨cs, e.trans hcs⟩⟩
theorem foldO_drop {α β : Type} {f : β → α → Option β} {l : List α} {i : Nat} (hi : i < l.length) {b r : β} (h : foldO f b (l.drop i) = some r) : ∃ b', f b l[i] = some b' ∧ foldO f b' (l.drop (i + 1)) = some r := by
 rw [List.drop_eq_getElem_cons hi, foldO] at h
 exact Option.bind_eq_some_iff.mp h
theorem foldO_end {α β : Type} {f : β → α → Option β} {l : List α} {b r : β} (h : foldO f b (l.drop l.length) = some r) : b = r := by
 rw [List.drop_length, foldO] at h
 exact Option.some.inj h
set_option maxHeartbeats 8000000 in
set_option maxRecDepth 100000 in
theorem flat_calls (w0 : World) (base bt : Nat) : ∀ (k : Nat) (ps : List Sp) (s : Sp) (kd : List Tr) (q : Int) (r : List Sp) (w : World) (v v6 : Value) (pa : Addr) (A4 : Option Addr) (c4 : Nat) (A5 : Option Addr) (c5 : Nat),
  (dS w0).R 37 w base (fun _ => True) v ps → base ≤ w.heap.size → StP w0 s A4 c4 A5 c5 → PtAt w0 w pa s A4 c4 A5 c5 v6 → (kT w0).R 51 w bt (fun _ => True) v6 kd → flatF k ps ⟨s, kd⟩ q = some r →
  Calls Try.prog 27 #[v, .pointer (some pa), .int .i64 q] w fun e w' => ∃ v', e = .returned v' ∧ (dS w0).R 37 w' base (fun _ => True) v' r ∧ KB w v w' v' ∧ Below base w w'
 | 0, _, _, _, _, _, _, _, _, _, _, _, _, _, _, _, _, _, _, h => by cases h
 | k + 1, ps, s, kd, q, r, w, v, v6, pa, A4, c4, A5, c5, hv, hbs, hp, hpt, hk6, h => by
  unfold flatF at h
  by_cases hlen : ps.length ≤ 1000000
  case neg => rw [if_neg hlen] at h; cases h
  rw [if_pos hlen] at h
  have IH := flat_calls w0 base bt k
  obtain ⟨A6, c6, rfl⟩ := Kd.R_slice hk6
  obtain ⟨A0, c0, rfl⟩ := Kd.R_slice hv
  have hkl : kd.length ≤ 9223372036854775807 := (Kd.R_reads' hk6).2.2.2.1
  have hu51 := Try.underlying51
  have hu37 := Try.underlying37
  obtain ⟨r0, r1, r2, r3, r4, r5, r6⟩ := hpt.cells
  go_enter Try.func27, Try.ntmps27
  go_upto_region 3 with ((with_reducible refine gate_dst (N := 7) rfl ?_); refine box_event ?hg (N := 7) ?hd (cs := #[.int .i64 0, .int .i64 0, .string (⟨#[]⟩ : ByteArray), .int .i64 0, .slice none 0 0, .slice none 0 0]) (t := 37) ?hr ?_; (case hd => rfl); (case hg => rfl); (case hr => first | (go_simp; done) | (go_simp; rfl)); intro gs hgs w2 hx2 hb2; have gen : w.heap.size ≤ gs := (by rw [hgs]; exact Nat.le_refl _); clear hgs; have n0 : w2.cell? ⟨gs, 0, none⟩ = some (.int .i64 0) := (blk_cell hx2 0).trans rfl; have m0 := blk_frozen hx2 0; have n1 : w2.cell? ⟨gs, 1, none⟩ = some (.int .i64 0) := (blk_cell hx2 1).trans rfl; have m1 := blk_frozen hx2 1; have n2 : w2.cell? ⟨gs, 2, none⟩ = some (.string (⟨#[]⟩ : ByteArray)) := (blk_cell hx2 2).trans rfl; have m2 := blk_frozen hx2 2; have n3 : w2.cell? ⟨gs, 3, none⟩ = some (.int .i64 0) := (blk_cell hx2 3).trans rfl; have m3 := blk_frozen hx2 3; have n4 : w2.cell? ⟨gs, 4, none⟩ = some (.slice none 0 0) := (blk_cell hx2 4).trans rfl; have m4 := blk_frozen hx2 4; have n5 : w2.cell? ⟨gs, 5, none⟩ = some (.slice none 0 0) := (blk_cell hx2 5).trans rfl; have m5 := blk_frozen hx2 5; have hbn := ((bel6 hb2 gen (.int .i64 s.f0) (.int .i64 s.f1) (.string s.f2) (.int .i64 s.f3) (.slice A4 s.f4.length c4) (.slice A5 s.f5.length c5)).setCell (p := ⟨gs, 1, none⟩) gen (.int .i64 q)); have xn := (blk_put (cs' := #[.int .i64 s.f0, .int .i64 q, .string s.f2, .int .i64 s.f3, .slice A4 s.f4.length c4, .slice A5 s.f5.length c5]) (put6 hx2 (.int .i64 s.f0) (.int .i64 s.f1) (.string s.f2) (.int .i64 s.f3) (.slice A4 s.f4.length c4) (.slice A5 s.f5.length c5)) 1 (.int .i64 q) rfl))
  clear n0 n1 n2 n3 n4 n5 m0 m1 m2 m3 m4 m5 r0 r1 r2 r3 r4 r5 r6
  generalize World.setCell (World.setCell _ ⟨gs, 5, none⟩ _) ⟨gs, 1, none⟩ _ = Wn at hbn xn ⊢
  have hvn := Kd.R_below hv hbn
  have hkn := Kd.R_below hk6 hbn
  have hsn := Nat.le_trans hbs (below_size hbn)
  have kb1 : KB w (.slice A0 ps.length c0) Wn (.slice A0 ps.length c0) := ⟨fun b hb _ => hbn.block b hb, below_size hbn, .inl rfl⟩
  have hptn := hpt.kept (row_typed hv) kb1
  have hBn := hbn.mono hbs
  have q0 : Wn.cell? ⟨gs, 0, none⟩ = some (.int .i64 s.f0) := (blk_cell xn 0).trans rfl
  have q1 : Wn.cell? ⟨gs, 1, none⟩ = some (.int .i64 q) := (blk_cell xn 1).trans rfl
  have q2 : Wn.cell? ⟨gs, 2, none⟩ = some (.string s.f2) := (blk_cell xn 2).trans rfl
  have q3 : Wn.cell? ⟨gs, 3, none⟩ = some (.int .i64 s.f3) := (blk_cell xn 3).trans rfl
  have q4 : Wn.cell? ⟨gs, 4, none⟩ = some (.slice A4 s.f4.length c4) := (blk_cell xn 4).trans rfl
  have q5 : Wn.cell? ⟨gs, 5, none⟩ = some (.slice A5 s.f5.length c5) := (blk_cell xn 5).trans rfl
  go_upto_region 5 with ((with_reducible refine gate_builtin (b := .append) (xs := #[.tmp 18, .tmp 20]) rfl ?_); at_builtin; refine Kd.R_append (dS w0) (w0 := w) base rfl (.tmp 18) (.tmp 20) 25 37 (.agg #[.int .i64 0, .int .i64 0, .string (⟨#[]⟩ : ByteArray), .int .i64 0, .slice none 0 0, .slice none 0 0]) 88 rfl Try.underlying25 info37 rfl (by show 0 < 6; decide) (by decide) (.slice A0 ps.length c0) ps { s with f1 := q } _ (fun _ => True) (fun _ => False) rfl rfl (stP_mk (x := { s with f1 := q }) hp) (fun _ hk => hk.elim) (fun _ _ => trivial) hvn hBn hsn (by omega) ?_; intro v1 w1 ho hb hg hat)
  obtain ⟨A1, c1, rfl⟩ := Kd.R_slice ho
  obtain ⟨n1, hn1⟩ : ∃ n1, (ps ++ [{ s with f1 := q }]).length = n1 := ⟨_, rfl⟩
  rw [hn1] at ho hat ⊢
  clear hn1
  have kb2 : KB Wn (.slice A0 ps.length c0) w1 (.slice A1 n1 c1) := ⟨fun b hb' hne => hg.block b hb' hne, hg.size, hat⟩
  have kb3 := kb1.trans kb2
  have hpt1 := hptn.kept (row_typed hvn) kb2
  have hk1 := tree_kept hkn (row_typed hvn) kb2
  clear kb1 kb2 hvn hkn hsn hptn hBn hbn xn q0 q1 q2 q3 q4 q5 hg hat hk6 hpt
  go_wp2
  go_loopg [0, 9] (kd.length) (fun n v0 v9 w' => ∃ (i : Nat) (acc : List Sp) (Ap : Option Addr) (np cp : Nat), v0 = .slice Ap np cp ∧ v9 = .int .i64 (i : Int) ∧ n + i = kd.length ∧ Aside0 (foldO (fun b x => flatF k b x (ps.length : Int)) acc (kd.drop i) = some r) ∧ Aside0 ((dS w0).R 37 w' base (fun _ => True) (.slice Ap np cp) acc) ∧ Aside0 (KB w (.slice A0 ps.length c0) w' (.slice Ap np cp)) ∧ Aside0 (PtAt w0 w' pa s A4 c4 A5 c5 (.slice A6 kd.length c6)) ∧ Aside0 ((kT w0).R 51 w' bt (fun _ => True) (.slice A6 kd.length c6) kd) ∧ Aside0 (Below base w w'))
  case atStart => exact ⟨0, _, A1, _, c1, rfl, rfl, rfl, ⟨by simpa using h⟩, ⟨ho⟩, ⟨kb3⟩, ⟨hpt1⟩, ⟨hk1⟩, ⟨hb⟩⟩
  case round =>
   obtain ⟨i, acc, Ap, np, cp, rfl, rfl, hn, HT, HR, HK, HP, HC, HB⟩ := hrel
   clear ho kb3 hpt1 hk1 hb h
   obtain ⟨r0, r1, r2, r3, r4, r5, r6⟩ := HP.out.cells
   clear r0 r1 r2 r3 r4 r5
   by_cases hi : i < kd.length
   ·obtain ⟨m, rfl⟩ : ∃ m, gk = m + 1 := ⟨gk - 1, by omega⟩
    obtain ⟨acc', hy, hrest⟩ := foldO_drop hi HT.out
    obtain ⟨te, hte⟩ : ∃ te, kd[i] = te := ⟨_, rfl⟩
    obtain ⟨ad6, ce, rfl, hKe, hce⟩ := row_at (rows_of HC.out) i hi
    rw [hte] at hKe hy
    clear hte
    obtain ⟨ts, tk⟩ := te
    obtain ⟨D4, e4, D5, e5, u6, rfl, hpe, hre⟩ := kT_openM hKe
    have hPe : PtAt w0 wr (ad6.add (i * 7)) ts D4 e4 D5 e5 u6 := ⟨at7 hce, by
     obtain ⟨cs, hcs⟩ := row_typed HC.out ad6.block rfl
     exact ⟨cs, by rw [add_block]; exact hcs⟩⟩
    have hc6 : np = acc.length := (Kd.R_reads' HR.out).1
    subst hc6
    have hIH := IH acc ts tk (ps.length : Int) acc' wr (.slice Ap acc.length cp) u6 (ad6.add (i * 7)) D4 e4 D5 e5 HR.out (Nat.le_trans hbs HK.out.size) hpe hPe hre hy
    have hnp := HP.out
    have hvt := row_typed HR.out
    have p0 := eq_true (show (0 : Int) ≤ (i : Int) by omega)
    have p1 := eq_true (show (i : Int) < (kd.length : Int) by omega)
    have p1d : decide ((i : Int) < (kd.length : Int)) = true := decide_eq_true (by omega)
    clear hce hKe hPe hpe hre
    go_wp2_with (go_at_call 27; refine hIH.mono ?_; rintro e w2 ⟨v2, rfl, hR2, hK2, hB2⟩)
    obtain ⟨A2, c2, rfl⟩ := Kd.R_slice hR2
    have hP2 := HP.out.kept hvt hK2
    have hC2 := tree_kept HC.out hvt hK2
    have hK3 := HK.out.trans hK2
    have hB3 := HB.out.trans hB2
    clear HT HR HK HP HC HB hIH hK2 hB2 hvt hnp
    try go_wp2
    go_roundg m
    case measure => exact Nat.lt_succ_self m
    case rel => exact ⟨i + 1, acc', A2, _, c2, rfl, (by first | rfl | exact nextI i (by omega)), by omega, ⟨hrest⟩, ⟨hR2⟩, ⟨hK3⟩, ⟨hP2⟩, ⟨hC2⟩, ⟨hB3⟩⟩
   ·have p1d : decide ((i : Int) < (kd.length : Int)) = false := decide_eq_false (by omega)
    obtain rfl : gk = 0 := by omega
    have hie : i = kd.length := by omega
    have hr := HT.out
    rw [hie] at hr
    obtain rfl := foldO_end hr
    clear HT hr hie
    go_wp2
    go_ret
    exact ⟨_, rfl, HR.out, HK.out, HB.out⟩
attribute [local go_sem] Instr.field asAgg
set_option maxHeartbeats 8000000 in
set_option maxRecDepth 100000 in
theorem plainOf_calls (k : Nat) (A : Option Addr) (c : Nat) (l0 r : List Sp) (w : World) (hr0 : Kd.C k37 w A l0.length l0) (hc0 : l0.length ≤ c) (h : spec_l7PlainOf.f k l0 = some r) :
  Calls Try.prog 12 #[.slice A l0.length c] w fun e w' => ∃ A' c', e = .returned (.slice A' r.length c') ∧ r.length ≤ c' ∧ Kd.C k37 w' A' r.length r ∧ Below w.heap.size w w' := by
 unfold spec_l7PlainOf.f at h
 obtain ⟨t, ht, h⟩ := Option.bind_eq_some_iff.mp h
 obtain ⟨⟨us, uk⟩, hu, h⟩ := Option.bind_eq_some_iff.mp h
 obtain ⟨p, hp, h⟩ := Option.bind_eq_some_iff.mp h
 have hu51 := Try.underlying51
 have hG := grow_calls w A c l0 hc0 hr0 k 0 t w (Below.refl _ _) ht
 have hP := plain_calls w k t ⟨us, uk⟩
 have hFl := flat_calls w w.heap.size
 clear ht
 go_enter Try.func12, Try.ntmps12
 go_upto_region 2 with (first
  | (go_at_call 25; refine hG.mono ?_; rintro e w1 ⟨cs1, rfl, hm1, hb1⟩)
  | (go_at_call 24; refine (hP cs1 _ ((kT w).K_of_M hm1) hu).mono ?_; rintro e w2 ⟨cs2, rfl, hm2, hb2⟩; obtain ⟨A4, c4, A5, c5, v6, rfl, hps, hr6⟩ := kT_openM hm2; obtain ⟨A6, c6, rfl⟩ := Kd.R_slice hr6; simp only [stC, List.cons_append, List.nil_append])
  | ((with_reducible refine gate_dst (N := 3) rfl ?_); refine box_event ?hg (N := 3) ?hd (cs := #[.int .i64 0, .int .i64 0, .string (⟨#[]⟩ : ByteArray), .int .i64 0, .slice none 0 0, .slice none 0 0, .slice none 0 0]) (t := 51) ?hr ?_; (case hd => rfl); (case hg => rfl); (case hr => first | (go_simp; done) | (go_simp; rfl)); intro g3 hg3 w4 hx4 hb4; have gen : w2.heap.size ≤ g3 := (by rw [hg3]; exact Nat.le_refl _); clear hg3; have n0 : w4.cell? ⟨g3, 0, none⟩ = _ := (blk_cell hx4 0).trans rfl; have m0 := blk_frozen hx4 0; have n1 : w4.cell? ⟨g3, 1, none⟩ = _ := (blk_cell hx4 1).trans rfl; have m1 := blk_frozen hx4 1; have n2 : w4.cell? ⟨g3, 2, none⟩ = _ := (blk_cell hx4 2).trans rfl; have m2 := blk_frozen hx4 2; have n3 : w4.cell? ⟨g3, 3, none⟩ = _ := (blk_cell hx4 3).trans rfl; have m3 := blk_frozen hx4 3; have n4 : w4.cell? ⟨g3, 4, none⟩ = _ := (blk_cell hx4 4).trans rfl; have m4 := blk_frozen hx4 4; have n5 : w4.cell? ⟨g3, 5, none⟩ = _ := (blk_cell hx4 5).trans rfl; have m5 := blk_frozen hx4 5; have n6 : w4.cell? ⟨g3, 6, none⟩ = _ := (blk_cell hx4 6).trans rfl; have m6 := blk_frozen hx4 6; have hbn := (bel7 hb4 gen (.int .i64 us.f0) (.int .i64 us.f1) (.string us.f2) (.int .i64 us.f3) (.slice A4 us.f4.length c4) (.slice A5 us.f5.length c5) (.slice A6 uk.length c6)); have xn := (put7 hx4 (.int .i64 us.f0) (.int .i64 us.f1) (.string us.f2) (.int .i64 us.f3) (.slice A4 us.f4.length c4) (.slice A5 us.f5.length c5) (.slice A6 uk.length c6))))
 have hB2 := below_step hb1 hb2
 clear n0 n1 n2 n3 n4 n5 n6 m0 m1 m2 m3 m4 m5 m6 hG hP hm1 hm2
 generalize World.setCell _ ⟨g3, 6, none⟩ _ = Wn at hbn xn ⊢
 have hBn := below_step hB2 hbn
 have hrn := Kd.R_below hr6 hbn
 have hpt : PtAt w Wn ⟨g3, 0, none⟩ us A4 c4 A5 c5 (.slice A6 uk.length c6) := ⟨⟨(blk_cell xn 0).trans rfl, (blk_cell xn 1).trans rfl, (blk_cell xn 2).trans rfl, (blk_cell xn 3).trans rfl, (blk_cell xn 4).trans rfl, (blk_cell xn 5).trans rfl, (blk_cell xn 6).trans rfl⟩, ⟨_, xn⟩⟩
 have hnil : (dS w).R 37 Wn w.heap.size (fun _ => True) (.slice none 0 0) [] := Kd.R_nil _ _ _ _ _
 have hcall := hFl w1.heap.size k [] us uk (-1) p Wn _ _ _ A4 c4 A5 c5 hnil (below_size hBn) hps hpt hrn hp
 clear hFl hp hpt hnil hrn hps hr6 hbn xn hb1 hb2 hB2
 go_wp2_with (first
  | (go_at_call 27; refine hcall.mono ?_; rintro e w3 ⟨v3, rfl, hR3, hK3, hb3⟩; obtain ⟨A7, c7, rfl⟩ := Kd.R_slice hR3; have hB3 := hBn.trans hb3; obtain ⟨_, hc7, hC7⟩ := Kd.R_reads' hR3; have hC8 : Kd.C k37 w3 A7 p.length p := ReadsRow.imp_ hC7 (Below.refl _ _) (fun _ _ hq => k37.K_below hB3 hq))
  | (go_at_call 26; refine (spec_l4Copy.calls k A7 c7 p r _ hC8 hc7 h).mono ?_; rintro e w4 ⟨v4, rfl, hS4, hb4⟩; obtain ⟨A8, c8, rfl⟩ := Kd.R_slice (Kd.S_R hS4)))
 go_ret
 obtain ⟨_, hc8, hC9⟩ := Kd.R_reads' (Kd.S_R hS4)
 exact ⟨_, _, rfl, hc8, hC9, below_step hB3 hb4⟩
def spec_IsPlain.f (k : Nat) (l0 : List Sp) : Option Bool := (spec_l4Fault.f k l0).bind fun c => if c = 0 then (spec_l7PlainOf.f k l0).bind fun q => spec_SameProcs.f k q l0 else some false
theorem spec_IsPlain.mono : ∀ a0 k, LeO (spec_IsPlain.f k a0) (spec_IsPlain.f (k + 1) a0) := fun a0 k =>
 LeO.bind (spec_l4Fault.mono _ _) (fun _ => LeO.ite (LeO.bind (spec_l7PlainOf.mono _ _) (fun _ => spec_SameProcs.mono _ _ _)) (LeO.refl _))
set_option maxHeartbeats 8000000 in
set_option maxRecDepth 100000 in
theorem spec_IsPlain.calls (k : Nat) (A0 : Option Addr) (c0 : Nat) (l0 : List Sp) (r : Bool) (w : World) (hr0 : Kd.C k37 w A0 l0.length l0) (hc0 : l0.length ≤ c0) (h : spec_IsPlain.f k l0 = some r) :
  Calls Try.prog 5 #[.slice A0 l0.length c0] w fun e w' => e = .returned (.bool r) ∧ Below w.heap.size w w' := by
 unfold spec_IsPlain.f at h
 obtain ⟨c, hf, h⟩ := Option.bind_eq_some_iff.mp h
 by_cases hc : c = 0
 ·rw [if_pos hc] at h
  obtain ⟨q, hq, h⟩ := Option.bind_eq_some_iff.mp h
  subst hc
  go_enter Try.func5, Try.ntmps5
  go_wp2_with (first
   | (go_at_call 10; refine (spec_l4Fault.calls k A0 c0 l0 0 _ hr0 hc0 hf).mono ?_; rintro e w1 ⟨rfl, hb1⟩)
   | (go_at_call 12; refine (plainOf_calls k A0 c0 l0 q _ (Kd.C_below hr0 hb1) hc0 hq).mono ?_; rintro e w2 ⟨A', c', rfl, hc', hC', hb2⟩; have hB2 := below_step hb1 hb2)
   | (go_at_call 11; refine (spec_SameProcs.calls k A' c' q A0 c0 l0 r _ hC' hc' (Kd.C_below hr0 hB2) hc0 h).mono ?_; rintro e w3 ⟨rfl, ⟨nd, rfl⟩⟩))
  go_ret
  exact ⟨rfl, pw_below_drewN hB2 _⟩
 ·rw [if_neg hc] at h
  obtain rfl := Option.some.inj h
  have hcb : (c == 0) = false := beq_eq_false_iff_ne.mpr hc
  go_enter Try.func5, Try.ntmps5
  go_wp2_with (go_at_call 10; refine (spec_l4Fault.calls k A0 c0 l0 c _ hr0 hc0 hf).mono ?_; rintro e w1 ⟨rfl, hb1⟩)
  go_ret
  exact ⟨rfl, hb1⟩
attribute [local go_sem] Instr.field asAgg
def seqAt (l0 : List Sp) (x : Int) : Bool := (rd_T37 l0 x).f0 == 1
def inR (l0 : List Sp) (ks : List Int) : Bool := ks.all fun x => decide (0 ≤ x ∧ x < (l0.length : Int))
def plainI (k : Nat) (l0 : List Sp) : Nat → Nat → Option Bool
 | 0, _ => some true
 | n + 1, i => (impl_kids.f k l0 (i : Int)).bind fun ks => if inR l0 ks = true then (if seqAt l0 (i : Int) = true then (if ks.length = 1 then some false else if ks.any (seqAt l0) = true then some false else plainI k l0 n (i + 1)) else plainI k l0 n (i + 1)) else none
theorem plainI_mono (k : Nat) (l0 : List Sp) : ∀ n i, LeO (plainI k l0 n i) (plainI (k + 1) l0 n i)
 | 0, _ => LeO.refl _
 | n + 1, i => LeO.bind (impl_kids.mono _ _ _) (fun _ => LeO.ite (LeO.ite (LeO.ite (LeO.refl _) (LeO.ite (LeO.refl _) (plainI_mono k l0 n (i + 1)))) (plainI_mono k l0 n (i + 1))) (LeO.refl _))
def impl_IsPlain.f (k : Nat) (l0 : List Sp) : Option Bool := (impl_ProcFault.f k l0).bind fun c => if c = 0 then plainI k l0 l0.length 0 else some false
theorem impl_IsPlain.mono : ∀ a0 k, LeO (impl_IsPlain.f k a0) (impl_IsPlain.f (k + 1) a0) := fun a0 k =>
 LeO.bind (impl_ProcFault.mono _ _) (fun _ => LeO.ite (plainI_mono _ _ _ _) (LeO.refl _))
set_option maxHeartbeats 8000000 in
set_option maxRecDepth 100000 in
theorem clo_calls (A : Option Addr) (c : Nat) (l0 : List Sp) (x : Int) (adp : Addr) (w : World) (hr0 : Kd.C k37 w A l0.length l0) (hx : w.cell? adp = some (.slice A l0.length c)) (hi : 0 ≤ x ∧ x < (l0.length : Int)) :
  Calls Try.prog 17 #[.int .i64 x, .pointer (some adp)] w fun e w' => e = .returned (.bool (seqAt l0 x)) ∧ Below w.heap.size w w' := by
 obtain ⟨ad, A4, c4, A5, c5, rfl, e0, e1, e2, e3, e4, e5, l4, g4, l5, g5⟩ := at_T37 hr0 x hi.1 hi.2
 clear e1 e2 e3 e4 e5 l4 g4 l5 g5
 have p0 := eq_true hi.1
 have p1 := eq_true hi.2
 clear hi
 unfold seqAt
 go_enter Try.func17, Try.ntmps17
 go_wp2
 go_ret
 exact ⟨rfl, Below.refl _ _⟩
set_option maxHeartbeats 8000000 in
set_option maxRecDepth 100000 in
theorem index_calls (A : Option Addr) (c : Nat) (l0 : List Sp) (A6 : Option Addr) (c6 : Nat) (ks : List Int) (adp : Addr) (w : World) (hr0 : Kd.C k37 w A l0.length l0) (hx : w.cell? adp = some (.slice A l0.length c)) (hk : (Kd.int .i64).C w A6 ks.length ks) (hin : inR l0 ks = true) :
  Calls Try.prog 34 #[.slice A6 ks.length c6, .func (.func 17) #[] #[.pointer (some adp)]] w fun e w' => ∃ v : Int, e = .returned (.int .i64 v) ∧ decide (0 ≤ v) = ks.any (seqAt l0) ∧ Below w.heap.size w w' := by
 have hkl : ks.length ≤ 9223372036854775807 := hk.2.1
 go_enter Try.func34, Try.ntmps34
 go_wp2
 go_loopg [8] (ks.length) (fun n v8 w' => ∃ (i : Nat), v8 = .int .i64 (i : Int) ∧ n + i = ks.length ∧ Aside0 ((ks.take i).any (seqAt l0) = false) ∧ Aside0 (Below w.heap.size w w'))
 case atStart => exact ⟨0, rfl, rfl, ⟨rfl⟩, ⟨Below.refl _ _⟩⟩
 case round =>
  obtain ⟨i, rfl, hn, HT, HB⟩ := hrel
  by_cases hi : i < ks.length
  ·obtain ⟨m, rfl⟩ : ∃ m, gk = m + 1 := ⟨gk - 1, by omega⟩
   have hlt := of_decide_eq_true (List.all_eq_true.1 hin ks[i] (List.getElem_mem hi))
   obtain ⟨ad6, rfl, hc6⟩ := Kd.at_int (Kd.C_below hk HB.out) (i : Int) (by omega) (by omega)
   rw [rd_nat ks i hi, Int.toNat_natCast] at hc6
   have hany : (ks.take (i + 1)).any (seqAt l0) = seqAt l0 ks[i] := by
    rw [List.take_succ_eq_append_getElem hi, List.any_append, HT.out]
    simp
   obtain ⟨x, hxk⟩ : ∃ x, ks[i] = x := ⟨_, rfl⟩
   have hmem : x ∈ ks := by rw [← hxk]; exact List.getElem_mem hi
   rw [hxk] at hlt hc6 hany
   clear hxk
   have p0 := eq_true (show (0 : Int) ≤ (i : Int) by omega)
   have p1 := eq_true (show (i : Int) < (ks.length : Int) by omega)
   have p1d : decide ((i : Int) < (ks.length : Int)) = true := decide_eq_true (by omega)
   have hcall := fun W (hb : Below w.heap.size w W) => clo_calls A c l0 x adp W (Kd.C_below hr0 hb) ((hb.cell (World.block_lt_of_cell? w _ hx)).trans hx) hlt
   cases hs : seqAt l0 x
   ·rw [hs] at hcall hany
    go_wp2_with ((with_reducible refine gate_dyn (t := 11) rfl ?_); refine goesC_ (some 16) rfl rfl Try.func17 (by kernel_rfl) rfl #[.int .i64 x] #[.pointer (some adp)] #[.int .i64 x, .pointer (some adp)] rfl (by (try simp only [List.map_toArray, List.map_cons, List.map_nil]); first | done | rfl) rfl ?_; refine (hcall _ HB.out).mono ?_; rintro e w1 ⟨rfl, hb1⟩; refine ⟨_, rfl, ?_⟩)
    have HB1 := below_step HB.out hb1
    go_roundg m
    case measure => exact Nat.lt_succ_self m
    case rel => exact ⟨i + 1, (by first | rfl | exact nextI i (by omega)), by omega, ⟨hany⟩, ⟨HB1⟩⟩
   ·rw [hs] at hcall
    go_wp2_with ((with_reducible refine gate_dyn (t := 11) rfl ?_); refine goesC_ (some 16) rfl rfl Try.func17 (by kernel_rfl) rfl #[.int .i64 x] #[.pointer (some adp)] #[.int .i64 x, .pointer (some adp)] rfl (by (try simp only [List.map_toArray, List.map_cons, List.map_nil]); first | done | rfl) rfl ?_; refine (hcall _ HB.out).mono ?_; rintro e w1 ⟨rfl, hb1⟩; refine ⟨_, rfl, ?_⟩)
    go_ret
    refine ⟨_, rfl, ?_, below_step HB.out hb1⟩
    rw [List.any_eq_true.2 ⟨x, hmem, hs⟩]
    exact decide_eq_true (by omega)
  ·have p1d : decide ((i : Int) < (ks.length : Int)) = false := decide_eq_false (by omega)
   obtain rfl : gk = 0 := by omega
   have hie : i = ks.length := by omega
   have hany := HT.out
   rw [hie, List.take_length] at hany
   clear hie HT
   go_wp2
   go_ret
   refine ⟨_, rfl, ?_, HB.out⟩
   rw [hany]
   rfl
theorem contains_calls (A : Option Addr) (c : Nat) (l0 : List Sp) (A6 : Option Addr) (c6 : Nat) (ks : List Int) (adp : Addr) (w : World) (hr0 : Kd.C k37 w A l0.length l0) (hx : w.cell? adp = some (.slice A l0.length c)) (hk : (Kd.int .i64).C w A6 ks.length ks) (hin : inR l0 ks = true) :
  Calls Try.prog 16 #[.slice A6 ks.length c6, .func (.func 17) #[] #[.pointer (some adp)]] w fun e w' => e = .returned (.bool (ks.any (seqAt l0))) ∧ Below w.heap.size w w' := by
 have hI := index_calls A c l0 A6 c6 ks adp w hr0 hx hk hin
 go_enter Try.func16, Try.ntmps16
 go_wp2_with (go_at_call 34; refine hI.mono ?_; rintro e w1 ⟨v, rfl, hv, hb1⟩)
 go_ret
 refine ⟨?_, hb1⟩
 rw [← hv]
 rfl
set_option maxHeartbeats 8000000 in
set_option maxRecDepth 100000 in
theorem impl_IsPlain.calls (k : Nat) (A0 : Option Addr) (c0 : Nat) (l0 : List Sp) (r : Bool) (w : World) (hr0 : Kd.C k37 w A0 l0.length l0) (hc0 : l0.length ≤ c0) (h : impl_IsPlain.f k l0 = some r) :
  Calls Try.prog 7 #[.slice A0 l0.length c0] w fun e w' => e = .returned (.bool r) ∧ Below w.heap.size w w' := by
 have hkl : l0.length ≤ 9223372036854775807 := hr0.2.1
 unfold impl_IsPlain.f at h
 obtain ⟨c, hf, h⟩ := Option.bind_eq_some_iff.mp h
 have hu37 := Try.underlying37
 by_cases hc : c = 0
 ·rw [if_pos hc] at h
  subst hc
  go_enter Try.func7, Try.ntmps7
  go_wp2_with (first
   | ((with_reducible refine gate_dst (N := 1) rfl ?_); refine box_event ?hg (N := 1) ?hd (cs := #[.slice A0 l0.length c0]) (t := 25) ?hr ?_; (case hd => rfl); (case hg => rfl); (case hr => first | (go_simp; done) | (go_simp; rfl)); intro g1 hg1 w1 hx1 hb1; clear hg1; have z1 : w1.cell? ⟨g1, 0, none⟩ = some (.slice A0 l0.length c0) := (blk_cell hx1 0).trans rfl)
   | (go_at_call 14; refine (impl_ProcFault.calls k A0 c0 l0 0 _ (Kd.C_below hr0 hb1) hc0 hf).mono ?_; rintro e w2 ⟨rfl, hb2⟩; have z2 : w2.cell? ⟨g1, 0, none⟩ = some (.slice A0 l0.length c0) := (blk_cell (blk_below hx1 hb2) 0).trans rfl))
  have hB2 := below_step hb1 hb2
  have x2 := blk_below hx1 hb2
  clear hb1 hb2 hx1 z1 z2
  go_loopg [11] (l0.length) (fun n v11 w' => ∃ (i : Nat), v11 = .int .i64 (i : Int) ∧ n + i = l0.length ∧ Aside0 (plainI k l0 n i = some r) ∧ Aside0 (w'.heap[g1]? = some (.cells #[.slice A0 l0.length c0] 25 (0, 0))) ∧ Aside0 (Below w.heap.size w w'))
  case atStart => exact ⟨0, rfl, rfl, ⟨h⟩, ⟨x2⟩, ⟨hB2⟩⟩
  case round =>
   obtain ⟨i, rfl, hn, HT, X1, HB⟩ := hrel
   clear hB2 x2 h
   by_cases hi : i < l0.length
   ·obtain ⟨m, rfl⟩ : ∃ m, gk = m + 1 := ⟨gk - 1, by omega⟩
    have ht := HT.out
    rw [plainI] at ht
    obtain ⟨ks, hks, ht⟩ := Option.bind_eq_some_iff.mp ht
    by_cases hin : inR l0 ks = true
    case neg => rw [if_neg hin] at ht; cases ht
    rw [if_pos hin] at ht
    obtain ⟨ad, A4, c4, A5, c5, rfl, e0, e1, e2, e3, e4, e5, l4, g4_, l5, g5_⟩ := at_T37 (Kd.C_below hr0 HB.out) (i : Int) (by omega) (by omega)
    simp only [Int.toNat_natCast] at e0 e1 e2 e3 e4 e5
    clear l4 g4_ l5 g5_
    have p0 := eq_true (show (0 : Int) ≤ (i : Int) by omega)
    have p1 := eq_true (show (i : Int) < (l0.length : Int) by omega)
    have p1d : decide ((i : Int) < (l0.length : Int)) = true := decide_eq_true (by omega)
    go_upto_region 7 with (first
     | ((with_reducible refine gate_dst (N := 4) rfl ?_); refine box_event ?hg (N := 4) ?hd (cs := #[.int .i64 0, .int .i64 0, .string (⟨#[]⟩ : ByteArray), .int .i64 0, .slice none 0 0, .slice none 0 0]) (t := 37) ?hr ?_; (case hd => rfl); (case hg => rfl); (case hr => first | (go_simp; done) | (go_simp; rfl)); intro g4 hg4 w2 hx4 hb4; have gen : wr.heap.size ≤ g4 := (by rw [hg4]; exact Nat.le_refl _); have ne14 : g1 ≠ g4 := (by rw [hg4]; exact Nat.ne_of_lt (blk_lt X1.out)); have ne41 := Ne.symm ne14; clear hg4; have n0 : w2.cell? ⟨g4, 0, none⟩ = some (.int .i64 0) := (blk_cell hx4 0).trans rfl; have m0 := blk_frozen hx4 0; have n1 : w2.cell? ⟨g4, 1, none⟩ = some (.int .i64 0) := (blk_cell hx4 1).trans rfl; have m1 := blk_frozen hx4 1; have n2 : w2.cell? ⟨g4, 2, none⟩ = some (.string (⟨#[]⟩ : ByteArray)) := (blk_cell hx4 2).trans rfl; have m2 := blk_frozen hx4 2; have n3 : w2.cell? ⟨g4, 3, none⟩ = some (.int .i64 0) := (blk_cell hx4 3).trans rfl; have m3 := blk_frozen hx4 3; have n4 : w2.cell? ⟨g4, 4, none⟩ = some (.slice none 0 0) := (blk_cell hx4 4).trans rfl; have m4 := blk_frozen hx4 4; have n5 : w2.cell? ⟨g4, 5, none⟩ = some (.slice none 0 0) := (blk_cell hx4 5).trans rfl; have m5 := blk_frozen hx4 5; have z1 : w2.cell? ⟨g1, 0, none⟩ = some (.slice (some ad) l0.length c0) := (blk_cell (blk_below X1.out hb4) 0).trans rfl; have hbn := (bel6 hb4 gen (.int .i64 (rd_T37 l0 (i : Int)).f0) (.int .i64 (rd_T37 l0 (i : Int)).f1) (.string (rd_T37 l0 (i : Int)).f2) (.int .i64 (rd_T37 l0 (i : Int)).f3) (.slice A4 (rd_T37 l0 (i : Int)).f4.length c4) (.slice A5 (rd_T37 l0 (i : Int)).f5.length c5)); have xn := (put6 hx4 (.int .i64 (rd_T37 l0 (i : Int)).f0) (.int .i64 (rd_T37 l0 (i : Int)).f1) (.string (rd_T37 l0 (i : Int)).f2) (.int .i64 (rd_T37 l0 (i : Int)).f3) (.slice A4 (rd_T37 l0 (i : Int)).f4.length c4) (.slice A5 (rd_T37 l0 (i : Int)).f5.length c5)); have X1n := blk_below X1.out hbn; have HBn := below_step HB.out hbn)
     | (go_at_call 15; refine (impl_kids.calls k (some ad) c0 l0 (i : Int) ks _ (Kd.C_below hr0 HBn) hc0 hks).mono ?_; rintro e w3 ⟨v5, rfl, hv5, hb3⟩; obtain ⟨A6, c6, rfl⟩ := Kd.R_slice hv5))
    have X13 := blk_below X1n hb3
    have HB3 := below_step HBn hb3
    have y0 : w3.cell? ⟨g4, 0, none⟩ = some (.int .i64 (rd_T37 l0 (i : Int)).f0) := (blk_cell (blk_below xn hb3) 0).trans rfl
    have hCk := (Kd.R_reads' hv5).2.2
    have hcont := contains_calls (some ad) c0 l0 A6 c6 ks ⟨g1, 0, none⟩ w3 (Kd.C_below hr0 HB3) ((blk_cell X13 0).trans rfl) hCk hin
    clear n0 n1 n2 n3 n4 n5 m0 m1 m2 m3 m4 m5 hbn xn X1n HBn hv5 hb3 z1 ne14 ne41 e0 e1 e2 e3 e4 e5 X1 HB HT hCk hin hks
    cases hq : seqAt l0 (i : Int)
    ·have hq1 : ((rd_T37 l0 (i : Int)).f0 == 1) = false := hq
     rw [hq, if_neg (by simp)] at ht
     clear hcont
     go_wp2
     go_roundg m
     case measure => exact Nat.lt_succ_self m
     case rel => exact ⟨i + 1, (by first | rfl | exact nextI i (by omega)), by omega, ⟨ht⟩, ⟨X13⟩, ⟨HB3⟩⟩
    ·have hq1 : ((rd_T37 l0 (i : Int)).f0 == 1) = true := hq
     rw [hq, if_pos rfl] at ht
     by_cases hl : ks.length = 1
     ·rw [if_pos hl] at ht
      obtain rfl := Option.some.inj ht
      clear hcont ht
      have hl1 : ((ks.length : Int) == 1) = true := beq_iff_eq.mpr (by omega)
      clear hl
      go_wp2
      go_ret
      exact ⟨rfl, HB3⟩
     ·rw [if_neg hl] at ht
      have hl1 : ((ks.length : Int) == 1) = false := beq_eq_false_iff_ne.mpr (by omega)
      clear hl
      cases ha : ks.any (seqAt l0)
      ·rw [ha] at hcont
       rw [ha, if_neg (by simp)] at ht
       go_wp2_with (go_at_call 16; refine hcont.mono ?_; rintro e w5 ⟨rfl, hb5⟩)
       have X15 := blk_below X13 hb5
       have HB5 := below_step HB3 hb5
       clear hcont
       try go_wp2
       go_roundg m
       case measure => exact Nat.lt_succ_self m
       case rel => exact ⟨i + 1, (by first | rfl | exact nextI i (by omega)), by omega, ⟨ht⟩, ⟨X15⟩, ⟨HB5⟩⟩
      ·rw [ha] at hcont
       rw [ha, if_pos rfl] at ht
       obtain rfl := Option.some.inj ht
       go_wp2_with (go_at_call 16; refine hcont.mono ?_; rintro e w5 ⟨rfl, hb5⟩)
       clear hcont
       try go_wp2
       go_ret
       exact ⟨rfl, below_step HB3 hb5⟩
   ·have p1d : decide ((i : Int) < (l0.length : Int)) = false := decide_eq_false (by omega)
    obtain rfl : gk = 0 := by omega
    have ht := HT.out
    rw [plainI] at ht
    obtain rfl := Option.some.inj ht
    clear ht HT
    go_wp2
    go_ret
    exact ⟨rfl, HB.out⟩
 ·rw [if_neg hc] at h
  obtain rfl := Option.some.inj h
  have hcb : (c == 0) = false := beq_eq_false_iff_ne.mpr hc
  have hcb2 : (c != 0) = true := bne_iff_ne.mpr hc
  go_enter Try.func7, Try.ntmps7
  go_wp2_with (first
   | ((with_reducible refine gate_dst (N := 1) rfl ?_); refine box_event ?hg (N := 1) ?hd (cs := #[.slice A0 l0.length c0]) (t := 25) ?hr ?_; (case hd => rfl); (case hg => rfl); (case hr => first | (go_simp; done) | (go_simp; rfl)); intro g1 hg1 w1 hx1 hb1; clear hg1; have z1 : w1.cell? ⟨g1, 0, none⟩ = some (.slice A0 l0.length c0) := (blk_cell hx1 0).trans rfl)
   | (go_at_call 14; refine (impl_ProcFault.calls k A0 c0 l0 c _ (Kd.C_below hr0 hb1) hc0 hf).mono ?_; rintro e w2 ⟨rfl, hb2⟩))
  go_ret
  exact ⟨rfl, below_step hb1 hb2⟩
end Go.Proofs.Ytjbcpghpafacaaa.I
