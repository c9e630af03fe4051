import Derived.Test.YtbibioffldkanaaGreatDoorKZ
-- Written by a program of this session's own (xp.py) for this seat.
namespace Go.Proofs.YtbibioffldkanaaGreatDoor.K
open Go.RowKit Go.Proofs.YtbibioffldkanaaGreatDoorW.PrintWords Go.Proofs.YtbibioffldkanaaGreatDoorW.PrintLast Go.Proofs.YtbibioffldkanaaGreatDoorW.PrintMore
attribute [local go_sem] Instr.field asAgg
attribute [local go_sem] lS lQ mY mX lm lq lT lU   -- for this text's walks alone
set_option linter.unusedVariables false
set_option linter.unusedSimpArgs false



def Nw : Option Int → Value
  | none => .nilIface
  | some c => .iface 0 (.int .i64 c)
theorem mr : Nw none = .nilIface := rfl
theorem mg (c : Int) : Nw (some c) = .iface 0 (.int .i64 c) := rfl

theorem vV : (Tryz.prog.info? 2).map (fun i => (i.zero, i.size, i.bytes)) = some (some (.int .i64 0), 1, 8) := by kernel_rfl
theorem info5 : (Tryz.prog.info? 5).map (fun i => (i.zero, i.size, i.bytes)) = some (some (.int .u8 0), 1, 1) := by kernel_rfl
theorem info9 : (Tryz.prog.info? 9).map (fun i => (i.zero, i.size, i.bytes)) = some (some (.string ⟨#[]⟩), 1, 16) := by kernel_rfl
theorem info33 : (Tryz.prog.info? 33).map (fun i => (i.zero, i.size, i.bytes)) = some (some (.agg #[(.string ⟨#[]⟩), (.int .i64 0), (.slice none 0 0)]), 3, 48) := by kernel_rfl
theorem ug : (Tryz.prog.info? 38).map (fun i => (i.zero, i.size, i.bytes)) = some (some (.agg #[(.string ⟨#[]⟩), (.string ⟨#[]⟩)]), 2, 32) := by kernel_rfl
-- the values' own types
/-! #### struct type 38 -/
structure S38 where
  f0 : ByteArray
  f1 : ByteArray
def z38 : S38 := ⟨(⟨#[]⟩ : ByteArray), (⟨#[]⟩ : ByteArray)⟩
def k38 : Kd S38 := Kd.iso (Kd.pair Kd.string Kd.string) (fun x : S38 => (x.f0, x.f1))
theorem HY {w : World} {x : S38} {cs : List Value} (h : k38.K w x cs) : cs = [.string x.f0, .string x.f1] := by
  obtain ⟨_, _, rfl, rfl, rfl⟩ := h
  exact rfl
theorem MI {w : World} {base : Nat} {ok : Nat → Prop} {x : S38} {cs : List Value} (h : k38.M w base ok x cs) : cs = [.string x.f0, .string x.f1] := by
  obtain ⟨_, _, rfl, rfl, rfl⟩ := h
  exact rfl
theorem Oc (w : World) (x : S38)  : k38.K w x [.string x.f0, .string x.f1] := ⟨[.string x.f0], [.string x.f1], rfl, rfl, rfl⟩
theorem tK (w : World) (base : Nat) (ok : Nat → Prop) (x : S38)  : k38.M w base ok x [.string x.f0, .string x.f1] := ⟨[.string x.f0], [.string x.f1], rfl, rfl, rfl⟩
def iU (xs : List S38) (i : Int) : S38 := xs.getD i.toNat z38
theorem oW {w : World} {A : Option Addr} {n : Nat} {xs : List S38} (h : Kd.C k38 w A n xs) (i : Int) (h0 : 0 ≤ i) (h1 : i < n) : ∃ ad , A = some ad ∧ w.cell? (ad.add (i.toNat * 2)) = some (.string (iU xs i).f0) ∧ w.cell? ⟨(ad.add (i.toNat * 2)).block, (ad.add (i.toNat * 2)).off + 1, none⟩ = some (.string (iU xs i).f1) := by
  obtain ⟨ad, c, e, _, hK, hc0⟩ := Kd.EF h z38 i h0 h1
  have hc : ∀ j u, c[j]? = some u → w.cell? (ad.add (i.toNat * 2 + j)) = some u := hc0
  obtain rfl := HY hK
  exact ⟨ad, e, hc 0 _ rfl, by rw [← o6 _ _ 1 jv]; exact hc 1 _ rfl⟩

def EY (xs : List (List S38)) (i : Int) : (List S38) := xs.getD i.toNat ([] : List S38)
theorem OJ {w : World} {A : Option Addr} {n : Nat} {xs : List (List S38)} (h : Kd.C (Kd.slice 38 k38) w A n xs) (i : Int) (h0 : 0 ≤ i) (h1 : i < n) : ∃ ad A0 c0, A = some ad ∧ w.cell? (ad.add i.toNat) = some (.slice A0 (EY xs i).length c0) ∧ (EY xs i).length ≤ c0 ∧ k38.C w A0 (EY xs i).length (EY xs i) := by
  obtain ⟨ad, c, e, _, hK, hc0⟩ := Kd.EF h ([] : List S38) i h0 h1
  have hc : ∀ j u, c[j]? = some u → w.cell? (ad.add (i.toNat * 1 + j)) = some u := hc0
  obtain ⟨A0, c0, rfl, l0, g0⟩ := hK
  exact ⟨ad, A0, c0, e, by have hq := hc 0 _ rfl; rwa [Nat.mul_one, Nat.add_zero] at hq, l0, g0⟩

/-! #### struct type 33 -/
structure S33 where
  f0 : ByteArray
  f1 : Int
  f2 : (List S38)
def z33 : S33 := ⟨(⟨#[]⟩ : ByteArray), (0 : Int), ([] : List S38)⟩
def k33 : Kd S33 := Kd.iso (Kd.pair Kd.string (Kd.pair (Kd.int .i64) (Kd.slice 38 k38))) (fun x : S33 => (x.f0, x.f1, x.f2))
theorem Gw {w : World} {x : S33} {cs : List Value} (h : k33.K w x cs) : ∃ A2 c2, cs = [.string x.f0, .int .i64 x.f1, .slice A2 x.f2.length c2] ∧ x.f2.length ≤ c2 ∧ k38.C w A2 x.f2.length x.f2 := by
  obtain ⟨_, _, rfl, rfl, ⟨_, _, rfl, rfl, ⟨A2, c2, rfl, l2, g2⟩⟩⟩ := h
  exact ⟨A2, c2, rfl, l2, g2⟩
theorem nP {w : World} {base : Nat} {ok : Nat → Prop} {x : S33} {cs : List Value} (h : k33.M w base ok x cs) : ∃ v2, cs = [.string x.f0, .int .i64 x.f1, v2] ∧ k38.R 38 w base ok v2 x.f2 := by
  obtain ⟨_, _, rfl, rfl, ⟨_, _, rfl, rfl, ⟨v2, rfl, g2⟩⟩⟩ := h
  exact ⟨v2, rfl, g2⟩
theorem OA (w : World) (x : S33) {A2 : Option Addr} {c2 : Nat} (l2 : x.f2.length ≤ c2) (g2 : k38.C w A2 x.f2.length x.f2) : k33.K w x [.string x.f0, .int .i64 x.f1, .slice A2 x.f2.length c2] := ⟨[.string x.f0], [.int .i64 x.f1, .slice A2 x.f2.length c2], rfl, rfl, ⟨[.int .i64 x.f1], [.slice A2 x.f2.length c2], rfl, rfl, ⟨A2, c2, rfl, l2, g2⟩⟩⟩
theorem qh (w : World) (base : Nat) (ok : Nat → Prop) (x : S33) {v2 : Value} (g2 : k38.R 38 w base ok v2 x.f2) : k33.M w base ok x [.string x.f0, .int .i64 x.f1, v2] := ⟨[.string x.f0], [.int .i64 x.f1, v2], rfl, rfl, ⟨[.int .i64 x.f1], [v2], rfl, rfl, ⟨v2, rfl, g2⟩⟩⟩
def fJ (xs : List S33) (i : Int) : S33 := xs.getD i.toNat z33
theorem nC {w : World} {A : Option Addr} {n : Nat} {xs : List S33} (h : Kd.C k33 w A n xs) (i : Int) (h0 : 0 ≤ i) (h1 : i < n) : ∃ ad A2 c2, A = some ad ∧ w.cell? (ad.add (i.toNat * 3)) = some (.string (fJ xs i).f0) ∧ w.cell? ⟨(ad.add (i.toNat * 3)).block, (ad.add (i.toNat * 3)).off + 1, none⟩ = some (.int .i64 (fJ xs i).f1) ∧ w.cell? ⟨(ad.add (i.toNat * 3)).block, (ad.add (i.toNat * 3)).off + 2, none⟩ = some (.slice A2 (fJ xs i).f2.length c2) ∧ (fJ xs i).f2.length ≤ c2 ∧ k38.C w A2 (fJ xs i).f2.length (fJ xs i).f2 := by
  obtain ⟨ad, c, e, _, hK, hc0⟩ := Kd.EF h z33 i h0 h1
  have hc : ∀ j u, c[j]? = some u → w.cell? (ad.add (i.toNat * 3 + j)) = some u := hc0
  obtain ⟨A2, c2, rfl, l2, g2⟩ := Gw hK
  exact ⟨ad, A2, c2, e, hc 0 _ rfl, by rw [← o6 _ _ 1 jv]; exact hc 1 _ rfl, by rw [← o6 _ _ 2 jv]; exact hc 2 _ rfl, l2, g2⟩

end Go.Proofs.YtbibioffldkanaaGreatDoor.K
-- Written by a program of this session's own (xp.py) for this seat.
namespace Go.Proofs.YtbibioffldkanaaGreatDoor.K
open Go.RowKit Go.Proofs.YtbibioffldkanaaGreatDoorW.PrintWords Go.Proofs.YtbibioffldkanaaGreatDoorW.PrintLast Go.Proofs.YtbibioffldkanaaGreatDoorW.PrintMore
attribute [local go_sem] Instr.field asAgg
attribute [local go_sem] lS lQ mY mX lm lq lT lU   -- for this text's walks alone
set_option linter.unusedVariables false
set_option linter.unusedSimpArgs false

theorem MJ (d : Nat) (w : World) (x0 y0 : ByteArray) (x1 y1 : ByteArray) :
    (Op.equalIn (d + 2) 38 (.agg #[.string x0, .string x1]) (.agg #[.string y0, .string y1])).run Tryz.prog w = .ok (x0.toList == y0.toList && (x1.toList == y1.toList)) w := by
  refine Le Tryz.underlying38 iY ?_
  refine Iw (by rfl) (by go_simp; rfl) (by go_simp; rfl) (by go_simp) ?_
  exact Gs (by rfl) (by go_simp; rfl) (by go_simp; rfl) (by go_simp)
end Go.Proofs.YtbibioffldkanaaGreatDoor.K
-- Written by a program of this session's own (xp.py) for this seat.
namespace Go.Proofs.YtbibioffldkanaaGreatDoor.K
open Go.RowKit Go.Proofs.YtbibioffldkanaaGreatDoorW.PrintWords Go.Proofs.YtbibioffldkanaaGreatDoorW.PrintLast Go.Proofs.YtbibioffldkanaaGreatDoorW.PrintMore
attribute [local go_sem] Instr.field asAgg
attribute [local go_sem] lS lQ mY mX lm lq lT lU   -- for this text's walks alone
set_option maxHeartbeats 8000000
set_option maxRecDepth 100000
set_option linter.unusedVariables false
set_option linter.unusedSimpArgs false

/-! ### oG: function 74 -/
def oG.f (a0 : Int) : Option (Bool) := if a0 ≥ 48 then (some (decide (a0 ≤ 57))) else (some false)
theorem oG.calls (a0 : Int) (r : Bool) (w : World) (h : oG.f a0 = some r) :
    Calls Tryz.prog 74 #[.int .u8 a0] w fun e w' => e = .returned (.bool r) ∧ jP w w' := by
 have H : (if a0 ≥ 48 then (some (decide (a0 ≤ 57))) else (some false)) = some r := h; clear h; replace H := tC H; obtain ⟨ah, -, H⟩ | ⟨ah, -, H⟩ := H
 ·obtain rfl := Option.some.inj H; go_enter Tryz.func74, Tryz.ntmps74
  go_wp2
  go_ret
  exact ⟨y3_, y5_⟩
 ·obtain rfl := Option.some.inj H; go_enter Tryz.func74, Tryz.ntmps74
  go_wp2
  go_ret
  exact ⟨y3_, y5_⟩

/-! ### gW: function 140 -/
def gW.l0 : Nat → ByteArray → Int → Int → Option (Bool)
  | 0, _, _, _ => none
  | k + 1, x0, x7, x8 => if x8 < x7 then (if 0 ≤ x8 then (if x8 < (x0.size : Int) then ((oG.f (bt x0 x8)).bind fun ai => (if ai = true then (gW.l0 k x0 x7 (wrap64 (x8 + 1))) else (some false))) else (none)) else (none)) else (some true)
def gW.f (k : Nat) (a0 : ByteArray)  : Option (Bool) := gW.l0 k a0 (a0.size : Int) 0
theorem gW.iQ : ∀ k, (∀ y0 y1 y2, LeO (gW.l0 k y0 y1 y2) (gW.l0 (k + 1) y0 y1 y2))
  | 0 => fun _ _ _ r h => by simp [gW.l0] at h
  | k + 1 => by
    have aj := gW.iQ k
    · intro y0 y1 y2
      unfold gW.l0
      repeat' (with_reducible first | exact aj _ _ _ | exact LeO.refl _ | exact LeO.none _ | refine LeO.ite ?_ ?_ | refine LeO.bind ?_ (fun _ => ?_))
theorem gW.mono : ∀ a0 k, LeO (gW.f k a0) (gW.f (k + 1) a0) := by
  intro a0 k
  have aj := gW.iQ k
  unfold gW.f
  repeat' (with_reducible first | exact aj _ _ _ | exact LeO.refl _ | exact LeO.none _ | refine LeO.ite ?_ ?_ | refine LeO.bind ?_ (fun _ => ?_))
theorem gW.calls (k : Nat) (a0 : ByteArray)  (r : Bool) (w : World) (h : gW.f k a0 = some r) :
    Calls Tryz.prog 40 #[.string a0, .func (.func 74) #[] #[]] w fun e w' => e = .returned (.bool r) ∧ jP w w' := by
 have H : (gW.l0 k a0 (a0.size : Int) 0) = some r := h; clear h; have H' := a_ H; clear H; go_enter Tryz.func40, Tryz.ntmps40
 go_wp2
 go_loopg [8] k (fun kq v8 w' => ∃ (aa : Int), v8 = .int .i64 aa ∧ fD (gW.l0 kq a0 (a0.size : Int) aa = some r) ∧ fD (kq ≤ k) ∧ jP w w')
 case atStart => exact ⟨(0), y3_, H', ⟨Nat.le_refl _⟩, y5_⟩
 case round =>
  clear H'; obtain ⟨aa, rfl, HA, HK1, ⟨m1, rfl⟩⟩ := hrel; cases gk with
  | zero => exact absurd HA.out (by simp [gW.l0])
  | succ k1 =>
   have H := HA.out; clear HA; simp only [gW.l0] at H; replace H := id_ H; obtain ⟨ae, -, H⟩ | ⟨ae, -, H⟩ := H; replace H := kd_ H; obtain ⟨an, -, H⟩ := H; replace H := kd_ H; obtain ⟨ao, -, H⟩ := H; replace H := bd_ H; obtain ⟨ap, aq, H⟩ := H; by_cases ag : ap = true; subst ag; rw [if_pos rfl] at H; have H' := a_ H; clear H; obtain ⟨af, ak⟩ := t2_; rotate_left; replace ag := Bool.eq_false_iff.mpr ag; subst ag; rw [if_neg (show ¬ (false = true) by decide)] at H; obtain rfl := Option.some.inj H; obtain ⟨af, al⟩ := t2_; rotate_left
   obtain rfl := Option.some.inj H; have am := t_; rotate_left
   all_goals (
    try(clear af; have ab : 0 ≤ (aa : Int) := of_decide_eq_true y1_; have ac : aa < (a0.size : Int) := of_decide_eq_true y1_; have ad := lL a0 aa; replace ab := eq_true ab; replace ac := eq_true ac; go_wp2_with (first | ((with_reducible refine uM (t := 11) rfl ?_); refine Bh (some 15) rfl rfl Tryz.func74 iY rfl #[.int .u8 (bt a0 aa)] rfl Jh ?_; (with_reducible refine (oG.calls (bt a0 aa) _ _ aq.out).mono ?_); rintro e w' ⟨rfl, ⟨nd, rfl⟩⟩; refine ⟨_, rfl, ?_⟩)))
    try(
      clear ak; go_roundg k1
      case measure => have := HK1.out; omega
      case rel => exact ⟨(wrap64 (aa + 1)), y3_, H', ⟨pq⟩, y5_⟩)
    try(
      clear al; go_ret
      exact ⟨y3_, y5_⟩)
    try(
      clear am; go_wp2
      go_ret
      exact ⟨y3_, y5_⟩))

end Go.Proofs.YtbibioffldkanaaGreatDoor.K
