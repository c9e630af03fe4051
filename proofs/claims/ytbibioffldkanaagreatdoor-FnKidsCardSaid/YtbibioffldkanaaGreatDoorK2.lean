-- Written by a program of this session's own (xp.py) for this seat.
import Derived.Test.YtbibioffldkanaaGreatDoorK0
namespace Go.Proofs.YtbibioffldkanaaGreatDoor.K
open Go.RowKit Go.Proofs.YtbibioffldkanaaGreatDoorW.PrintWords Go.Proofs.YtbibioffldkanaaGreatDoorW.PrintLast Go.Proofs.YtbibioffldkanaaGreatDoorW.PrintMore
attribute [local go_sem] Instr.field asAgg
attribute [local go_sem] lS lQ mY mX lm lq lT lU   -- for this text's walks alone
set_option maxHeartbeats 8000000
set_option maxRecDepth 100000
set_option linter.unusedVariables false
set_option linter.unusedSimpArgs false

/-! ### pV: function 4 -/
def pV.f (l0 : List Int) : Option (Bool) := some (decide ((l0.length : Int) > 1048576))
theorem pV.calls (A0 : Option Addr) (c0 : Nat) (l0 : List Int) (r : Bool) (w : World) (an : Kd.C (Kd.int .u8) w A0 l0.length l0) (hc0 : l0.length ≤ c0) (h : pV.f l0 = some r) :
    Calls Tryz.prog 4 #[.slice A0 l0.length c0] w fun e w' => e = .returned (.bool r) ∧ jP w w' := by
 have bV := a_ an; have b4 := a_ hc0; clear an hc0; have H : (some (decide ((l0.length : Int) > 1048576))) = some r := h; clear h; obtain rfl := Option.some.inj H; go_enter Tryz.func4, Tryz.ntmps4
 go_wp2
 go_ret
 exact ⟨y3_, y5_⟩

/-- A state of type 77 at block g of W; what its slices lead to came in by w0. -/
def fK (w0 W : World) (g : Nat) (f0 : List Int) (f1 : Int) : Prop := ∃ A0 c0, W.heap[g]? = some (.cells #[.slice A0 f0.length c0, .int .i64 f1] 77 (0, 0)) ∧ w0.heap.size ≤ g ∧ Kd.C (Kd.int .u8) w0 A0 f0.length f0
theorem fK.grown {w0 W : World} {g : Nat} {f0 : List Int} {f1 : Int} {W1 : World} {row : Option Nat} (h : fK w0 W g f0 f1) (hw : W.grownBy W1 row) (hne : some g ≠ row) : fK w0 W1 g f0 f1 := by
  obtain ⟨A0, c0, hb, hg, an⟩ := h
  exact ⟨A0, c0, kK hb hw hne, hg, an⟩
theorem fK.uH {w0 V W : World} {g : Nat} {f0 : List Int} {f1 : Int} {W1 : World} {row : Option Nat} (_ : fK w0 V g f0 f1) (h : fK w0 W g f0 f1) (hw : W.grownBy W1 row) (hne : some g ≠ row) : fK w0 W1 g f0 f1 := h.grown hw hne
theorem fK.NQ {w0 W : World} {g : Nat} {f0 : List Int} {f1 : Int} {α : Type} {d : Kd α} {e : Nat} {base : Nat} {ok : Nat → Prop} {v : Value} {xs : List α} (h : fK w0 W g f0 f1) (ho : Kd.N d e W base ok v xs) (ht : e ≠ 77) : some g ≠ v.ownBlock := by
  obtain ⟨A0, c0, hb, hg, an⟩ := h
  exact Kd.NY ho hb ht
theorem fK.fresh {w0 W : World} {g : Nat} {f0 : List Int} {f1 : Int} (h : fK w0 W g f0 f1) : ∀ k, W.heap.size ≤ k → k ≠ g := by
  obtain ⟨A0, c0, hb, hg, an⟩ := h
  exact Kd.DN hb
theorem fK.kept {w0 W : World} {g : Nat} {f0 : List Int} {f1 : Int} {W1 : World} {S : Nat → Prop} (h : fK w0 W g f0 f1) (hk : Kept W W1 S) (hne : ¬ S g) : fK w0 W1 g f0 f1 := by
  obtain ⟨A0, c0, hb, hg, an⟩ := h
  exact ⟨A0, c0, zl hb hk hne, hg, an⟩
theorem fK.below {w0 W : World} {g : Nat} {f0 : List Int} {f1 : Int} {W1 : World} (h : fK w0 W g f0 f1) (hw : Below W.heap.size W W1) : fK w0 W1 g f0 f1 := h.grown (uI hw none) (by simp)
theorem fK.alloc {w0 W : World} {g : Nat} {f0 : List Int} {f1 : Int} (h : fK w0 W g f0 f1) (o : Obj) : fK w0 (W.alloc o) g f0 f1 := h.below (gB (Below.refl _ _) o)
theorem fK.drewN {w0 W : World} {g : Nat} {f0 : List Int} {f1 : Int} (h : fK w0 W g f0 f1) (m : Nat) : fK w0 (W.drewN m) g f0 f1 := h
theorem fK.drew {w0 W : World} {g : Nat} {f0 : List Int} {f1 : Int} (h : fK w0 W g f0 f1) : fK w0 W.drew g f0 f1 := h
theorem fK.at_ {w0 W : World} {g : Nat} {f0 : List Int} {f1 : Int} {w' : World} {m : Nat} (hq : W.drewN m = w') (h : fK w0 W g f0 f1) : fK w0 w' g f0 f1 := by subst hq; exact fK.drewN h m
theorem fK.apart {w0 W : World} {g : Nat} {f0 : List Int} {f1 : Int} {α : Type} {d : Kd α} {e : Nat} {base : Nat} {ok : Nat → Prop} {v : Value} {xs : List α} (h : fK w0 W g f0 f1) (ho : d.R e W base ok v xs) (ht : ∀ q, q ∈ e :: d.E → q ≠ 77) : d.R e W base (fun k => ok k ∧ k ≠ g) v xs := by
  obtain ⟨A0, c0, hb, hg, an⟩ := h
  exact Kd.kU ho hb ht
theorem fK.own_ne {w0 W : World} {g : Nat} {f0 : List Int} {f1 : Int} {α : Type} {d : Kd α} {e : Nat} {base : Nat} {ok : Nat → Prop} {v : Value} {xs : List α} (h : fK w0 W g f0 f1) (ho : d.R e W base ok v xs) (ht : e ≠ 77) : some g ≠ v.ownBlock := by
  obtain ⟨A0, c0, hb, hg, an⟩ := h
  exact Kd.qL ho hb ht
theorem fK.Oz {w0 W : World} {g : Nat} {f0 : List Int} {f1 : Int} {α : Type} {d : Kd α} {e : Nat} {base : Nat} {ok : Nat → Prop} {v : Value} {xs : List α} (h : fK w0 W g f0 f1) (ho : d.Q e W base ok v xs) (ht : ∀ q, q ∈ e :: d.E → q ≠ 77) : d.Q e W base (fun k => ok k ∧ k ≠ g) v xs := by
  obtain ⟨A0, c0, hb, hg, an⟩ := h
  exact Kd.I8 ho hb ht
theorem fK.NP {w0 W : World} {g : Nat} {f0 : List Int} {f1 : Int} {α : Type} {d : Kd α} {e : Nat} {base : Nat} {ok : Nat → Prop} {v : Value} {xs : List α} (h : fK w0 W g f0 f1) (ho : d.Q e W base ok v xs) (ht : e ≠ 77) : some g ≠ v.ownBlock := by
  obtain ⟨A0, c0, hb, hg, an⟩ := h
  exact Kd.NU ho hb ht
theorem fK.ql {w0 W : World} {g : Nat} {f0 : List Int} {f1 : Int} {α : Type} {d : Kd α} {e : Nat} {base : Nat} {ok : Nat → Prop} {v : Value} {xs : List α} (h : fK w0 W g f0 f1) (ho : d.S e W base ok v xs) (ht : ∀ q, q ∈ e :: d.E → q ≠ 77) : d.S e W base (fun k => ok k ∧ k ≠ g) v xs := by
  obtain ⟨A0, c0, hb, hg, an⟩ := h
  exact Kd.wR ho hb ht
theorem fK.yD {w0 W : World} {g : Nat} {f0 : List Int} {f1 : Int} {α : Type} {d : Kd α} {e : Nat} {base : Nat} {ok : Nat → Prop} {v : Value} {xs : List α} (h : fK w0 W g f0 f1) (ho : d.S e W base ok v xs) (ht : e ≠ 77) : some g ≠ v.ownBlock := by
  obtain ⟨A0, c0, hb, hg, an⟩ := h
  exact Kd.OH ho hb ht
theorem fK.lt {w0 W : World} {g : Nat} {f0 : List Int} {f1 : Int} (h : fK w0 W g f0 f1) : g < W.heap.size := by
  obtain ⟨A0, c0, hb, hg, an⟩ := h
  exact kJ hb
theorem fK.ge {w0 W : World} {g : Nat} {f0 : List Int} {f1 : Int} (h : fK w0 W g f0 f1) : w0.heap.size ≤ g := by
  obtain ⟨A0, c0, hb, hg, an⟩ := h
  exact hg
theorem fK.DJ {w0 W : World} {g : Nat} {f0 : List Int} {f1 : Int} {a : Nat} {cs : Array Value} {t : TypeId} {fr : Nat × Nat} (h : fK w0 W g f0 f1) (hb2 : W.heap[a]? = some (.cells cs t fr)) (ht : t ≠ 77) : g ≠ a := by
  obtain ⟨A0, c0, hb, hg, an⟩ := h
  rintro rfl
  rw [hb] at hb2
  injection hb2 with hb2
  injection hb2 with _ ht2
  exact ht ht2.symm
theorem fK.far {w0 W : World} {g : Nat} {f0 : List Int} {f1 : Int} {p : Addr} (h : fK w0 W g f0 f1) (hne : g ≠ p.block) (u : Value) : fK w0 (W.setCell p u) g f0 f1 := by
  obtain ⟨A0, c0, hb, hg, an⟩ := h
  exact ⟨A0, c0, jJ hb hne u, hg, an⟩
theorem uV {W : World} {g : Nat} {A0 : Option Addr} {c0 : Nat} {f0 : List Int} {f1 : Int} (h : W.heap[g]? = some (.cells #[.slice A0 f0.length c0, .int .i64 f1] 77 (0, 0))) : W.cell? ⟨g, 0, none⟩ = some (.slice A0 f0.length c0) := (fO h 0).trans rfl
theorem uX {W : World} {g : Nat} {A0 : Option Addr} {c0 : Nat} {f0 : List Int} {f1 : Int} (h : W.heap[g]? = some (.cells #[.slice A0 f0.length c0, .int .i64 f1] 77 (0, 0))) : W.cell? ⟨g, 1, none⟩ = some (.int .i64 f1) := (fO h 1).trans rfl
theorem fK.kZ {w0 W : World} {g : Nat} {f0 : List Int} {f1 : Int} (h : fK w0 W g f0 f1) (x : Int) : fK w0 (W.setCell ⟨g, 1, none⟩ (.int .i64 x)) g f0 x := by
  obtain ⟨A0, c0, hb, hg, an⟩ := h
  exact ⟨A0, c0, by simpa using Bl hb 1 (.int .i64 x), hg, an⟩
theorem fK.new (w0 W : World) (A0 : Option Addr) (c0 : Nat) (f0 : List Int) (f1 : Int) (hB : Below w0.heap.size w0 W) (an : Kd.C (Kd.int .u8) w0 A0 f0.length f0) : fK w0 (W.alloc (.cells #[.slice A0 f0.length c0, .int .i64 f1] 77)) W.heap.size f0 f1 := ⟨A0, c0, by simpa using heap_alloc_new W _, hB.size, an⟩

/-! ### iC: function 29 -/
def iC.f (aa : List Int) (ab : Int) (a1 : Int) : Option (Int × Int) := if a1 < 1 then (some (0, wrap64 (ab + 1))) else (if (aa.length : Int) = 0 then (if a1 = 0 then (none) else (some (Int.tmod (wrap64 ((wrap64 ((wrap64 (ab + 1)) - 1)) * 7)) a1, wrap64 (ab + 1)))) else (if 0 ≤ (Int.tmod (wrap64 ((wrap64 (ab + 1)) - 1)) (aa.length : Int)) then (if (Int.tmod (wrap64 ((wrap64 (ab + 1)) - 1)) (aa.length : Int)) < (aa.length : Int) then (if a1 > 200 then (if 0 ≤ (Int.tmod (wrap64 ((wrap64 ((wrap64 (ab + 1)) - 1)) + 1)) (aa.length : Int)) then (if (Int.tmod (wrap64 ((wrap64 ((wrap64 (ab + 1)) - 1)) + 1)) (aa.length : Int)) < (aa.length : Int) then (if a1 = 0 then (none) else (some (Int.tmod (wrap64 ((wrap64 ((wrap64 ((wrap64 ((wrap64 (rd aa (Int.tmod (wrap64 ((wrap64 (ab + 1)) - 1)) (aa.length : Int)))) + (wrap64 ((wrap64 (Int.tdiv (wrap64 ((wrap64 (ab + 1)) - 1)) (aa.length : Int))) * 37)))) * 251)) + (wrap64 ((wrap64 (rd aa (Int.tmod (wrap64 ((wrap64 ((wrap64 (ab + 1)) - 1)) + 1)) (aa.length : Int)))) * 13)))) + (wrap64 ((wrap64 (ab + 1)) - 1)))) a1, wrap64 (ab + 1)))) else (none)) else (none)) else (if a1 = 0 then (none) else (some (Int.tmod (wrap64 ((wrap64 (rd aa (Int.tmod (wrap64 ((wrap64 (ab + 1)) - 1)) (aa.length : Int)))) + (wrap64 ((wrap64 (Int.tdiv (wrap64 ((wrap64 (ab + 1)) - 1)) (aa.length : Int))) * 37)))) a1, wrap64 (ab + 1))))) else (none)) else (none)))
theorem iC.calls (g : Nat) (aa : List Int) (ab : Int) (a1 : Int) (r1 : Int) (r2 : Int) (w0 w : World) (hI : fK w0 w g aa ab) (hB : Below w0.heap.size w0 w) (h : iC.f aa ab a1 = some (r1, r2)) :
    Calls Tryz.prog 29 #[.pointer (some ⟨g, 0, none⟩), .int .i64 a1] w fun e w' => e = .returned (.int .i64 r1) ∧ fK w0 w' g aa r2 ∧ Below w0.heap.size w0 w' ∧ gI w w' g none := by
 have HI0 := a_ hI; have HK := a_ (gI.refl w g none); have HL := a_ hB.size; clear hI; have HW0 := a_ hB.size; have HB := a_ hB; clear hB; have H : (if a1 < 1 then (some (0, wrap64 (ab + 1))) else (if (aa.length : Int) = 0 then (if a1 = 0 then (none) else (some (Int.tmod (wrap64 ((wrap64 ((wrap64 (ab + 1)) - 1)) * 7)) a1, wrap64 (ab + 1)))) else (if 0 ≤ (Int.tmod (wrap64 ((wrap64 (ab + 1)) - 1)) (aa.length : Int)) then (if (Int.tmod (wrap64 ((wrap64 (ab + 1)) - 1)) (aa.length : Int)) < (aa.length : Int) then (if a1 > 200 then (if 0 ≤ (Int.tmod (wrap64 ((wrap64 ((wrap64 (ab + 1)) - 1)) + 1)) (aa.length : Int)) then (if (Int.tmod (wrap64 ((wrap64 ((wrap64 (ab + 1)) - 1)) + 1)) (aa.length : Int)) < (aa.length : Int) then (if a1 = 0 then (none) else (some (Int.tmod (wrap64 ((wrap64 ((wrap64 ((wrap64 ((wrap64 (rd aa (Int.tmod (wrap64 ((wrap64 (ab + 1)) - 1)) (aa.length : Int)))) + (wrap64 ((wrap64 (Int.tdiv (wrap64 ((wrap64 (ab + 1)) - 1)) (aa.length : Int))) * 37)))) * 251)) + (wrap64 ((wrap64 (rd aa (Int.tmod (wrap64 ((wrap64 ((wrap64 (ab + 1)) - 1)) + 1)) (aa.length : Int)))) * 13)))) + (wrap64 ((wrap64 (ab + 1)) - 1)))) a1, wrap64 (ab + 1)))) else (none)) else (none)) else (if a1 = 0 then (none) else (some (Int.tmod (wrap64 ((wrap64 (rd aa (Int.tmod (wrap64 ((wrap64 (ab + 1)) - 1)) (aa.length : Int)))) + (wrap64 ((wrap64 (Int.tdiv (wrap64 ((wrap64 (ab + 1)) - 1)) (aa.length : Int))) * 37)))) a1, wrap64 (ab + 1))))) else (none)) else (none)))) = some (r1, r2) := h; clear h; replace H := id_ H; obtain ⟨au, -, H⟩ | ⟨au, -, H⟩ := H; replace H := j2_ H; obtain ⟨rfl, rfl⟩ := H; obtain ⟨ASz4_0, cSz4_0, aU, hgz4, HSz4_0⟩ := HI0.out; have bI := uV aU; have bJ := uX aU; have bK := jT aU 1; clear aU hgz4; have aJ := t_; rotate_left; replace H := ie_ H; obtain ⟨aK, bl, -, H⟩ | ⟨aK, bl, b5, H⟩ := H; by_cases bm : a1 = 0
 ·rw [if_pos bm] at H; exact absurd H lI
 rw [if_neg bm] at H; have aM : (a1 == 0) = false := beq_eq_false_iff_ne.mpr bm; have aZ : (a1 != 0) = true := bne_iff_ne.mpr bm; replace H := j2_ H; obtain ⟨rfl, rfl⟩ := H; obtain ⟨ASz7_0, cSz7_0, aV, hgz7, HSz7_0⟩ := HI0.out; have bL := uV aV; have bM := uX aV; have bN := jT aV 1; clear aV hgz7; have aJ := t_; rotate_left; have bW : ¬ (aa = []) := fun h_ => b5 (by rw [h_]; rfl); obtain ⟨aN, aW⟩ : ∃ j_ : Int, (Int.tmod (wrap64 ((wrap64 (ab + 1)) - 1)) (aa.length : Int)) = j_ := ⟨_, rfl⟩; replace H : (if 0 ≤ (aN) then (if (aN) < (aa.length : Int) then (if a1 > 200 then (if 0 ≤ (Int.tmod (wrap64 ((wrap64 ((wrap64 (ab + 1)) - 1)) + 1)) (aa.length : Int)) then (if (Int.tmod (wrap64 ((wrap64 ((wrap64 (ab + 1)) - 1)) + 1)) (aa.length : Int)) < (aa.length : Int) then (if a1 = 0 then (none) else (some (Int.tmod (wrap64 ((wrap64 ((wrap64 ((wrap64 ((wrap64 (rd aa (aN))) + (wrap64 ((wrap64 (Int.tdiv (wrap64 ((wrap64 (ab + 1)) - 1)) (aa.length : Int))) * 37)))) * 251)) + (wrap64 ((wrap64 (rd aa (Int.tmod (wrap64 ((wrap64 ((wrap64 (ab + 1)) - 1)) + 1)) (aa.length : Int)))) * 13)))) + (wrap64 ((wrap64 (ab + 1)) - 1)))) a1, wrap64 (ab + 1)))) else (none)) else (none)) else (if a1 = 0 then (none) else (some (Int.tmod (wrap64 ((wrap64 (rd aa (aN))) + (wrap64 ((wrap64 (Int.tdiv (wrap64 ((wrap64 (ab + 1)) - 1)) (aa.length : Int))) * 37)))) a1, wrap64 (ab + 1))))) else (none)) else (none)) = some (r1, r2) := by first | (rw [aW] at H; exact H) | (simp only [aW] at H ⊢; exact H)
 replace H := kd_ H; obtain ⟨aM, -, H⟩ := H; replace H := kd_ H; obtain ⟨bX, -, H⟩ := H; replace H := qU H; obtain ⟨bn, -, H⟩ | ⟨bn, -, H⟩ := H; obtain ⟨aH, hji12⟩ : ∃ j_ : Int, (Int.tmod (wrap64 ((wrap64 ((wrap64 (ab + 1)) - 1)) + 1)) (aa.length : Int)) = j_ := ⟨_, rfl⟩; replace H : (if 0 ≤ (aH) then (if (aH) < (aa.length : Int) then (if a1 = 0 then (none) else (some (Int.tmod (wrap64 ((wrap64 ((wrap64 ((wrap64 ((wrap64 (rd aa (aN))) + (wrap64 ((wrap64 (Int.tdiv (wrap64 ((wrap64 (ab + 1)) - 1)) (aa.length : Int))) * 37)))) * 251)) + (wrap64 ((wrap64 (rd aa (aH))) * 13)))) + (wrap64 ((wrap64 (ab + 1)) - 1)))) a1, wrap64 (ab + 1)))) else (none)) else (none)) = some (r1, r2) := by first | (rw [hji12] at H; exact H) | (simp only [hji12] at H ⊢; exact H)
 replace H := kd_ H; obtain ⟨bo, -, H⟩ := H; replace H := kd_ H; obtain ⟨bY, -, H⟩ := H; by_cases bz : a1 = 0
 ·rw [if_pos bz] at H; exact absurd H lI
 rw [if_neg bz] at H; have bZ : (a1 == 0) = false := beq_eq_false_iff_ne.mpr bz; have b0 : (a1 != 0) = true := bne_iff_ne.mpr bz; replace H := j2_ H; obtain ⟨rfl, rfl⟩ := H; obtain ⟨ASz16_0, cSz16_0, aC, hgz16, HSz16_0⟩ := HI0.out; have bA := uV aC; have bB := uX aC; have bC := jT aC 1; clear aC hgz16; obtain ⟨ba, aX, bO⟩ := t3_; rotate_left
 by_cases bD : a1 = 0
 ·rw [if_pos bD] at H; exact absurd H lI
 rw [if_neg bD] at H; have bo : (a1 == 0) = false := beq_eq_false_iff_ne.mpr bD; have b1 : (a1 != 0) = true := bne_iff_ne.mpr bD; replace H := j2_ H; obtain ⟨rfl, rfl⟩ := H; obtain ⟨ASz18_0, cSz18_0, aD, hgz18, HSz18_0⟩ := HI0.out; have bE := uV aD; have bF := uX aD; have bG := jT aD 1; clear aD hgz18; obtain ⟨bb, aX, bP⟩ := t3_; rotate_left
 all_goals (
  try(
    clear aJ; go_enter Tryz.func29, Tryz.ntmps29
    go_wp2
    repeat (go_quiet (fail); try go_wp2)
    go_ret
    exact ⟨y6_, y8_, y7_, y2_⟩)
  try(clear ba; have af : 0 ≤ ((aN) : Int) := of_decide_eq_true y1_; have ag : (aN) < (aa.length : Int) := of_decide_eq_true y1_; obtain ⟨ai, al, ac⟩ := Kd.qR HSz16_0 (aN) af ag)
  try(clear bb; have af : 0 ≤ ((aN) : Int) := of_decide_eq_true y1_; have ag : (aN) < (aa.length : Int) := of_decide_eq_true y1_; obtain ⟨ai, al, ac⟩ := Kd.qR HSz18_0 (aN) af ag)
  try(clear aX; cases al; have hn9922068_0 : ai.block ≠ g := Nat.ne_of_lt (Nat.lt_of_lt_of_le (by have := World.block_lt_of_cell? _ _ ac; first | rwa [add_block] at this | exact this) (fK.ge HI0.out)); replace ac := oN HB.out ac; replace ac := (cell_far (p := ⟨g, 1, none⟩) (by first | (rw [add_block]; exact hn9922068_0) | (show (Addr.add _ _).block ≠ _; rw [add_block]; exact hn9922068_0) | exact hn9922068_0) (.int .i64 (wrap64 (ab + 1)))).trans ac; (try have a2 := fun (n_ : Nat) => (show (((w.drewN n_).setCell ⟨g, 1, none⟩ (.int .i64 (wrap64 (ab + 1))))).cell? _ = some _ from ac)); clear hn9922068_0; replace af := eq_true af; replace ag := eq_true ag)
  try(
    clear bO; have ap : 0 ≤ ((aH) : Int) := of_decide_eq_true y1_; have aq : (aH) < (aa.length : Int) := of_decide_eq_true y1_; obtain ⟨aI, aQ, ae⟩ := Kd.qR HSz16_0 (aH) ap aq; obtain rfl : ai = aI := (by injection aQ); have hn9548309_0 : ai.block ≠ g := Nat.ne_of_lt (Nat.lt_of_lt_of_le (by have := World.block_lt_of_cell? _ _ ae; first | rwa [add_block] at this | exact this) (fK.ge HI0.out)); replace ae := oN HB.out ae; replace ae := (cell_far (p := ⟨g, 1, none⟩) (by first | (rw [add_block]; exact hn9548309_0) | (show (Addr.add _ _).block ≠ _; rw [add_block]; exact hn9548309_0) | exact hn9548309_0) (.int .i64 (wrap64 (ab + 1)))).trans ae; (try have a3 := fun (n_ : Nat) => (show (((w.drewN n_).setCell ⟨g, 1, none⟩ (.int .i64 (wrap64 (ab + 1))))).cell? _ = some _ from ae)); clear hn9548309_0; replace ap := eq_true ap; replace aq := eq_true aq; go_enter Tryz.func29, Tryz.ntmps29
    go_wp2
    repeat (go_quiet (fail); try go_wp2)
    go_ret
    exact ⟨by first | rfl | (simp [mr, mg] <;> rfl) | (simp only [← aW, ← hji12]; first | rfl | (simp [mr, mg] <;> rfl)) | (simp [*, mr, mg] <;> rfl), y8_, y7_, y2_⟩)
  try(
    clear bP; go_enter Tryz.func29, Tryz.ntmps29
    go_wp2
    repeat (go_quiet (fail); try go_wp2)
    go_ret
    exact ⟨by first | rfl | (simp [mr, mg] <;> rfl) | (simp only [← aW]; first | rfl | (simp [mr, mg] <;> rfl)) | (simp [*, mr, mg] <;> rfl), y8_, y7_, y2_⟩))

/-! ### lh: function 30 -/
def lh.f (aa : List Int) (ab : Int) (l1 : List Int) : Option (Int × Int) := (iC.f aa ab (l1.length : Int)).bind fun am => (if 0 ≤ am.1 then (if am.1 < (l1.length : Int) then (some (rd l1 am.1, am.2)) else (none)) else (none))
theorem lh.calls (g : Nat) (aa : List Int) (ab : Int) (A1 : Option Addr) (c1 : Nat) (l1 : List Int) (r1 : Int) (r2 : Int) (w0 w : World) (hI : fK w0 w g aa ab) (hB : Below w0.heap.size w0 w) (b2 : Kd.C (Kd.int .i64) w A1 l1.length l1) (hc1 : l1.length ≤ c1) (hf1 : ∀ ad, A1 = some ad → 0 < l1.length → ad.block ≠ g) (h : lh.f aa ab l1 = some (r1, r2)) :
    Calls Tryz.prog 30 #[.pointer (some ⟨g, 0, none⟩), .slice A1 l1.length c1] w fun e w' => e = .returned (.int .i64 r1) ∧ fK w0 w' g aa r2 ∧ Below w0.heap.size w0 w' ∧ gI w w' g none := by
 have b6 := a_ b2; have ce := a_ hc1; clear b2 hc1; have HI0 := a_ hI; have HK := a_ (gI.refl w g none); have HL := a_ hB.size; clear hI; have HW0 := a_ hB.size; have HB := a_ hB; clear hB; have H : ((iC.f aa ab (l1.length : Int)).bind fun am => (if 0 ≤ am.1 then (if am.1 < (l1.length : Int) then (some (rd l1 am.1, am.2)) else (none)) else (none))) = some (r1, r2) := h; clear h; replace H := bd_ H; obtain ⟨⟨ay, bp⟩, A3, H⟩ := H; replace H : (if 0 ≤ ay then (if ay < (l1.length : Int) then (some (rd l1 ay, bp)) else (none)) else (none)) = some (r1, r2) := H; replace H := kd_ H; obtain ⟨b7, -, H⟩ := H
 ·replace H := kd_ H; obtain ⟨b8, -, H⟩ := H
  ·replace H := j2_ H; obtain ⟨rfl, rfl⟩ := H; go_enter Tryz.func30, Tryz.ntmps30
   go_wp2_with (first | ((with_reducible refine gm (f := 29) rfl ?_); refine gc_ 29 9 Tryz.func29 #[.pointer (some ⟨g, 0, none⟩), .int .i64 (l1.length : Int)] ?_; (with_reducible refine (iC.calls g aa ab (l1.length : Int) ay bp w0 _ ?side1 ?side2 A3.out).mono ?_); (case side1 => repeat (first | (with_reducible first | exact HI0.out | apply fK.alloc | apply fK.drewN | apply fK.drew | apply fK.kZ) | exact HI0.out)); (case side2 => repeat (first | (with_reducible first | exact HB.out | apply gB | apply fU | apply gG | refine gX ?_ (fK.ge HI0.out)) | exact HB.out)); rintro e w6 ⟨rfl, hi, hb, hk⟩; refine ⟨_, rfl, ?_⟩; have n_ := s3_ (gI.trans y2_ hk (.inl rfl)) hb hi; clear HK HB HI0; obtain ⟨HK, HB, HI0⟩ := n_; (try clear hb); (try clear hb2); (try clear hk); (try clear hi); have bc : 0 ≤ (ay : Int) := of_decide_eq_true y1_; have bd : ay < (l1.length : Int) := of_decide_eq_true y1_; obtain ⟨bq, bQ, aE⟩ := Kd.qR b6.out ay bc bd; cases bQ; replace aE := xK HK.out aE (by first | (rw [add_block]; exact hf1 _ rfl jv) | exact hf1 _ rfl jv | exact hf1 bq rfl jv); replace bc := eq_true bc; replace bd := eq_true bd))
   go_ret
   exact ⟨y6_, y8_, y7_, y2_⟩

/-! ### oQ: function 48 -/
def oQ.f (aa : List Int) (ab : Int) : Option (ByteArray × Int) := (some (([(⟨#[97]⟩ : ByteArray), (⟨#[116, 97, 115, 107]⟩ : ByteArray), (⟨#[115, 101, 113]⟩ : ByteArray), (⟨#[105, 100]⟩ : ByteArray), (⟨#[98]⟩ : ByteArray)] : List ByteArray) : List ByteArray)).bind fun ar => ((iC.f aa ab 5).bind fun ah => (if 0 ≤ ah.1 then (if ah.1 < (ar.length : Int) then (some (jG ByteArray.empty ar ah.1, ah.2)) else (none)) else (none)))
theorem oQ.calls (g : Nat) (aa : List Int) (ab : Int) (r1 : ByteArray) (r2 : Int) (w0 w : World) (hI : fK w0 w g aa ab) (hB : Below w0.heap.size w0 w) (h : oQ.f aa ab = some (r1, r2)) :
    Calls Tryz.prog 48 #[.pointer (some ⟨g, 0, none⟩)] w fun e w' => e = .returned (.string r1) ∧ fK w0 w' g aa r2 ∧ Below w0.heap.size w0 w' ∧ gI w w' g none := by
 have HI0 := a_ hI; have HK := a_ (gI.refl w g none); have HL := a_ hB.size; clear hI; have HW0 := a_ hB.size; have HB := a_ hB; clear hB; have H : ((some (([(⟨#[97]⟩ : ByteArray), (⟨#[116, 97, 115, 107]⟩ : ByteArray), (⟨#[115, 101, 113]⟩ : ByteArray), (⟨#[105, 100]⟩ : ByteArray), (⟨#[98]⟩ : ByteArray)] : List ByteArray) : List ByteArray)).bind fun ar => ((iC.f aa ab 5).bind fun ah => (if 0 ≤ ah.1 then (if ah.1 < (ar.length : Int) then (some (jG ByteArray.empty ar ah.1, ah.2)) else (none)) else (none)))) = some (r1, r2) := h; clear h; obtain ⟨ar, hy_⟩ : ∃ y_ : List ByteArray, y_ = (([(⟨#[97]⟩ : ByteArray), (⟨#[116, 97, 115, 107]⟩ : ByteArray), (⟨#[115, 101, 113]⟩ : ByteArray), (⟨#[105, 100]⟩ : ByteArray), (⟨#[98]⟩ : ByteArray)] : List ByteArray)) := ⟨_, rfl⟩; replace H : ((iC.f aa ab 5).bind fun ah => (if 0 ≤ ah.1 then (if ah.1 < (ar.length : Int) then (some (jG ByteArray.empty ar ah.1, ah.2)) else (none)) else (none))) = some (r1, r2) := z0_; have a4 := a_ hy_; clear hy_; replace H := bd_ H; obtain ⟨⟨az, br⟩, A2, H⟩ := H; replace H : (if 0 ≤ az then (if az < (ar.length : Int) then (some (jG ByteArray.empty ar az, br)) else (none)) else (none)) = some (r1, r2) := H; replace H := kd_ H; obtain ⟨au, -, H⟩ := H
 ·replace H := kd_ H; obtain ⟨aK, -, H⟩ := H
  ·replace H := j2_ H; obtain ⟨rfl, rfl⟩ := H; go_enter Tryz.func48, Tryz.ntmps48
   go_wp2_with (first | ((with_reducible refine iW (N := 3) rfl ?_); refine Kd.oP Kd.string _ 9 ?hg (N := 3) ?hd (xs := ([(⟨#[97]⟩ : ByteArray), (⟨#[116, 97, 115, 107]⟩ : ByteArray), (⟨#[115, 101, 113]⟩ : ByteArray), (⟨#[105, 100]⟩ : ByteArray), (⟨#[98]⟩ : ByteArray)] : List ByteArray)) (inner := [.string (⟨#[97]⟩ : ByteArray), .string (⟨#[116, 97, 115, 107]⟩ : ByteArray), .string (⟨#[115, 101, 113]⟩ : ByteArray), .string (⟨#[105, 100]⟩ : ByteArray), .string (⟨#[98]⟩ : ByteArray)]) (ok := fun _ => True) (okp := fun _ => True) ?hr ?hp (fun _ hk => hk) trivial (Below.refl _ _) (Nat.le_refl _) lI ?_; (case hd => rfl); (case hg => rfl); (case hr => first | (go_simp; done) | (go_simp; rfl)); (case hp => exact (iV.one (show Kd.M Kd.string _ _ _ (⟨#[97]⟩ : ByteArray) [.string (⟨#[97]⟩ : ByteArray)] from rfl) (iV.one (show Kd.M Kd.string _ _ _ (⟨#[116, 97, 115, 107]⟩ : ByteArray) [.string (⟨#[116, 97, 115, 107]⟩ : ByteArray)] from rfl) (iV.one (show Kd.M Kd.string _ _ _ (⟨#[115, 101, 113]⟩ : ByteArray) [.string (⟨#[115, 101, 113]⟩ : ByteArray)] from rfl) (iV.one (show Kd.M Kd.string _ _ _ (⟨#[105, 100]⟩ : ByteArray) [.string (⟨#[105, 100]⟩ : ByteArray)] from rfl) (iV.one (show Kd.M Kd.string _ _ _ (⟨#[98]⟩ : ByteArray) [.string (⟨#[98]⟩ : ByteArray)] from rfl) (iV.none _ _))))))); intro b9 w5 bs hb hg_ hnew_; clear hg_ hnew_; (first | rw [← a4.out] at bs | (simp only [Int.reduceToNat] at bs; rw [← a4.out] at bs)); have n_ := s4_ (Kd.jQ bs (kG (w := w) (g := g) (row := none) y2_)) (fK.below y8_ hb) (gI.trans y2_ (gI.of_below hb g none) (.inl rfl)) (fZ y7_ hb); clear HI0 HK HB; obtain ⟨aw, HI0, HK, HB⟩ := n_; clear hb bs) | ((with_reducible refine gm (f := 29) rfl ?_); refine gc_ 29 5 Tryz.func29 #[.pointer (some ⟨g, 0, none⟩), .int .i64 5] ?_; (with_reducible refine (iC.calls g aa ab 5 az br w0 _ ?side1 ?side2 A2.out).mono ?_); (case side1 => repeat (first | (with_reducible first | exact HI0.out | apply fK.alloc | apply fK.drewN | apply fK.drew | apply fK.kZ) | exact HI0.out)); (case side2 => repeat (first | (with_reducible first | exact HB.out | apply gB | apply fU | apply gG | refine gX ?_ (fK.ge HI0.out)) | exact HB.out)); rintro e w7 ⟨rfl, hi, hb, hk⟩; refine ⟨_, rfl, ?_⟩; have n_ := s4_ (Kd.iI (Kd.uF (fK.apart (show fK w0 _ g aa ab from by repeat (first | (with_reducible first | exact HI0.out | apply fK.alloc | apply fK.drewN | apply fK.drew | apply fK.kZ) | exact HI0.out)) (by (with_reducible repeat (first | apply Kd.iq | apply Kd.gY | apply Kd.iE)); exact aw.out) iO) hk (fun _ h => h.2)) (fun _ h => h.1)) (gI.trans y2_ hk (.inl rfl)) hb hi; clear aw HK HB HI0; obtain ⟨aw, HK, HB, HI0⟩ := n_; (try clear hb); (try clear hb2); (try clear hk); (try clear hi); obtain ⟨cf, cg, ca⟩ := Kd.jc aw.out; subst ca; have be : 0 ≤ (az : Int) := of_decide_eq_true y1_; have bf : az < (ar.length : Int) := of_decide_eq_true y1_; obtain ⟨b3, bR, bH⟩ := Kd.lX (Kd.iL aw.out).2.2 az be bf; cases bR; replace be := eq_true be; replace bf := eq_true bf))
   go_ret
   exact ⟨y6_, y8_, y7_, y2_⟩

/-! ### iD: function 49 -/
def iD.l0 : Nat → List Int → Int → List Int → Int → Option (ByteArray × Int)
  | 0, _, _, _, _ => none
  | k + 1, x3, x4, a5, a6 => if x4 > 0 then ((lh.f a5 a6 (([97, 98, 60, 62, 38, 34, 39, 32] : List Int))).bind fun ax => (if x3.length < 140737488355328 then (iD.l0 k (x3 ++ [(ax.1) % 256]) (wrap64 (x4 - 1)) a5 ax.2) else (none))) else (some (strOfNums x3, a6))
def iD.f (k : Nat) (aa : List Int) (ab : Int) : Option (ByteArray × Int) := (iC.f aa ab 8).bind fun ao => (iD.l0 k (([] : List Int)) ao.1 aa ao.2)
theorem iD.iQ : ∀ k, (∀ y0 y1 y2 y3, LeO (iD.l0 k y0 y1 y2 y3) (iD.l0 (k + 1) y0 y1 y2 y3))
  | 0 => fun _ _ _ _ r h => by simp [iD.l0] at h
  | k + 1 => by
    have bg := iD.iQ k
    · intro y0 y1 y2 y3
      unfold iD.l0
      repeat' (with_reducible first | exact bg _ _ _ _ | exact LeO.refl _ | exact LeO.none _ | refine LeO.ite ?_ ?_ | refine LeO.bind ?_ (fun _ => ?_))
theorem iD.mono : ∀ a0 a1 k, LeO (iD.f k a0 a1) (iD.f (k + 1) a0 a1) := by
  intro a0 a1 k
  have bg := iD.iQ k
  unfold iD.f
  repeat' (with_reducible first | exact bg _ _ _ _ | exact LeO.refl _ | exact LeO.none _ | refine LeO.ite ?_ ?_ | refine LeO.bind ?_ (fun _ => ?_))
theorem iD.calls (k : Nat) (g : Nat) (aa : List Int) (ab : Int) (r1 : ByteArray) (r2 : Int) (w0 w : World) (hI : fK w0 w g aa ab) (hB : Below w0.heap.size w0 w) (h : iD.f k aa ab = some (r1, r2)) :
    Calls Tryz.prog 49 #[.pointer (some ⟨g, 0, none⟩)] w fun e w' => e = .returned (.string r1) ∧ fK w0 w' g aa r2 ∧ Below w0.heap.size w0 w' ∧ gI w w' g none := by
 have HI0 := a_ hI; have HK := a_ (gI.refl w g none); have HL := a_ hB.size; clear hI; have HW0 := a_ hB.size; have HB := a_ hB; clear hB; have H : ((iC.f aa ab 8).bind fun ao => (iD.l0 k (([] : List Int)) ao.1 aa ao.2)) = some (r1, r2) := h; clear h; obtain ⟨bh, hy_⟩ : ∃ y_ : List Int, y_ = (([] : List Int)) := ⟨_, rfl⟩; replace H : ((iC.f aa ab 8).bind fun ao => (iD.l0 k bh ao.1 aa ao.2)) = some (r1, r2) := z0_; have a7 := a_ hy_; clear hy_; replace H := bd_ H; obtain ⟨⟨bi, bj⟩, A2, H⟩ := H; replace H : (iD.l0 k bh bi aa bj) = some (r1, r2) := H; have H' := a_ H; clear H; go_enter Tryz.func49, Tryz.ntmps49
 go_wp2_with (first | ((with_reducible refine iW (N := 5) rfl ?_); refine Kd.oP (Kd.int .u8) _ 5 ?hg (N := 5) ?hd (xs := ([] : List Int)) (inner := []) (ok := fun _ => True) (okp := fun _ => True) ?hr ?hp (fun _ hk => hk) trivial (Below.refl _ _) (Nat.le_refl _) lI ?_; (case hd => rfl); (case hg => rfl); (case hr => first | (go_simp; done) | (go_simp; rfl)); (case hp => exact (iV.none _ _)); intro cb w3 bt hb hg_ hnew_; clear hg_ hnew_; (first | rw [← a7.out] at bt | (simp only [Int.reduceToNat] at bt; rw [← a7.out] at bt)); have n_ := s4_ (Kd.jQ bt (kG (w := w) (g := g) (row := none) y2_)) (fK.below y8_ hb) (gI.trans y2_ (gI.of_below hb g none) (.inl rfl)) (fZ y7_ hb); clear HI0 HK HB; obtain ⟨aG, HI0, HK, HB⟩ := n_; clear hb bt) | ((with_reducible refine gm (f := 29) rfl ?_); refine gc_ 29 7 Tryz.func29 #[.pointer (some ⟨g, 0, none⟩), .int .i64 8] ?_; (with_reducible refine (iC.calls g aa ab 8 bi bj w0 _ ?side1 ?side2 A2.out).mono ?_); (case side1 => repeat (first | (with_reducible first | exact HI0.out | apply fK.alloc | apply fK.drewN | apply fK.drew | apply fK.kZ) | exact HI0.out)); (case side2 => repeat (first | (with_reducible first | exact HB.out | apply gB | apply fU | apply gG | refine gX ?_ (fK.ge HI0.out)) | exact HB.out)); rintro e w5 ⟨rfl, hi, hb, hk⟩; refine ⟨_, rfl, ?_⟩; have n_ := s4_ (Kd.iI (Kd.uF (fK.apart (show fK w0 _ g aa ab from by repeat (first | (with_reducible first | exact HI0.out | apply fK.alloc | apply fK.drewN | apply fK.drew | apply fK.kZ) | exact HI0.out)) (by (with_reducible repeat (first | apply Kd.iq | apply Kd.gY | apply Kd.iE)); exact aG.out) iO) hk (fun _ h => h.2)) (fun _ h => h.1)) (gI.trans y2_ hk (.inl rfl)) hb hi; clear aG HK HB HI0; obtain ⟨aG, HK, HB, HI0⟩ := n_; (try clear hb); (try clear hb2); (try clear hk); (try clear hi)))
 go_loopg [3, 4] k (fun kq v3 v4 w' => ∃ (av : List Int) (aA : Int) (aj : Int), v4 = .int .i64 aA ∧ fD (iD.l0 kq av aA aa aj = some (r1, r2)) ∧ fD (kq ≤ k) ∧ fD (Kd.R (Kd.int .u8) 5 w' w.heap.size (fun _ => True) v3 av) ∧ fD (fK w0 w' g aa aj) ∧ fD (gI w w' g none) ∧ fD (Below w0.heap.size w0 w'))
 case atStart => exact ⟨(bh), (bi), (bj), y3_, H', ⟨Nat.le_refl _⟩, ⟨by (with_reducible repeat (first | apply Kd.iq | apply Kd.gY | apply Kd.iE)); exact aG.out⟩, ⟨y8_⟩, ⟨y2_⟩, ⟨y7_⟩⟩
 case round =>
  clear H'; obtain ⟨av, aA, aj, rfl, HA, HK1, HO_3, HI0, HK, HB⟩ := hrel; cases gk with
  | zero => exact absurd HA.out (by simp [iD.l0])
  | succ k1 =>
   have H := HA.out; clear HA; simp only [iD.l0] at H; replace H := qU H; obtain ⟨au, -, H⟩ | ⟨au, -, H⟩ := H
   ·obtain ⟨bk, hy_⟩ : ∃ y_ : List Int, y_ = (([97, 98, 60, 62, 38, 34, 39, 32] : List Int)) := ⟨_, rfl⟩; replace H : ((lh.f aa aj bk).bind fun ax => (if av.length < 140737488355328 then (iD.l0 k1 (av ++ [(ax.1) % 256]) (wrap64 (aA - 1)) aa ax.2) else (none))) = some (r1, r2) := z0_; have a8 := a_ hy_; clear hy_; replace H := bd_ H; obtain ⟨⟨aR, aY⟩, A7, H⟩ := H; replace H : (if av.length < 140737488355328 then (iD.l0 k1 (av ++ [(aR) % 256]) (wrap64 (aA - 1)) aa aY) else (none)) = some (r1, r2) := H; replace H := kl_ H; obtain ⟨bu, H⟩ := H
    ·obtain ⟨bv, hy_⟩ : ∃ y_ : List Int, y_ = (av ++ [(aR) % 256]) := ⟨_, rfl⟩; replace H : (iD.l0 k1 bv (wrap64 (aA - 1)) aa aY) = some (r1, r2) := z0_; have bw := a_ hy_; clear hy_; have H' := a_ H; clear H
     go_wp2_with (first | ((with_reducible refine iW (N := 14) rfl ?_); refine Kd.oP (Kd.int .i64) _ 2 ?hg (N := 14) ?hd (xs := ([97, 98, 60, 62, 38, 34, 39, 32] : List Int)) (inner := [.int .i64 97, .int .i64 98, .int .i64 60, .int .i64 62, .int .i64 38, .int .i64 34, .int .i64 39, .int .i64 32]) (ok := fun _ => True) (okp := fun _ => True) ?hr ?hp (fun _ hk => hk) trivial (Below.refl _ _) (Nat.le_refl _) lI ?_; (case hd => rfl); (case hg => rfl); (case hr => first | (go_simp; done) | (go_simp; rfl)); (case hp => exact (iV.one (show Kd.M (Kd.int .i64) _ _ _ 97 [.int .i64 97] from rfl) (iV.one (show Kd.M (Kd.int .i64) _ _ _ 98 [.int .i64 98] from rfl) (iV.one (show Kd.M (Kd.int .i64) _ _ _ 60 [.int .i64 60] from rfl) (iV.one (show Kd.M (Kd.int .i64) _ _ _ 62 [.int .i64 62] from rfl) (iV.one (show Kd.M (Kd.int .i64) _ _ _ 38 [.int .i64 38] from rfl) (iV.one (show Kd.M (Kd.int .i64) _ _ _ 34 [.int .i64 34] from rfl) (iV.one (show Kd.M (Kd.int .i64) _ _ _ 39 [.int .i64 39] from rfl) (iV.one (show Kd.M (Kd.int .i64) _ _ _ 32 [.int .i64 32] from rfl) (iV.none _ _)))))))))); intro cc w9 aT hb hg_ hnew_; clear hg_ hnew_; (first | rw [← a8.out] at aT | (simp only [Int.reduceToNat] at aT; rw [← a8.out] at aT)); have n_ := s5_ (Kd.jY DD hb) (Kd.jQ aT (kG (w := w) (g := g) (row := none) y2_)) (fK.below y8_ hb) (gI.trans y2_ (gI.of_below hb g none) (.inl rfl)) (fZ y7_ hb); clear HO_3 HI0 HK HB; obtain ⟨HO_3, ak, HI0, HK, HB⟩ := n_; clear hb aT; obtain ⟨bS, bT, bU⟩ := Kd.jc ak.out; subst bU) | ((with_reducible refine gm (f := 30) rfl ?_); refine gc_ 30 15 Tryz.func30 #[.pointer (some ⟨g, 0, none⟩), .slice bS bk.length bT] ?_; (with_reducible refine (lh.calls g aa aj _ _ bk aR aY w0 _ ?side1 ?side2 ?side3 ?side4 ?side5 A7.out).mono ?_); (case side1 => repeat (first | (with_reducible first | exact HI0.out | apply fK.alloc | apply fK.drewN | apply fK.drew | apply fK.kZ) | exact HI0.out)); (case side2 => repeat (first | (with_reducible first | exact HB.out | apply gB | apply fU | apply gG | refine gX ?_ (fK.ge HI0.out)) | exact HB.out)); (case side3 => repeat (first | exact (Kd.iL ak.out).2.2 | (with_reducible refine Kd.jh ?_ _) | (with_reducible refine Kd.jk ?_ _) | (with_reducible refine Kd.jK ?_))); (case side4 => exact (Kd.iL ak.out).2.1); (case side5 => exact zZ (fK.own_ne HI0.out ak.out iO)); rintro e ch ⟨rfl, hi, hb, hk⟩; refine ⟨_, rfl, ?_⟩; have n_ := s5_ (Kd.iI (Kd.uF (fK.apart (show fK w0 _ g aa aj from by repeat (first | (with_reducible first | exact HI0.out | apply fK.alloc | apply fK.drewN | apply fK.drew | apply fK.kZ) | exact HI0.out)) DD iO) hk (fun _ h => h.2)) (fun _ h => h.1)) (Kd.iI (Kd.uF (fK.apart (show fK w0 _ g aa aj from by repeat (first | (with_reducible first | exact HI0.out | apply fK.alloc | apply fK.drewN | apply fK.drew | apply fK.kZ) | exact HI0.out)) (by (with_reducible repeat (first | apply Kd.iq | apply Kd.gY | apply Kd.iE)); exact ak.out) iO) hk (fun _ h => h.2)) (fun _ h => h.1)) (gI.trans y2_ hk (.inl rfl)) hb hi; clear HO_3 ak HK HB HI0; obtain ⟨HO_3, ak, HK, HB, HI0⟩ := n_; (try clear hb); (try clear hb2); (try clear hk); (try clear hi)) | ((with_reducible refine ni (b := .append) (xs := #[.tmp 12, .tmp 17]) rfl ?_); at_builtin; refine Kd.pY (Kd.int .u8) w.heap.size rfl (.tmp 12) (.tmp 17) 22 5 (.int .u8 0) 1 rfl Tryz.underlying22 info5 rfl iO jv u3 av ((aR) % 256) [.int .u8 ((aR) % 256)] (fun _ => True) (fun _ => False) rfl rfl ?aP (fun _ hk => hk.elim) ?aF ?aO (Below.refl _ _) ?aS ?aL ?_; (case aP => exact rfl); (case aF => exact (fun _ _ => trivial)); (case aO => exact DD); (case aS => exact (kG (w := w) (g := g) (row := none) y2_)); (case aL => have := bu.out; omega); intro cd ci ho hb hg hat; rw [← bw.out] at ho; have n_ := s5_ (fK.uH HI0.out y8_ hg (fK.own_ne HI0.out HO_3.out iO)) (Kd.uZ (by (with_reducible repeat (first | apply Kd.iq | apply Kd.gY | apply Kd.iE)); exact ak.out) (Kd.wF DD) iO hg) (qV y7_ HL.out hb) (gI.trans y2_ (gI.nD hg g) (Kd.wQ HO_3.out)) ho; clear HI0 ak HB HK HO_3; obtain ⟨HI0, ak, HB, HK, bx⟩ := n_; clear ho hb hg hat))
     go_roundg k1
     case measure => have := HK1.out; omega
     case rel => exact ⟨(bv), (wrap64 (aA - 1)), (aY), y3_, H', ⟨pq⟩, ⟨by (with_reducible repeat (first | apply Kd.iq | apply Kd.gY | apply Kd.iE)); exact bx.out⟩, ⟨y8_⟩, ⟨y2_⟩, ⟨y7_⟩⟩
   ·replace H := j2_ H; obtain ⟨rfl, rfl⟩ := H; have hcv14 := ww (P := Tryz.prog) Tryz.underlying22 Tryz.underlying5 Tryz.underlying9 (Kd.zy HO_3.out); go_wp2
    go_ret
    exact ⟨y6_, y8_, y7_, y2_⟩

/-! ### iP: function 50 -/
def iP.l0 : Nat → List (S38) → ByteArray → Int → Option (Int)
  | 0, _, _, _ => none
  | k + 1, x0, x1, x5 => if x5 < (x0.length : Int) then (if 0 ≤ x5 then (if ((iU x0 x5).f0).toList = x1.toList then (some x5) else (iP.l0 k x0 x1 (wrap64 (x5 + 1)))) else (none)) else (some (-1))
def iP.f (k : Nat) (l0 : List (S38)) (a1 : ByteArray) : Option (Int) := iP.l0 k l0 a1 0
theorem iP.iQ : ∀ k, (∀ y0 y1 y2, LeO (iP.l0 k y0 y1 y2) (iP.l0 (k + 1) y0 y1 y2))
  | 0 => fun _ _ _ r h => by simp [iP.l0] at h
  | k + 1 => by
    have bg := iP.iQ k
    · intro y0 y1 y2
      unfold iP.l0
      repeat' (with_reducible first | exact bg _ _ _ | exact LeO.refl _ | exact LeO.none _ | refine LeO.ite ?_ ?_ | refine LeO.bind ?_ (fun _ => ?_))
theorem iP.mono : ∀ a0 a1 k, LeO (iP.f k a0 a1) (iP.f (k + 1) a0 a1) := by
  intro a0 a1 k
  have bg := iP.iQ k
  unfold iP.f
  repeat' (with_reducible first | exact bg _ _ _ | exact LeO.refl _ | exact LeO.none _ | refine LeO.ite ?_ ?_ | refine LeO.bind ?_ (fun _ => ?_))
theorem iP.calls (k : Nat) (A0 : Option Addr) (c0 : Nat) (l0 : List (S38)) (a1 : ByteArray) (r : Int) (w : World) (an : Kd.C k38 w A0 l0.length l0) (hc0 : l0.length ≤ c0) (h : iP.f k l0 a1 = some r) :
    Calls Tryz.prog 50 #[.slice A0 l0.length c0, .string a1] w fun e w' => e = .returned (.int .i64 r) ∧ jP w w' := by
 have bV := a_ an; have b4 := a_ hc0; clear an hc0; have H : (iP.l0 k l0 a1 0) = some r := h; clear h; have H' := a_ H; clear H; go_enter Tryz.func50, Tryz.ntmps50
 go_wp2
 go_loopg [5] k (fun kq v5 w' => ∃ (aB : Int), v5 = .int .i64 aB ∧ fD (iP.l0 kq l0 a1 aB = some r) ∧ fD (kq ≤ k) ∧ jP w w')
 case atStart => exact ⟨(0), y3_, H', ⟨Nat.le_refl _⟩, y5_⟩
 case round =>
  clear H'; obtain ⟨aB, rfl, HA, HK1, ⟨m1, rfl⟩⟩ := hrel; cases gk with
  | zero => exact absurd HA.out (by simp [iP.l0])
  | succ k1 =>
   have H := HA.out; clear HA; simp only [iP.l0] at H; replace H := id_ H; obtain ⟨au, -, H⟩ | ⟨au, -, H⟩ := H; replace H := kd_ H; obtain ⟨aK, -, H⟩ := H; replace H := ie_ H; obtain ⟨aM, aZ, -, H⟩ | ⟨aM, aZ, bm, H⟩ := H; obtain rfl := Option.some.inj H; obtain ⟨aJ, ba⟩ := t2_; rotate_left; have H' := a_ H; clear H; obtain ⟨aJ, bb⟩ := t2_; rotate_left
   obtain rfl := Option.some.inj H; have aX := t_; rotate_left
   all_goals (
    try(clear aJ; have af : 0 ≤ (aB : Int) := of_decide_eq_true y1_; have ag : aB < (l0.length : Int) := of_decide_eq_true y1_; obtain ⟨ai, al, ac, a9⟩ := oW bV.out aB af ag; cases al; replace af := eq_true af; replace ag := eq_true ag; go_wp2)
    try(
      clear ba; go_ret
      exact ⟨y3_, y5_⟩)
    try(
      clear bb; go_roundg k1
      case measure => have := HK1.out; omega
      case rel => exact ⟨(wrap64 (aB + 1)), y3_, H', ⟨pq⟩, y5_⟩)
    try(
      clear aX; go_wp2
      go_ret
      exact ⟨y3_, y5_⟩))

end Go.Proofs.YtbibioffldkanaaGreatDoor.K
