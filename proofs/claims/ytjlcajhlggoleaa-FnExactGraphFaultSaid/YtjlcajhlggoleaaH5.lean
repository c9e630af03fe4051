-- Written by a program of this session's own (xp.py) for this seat.
import Derived.Test.YtjlcajhlggoleaaH0
import Derived.Test.YtjlcajhlggoleaaH4
namespace Go.Proofs.Ytjlcajhlggoleaa.H
open Go.RowKit Go.Proofs.YtjlcajhlggoleaaW.PrintWords Go.Proofs.YtjlcajhlggoleaaW.PrintLast Go.Proofs.YtjlcajhlggoleaaW.PrintMore
attribute [local go_sem] Instr.field asAgg
attribute [local go_sem] max2_int min2_int max_two min_two max_three min_three max_four min_four   -- for this text's walks alone
set_option linter.unusedVariables false
set_option linter.unusedSimpArgs false

/-! ### spec_l6Bare: function 117 -/
def spec_l6Bare.f (a0 : S115) : Option (Bool) := (spec_l1In.f ((rd_T115 [a0] 0).f0) 4 6).bind fun t189 => (if t189 = true then (if ((rd_T115 [a0] 0).f0) = 1 then (if ((rd_T115 [a0] 0).f0) = 3 then (if ((rd_T115 [a0] 0).f0) = 6 then (some (((rd_T115 [a0] 0).f1) == 0)) else (if (((rd_T115 [a0] 0).f4).length : Int) = 0 then (some (((rd_T115 [a0] 0).f1) == 0)) else (some false))) else (if ((rd_T115 [a0] 0).f2).toList = ([] : List UInt8) then (if ((rd_T115 [a0] 0).f0) = 6 then (some (((rd_T115 [a0] 0).f1) == 0)) else (if (((rd_T115 [a0] 0).f4).length : Int) = 0 then (some (((rd_T115 [a0] 0).f1) == 0)) else (some false))) else (some false))) else (if ((rd_T115 [a0] 0).f0) = 3 then (if ((rd_T115 [a0] 0).f0) = 6 then (if ((rd_T115 [a0] 0).f0) = 2 then (some (((rd_T115 [a0] 0).f1) == 0)) else (some true)) else (if (((rd_T115 [a0] 0).f4).length : Int) = 0 then (if ((rd_T115 [a0] 0).f0) = 2 then (some (((rd_T115 [a0] 0).f1) == 0)) else (some true)) else (some false))) else (if ((rd_T115 [a0] 0).f2).toList = ([] : List UInt8) then (if ((rd_T115 [a0] 0).f0) = 6 then (if ((rd_T115 [a0] 0).f0) = 2 then (some (((rd_T115 [a0] 0).f1) == 0)) else (some true)) else (if (((rd_T115 [a0] 0).f4).length : Int) = 0 then (if ((rd_T115 [a0] 0).f0) = 2 then (some (((rd_T115 [a0] 0).f1) == 0)) else (some true)) else (some false))) else (some false)))) else (if ((rd_T115 [a0] 0).f0) = 1 then (if ((rd_T115 [a0] 0).f0) = 3 then (if ((rd_T115 [a0] 0).f0) = 11 then (if ((rd_T115 [a0] 0).f0) = 6 then (some (((rd_T115 [a0] 0).f1) == 0)) else (if (((rd_T115 [a0] 0).f4).length : Int) = 0 then (some (((rd_T115 [a0] 0).f1) == 0)) else (some false))) else (if ((rd_T115 [a0] 0).f3) = 0 then (if ((rd_T115 [a0] 0).f0) = 6 then (some (((rd_T115 [a0] 0).f1) == 0)) else (if (((rd_T115 [a0] 0).f4).length : Int) = 0 then (some (((rd_T115 [a0] 0).f1) == 0)) else (some false))) else (some false))) else (if ((rd_T115 [a0] 0).f2).toList = ([] : List UInt8) then (if ((rd_T115 [a0] 0).f0) = 11 then (if ((rd_T115 [a0] 0).f0) = 6 then (some (((rd_T115 [a0] 0).f1) == 0)) else (if (((rd_T115 [a0] 0).f4).length : Int) = 0 then (some (((rd_T115 [a0] 0).f1) == 0)) else (some false))) else (if ((rd_T115 [a0] 0).f3) = 0 then (if ((rd_T115 [a0] 0).f0) = 6 then (some (((rd_T115 [a0] 0).f1) == 0)) else (if (((rd_T115 [a0] 0).f4).length : Int) = 0 then (some (((rd_T115 [a0] 0).f1) == 0)) else (some false))) else (some false))) else (some false))) else (if ((rd_T115 [a0] 0).f0) = 3 then (if ((rd_T115 [a0] 0).f0) = 11 then (if ((rd_T115 [a0] 0).f0) = 6 then (if ((rd_T115 [a0] 0).f0) = 2 then (some (((rd_T115 [a0] 0).f1) == 0)) else (some true)) else (if (((rd_T115 [a0] 0).f4).length : Int) = 0 then (if ((rd_T115 [a0] 0).f0) = 2 then (some (((rd_T115 [a0] 0).f1) == 0)) else (some true)) else (some false))) else (if ((rd_T115 [a0] 0).f3) = 0 then (if ((rd_T115 [a0] 0).f0) = 6 then (if ((rd_T115 [a0] 0).f0) = 2 then (some (((rd_T115 [a0] 0).f1) == 0)) else (some true)) else (if (((rd_T115 [a0] 0).f4).length : Int) = 0 then (if ((rd_T115 [a0] 0).f0) = 2 then (some (((rd_T115 [a0] 0).f1) == 0)) else (some true)) else (some false))) else (some false))) else (if ((rd_T115 [a0] 0).f2).toList = ([] : List UInt8) then (if ((rd_T115 [a0] 0).f0) = 11 then (if ((rd_T115 [a0] 0).f0) = 6 then (if ((rd_T115 [a0] 0).f0) = 2 then (some (((rd_T115 [a0] 0).f1) == 0)) else (some true)) else (if (((rd_T115 [a0] 0).f4).length : Int) = 0 then (if ((rd_T115 [a0] 0).f0) = 2 then (some (((rd_T115 [a0] 0).f1) == 0)) else (some true)) else (some false))) else (if ((rd_T115 [a0] 0).f3) = 0 then (if ((rd_T115 [a0] 0).f0) = 6 then (if ((rd_T115 [a0] 0).f0) = 2 then (some (((rd_T115 [a0] 0).f1) == 0)) else (some true)) else (if (((rd_T115 [a0] 0).f4).length : Int) = 0 then (if ((rd_T115 [a0] 0).f0) = 2 then (some (((rd_T115 [a0] 0).f1) == 0)) else (some true)) else (some false))) else (some false))) else (some false)))))
set_option maxHeartbeats 8000000 in
set_option maxRecDepth 100000 in
theorem spec_l6Bare.calls (adp0 : Addr) (a0 : S115) (r : Bool) (w : World) (hr0 : Kd.C k115 w (some adp0) 1 [a0]) (h : spec_l6Bare.f a0 = some r) :
    Calls Try.prog 117 #[.pointer (some adp0)] w fun e w' => e = .returned (.bool r) ∧ Drawn0 w w' := by
  have HR0 := Aside0.mk hr0
  clear hr0
  have H : ((spec_l1In.f ((rd_T115 [a0] 0).f0) 4 6).bind fun t189 => (if t189 = true then (if ((rd_T115 [a0] 0).f0) = 1 then (if ((rd_T115 [a0] 0).f0) = 3 then (if ((rd_T115 [a0] 0).f0) = 6 then (some (((rd_T115 [a0] 0).f1) == 0)) else (if (((rd_T115 [a0] 0).f4).length : Int) = 0 then (some (((rd_T115 [a0] 0).f1) == 0)) else (some false))) else (if ((rd_T115 [a0] 0).f2).toList = ([] : List UInt8) then (if ((rd_T115 [a0] 0).f0) = 6 then (some (((rd_T115 [a0] 0).f1) == 0)) else (if (((rd_T115 [a0] 0).f4).length : Int) = 0 then (some (((rd_T115 [a0] 0).f1) == 0)) else (some false))) else (some false))) else (if ((rd_T115 [a0] 0).f0) = 3 then (if ((rd_T115 [a0] 0).f0) = 6 then (if ((rd_T115 [a0] 0).f0) = 2 then (some (((rd_T115 [a0] 0).f1) == 0)) else (some true)) else (if (((rd_T115 [a0] 0).f4).length : Int) = 0 then (if ((rd_T115 [a0] 0).f0) = 2 then (some (((rd_T115 [a0] 0).f1) == 0)) else (some true)) else (some false))) else (if ((rd_T115 [a0] 0).f2).toList = ([] : List UInt8) then (if ((rd_T115 [a0] 0).f0) = 6 then (if ((rd_T115 [a0] 0).f0) = 2 then (some (((rd_T115 [a0] 0).f1) == 0)) else (some true)) else (if (((rd_T115 [a0] 0).f4).length : Int) = 0 then (if ((rd_T115 [a0] 0).f0) = 2 then (some (((rd_T115 [a0] 0).f1) == 0)) else (some true)) else (some false))) else (some false)))) else (if ((rd_T115 [a0] 0).f0) = 1 then (if ((rd_T115 [a0] 0).f0) = 3 then (if ((rd_T115 [a0] 0).f0) = 11 then (if ((rd_T115 [a0] 0).f0) = 6 then (some (((rd_T115 [a0] 0).f1) == 0)) else (if (((rd_T115 [a0] 0).f4).length : Int) = 0 then (some (((rd_T115 [a0] 0).f1) == 0)) else (some false))) else (if ((rd_T115 [a0] 0).f3) = 0 then (if ((rd_T115 [a0] 0).f0) = 6 then (some (((rd_T115 [a0] 0).f1) == 0)) else (if (((rd_T115 [a0] 0).f4).length : Int) = 0 then (some (((rd_T115 [a0] 0).f1) == 0)) else (some false))) else (some false))) else (if ((rd_T115 [a0] 0).f2).toList = ([] : List UInt8) then (if ((rd_T115 [a0] 0).f0) = 11 then (if ((rd_T115 [a0] 0).f0) = 6 then (some (((rd_T115 [a0] 0).f1) == 0)) else (if (((rd_T115 [a0] 0).f4).length : Int) = 0 then (some (((rd_T115 [a0] 0).f1) == 0)) else (some false))) else (if ((rd_T115 [a0] 0).f3) = 0 then (if ((rd_T115 [a0] 0).f0) = 6 then (some (((rd_T115 [a0] 0).f1) == 0)) else (if (((rd_T115 [a0] 0).f4).length : Int) = 0 then (some (((rd_T115 [a0] 0).f1) == 0)) else (some false))) else (some false))) else (some false))) else (if ((rd_T115 [a0] 0).f0) = 3 then (if ((rd_T115 [a0] 0).f0) = 11 then (if ((rd_T115 [a0] 0).f0) = 6 then (if ((rd_T115 [a0] 0).f0) = 2 then (some (((rd_T115 [a0] 0).f1) == 0)) else (some true)) else (if (((rd_T115 [a0] 0).f4).length : Int) = 0 then (if ((rd_T115 [a0] 0).f0) = 2 then (some (((rd_T115 [a0] 0).f1) == 0)) else (some true)) else (some false))) else (if ((rd_T115 [a0] 0).f3) = 0 then (if ((rd_T115 [a0] 0).f0) = 6 then (if ((rd_T115 [a0] 0).f0) = 2 then (some (((rd_T115 [a0] 0).f1) == 0)) else (some true)) else (if (((rd_T115 [a0] 0).f4).length : Int) = 0 then (if ((rd_T115 [a0] 0).f0) = 2 then (some (((rd_T115 [a0] 0).f1) == 0)) else (some true)) else (some false))) else (some false))) else (if ((rd_T115 [a0] 0).f2).toList = ([] : List UInt8) then (if ((rd_T115 [a0] 0).f0) = 11 then (if ((rd_T115 [a0] 0).f0) = 6 then (if ((rd_T115 [a0] 0).f0) = 2 then (some (((rd_T115 [a0] 0).f1) == 0)) else (some true)) else (if (((rd_T115 [a0] 0).f4).length : Int) = 0 then (if ((rd_T115 [a0] 0).f0) = 2 then (some (((rd_T115 [a0] 0).f1) == 0)) else (some true)) else (some false))) else (if ((rd_T115 [a0] 0).f3) = 0 then (if ((rd_T115 [a0] 0).f0) = 6 then (if ((rd_T115 [a0] 0).f0) = 2 then (some (((rd_T115 [a0] 0).f1) == 0)) else (some true)) else (if (((rd_T115 [a0] 0).f4).length : Int) = 0 then (if ((rd_T115 [a0] 0).f0) = 2 then (some (((rd_T115 [a0] 0).f1) == 0)) else (some true)) else (some false))) else (some false))) else (some false)))))) = some r := h
  clear h
  replace H := Option.bind_eq_some_iff.mp H
  obtain ⟨t189, A20, H⟩ := H
  replace H : (if t189 = true then (if ((rd_T115 [a0] 0).f0) = 1 then (if ((rd_T115 [a0] 0).f0) = 3 then (if ((rd_T115 [a0] 0).f0) = 6 then (some (((rd_T115 [a0] 0).f1) == 0)) else (if (((rd_T115 [a0] 0).f4).length : Int) = 0 then (some (((rd_T115 [a0] 0).f1) == 0)) else (some false))) else (if ((rd_T115 [a0] 0).f2).toList = ([] : List UInt8) then (if ((rd_T115 [a0] 0).f0) = 6 then (some (((rd_T115 [a0] 0).f1) == 0)) else (if (((rd_T115 [a0] 0).f4).length : Int) = 0 then (some (((rd_T115 [a0] 0).f1) == 0)) else (some false))) else (some false))) else (if ((rd_T115 [a0] 0).f0) = 3 then (if ((rd_T115 [a0] 0).f0) = 6 then (if ((rd_T115 [a0] 0).f0) = 2 then (some (((rd_T115 [a0] 0).f1) == 0)) else (some true)) else (if (((rd_T115 [a0] 0).f4).length : Int) = 0 then (if ((rd_T115 [a0] 0).f0) = 2 then (some (((rd_T115 [a0] 0).f1) == 0)) else (some true)) else (some false))) else (if ((rd_T115 [a0] 0).f2).toList = ([] : List UInt8) then (if ((rd_T115 [a0] 0).f0) = 6 then (if ((rd_T115 [a0] 0).f0) = 2 then (some (((rd_T115 [a0] 0).f1) == 0)) else (some true)) else (if (((rd_T115 [a0] 0).f4).length : Int) = 0 then (if ((rd_T115 [a0] 0).f0) = 2 then (some (((rd_T115 [a0] 0).f1) == 0)) else (some true)) else (some false))) else (some false)))) else (if ((rd_T115 [a0] 0).f0) = 1 then (if ((rd_T115 [a0] 0).f0) = 3 then (if ((rd_T115 [a0] 0).f0) = 11 then (if ((rd_T115 [a0] 0).f0) = 6 then (some (((rd_T115 [a0] 0).f1) == 0)) else (if (((rd_T115 [a0] 0).f4).length : Int) = 0 then (some (((rd_T115 [a0] 0).f1) == 0)) else (some false))) else (if ((rd_T115 [a0] 0).f3) = 0 then (if ((rd_T115 [a0] 0).f0) = 6 then (some (((rd_T115 [a0] 0).f1) == 0)) else (if (((rd_T115 [a0] 0).f4).length : Int) = 0 then (some (((rd_T115 [a0] 0).f1) == 0)) else (some false))) else (some false))) else (if ((rd_T115 [a0] 0).f2).toList = ([] : List UInt8) then (if ((rd_T115 [a0] 0).f0) = 11 then (if ((rd_T115 [a0] 0).f0) = 6 then (some (((rd_T115 [a0] 0).f1) == 0)) else (if (((rd_T115 [a0] 0).f4).length : Int) = 0 then (some (((rd_T115 [a0] 0).f1) == 0)) else (some false))) else (if ((rd_T115 [a0] 0).f3) = 0 then (if ((rd_T115 [a0] 0).f0) = 6 then (some (((rd_T115 [a0] 0).f1) == 0)) else (if (((rd_T115 [a0] 0).f4).length : Int) = 0 then (some (((rd_T115 [a0] 0).f1) == 0)) else (some false))) else (some false))) else (some false))) else (if ((rd_T115 [a0] 0).f0) = 3 then (if ((rd_T115 [a0] 0).f0) = 11 then (if ((rd_T115 [a0] 0).f0) = 6 then (if ((rd_T115 [a0] 0).f0) = 2 then (some (((rd_T115 [a0] 0).f1) == 0)) else (some true)) else (if (((rd_T115 [a0] 0).f4).length : Int) = 0 then (if ((rd_T115 [a0] 0).f0) = 2 then (some (((rd_T115 [a0] 0).f1) == 0)) else (some true)) else (some false))) else (if ((rd_T115 [a0] 0).f3) = 0 then (if ((rd_T115 [a0] 0).f0) = 6 then (if ((rd_T115 [a0] 0).f0) = 2 then (some (((rd_T115 [a0] 0).f1) == 0)) else (some true)) else (if (((rd_T115 [a0] 0).f4).length : Int) = 0 then (if ((rd_T115 [a0] 0).f0) = 2 then (some (((rd_T115 [a0] 0).f1) == 0)) else (some true)) else (some false))) else (some false))) else (if ((rd_T115 [a0] 0).f2).toList = ([] : List UInt8) then (if ((rd_T115 [a0] 0).f0) = 11 then (if ((rd_T115 [a0] 0).f0) = 6 then (if ((rd_T115 [a0] 0).f0) = 2 then (some (((rd_T115 [a0] 0).f1) == 0)) else (some true)) else (if (((rd_T115 [a0] 0).f4).length : Int) = 0 then (if ((rd_T115 [a0] 0).f0) = 2 then (some (((rd_T115 [a0] 0).f1) == 0)) else (some true)) else (some false))) else (if ((rd_T115 [a0] 0).f3) = 0 then (if ((rd_T115 [a0] 0).f0) = 6 then (if ((rd_T115 [a0] 0).f0) = 2 then (some (((rd_T115 [a0] 0).f1) == 0)) else (some true)) else (if (((rd_T115 [a0] 0).f4).length : Int) = 0 then (if ((rd_T115 [a0] 0).f0) = 2 then (some (((rd_T115 [a0] 0).f1) == 0)) else (some true)) else (some false))) else (some false))) else (some false))))) = some r := H
  have A2 := Aside0.mk A20
  clear A20
  by_cases c3 : t189 = true
  subst c3
  have H1 : (if ((rd_T115 [a0] 0).f0) = 1 then (if ((rd_T115 [a0] 0).f0) = 3 then (if ((rd_T115 [a0] 0).f0) = 6 then (some (((rd_T115 [a0] 0).f1) == 0)) else (if (((rd_T115 [a0] 0).f4).length : Int) = 0 then (some (((rd_T115 [a0] 0).f1) == 0)) else (some false))) else (if ((rd_T115 [a0] 0).f2).toList = ([] : List UInt8) then (if ((rd_T115 [a0] 0).f0) = 6 then (some (((rd_T115 [a0] 0).f1) == 0)) else (if (((rd_T115 [a0] 0).f4).length : Int) = 0 then (some (((rd_T115 [a0] 0).f1) == 0)) else (some false))) else (some false))) else (if ((rd_T115 [a0] 0).f0) = 3 then (if ((rd_T115 [a0] 0).f0) = 6 then (if ((rd_T115 [a0] 0).f0) = 2 then (some (((rd_T115 [a0] 0).f1) == 0)) else (some true)) else (if (((rd_T115 [a0] 0).f4).length : Int) = 0 then (if ((rd_T115 [a0] 0).f0) = 2 then (some (((rd_T115 [a0] 0).f1) == 0)) else (some true)) else (some false))) else (if ((rd_T115 [a0] 0).f2).toList = ([] : List UInt8) then (if ((rd_T115 [a0] 0).f0) = 6 then (if ((rd_T115 [a0] 0).f0) = 2 then (some (((rd_T115 [a0] 0).f1) == 0)) else (some true)) else (if (((rd_T115 [a0] 0).f4).length : Int) = 0 then (if ((rd_T115 [a0] 0).f0) = 2 then (some (((rd_T115 [a0] 0).f1) == 0)) else (some true)) else (some false))) else (some false)))) = some r := by rw [if_pos rfl] at H; exact H
  clear H
  have H := H1
  clear H1
  by_cases c4 : ((rd_T115 [a0] 0).f0) = 1
  rw [if_pos c4] at H
  have c4b0 : (((rd_T115 [a0] 0).f0) == 1) = true := beq_iff_eq.mpr c4
  have c4b1 : (((rd_T115 [a0] 0).f0) != 1) = false := bne_eq_false_iff_eq.mpr c4
  clear c4
  by_cases c5 : ((rd_T115 [a0] 0).f0) = 3
  rw [if_pos c5] at H
  have c5b0 : (((rd_T115 [a0] 0).f0) == 3) = true := beq_iff_eq.mpr c5
  have c5b1 : (((rd_T115 [a0] 0).f0) != 3) = false := bne_eq_false_iff_eq.mpr c5
  clear c5
  by_cases c6 : ((rd_T115 [a0] 0).f0) = 6
  rw [if_pos c6] at H
  have c6b0 : (((rd_T115 [a0] 0).f0) == 6) = true := beq_iff_eq.mpr c6
  have c6b1 : (((rd_T115 [a0] 0).f0) != 6) = false := bne_eq_false_iff_eq.mpr c6
  clear c6
  obtain rfl := Option.some.inj H
  have p188 : 0 ≤ (0 : Int) := (by omega)
  have q188 : 0 < ([a0].length : Int) := (by simp)
  obtain ⟨ad188, A188_4, c188_4, e188, hx188_0, hx188_1, hx188_2, hx188_3, hx188_4, hl188_4, hi188_4⟩ := at_T115 HR0.out 0 p188 q188
  obtain rfl : adp0 = ad188 := (by injection e188)
  have qi188 : (0 < [a0].length) = True := eq_true (by omega)
  (try rw [show ((0 : Int)).toNat = 0 from rfl] at hx188_0)
  (try rw [show 0 * 5 = 0 from rfl] at hx188_0)
  (try rw [Addr.add_zero'] at hx188_0)
  (try rw [show ((0 : Int)).toNat = 0 from rfl] at hx188_1)
  (try rw [show 0 * 5 = 0 from rfl] at hx188_1)
  (try rw [Addr.add_zero'] at hx188_1)
  (try rw [show ((0 : Int)).toNat = 0 from rfl] at hx188_2)
  (try rw [show 0 * 5 = 0 from rfl] at hx188_2)
  (try rw [Addr.add_zero'] at hx188_2)
  (try rw [show ((0 : Int)).toNat = 0 from rfl] at hx188_3)
  (try rw [show 0 * 5 = 0 from rfl] at hx188_3)
  (try rw [Addr.add_zero'] at hx188_3)
  (try rw [show ((0 : Int)).toNat = 0 from rfl] at hx188_4)
  (try rw [show 0 * 5 = 0 from rfl] at hx188_4)
  (try rw [Addr.add_zero'] at hx188_4)
  have HR188_4 := Aside0.mk hi188_4
  have HC188_4 := Aside0.mk hl188_4
  clear hi188_4 hl188_4
  replace p188 := eq_true p188
  replace q188 := eq_true q188
  rotate_left
  rw [if_neg c6] at H
  have c6b0 : (((rd_T115 [a0] 0).f0) == 6) = false := beq_eq_false_iff_ne.mpr c6
  have c6b1 : (((rd_T115 [a0] 0).f0) != 6) = true := bne_iff_ne.mpr c6
  by_cases c7 : (((rd_T115 [a0] 0).f4).length : Int) = 0
  rw [if_pos c7] at H
  have c7b0 : ((((rd_T115 [a0] 0).f4).length : Int) == 0) = true := beq_iff_eq.mpr c7
  have c7b1 : ((((rd_T115 [a0] 0).f4).length : Int) != 0) = false := bne_eq_false_iff_eq.mpr c7
  clear c7
  obtain rfl := Option.some.inj H
  have p188 : 0 ≤ (0 : Int) := (by omega)
  have q188 : 0 < ([a0].length : Int) := (by simp)
  obtain ⟨ad188, A188_4, c188_4, e188, hx188_0, hx188_1, hx188_2, hx188_3, hx188_4, hl188_4, hi188_4⟩ := at_T115 HR0.out 0 p188 q188
  obtain rfl : adp0 = ad188 := (by injection e188)
  have qi188 : (0 < [a0].length) = True := eq_true (by omega)
  (try rw [show ((0 : Int)).toNat = 0 from rfl] at hx188_0)
  (try rw [show 0 * 5 = 0 from rfl] at hx188_0)
  (try rw [Addr.add_zero'] at hx188_0)
  (try rw [show ((0 : Int)).toNat = 0 from rfl] at hx188_1)
  (try rw [show 0 * 5 = 0 from rfl] at hx188_1)
  (try rw [Addr.add_zero'] at hx188_1)
  (try rw [show ((0 : Int)).toNat = 0 from rfl] at hx188_2)
  (try rw [show 0 * 5 = 0 from rfl] at hx188_2)
  (try rw [Addr.add_zero'] at hx188_2)
  (try rw [show ((0 : Int)).toNat = 0 from rfl] at hx188_3)
  (try rw [show 0 * 5 = 0 from rfl] at hx188_3)
  (try rw [Addr.add_zero'] at hx188_3)
  (try rw [show ((0 : Int)).toNat = 0 from rfl] at hx188_4)
  (try rw [show 0 * 5 = 0 from rfl] at hx188_4)
  (try rw [Addr.add_zero'] at hx188_4)
  have HR188_4 := Aside0.mk hi188_4
  have HC188_4 := Aside0.mk hl188_4
  clear hi188_4 hl188_4
  replace p188 := eq_true p188
  replace q188 := eq_true q188
  rotate_left
  rw [if_neg c7] at H
  have c7b0 : ((((rd_T115 [a0] 0).f4).length : Int) == 0) = false := beq_eq_false_iff_ne.mpr c7
  have c7b1 : ((((rd_T115 [a0] 0).f4).length : Int) != 0) = true := bne_iff_ne.mpr c7
  have c7b2 : ¬ (((rd_T115 [a0] 0).f4) = []) := fun h_ => c7 (by rw [h_]; rfl)
  obtain rfl := Option.some.inj H
  have p188 : 0 ≤ (0 : Int) := (by omega)
  have q188 : 0 < ([a0].length : Int) := (by simp)
  obtain ⟨ad188, A188_4, c188_4, e188, hx188_0, hx188_1, hx188_2, hx188_3, hx188_4, hl188_4, hi188_4⟩ := at_T115 HR0.out 0 p188 q188
  obtain rfl : adp0 = ad188 := (by injection e188)
  have qi188 : (0 < [a0].length) = True := eq_true (by omega)
  (try rw [show ((0 : Int)).toNat = 0 from rfl] at hx188_0)
  (try rw [show 0 * 5 = 0 from rfl] at hx188_0)
  (try rw [Addr.add_zero'] at hx188_0)
  (try rw [show ((0 : Int)).toNat = 0 from rfl] at hx188_1)
  (try rw [show 0 * 5 = 0 from rfl] at hx188_1)
  (try rw [Addr.add_zero'] at hx188_1)
  (try rw [show ((0 : Int)).toNat = 0 from rfl] at hx188_2)
  (try rw [show 0 * 5 = 0 from rfl] at hx188_2)
  (try rw [Addr.add_zero'] at hx188_2)
  (try rw [show ((0 : Int)).toNat = 0 from rfl] at hx188_3)
  (try rw [show 0 * 5 = 0 from rfl] at hx188_3)
  (try rw [Addr.add_zero'] at hx188_3)
  (try rw [show ((0 : Int)).toNat = 0 from rfl] at hx188_4)
  (try rw [show 0 * 5 = 0 from rfl] at hx188_4)
  (try rw [Addr.add_zero'] at hx188_4)
  have HR188_4 := Aside0.mk hi188_4
  have HC188_4 := Aside0.mk hl188_4
  clear hi188_4 hl188_4
  replace p188 := eq_true p188
  replace q188 := eq_true q188
  rotate_left
  rw [if_neg c5] at H
  have c5b0 : (((rd_T115 [a0] 0).f0) == 3) = false := beq_eq_false_iff_ne.mpr c5
  have c5b1 : (((rd_T115 [a0] 0).f0) != 3) = true := bne_iff_ne.mpr c5
  by_cases c8 : ((rd_T115 [a0] 0).f2).toList = ([] : List UInt8)
  rw [if_pos c8] at H
  have c8b0 : (((rd_T115 [a0] 0).f2).toList == ([] : List UInt8)) = true := beq_iff_eq.mpr c8
  have c8b1 : (((rd_T115 [a0] 0).f2).toList != ([] : List UInt8)) = false := bne_eq_false_iff_eq.mpr c8
  clear c8
  by_cases c9 : ((rd_T115 [a0] 0).f0) = 6
  rw [if_pos c9] at H
  have c9b0 : (((rd_T115 [a0] 0).f0) == 6) = true := beq_iff_eq.mpr c9
  have c9b1 : (((rd_T115 [a0] 0).f0) != 6) = false := bne_eq_false_iff_eq.mpr c9
  clear c9
  obtain rfl := Option.some.inj H
  have p188 : 0 ≤ (0 : Int) := (by omega)
  have q188 : 0 < ([a0].length : Int) := (by simp)
  obtain ⟨ad188, A188_4, c188_4, e188, hx188_0, hx188_1, hx188_2, hx188_3, hx188_4, hl188_4, hi188_4⟩ := at_T115 HR0.out 0 p188 q188
  obtain rfl : adp0 = ad188 := (by injection e188)
  have qi188 : (0 < [a0].length) = True := eq_true (by omega)
  (try rw [show ((0 : Int)).toNat = 0 from rfl] at hx188_0)
  (try rw [show 0 * 5 = 0 from rfl] at hx188_0)
  (try rw [Addr.add_zero'] at hx188_0)
  (try rw [show ((0 : Int)).toNat = 0 from rfl] at hx188_1)
  (try rw [show 0 * 5 = 0 from rfl] at hx188_1)
  (try rw [Addr.add_zero'] at hx188_1)
  (try rw [show ((0 : Int)).toNat = 0 from rfl] at hx188_2)
  (try rw [show 0 * 5 = 0 from rfl] at hx188_2)
  (try rw [Addr.add_zero'] at hx188_2)
  (try rw [show ((0 : Int)).toNat = 0 from rfl] at hx188_3)
  (try rw [show 0 * 5 = 0 from rfl] at hx188_3)
  (try rw [Addr.add_zero'] at hx188_3)
  (try rw [show ((0 : Int)).toNat = 0 from rfl] at hx188_4)
  (try rw [show 0 * 5 = 0 from rfl] at hx188_4)
  (try rw [Addr.add_zero'] at hx188_4)
  have HR188_4 := Aside0.mk hi188_4
  have HC188_4 := Aside0.mk hl188_4
  clear hi188_4 hl188_4
  replace p188 := eq_true p188
  replace q188 := eq_true q188
  rotate_left
  rw [if_neg c9] at H
  have c9b0 : (((rd_T115 [a0] 0).f0) == 6) = false := beq_eq_false_iff_ne.mpr c9
  have c9b1 : (((rd_T115 [a0] 0).f0) != 6) = true := bne_iff_ne.mpr c9
  by_cases c10 : (((rd_T115 [a0] 0).f4).length : Int) = 0
  rw [if_pos c10] at H
  have c10b0 : ((((rd_T115 [a0] 0).f4).length : Int) == 0) = true := beq_iff_eq.mpr c10
  have c10b1 : ((((rd_T115 [a0] 0).f4).length : Int) != 0) = false := bne_eq_false_iff_eq.mpr c10
  clear c10
  obtain rfl := Option.some.inj H
  have p188 : 0 ≤ (0 : Int) := (by omega)
  have q188 : 0 < ([a0].length : Int) := (by simp)
  obtain ⟨ad188, A188_4, c188_4, e188, hx188_0, hx188_1, hx188_2, hx188_3, hx188_4, hl188_4, hi188_4⟩ := at_T115 HR0.out 0 p188 q188
  obtain rfl : adp0 = ad188 := (by injection e188)
  have qi188 : (0 < [a0].length) = True := eq_true (by omega)
  (try rw [show ((0 : Int)).toNat = 0 from rfl] at hx188_0)
  (try rw [show 0 * 5 = 0 from rfl] at hx188_0)
  (try rw [Addr.add_zero'] at hx188_0)
  (try rw [show ((0 : Int)).toNat = 0 from rfl] at hx188_1)
  (try rw [show 0 * 5 = 0 from rfl] at hx188_1)
  (try rw [Addr.add_zero'] at hx188_1)
  (try rw [show ((0 : Int)).toNat = 0 from rfl] at hx188_2)
  (try rw [show 0 * 5 = 0 from rfl] at hx188_2)
  (try rw [Addr.add_zero'] at hx188_2)
  (try rw [show ((0 : Int)).toNat = 0 from rfl] at hx188_3)
  (try rw [show 0 * 5 = 0 from rfl] at hx188_3)
  (try rw [Addr.add_zero'] at hx188_3)
  (try rw [show ((0 : Int)).toNat = 0 from rfl] at hx188_4)
  (try rw [show 0 * 5 = 0 from rfl] at hx188_4)
  (try rw [Addr.add_zero'] at hx188_4)
  have HR188_4 := Aside0.mk hi188_4
  have HC188_4 := Aside0.mk hl188_4
  clear hi188_4 hl188_4
  replace p188 := eq_true p188
  replace q188 := eq_true q188
  rotate_left
  rw [if_neg c10] at H
  have c10b0 : ((((rd_T115 [a0] 0).f4).length : Int) == 0) = false := beq_eq_false_iff_ne.mpr c10
  have c10b1 : ((((rd_T115 [a0] 0).f4).length : Int) != 0) = true := bne_iff_ne.mpr c10
  have c10b2 : ¬ (((rd_T115 [a0] 0).f4) = []) := fun h_ => c10 (by rw [h_]; rfl)
  obtain rfl := Option.some.inj H
  have p188 : 0 ≤ (0 : Int) := (by omega)
  have q188 : 0 < ([a0].length : Int) := (by simp)
  obtain ⟨ad188, A188_4, c188_4, e188, hx188_0, hx188_1, hx188_2, hx188_3, hx188_4, hl188_4, hi188_4⟩ := at_T115 HR0.out 0 p188 q188
  obtain rfl : adp0 = ad188 := (by injection e188)
  have qi188 : (0 < [a0].length) = True := eq_true (by omega)
  (try rw [show ((0 : Int)).toNat = 0 from rfl] at hx188_0)
  (try rw [show 0 * 5 = 0 from rfl] at hx188_0)
  (try rw [Addr.add_zero'] at hx188_0)
  (try rw [show ((0 : Int)).toNat = 0 from rfl] at hx188_1)
  (try rw [show 0 * 5 = 0 from rfl] at hx188_1)
  (try rw [Addr.add_zero'] at hx188_1)
  (try rw [show ((0 : Int)).toNat = 0 from rfl] at hx188_2)
  (try rw [show 0 * 5 = 0 from rfl] at hx188_2)
  (try rw [Addr.add_zero'] at hx188_2)
  (try rw [show ((0 : Int)).toNat = 0 from rfl] at hx188_3)
  (try rw [show 0 * 5 = 0 from rfl] at hx188_3)
  (try rw [Addr.add_zero'] at hx188_3)
  (try rw [show ((0 : Int)).toNat = 0 from rfl] at hx188_4)
  (try rw [show 0 * 5 = 0 from rfl] at hx188_4)
  (try rw [Addr.add_zero'] at hx188_4)
  have HR188_4 := Aside0.mk hi188_4
  have HC188_4 := Aside0.mk hl188_4
  clear hi188_4 hl188_4
  replace p188 := eq_true p188
  replace q188 := eq_true q188
  rotate_left
  rw [if_neg c8] at H
  have c8b0 : (((rd_T115 [a0] 0).f2).toList == ([] : List UInt8)) = false := beq_eq_false_iff_ne.mpr c8
  have c8b1 : (((rd_T115 [a0] 0).f2).toList != ([] : List UInt8)) = true := bne_iff_ne.mpr c8
  obtain rfl := Option.some.inj H
  have p188 : 0 ≤ (0 : Int) := (by omega)
  have q188 : 0 < ([a0].length : Int) := (by simp)
  obtain ⟨ad188, A188_4, c188_4, e188, hx188_0, hx188_1, hx188_2, hx188_3, hx188_4, hl188_4, hi188_4⟩ := at_T115 HR0.out 0 p188 q188
  obtain rfl : adp0 = ad188 := (by injection e188)
  have qi188 : (0 < [a0].length) = True := eq_true (by omega)
  (try rw [show ((0 : Int)).toNat = 0 from rfl] at hx188_0)
  (try rw [show 0 * 5 = 0 from rfl] at hx188_0)
  (try rw [Addr.add_zero'] at hx188_0)
  (try rw [show ((0 : Int)).toNat = 0 from rfl] at hx188_1)
  (try rw [show 0 * 5 = 0 from rfl] at hx188_1)
  (try rw [Addr.add_zero'] at hx188_1)
  (try rw [show ((0 : Int)).toNat = 0 from rfl] at hx188_2)
  (try rw [show 0 * 5 = 0 from rfl] at hx188_2)
  (try rw [Addr.add_zero'] at hx188_2)
  (try rw [show ((0 : Int)).toNat = 0 from rfl] at hx188_3)
  (try rw [show 0 * 5 = 0 from rfl] at hx188_3)
  (try rw [Addr.add_zero'] at hx188_3)
  (try rw [show ((0 : Int)).toNat = 0 from rfl] at hx188_4)
  (try rw [show 0 * 5 = 0 from rfl] at hx188_4)
  (try rw [Addr.add_zero'] at hx188_4)
  have HR188_4 := Aside0.mk hi188_4
  have HC188_4 := Aside0.mk hl188_4
  clear hi188_4 hl188_4
  replace p188 := eq_true p188
  replace q188 := eq_true q188
  rotate_left
  rw [if_neg c4] at H
  have c4b0 : (((rd_T115 [a0] 0).f0) == 1) = false := beq_eq_false_iff_ne.mpr c4
  have c4b1 : (((rd_T115 [a0] 0).f0) != 1) = true := bne_iff_ne.mpr c4
  by_cases c11 : ((rd_T115 [a0] 0).f0) = 3
  rw [if_pos c11] at H
  have c11b0 : (((rd_T115 [a0] 0).f0) == 3) = true := beq_iff_eq.mpr c11
  have c11b1 : (((rd_T115 [a0] 0).f0) != 3) = false := bne_eq_false_iff_eq.mpr c11
  clear c11
  by_cases c12 : ((rd_T115 [a0] 0).f0) = 6
  rw [if_pos c12] at H
  have c12b0 : (((rd_T115 [a0] 0).f0) == 6) = true := beq_iff_eq.mpr c12
  have c12b1 : (((rd_T115 [a0] 0).f0) != 6) = false := bne_eq_false_iff_eq.mpr c12
  clear c12
  by_cases c13 : ((rd_T115 [a0] 0).f0) = 2
  rw [if_pos c13] at H
  have c13b0 : (((rd_T115 [a0] 0).f0) == 2) = true := beq_iff_eq.mpr c13
  have c13b1 : (((rd_T115 [a0] 0).f0) != 2) = false := bne_eq_false_iff_eq.mpr c13
  clear c13
  obtain rfl := Option.some.inj H
  have p188 : 0 ≤ (0 : Int) := (by omega)
  have q188 : 0 < ([a0].length : Int) := (by simp)
  obtain ⟨ad188, A188_4, c188_4, e188, hx188_0, hx188_1, hx188_2, hx188_3, hx188_4, hl188_4, hi188_4⟩ := at_T115 HR0.out 0 p188 q188
  obtain rfl : adp0 = ad188 := (by injection e188)
  have qi188 : (0 < [a0].length) = True := eq_true (by omega)
  (try rw [show ((0 : Int)).toNat = 0 from rfl] at hx188_0)
  (try rw [show 0 * 5 = 0 from rfl] at hx188_0)
  (try rw [Addr.add_zero'] at hx188_0)
  (try rw [show ((0 : Int)).toNat = 0 from rfl] at hx188_1)
  (try rw [show 0 * 5 = 0 from rfl] at hx188_1)
  (try rw [Addr.add_zero'] at hx188_1)
  (try rw [show ((0 : Int)).toNat = 0 from rfl] at hx188_2)
  (try rw [show 0 * 5 = 0 from rfl] at hx188_2)
  (try rw [Addr.add_zero'] at hx188_2)
  (try rw [show ((0 : Int)).toNat = 0 from rfl] at hx188_3)
  (try rw [show 0 * 5 = 0 from rfl] at hx188_3)
  (try rw [Addr.add_zero'] at hx188_3)
  (try rw [show ((0 : Int)).toNat = 0 from rfl] at hx188_4)
  (try rw [show 0 * 5 = 0 from rfl] at hx188_4)
  (try rw [Addr.add_zero'] at hx188_4)
  have HR188_4 := Aside0.mk hi188_4
  have HC188_4 := Aside0.mk hl188_4
  clear hi188_4 hl188_4
  replace p188 := eq_true p188
  replace q188 := eq_true q188
  rotate_left
  rw [if_neg c13] at H
  have c13b0 : (((rd_T115 [a0] 0).f0) == 2) = false := beq_eq_false_iff_ne.mpr c13
  have c13b1 : (((rd_T115 [a0] 0).f0) != 2) = true := bne_iff_ne.mpr c13
  obtain rfl := Option.some.inj H
  have p188 : 0 ≤ (0 : Int) := (by omega)
  have q188 : 0 < ([a0].length : Int) := (by simp)
  obtain ⟨ad188, A188_4, c188_4, e188, hx188_0, hx188_1, hx188_2, hx188_3, hx188_4, hl188_4, hi188_4⟩ := at_T115 HR0.out 0 p188 q188
  obtain rfl : adp0 = ad188 := (by injection e188)
  have qi188 : (0 < [a0].length) = True := eq_true (by omega)
  (try rw [show ((0 : Int)).toNat = 0 from rfl] at hx188_0)
  (try rw [show 0 * 5 = 0 from rfl] at hx188_0)
  (try rw [Addr.add_zero'] at hx188_0)
  (try rw [show ((0 : Int)).toNat = 0 from rfl] at hx188_1)
  (try rw [show 0 * 5 = 0 from rfl] at hx188_1)
  (try rw [Addr.add_zero'] at hx188_1)
  (try rw [show ((0 : Int)).toNat = 0 from rfl] at hx188_2)
  (try rw [show 0 * 5 = 0 from rfl] at hx188_2)
  (try rw [Addr.add_zero'] at hx188_2)
  (try rw [show ((0 : Int)).toNat = 0 from rfl] at hx188_3)
  (try rw [show 0 * 5 = 0 from rfl] at hx188_3)
  (try rw [Addr.add_zero'] at hx188_3)
  (try rw [show ((0 : Int)).toNat = 0 from rfl] at hx188_4)
  (try rw [show 0 * 5 = 0 from rfl] at hx188_4)
  (try rw [Addr.add_zero'] at hx188_4)
  have HR188_4 := Aside0.mk hi188_4
  have HC188_4 := Aside0.mk hl188_4
  clear hi188_4 hl188_4
  replace p188 := eq_true p188
  replace q188 := eq_true q188
  rotate_left
  rw [if_neg c12] at H
  have c12b0 : (((rd_T115 [a0] 0).f0) == 6) = false := beq_eq_false_iff_ne.mpr c12
  have c12b1 : (((rd_T115 [a0] 0).f0) != 6) = true := bne_iff_ne.mpr c12
  by_cases c14 : (((rd_T115 [a0] 0).f4).length : Int) = 0
  rw [if_pos c14] at H
  have c14b0 : ((((rd_T115 [a0] 0).f4).length : Int) == 0) = true := beq_iff_eq.mpr c14
  have c14b1 : ((((rd_T115 [a0] 0).f4).length : Int) != 0) = false := bne_eq_false_iff_eq.mpr c14
  clear c14
  by_cases c15 : ((rd_T115 [a0] 0).f0) = 2
  rw [if_pos c15] at H
  have c15b0 : (((rd_T115 [a0] 0).f0) == 2) = true := beq_iff_eq.mpr c15
  have c15b1 : (((rd_T115 [a0] 0).f0) != 2) = false := bne_eq_false_iff_eq.mpr c15
  clear c15
  obtain rfl := Option.some.inj H
  have p188 : 0 ≤ (0 : Int) := (by omega)
  have q188 : 0 < ([a0].length : Int) := (by simp)
  obtain ⟨ad188, A188_4, c188_4, e188, hx188_0, hx188_1, hx188_2, hx188_3, hx188_4, hl188_4, hi188_4⟩ := at_T115 HR0.out 0 p188 q188
  obtain rfl : adp0 = ad188 := (by injection e188)
  have qi188 : (0 < [a0].length) = True := eq_true (by omega)
  (try rw [show ((0 : Int)).toNat = 0 from rfl] at hx188_0)
  (try rw [show 0 * 5 = 0 from rfl] at hx188_0)
  (try rw [Addr.add_zero'] at hx188_0)
  (try rw [show ((0 : Int)).toNat = 0 from rfl] at hx188_1)
  (try rw [show 0 * 5 = 0 from rfl] at hx188_1)
  (try rw [Addr.add_zero'] at hx188_1)
  (try rw [show ((0 : Int)).toNat = 0 from rfl] at hx188_2)
  (try rw [show 0 * 5 = 0 from rfl] at hx188_2)
  (try rw [Addr.add_zero'] at hx188_2)
  (try rw [show ((0 : Int)).toNat = 0 from rfl] at hx188_3)
  (try rw [show 0 * 5 = 0 from rfl] at hx188_3)
  (try rw [Addr.add_zero'] at hx188_3)
  (try rw [show ((0 : Int)).toNat = 0 from rfl] at hx188_4)
  (try rw [show 0 * 5 = 0 from rfl] at hx188_4)
  (try rw [Addr.add_zero'] at hx188_4)
  have HR188_4 := Aside0.mk hi188_4
  have HC188_4 := Aside0.mk hl188_4
  clear hi188_4 hl188_4
  replace p188 := eq_true p188
  replace q188 := eq_true q188
  rotate_left
  rw [if_neg c15] at H
  have c15b0 : (((rd_T115 [a0] 0).f0) == 2) = false := beq_eq_false_iff_ne.mpr c15
  have c15b1 : (((rd_T115 [a0] 0).f0) != 2) = true := bne_iff_ne.mpr c15
  obtain rfl := Option.some.inj H
  have p188 : 0 ≤ (0 : Int) := (by omega)
  have q188 : 0 < ([a0].length : Int) := (by simp)
  obtain ⟨ad188, A188_4, c188_4, e188, hx188_0, hx188_1, hx188_2, hx188_3, hx188_4, hl188_4, hi188_4⟩ := at_T115 HR0.out 0 p188 q188
  obtain rfl : adp0 = ad188 := (by injection e188)
  have qi188 : (0 < [a0].length) = True := eq_true (by omega)
  (try rw [show ((0 : Int)).toNat = 0 from rfl] at hx188_0)
  (try rw [show 0 * 5 = 0 from rfl] at hx188_0)
  (try rw [Addr.add_zero'] at hx188_0)
  (try rw [show ((0 : Int)).toNat = 0 from rfl] at hx188_1)
  (try rw [show 0 * 5 = 0 from rfl] at hx188_1)
  (try rw [Addr.add_zero'] at hx188_1)
  (try rw [show ((0 : Int)).toNat = 0 from rfl] at hx188_2)
  (try rw [show 0 * 5 = 0 from rfl] at hx188_2)
  (try rw [Addr.add_zero'] at hx188_2)
  (try rw [show ((0 : Int)).toNat = 0 from rfl] at hx188_3)
  (try rw [show 0 * 5 = 0 from rfl] at hx188_3)
  (try rw [Addr.add_zero'] at hx188_3)
  (try rw [show ((0 : Int)).toNat = 0 from rfl] at hx188_4)
  (try rw [show 0 * 5 = 0 from rfl] at hx188_4)
  (try rw [Addr.add_zero'] at hx188_4)
  have HR188_4 := Aside0.mk hi188_4
  have HC188_4 := Aside0.mk hl188_4
  clear hi188_4 hl188_4
  replace p188 := eq_true p188
  replace q188 := eq_true q188
  rotate_left
  rw [if_neg c14] at H
  have c14b0 : ((((rd_T115 [a0] 0).f4).length : Int) == 0) = false := beq_eq_false_iff_ne.mpr c14
  have c14b1 : ((((rd_T115 [a0] 0).f4).length : Int) != 0) = true := bne_iff_ne.mpr c14
  have c14b2 : ¬ (((rd_T115 [a0] 0).f4) = []) := fun h_ => c14 (by rw [h_]; rfl)
  obtain rfl := Option.some.inj H
  have p188 : 0 ≤ (0 : Int) := (by omega)
  have q188 : 0 < ([a0].length : Int) := (by simp)
  obtain ⟨ad188, A188_4, c188_4, e188, hx188_0, hx188_1, hx188_2, hx188_3, hx188_4, hl188_4, hi188_4⟩ := at_T115 HR0.out 0 p188 q188
  obtain rfl : adp0 = ad188 := (by injection e188)
  have qi188 : (0 < [a0].length) = True := eq_true (by omega)
  (try rw [show ((0 : Int)).toNat = 0 from rfl] at hx188_0)
  (try rw [show 0 * 5 = 0 from rfl] at hx188_0)
  (try rw [Addr.add_zero'] at hx188_0)
  (try rw [show ((0 : Int)).toNat = 0 from rfl] at hx188_1)
  (try rw [show 0 * 5 = 0 from rfl] at hx188_1)
  (try rw [Addr.add_zero'] at hx188_1)
  (try rw [show ((0 : Int)).toNat = 0 from rfl] at hx188_2)
  (try rw [show 0 * 5 = 0 from rfl] at hx188_2)
  (try rw [Addr.add_zero'] at hx188_2)
  (try rw [show ((0 : Int)).toNat = 0 from rfl] at hx188_3)
  (try rw [show 0 * 5 = 0 from rfl] at hx188_3)
  (try rw [Addr.add_zero'] at hx188_3)
  (try rw [show ((0 : Int)).toNat = 0 from rfl] at hx188_4)
  (try rw [show 0 * 5 = 0 from rfl] at hx188_4)
  (try rw [Addr.add_zero'] at hx188_4)
  have HR188_4 := Aside0.mk hi188_4
  have HC188_4 := Aside0.mk hl188_4
  clear hi188_4 hl188_4
  replace p188 := eq_true p188
  replace q188 := eq_true q188
  rotate_left
  rw [if_neg c11] at H
  have c11b0 : (((rd_T115 [a0] 0).f0) == 3) = false := beq_eq_false_iff_ne.mpr c11
  have c11b1 : (((rd_T115 [a0] 0).f0) != 3) = true := bne_iff_ne.mpr c11
  by_cases c16 : ((rd_T115 [a0] 0).f2).toList = ([] : List UInt8)
  rw [if_pos c16] at H
  have c16b0 : (((rd_T115 [a0] 0).f2).toList == ([] : List UInt8)) = true := beq_iff_eq.mpr c16
  have c16b1 : (((rd_T115 [a0] 0).f2).toList != ([] : List UInt8)) = false := bne_eq_false_iff_eq.mpr c16
  clear c16
  by_cases c17 : ((rd_T115 [a0] 0).f0) = 6
  rw [if_pos c17] at H
  have c17b0 : (((rd_T115 [a0] 0).f0) == 6) = true := beq_iff_eq.mpr c17
  have c17b1 : (((rd_T115 [a0] 0).f0) != 6) = false := bne_eq_false_iff_eq.mpr c17
  clear c17
  by_cases c18 : ((rd_T115 [a0] 0).f0) = 2
  rw [if_pos c18] at H
  have c18b0 : (((rd_T115 [a0] 0).f0) == 2) = true := beq_iff_eq.mpr c18
  have c18b1 : (((rd_T115 [a0] 0).f0) != 2) = false := bne_eq_false_iff_eq.mpr c18
  clear c18
  obtain rfl := Option.some.inj H
  have p188 : 0 ≤ (0 : Int) := (by omega)
  have q188 : 0 < ([a0].length : Int) := (by simp)
  obtain ⟨ad188, A188_4, c188_4, e188, hx188_0, hx188_1, hx188_2, hx188_3, hx188_4, hl188_4, hi188_4⟩ := at_T115 HR0.out 0 p188 q188
  obtain rfl : adp0 = ad188 := (by injection e188)
  have qi188 : (0 < [a0].length) = True := eq_true (by omega)
  (try rw [show ((0 : Int)).toNat = 0 from rfl] at hx188_0)
  (try rw [show 0 * 5 = 0 from rfl] at hx188_0)
  (try rw [Addr.add_zero'] at hx188_0)
  (try rw [show ((0 : Int)).toNat = 0 from rfl] at hx188_1)
  (try rw [show 0 * 5 = 0 from rfl] at hx188_1)
  (try rw [Addr.add_zero'] at hx188_1)
  (try rw [show ((0 : Int)).toNat = 0 from rfl] at hx188_2)
  (try rw [show 0 * 5 = 0 from rfl] at hx188_2)
  (try rw [Addr.add_zero'] at hx188_2)
  (try rw [show ((0 : Int)).toNat = 0 from rfl] at hx188_3)
  (try rw [show 0 * 5 = 0 from rfl] at hx188_3)
  (try rw [Addr.add_zero'] at hx188_3)
  (try rw [show ((0 : Int)).toNat = 0 from rfl] at hx188_4)
  (try rw [show 0 * 5 = 0 from rfl] at hx188_4)
  (try rw [Addr.add_zero'] at hx188_4)
  have HR188_4 := Aside0.mk hi188_4
  have HC188_4 := Aside0.mk hl188_4
  clear hi188_4 hl188_4
  replace p188 := eq_true p188
  replace q188 := eq_true q188
  rotate_left
  rw [if_neg c18] at H
  have c18b0 : (((rd_T115 [a0] 0).f0) == 2) = false := beq_eq_false_iff_ne.mpr c18
  have c18b1 : (((rd_T115 [a0] 0).f0) != 2) = true := bne_iff_ne.mpr c18
  obtain rfl := Option.some.inj H
  have p188 : 0 ≤ (0 : Int) := (by omega)
  have q188 : 0 < ([a0].length : Int) := (by simp)
  obtain ⟨ad188, A188_4, c188_4, e188, hx188_0, hx188_1, hx188_2, hx188_3, hx188_4, hl188_4, hi188_4⟩ := at_T115 HR0.out 0 p188 q188
  obtain rfl : adp0 = ad188 := (by injection e188)
  have qi188 : (0 < [a0].length) = True := eq_true (by omega)
  (try rw [show ((0 : Int)).toNat = 0 from rfl] at hx188_0)
  (try rw [show 0 * 5 = 0 from rfl] at hx188_0)
  (try rw [Addr.add_zero'] at hx188_0)
  (try rw [show ((0 : Int)).toNat = 0 from rfl] at hx188_1)
  (try rw [show 0 * 5 = 0 from rfl] at hx188_1)
  (try rw [Addr.add_zero'] at hx188_1)
  (try rw [show ((0 : Int)).toNat = 0 from rfl] at hx188_2)
  (try rw [show 0 * 5 = 0 from rfl] at hx188_2)
  (try rw [Addr.add_zero'] at hx188_2)
  (try rw [show ((0 : Int)).toNat = 0 from rfl] at hx188_3)
  (try rw [show 0 * 5 = 0 from rfl] at hx188_3)
  (try rw [Addr.add_zero'] at hx188_3)
  (try rw [show ((0 : Int)).toNat = 0 from rfl] at hx188_4)
  (try rw [show 0 * 5 = 0 from rfl] at hx188_4)
  (try rw [Addr.add_zero'] at hx188_4)
  have HR188_4 := Aside0.mk hi188_4
  have HC188_4 := Aside0.mk hl188_4
  clear hi188_4 hl188_4
  replace p188 := eq_true p188
  replace q188 := eq_true q188
  rotate_left
  rw [if_neg c17] at H
  have c17b0 : (((rd_T115 [a0] 0).f0) == 6) = false := beq_eq_false_iff_ne.mpr c17
  have c17b1 : (((rd_T115 [a0] 0).f0) != 6) = true := bne_iff_ne.mpr c17
  by_cases c19 : (((rd_T115 [a0] 0).f4).length : Int) = 0
  rw [if_pos c19] at H
  have c19b0 : ((((rd_T115 [a0] 0).f4).length : Int) == 0) = true := beq_iff_eq.mpr c19
  have c19b1 : ((((rd_T115 [a0] 0).f4).length : Int) != 0) = false := bne_eq_false_iff_eq.mpr c19
  clear c19
  by_cases c20 : ((rd_T115 [a0] 0).f0) = 2
  rw [if_pos c20] at H
  have c20b0 : (((rd_T115 [a0] 0).f0) == 2) = true := beq_iff_eq.mpr c20
  have c20b1 : (((rd_T115 [a0] 0).f0) != 2) = false := bne_eq_false_iff_eq.mpr c20
  clear c20
  obtain rfl := Option.some.inj H
  have p188 : 0 ≤ (0 : Int) := (by omega)
  have q188 : 0 < ([a0].length : Int) := (by simp)
  obtain ⟨ad188, A188_4, c188_4, e188, hx188_0, hx188_1, hx188_2, hx188_3, hx188_4, hl188_4, hi188_4⟩ := at_T115 HR0.out 0 p188 q188
  obtain rfl : adp0 = ad188 := (by injection e188)
  have qi188 : (0 < [a0].length) = True := eq_true (by omega)
  (try rw [show ((0 : Int)).toNat = 0 from rfl] at hx188_0)
  (try rw [show 0 * 5 = 0 from rfl] at hx188_0)
  (try rw [Addr.add_zero'] at hx188_0)
  (try rw [show ((0 : Int)).toNat = 0 from rfl] at hx188_1)
  (try rw [show 0 * 5 = 0 from rfl] at hx188_1)
  (try rw [Addr.add_zero'] at hx188_1)
  (try rw [show ((0 : Int)).toNat = 0 from rfl] at hx188_2)
  (try rw [show 0 * 5 = 0 from rfl] at hx188_2)
  (try rw [Addr.add_zero'] at hx188_2)
  (try rw [show ((0 : Int)).toNat = 0 from rfl] at hx188_3)
  (try rw [show 0 * 5 = 0 from rfl] at hx188_3)
  (try rw [Addr.add_zero'] at hx188_3)
  (try rw [show ((0 : Int)).toNat = 0 from rfl] at hx188_4)
  (try rw [show 0 * 5 = 0 from rfl] at hx188_4)
  (try rw [Addr.add_zero'] at hx188_4)
  have HR188_4 := Aside0.mk hi188_4
  have HC188_4 := Aside0.mk hl188_4
  clear hi188_4 hl188_4
  replace p188 := eq_true p188
  replace q188 := eq_true q188
  rotate_left
  rw [if_neg c20] at H
  have c20b0 : (((rd_T115 [a0] 0).f0) == 2) = false := beq_eq_false_iff_ne.mpr c20
  have c20b1 : (((rd_T115 [a0] 0).f0) != 2) = true := bne_iff_ne.mpr c20
  obtain rfl := Option.some.inj H
  have p188 : 0 ≤ (0 : Int) := (by omega)
  have q188 : 0 < ([a0].length : Int) := (by simp)
  obtain ⟨ad188, A188_4, c188_4, e188, hx188_0, hx188_1, hx188_2, hx188_3, hx188_4, hl188_4, hi188_4⟩ := at_T115 HR0.out 0 p188 q188
  obtain rfl : adp0 = ad188 := (by injection e188)
  have qi188 : (0 < [a0].length) = True := eq_true (by omega)
  (try rw [show ((0 : Int)).toNat = 0 from rfl] at hx188_0)
  (try rw [show 0 * 5 = 0 from rfl] at hx188_0)
  (try rw [Addr.add_zero'] at hx188_0)
  (try rw [show ((0 : Int)).toNat = 0 from rfl] at hx188_1)
  (try rw [show 0 * 5 = 0 from rfl] at hx188_1)
  (try rw [Addr.add_zero'] at hx188_1)
  (try rw [show ((0 : Int)).toNat = 0 from rfl] at hx188_2)
  (try rw [show 0 * 5 = 0 from rfl] at hx188_2)
  (try rw [Addr.add_zero'] at hx188_2)
  (try rw [show ((0 : Int)).toNat = 0 from rfl] at hx188_3)
  (try rw [show 0 * 5 = 0 from rfl] at hx188_3)
  (try rw [Addr.add_zero'] at hx188_3)
  (try rw [show ((0 : Int)).toNat = 0 from rfl] at hx188_4)
  (try rw [show 0 * 5 = 0 from rfl] at hx188_4)
  (try rw [Addr.add_zero'] at hx188_4)
  have HR188_4 := Aside0.mk hi188_4
  have HC188_4 := Aside0.mk hl188_4
  clear hi188_4 hl188_4
  replace p188 := eq_true p188
  replace q188 := eq_true q188
  rotate_left
  rw [if_neg c19] at H
  have c19b0 : ((((rd_T115 [a0] 0).f4).length : Int) == 0) = false := beq_eq_false_iff_ne.mpr c19
  have c19b1 : ((((rd_T115 [a0] 0).f4).length : Int) != 0) = true := bne_iff_ne.mpr c19
  have c19b2 : ¬ (((rd_T115 [a0] 0).f4) = []) := fun h_ => c19 (by rw [h_]; rfl)
  obtain rfl := Option.some.inj H
  have p188 : 0 ≤ (0 : Int) := (by omega)
  have q188 : 0 < ([a0].length : Int) := (by simp)
  obtain ⟨ad188, A188_4, c188_4, e188, hx188_0, hx188_1, hx188_2, hx188_3, hx188_4, hl188_4, hi188_4⟩ := at_T115 HR0.out 0 p188 q188
  obtain rfl : adp0 = ad188 := (by injection e188)
  have qi188 : (0 < [a0].length) = True := eq_true (by omega)
  (try rw [show ((0 : Int)).toNat = 0 from rfl] at hx188_0)
  (try rw [show 0 * 5 = 0 from rfl] at hx188_0)
  (try rw [Addr.add_zero'] at hx188_0)
  (try rw [show ((0 : Int)).toNat = 0 from rfl] at hx188_1)
  (try rw [show 0 * 5 = 0 from rfl] at hx188_1)
  (try rw [Addr.add_zero'] at hx188_1)
  (try rw [show ((0 : Int)).toNat = 0 from rfl] at hx188_2)
  (try rw [show 0 * 5 = 0 from rfl] at hx188_2)
  (try rw [Addr.add_zero'] at hx188_2)
  (try rw [show ((0 : Int)).toNat = 0 from rfl] at hx188_3)
  (try rw [show 0 * 5 = 0 from rfl] at hx188_3)
  (try rw [Addr.add_zero'] at hx188_3)
  (try rw [show ((0 : Int)).toNat = 0 from rfl] at hx188_4)
  (try rw [show 0 * 5 = 0 from rfl] at hx188_4)
  (try rw [Addr.add_zero'] at hx188_4)
  have HR188_4 := Aside0.mk hi188_4
  have HC188_4 := Aside0.mk hl188_4
  clear hi188_4 hl188_4
  replace p188 := eq_true p188
  replace q188 := eq_true q188
  rotate_left
  rw [if_neg c16] at H
  have c16b0 : (((rd_T115 [a0] 0).f2).toList == ([] : List UInt8)) = false := beq_eq_false_iff_ne.mpr c16
  have c16b1 : (((rd_T115 [a0] 0).f2).toList != ([] : List UInt8)) = true := bne_iff_ne.mpr c16
  obtain rfl := Option.some.inj H
  have p188 : 0 ≤ (0 : Int) := (by omega)
  have q188 : 0 < ([a0].length : Int) := (by simp)
  obtain ⟨ad188, A188_4, c188_4, e188, hx188_0, hx188_1, hx188_2, hx188_3, hx188_4, hl188_4, hi188_4⟩ := at_T115 HR0.out 0 p188 q188
  obtain rfl : adp0 = ad188 := (by injection e188)
  have qi188 : (0 < [a0].length) = True := eq_true (by omega)
  (try rw [show ((0 : Int)).toNat = 0 from rfl] at hx188_0)
  (try rw [show 0 * 5 = 0 from rfl] at hx188_0)
  (try rw [Addr.add_zero'] at hx188_0)
  (try rw [show ((0 : Int)).toNat = 0 from rfl] at hx188_1)
  (try rw [show 0 * 5 = 0 from rfl] at hx188_1)
  (try rw [Addr.add_zero'] at hx188_1)
  (try rw [show ((0 : Int)).toNat = 0 from rfl] at hx188_2)
  (try rw [show 0 * 5 = 0 from rfl] at hx188_2)
  (try rw [Addr.add_zero'] at hx188_2)
  (try rw [show ((0 : Int)).toNat = 0 from rfl] at hx188_3)
  (try rw [show 0 * 5 = 0 from rfl] at hx188_3)
  (try rw [Addr.add_zero'] at hx188_3)
  (try rw [show ((0 : Int)).toNat = 0 from rfl] at hx188_4)
  (try rw [show 0 * 5 = 0 from rfl] at hx188_4)
  (try rw [Addr.add_zero'] at hx188_4)
  have HR188_4 := Aside0.mk hi188_4
  have HC188_4 := Aside0.mk hl188_4
  clear hi188_4 hl188_4
  replace p188 := eq_true p188
  replace q188 := eq_true q188
  rotate_left
  replace c3 := Bool.eq_false_iff.mpr c3
  subst c3
  have H1 : (if ((rd_T115 [a0] 0).f0) = 1 then (if ((rd_T115 [a0] 0).f0) = 3 then (if ((rd_T115 [a0] 0).f0) = 11 then (if ((rd_T115 [a0] 0).f0) = 6 then (some (((rd_T115 [a0] 0).f1) == 0)) else (if (((rd_T115 [a0] 0).f4).length : Int) = 0 then (some (((rd_T115 [a0] 0).f1) == 0)) else (some false))) else (if ((rd_T115 [a0] 0).f3) = 0 then (if ((rd_T115 [a0] 0).f0) = 6 then (some (((rd_T115 [a0] 0).f1) == 0)) else (if (((rd_T115 [a0] 0).f4).length : Int) = 0 then (some (((rd_T115 [a0] 0).f1) == 0)) else (some false))) else (some false))) else (if ((rd_T115 [a0] 0).f2).toList = ([] : List UInt8) then (if ((rd_T115 [a0] 0).f0) = 11 then (if ((rd_T115 [a0] 0).f0) = 6 then (some (((rd_T115 [a0] 0).f1) == 0)) else (if (((rd_T115 [a0] 0).f4).length : Int) = 0 then (some (((rd_T115 [a0] 0).f1) == 0)) else (some false))) else (if ((rd_T115 [a0] 0).f3) = 0 then (if ((rd_T115 [a0] 0).f0) = 6 then (some (((rd_T115 [a0] 0).f1) == 0)) else (if (((rd_T115 [a0] 0).f4).length : Int) = 0 then (some (((rd_T115 [a0] 0).f1) == 0)) else (some false))) else (some false))) else (some false))) else (if ((rd_T115 [a0] 0).f0) = 3 then (if ((rd_T115 [a0] 0).f0) = 11 then (if ((rd_T115 [a0] 0).f0) = 6 then (if ((rd_T115 [a0] 0).f0) = 2 then (some (((rd_T115 [a0] 0).f1) == 0)) else (some true)) else (if (((rd_T115 [a0] 0).f4).length : Int) = 0 then (if ((rd_T115 [a0] 0).f0) = 2 then (some (((rd_T115 [a0] 0).f1) == 0)) else (some true)) else (some false))) else (if ((rd_T115 [a0] 0).f3) = 0 then (if ((rd_T115 [a0] 0).f0) = 6 then (if ((rd_T115 [a0] 0).f0) = 2 then (some (((rd_T115 [a0] 0).f1) == 0)) else (some true)) else (if (((rd_T115 [a0] 0).f4).length : Int) = 0 then (if ((rd_T115 [a0] 0).f0) = 2 then (some (((rd_T115 [a0] 0).f1) == 0)) else (some true)) else (some false))) else (some false))) else (if ((rd_T115 [a0] 0).f2).toList = ([] : List UInt8) then (if ((rd_T115 [a0] 0).f0) = 11 then (if ((rd_T115 [a0] 0).f0) = 6 then (if ((rd_T115 [a0] 0).f0) = 2 then (some (((rd_T115 [a0] 0).f1) == 0)) else (some true)) else (if (((rd_T115 [a0] 0).f4).length : Int) = 0 then (if ((rd_T115 [a0] 0).f0) = 2 then (some (((rd_T115 [a0] 0).f1) == 0)) else (some true)) else (some false))) else (if ((rd_T115 [a0] 0).f3) = 0 then (if ((rd_T115 [a0] 0).f0) = 6 then (if ((rd_T115 [a0] 0).f0) = 2 then (some (((rd_T115 [a0] 0).f1) == 0)) else (some true)) else (if (((rd_T115 [a0] 0).f4).length : Int) = 0 then (if ((rd_T115 [a0] 0).f0) = 2 then (some (((rd_T115 [a0] 0).f1) == 0)) else (some true)) else (some false))) else (some false))) else (some false)))) = some r := by rw [if_neg (show ¬ (false = true) by decide)] at H; exact H
  clear H
  have H := H1
  clear H1
  by_cases c21 : ((rd_T115 [a0] 0).f0) = 1
  rw [if_pos c21] at H
  have c21b0 : (((rd_T115 [a0] 0).f0) == 1) = true := beq_iff_eq.mpr c21
  have c21b1 : (((rd_T115 [a0] 0).f0) != 1) = false := bne_eq_false_iff_eq.mpr c21
  clear c21
  by_cases c22 : ((rd_T115 [a0] 0).f0) = 3
  rw [if_pos c22] at H
  have c22b0 : (((rd_T115 [a0] 0).f0) == 3) = true := beq_iff_eq.mpr c22
  have c22b1 : (((rd_T115 [a0] 0).f0) != 3) = false := bne_eq_false_iff_eq.mpr c22
  clear c22
  by_cases c23 : ((rd_T115 [a0] 0).f0) = 11
  rw [if_pos c23] at H
  have c23b0 : (((rd_T115 [a0] 0).f0) == 11) = true := beq_iff_eq.mpr c23
  have c23b1 : (((rd_T115 [a0] 0).f0) != 11) = false := bne_eq_false_iff_eq.mpr c23
  clear c23
  by_cases c24 : ((rd_T115 [a0] 0).f0) = 6
  rw [if_pos c24] at H
  have c24b0 : (((rd_T115 [a0] 0).f0) == 6) = true := beq_iff_eq.mpr c24
  have c24b1 : (((rd_T115 [a0] 0).f0) != 6) = false := bne_eq_false_iff_eq.mpr c24
  clear c24
  obtain rfl := Option.some.inj H
  have p188 : 0 ≤ (0 : Int) := (by omega)
  have q188 : 0 < ([a0].length : Int) := (by simp)
  obtain ⟨ad188, A188_4, c188_4, e188, hx188_0, hx188_1, hx188_2, hx188_3, hx188_4, hl188_4, hi188_4⟩ := at_T115 HR0.out 0 p188 q188
  obtain rfl : adp0 = ad188 := (by injection e188)
  have qi188 : (0 < [a0].length) = True := eq_true (by omega)
  (try rw [show ((0 : Int)).toNat = 0 from rfl] at hx188_0)
  (try rw [show 0 * 5 = 0 from rfl] at hx188_0)
  (try rw [Addr.add_zero'] at hx188_0)
  (try rw [show ((0 : Int)).toNat = 0 from rfl] at hx188_1)
  (try rw [show 0 * 5 = 0 from rfl] at hx188_1)
  (try rw [Addr.add_zero'] at hx188_1)
  (try rw [show ((0 : Int)).toNat = 0 from rfl] at hx188_2)
  (try rw [show 0 * 5 = 0 from rfl] at hx188_2)
  (try rw [Addr.add_zero'] at hx188_2)
  (try rw [show ((0 : Int)).toNat = 0 from rfl] at hx188_3)
  (try rw [show 0 * 5 = 0 from rfl] at hx188_3)
  (try rw [Addr.add_zero'] at hx188_3)
  (try rw [show ((0 : Int)).toNat = 0 from rfl] at hx188_4)
  (try rw [show 0 * 5 = 0 from rfl] at hx188_4)
  (try rw [Addr.add_zero'] at hx188_4)
  have HR188_4 := Aside0.mk hi188_4
  have HC188_4 := Aside0.mk hl188_4
  clear hi188_4 hl188_4
  replace p188 := eq_true p188
  replace q188 := eq_true q188
  rotate_left
  rw [if_neg c24] at H
  have c24b0 : (((rd_T115 [a0] 0).f0) == 6) = false := beq_eq_false_iff_ne.mpr c24
  have c24b1 : (((rd_T115 [a0] 0).f0) != 6) = true := bne_iff_ne.mpr c24
  by_cases c25 : (((rd_T115 [a0] 0).f4).length : Int) = 0
  rw [if_pos c25] at H
  have c25b0 : ((((rd_T115 [a0] 0).f4).length : Int) == 0) = true := beq_iff_eq.mpr c25
  have c25b1 : ((((rd_T115 [a0] 0).f4).length : Int) != 0) = false := bne_eq_false_iff_eq.mpr c25
  clear c25
  obtain rfl := Option.some.inj H
  have p188 : 0 ≤ (0 : Int) := (by omega)
  have q188 : 0 < ([a0].length : Int) := (by simp)
  obtain ⟨ad188, A188_4, c188_4, e188, hx188_0, hx188_1, hx188_2, hx188_3, hx188_4, hl188_4, hi188_4⟩ := at_T115 HR0.out 0 p188 q188
  obtain rfl : adp0 = ad188 := (by injection e188)
  have qi188 : (0 < [a0].length) = True := eq_true (by omega)
  (try rw [show ((0 : Int)).toNat = 0 from rfl] at hx188_0)
  (try rw [show 0 * 5 = 0 from rfl] at hx188_0)
  (try rw [Addr.add_zero'] at hx188_0)
  (try rw [show ((0 : Int)).toNat = 0 from rfl] at hx188_1)
  (try rw [show 0 * 5 = 0 from rfl] at hx188_1)
  (try rw [Addr.add_zero'] at hx188_1)
  (try rw [show ((0 : Int)).toNat = 0 from rfl] at hx188_2)
  (try rw [show 0 * 5 = 0 from rfl] at hx188_2)
  (try rw [Addr.add_zero'] at hx188_2)
  (try rw [show ((0 : Int)).toNat = 0 from rfl] at hx188_3)
  (try rw [show 0 * 5 = 0 from rfl] at hx188_3)
  (try rw [Addr.add_zero'] at hx188_3)
  (try rw [show ((0 : Int)).toNat = 0 from rfl] at hx188_4)
  (try rw [show 0 * 5 = 0 from rfl] at hx188_4)
  (try rw [Addr.add_zero'] at hx188_4)
  have HR188_4 := Aside0.mk hi188_4
  have HC188_4 := Aside0.mk hl188_4
  clear hi188_4 hl188_4
  replace p188 := eq_true p188
  replace q188 := eq_true q188
  rotate_left
  rw [if_neg c25] at H
  have c25b0 : ((((rd_T115 [a0] 0).f4).length : Int) == 0) = false := beq_eq_false_iff_ne.mpr c25
  have c25b1 : ((((rd_T115 [a0] 0).f4).length : Int) != 0) = true := bne_iff_ne.mpr c25
  have c25b2 : ¬ (((rd_T115 [a0] 0).f4) = []) := fun h_ => c25 (by rw [h_]; rfl)
  obtain rfl := Option.some.inj H
  have p188 : 0 ≤ (0 : Int) := (by omega)
  have q188 : 0 < ([a0].length : Int) := (by simp)
  obtain ⟨ad188, A188_4, c188_4, e188, hx188_0, hx188_1, hx188_2, hx188_3, hx188_4, hl188_4, hi188_4⟩ := at_T115 HR0.out 0 p188 q188
  obtain rfl : adp0 = ad188 := (by injection e188)
  have qi188 : (0 < [a0].length) = True := eq_true (by omega)
  (try rw [show ((0 : Int)).toNat = 0 from rfl] at hx188_0)
  (try rw [show 0 * 5 = 0 from rfl] at hx188_0)
  (try rw [Addr.add_zero'] at hx188_0)
  (try rw [show ((0 : Int)).toNat = 0 from rfl] at hx188_1)
  (try rw [show 0 * 5 = 0 from rfl] at hx188_1)
  (try rw [Addr.add_zero'] at hx188_1)
  (try rw [show ((0 : Int)).toNat = 0 from rfl] at hx188_2)
  (try rw [show 0 * 5 = 0 from rfl] at hx188_2)
  (try rw [Addr.add_zero'] at hx188_2)
  (try rw [show ((0 : Int)).toNat = 0 from rfl] at hx188_3)
  (try rw [show 0 * 5 = 0 from rfl] at hx188_3)
  (try rw [Addr.add_zero'] at hx188_3)
  (try rw [show ((0 : Int)).toNat = 0 from rfl] at hx188_4)
  (try rw [show 0 * 5 = 0 from rfl] at hx188_4)
  (try rw [Addr.add_zero'] at hx188_4)
  have HR188_4 := Aside0.mk hi188_4
  have HC188_4 := Aside0.mk hl188_4
  clear hi188_4 hl188_4
  replace p188 := eq_true p188
  replace q188 := eq_true q188
  rotate_left
  rw [if_neg c23] at H
  have c23b0 : (((rd_T115 [a0] 0).f0) == 11) = false := beq_eq_false_iff_ne.mpr c23
  have c23b1 : (((rd_T115 [a0] 0).f0) != 11) = true := bne_iff_ne.mpr c23
  by_cases c26 : ((rd_T115 [a0] 0).f3) = 0
  rw [if_pos c26] at H
  have c26b0 : (((rd_T115 [a0] 0).f3) == 0) = true := beq_iff_eq.mpr c26
  have c26b1 : (((rd_T115 [a0] 0).f3) != 0) = false := bne_eq_false_iff_eq.mpr c26
  clear c26
  by_cases c27 : ((rd_T115 [a0] 0).f0) = 6
  rw [if_pos c27] at H
  have c27b0 : (((rd_T115 [a0] 0).f0) == 6) = true := beq_iff_eq.mpr c27
  have c27b1 : (((rd_T115 [a0] 0).f0) != 6) = false := bne_eq_false_iff_eq.mpr c27
  clear c27
  obtain rfl := Option.some.inj H
  have p188 : 0 ≤ (0 : Int) := (by omega)
  have q188 : 0 < ([a0].length : Int) := (by simp)
  obtain ⟨ad188, A188_4, c188_4, e188, hx188_0, hx188_1, hx188_2, hx188_3, hx188_4, hl188_4, hi188_4⟩ := at_T115 HR0.out 0 p188 q188
  obtain rfl : adp0 = ad188 := (by injection e188)
  have qi188 : (0 < [a0].length) = True := eq_true (by omega)
  (try rw [show ((0 : Int)).toNat = 0 from rfl] at hx188_0)
  (try rw [show 0 * 5 = 0 from rfl] at hx188_0)
  (try rw [Addr.add_zero'] at hx188_0)
  (try rw [show ((0 : Int)).toNat = 0 from rfl] at hx188_1)
  (try rw [show 0 * 5 = 0 from rfl] at hx188_1)
  (try rw [Addr.add_zero'] at hx188_1)
  (try rw [show ((0 : Int)).toNat = 0 from rfl] at hx188_2)
  (try rw [show 0 * 5 = 0 from rfl] at hx188_2)
  (try rw [Addr.add_zero'] at hx188_2)
  (try rw [show ((0 : Int)).toNat = 0 from rfl] at hx188_3)
  (try rw [show 0 * 5 = 0 from rfl] at hx188_3)
  (try rw [Addr.add_zero'] at hx188_3)
  (try rw [show ((0 : Int)).toNat = 0 from rfl] at hx188_4)
  (try rw [show 0 * 5 = 0 from rfl] at hx188_4)
  (try rw [Addr.add_zero'] at hx188_4)
  have HR188_4 := Aside0.mk hi188_4
  have HC188_4 := Aside0.mk hl188_4
  clear hi188_4 hl188_4
  replace p188 := eq_true p188
  replace q188 := eq_true q188
  rotate_left
  rw [if_neg c27] at H
  have c27b0 : (((rd_T115 [a0] 0).f0) == 6) = false := beq_eq_false_iff_ne.mpr c27
  have c27b1 : (((rd_T115 [a0] 0).f0) != 6) = true := bne_iff_ne.mpr c27
  by_cases c28 : (((rd_T115 [a0] 0).f4).length : Int) = 0
  rw [if_pos c28] at H
  have c28b0 : ((((rd_T115 [a0] 0).f4).length : Int) == 0) = true := beq_iff_eq.mpr c28
  have c28b1 : ((((rd_T115 [a0] 0).f4).length : Int) != 0) = false := bne_eq_false_iff_eq.mpr c28
  clear c28
  obtain rfl := Option.some.inj H
  have p188 : 0 ≤ (0 : Int) := (by omega)
  have q188 : 0 < ([a0].length : Int) := (by simp)
  obtain ⟨ad188, A188_4, c188_4, e188, hx188_0, hx188_1, hx188_2, hx188_3, hx188_4, hl188_4, hi188_4⟩ := at_T115 HR0.out 0 p188 q188
  obtain rfl : adp0 = ad188 := (by injection e188)
  have qi188 : (0 < [a0].length) = True := eq_true (by omega)
  (try rw [show ((0 : Int)).toNat = 0 from rfl] at hx188_0)
  (try rw [show 0 * 5 = 0 from rfl] at hx188_0)
  (try rw [Addr.add_zero'] at hx188_0)
  (try rw [show ((0 : Int)).toNat = 0 from rfl] at hx188_1)
  (try rw [show 0 * 5 = 0 from rfl] at hx188_1)
  (try rw [Addr.add_zero'] at hx188_1)
  (try rw [show ((0 : Int)).toNat = 0 from rfl] at hx188_2)
  (try rw [show 0 * 5 = 0 from rfl] at hx188_2)
  (try rw [Addr.add_zero'] at hx188_2)
  (try rw [show ((0 : Int)).toNat = 0 from rfl] at hx188_3)
  (try rw [show 0 * 5 = 0 from rfl] at hx188_3)
  (try rw [Addr.add_zero'] at hx188_3)
  (try rw [show ((0 : Int)).toNat = 0 from rfl] at hx188_4)
  (try rw [show 0 * 5 = 0 from rfl] at hx188_4)
  (try rw [Addr.add_zero'] at hx188_4)
  have HR188_4 := Aside0.mk hi188_4
  have HC188_4 := Aside0.mk hl188_4
  clear hi188_4 hl188_4
  replace p188 := eq_true p188
  replace q188 := eq_true q188
  rotate_left
  rw [if_neg c28] at H
  have c28b0 : ((((rd_T115 [a0] 0).f4).length : Int) == 0) = false := beq_eq_false_iff_ne.mpr c28
  have c28b1 : ((((rd_T115 [a0] 0).f4).length : Int) != 0) = true := bne_iff_ne.mpr c28
  have c28b2 : ¬ (((rd_T115 [a0] 0).f4) = []) := fun h_ => c28 (by rw [h_]; rfl)
  obtain rfl := Option.some.inj H
  have p188 : 0 ≤ (0 : Int) := (by omega)
  have q188 : 0 < ([a0].length : Int) := (by simp)
  obtain ⟨ad188, A188_4, c188_4, e188, hx188_0, hx188_1, hx188_2, hx188_3, hx188_4, hl188_4, hi188_4⟩ := at_T115 HR0.out 0 p188 q188
  obtain rfl : adp0 = ad188 := (by injection e188)
  have qi188 : (0 < [a0].length) = True := eq_true (by omega)
  (try rw [show ((0 : Int)).toNat = 0 from rfl] at hx188_0)
  (try rw [show 0 * 5 = 0 from rfl] at hx188_0)
  (try rw [Addr.add_zero'] at hx188_0)
  (try rw [show ((0 : Int)).toNat = 0 from rfl] at hx188_1)
  (try rw [show 0 * 5 = 0 from rfl] at hx188_1)
  (try rw [Addr.add_zero'] at hx188_1)
  (try rw [show ((0 : Int)).toNat = 0 from rfl] at hx188_2)
  (try rw [show 0 * 5 = 0 from rfl] at hx188_2)
  (try rw [Addr.add_zero'] at hx188_2)
  (try rw [show ((0 : Int)).toNat = 0 from rfl] at hx188_3)
  (try rw [show 0 * 5 = 0 from rfl] at hx188_3)
  (try rw [Addr.add_zero'] at hx188_3)
  (try rw [show ((0 : Int)).toNat = 0 from rfl] at hx188_4)
  (try rw [show 0 * 5 = 0 from rfl] at hx188_4)
  (try rw [Addr.add_zero'] at hx188_4)
  have HR188_4 := Aside0.mk hi188_4
  have HC188_4 := Aside0.mk hl188_4
  clear hi188_4 hl188_4
  replace p188 := eq_true p188
  replace q188 := eq_true q188
  rotate_left
  rw [if_neg c26] at H
  have c26b0 : (((rd_T115 [a0] 0).f3) == 0) = false := beq_eq_false_iff_ne.mpr c26
  have c26b1 : (((rd_T115 [a0] 0).f3) != 0) = true := bne_iff_ne.mpr c26
  obtain rfl := Option.some.inj H
  have p188 : 0 ≤ (0 : Int) := (by omega)
  have q188 : 0 < ([a0].length : Int) := (by simp)
  obtain ⟨ad188, A188_4, c188_4, e188, hx188_0, hx188_1, hx188_2, hx188_3, hx188_4, hl188_4, hi188_4⟩ := at_T115 HR0.out 0 p188 q188
  obtain rfl : adp0 = ad188 := (by injection e188)
  have qi188 : (0 < [a0].length) = True := eq_true (by omega)
  (try rw [show ((0 : Int)).toNat = 0 from rfl] at hx188_0)
  (try rw [show 0 * 5 = 0 from rfl] at hx188_0)
  (try rw [Addr.add_zero'] at hx188_0)
  (try rw [show ((0 : Int)).toNat = 0 from rfl] at hx188_1)
  (try rw [show 0 * 5 = 0 from rfl] at hx188_1)
  (try rw [Addr.add_zero'] at hx188_1)
  (try rw [show ((0 : Int)).toNat = 0 from rfl] at hx188_2)
  (try rw [show 0 * 5 = 0 from rfl] at hx188_2)
  (try rw [Addr.add_zero'] at hx188_2)
  (try rw [show ((0 : Int)).toNat = 0 from rfl] at hx188_3)
  (try rw [show 0 * 5 = 0 from rfl] at hx188_3)
  (try rw [Addr.add_zero'] at hx188_3)
  (try rw [show ((0 : Int)).toNat = 0 from rfl] at hx188_4)
  (try rw [show 0 * 5 = 0 from rfl] at hx188_4)
  (try rw [Addr.add_zero'] at hx188_4)
  have HR188_4 := Aside0.mk hi188_4
  have HC188_4 := Aside0.mk hl188_4
  clear hi188_4 hl188_4
  replace p188 := eq_true p188
  replace q188 := eq_true q188
  rotate_left
  rw [if_neg c22] at H
  have c22b0 : (((rd_T115 [a0] 0).f0) == 3) = false := beq_eq_false_iff_ne.mpr c22
  have c22b1 : (((rd_T115 [a0] 0).f0) != 3) = true := bne_iff_ne.mpr c22
  by_cases c29 : ((rd_T115 [a0] 0).f2).toList = ([] : List UInt8)
  rw [if_pos c29] at H
  have c29b0 : (((rd_T115 [a0] 0).f2).toList == ([] : List UInt8)) = true := beq_iff_eq.mpr c29
  have c29b1 : (((rd_T115 [a0] 0).f2).toList != ([] : List UInt8)) = false := bne_eq_false_iff_eq.mpr c29
  clear c29
  by_cases c30 : ((rd_T115 [a0] 0).f0) = 11
  rw [if_pos c30] at H
  have c30b0 : (((rd_T115 [a0] 0).f0) == 11) = true := beq_iff_eq.mpr c30
  have c30b1 : (((rd_T115 [a0] 0).f0) != 11) = false := bne_eq_false_iff_eq.mpr c30
  clear c30
  by_cases c31 : ((rd_T115 [a0] 0).f0) = 6
  rw [if_pos c31] at H
  have c31b0 : (((rd_T115 [a0] 0).f0) == 6) = true := beq_iff_eq.mpr c31
  have c31b1 : (((rd_T115 [a0] 0).f0) != 6) = false := bne_eq_false_iff_eq.mpr c31
  clear c31
  obtain rfl := Option.some.inj H
  have p188 : 0 ≤ (0 : Int) := (by omega)
  have q188 : 0 < ([a0].length : Int) := (by simp)
  obtain ⟨ad188, A188_4, c188_4, e188, hx188_0, hx188_1, hx188_2, hx188_3, hx188_4, hl188_4, hi188_4⟩ := at_T115 HR0.out 0 p188 q188
  obtain rfl : adp0 = ad188 := (by injection e188)
  have qi188 : (0 < [a0].length) = True := eq_true (by omega)
  (try rw [show ((0 : Int)).toNat = 0 from rfl] at hx188_0)
  (try rw [show 0 * 5 = 0 from rfl] at hx188_0)
  (try rw [Addr.add_zero'] at hx188_0)
  (try rw [show ((0 : Int)).toNat = 0 from rfl] at hx188_1)
  (try rw [show 0 * 5 = 0 from rfl] at hx188_1)
  (try rw [Addr.add_zero'] at hx188_1)
  (try rw [show ((0 : Int)).toNat = 0 from rfl] at hx188_2)
  (try rw [show 0 * 5 = 0 from rfl] at hx188_2)
  (try rw [Addr.add_zero'] at hx188_2)
  (try rw [show ((0 : Int)).toNat = 0 from rfl] at hx188_3)
  (try rw [show 0 * 5 = 0 from rfl] at hx188_3)
  (try rw [Addr.add_zero'] at hx188_3)
  (try rw [show ((0 : Int)).toNat = 0 from rfl] at hx188_4)
  (try rw [show 0 * 5 = 0 from rfl] at hx188_4)
  (try rw [Addr.add_zero'] at hx188_4)
  have HR188_4 := Aside0.mk hi188_4
  have HC188_4 := Aside0.mk hl188_4
  clear hi188_4 hl188_4
  replace p188 := eq_true p188
  replace q188 := eq_true q188
  rotate_left
  rw [if_neg c31] at H
  have c31b0 : (((rd_T115 [a0] 0).f0) == 6) = false := beq_eq_false_iff_ne.mpr c31
  have c31b1 : (((rd_T115 [a0] 0).f0) != 6) = true := bne_iff_ne.mpr c31
  by_cases c32 : (((rd_T115 [a0] 0).f4).length : Int) = 0
  rw [if_pos c32] at H
  have c32b0 : ((((rd_T115 [a0] 0).f4).length : Int) == 0) = true := beq_iff_eq.mpr c32
  have c32b1 : ((((rd_T115 [a0] 0).f4).length : Int) != 0) = false := bne_eq_false_iff_eq.mpr c32
  clear c32
  obtain rfl := Option.some.inj H
  have p188 : 0 ≤ (0 : Int) := (by omega)
  have q188 : 0 < ([a0].length : Int) := (by simp)
  obtain ⟨ad188, A188_4, c188_4, e188, hx188_0, hx188_1, hx188_2, hx188_3, hx188_4, hl188_4, hi188_4⟩ := at_T115 HR0.out 0 p188 q188
  obtain rfl : adp0 = ad188 := (by injection e188)
  have qi188 : (0 < [a0].length) = True := eq_true (by omega)
  (try rw [show ((0 : Int)).toNat = 0 from rfl] at hx188_0)
  (try rw [show 0 * 5 = 0 from rfl] at hx188_0)
  (try rw [Addr.add_zero'] at hx188_0)
  (try rw [show ((0 : Int)).toNat = 0 from rfl] at hx188_1)
  (try rw [show 0 * 5 = 0 from rfl] at hx188_1)
  (try rw [Addr.add_zero'] at hx188_1)
  (try rw [show ((0 : Int)).toNat = 0 from rfl] at hx188_2)
  (try rw [show 0 * 5 = 0 from rfl] at hx188_2)
  (try rw [Addr.add_zero'] at hx188_2)
  (try rw [show ((0 : Int)).toNat = 0 from rfl] at hx188_3)
  (try rw [show 0 * 5 = 0 from rfl] at hx188_3)
  (try rw [Addr.add_zero'] at hx188_3)
  (try rw [show ((0 : Int)).toNat = 0 from rfl] at hx188_4)
  (try rw [show 0 * 5 = 0 from rfl] at hx188_4)
  (try rw [Addr.add_zero'] at hx188_4)
  have HR188_4 := Aside0.mk hi188_4
  have HC188_4 := Aside0.mk hl188_4
  clear hi188_4 hl188_4
  replace p188 := eq_true p188
  replace q188 := eq_true q188
  rotate_left
  rw [if_neg c32] at H
  have c32b0 : ((((rd_T115 [a0] 0).f4).length : Int) == 0) = false := beq_eq_false_iff_ne.mpr c32
  have c32b1 : ((((rd_T115 [a0] 0).f4).length : Int) != 0) = true := bne_iff_ne.mpr c32
  have c32b2 : ¬ (((rd_T115 [a0] 0).f4) = []) := fun h_ => c32 (by rw [h_]; rfl)
  obtain rfl := Option.some.inj H
  have p188 : 0 ≤ (0 : Int) := (by omega)
  have q188 : 0 < ([a0].length : Int) := (by simp)
  obtain ⟨ad188, A188_4, c188_4, e188, hx188_0, hx188_1, hx188_2, hx188_3, hx188_4, hl188_4, hi188_4⟩ := at_T115 HR0.out 0 p188 q188
  obtain rfl : adp0 = ad188 := (by injection e188)
  have qi188 : (0 < [a0].length) = True := eq_true (by omega)
  (try rw [show ((0 : Int)).toNat = 0 from rfl] at hx188_0)
  (try rw [show 0 * 5 = 0 from rfl] at hx188_0)
  (try rw [Addr.add_zero'] at hx188_0)
  (try rw [show ((0 : Int)).toNat = 0 from rfl] at hx188_1)
  (try rw [show 0 * 5 = 0 from rfl] at hx188_1)
  (try rw [Addr.add_zero'] at hx188_1)
  (try rw [show ((0 : Int)).toNat = 0 from rfl] at hx188_2)
  (try rw [show 0 * 5 = 0 from rfl] at hx188_2)
  (try rw [Addr.add_zero'] at hx188_2)
  (try rw [show ((0 : Int)).toNat = 0 from rfl] at hx188_3)
  (try rw [show 0 * 5 = 0 from rfl] at hx188_3)
  (try rw [Addr.add_zero'] at hx188_3)
  (try rw [show ((0 : Int)).toNat = 0 from rfl] at hx188_4)
  (try rw [show 0 * 5 = 0 from rfl] at hx188_4)
  (try rw [Addr.add_zero'] at hx188_4)
  have HR188_4 := Aside0.mk hi188_4
  have HC188_4 := Aside0.mk hl188_4
  clear hi188_4 hl188_4
  replace p188 := eq_true p188
  replace q188 := eq_true q188
  rotate_left
  rw [if_neg c30] at H
  have c30b0 : (((rd_T115 [a0] 0).f0) == 11) = false := beq_eq_false_iff_ne.mpr c30
  have c30b1 : (((rd_T115 [a0] 0).f0) != 11) = true := bne_iff_ne.mpr c30
  by_cases c33 : ((rd_T115 [a0] 0).f3) = 0
  rw [if_pos c33] at H
  have c33b0 : (((rd_T115 [a0] 0).f3) == 0) = true := beq_iff_eq.mpr c33
  have c33b1 : (((rd_T115 [a0] 0).f3) != 0) = false := bne_eq_false_iff_eq.mpr c33
  clear c33
  by_cases c34 : ((rd_T115 [a0] 0).f0) = 6
  rw [if_pos c34] at H
  have c34b0 : (((rd_T115 [a0] 0).f0) == 6) = true := beq_iff_eq.mpr c34
  have c34b1 : (((rd_T115 [a0] 0).f0) != 6) = false := bne_eq_false_iff_eq.mpr c34
  clear c34
  obtain rfl := Option.some.inj H
  have p188 : 0 ≤ (0 : Int) := (by omega)
  have q188 : 0 < ([a0].length : Int) := (by simp)
  obtain ⟨ad188, A188_4, c188_4, e188, hx188_0, hx188_1, hx188_2, hx188_3, hx188_4, hl188_4, hi188_4⟩ := at_T115 HR0.out 0 p188 q188
  obtain rfl : adp0 = ad188 := (by injection e188)
  have qi188 : (0 < [a0].length) = True := eq_true (by omega)
  (try rw [show ((0 : Int)).toNat = 0 from rfl] at hx188_0)
  (try rw [show 0 * 5 = 0 from rfl] at hx188_0)
  (try rw [Addr.add_zero'] at hx188_0)
  (try rw [show ((0 : Int)).toNat = 0 from rfl] at hx188_1)
  (try rw [show 0 * 5 = 0 from rfl] at hx188_1)
  (try rw [Addr.add_zero'] at hx188_1)
  (try rw [show ((0 : Int)).toNat = 0 from rfl] at hx188_2)
  (try rw [show 0 * 5 = 0 from rfl] at hx188_2)
  (try rw [Addr.add_zero'] at hx188_2)
  (try rw [show ((0 : Int)).toNat = 0 from rfl] at hx188_3)
  (try rw [show 0 * 5 = 0 from rfl] at hx188_3)
  (try rw [Addr.add_zero'] at hx188_3)
  (try rw [show ((0 : Int)).toNat = 0 from rfl] at hx188_4)
  (try rw [show 0 * 5 = 0 from rfl] at hx188_4)
  (try rw [Addr.add_zero'] at hx188_4)
  have HR188_4 := Aside0.mk hi188_4
  have HC188_4 := Aside0.mk hl188_4
  clear hi188_4 hl188_4
  replace p188 := eq_true p188
  replace q188 := eq_true q188
  rotate_left
  rw [if_neg c34] at H
  have c34b0 : (((rd_T115 [a0] 0).f0) == 6) = false := beq_eq_false_iff_ne.mpr c34
  have c34b1 : (((rd_T115 [a0] 0).f0) != 6) = true := bne_iff_ne.mpr c34
  by_cases c35 : (((rd_T115 [a0] 0).f4).length : Int) = 0
  rw [if_pos c35] at H
  have c35b0 : ((((rd_T115 [a0] 0).f4).length : Int) == 0) = true := beq_iff_eq.mpr c35
  have c35b1 : ((((rd_T115 [a0] 0).f4).length : Int) != 0) = false := bne_eq_false_iff_eq.mpr c35
  clear c35
  obtain rfl := Option.some.inj H
  have p188 : 0 ≤ (0 : Int) := (by omega)
  have q188 : 0 < ([a0].length : Int) := (by simp)
  obtain ⟨ad188, A188_4, c188_4, e188, hx188_0, hx188_1, hx188_2, hx188_3, hx188_4, hl188_4, hi188_4⟩ := at_T115 HR0.out 0 p188 q188
  obtain rfl : adp0 = ad188 := (by injection e188)
  have qi188 : (0 < [a0].length) = True := eq_true (by omega)
  (try rw [show ((0 : Int)).toNat = 0 from rfl] at hx188_0)
  (try rw [show 0 * 5 = 0 from rfl] at hx188_0)
  (try rw [Addr.add_zero'] at hx188_0)
  (try rw [show ((0 : Int)).toNat = 0 from rfl] at hx188_1)
  (try rw [show 0 * 5 = 0 from rfl] at hx188_1)
  (try rw [Addr.add_zero'] at hx188_1)
  (try rw [show ((0 : Int)).toNat = 0 from rfl] at hx188_2)
  (try rw [show 0 * 5 = 0 from rfl] at hx188_2)
  (try rw [Addr.add_zero'] at hx188_2)
  (try rw [show ((0 : Int)).toNat = 0 from rfl] at hx188_3)
  (try rw [show 0 * 5 = 0 from rfl] at hx188_3)
  (try rw [Addr.add_zero'] at hx188_3)
  (try rw [show ((0 : Int)).toNat = 0 from rfl] at hx188_4)
  (try rw [show 0 * 5 = 0 from rfl] at hx188_4)
  (try rw [Addr.add_zero'] at hx188_4)
  have HR188_4 := Aside0.mk hi188_4
  have HC188_4 := Aside0.mk hl188_4
  clear hi188_4 hl188_4
  replace p188 := eq_true p188
  replace q188 := eq_true q188
  rotate_left
  rw [if_neg c35] at H
  have c35b0 : ((((rd_T115 [a0] 0).f4).length : Int) == 0) = false := beq_eq_false_iff_ne.mpr c35
  have c35b1 : ((((rd_T115 [a0] 0).f4).length : Int) != 0) = true := bne_iff_ne.mpr c35
  have c35b2 : ¬ (((rd_T115 [a0] 0).f4) = []) := fun h_ => c35 (by rw [h_]; rfl)
  obtain rfl := Option.some.inj H
  have p188 : 0 ≤ (0 : Int) := (by omega)
  have q188 : 0 < ([a0].length : Int) := (by simp)
  obtain ⟨ad188, A188_4, c188_4, e188, hx188_0, hx188_1, hx188_2, hx188_3, hx188_4, hl188_4, hi188_4⟩ := at_T115 HR0.out 0 p188 q188
  obtain rfl : adp0 = ad188 := (by injection e188)
  have qi188 : (0 < [a0].length) = True := eq_true (by omega)
  (try rw [show ((0 : Int)).toNat = 0 from rfl] at hx188_0)
  (try rw [show 0 * 5 = 0 from rfl] at hx188_0)
  (try rw [Addr.add_zero'] at hx188_0)
  (try rw [show ((0 : Int)).toNat = 0 from rfl] at hx188_1)
  (try rw [show 0 * 5 = 0 from rfl] at hx188_1)
  (try rw [Addr.add_zero'] at hx188_1)
  (try rw [show ((0 : Int)).toNat = 0 from rfl] at hx188_2)
  (try rw [show 0 * 5 = 0 from rfl] at hx188_2)
  (try rw [Addr.add_zero'] at hx188_2)
  (try rw [show ((0 : Int)).toNat = 0 from rfl] at hx188_3)
  (try rw [show 0 * 5 = 0 from rfl] at hx188_3)
  (try rw [Addr.add_zero'] at hx188_3)
  (try rw [show ((0 : Int)).toNat = 0 from rfl] at hx188_4)
  (try rw [show 0 * 5 = 0 from rfl] at hx188_4)
  (try rw [Addr.add_zero'] at hx188_4)
  have HR188_4 := Aside0.mk hi188_4
  have HC188_4 := Aside0.mk hl188_4
  clear hi188_4 hl188_4
  replace p188 := eq_true p188
  replace q188 := eq_true q188
  rotate_left
  rw [if_neg c33] at H
  have c33b0 : (((rd_T115 [a0] 0).f3) == 0) = false := beq_eq_false_iff_ne.mpr c33
  have c33b1 : (((rd_T115 [a0] 0).f3) != 0) = true := bne_iff_ne.mpr c33
  obtain rfl := Option.some.inj H
  have p188 : 0 ≤ (0 : Int) := (by omega)
  have q188 : 0 < ([a0].length : Int) := (by simp)
  obtain ⟨ad188, A188_4, c188_4, e188, hx188_0, hx188_1, hx188_2, hx188_3, hx188_4, hl188_4, hi188_4⟩ := at_T115 HR0.out 0 p188 q188
  obtain rfl : adp0 = ad188 := (by injection e188)
  have qi188 : (0 < [a0].length) = True := eq_true (by omega)
  (try rw [show ((0 : Int)).toNat = 0 from rfl] at hx188_0)
  (try rw [show 0 * 5 = 0 from rfl] at hx188_0)
  (try rw [Addr.add_zero'] at hx188_0)
  (try rw [show ((0 : Int)).toNat = 0 from rfl] at hx188_1)
  (try rw [show 0 * 5 = 0 from rfl] at hx188_1)
  (try rw [Addr.add_zero'] at hx188_1)
  (try rw [show ((0 : Int)).toNat = 0 from rfl] at hx188_2)
  (try rw [show 0 * 5 = 0 from rfl] at hx188_2)
  (try rw [Addr.add_zero'] at hx188_2)
  (try rw [show ((0 : Int)).toNat = 0 from rfl] at hx188_3)
  (try rw [show 0 * 5 = 0 from rfl] at hx188_3)
  (try rw [Addr.add_zero'] at hx188_3)
  (try rw [show ((0 : Int)).toNat = 0 from rfl] at hx188_4)
  (try rw [show 0 * 5 = 0 from rfl] at hx188_4)
  (try rw [Addr.add_zero'] at hx188_4)
  have HR188_4 := Aside0.mk hi188_4
  have HC188_4 := Aside0.mk hl188_4
  clear hi188_4 hl188_4
  replace p188 := eq_true p188
  replace q188 := eq_true q188
  rotate_left
  rw [if_neg c29] at H
  have c29b0 : (((rd_T115 [a0] 0).f2).toList == ([] : List UInt8)) = false := beq_eq_false_iff_ne.mpr c29
  have c29b1 : (((rd_T115 [a0] 0).f2).toList != ([] : List UInt8)) = true := bne_iff_ne.mpr c29
  obtain rfl := Option.some.inj H
  have p188 : 0 ≤ (0 : Int) := (by omega)
  have q188 : 0 < ([a0].length : Int) := (by simp)
  obtain ⟨ad188, A188_4, c188_4, e188, hx188_0, hx188_1, hx188_2, hx188_3, hx188_4, hl188_4, hi188_4⟩ := at_T115 HR0.out 0 p188 q188
  obtain rfl : adp0 = ad188 := (by injection e188)
  have qi188 : (0 < [a0].length) = True := eq_true (by omega)
  (try rw [show ((0 : Int)).toNat = 0 from rfl] at hx188_0)
  (try rw [show 0 * 5 = 0 from rfl] at hx188_0)
  (try rw [Addr.add_zero'] at hx188_0)
  (try rw [show ((0 : Int)).toNat = 0 from rfl] at hx188_1)
  (try rw [show 0 * 5 = 0 from rfl] at hx188_1)
  (try rw [Addr.add_zero'] at hx188_1)
  (try rw [show ((0 : Int)).toNat = 0 from rfl] at hx188_2)
  (try rw [show 0 * 5 = 0 from rfl] at hx188_2)
  (try rw [Addr.add_zero'] at hx188_2)
  (try rw [show ((0 : Int)).toNat = 0 from rfl] at hx188_3)
  (try rw [show 0 * 5 = 0 from rfl] at hx188_3)
  (try rw [Addr.add_zero'] at hx188_3)
  (try rw [show ((0 : Int)).toNat = 0 from rfl] at hx188_4)
  (try rw [show 0 * 5 = 0 from rfl] at hx188_4)
  (try rw [Addr.add_zero'] at hx188_4)
  have HR188_4 := Aside0.mk hi188_4
  have HC188_4 := Aside0.mk hl188_4
  clear hi188_4 hl188_4
  replace p188 := eq_true p188
  replace q188 := eq_true q188
  rotate_left
  rw [if_neg c21] at H
  have c21b0 : (((rd_T115 [a0] 0).f0) == 1) = false := beq_eq_false_iff_ne.mpr c21
  have c21b1 : (((rd_T115 [a0] 0).f0) != 1) = true := bne_iff_ne.mpr c21
  by_cases c36 : ((rd_T115 [a0] 0).f0) = 3
  rw [if_pos c36] at H
  have c36b0 : (((rd_T115 [a0] 0).f0) == 3) = true := beq_iff_eq.mpr c36
  have c36b1 : (((rd_T115 [a0] 0).f0) != 3) = false := bne_eq_false_iff_eq.mpr c36
  clear c36
  by_cases c37 : ((rd_T115 [a0] 0).f0) = 11
  rw [if_pos c37] at H
  have c37b0 : (((rd_T115 [a0] 0).f0) == 11) = true := beq_iff_eq.mpr c37
  have c37b1 : (((rd_T115 [a0] 0).f0) != 11) = false := bne_eq_false_iff_eq.mpr c37
  clear c37
  by_cases c38 : ((rd_T115 [a0] 0).f0) = 6
  rw [if_pos c38] at H
  have c38b0 : (((rd_T115 [a0] 0).f0) == 6) = true := beq_iff_eq.mpr c38
  have c38b1 : (((rd_T115 [a0] 0).f0) != 6) = false := bne_eq_false_iff_eq.mpr c38
  clear c38
  by_cases c39 : ((rd_T115 [a0] 0).f0) = 2
  rw [if_pos c39] at H
  have c39b0 : (((rd_T115 [a0] 0).f0) == 2) = true := beq_iff_eq.mpr c39
  have c39b1 : (((rd_T115 [a0] 0).f0) != 2) = false := bne_eq_false_iff_eq.mpr c39
  clear c39
  obtain rfl := Option.some.inj H
  have p188 : 0 ≤ (0 : Int) := (by omega)
  have q188 : 0 < ([a0].length : Int) := (by simp)
  obtain ⟨ad188, A188_4, c188_4, e188, hx188_0, hx188_1, hx188_2, hx188_3, hx188_4, hl188_4, hi188_4⟩ := at_T115 HR0.out 0 p188 q188
  obtain rfl : adp0 = ad188 := (by injection e188)
  have qi188 : (0 < [a0].length) = True := eq_true (by omega)
  (try rw [show ((0 : Int)).toNat = 0 from rfl] at hx188_0)
  (try rw [show 0 * 5 = 0 from rfl] at hx188_0)
  (try rw [Addr.add_zero'] at hx188_0)
  (try rw [show ((0 : Int)).toNat = 0 from rfl] at hx188_1)
  (try rw [show 0 * 5 = 0 from rfl] at hx188_1)
  (try rw [Addr.add_zero'] at hx188_1)
  (try rw [show ((0 : Int)).toNat = 0 from rfl] at hx188_2)
  (try rw [show 0 * 5 = 0 from rfl] at hx188_2)
  (try rw [Addr.add_zero'] at hx188_2)
  (try rw [show ((0 : Int)).toNat = 0 from rfl] at hx188_3)
  (try rw [show 0 * 5 = 0 from rfl] at hx188_3)
  (try rw [Addr.add_zero'] at hx188_3)
  (try rw [show ((0 : Int)).toNat = 0 from rfl] at hx188_4)
  (try rw [show 0 * 5 = 0 from rfl] at hx188_4)
  (try rw [Addr.add_zero'] at hx188_4)
  have HR188_4 := Aside0.mk hi188_4
  have HC188_4 := Aside0.mk hl188_4
  clear hi188_4 hl188_4
  replace p188 := eq_true p188
  replace q188 := eq_true q188
  rotate_left
  rw [if_neg c39] at H
  have c39b0 : (((rd_T115 [a0] 0).f0) == 2) = false := beq_eq_false_iff_ne.mpr c39
  have c39b1 : (((rd_T115 [a0] 0).f0) != 2) = true := bne_iff_ne.mpr c39
  obtain rfl := Option.some.inj H
  have p188 : 0 ≤ (0 : Int) := (by omega)
  have q188 : 0 < ([a0].length : Int) := (by simp)
  obtain ⟨ad188, A188_4, c188_4, e188, hx188_0, hx188_1, hx188_2, hx188_3, hx188_4, hl188_4, hi188_4⟩ := at_T115 HR0.out 0 p188 q188
  obtain rfl : adp0 = ad188 := (by injection e188)
  have qi188 : (0 < [a0].length) = True := eq_true (by omega)
  (try rw [show ((0 : Int)).toNat = 0 from rfl] at hx188_0)
  (try rw [show 0 * 5 = 0 from rfl] at hx188_0)
  (try rw [Addr.add_zero'] at hx188_0)
  (try rw [show ((0 : Int)).toNat = 0 from rfl] at hx188_1)
  (try rw [show 0 * 5 = 0 from rfl] at hx188_1)
  (try rw [Addr.add_zero'] at hx188_1)
  (try rw [show ((0 : Int)).toNat = 0 from rfl] at hx188_2)
  (try rw [show 0 * 5 = 0 from rfl] at hx188_2)
  (try rw [Addr.add_zero'] at hx188_2)
  (try rw [show ((0 : Int)).toNat = 0 from rfl] at hx188_3)
  (try rw [show 0 * 5 = 0 from rfl] at hx188_3)
  (try rw [Addr.add_zero'] at hx188_3)
  (try rw [show ((0 : Int)).toNat = 0 from rfl] at hx188_4)
  (try rw [show 0 * 5 = 0 from rfl] at hx188_4)
  (try rw [Addr.add_zero'] at hx188_4)
  have HR188_4 := Aside0.mk hi188_4
  have HC188_4 := Aside0.mk hl188_4
  clear hi188_4 hl188_4
  replace p188 := eq_true p188
  replace q188 := eq_true q188
  rotate_left
  rw [if_neg c38] at H
  have c38b0 : (((rd_T115 [a0] 0).f0) == 6) = false := beq_eq_false_iff_ne.mpr c38
  have c38b1 : (((rd_T115 [a0] 0).f0) != 6) = true := bne_iff_ne.mpr c38
  by_cases c40 : (((rd_T115 [a0] 0).f4).length : Int) = 0
  rw [if_pos c40] at H
  have c40b0 : ((((rd_T115 [a0] 0).f4).length : Int) == 0) = true := beq_iff_eq.mpr c40
  have c40b1 : ((((rd_T115 [a0] 0).f4).length : Int) != 0) = false := bne_eq_false_iff_eq.mpr c40
  clear c40
  by_cases c41 : ((rd_T115 [a0] 0).f0) = 2
  rw [if_pos c41] at H
  have c41b0 : (((rd_T115 [a0] 0).f0) == 2) = true := beq_iff_eq.mpr c41
  have c41b1 : (((rd_T115 [a0] 0).f0) != 2) = false := bne_eq_false_iff_eq.mpr c41
  clear c41
  obtain rfl := Option.some.inj H
  have p188 : 0 ≤ (0 : Int) := (by omega)
  have q188 : 0 < ([a0].length : Int) := (by simp)
  obtain ⟨ad188, A188_4, c188_4, e188, hx188_0, hx188_1, hx188_2, hx188_3, hx188_4, hl188_4, hi188_4⟩ := at_T115 HR0.out 0 p188 q188
  obtain rfl : adp0 = ad188 := (by injection e188)
  have qi188 : (0 < [a0].length) = True := eq_true (by omega)
  (try rw [show ((0 : Int)).toNat = 0 from rfl] at hx188_0)
  (try rw [show 0 * 5 = 0 from rfl] at hx188_0)
  (try rw [Addr.add_zero'] at hx188_0)
  (try rw [show ((0 : Int)).toNat = 0 from rfl] at hx188_1)
  (try rw [show 0 * 5 = 0 from rfl] at hx188_1)
  (try rw [Addr.add_zero'] at hx188_1)
  (try rw [show ((0 : Int)).toNat = 0 from rfl] at hx188_2)
  (try rw [show 0 * 5 = 0 from rfl] at hx188_2)
  (try rw [Addr.add_zero'] at hx188_2)
  (try rw [show ((0 : Int)).toNat = 0 from rfl] at hx188_3)
  (try rw [show 0 * 5 = 0 from rfl] at hx188_3)
  (try rw [Addr.add_zero'] at hx188_3)
  (try rw [show ((0 : Int)).toNat = 0 from rfl] at hx188_4)
  (try rw [show 0 * 5 = 0 from rfl] at hx188_4)
  (try rw [Addr.add_zero'] at hx188_4)
  have HR188_4 := Aside0.mk hi188_4
  have HC188_4 := Aside0.mk hl188_4
  clear hi188_4 hl188_4
  replace p188 := eq_true p188
  replace q188 := eq_true q188
  rotate_left
  rw [if_neg c41] at H
  have c41b0 : (((rd_T115 [a0] 0).f0) == 2) = false := beq_eq_false_iff_ne.mpr c41
  have c41b1 : (((rd_T115 [a0] 0).f0) != 2) = true := bne_iff_ne.mpr c41
  obtain rfl := Option.some.inj H
  have p188 : 0 ≤ (0 : Int) := (by omega)
  have q188 : 0 < ([a0].length : Int) := (by simp)
  obtain ⟨ad188, A188_4, c188_4, e188, hx188_0, hx188_1, hx188_2, hx188_3, hx188_4, hl188_4, hi188_4⟩ := at_T115 HR0.out 0 p188 q188
  obtain rfl : adp0 = ad188 := (by injection e188)
  have qi188 : (0 < [a0].length) = True := eq_true (by omega)
  (try rw [show ((0 : Int)).toNat = 0 from rfl] at hx188_0)
  (try rw [show 0 * 5 = 0 from rfl] at hx188_0)
  (try rw [Addr.add_zero'] at hx188_0)
  (try rw [show ((0 : Int)).toNat = 0 from rfl] at hx188_1)
  (try rw [show 0 * 5 = 0 from rfl] at hx188_1)
  (try rw [Addr.add_zero'] at hx188_1)
  (try rw [show ((0 : Int)).toNat = 0 from rfl] at hx188_2)
  (try rw [show 0 * 5 = 0 from rfl] at hx188_2)
  (try rw [Addr.add_zero'] at hx188_2)
  (try rw [show ((0 : Int)).toNat = 0 from rfl] at hx188_3)
  (try rw [show 0 * 5 = 0 from rfl] at hx188_3)
  (try rw [Addr.add_zero'] at hx188_3)
  (try rw [show ((0 : Int)).toNat = 0 from rfl] at hx188_4)
  (try rw [show 0 * 5 = 0 from rfl] at hx188_4)
  (try rw [Addr.add_zero'] at hx188_4)
  have HR188_4 := Aside0.mk hi188_4
  have HC188_4 := Aside0.mk hl188_4
  clear hi188_4 hl188_4
  replace p188 := eq_true p188
  replace q188 := eq_true q188
  rotate_left
  rw [if_neg c40] at H
  have c40b0 : ((((rd_T115 [a0] 0).f4).length : Int) == 0) = false := beq_eq_false_iff_ne.mpr c40
  have c40b1 : ((((rd_T115 [a0] 0).f4).length : Int) != 0) = true := bne_iff_ne.mpr c40
  have c40b2 : ¬ (((rd_T115 [a0] 0).f4) = []) := fun h_ => c40 (by rw [h_]; rfl)
  obtain rfl := Option.some.inj H
  have p188 : 0 ≤ (0 : Int) := (by omega)
  have q188 : 0 < ([a0].length : Int) := (by simp)
  obtain ⟨ad188, A188_4, c188_4, e188, hx188_0, hx188_1, hx188_2, hx188_3, hx188_4, hl188_4, hi188_4⟩ := at_T115 HR0.out 0 p188 q188
  obtain rfl : adp0 = ad188 := (by injection e188)
  have qi188 : (0 < [a0].length) = True := eq_true (by omega)
  (try rw [show ((0 : Int)).toNat = 0 from rfl] at hx188_0)
  (try rw [show 0 * 5 = 0 from rfl] at hx188_0)
  (try rw [Addr.add_zero'] at hx188_0)
  (try rw [show ((0 : Int)).toNat = 0 from rfl] at hx188_1)
  (try rw [show 0 * 5 = 0 from rfl] at hx188_1)
  (try rw [Addr.add_zero'] at hx188_1)
  (try rw [show ((0 : Int)).toNat = 0 from rfl] at hx188_2)
  (try rw [show 0 * 5 = 0 from rfl] at hx188_2)
  (try rw [Addr.add_zero'] at hx188_2)
  (try rw [show ((0 : Int)).toNat = 0 from rfl] at hx188_3)
  (try rw [show 0 * 5 = 0 from rfl] at hx188_3)
  (try rw [Addr.add_zero'] at hx188_3)
  (try rw [show ((0 : Int)).toNat = 0 from rfl] at hx188_4)
  (try rw [show 0 * 5 = 0 from rfl] at hx188_4)
  (try rw [Addr.add_zero'] at hx188_4)
  have HR188_4 := Aside0.mk hi188_4
  have HC188_4 := Aside0.mk hl188_4
  clear hi188_4 hl188_4
  replace p188 := eq_true p188
  replace q188 := eq_true q188
  rotate_left
  rw [if_neg c37] at H
  have c37b0 : (((rd_T115 [a0] 0).f0) == 11) = false := beq_eq_false_iff_ne.mpr c37
  have c37b1 : (((rd_T115 [a0] 0).f0) != 11) = true := bne_iff_ne.mpr c37
  by_cases c42 : ((rd_T115 [a0] 0).f3) = 0
  rw [if_pos c42] at H
  have c42b0 : (((rd_T115 [a0] 0).f3) == 0) = true := beq_iff_eq.mpr c42
  have c42b1 : (((rd_T115 [a0] 0).f3) != 0) = false := bne_eq_false_iff_eq.mpr c42
  clear c42
  by_cases c43 : ((rd_T115 [a0] 0).f0) = 6
  rw [if_pos c43] at H
  have c43b0 : (((rd_T115 [a0] 0).f0) == 6) = true := beq_iff_eq.mpr c43
  have c43b1 : (((rd_T115 [a0] 0).f0) != 6) = false := bne_eq_false_iff_eq.mpr c43
  clear c43
  by_cases c44 : ((rd_T115 [a0] 0).f0) = 2
  rw [if_pos c44] at H
  have c44b0 : (((rd_T115 [a0] 0).f0) == 2) = true := beq_iff_eq.mpr c44
  have c44b1 : (((rd_T115 [a0] 0).f0) != 2) = false := bne_eq_false_iff_eq.mpr c44
  clear c44
  obtain rfl := Option.some.inj H
  have p188 : 0 ≤ (0 : Int) := (by omega)
  have q188 : 0 < ([a0].length : Int) := (by simp)
  obtain ⟨ad188, A188_4, c188_4, e188, hx188_0, hx188_1, hx188_2, hx188_3, hx188_4, hl188_4, hi188_4⟩ := at_T115 HR0.out 0 p188 q188
  obtain rfl : adp0 = ad188 := (by injection e188)
  have qi188 : (0 < [a0].length) = True := eq_true (by omega)
  (try rw [show ((0 : Int)).toNat = 0 from rfl] at hx188_0)
  (try rw [show 0 * 5 = 0 from rfl] at hx188_0)
  (try rw [Addr.add_zero'] at hx188_0)
  (try rw [show ((0 : Int)).toNat = 0 from rfl] at hx188_1)
  (try rw [show 0 * 5 = 0 from rfl] at hx188_1)
  (try rw [Addr.add_zero'] at hx188_1)
  (try rw [show ((0 : Int)).toNat = 0 from rfl] at hx188_2)
  (try rw [show 0 * 5 = 0 from rfl] at hx188_2)
  (try rw [Addr.add_zero'] at hx188_2)
  (try rw [show ((0 : Int)).toNat = 0 from rfl] at hx188_3)
  (try rw [show 0 * 5 = 0 from rfl] at hx188_3)
  (try rw [Addr.add_zero'] at hx188_3)
  (try rw [show ((0 : Int)).toNat = 0 from rfl] at hx188_4)
  (try rw [show 0 * 5 = 0 from rfl] at hx188_4)
  (try rw [Addr.add_zero'] at hx188_4)
  have HR188_4 := Aside0.mk hi188_4
  have HC188_4 := Aside0.mk hl188_4
  clear hi188_4 hl188_4
  replace p188 := eq_true p188
  replace q188 := eq_true q188
  rotate_left
  rw [if_neg c44] at H
  have c44b0 : (((rd_T115 [a0] 0).f0) == 2) = false := beq_eq_false_iff_ne.mpr c44
  have c44b1 : (((rd_T115 [a0] 0).f0) != 2) = true := bne_iff_ne.mpr c44
  obtain rfl := Option.some.inj H
  have p188 : 0 ≤ (0 : Int) := (by omega)
  have q188 : 0 < ([a0].length : Int) := (by simp)
  obtain ⟨ad188, A188_4, c188_4, e188, hx188_0, hx188_1, hx188_2, hx188_3, hx188_4, hl188_4, hi188_4⟩ := at_T115 HR0.out 0 p188 q188
  obtain rfl : adp0 = ad188 := (by injection e188)
  have qi188 : (0 < [a0].length) = True := eq_true (by omega)
  (try rw [show ((0 : Int)).toNat = 0 from rfl] at hx188_0)
  (try rw [show 0 * 5 = 0 from rfl] at hx188_0)
  (try rw [Addr.add_zero'] at hx188_0)
  (try rw [show ((0 : Int)).toNat = 0 from rfl] at hx188_1)
  (try rw [show 0 * 5 = 0 from rfl] at hx188_1)
  (try rw [Addr.add_zero'] at hx188_1)
  (try rw [show ((0 : Int)).toNat = 0 from rfl] at hx188_2)
  (try rw [show 0 * 5 = 0 from rfl] at hx188_2)
  (try rw [Addr.add_zero'] at hx188_2)
  (try rw [show ((0 : Int)).toNat = 0 from rfl] at hx188_3)
  (try rw [show 0 * 5 = 0 from rfl] at hx188_3)
  (try rw [Addr.add_zero'] at hx188_3)
  (try rw [show ((0 : Int)).toNat = 0 from rfl] at hx188_4)
  (try rw [show 0 * 5 = 0 from rfl] at hx188_4)
  (try rw [Addr.add_zero'] at hx188_4)
  have HR188_4 := Aside0.mk hi188_4
  have HC188_4 := Aside0.mk hl188_4
  clear hi188_4 hl188_4
  replace p188 := eq_true p188
  replace q188 := eq_true q188
  rotate_left
  rw [if_neg c43] at H
  have c43b0 : (((rd_T115 [a0] 0).f0) == 6) = false := beq_eq_false_iff_ne.mpr c43
  have c43b1 : (((rd_T115 [a0] 0).f0) != 6) = true := bne_iff_ne.mpr c43
  by_cases c45 : (((rd_T115 [a0] 0).f4).length : Int) = 0
  rw [if_pos c45] at H
  have c45b0 : ((((rd_T115 [a0] 0).f4).length : Int) == 0) = true := beq_iff_eq.mpr c45
  have c45b1 : ((((rd_T115 [a0] 0).f4).length : Int) != 0) = false := bne_eq_false_iff_eq.mpr c45
  clear c45
  by_cases c46 : ((rd_T115 [a0] 0).f0) = 2
  rw [if_pos c46] at H
  have c46b0 : (((rd_T115 [a0] 0).f0) == 2) = true := beq_iff_eq.mpr c46
  have c46b1 : (((rd_T115 [a0] 0).f0) != 2) = false := bne_eq_false_iff_eq.mpr c46
  clear c46
  obtain rfl := Option.some.inj H
  have p188 : 0 ≤ (0 : Int) := (by omega)
  have q188 : 0 < ([a0].length : Int) := (by simp)
  obtain ⟨ad188, A188_4, c188_4, e188, hx188_0, hx188_1, hx188_2, hx188_3, hx188_4, hl188_4, hi188_4⟩ := at_T115 HR0.out 0 p188 q188
  obtain rfl : adp0 = ad188 := (by injection e188)
  have qi188 : (0 < [a0].length) = True := eq_true (by omega)
  (try rw [show ((0 : Int)).toNat = 0 from rfl] at hx188_0)
  (try rw [show 0 * 5 = 0 from rfl] at hx188_0)
  (try rw [Addr.add_zero'] at hx188_0)
  (try rw [show ((0 : Int)).toNat = 0 from rfl] at hx188_1)
  (try rw [show 0 * 5 = 0 from rfl] at hx188_1)
  (try rw [Addr.add_zero'] at hx188_1)
  (try rw [show ((0 : Int)).toNat = 0 from rfl] at hx188_2)
  (try rw [show 0 * 5 = 0 from rfl] at hx188_2)
  (try rw [Addr.add_zero'] at hx188_2)
  (try rw [show ((0 : Int)).toNat = 0 from rfl] at hx188_3)
  (try rw [show 0 * 5 = 0 from rfl] at hx188_3)
  (try rw [Addr.add_zero'] at hx188_3)
  (try rw [show ((0 : Int)).toNat = 0 from rfl] at hx188_4)
  (try rw [show 0 * 5 = 0 from rfl] at hx188_4)
  (try rw [Addr.add_zero'] at hx188_4)
  have HR188_4 := Aside0.mk hi188_4
  have HC188_4 := Aside0.mk hl188_4
  clear hi188_4 hl188_4
  replace p188 := eq_true p188
  replace q188 := eq_true q188
  rotate_left
  rw [if_neg c46] at H
  have c46b0 : (((rd_T115 [a0] 0).f0) == 2) = false := beq_eq_false_iff_ne.mpr c46
  have c46b1 : (((rd_T115 [a0] 0).f0) != 2) = true := bne_iff_ne.mpr c46
  obtain rfl := Option.some.inj H
  have p188 : 0 ≤ (0 : Int) := (by omega)
  have q188 : 0 < ([a0].length : Int) := (by simp)
  obtain ⟨ad188, A188_4, c188_4, e188, hx188_0, hx188_1, hx188_2, hx188_3, hx188_4, hl188_4, hi188_4⟩ := at_T115 HR0.out 0 p188 q188
  obtain rfl : adp0 = ad188 := (by injection e188)
  have qi188 : (0 < [a0].length) = True := eq_true (by omega)
  (try rw [show ((0 : Int)).toNat = 0 from rfl] at hx188_0)
  (try rw [show 0 * 5 = 0 from rfl] at hx188_0)
  (try rw [Addr.add_zero'] at hx188_0)
  (try rw [show ((0 : Int)).toNat = 0 from rfl] at hx188_1)
  (try rw [show 0 * 5 = 0 from rfl] at hx188_1)
  (try rw [Addr.add_zero'] at hx188_1)
  (try rw [show ((0 : Int)).toNat = 0 from rfl] at hx188_2)
  (try rw [show 0 * 5 = 0 from rfl] at hx188_2)
  (try rw [Addr.add_zero'] at hx188_2)
  (try rw [show ((0 : Int)).toNat = 0 from rfl] at hx188_3)
  (try rw [show 0 * 5 = 0 from rfl] at hx188_3)
  (try rw [Addr.add_zero'] at hx188_3)
  (try rw [show ((0 : Int)).toNat = 0 from rfl] at hx188_4)
  (try rw [show 0 * 5 = 0 from rfl] at hx188_4)
  (try rw [Addr.add_zero'] at hx188_4)
  have HR188_4 := Aside0.mk hi188_4
  have HC188_4 := Aside0.mk hl188_4
  clear hi188_4 hl188_4
  replace p188 := eq_true p188
  replace q188 := eq_true q188
  rotate_left
  rw [if_neg c45] at H
  have c45b0 : ((((rd_T115 [a0] 0).f4).length : Int) == 0) = false := beq_eq_false_iff_ne.mpr c45
  have c45b1 : ((((rd_T115 [a0] 0).f4).length : Int) != 0) = true := bne_iff_ne.mpr c45
  have c45b2 : ¬ (((rd_T115 [a0] 0).f4) = []) := fun h_ => c45 (by rw [h_]; rfl)
  obtain rfl := Option.some.inj H
  have p188 : 0 ≤ (0 : Int) := (by omega)
  have q188 : 0 < ([a0].length : Int) := (by simp)
  obtain ⟨ad188, A188_4, c188_4, e188, hx188_0, hx188_1, hx188_2, hx188_3, hx188_4, hl188_4, hi188_4⟩ := at_T115 HR0.out 0 p188 q188
  obtain rfl : adp0 = ad188 := (by injection e188)
  have qi188 : (0 < [a0].length) = True := eq_true (by omega)
  (try rw [show ((0 : Int)).toNat = 0 from rfl] at hx188_0)
  (try rw [show 0 * 5 = 0 from rfl] at hx188_0)
  (try rw [Addr.add_zero'] at hx188_0)
  (try rw [show ((0 : Int)).toNat = 0 from rfl] at hx188_1)
  (try rw [show 0 * 5 = 0 from rfl] at hx188_1)
  (try rw [Addr.add_zero'] at hx188_1)
  (try rw [show ((0 : Int)).toNat = 0 from rfl] at hx188_2)
  (try rw [show 0 * 5 = 0 from rfl] at hx188_2)
  (try rw [Addr.add_zero'] at hx188_2)
  (try rw [show ((0 : Int)).toNat = 0 from rfl] at hx188_3)
  (try rw [show 0 * 5 = 0 from rfl] at hx188_3)
  (try rw [Addr.add_zero'] at hx188_3)
  (try rw [show ((0 : Int)).toNat = 0 from rfl] at hx188_4)
  (try rw [show 0 * 5 = 0 from rfl] at hx188_4)
  (try rw [Addr.add_zero'] at hx188_4)
  have HR188_4 := Aside0.mk hi188_4
  have HC188_4 := Aside0.mk hl188_4
  clear hi188_4 hl188_4
  replace p188 := eq_true p188
  replace q188 := eq_true q188
  rotate_left
  rw [if_neg c42] at H
  have c42b0 : (((rd_T115 [a0] 0).f3) == 0) = false := beq_eq_false_iff_ne.mpr c42
  have c42b1 : (((rd_T115 [a0] 0).f3) != 0) = true := bne_iff_ne.mpr c42
  obtain rfl := Option.some.inj H
  have p188 : 0 ≤ (0 : Int) := (by omega)
  have q188 : 0 < ([a0].length : Int) := (by simp)
  obtain ⟨ad188, A188_4, c188_4, e188, hx188_0, hx188_1, hx188_2, hx188_3, hx188_4, hl188_4, hi188_4⟩ := at_T115 HR0.out 0 p188 q188
  obtain rfl : adp0 = ad188 := (by injection e188)
  have qi188 : (0 < [a0].length) = True := eq_true (by omega)
  (try rw [show ((0 : Int)).toNat = 0 from rfl] at hx188_0)
  (try rw [show 0 * 5 = 0 from rfl] at hx188_0)
  (try rw [Addr.add_zero'] at hx188_0)
  (try rw [show ((0 : Int)).toNat = 0 from rfl] at hx188_1)
  (try rw [show 0 * 5 = 0 from rfl] at hx188_1)
  (try rw [Addr.add_zero'] at hx188_1)
  (try rw [show ((0 : Int)).toNat = 0 from rfl] at hx188_2)
  (try rw [show 0 * 5 = 0 from rfl] at hx188_2)
  (try rw [Addr.add_zero'] at hx188_2)
  (try rw [show ((0 : Int)).toNat = 0 from rfl] at hx188_3)
  (try rw [show 0 * 5 = 0 from rfl] at hx188_3)
  (try rw [Addr.add_zero'] at hx188_3)
  (try rw [show ((0 : Int)).toNat = 0 from rfl] at hx188_4)
  (try rw [show 0 * 5 = 0 from rfl] at hx188_4)
  (try rw [Addr.add_zero'] at hx188_4)
  have HR188_4 := Aside0.mk hi188_4
  have HC188_4 := Aside0.mk hl188_4
  clear hi188_4 hl188_4
  replace p188 := eq_true p188
  replace q188 := eq_true q188
  rotate_left
  rw [if_neg c36] at H
  have c36b0 : (((rd_T115 [a0] 0).f0) == 3) = false := beq_eq_false_iff_ne.mpr c36
  have c36b1 : (((rd_T115 [a0] 0).f0) != 3) = true := bne_iff_ne.mpr c36
  by_cases c47 : ((rd_T115 [a0] 0).f2).toList = ([] : List UInt8)
  rw [if_pos c47] at H
  have c47b0 : (((rd_T115 [a0] 0).f2).toList == ([] : List UInt8)) = true := beq_iff_eq.mpr c47
  have c47b1 : (((rd_T115 [a0] 0).f2).toList != ([] : List UInt8)) = false := bne_eq_false_iff_eq.mpr c47
  clear c47
  by_cases c48 : ((rd_T115 [a0] 0).f0) = 11
  rw [if_pos c48] at H
  have c48b0 : (((rd_T115 [a0] 0).f0) == 11) = true := beq_iff_eq.mpr c48
  have c48b1 : (((rd_T115 [a0] 0).f0) != 11) = false := bne_eq_false_iff_eq.mpr c48
  clear c48
  by_cases c49 : ((rd_T115 [a0] 0).f0) = 6
  rw [if_pos c49] at H
  have c49b0 : (((rd_T115 [a0] 0).f0) == 6) = true := beq_iff_eq.mpr c49
  have c49b1 : (((rd_T115 [a0] 0).f0) != 6) = false := bne_eq_false_iff_eq.mpr c49
  clear c49
  by_cases c50 : ((rd_T115 [a0] 0).f0) = 2
  rw [if_pos c50] at H
  have c50b0 : (((rd_T115 [a0] 0).f0) == 2) = true := beq_iff_eq.mpr c50
  have c50b1 : (((rd_T115 [a0] 0).f0) != 2) = false := bne_eq_false_iff_eq.mpr c50
  clear c50
  obtain rfl := Option.some.inj H
  have p188 : 0 ≤ (0 : Int) := (by omega)
  have q188 : 0 < ([a0].length : Int) := (by simp)
  obtain ⟨ad188, A188_4, c188_4, e188, hx188_0, hx188_1, hx188_2, hx188_3, hx188_4, hl188_4, hi188_4⟩ := at_T115 HR0.out 0 p188 q188
  obtain rfl : adp0 = ad188 := (by injection e188)
  have qi188 : (0 < [a0].length) = True := eq_true (by omega)
  (try rw [show ((0 : Int)).toNat = 0 from rfl] at hx188_0)
  (try rw [show 0 * 5 = 0 from rfl] at hx188_0)
  (try rw [Addr.add_zero'] at hx188_0)
  (try rw [show ((0 : Int)).toNat = 0 from rfl] at hx188_1)
  (try rw [show 0 * 5 = 0 from rfl] at hx188_1)
  (try rw [Addr.add_zero'] at hx188_1)
  (try rw [show ((0 : Int)).toNat = 0 from rfl] at hx188_2)
  (try rw [show 0 * 5 = 0 from rfl] at hx188_2)
  (try rw [Addr.add_zero'] at hx188_2)
  (try rw [show ((0 : Int)).toNat = 0 from rfl] at hx188_3)
  (try rw [show 0 * 5 = 0 from rfl] at hx188_3)
  (try rw [Addr.add_zero'] at hx188_3)
  (try rw [show ((0 : Int)).toNat = 0 from rfl] at hx188_4)
  (try rw [show 0 * 5 = 0 from rfl] at hx188_4)
  (try rw [Addr.add_zero'] at hx188_4)
  have HR188_4 := Aside0.mk hi188_4
  have HC188_4 := Aside0.mk hl188_4
  clear hi188_4 hl188_4
  replace p188 := eq_true p188
  replace q188 := eq_true q188
  rotate_left
  rw [if_neg c50] at H
  have c50b0 : (((rd_T115 [a0] 0).f0) == 2) = false := beq_eq_false_iff_ne.mpr c50
  have c50b1 : (((rd_T115 [a0] 0).f0) != 2) = true := bne_iff_ne.mpr c50
  obtain rfl := Option.some.inj H
  have p188 : 0 ≤ (0 : Int) := (by omega)
  have q188 : 0 < ([a0].length : Int) := (by simp)
  obtain ⟨ad188, A188_4, c188_4, e188, hx188_0, hx188_1, hx188_2, hx188_3, hx188_4, hl188_4, hi188_4⟩ := at_T115 HR0.out 0 p188 q188
  obtain rfl : adp0 = ad188 := (by injection e188)
  have qi188 : (0 < [a0].length) = True := eq_true (by omega)
  (try rw [show ((0 : Int)).toNat = 0 from rfl] at hx188_0)
  (try rw [show 0 * 5 = 0 from rfl] at hx188_0)
  (try rw [Addr.add_zero'] at hx188_0)
  (try rw [show ((0 : Int)).toNat = 0 from rfl] at hx188_1)
  (try rw [show 0 * 5 = 0 from rfl] at hx188_1)
  (try rw [Addr.add_zero'] at hx188_1)
  (try rw [show ((0 : Int)).toNat = 0 from rfl] at hx188_2)
  (try rw [show 0 * 5 = 0 from rfl] at hx188_2)
  (try rw [Addr.add_zero'] at hx188_2)
  (try rw [show ((0 : Int)).toNat = 0 from rfl] at hx188_3)
  (try rw [show 0 * 5 = 0 from rfl] at hx188_3)
  (try rw [Addr.add_zero'] at hx188_3)
  (try rw [show ((0 : Int)).toNat = 0 from rfl] at hx188_4)
  (try rw [show 0 * 5 = 0 from rfl] at hx188_4)
  (try rw [Addr.add_zero'] at hx188_4)
  have HR188_4 := Aside0.mk hi188_4
  have HC188_4 := Aside0.mk hl188_4
  clear hi188_4 hl188_4
  replace p188 := eq_true p188
  replace q188 := eq_true q188
  rotate_left
  rw [if_neg c49] at H
  have c49b0 : (((rd_T115 [a0] 0).f0) == 6) = false := beq_eq_false_iff_ne.mpr c49
  have c49b1 : (((rd_T115 [a0] 0).f0) != 6) = true := bne_iff_ne.mpr c49
  by_cases c51 : (((rd_T115 [a0] 0).f4).length : Int) = 0
  rw [if_pos c51] at H
  have c51b0 : ((((rd_T115 [a0] 0).f4).length : Int) == 0) = true := beq_iff_eq.mpr c51
  have c51b1 : ((((rd_T115 [a0] 0).f4).length : Int) != 0) = false := bne_eq_false_iff_eq.mpr c51
  clear c51
  by_cases c52 : ((rd_T115 [a0] 0).f0) = 2
  rw [if_pos c52] at H
  have c52b0 : (((rd_T115 [a0] 0).f0) == 2) = true := beq_iff_eq.mpr c52
  have c52b1 : (((rd_T115 [a0] 0).f0) != 2) = false := bne_eq_false_iff_eq.mpr c52
  clear c52
  obtain rfl := Option.some.inj H
  have p188 : 0 ≤ (0 : Int) := (by omega)
  have q188 : 0 < ([a0].length : Int) := (by simp)
  obtain ⟨ad188, A188_4, c188_4, e188, hx188_0, hx188_1, hx188_2, hx188_3, hx188_4, hl188_4, hi188_4⟩ := at_T115 HR0.out 0 p188 q188
  obtain rfl : adp0 = ad188 := (by injection e188)
  have qi188 : (0 < [a0].length) = True := eq_true (by omega)
  (try rw [show ((0 : Int)).toNat = 0 from rfl] at hx188_0)
  (try rw [show 0 * 5 = 0 from rfl] at hx188_0)
  (try rw [Addr.add_zero'] at hx188_0)
  (try rw [show ((0 : Int)).toNat = 0 from rfl] at hx188_1)
  (try rw [show 0 * 5 = 0 from rfl] at hx188_1)
  (try rw [Addr.add_zero'] at hx188_1)
  (try rw [show ((0 : Int)).toNat = 0 from rfl] at hx188_2)
  (try rw [show 0 * 5 = 0 from rfl] at hx188_2)
  (try rw [Addr.add_zero'] at hx188_2)
  (try rw [show ((0 : Int)).toNat = 0 from rfl] at hx188_3)
  (try rw [show 0 * 5 = 0 from rfl] at hx188_3)
  (try rw [Addr.add_zero'] at hx188_3)
  (try rw [show ((0 : Int)).toNat = 0 from rfl] at hx188_4)
  (try rw [show 0 * 5 = 0 from rfl] at hx188_4)
  (try rw [Addr.add_zero'] at hx188_4)
  have HR188_4 := Aside0.mk hi188_4
  have HC188_4 := Aside0.mk hl188_4
  clear hi188_4 hl188_4
  replace p188 := eq_true p188
  replace q188 := eq_true q188
  rotate_left
  rw [if_neg c52] at H
  have c52b0 : (((rd_T115 [a0] 0).f0) == 2) = false := beq_eq_false_iff_ne.mpr c52
  have c52b1 : (((rd_T115 [a0] 0).f0) != 2) = true := bne_iff_ne.mpr c52
  obtain rfl := Option.some.inj H
  have p188 : 0 ≤ (0 : Int) := (by omega)
  have q188 : 0 < ([a0].length : Int) := (by simp)
  obtain ⟨ad188, A188_4, c188_4, e188, hx188_0, hx188_1, hx188_2, hx188_3, hx188_4, hl188_4, hi188_4⟩ := at_T115 HR0.out 0 p188 q188
  obtain rfl : adp0 = ad188 := (by injection e188)
  have qi188 : (0 < [a0].length) = True := eq_true (by omega)
  (try rw [show ((0 : Int)).toNat = 0 from rfl] at hx188_0)
  (try rw [show 0 * 5 = 0 from rfl] at hx188_0)
  (try rw [Addr.add_zero'] at hx188_0)
  (try rw [show ((0 : Int)).toNat = 0 from rfl] at hx188_1)
  (try rw [show 0 * 5 = 0 from rfl] at hx188_1)
  (try rw [Addr.add_zero'] at hx188_1)
  (try rw [show ((0 : Int)).toNat = 0 from rfl] at hx188_2)
  (try rw [show 0 * 5 = 0 from rfl] at hx188_2)
  (try rw [Addr.add_zero'] at hx188_2)
  (try rw [show ((0 : Int)).toNat = 0 from rfl] at hx188_3)
  (try rw [show 0 * 5 = 0 from rfl] at hx188_3)
  (try rw [Addr.add_zero'] at hx188_3)
  (try rw [show ((0 : Int)).toNat = 0 from rfl] at hx188_4)
  (try rw [show 0 * 5 = 0 from rfl] at hx188_4)
  (try rw [Addr.add_zero'] at hx188_4)
  have HR188_4 := Aside0.mk hi188_4
  have HC188_4 := Aside0.mk hl188_4
  clear hi188_4 hl188_4
  replace p188 := eq_true p188
  replace q188 := eq_true q188
  rotate_left
  rw [if_neg c51] at H
  have c51b0 : ((((rd_T115 [a0] 0).f4).length : Int) == 0) = false := beq_eq_false_iff_ne.mpr c51
  have c51b1 : ((((rd_T115 [a0] 0).f4).length : Int) != 0) = true := bne_iff_ne.mpr c51
  have c51b2 : ¬ (((rd_T115 [a0] 0).f4) = []) := fun h_ => c51 (by rw [h_]; rfl)
  obtain rfl := Option.some.inj H
  have p188 : 0 ≤ (0 : Int) := (by omega)
  have q188 : 0 < ([a0].length : Int) := (by simp)
  obtain ⟨ad188, A188_4, c188_4, e188, hx188_0, hx188_1, hx188_2, hx188_3, hx188_4, hl188_4, hi188_4⟩ := at_T115 HR0.out 0 p188 q188
  obtain rfl : adp0 = ad188 := (by injection e188)
  have qi188 : (0 < [a0].length) = True := eq_true (by omega)
  (try rw [show ((0 : Int)).toNat = 0 from rfl] at hx188_0)
  (try rw [show 0 * 5 = 0 from rfl] at hx188_0)
  (try rw [Addr.add_zero'] at hx188_0)
  (try rw [show ((0 : Int)).toNat = 0 from rfl] at hx188_1)
  (try rw [show 0 * 5 = 0 from rfl] at hx188_1)
  (try rw [Addr.add_zero'] at hx188_1)
  (try rw [show ((0 : Int)).toNat = 0 from rfl] at hx188_2)
  (try rw [show 0 * 5 = 0 from rfl] at hx188_2)
  (try rw [Addr.add_zero'] at hx188_2)
  (try rw [show ((0 : Int)).toNat = 0 from rfl] at hx188_3)
  (try rw [show 0 * 5 = 0 from rfl] at hx188_3)
  (try rw [Addr.add_zero'] at hx188_3)
  (try rw [show ((0 : Int)).toNat = 0 from rfl] at hx188_4)
  (try rw [show 0 * 5 = 0 from rfl] at hx188_4)
  (try rw [Addr.add_zero'] at hx188_4)
  have HR188_4 := Aside0.mk hi188_4
  have HC188_4 := Aside0.mk hl188_4
  clear hi188_4 hl188_4
  replace p188 := eq_true p188
  replace q188 := eq_true q188
  rotate_left
  rw [if_neg c48] at H
  have c48b0 : (((rd_T115 [a0] 0).f0) == 11) = false := beq_eq_false_iff_ne.mpr c48
  have c48b1 : (((rd_T115 [a0] 0).f0) != 11) = true := bne_iff_ne.mpr c48
  by_cases c53 : ((rd_T115 [a0] 0).f3) = 0
  rw [if_pos c53] at H
  have c53b0 : (((rd_T115 [a0] 0).f3) == 0) = true := beq_iff_eq.mpr c53
  have c53b1 : (((rd_T115 [a0] 0).f3) != 0) = false := bne_eq_false_iff_eq.mpr c53
  clear c53
  by_cases c54 : ((rd_T115 [a0] 0).f0) = 6
  rw [if_pos c54] at H
  have c54b0 : (((rd_T115 [a0] 0).f0) == 6) = true := beq_iff_eq.mpr c54
  have c54b1 : (((rd_T115 [a0] 0).f0) != 6) = false := bne_eq_false_iff_eq.mpr c54
  clear c54
  by_cases c55 : ((rd_T115 [a0] 0).f0) = 2
  rw [if_pos c55] at H
  have c55b0 : (((rd_T115 [a0] 0).f0) == 2) = true := beq_iff_eq.mpr c55
  have c55b1 : (((rd_T115 [a0] 0).f0) != 2) = false := bne_eq_false_iff_eq.mpr c55
  clear c55
  obtain rfl := Option.some.inj H
  have p188 : 0 ≤ (0 : Int) := (by omega)
  have q188 : 0 < ([a0].length : Int) := (by simp)
  obtain ⟨ad188, A188_4, c188_4, e188, hx188_0, hx188_1, hx188_2, hx188_3, hx188_4, hl188_4, hi188_4⟩ := at_T115 HR0.out 0 p188 q188
  obtain rfl : adp0 = ad188 := (by injection e188)
  have qi188 : (0 < [a0].length) = True := eq_true (by omega)
  (try rw [show ((0 : Int)).toNat = 0 from rfl] at hx188_0)
  (try rw [show 0 * 5 = 0 from rfl] at hx188_0)
  (try rw [Addr.add_zero'] at hx188_0)
  (try rw [show ((0 : Int)).toNat = 0 from rfl] at hx188_1)
  (try rw [show 0 * 5 = 0 from rfl] at hx188_1)
  (try rw [Addr.add_zero'] at hx188_1)
  (try rw [show ((0 : Int)).toNat = 0 from rfl] at hx188_2)
  (try rw [show 0 * 5 = 0 from rfl] at hx188_2)
  (try rw [Addr.add_zero'] at hx188_2)
  (try rw [show ((0 : Int)).toNat = 0 from rfl] at hx188_3)
  (try rw [show 0 * 5 = 0 from rfl] at hx188_3)
  (try rw [Addr.add_zero'] at hx188_3)
  (try rw [show ((0 : Int)).toNat = 0 from rfl] at hx188_4)
  (try rw [show 0 * 5 = 0 from rfl] at hx188_4)
  (try rw [Addr.add_zero'] at hx188_4)
  have HR188_4 := Aside0.mk hi188_4
  have HC188_4 := Aside0.mk hl188_4
  clear hi188_4 hl188_4
  replace p188 := eq_true p188
  replace q188 := eq_true q188
  rotate_left
  rw [if_neg c55] at H
  have c55b0 : (((rd_T115 [a0] 0).f0) == 2) = false := beq_eq_false_iff_ne.mpr c55
  have c55b1 : (((rd_T115 [a0] 0).f0) != 2) = true := bne_iff_ne.mpr c55
  obtain rfl := Option.some.inj H
  have p188 : 0 ≤ (0 : Int) := (by omega)
  have q188 : 0 < ([a0].length : Int) := (by simp)
  obtain ⟨ad188, A188_4, c188_4, e188, hx188_0, hx188_1, hx188_2, hx188_3, hx188_4, hl188_4, hi188_4⟩ := at_T115 HR0.out 0 p188 q188
  obtain rfl : adp0 = ad188 := (by injection e188)
  have qi188 : (0 < [a0].length) = True := eq_true (by omega)
  (try rw [show ((0 : Int)).toNat = 0 from rfl] at hx188_0)
  (try rw [show 0 * 5 = 0 from rfl] at hx188_0)
  (try rw [Addr.add_zero'] at hx188_0)
  (try rw [show ((0 : Int)).toNat = 0 from rfl] at hx188_1)
  (try rw [show 0 * 5 = 0 from rfl] at hx188_1)
  (try rw [Addr.add_zero'] at hx188_1)
  (try rw [show ((0 : Int)).toNat = 0 from rfl] at hx188_2)
  (try rw [show 0 * 5 = 0 from rfl] at hx188_2)
  (try rw [Addr.add_zero'] at hx188_2)
  (try rw [show ((0 : Int)).toNat = 0 from rfl] at hx188_3)
  (try rw [show 0 * 5 = 0 from rfl] at hx188_3)
  (try rw [Addr.add_zero'] at hx188_3)
  (try rw [show ((0 : Int)).toNat = 0 from rfl] at hx188_4)
  (try rw [show 0 * 5 = 0 from rfl] at hx188_4)
  (try rw [Addr.add_zero'] at hx188_4)
  have HR188_4 := Aside0.mk hi188_4
  have HC188_4 := Aside0.mk hl188_4
  clear hi188_4 hl188_4
  replace p188 := eq_true p188
  replace q188 := eq_true q188
  rotate_left
  rw [if_neg c54] at H
  have c54b0 : (((rd_T115 [a0] 0).f0) == 6) = false := beq_eq_false_iff_ne.mpr c54
  have c54b1 : (((rd_T115 [a0] 0).f0) != 6) = true := bne_iff_ne.mpr c54
  by_cases c56 : (((rd_T115 [a0] 0).f4).length : Int) = 0
  rw [if_pos c56] at H
  have c56b0 : ((((rd_T115 [a0] 0).f4).length : Int) == 0) = true := beq_iff_eq.mpr c56
  have c56b1 : ((((rd_T115 [a0] 0).f4).length : Int) != 0) = false := bne_eq_false_iff_eq.mpr c56
  clear c56
  by_cases c57 : ((rd_T115 [a0] 0).f0) = 2
  rw [if_pos c57] at H
  have c57b0 : (((rd_T115 [a0] 0).f0) == 2) = true := beq_iff_eq.mpr c57
  have c57b1 : (((rd_T115 [a0] 0).f0) != 2) = false := bne_eq_false_iff_eq.mpr c57
  clear c57
  obtain rfl := Option.some.inj H
  have p188 : 0 ≤ (0 : Int) := (by omega)
  have q188 : 0 < ([a0].length : Int) := (by simp)
  obtain ⟨ad188, A188_4, c188_4, e188, hx188_0, hx188_1, hx188_2, hx188_3, hx188_4, hl188_4, hi188_4⟩ := at_T115 HR0.out 0 p188 q188
  obtain rfl : adp0 = ad188 := (by injection e188)
  have qi188 : (0 < [a0].length) = True := eq_true (by omega)
  (try rw [show ((0 : Int)).toNat = 0 from rfl] at hx188_0)
  (try rw [show 0 * 5 = 0 from rfl] at hx188_0)
  (try rw [Addr.add_zero'] at hx188_0)
  (try rw [show ((0 : Int)).toNat = 0 from rfl] at hx188_1)
  (try rw [show 0 * 5 = 0 from rfl] at hx188_1)
  (try rw [Addr.add_zero'] at hx188_1)
  (try rw [show ((0 : Int)).toNat = 0 from rfl] at hx188_2)
  (try rw [show 0 * 5 = 0 from rfl] at hx188_2)
  (try rw [Addr.add_zero'] at hx188_2)
  (try rw [show ((0 : Int)).toNat = 0 from rfl] at hx188_3)
  (try rw [show 0 * 5 = 0 from rfl] at hx188_3)
  (try rw [Addr.add_zero'] at hx188_3)
  (try rw [show ((0 : Int)).toNat = 0 from rfl] at hx188_4)
  (try rw [show 0 * 5 = 0 from rfl] at hx188_4)
  (try rw [Addr.add_zero'] at hx188_4)
  have HR188_4 := Aside0.mk hi188_4
  have HC188_4 := Aside0.mk hl188_4
  clear hi188_4 hl188_4
  replace p188 := eq_true p188
  replace q188 := eq_true q188
  rotate_left
  rw [if_neg c57] at H
  have c57b0 : (((rd_T115 [a0] 0).f0) == 2) = false := beq_eq_false_iff_ne.mpr c57
  have c57b1 : (((rd_T115 [a0] 0).f0) != 2) = true := bne_iff_ne.mpr c57
  obtain rfl := Option.some.inj H
  have p188 : 0 ≤ (0 : Int) := (by omega)
  have q188 : 0 < ([a0].length : Int) := (by simp)
  obtain ⟨ad188, A188_4, c188_4, e188, hx188_0, hx188_1, hx188_2, hx188_3, hx188_4, hl188_4, hi188_4⟩ := at_T115 HR0.out 0 p188 q188
  obtain rfl : adp0 = ad188 := (by injection e188)
  have qi188 : (0 < [a0].length) = True := eq_true (by omega)
  (try rw [show ((0 : Int)).toNat = 0 from rfl] at hx188_0)
  (try rw [show 0 * 5 = 0 from rfl] at hx188_0)
  (try rw [Addr.add_zero'] at hx188_0)
  (try rw [show ((0 : Int)).toNat = 0 from rfl] at hx188_1)
  (try rw [show 0 * 5 = 0 from rfl] at hx188_1)
  (try rw [Addr.add_zero'] at hx188_1)
  (try rw [show ((0 : Int)).toNat = 0 from rfl] at hx188_2)
  (try rw [show 0 * 5 = 0 from rfl] at hx188_2)
  (try rw [Addr.add_zero'] at hx188_2)
  (try rw [show ((0 : Int)).toNat = 0 from rfl] at hx188_3)
  (try rw [show 0 * 5 = 0 from rfl] at hx188_3)
  (try rw [Addr.add_zero'] at hx188_3)
  (try rw [show ((0 : Int)).toNat = 0 from rfl] at hx188_4)
  (try rw [show 0 * 5 = 0 from rfl] at hx188_4)
  (try rw [Addr.add_zero'] at hx188_4)
  have HR188_4 := Aside0.mk hi188_4
  have HC188_4 := Aside0.mk hl188_4
  clear hi188_4 hl188_4
  replace p188 := eq_true p188
  replace q188 := eq_true q188
  rotate_left
  rw [if_neg c56] at H
  have c56b0 : ((((rd_T115 [a0] 0).f4).length : Int) == 0) = false := beq_eq_false_iff_ne.mpr c56
  have c56b1 : ((((rd_T115 [a0] 0).f4).length : Int) != 0) = true := bne_iff_ne.mpr c56
  have c56b2 : ¬ (((rd_T115 [a0] 0).f4) = []) := fun h_ => c56 (by rw [h_]; rfl)
  obtain rfl := Option.some.inj H
  have p188 : 0 ≤ (0 : Int) := (by omega)
  have q188 : 0 < ([a0].length : Int) := (by simp)
  obtain ⟨ad188, A188_4, c188_4, e188, hx188_0, hx188_1, hx188_2, hx188_3, hx188_4, hl188_4, hi188_4⟩ := at_T115 HR0.out 0 p188 q188
  obtain rfl : adp0 = ad188 := (by injection e188)
  have qi188 : (0 < [a0].length) = True := eq_true (by omega)
  (try rw [show ((0 : Int)).toNat = 0 from rfl] at hx188_0)
  (try rw [show 0 * 5 = 0 from rfl] at hx188_0)
  (try rw [Addr.add_zero'] at hx188_0)
  (try rw [show ((0 : Int)).toNat = 0 from rfl] at hx188_1)
  (try rw [show 0 * 5 = 0 from rfl] at hx188_1)
  (try rw [Addr.add_zero'] at hx188_1)
  (try rw [show ((0 : Int)).toNat = 0 from rfl] at hx188_2)
  (try rw [show 0 * 5 = 0 from rfl] at hx188_2)
  (try rw [Addr.add_zero'] at hx188_2)
  (try rw [show ((0 : Int)).toNat = 0 from rfl] at hx188_3)
  (try rw [show 0 * 5 = 0 from rfl] at hx188_3)
  (try rw [Addr.add_zero'] at hx188_3)
  (try rw [show ((0 : Int)).toNat = 0 from rfl] at hx188_4)
  (try rw [show 0 * 5 = 0 from rfl] at hx188_4)
  (try rw [Addr.add_zero'] at hx188_4)
  have HR188_4 := Aside0.mk hi188_4
  have HC188_4 := Aside0.mk hl188_4
  clear hi188_4 hl188_4
  replace p188 := eq_true p188
  replace q188 := eq_true q188
  rotate_left
  rw [if_neg c53] at H
  have c53b0 : (((rd_T115 [a0] 0).f3) == 0) = false := beq_eq_false_iff_ne.mpr c53
  have c53b1 : (((rd_T115 [a0] 0).f3) != 0) = true := bne_iff_ne.mpr c53
  obtain rfl := Option.some.inj H
  have p188 : 0 ≤ (0 : Int) := (by omega)
  have q188 : 0 < ([a0].length : Int) := (by simp)
  obtain ⟨ad188, A188_4, c188_4, e188, hx188_0, hx188_1, hx188_2, hx188_3, hx188_4, hl188_4, hi188_4⟩ := at_T115 HR0.out 0 p188 q188
  obtain rfl : adp0 = ad188 := (by injection e188)
  have qi188 : (0 < [a0].length) = True := eq_true (by omega)
  (try rw [show ((0 : Int)).toNat = 0 from rfl] at hx188_0)
  (try rw [show 0 * 5 = 0 from rfl] at hx188_0)
  (try rw [Addr.add_zero'] at hx188_0)
  (try rw [show ((0 : Int)).toNat = 0 from rfl] at hx188_1)
  (try rw [show 0 * 5 = 0 from rfl] at hx188_1)
  (try rw [Addr.add_zero'] at hx188_1)
  (try rw [show ((0 : Int)).toNat = 0 from rfl] at hx188_2)
  (try rw [show 0 * 5 = 0 from rfl] at hx188_2)
  (try rw [Addr.add_zero'] at hx188_2)
  (try rw [show ((0 : Int)).toNat = 0 from rfl] at hx188_3)
  (try rw [show 0 * 5 = 0 from rfl] at hx188_3)
  (try rw [Addr.add_zero'] at hx188_3)
  (try rw [show ((0 : Int)).toNat = 0 from rfl] at hx188_4)
  (try rw [show 0 * 5 = 0 from rfl] at hx188_4)
  (try rw [Addr.add_zero'] at hx188_4)
  have HR188_4 := Aside0.mk hi188_4
  have HC188_4 := Aside0.mk hl188_4
  clear hi188_4 hl188_4
  replace p188 := eq_true p188
  replace q188 := eq_true q188
  rotate_left
  rw [if_neg c47] at H
  have c47b0 : (((rd_T115 [a0] 0).f2).toList == ([] : List UInt8)) = false := beq_eq_false_iff_ne.mpr c47
  have c47b1 : (((rd_T115 [a0] 0).f2).toList != ([] : List UInt8)) = true := bne_iff_ne.mpr c47
  obtain rfl := Option.some.inj H
  have p188 : 0 ≤ (0 : Int) := (by omega)
  have q188 : 0 < ([a0].length : Int) := (by simp)
  obtain ⟨ad188, A188_4, c188_4, e188, hx188_0, hx188_1, hx188_2, hx188_3, hx188_4, hl188_4, hi188_4⟩ := at_T115 HR0.out 0 p188 q188
  obtain rfl : adp0 = ad188 := (by injection e188)
  have qi188 : (0 < [a0].length) = True := eq_true (by omega)
  (try rw [show ((0 : Int)).toNat = 0 from rfl] at hx188_0)
  (try rw [show 0 * 5 = 0 from rfl] at hx188_0)
  (try rw [Addr.add_zero'] at hx188_0)
  (try rw [show ((0 : Int)).toNat = 0 from rfl] at hx188_1)
  (try rw [show 0 * 5 = 0 from rfl] at hx188_1)
  (try rw [Addr.add_zero'] at hx188_1)
  (try rw [show ((0 : Int)).toNat = 0 from rfl] at hx188_2)
  (try rw [show 0 * 5 = 0 from rfl] at hx188_2)
  (try rw [Addr.add_zero'] at hx188_2)
  (try rw [show ((0 : Int)).toNat = 0 from rfl] at hx188_3)
  (try rw [show 0 * 5 = 0 from rfl] at hx188_3)
  (try rw [Addr.add_zero'] at hx188_3)
  (try rw [show ((0 : Int)).toNat = 0 from rfl] at hx188_4)
  (try rw [show 0 * 5 = 0 from rfl] at hx188_4)
  (try rw [Addr.add_zero'] at hx188_4)
  have HR188_4 := Aside0.mk hi188_4
  have HC188_4 := Aside0.mk hl188_4
  clear hi188_4 hl188_4
  replace p188 := eq_true p188
  replace q188 := eq_true q188
  rotate_left
  all_goals (
    go_enter Try.func117, Try.ntmps117
    go_wp2_with (first | ((with_reducible refine gate_callee (f := 55) rfl ?_); refine goesL_ (some 9) rfl rfl Try.func55 (by kernel_rfl) rfl #[.int .i64 ((rd_T115 [a0] 0).f0), .int .i64 4, .int .i64 6] rfl (by (try simp only [List.map_toArray, List.map_cons, List.map_nil]); first | done | rfl | (simp only [List.length_drop, List.length_take]; rfl)) ?_; (with_reducible refine (spec_l1In.calls ((rd_T115 [a0] 0).f0) 4 6 _ _ A2.out).mono ?_); rintro e w' ⟨rfl, ⟨nd, rfl⟩⟩; refine ⟨_, rfl, ?_⟩))
    go_ret
    exact ⟨by first | rfl | (simp; done) | (simp [*]; done), by repeat (first | exact Drawn0.refl _ | apply Drawn0.step)⟩)

end Go.Proofs.Ytjlcajhlggoleaa.H
