/- Words for this seat's texts: steps that stand alike in many places, each under a name. No condition. -/
import Derived.ArgAppend
import Derived.Below
import Derived.BigQuiet
import Derived.Deep.AppendLies
import Derived.Deep.CutBlock
import Derived.Deep.DeepCutAuto
import Derived.Deep.Draws
import Derived.Deep.LoopGhost
import Derived.Deep.OwnRows
import Derived.Deep.QuietTactic
import Derived.Deep.RegionHeld3
import Derived.KernelRfl
import Derived.Laws.BitsLemmas
import Derived.Laws.BytesArg
import Derived.Laws.IdiomCopy
import Derived.Laws.MakeOwn
import Derived.Laws.OwnMore
import Derived.Laws.Rows
import Derived.Laws.Slices
import Derived.Lib.AppendStr
import Derived.Lib.ConvBytes
import Derived.Maps.AppendAt
import Derived.OrdersHeld
import Derived.OwnWalk
import Derived.RowKit
import Derived.RowKit3
import Derived.Tactics
import Derived.Test.YtbibioffldkanaaGreatDoorProg
import Derived.Test.YtbibioffldkanaaGreatDoorWApart
import Derived.Test.YtbibioffldkanaaGreatDoorWArr
import Derived.Test.YtbibioffldkanaaGreatDoorWAt
import Derived.Test.YtbibioffldkanaaGreatDoorWEqStruct
import Derived.Test.YtbibioffldkanaaGreatDoorWFoot
import Derived.Test.YtbibioffldkanaaGreatDoorWFootNe
import Derived.Test.YtbibioffldkanaaGreatDoorWFour
import Derived.Test.YtbibioffldkanaaGreatDoorWGuard
import Derived.Test.YtbibioffldkanaaGreatDoorWInv
import Derived.Test.YtbibioffldkanaaGreatDoorWInvWords
import Derived.Test.YtbibioffldkanaaGreatDoorWKept
import Derived.Test.YtbibioffldkanaaGreatDoorWLast
import Derived.Test.YtbibioffldkanaaGreatDoorWMore
import Derived.Test.YtbibioffldkanaaGreatDoorWN
import Derived.Test.YtbibioffldkanaaGreatDoorWNEv
import Derived.Test.YtbibioffldkanaaGreatDoorWQPut
import Derived.Test.YtbibioffldkanaaGreatDoorWRepsOne
import Derived.Test.YtbibioffldkanaaGreatDoorWShare
import Derived.Test.YtbibioffldkanaaGreatDoorWTab
import Derived.Test.YtbibioffldkanaaGreatDoorWWords
import Derived.Test.YtbibioffldkanaaGreatDoorWZeros
import Derived.Test.YtbibioffldkanaaGreatDoorXWords
import Derived.WalkKit
import Derived.WideLaws
namespace Go.Proofs.YtbibioffldkanaaGreatDoor.K
open Go.RowKit Go.Proofs.YtbibioffldkanaaGreatDoorW.PrintWords Go.Proofs.YtbibioffldkanaaGreatDoorW.PrintLast Go.Proofs.YtbibioffldkanaaGreatDoorW.PrintMore
theorem cT_ {w w' : World} {p : Addr} {v : Value} (hB : Below w.heap.size w w') (hx : w.cell? p = some v) : w'.cell? p = some v := (hB.cell (World.block_lt_of_cell? w _ hx)).trans hx
section
variable {P : Program} {ops : Array Oper} {Q : Exit → Act → World → Prop}
theorem gc_ {rest : List Oper} {oi : Oper} {a : Act} {w : World} (f : FuncId) (d : Nat) {fn : Func} {as_ : Array Operand} {ts_ : Array TypeId} (hf : P.funcs[f]? = some fn) (args : Array Value) (h : Calls P f args w fun e w' => ∃ v, e = .returned v ∧ wpList P ops Q rest (a.put (some d) v) w') (hd : oi.dst = some d := by rfl) (hg : oi.guard = none := by rfl) (hop : oi.op = .call { callee := .value (.func f), args := as_, argTypes := ts_ } := by rfl) (hname : (fn.name == "runtime.NumGoroutine") = false := by kernel_rfl) (hb : fn.body.isSome = true := by rfl) (hargs : as_.map a.eval = args := by (try simp only [List.map_toArray, List.map_cons, List.map_nil]); first | done | rfl | (simp only [List.length_drop, List.length_take]; rfl) | (go_simp; done) | (simp [Act.eval, bne]; done)) : wpList P ops Q (oi :: rest) a w := Mc (some d) hd hg hf hname hb args hop hargs h
end
theorem a_ {p : Prop} (h : p) : fD p := ⟨h⟩
theorem t_ : True := True.intro
abbrev T_ : Bool := true
abbrev F_ : Bool := false
theorem zr_ {p : Prop} (h : p := by rfl) : p := h
theorem zs_ {p : Prop} (h : p := by first | (go_simp; done) | (go_simp; rfl)) : p := h
theorem z0_ {p : Prop} (h : p := by first | (rw [hy_]; with_reducible exact H) | (have H2_ := (Option.bind_some _ _).symm.trans H; rw [hy_]; with_reducible exact H2_) | (have H2_ := (Option.bind_some _ _).symm.trans H; with_reducible exact H2_) | with_reducible exact H | (rw [hy_]; exact H) | exact H) : p := h
theorem z1_ {p : Prop} (h : p := by exact mG HT_.out (by kernel_rfl)) : p := h
theorem z2_ {p : Prop} (h : p := by intro w'; go_simp; with_reducible rfl) : p := h
theorem z3_ {p : Prop} (h : p := by simp only [Act.put, List.setIfInBounds_toArray, List.set_cons_zero, List.set_cons_succ, jm, jr]; rfl) : p := h
theorem z4_ {p : Prop} (h : p := by exact Il HT_.out HW_.out (by kernel_rfl)) : p := h
theorem z5_ {p : Prop} (h : p := by rintro w' ⟨s0, s1, s2⟩; go_simp; with_reducible rfl) : p := h
theorem z6_ {p : Prop} (h : p := by show Act.put _ (some 134) _ = _; simp only [Act.put, List.setIfInBounds_toArray, List.set_cons_zero, List.set_cons_succ, jm, jr]; rfl) : p := h
theorem z7_ {p : Prop} (h : p := by show Act.put _ (some 142) _ = _; simp only [Act.put, List.setIfInBounds_toArray, List.set_cons_zero, List.set_cons_succ, jm, jr]; rfl) : p := h
theorem z8_ {p : Prop} (h : p := by show Act.put _ (some 144) _ = _; simp only [Act.put, List.setIfInBounds_toArray, List.set_cons_zero, List.set_cons_succ, jm, jr]; rfl) : p := h
theorem z9_ {p : Prop} (h : p := by rintro w' ⟨s0, s1, s2, s3, s4, s5, s6⟩; go_simp; with_reducible rfl) : p := h
theorem FW {p : Prop} (h : p := by rintro w' ⟨s0, s1⟩; go_simp; with_reducible rfl) : p := h
theorem Ou {p : Prop} (h : p := by show Act.put _ (some 135) _ = _; simp only [Act.put, List.setIfInBounds_toArray, List.set_cons_zero, List.set_cons_succ, jm, jr]; rfl) : p := h
theorem NW {p : Prop} (h : p := by show Act.put _ (some 136) _ = _; simp only [Act.put, List.setIfInBounds_toArray, List.set_cons_zero, List.set_cons_succ, jm, jr]; rfl) : p := h
theorem Nl {p : Prop} (h : p := by rintro w' ⟨s0, s1, s2, s3⟩; go_simp; with_reducible rfl) : p := h
theorem NZ {p : Prop} (h : p := by show Act.put _ (some 72) _ = _; simp only [Act.put, List.setIfInBounds_toArray, List.set_cons_zero, List.set_cons_succ, jm, jr]; rfl) : p := h
theorem L9 {p : Prop} (h : p := by rintro w' ⟨s0, s1, s2, s3, s4, s5⟩; go_simp; with_reducible rfl) : p := h
theorem Om {p : Prop} (h : p := by show Act.put _ (some 84) _ = _; simp only [Act.put, List.setIfInBounds_toArray, List.set_cons_zero, List.set_cons_succ, jm, jr]; rfl) : p := h
theorem OB {p : Prop} (h : p := by show Act.put _ (some 85) _ = _; simp only [Act.put, List.setIfInBounds_toArray, List.set_cons_zero, List.set_cons_succ, jm, jr]; rfl) : p := h
theorem vM {p : Prop} (h : p := by simp only [vY, Act.put, List.setIfInBounds_toArray, List.set_cons_zero, List.set_cons_succ]; rfl) : p := h
theorem N7 {p : Prop} (h : p := by show Act.put _ (some 70) _ = _; simp only [Act.put, List.setIfInBounds_toArray, List.set_cons_zero, List.set_cons_succ, jm, jr]; rfl) : p := h
theorem I9 {p : Prop} (h : p := by show Act.put _ (some 62) _ = _; simp only [Act.put, List.setIfInBounds_toArray, List.set_cons_zero, List.set_cons_succ, jm, jr]; rfl) : p := h
theorem E5 {p : Prop} (h : p := by show Act.put _ (some 63) _ = _; simp only [Act.put, List.setIfInBounds_toArray, List.set_cons_zero, List.set_cons_succ, jm, jr]; rfl) : p := h
theorem Fq {p : Prop} (h : p := by show Act.put _ (some 69) _ = _; simp only [Act.put, List.setIfInBounds_toArray, List.set_cons_zero, List.set_cons_succ, jm, jr]; rfl) : p := h
theorem Oh {p : Prop} (h : p := by show Act.put _ (some 15) _ = _; simp only [Act.put, List.setIfInBounds_toArray, List.set_cons_zero, List.set_cons_succ, jm, jr]; rfl) : p := h
theorem OG {p : Prop} (h : p := by show Act.put _ (some 21) _ = _; simp only [Act.put, List.setIfInBounds_toArray, List.set_cons_zero, List.set_cons_succ, jm, jr]; rfl) : p := h
theorem MV {p : Prop} (h : p := by show Act.put _ (some 22) _ = _; simp only [Act.put, List.setIfInBounds_toArray, List.set_cons_zero, List.set_cons_succ, jm, jr]; rfl) : p := h
theorem Oj {p : Prop} (h : p := by show Act.put _ (some 25) _ = _; simp only [Act.put, List.setIfInBounds_toArray, List.set_cons_zero, List.set_cons_succ, jm, jr]; rfl) : p := h
theorem MK {p : Prop} (h : p := by show Act.put _ (some 26) _ = _; simp only [Act.put, List.setIfInBounds_toArray, List.set_cons_zero, List.set_cons_succ, jm, jr]; rfl) : p := h
theorem MN {p : Prop} (h : p := by show Act.put _ (some 27) _ = _; simp only [Act.put, List.setIfInBounds_toArray, List.set_cons_zero, List.set_cons_succ, jm, jr]; rfl) : p := h
theorem Og {p : Prop} (h : p := by show Act.put _ (some 28) _ = _; simp only [Act.put, List.setIfInBounds_toArray, List.set_cons_zero, List.set_cons_succ, jm, jr]; rfl) : p := h
theorem NT {p : Prop} (h : p := by show Act.put _ (some 33) _ = _; simp only [Act.put, List.setIfInBounds_toArray, List.set_cons_zero, List.set_cons_succ, jm, jr]; rfl) : p := h
theorem Oq {p : Prop} (h : p := by show Act.put _ (some 41) _ = _; simp only [Act.put, List.setIfInBounds_toArray, List.set_cons_zero, List.set_cons_succ, jm, jr]; rfl) : p := h
theorem OC {p : Prop} (h : p := by show Act.put _ (some 44) _ = _; simp only [Act.put, List.setIfInBounds_toArray, List.set_cons_zero, List.set_cons_succ, jm, jr]; rfl) : p := h
theorem N8 {p : Prop} (h : p := by show Act.put _ (some 45) _ = _; simp only [Act.put, List.setIfInBounds_toArray, List.set_cons_zero, List.set_cons_succ, jm, jr]; rfl) : p := h
theorem Oa {p : Prop} (h : p := by show Act.put _ (some 46) _ = _; simp only [Act.put, List.setIfInBounds_toArray, List.set_cons_zero, List.set_cons_succ, jm, jr]; rfl) : p := h
theorem GZ {p : Prop} (h : p := by rintro w' ⟨h0, h1, h2⟩; go_simp; with_reducible rfl) : p := h
theorem Oo {p : Prop} (h : p := by show Act.put _ (some 40) _ = _; simp only [Act.put, List.setIfInBounds_toArray, List.set_cons_zero, List.set_cons_succ, jm, jr]; rfl) : p := h
theorem Ol {p : Prop} (h : p := by show Act.put _ (some 49) _ = _; simp only [Act.put, List.setIfInBounds_toArray, List.set_cons_zero, List.set_cons_succ, jm, jr]; rfl) : p := h
theorem OD {p : Prop} (h : p := by show Act.put _ (some 50) _ = _; simp only [Act.put, List.setIfInBounds_toArray, List.set_cons_zero, List.set_cons_succ, jm, jr]; rfl) : p := h
theorem Ot {p : Prop} (h : p := by show Act.put _ (some 51) _ = _; simp only [Act.put, List.setIfInBounds_toArray, List.set_cons_zero, List.set_cons_succ, jm, jr]; rfl) : p := h
theorem NV {p : Prop} (h : p := by show Act.put _ (some 52) _ = _; simp only [Act.put, List.setIfInBounds_toArray, List.set_cons_zero, List.set_cons_succ, jm, jr]; rfl) : p := h
theorem Nh {p : Prop} (h : p := by show Act.put _ (some 74) _ = _; simp only [Act.put, List.setIfInBounds_toArray, List.set_cons_zero, List.set_cons_succ, jm, jr]; rfl) : p := h
theorem Nv {p : Prop} (h : p := by show Act.put _ (some 76) _ = _; simp only [Act.put, List.setIfInBounds_toArray, List.set_cons_zero, List.set_cons_succ, jm, jr]; rfl) : p := h
theorem y0_ {p : Prop} (h : p := by repeat (first | (with_reducible first | exact HB.out | apply gB | apply fU | apply gG) | exact HB.out)) : p := h
theorem y1_ {p : Prop} (h : p := by first | (with_reducible assumption) | assumption) : p := h
theorem y2_ {p : Prop} (h : p := by repeat (first | (with_reducible first | exact HK.out | apply gI.H6 | apply ui | apply sW | apply tY) | exact HK.out)) : p := h
theorem y3_ {p : Prop} (h : p := by first | rfl | (simp; done) | (simp [*]; done)) : p := h
theorem y4_ {p : Prop} (h : p := by repeat (first | (with_reducible first | exact HB.out | apply gB | apply fU | apply gG | refine gX ?_ GE0.out) | exact HB.out)) : p := h
theorem y5_ {p : Prop} (h : p := by repeat (first | exact jP.refl _ | apply jP.step)) : p := h
theorem y6_ {p : Prop} (h : p := by first | rfl | (simp [mr, mg] <;> rfl) | (simp [*, mr, mg] <;> rfl)) : p := h
theorem y7_ {p : Prop} (h : p := by repeat (first | (with_reducible first | exact HB.out | apply gB | apply fU | apply gG | refine gX ?_ (fK.ge HI0.out)) | exact HB.out)) : p := h
theorem y8_ {p : Prop} (h : p := by repeat (first | (with_reducible first | exact HI0.out | apply fK.alloc | apply fK.drewN | apply fK.drew | apply fK.kZ) | exact HI0.out)) : p := h
theorem y9_ {p : Prop} (h : p := by first | (simp only [vY, Act.put, List.setIfInBounds_toArray, List.set_cons_zero, List.set_cons_succ]; done) | (simp only [vY, Act.put, List.setIfInBounds_toArray, List.set_cons_zero, List.set_cons_succ]; rfl)) : p := h
theorem o9 {p : Prop} (h : p := by repeat (first | (with_reducible first | exact HK.out | apply Kept.alloc | apply Kept.drewN | apply Kept.drew | refine Kept.setCell ?_ (.inl (.inr rfl)) _) | exact HK.out)) : p := h
theorem pz {p : Prop} (h : p := by (try simp only [List.map_toArray, List.map_cons, List.map_nil]); first | done | rfl | (simp only [List.length_drop, List.length_take]; rfl)) : p := h
theorem uD {p : Prop} (h : p := by first | exact HK.out.1 | exact (show Kept w _ (fun k_ => (P0_0_ k_ ∨ P0_1_ k_) ∨ k_ = gp0) from by repeat (first | (with_reducible first | exact HK.out | apply Kept.alloc | apply Kept.drewN | apply Kept.drew | refine Kept.setCell ?_ (.inl (.inr rfl)) _) | exact HK.out)).1) : p := h
theorem pG {p : Prop} (h : p := by (with_reducible repeat (first | refine fC ?_ _ | refine fH ?_ | refine fE ?_ _)); exact BK0.out) : p := h
theorem um {p : Prop} (h : p := by repeat (first | (with_reducible first | exact HB.out | apply gB | apply fU | apply gG | refine gX ?_ GE9767058.out | refine gX ?_ GE9403738.out) | exact HB.out)) : p := h
theorem pR {p : Prop} (h : p := by (with_reducible repeat (first | apply Kd.iq | apply Kd.gY | apply Kd.iE)); exact HO_1001.out) : p := h
theorem qK {p : Prop} (h : p := by (with_reducible repeat (first | apply Kd.nI | apply Kd.nH | apply Kd.nS)); exact HO_3.out) : p := h
theorem xA {p : Prop} (h : p := by repeat (first | (with_reducible first | exact HB.out | apply gB | apply fU | apply gG | refine gX ?_ GE402.out | refine gX ?_ GE405.out) | exact HB.out)) : p := h
theorem JL {p : Prop} (h : p := by (with_reducible repeat (first | refine fC ?_ _ | refine fH ?_ | refine fE ?_ _)); refine iJ (cs := #[.string (jG ByteArray.empty t482 0), .int .i64 (-1), .slice none 0 0]) ?_ 2 _ rfl; (with_reducible repeat (first | refine fC ?_ _ | refine fH ?_ | refine fE ?_ _)); refine iJ (cs := #[.string (jG ByteArray.empty t482 0), .int .i64 x481001_1, .slice none 0 0]) ?_ 1 _ rfl; (with_reducible repeat (first | refine fC ?_ _ | refine fH ?_ | refine fE ?_ _)); refine iJ (cs := #[.string x481000_1, .int .i64 x481001_1, .slice none 0 0]) ?_ 0 _ rfl; (with_reducible repeat (first | refine fC ?_ _ | refine fH ?_ | refine fE ?_ _)); exact BK9767058.out) : p := h
theorem sU {p : Prop} (h : p := by (with_reducible repeat (first | apply Kd.iq | apply Kd.gY | apply Kd.iE)); exact HO9369609.out) : p := h
theorem sN {p : Prop} (h : p := by (with_reducible repeat (first | apply Kd.iq | apply Kd.gY | apply Kd.iE)); exact HO_1000.out) : p := h
theorem yV {p : Prop} (h : p := by repeat (first | (with_reducible first | exact HB.out | apply gB | apply fU | apply gG | refine gX ?_ GE286.out | refine gX ?_ GE9367706.out) | exact HB.out)) : p := h
theorem sH {p : Prop} (h : p := by (with_reducible repeat (first | apply Kd.nI | apply Kd.nH | apply Kd.nS)); exact HO174.out) : p := h
theorem iY {p : Prop} (h : p := by kernel_rfl) : p := h
theorem vK {p : Prop} (h : p := by (with_reducible repeat (first | refine fC ?_ _ | refine fH ?_ | refine fE ?_ _)); exact BK9767058.out) : p := h
theorem yu {p : Prop} (h : p := by repeat (first | (with_reducible first | exact HB.out | apply gB | apply fU | apply gG | refine gX ?_ GE471.out) | exact HB.out)) : p := h
theorem zo {p : Prop} (h : p := by repeat (first | (with_reducible first | exact HB.out | apply gB | apply fU | apply gG | refine gX ?_ GE9919741.out) | exact HB.out)) : p := h
theorem zT {p : Prop} (h : p := by repeat (first | (with_reducible first | exact HB.out | apply gB | apply fU | apply gG | refine gX ?_ GE9375158.out) | exact HB.out)) : p := h
theorem Lc {p : Prop} (h : p := by (with_reducible repeat (first | refine fC ?_ _ | refine fH ?_ | refine fE ?_ _)); refine iJ (cs := #[.string ((fJ l0 x17_1).f0), .int .i64 ((fJ l0 x17_1).f1), .slice none 0 0]) ?_ 2 _ rfl; (with_reducible repeat (first | refine fC ?_ _ | refine fH ?_ | refine fE ?_ _)); refine iJ (cs := #[.string ((fJ l0 x17_1).f0), .int .i64 0, .slice none 0 0]) ?_ 1 _ rfl; (with_reducible repeat (first | refine fC ?_ _ | refine fH ?_ | refine fE ?_ _)); refine iJ (cs := #[.string (⟨#[]⟩ : ByteArray), .int .i64 0, .slice none 0 0]) ?_ 0 _ rfl; (with_reducible repeat (first | refine fC ?_ _ | refine fH ?_ | refine fE ?_ _)); exact BK9479672.out) : p := h
theorem xB {p : Prop} (h : p := by (with_reducible repeat (first | refine fC ?_ _ | refine fH ?_ | refine fE ?_ _)); exact BK402.out) : p := h
theorem wK {p : Prop} (h : p := by (with_reducible repeat (first | apply Kd.iq | apply Kd.gY | apply Kd.iE)); exact HO9184929.out) : p := h
theorem yY {p : Prop} (h : p := by first | exact Kd.BV _ _ _ _ _ | exact Kd.Np _ _ _ _ _ | exact Kd.NJ _ _ _ _ _ | exact Kd.Nu _ _ _ _ _ | exact Kd.Cc _ _ _ _ _) : p := h
theorem Bi {p : Prop} (h : p := by repeat (first | (with_reducible first | exact HB.out | apply gB | apply fU | apply gG | refine gX ?_ GE9246817.out) | exact HB.out)) : p := h
theorem xM {p : Prop} (h : p := by (with_reducible repeat (first | apply Kd.iq | apply Kd.gY | apply Kd.iE)); exact HO_8.out) : p := h
theorem Fp {p : Prop} (h : p := by repeat (first | (with_reducible first | exact HB.out | apply gB | apply fU | apply gG | refine gX ?_ GE9767058.out | refine gX ?_ GE9403738.out | refine gX ?_ GE9973056.out) | exact HB.out)) : p := h
theorem CW {p : Prop} (h : p := by repeat (first | (with_reducible first | exact HB.out | apply gB | apply fU | apply gG | refine gX ?_ GE9692650.out) | exact HB.out)) : p := h
theorem CB {p : Prop} (h : p := by repeat (first | (with_reducible first | exact HB.out | apply gB | apply fU | apply gG | refine gX ?_ GE9659740.out) | exact HB.out)) : p := h
theorem NE {p : Prop} (h : p := by (with_reducible repeat (first | refine fC ?_ _ | refine fH ?_ | refine fE ?_ _)); refine iJ (cs := #[.string t406, .int .i64 (-1), .slice none 0 0]) ?_ 2 _ rfl; (with_reducible repeat (first | refine fC ?_ _ | refine fH ?_ | refine fE ?_ _)); refine iJ (cs := #[.string t406, .int .i64 x403001_2, .slice none 0 0]) ?_ 1 _ rfl; (with_reducible repeat (first | refine fC ?_ _ | refine fH ?_ | refine fE ?_ _)); refine iJ (cs := #[.string x403000_2, .int .i64 x403001_2, .slice none 0 0]) ?_ 0 _ rfl; (with_reducible repeat (first | refine fC ?_ _ | refine fH ?_ | refine fE ?_ _)); refine jJ ?_ NB9048046_410.out _; (with_reducible repeat (first | refine fC ?_ _ | refine fH ?_ | refine fE ?_ _)); refine jJ ?_ NB9048046_410.out _; (with_reducible repeat (first | refine fC ?_ _ | refine fH ?_ | refine fE ?_ _)); refine jJ ?_ NB9048046_410.out _; (with_reducible repeat (first | refine fC ?_ _ | refine fH ?_ | refine fE ?_ _)); exact BK402.out) : p := h
theorem iO {p : Prop} (h : p := by decide) : p := h
theorem zJ {p : Prop} (h : p := by (with_reducible repeat (first | refine fC ?_ _ | refine fH ?_ | refine fE ?_ _)); exact BK9403738.out) : p := h
theorem zF {p : Prop} (h : p := by (with_reducible repeat (first | refine fC ?_ _ | refine fH ?_ | refine fE ?_ _)); exact BK286.out) : p := h
theorem DI {p : Prop} (h : p := by repeat (first | (with_reducible first | exact HB.out | apply gB | apply fU | apply gG | refine gX ?_ GE9319267.out) | exact HB.out)) : p := h
theorem Nq {p : Prop} (h : p := by (with_reducible repeat (first | refine fC ?_ _ | refine fH ?_ | refine fE ?_ _)); refine iJ (cs := #[.string (⟨#[]⟩ : ByteArray), .int .i64 (-1), .slice none 0 0]) ?_ 0 _ rfl; (with_reducible repeat (first | refine fC ?_ _ | refine fH ?_ | refine fE ?_ _)); refine iJ (cs := #[.string (⟨#[]⟩ : ByteArray), .int .i64 (-1), .slice none 0 0]) ?_ 2 _ rfl; (with_reducible repeat (first | refine fC ?_ _ | refine fH ?_ | refine fE ?_ _)); refine iJ (cs := #[.string (⟨#[]⟩ : ByteArray), .int .i64 0, .slice none 0 0]) ?_ 1 _ rfl; (with_reducible repeat (first | refine fC ?_ _ | refine fH ?_ | refine fE ?_ _)); refine iJ (cs := #[.string (⟨#[]⟩ : ByteArray), .int .i64 0, .slice none 0 0]) ?_ 0 _ rfl; (with_reducible repeat (first | refine fC ?_ _ | refine fH ?_ | refine fE ?_ _)); exact BK405.out) : p := h
theorem Bd {p : Prop} (h : p := by (with_reducible repeat (first | refine fC ?_ _ | refine fH ?_ | refine fE ?_ _)); exact BK405.out) : p := h
theorem MR {p : Prop} (h : p := by (with_reducible repeat (first | refine fC ?_ _ | refine fH ?_ | refine fE ?_ _)); refine iJ (cs := #[.string t411, .string (⟨#[]⟩ : ByteArray)]) ?_ 1 _ rfl; (with_reducible repeat (first | refine fC ?_ _ | refine fH ?_ | refine fE ?_ _)); refine iJ (cs := #[.string (⟨#[]⟩ : ByteArray), .string (⟨#[]⟩ : ByteArray)]) ?_ 0 _ rfl; (with_reducible repeat (first | refine fC ?_ _ | refine fH ?_ | refine fE ?_ _)); refine iJ (cs := #[.string (⟨#[]⟩ : ByteArray), .string (⟨#[]⟩ : ByteArray)]) ?_ 1 _ rfl; (with_reducible repeat (first | refine fC ?_ _ | refine fH ?_ | refine fE ?_ _)); refine iJ (cs := #[.string (⟨#[]⟩ : ByteArray), .string (⟨#[]⟩ : ByteArray)]) ?_ 0 _ rfl; (with_reducible repeat (first | refine fC ?_ _ | refine fH ?_ | refine fE ?_ _)); exact BK9603835.out) : p := h
theorem FC {p : Prop} (h : p := by repeat (first | (with_reducible first | exact HB.out | apply gB | apply fU | apply gG | refine gX ?_ GE9767058.out) | exact HB.out)) : p := h
theorem IV {p : Prop} (h : p := by repeat (first | (with_reducible first | exact HB.out | apply gB | apply fU | apply gG | refine gX ?_ GE9479672.out | refine gX ?_ GE9484629.out) | exact HB.out)) : p := h
theorem Lh {p : Prop} (h : p := by (with_reducible repeat (first | apply Kd.iq | apply Kd.gY | apply Kd.iE)); exact (Kd.iI (Kd.jM (p := ⟨gb140, 1, none⟩) (Kd.jM (p := ⟨gb140, 0, none⟩) (Kd.iI HO_130002.out (fun k_ hk => (⟨hk, hk⟩ : _ ∧ k_ ≠ gb140))) (fun _ hk => hk.2) (.string (jG ByteArray.empty y132 t135))) (fun _ hk => hk.2) (.string t138)) (fun _ h_ => h_.1))) : p := h
theorem BU {p : Prop} (h : p := by (with_reducible repeat (first | apply Kd.iq | apply Kd.gY | apply Kd.iE)); exact HO9781806.out) : p := h
theorem lI {p : Prop} (h : p := by simp) : p := h
theorem Jf {p : Prop} (h : p := by repeat (first | (with_reducible first | exact HK.out | apply gI.H6 | apply ui | apply sW | apply tY | refine sJ ?_ GW126.out _ | refine sJ ?_ GW129.out _ | refine sJ ?_ GW140.out _) | exact HK.out)) : p := h
theorem NF {p : Prop} (h : p := by (with_reducible repeat (first | refine fC ?_ _ | refine fH ?_ | refine fE ?_ _)); refine iJ (cs := #[.string (⟨#[]⟩ : ByteArray), .int .i64 (-1), .slice none 0 0]) ?_ 2 _ rfl; (with_reducible repeat (first | refine fC ?_ _ | refine fH ?_ | refine fE ?_ _)); refine iJ (cs := #[.string (⟨#[]⟩ : ByteArray), .int .i64 0, .slice none 0 0]) ?_ 1 _ rfl; (with_reducible repeat (first | refine fC ?_ _ | refine fH ?_ | refine fE ?_ _)); refine iJ (cs := #[.string (⟨#[]⟩ : ByteArray), .int .i64 0, .slice none 0 0]) ?_ 0 _ rfl; (with_reducible repeat (first | refine fC ?_ _ | refine fH ?_ | refine fE ?_ _)); exact BK9403738.out) : p := h
theorem Ew {p : Prop} (h : p := by (with_reducible repeat (first | refine fC ?_ _ | refine fH ?_ | refine fE ?_ _)); exact BK9919741.out) : p := h
theorem Dx {p : Prop} (h : p := by (with_reducible repeat (first | refine fC ?_ _ | refine fH ?_ | refine fE ?_ _)); exact BK9246817.out) : p := h
theorem DU {p : Prop} (h : p := by (with_reducible repeat (first | refine fC ?_ _ | refine fH ?_ | refine fE ?_ _)); exact BK9375158.out) : p := h
theorem DZ {p : Prop} (h : p := by (with_reducible repeat (first | refine fC ?_ _ | refine fH ?_ | refine fE ?_ _)); exact BK9367706.out) : p := h
theorem pq {p : Prop} (h : p := by have := HK1.out; omega) : p := h
theorem Jk {p : Prop} (h : p := by repeat (first | (with_reducible first | exact HB.out | apply gB | apply fU | apply gG | refine gX ?_ GE402.out | refine gX ?_ GE405.out | refine gX ?_ GE9213353.out) | exact HB.out)) : p := h
theorem J4 {p : Prop} (h : p := by repeat (first | (with_reducible first | exact HB.out | apply gB | apply fU | apply gG | refine gX ?_ GE402.out | refine gX ?_ GE405.out | refine gX ?_ GE9603835.out) | exact HB.out)) : p := h
theorem NH {p : Prop} (h : p := by (with_reducible repeat (first | refine fC ?_ _ | refine fH ?_ | refine fE ?_ _)); refine jJ ?_ NB402_405.out _; (with_reducible repeat (first | refine fC ?_ _ | refine fH ?_ | refine fE ?_ _)); refine jJ ?_ NB402_405.out _; (with_reducible repeat (first | refine fC ?_ _ | refine fH ?_ | refine fE ?_ _)); refine jJ ?_ NB402_405.out _; (with_reducible repeat (first | refine fC ?_ _ | refine fH ?_ | refine fE ?_ _)); refine jJ ?_ NB402_405.out _; (with_reducible repeat (first | refine fC ?_ _ | refine fH ?_ | refine fE ?_ _)); exact BK402.out) : p := h
theorem Iu {p : Prop} (h : p := by repeat (first | (with_reducible first | exact HB.out | apply gB | apply fU | apply gG | refine gX ?_ GE364.out) | exact HB.out)) : p := h
theorem Ht {p : Prop} (h : p := by repeat (first | (with_reducible first | exact HB.out | apply gB | apply fU | apply gG | refine gX ?_ GE286.out) | exact HB.out)) : p := h
theorem En {p : Prop} (h : p := by (with_reducible repeat (first | apply Kd.iq | apply Kd.gY | apply Kd.iE)); exact HO_482002.out) : p := h
theorem Ez {p : Prop} (h : p := by (with_reducible repeat (first | apply Kd.iq | apply Kd.gY | apply Kd.iE)); exact HO_6.out) : p := h
theorem DD {p : Prop} (h : p := by (with_reducible repeat (first | apply Kd.iq | apply Kd.gY | apply Kd.iE)); exact HO_3.out) : p := h
theorem jv {p : Prop} (h : p := by omega) : p := h
theorem Fz {p : Prop} (h : p := by (with_reducible repeat (first | refine fC ?_ _ | refine fH ?_ | refine fE ?_ _)); exact BK471.out) : p := h
theorem Jh {p : Prop} (h : p := by (try simp only [List.map_toArray, List.map_cons, List.map_nil]); first | done | rfl | (simp only [List.length_drop, List.length_take]; rfl) | (go_simp; done) | (simp [Act.eval, bne]; done)) : p := h
theorem Jm {p : Prop} (h : p := by (with_reducible repeat (first | apply Kd.iq | apply Kd.gY | apply Kd.iE)); exact Kd.iI HO9369609.out (fun _ hk => ⟨⟨hk.1.1.1.1, ⟨hk.1.2, hk.2⟩⟩, hk.1.1.2⟩)) : p := h
theorem Jb {p : Prop} (h : p := by (with_reducible repeat (first | apply Kd.iq | apply Kd.gY | apply Kd.iE)); exact Kd.iI HO9184929.out (fun _ hk => ⟨⟨hk.1.1.1.1, ⟨hk.1.2, hk.2⟩⟩, hk.1.1.2⟩)) : p := h
theorem Jv {p : Prop} (h : p := by (with_reducible repeat (first | apply Kd.iq | apply Kd.gY | apply Kd.iE)); exact Kd.iI HO9369609.out (fun _ hk => ⟨hk.1.1, ⟨hk.2, ⟨hk.1.2.2, hk.1.2.1⟩⟩⟩)) : p := h
theorem JX {p : Prop} (h : p := by (with_reducible repeat (first | apply Kd.iq | apply Kd.gY | apply Kd.iE)); exact Kd.iI HO9184929.out (fun _ hk => ⟨hk.1.1, ⟨hk.1.2.2, ⟨hk.2, hk.1.2.1⟩⟩⟩)) : p := h
theorem NG {p : Prop} (h : p := by (with_reducible repeat (first | refine fC ?_ _ | refine fH ?_ | refine fE ?_ _)); refine jJ ?_ NB9767058_481.out _; (with_reducible repeat (first | refine fC ?_ _ | refine fH ?_ | refine fE ?_ _)); refine jJ ?_ NB9767058_481.out _; (with_reducible repeat (first | refine fC ?_ _ | refine fH ?_ | refine fE ?_ _)); refine jJ ?_ NB9767058_481.out _; (with_reducible repeat (first | refine fC ?_ _ | refine fH ?_ | refine fE ?_ _)); exact BK9767058.out) : p := h
theorem Jn {p : Prop} (h : p := by (with_reducible repeat (first | apply Kd.iq | apply Kd.gY | apply Kd.iE)); exact Kd.iI HO_1000.out (fun _ hk => ⟨hk.1.1.1, ⟨hk.1.1.2, ⟨hk.1.2, hk.2⟩⟩⟩)) : p := h
theorem J8 {p : Prop} (h : p := by (with_reducible repeat (first | apply Kd.iq | apply Kd.gY | apply Kd.iE)); exact Kd.iI HO_1001.out (fun _ hk => ⟨⟨hk.1.1.1, ⟨hk.1.2, hk.2⟩⟩, hk.1.1.2⟩)) : p := h
theorem LV {p : Prop} (h : p := by repeat (first | (with_reducible first | exact HB.out | apply gB | apply fU | apply gG | refine gX ?_ (fK.ge HI0.out) | refine gX ?_ GE126.out | refine gX ?_ GE129.out | refine gX ?_ GE140.out) | exact HB.out)) : p := h
theorem Gf {p : Prop} (h : p := by (with_reducible repeat (first | apply Kd.nI | apply Kd.nH | apply Kd.nS)); exact HO9329344.out) : p := h
theorem MS {p : Prop} (h : p := by (with_reducible repeat (first | refine fC ?_ _ | refine fH ?_ | refine fE ?_ _)); refine iJ (cs := #[.string (jG ByteArray.empty y132 t135), .string (⟨#[]⟩ : ByteArray)]) ?_ 1 _ rfl; (with_reducible repeat (first | refine fC ?_ _ | refine fH ?_ | refine fE ?_ _)); refine iJ (cs := #[.string (⟨#[]⟩ : ByteArray), .string (⟨#[]⟩ : ByteArray)]) ?_ 0 _ rfl; (with_reducible repeat (first | refine fC ?_ _ | refine fH ?_ | refine fE ?_ _)); exact BK140.out) : p := h
theorem Ja {p : Prop} (h : p := by repeat (first | (with_reducible first | exact HK.out | apply gI.H6 | apply ui | apply sW | apply tY | refine sJ ?_ GW126.out _) | exact HK.out)) : p := h
theorem Lu {p : Prop} (h : p := by repeat (first | (with_reducible first | exact HI0.out | apply fK.alloc | apply fK.drewN | apply fK.drew | apply fK.kZ | refine fK.far ?_ NB0_126.out _ | refine fK.far ?_ NB0_129.out _ | refine fK.far ?_ NB0_140.out _) | exact HI0.out)) : p := h
theorem J5 {p : Prop} (h : p := by repeat (first | (with_reducible first | exact HB.out | apply gB | apply fU | apply gG | refine gX ?_ GE9246348.out) | exact HB.out)) : p := h
theorem Jy {p : Prop} (h : p := by repeat (first | (with_reducible first | exact HB.out | apply gB | apply fU | apply gG | refine gX ?_ GE402.out) | exact HB.out)) : p := h
theorem Nr {p : Prop} (h : p := by (with_reducible repeat (first | apply Kd.iq | apply Kd.gY | apply Kd.iE)); exact Kd.iI (Kd.jM (p := ⟨gb9246348, 2, none⟩) (Kd.jM (p := ⟨gb9246348, 1, none⟩) (Kd.jM (p := ⟨gb9246348, 0, none⟩) (Kd.kU HO_5.out BK9246348.out iO) (fun _ hk => hk.2) (.string ((fJ l0 x11_1).f0))) (fun _ hk => hk.2) (.int .i64 ((fJ l0 x11_1).f1))) (fun _ hk => hk.2) (.slice A9922068_2 ((fJ l0 x11_1).f2).length c9922068_2)) (fun _ hk => trivial)) : p := h
theorem Hf {p : Prop} (h : p := by (with_reducible repeat (first | refine fC ?_ _ | refine fH ?_ | refine fE ?_ _)); exact BK9692650.out) : p := h
theorem FU {p : Prop} (h : p := by simp only [vY, Act.put, List.setIfInBounds_toArray, List.set_cons_zero, List.set_cons_succ]) : p := h
theorem I5 {p : Prop} (h : p := by (with_reducible repeat (first | refine fC ?_ _ | refine fH ?_ | refine fE ?_ _)); exact BK126.out) : p := h
theorem Gp {p : Prop} (h : p := by (with_reducible repeat (first | apply Kd.iq | apply Kd.gY | apply Kd.iE)); exact HO_523001.out) : p := h
theorem KO {p : Prop} (h : p := by repeat (first | (with_reducible first | exact HK.out | apply gI.H6 | apply ui | apply sW | apply tY | refine sJ ?_ GW126.out _ | refine sJ ?_ GW129.out _) | exact HK.out)) : p := h
theorem Gu {p : Prop} (h : p := by (with_reducible repeat (first | apply Kd.iq | apply Kd.gY | apply Kd.iE)); exact HO0_0.out) : p := h
theorem Gj {p : Prop} (h : p := by (with_reducible repeat (first | apply Kd.iq | apply Kd.gY | apply Kd.iE)); exact HO0_1.out) : p := h
theorem Ic {p : Prop} (h : p := by (with_reducible repeat (first | apply Kd.iq | apply Kd.gY | apply Kd.iE)); exact HO_5.out) : p := h
theorem Ih {p : Prop} (h : p := by (with_reducible repeat (first | apply Kd.iq | apply Kd.gY | apply Kd.iE)); exact HO_4.out) : p := h
theorem LH {p : Prop} (h : p := by repeat (first | (with_reducible first | exact HB.out | apply gB | apply fU | apply gG | refine gX ?_ GE9375158.out | refine gX ?_ GE9929280.out) | exact HB.out)) : p := h
theorem KL {p : Prop} (h : p := by repeat (first | (with_reducible exact HR9548309_2.out) | (with_reducible refine Kd.jh ?_ _) | (with_reducible refine Kd.jk ?_ _) | (with_reducible refine Kd.jK ?_) | exact HR9548309_2.out)) : p := h
theorem Nc {p : Prop} (h : p := by (with_reducible repeat (first | refine fC ?_ _ | refine fH ?_ | refine fE ?_ _)); refine jJ ?_ NB126_140.out _; (with_reducible repeat (first | refine fC ?_ _ | refine fH ?_ | refine fE ?_ _)); refine jJ ?_ NB126_140.out _; (with_reducible repeat (first | refine fC ?_ _ | refine fH ?_ | refine fE ?_ _)); exact BK126.out) : p := h
theorem NK {p : Prop} (h : p := by (with_reducible repeat (first | refine fC ?_ _ | refine fH ?_ | refine fE ?_ _)); refine jJ ?_ NB129_140.out _; (with_reducible repeat (first | refine fC ?_ _ | refine fH ?_ | refine fE ?_ _)); refine jJ ?_ NB129_140.out _; (with_reducible repeat (first | refine fC ?_ _ | refine fH ?_ | refine fE ?_ _)); exact BK129.out) : p := h
theorem Ji {p : Prop} (h : p := by (with_reducible repeat (first | refine fC ?_ _ | refine fH ?_ | refine fE ?_ _)); exact BK9659740.out) : p := h
theorem J6 {p : Prop} (h : p := by (with_reducible repeat (first | refine fC ?_ _ | refine fH ?_ | refine fE ?_ _)); exact BK364.out) : p := h
theorem Lt {p : Prop} (h : p := by first | rfl | (simp [mr, mg] <;> rfl) | (simp only [← hji12]; first | rfl | (simp [mr, mg] <;> rfl)) | (simp [*, mr, mg] <;> rfl)) : p := h
theorem yU {p : Prop} (h : p := by first | omega | exact Nat.le_refl _) : p := h
theorem Iq {p : Prop} (h : p := by repeat (first | (with_reducible first | exact HB.out | apply gB | apply fU | apply gG | refine gX ?_ GE9167124.out) | exact HB.out)) : p := h
theorem IJ {p : Prop} (h : p := by repeat (first | (with_reducible first | exact HB.out | apply gB | apply fU | apply gG | refine gX ?_ GE9479672.out) | exact HB.out)) : p := h
theorem Ij {p : Prop} (h : p := by repeat (first | (with_reducible first | exact HB.out | apply gB | apply fU | apply gG | refine gX ?_ GE262.out) | exact HB.out)) : p := h
theorem EH {p : Prop} (h : p := by (with_reducible repeat (first | apply Kd.iq | apply Kd.gY | apply Kd.iE)); exact HO9991688.out) : p := h
theorem EZ {p : Prop} (h : p := by (with_reducible repeat (first | apply Kd.iq | apply Kd.gY | apply Kd.iE)); exact HO_406002.out) : p := h
theorem Ia {p : Prop} (h : p := by have := HJ1.out; have := HJ15.out; have := HJ17.out; have := HK9175678.out; have := HJ29.out; have := HJ38.out; have := HJ44.out; have := HK9663637.out; omega) : p := h
theorem Gh {p : Prop} (h : p := by have h_ : (0 : Int) < ((t172.length : Int) : Int) := of_decide_eq_true y1_; first | exact h_ | (have e_ := (Kd.kD HO174.out).1; omega) | simpa using h_) : p := h
theorem GH {p : Prop} (h : p := by have h_ : (0 : Int) < ((t172.length : Int) : Int) := of_decide_eq_true y1_; first | exact h_ | (have e_ := (HN47.out); omega) | simpa using h_) : p := h
theorem CJ {p : Prop} (h : p := by have := HJ1.out; have := HK2.out; first | omega | exact Nat.le_refl _) : p := h
theorem H8 {p : Prop} (h : p := by first | (rw [add_block]; exact hn9948501_0) | (show (Addr.add _ _).block ≠ _; rw [add_block]; exact hn9948501_0) | exact hn9948501_0) : p := h
theorem IX {p : Prop} (h : p := by first | (rw [add_block]; exact hn9948501_1) | (show (Addr.add _ _).block ≠ _; rw [add_block]; exact hn9948501_1) | exact hn9948501_1) : p := h
theorem Ii {p : Prop} (h : p := by first | (rw [add_block]; exact hn9948501_2) | (show (Addr.add _ _).block ≠ _; rw [add_block]; exact hn9948501_2) | exact hn9948501_2) : p := h
theorem Kz {p : Prop} (h : p := by (with_reducible repeat (first | refine fC ?_ _ | refine fH ?_ | refine fE ?_ _)); refine jJ ?_ NB9767058_481.out _; (with_reducible repeat (first | refine fC ?_ _ | refine fH ?_ | refine fE ?_ _)); exact BK9767058.out) : p := h
theorem IR {p : Prop} (h : p := by (with_reducible repeat (first | refine fC ?_ _ | refine fH ?_ | refine fE ?_ _)); exact BK9167124.out) : p := h
theorem G5 {p : Prop} (h : p := by (with_reducible repeat (first | refine fC ?_ _ | refine fH ?_ | refine fE ?_ _)); exact BK9319267.out) : p := h
theorem Kv {p : Prop} (h : p := by repeat (first | (with_reducible first | exact HB.out | apply gB | apply fU | apply gG | refine gX ?_ (fK.ge HI0.out) | refine gX ?_ GE126.out | refine gX ?_ GE129.out) | exact HB.out)) : p := h
theorem Kw {p : Prop} (h : p := by repeat (first | (with_reducible first | exact HI0.out | apply fK.alloc | apply fK.drewN | apply fK.drew | apply fK.kZ | refine fK.far ?_ NB0_126.out _ | refine fK.far ?_ NB0_129.out _) | exact HI0.out)) : p := h
theorem IP {p : Prop} (h : p := by (with_reducible repeat (first | apply Kd.iq | apply Kd.gY | apply Kd.iE)); exact HO9833658.out) : p := h
theorem I4 {p : Prop} (h : p := by (with_reducible repeat (first | apply Kd.nI | apply Kd.nH | apply Kd.nS)); exact HO9527429.out) : p := h
theorem Gt {p : Prop} (h : p := by (with_reducible repeat (first | apply Kd.nI | apply Kd.nH | apply Kd.nS)); exact HO9369609.out) : p := h
theorem Iy {p : Prop} (h : p := by (with_reducible repeat (first | apply Kd.iq | apply Kd.gY | apply Kd.iE)); exact HO9916980.out) : p := h
theorem H9 {p : Prop} (h : p := by (with_reducible repeat (first | apply Kd.iq | apply Kd.gY | apply Kd.iE)); exact HO9551685.out) : p := h
theorem GU {p : Prop} (h : p := by (with_reducible repeat (first | apply Kd.iq | apply Kd.gY | apply Kd.iE)); exact HO198.out) : p := h
theorem Kt {p : Prop} (h : p := by repeat (first | (with_reducible exact HR9922068_2.out) | (with_reducible refine Kd.jh ?_ _) | (with_reducible refine Kd.jk ?_ _) | (with_reducible refine Kd.jK ?_) | exact HR9922068_2.out)) : p := h
theorem Ku {p : Prop} (h : p := by repeat (first | (with_reducible first | exact HB.out | apply gB | apply fU | apply gG | refine gX ?_ GE364.out | refine gX ?_ GE9345616.out) | exact HB.out)) : p := h
theorem yd_ {p : Prop} (h : p := by first | exact ⟨rfl, _, World.drewN_drewN _ _ _⟩ | exact ⟨rfl, _, Eq.trans (World.drewN_drewN _ _ _) (congrArg (World.drewN _) (Nat.add_assoc _ _ _))⟩) : p := h
theorem t2_ : True ∧ True := ⟨t_, t_⟩
theorem t3_ : True ∧ True ∧ True := ⟨t_, t_, t_⟩
theorem t4_ : True ∧ True ∧ True ∧ True := ⟨t_, t_, t_, t_⟩
theorem bd_ {α β : Type} {o : Option α} {f : α → Option β} {r : β} (h : o.bind f = some r) : ∃ a, fD (o = some a) ∧ f a = some r := by
  obtain ⟨a, h1, h2⟩ := Option.bind_eq_some_iff.mp h
  exact ⟨a, ⟨h1⟩, h2⟩
theorem ie_ {β : Type} [BEq β] [LawfulBEq β] {a b : β} [Decidable (a = b)] {α : Type} {x y : Option α} {r : Option α} (h : (if a = b then x else y) = r) : ((a == b) = true ∧ (a != b) = false ∧ a = b ∧ x = r) ∨ ((a == b) = false ∧ (a != b) = true ∧ ¬ a = b ∧ y = r) := by
  by_cases hc : a = b
  · rw [if_pos hc] at h; exact .inl ⟨beq_iff_eq.mpr hc, bne_eq_false_iff_eq.mpr hc, hc, h⟩
  · rw [if_neg hc] at h; exact .inr ⟨beq_eq_false_iff_ne.mpr hc, bne_iff_ne.mpr hc, hc, h⟩
theorem kd_ {c : Prop} [Decidable c] {α : Type} {x : Option α} {r : α} (h : (if c then x else none) = some r) : decide c = true ∧ (c) ∧ x = some r := by
  by_cases hc : c
  · rw [if_pos hc] at h; exact ⟨decide_eq_true hc, hc, h⟩
  · rw [if_neg hc] at h; cases h
theorem qU {β : Type} [LT β] {a b : β} [Decidable (b < a)] {α : Type} {x y : Option α} {r : Option α} (h : (if a > b then x else y) = r) : (decide (b < a) = true ∧ (a > b) ∧ x = r) ∨ (decide (b < a) = false ∧ ¬ (a > b) ∧ y = r) := by
  by_cases hc : a > b
  · rw [if_pos hc] at h; exact .inl ⟨decide_eq_true hc, hc, h⟩
  · rw [if_neg hc] at h; exact .inr ⟨decide_eq_false hc, hc, h⟩
theorem id_ {c : Prop} [Decidable c] {α : Type} {x y : Option α} {r : Option α} (h : (if c then x else y) = r) : (decide c = true ∧ (c) ∧ x = r) ∨ (decide c = false ∧ ¬ (c) ∧ y = r) := by
  by_cases hc : c
  · rw [if_pos hc] at h; exact .inl ⟨decide_eq_true hc, hc, h⟩
  · rw [if_neg hc] at h; exact .inr ⟨decide_eq_false hc, hc, h⟩
theorem tC {β : Type} [LE β] {a b : β} [Decidable (b ≤ a)] {α : Type} {x y : Option α} {r : Option α} (h : (if a ≥ b then x else y) = r) : (decide (b ≤ a) = true ∧ (a ≥ b) ∧ x = r) ∨ (decide (b ≤ a) = false ∧ ¬ (a ≥ b) ∧ y = r) := by
  by_cases hc : a ≥ b
  · rw [if_pos hc] at h; exact .inl ⟨decide_eq_true hc, hc, h⟩
  · rw [if_neg hc] at h; exact .inr ⟨decide_eq_false hc, hc, h⟩
theorem kq_ {c : Prop} [Decidable c] {α : Type} {x : Option α} {r : α} (h : (if c then x else none) = some r) : (c) = True ∧ decide c = true ∧ (c) ∧ x = some r := by
  by_cases hc : c
  · rw [if_pos hc] at h; exact ⟨eq_true hc, decide_eq_true hc, hc, h⟩
  · rw [if_neg hc] at h; cases h
theorem j2_ {T0 T1 : Type} {a0 b0 : T0} {a1 b1 : T1} (h : some (a0, a1) = some (b0, b1)) : a0 = b0 ∧ a1 = b1 := by simpa using h
theorem mP {w : World} {g : Nat} {t : TypeId} {a0 a1 a2 : Value} (h : w.heap[g]? = some (.cells #[a0, a1, a2] t (0, 0))) : w.cell? ⟨g, 0, none⟩ = some a0 ∧ w.cell? ⟨g, 1, none⟩ = some a1 ∧ w.cell? ⟨g, 2, none⟩ = some a2 ∧ w.frozen? ⟨g, 0, none⟩ = false ∧ w.frozen? ⟨g, 1, none⟩ = false ∧ w.frozen? ⟨g, 2, none⟩ = false := ⟨(fO h 0).trans rfl, (fO h 1).trans rfl, (fO h 2).trans rfl, jT h 0, jT h 1, jT h 2⟩
theorem pO {w : World} {g : Nat} {t : TypeId} {a0 a1 : Value} (h : w.heap[g]? = some (.cells #[a0, a1] t (0, 0))) : w.cell? ⟨g, 0, none⟩ = some a0 ∧ w.cell? ⟨g, 1, none⟩ = some a1 ∧ w.frozen? ⟨g, 0, none⟩ = false ∧ w.frozen? ⟨g, 1, none⟩ = false := ⟨(fO h 0).trans rfl, (fO h 1).trans rfl, jT h 0, jT h 1⟩
theorem s2_ {p0 p1 : Prop} (h0 : p0) (h1 : p1) : fD p0 ∧ fD p1 := ⟨⟨h0⟩, ⟨h1⟩⟩
theorem s5_ {p0 p1 p2 p3 p4 : Prop} (h0 : p0) (h1 : p1) (h2 : p2) (h3 : p3) (h4 : p4) : fD p0 ∧ fD p1 ∧ fD p2 ∧ fD p3 ∧ fD p4 := ⟨⟨h0⟩, ⟨h1⟩, ⟨h2⟩, ⟨h3⟩, ⟨h4⟩⟩
theorem s3_ {p0 p1 p2 : Prop} (h0 : p0) (h1 : p1) (h2 : p2) : fD p0 ∧ fD p1 ∧ fD p2 := ⟨⟨h0⟩, ⟨h1⟩, ⟨h2⟩⟩
theorem s4_ {p0 p1 p2 p3 : Prop} (h0 : p0) (h1 : p1) (h2 : p2) (h3 : p3) : fD p0 ∧ fD p1 ∧ fD p2 ∧ fD p3 := ⟨⟨h0⟩, ⟨h1⟩, ⟨h2⟩, ⟨h3⟩⟩
theorem s7_ {p0 p1 p2 p3 p4 p5 p6 : Prop} (h0 : p0) (h1 : p1) (h2 : p2) (h3 : p3) (h4 : p4) (h5 : p5) (h6 : p6) : fD p0 ∧ fD p1 ∧ fD p2 ∧ fD p3 ∧ fD p4 ∧ fD p5 ∧ fD p6 := ⟨⟨h0⟩, ⟨h1⟩, ⟨h2⟩, ⟨h3⟩, ⟨h4⟩, ⟨h5⟩, ⟨h6⟩⟩
theorem kl_ {c : Prop} [Decidable c] {α : Type} {x : Option α} {r : α} (h : (if c then x else none) = some r) : fD c ∧ x = some r := by
  by_cases hc : c
  · rw [if_pos hc] at h; exact ⟨⟨hc⟩, h⟩
  · rw [if_neg hc] at h; cases h
theorem t7_ : True ∧ True ∧ True ∧ True ∧ True ∧ True ∧ True := ⟨t_, t_, t_, t_, t_, t_, t_⟩
theorem t6_ : True ∧ True ∧ True ∧ True ∧ True ∧ True := ⟨t_, t_, t_, t_, t_, t_⟩
theorem s6_ {p0 p1 p2 p3 p4 p5 : Prop} (h0 : p0) (h1 : p1) (h2 : p2) (h3 : p3) (h4 : p4) (h5 : p5) : fD p0 ∧ fD p1 ∧ fD p2 ∧ fD p3 ∧ fD p4 ∧ fD p5 := ⟨⟨h0⟩, ⟨h1⟩, ⟨h2⟩, ⟨h3⟩, ⟨h4⟩, ⟨h5⟩⟩
theorem s8_ {p0 p1 p2 p3 p4 p5 p6 p7 : Prop} (h0 : p0) (h1 : p1) (h2 : p2) (h3 : p3) (h4 : p4) (h5 : p5) (h6 : p6) (h7 : p7) : fD p0 ∧ fD p1 ∧ fD p2 ∧ fD p3 ∧ fD p4 ∧ fD p5 ∧ fD p6 ∧ fD p7 := ⟨⟨h0⟩, ⟨h1⟩, ⟨h2⟩, ⟨h3⟩, ⟨h4⟩, ⟨h5⟩, ⟨h6⟩, ⟨h7⟩⟩
theorem Ob {p0 p1 p2 p3 p4 p5 p6 p7 p8 p9 p10 p11 p12 : Prop} (h0 : p0) (h1 : p1) (h2 : p2) (h3 : p3) (h4 : p4) (h5 : p5) (h6 : p6) (h7 : p7) (h8 : p8) (h9 : p9) (h10 : p10) (h11 : p11) (h12 : p12) : fD p0 ∧ fD p1 ∧ fD p2 ∧ fD p3 ∧ fD p4 ∧ fD p5 ∧ fD p6 ∧ fD p7 ∧ fD p8 ∧ fD p9 ∧ fD p10 ∧ fD p11 ∧ fD p12 := ⟨⟨h0⟩, ⟨h1⟩, ⟨h2⟩, ⟨h3⟩, ⟨h4⟩, ⟨h5⟩, ⟨h6⟩, ⟨h7⟩, ⟨h8⟩, ⟨h9⟩, ⟨h10⟩, ⟨h11⟩, ⟨h12⟩⟩
theorem j5_ {T0 T1 T2 T3 T4 : Type} {a0 b0 : T0} {a1 b1 : T1} {a2 b2 : T2} {a3 b3 : T3} {a4 b4 : T4} (h : some (a0, a1, a2, a3, a4) = some (b0, b1, b2, b3, b4)) : a0 = b0 ∧ a1 = b1 ∧ a2 = b2 ∧ a3 = b3 ∧ a4 = b4 := by simpa using h
theorem LW {p0 p1 p2 p3 p4 p5 p6 p7 p8 p9 p10 : Prop} (h0 : p0) (h1 : p1) (h2 : p2) (h3 : p3) (h4 : p4) (h5 : p5) (h6 : p6) (h7 : p7) (h8 : p8) (h9 : p9) (h10 : p10) : fD p0 ∧ fD p1 ∧ fD p2 ∧ fD p3 ∧ fD p4 ∧ fD p5 ∧ fD p6 ∧ fD p7 ∧ fD p8 ∧ fD p9 ∧ fD p10 := ⟨⟨h0⟩, ⟨h1⟩, ⟨h2⟩, ⟨h3⟩, ⟨h4⟩, ⟨h5⟩, ⟨h6⟩, ⟨h7⟩, ⟨h8⟩, ⟨h9⟩, ⟨h10⟩⟩
theorem t9_ : True ∧ True ∧ True ∧ True ∧ True ∧ True ∧ True ∧ True ∧ True := ⟨t_, t_, t_, t_, t_, t_, t_, t_, t_⟩
theorem t8_ : True ∧ True ∧ True ∧ True ∧ True ∧ True ∧ True ∧ True := ⟨t_, t_, t_, t_, t_, t_, t_, t_⟩
theorem j3_ {T0 T1 T2 : Type} {a0 b0 : T0} {a1 b1 : T1} {a2 b2 : T2} (h : some (a0, a1, a2) = some (b0, b1, b2)) : a0 = b0 ∧ a1 = b1 ∧ a2 = b2 := by simpa using h
theorem t5_ : True ∧ True ∧ True ∧ True ∧ True := ⟨t_, t_, t_, t_, t_⟩
theorem N9 {p0 p1 p2 p3 p4 p5 p6 p7 p8 p9 p10 p11 : Prop} (h0 : p0) (h1 : p1) (h2 : p2) (h3 : p3) (h4 : p4) (h5 : p5) (h6 : p6) (h7 : p7) (h8 : p8) (h9 : p9) (h10 : p10) (h11 : p11) : fD p0 ∧ fD p1 ∧ fD p2 ∧ fD p3 ∧ fD p4 ∧ fD p5 ∧ fD p6 ∧ fD p7 ∧ fD p8 ∧ fD p9 ∧ fD p10 ∧ fD p11 := ⟨⟨h0⟩, ⟨h1⟩, ⟨h2⟩, ⟨h3⟩, ⟨h4⟩, ⟨h5⟩, ⟨h6⟩, ⟨h7⟩, ⟨h8⟩, ⟨h9⟩, ⟨h10⟩, ⟨h11⟩⟩
theorem j4_ {T0 T1 T2 T3 : Type} {a0 b0 : T0} {a1 b1 : T1} {a2 b2 : T2} {a3 b3 : T3} (h : some (a0, a1, a2, a3) = some (b0, b1, b2, b3)) : a0 = b0 ∧ a1 = b1 ∧ a2 = b2 ∧ a3 = b3 := by simpa using h
theorem Oe : True ∧ True ∧ True ∧ True ∧ True ∧ True ∧ True ∧ True ∧ True ∧ True ∧ True ∧ True ∧ True := ⟨t_, t_, t_, t_, t_, t_, t_, t_, t_, t_, t_, t_, t_⟩
theorem OE : True ∧ True ∧ True ∧ True ∧ True ∧ True ∧ True ∧ True ∧ True ∧ True ∧ True ∧ True := ⟨t_, t_, t_, t_, t_, t_, t_, t_, t_, t_, t_, t_⟩
theorem Ju : True ∧ True ∧ True ∧ True ∧ True ∧ True ∧ True ∧ True ∧ True ∧ True ∧ True := ⟨t_, t_, t_, t_, t_, t_, t_, t_, t_, t_, t_⟩
theorem s9_ {p0 p1 p2 p3 p4 p5 p6 p7 p8 : Prop} (h0 : p0) (h1 : p1) (h2 : p2) (h3 : p3) (h4 : p4) (h5 : p5) (h6 : p6) (h7 : p7) (h8 : p8) : fD p0 ∧ fD p1 ∧ fD p2 ∧ fD p3 ∧ fD p4 ∧ fD p5 ∧ fD p6 ∧ fD p7 ∧ fD p8 := ⟨⟨h0⟩, ⟨h1⟩, ⟨h2⟩, ⟨h3⟩, ⟨h4⟩, ⟨h5⟩, ⟨h6⟩, ⟨h7⟩, ⟨h8⟩⟩
end Go.Proofs.YtbibioffldkanaaGreatDoor.K
