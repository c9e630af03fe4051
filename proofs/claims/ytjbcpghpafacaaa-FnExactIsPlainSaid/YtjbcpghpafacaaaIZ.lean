/- Words for this seat's texts: steps that stand alike in many places, each under a name. No condition. -/
import Derived.ArgAppend
import Derived.Below
import Derived.BigQuiet
import Derived.Deep.AppendLies
import Derived.Deep.CutBlock
import Derived.Deep.DeepCutAuto
import Derived.Deep.Draws
import Derived.Deep.LoopGhost
import Derived.Deep.OwnRows
import Derived.Deep.QuietTactic
import Derived.Deep.RegionHeld3
import Derived.KernelRfl
import Derived.Laws.BitsLemmas
import Derived.Laws.BytesArg
import Derived.Laws.IdiomCopy
import Derived.Laws.MakeOwn
import Derived.Laws.OwnMore
import Derived.Laws.Rows
import Derived.Laws.Slices
import Derived.Lib.AppendStr
import Derived.Lib.ConvBytes
import Derived.Maps.AppendAt
import Derived.OrdersHeld
import Derived.OwnWalk
import Derived.RowKit
import Derived.RowKit3
import Derived.Tactics
import Derived.Test.YtjbcpghpafacaaaProg
import Derived.Test.YtjbcpghpafacaaaWApart
import Derived.Test.YtjbcpghpafacaaaWArr
import Derived.Test.YtjbcpghpafacaaaWAt
import Derived.Test.YtjbcpghpafacaaaWEqStruct
import Derived.Test.YtjbcpghpafacaaaWFoot
import Derived.Test.YtjbcpghpafacaaaWFootNe
import Derived.Test.YtjbcpghpafacaaaWFour
import Derived.Test.YtjbcpghpafacaaaWGuard
import Derived.Test.YtjbcpghpafacaaaWInv
import Derived.Test.YtjbcpghpafacaaaWInvWords
import Derived.Test.YtjbcpghpafacaaaWKept
import Derived.Test.YtjbcpghpafacaaaWLast
import Derived.Test.YtjbcpghpafacaaaWMore
import Derived.Test.YtjbcpghpafacaaaWN
import Derived.Test.YtjbcpghpafacaaaWNEv
import Derived.Test.YtjbcpghpafacaaaWQPut
import Derived.Test.YtjbcpghpafacaaaWRepsOne
import Derived.Test.YtjbcpghpafacaaaWShare
import Derived.Test.YtjbcpghpafacaaaWTab
import Derived.Test.YtjbcpghpafacaaaWWords
import Derived.Test.YtjbcpghpafacaaaWZeros
import Derived.Test.YtjbcpghpafacaaaXWords
import Derived.WalkKit
import Derived.WideLaws
namespace Go.Proofs.Ytjbcpghpafacaaa.I
open Go.RowKit Go.Proofs.YtjbcpghpafacaaaW.PrintWords Go.Proofs.YtjbcpghpafacaaaW.PrintLast Go.Proofs.YtjbcpghpafacaaaW.PrintMore
theorem cT_ {w w' : World} {p : Addr} {v : Value} (hB : Below w.heap.size w w') (hx : w.cell? p = some v) : w'.cell? p = some v := (hB.cell (World.block_lt_of_cell? w _ hx)).trans hx
section
variable {P : Program} {ops : Array Oper} {Q : Exit → Act → World → Prop}
theorem gc_ {rest : List Oper} {oi : Oper} {a : Act} {w : World} (f : FuncId) (d : Nat) {fn : Func} {as_ : Array Operand} {ts_ : Array TypeId} (hf : P.funcs[f]? = some fn) (args : Array Value) (h : Calls P f args w fun e w' => ∃ v, e = .returned v ∧ wpList P ops Q rest (a.put (some d) v) w') (hd : oi.dst = some d := by rfl) (hg : oi.guard = none := by rfl) (hop : oi.op = .call { callee := .value (.func f), args := as_, argTypes := ts_ } := by rfl) (hname : (fn.name == "runtime.NumGoroutine") = false := by kernel_rfl) (hb : fn.body.isSome = true := by rfl) (hargs : as_.map a.eval = args := by (try simp only [List.map_toArray, List.map_cons, List.map_nil]); first | done | rfl | (simp only [List.length_drop, List.length_take]; rfl) | (go_simp; done) | (simp [Act.eval, bne]; done)) : wpList P ops Q (oi :: rest) a w := goesL_ (some d) hd hg hf hname hb args hop hargs h
end
theorem a_ {p : Prop} (h : p) : Aside0 p := ⟨h⟩
theorem t_ : True := True.intro
abbrev T_ : Bool := true
abbrev F_ : Bool := false
theorem zr_ {p : Prop} (h : p := by rfl) : p := h
theorem zs_ {p : Prop} (h : p := by first | (go_simp; done) | (go_simp; rfl)) : p := h
theorem z0_ {p : Prop} (h : p := by first | (rw [hy_]; with_reducible exact H) | (have H2_ := (Option.bind_some _ _).symm.trans H; rw [hy_]; with_reducible exact H2_) | (have H2_ := (Option.bind_some _ _).symm.trans H; with_reducible exact H2_) | with_reducible exact H | (rw [hy_]; exact H) | exact H) : p := h
theorem z1_ {p : Prop} (h : p := by exact any_of HT_.out (by kernel_rfl)) : p := h
theorem z2_ {p : Prop} (h : p := by intro w'; go_simp; with_reducible rfl) : p := h
theorem z3_ {p : Prop} (h : p := by simp only [Act.put, List.setIfInBounds_toArray, List.set_cons_zero, List.set_cons_succ, i64_w, i32_w]; rfl) : p := h
theorem z4_ {p : Prop} (h : p := by exact take_ofW HT_.out HW_.out (by kernel_rfl)) : p := h
theorem z5_ {p : Prop} (h : p := by rintro w' ⟨s0, s1⟩; go_simp; with_reducible rfl) : p := h
theorem z6_ {p : Prop} (h : p := by simp only [putAll, Act.put, List.setIfInBounds_toArray, List.set_cons_zero, List.set_cons_succ]; rfl) : p := h
theorem z7_ {p : Prop} (h : p := by show Act.put _ (some 70) _ = _; simp only [Act.put, List.setIfInBounds_toArray, List.set_cons_zero, List.set_cons_succ, i64_w, i32_w]; rfl) : p := h
theorem z8_ {p : Prop} (h : p := by show Act.put _ (some 62) _ = _; simp only [Act.put, List.setIfInBounds_toArray, List.set_cons_zero, List.set_cons_succ, i64_w, i32_w]; rfl) : p := h
theorem z9_ {p : Prop} (h : p := by show Act.put _ (some 63) _ = _; simp only [Act.put, List.setIfInBounds_toArray, List.set_cons_zero, List.set_cons_succ, i64_w, i32_w]; rfl) : p := h
theorem z10_ {p : Prop} (h : p := by show Act.put _ (some 69) _ = _; simp only [Act.put, List.setIfInBounds_toArray, List.set_cons_zero, List.set_cons_succ, i64_w, i32_w]; rfl) : p := h
theorem z11_ {p : Prop} (h : p := by rintro w' ⟨s0, s1, s2, s3⟩; go_simp; with_reducible rfl) : p := h
theorem z12_ {p : Prop} (h : p := by show Act.put _ (some 47) _ = _; simp only [Act.put, List.setIfInBounds_toArray, List.set_cons_zero, List.set_cons_succ, i64_w, i32_w]; rfl) : p := h
theorem z13_ {p : Prop} (h : p := by show Act.put _ (some 52) _ = _; simp only [Act.put, List.setIfInBounds_toArray, List.set_cons_zero, List.set_cons_succ, i64_w, i32_w]; rfl) : p := h
theorem z14_ {p : Prop} (h : p := by show Act.put _ (some 54) _ = _; simp only [Act.put, List.setIfInBounds_toArray, List.set_cons_zero, List.set_cons_succ, i64_w, i32_w]; rfl) : p := h
theorem z15_ {p : Prop} (h : p := by show Act.put _ (some 55) _ = _; simp only [Act.put, List.setIfInBounds_toArray, List.set_cons_zero, List.set_cons_succ, i64_w, i32_w]; rfl) : p := h
theorem z16_ {p : Prop} (h : p := by show Act.put _ (some 56) _ = _; simp only [Act.put, List.setIfInBounds_toArray, List.set_cons_zero, List.set_cons_succ, i64_w, i32_w]; rfl) : p := h
theorem z17_ {p : Prop} (h : p := by show Act.put _ (some 64) _ = _; simp only [Act.put, List.setIfInBounds_toArray, List.set_cons_zero, List.set_cons_succ, i64_w, i32_w]; rfl) : p := h
theorem z18_ {p : Prop} (h : p := by show Act.put _ (some 76) _ = _; simp only [Act.put, List.setIfInBounds_toArray, List.set_cons_zero, List.set_cons_succ, i64_w, i32_w]; rfl) : p := h
theorem z19_ {p : Prop} (h : p := by show Act.put _ (some 79) _ = _; simp only [Act.put, List.setIfInBounds_toArray, List.set_cons_zero, List.set_cons_succ, i64_w, i32_w]; rfl) : p := h
theorem z20_ {p : Prop} (h : p := by show Act.put _ (some 80) _ = _; simp only [Act.put, List.setIfInBounds_toArray, List.set_cons_zero, List.set_cons_succ, i64_w, i32_w]; rfl) : p := h
theorem z21_ {p : Prop} (h : p := by show Act.put _ (some 81) _ = _; simp only [Act.put, List.setIfInBounds_toArray, List.set_cons_zero, List.set_cons_succ, i64_w, i32_w]; rfl) : p := h
theorem z22_ {p : Prop} (h : p := by show Act.put _ (some 26) _ = _; simp only [Act.put, List.setIfInBounds_toArray, List.set_cons_zero, List.set_cons_succ, i64_w, i32_w]; rfl) : p := h
theorem z23_ {p : Prop} (h : p := by show Act.put _ (some 30) _ = _; simp only [Act.put, List.setIfInBounds_toArray, List.set_cons_zero, List.set_cons_succ, i64_w, i32_w]; rfl) : p := h
theorem z24_ {p : Prop} (h : p := by show Act.put _ (some 32) _ = _; simp only [Act.put, List.setIfInBounds_toArray, List.set_cons_zero, List.set_cons_succ, i64_w, i32_w]; rfl) : p := h
theorem z25_ {p : Prop} (h : p := by show Act.put _ (some 33) _ = _; simp only [Act.put, List.setIfInBounds_toArray, List.set_cons_zero, List.set_cons_succ, i64_w, i32_w]; rfl) : p := h
theorem z26_ {p : Prop} (h : p := by show Act.put _ (some 34) _ = _; simp only [Act.put, List.setIfInBounds_toArray, List.set_cons_zero, List.set_cons_succ, i64_w, i32_w]; rfl) : p := h
theorem z27_ {p : Prop} (h : p := by rintro w' ⟨s0, s1, s2, s3, s4, s5⟩; go_simp; with_reducible rfl) : p := h
theorem z28_ {p : Prop} (h : p := by show Act.put _ (some 46) _ = _; simp only [Act.put, List.setIfInBounds_toArray, List.set_cons_zero, List.set_cons_succ, i64_w, i32_w]; rfl) : p := h
theorem z29_ {p : Prop} (h : p := by show Act.put _ (some 51) _ = _; simp only [Act.put, List.setIfInBounds_toArray, List.set_cons_zero, List.set_cons_succ, i64_w, i32_w]; rfl) : p := h
theorem z30_ {p : Prop} (h : p := by show Act.put _ (some 57) _ = _; simp only [Act.put, List.setIfInBounds_toArray, List.set_cons_zero, List.set_cons_succ, i64_w, i32_w]; rfl) : p := h
theorem z31_ {p : Prop} (h : p := by show Act.put _ (some 83) _ = _; simp only [Act.put, List.setIfInBounds_toArray, List.set_cons_zero, List.set_cons_succ, i64_w, i32_w]; rfl) : p := h
theorem z32_ {p : Prop} (h : p := by show Act.put _ (some 86) _ = _; simp only [Act.put, List.setIfInBounds_toArray, List.set_cons_zero, List.set_cons_succ, i64_w, i32_w]; rfl) : p := h
theorem z33_ {p : Prop} (h : p := by show Act.put _ (some 87) _ = _; simp only [Act.put, List.setIfInBounds_toArray, List.set_cons_zero, List.set_cons_succ, i64_w, i32_w]; rfl) : p := h
theorem z34_ {p : Prop} (h : p := by show Act.put _ (some 88) _ = _; simp only [Act.put, List.setIfInBounds_toArray, List.set_cons_zero, List.set_cons_succ, i64_w, i32_w]; rfl) : p := h
theorem z35_ {p : Prop} (h : p := by show Act.put _ (some 17) _ = _; simp only [Act.put, List.setIfInBounds_toArray, List.set_cons_zero, List.set_cons_succ, i64_w, i32_w]; rfl) : p := h
theorem z36_ {p : Prop} (h : p := by show Act.put _ (some 18) _ = _; simp only [Act.put, List.setIfInBounds_toArray, List.set_cons_zero, List.set_cons_succ, i64_w, i32_w]; rfl) : p := h
theorem z37_ {p : Prop} (h : p := by show Act.put _ (some 19) _ = _; simp only [Act.put, List.setIfInBounds_toArray, List.set_cons_zero, List.set_cons_succ, i64_w, i32_w]; rfl) : p := h
theorem z38_ {p : Prop} (h : p := by rintro w' ⟨s0, s1, s2, s3, s4, s5, s6, s7⟩; go_simp; with_reducible rfl) : p := h
theorem z39_ {p : Prop} (h : p := by show Act.put _ (some 25) _ = _; simp only [Act.put, List.setIfInBounds_toArray, List.set_cons_zero, List.set_cons_succ, i64_w, i32_w]; rfl) : p := h
theorem z40_ {p : Prop} (h : p := by show Act.put _ (some 20) _ = _; simp only [Act.put, List.setIfInBounds_toArray, List.set_cons_zero, List.set_cons_succ, i64_w, i32_w]; rfl) : p := h
theorem z41_ {p : Prop} (h : p := by show Act.put _ (some 24) _ = _; simp only [Act.put, List.setIfInBounds_toArray, List.set_cons_zero, List.set_cons_succ, i64_w, i32_w]; rfl) : p := h
theorem y0_ {p : Prop} (h : p := by repeat (first | (with_reducible first | exact HB.out | apply below_alloc | apply pw_below_drewN | apply below_drew1) | exact HB.out)) : p := h
theorem y1_ {p : Prop} (h : p := by first | rfl | (simp; done) | (simp [*]; done)) : p := h
theorem y2_ {p : Prop} (h : p := by first | (with_reducible assumption) | assumption) : p := h
theorem y3_ {p : Prop} (h : p := by repeat (first | (with_reducible first | exact HB.out | apply below_alloc | apply pw_below_drewN | apply below_drew1 | refine below_set ?_ GE0.out) | exact HB.out)) : p := h
theorem y4_ {p : Prop} (h : p := by first | rfl | (simp [errW_none, errW_some] <;> rfl) | (simp [*, errW_none, errW_some] <;> rfl)) : p := h
theorem y5_ {p : Prop} (h : p := by repeat (first | (with_reducible first | exact HK.out | apply Kept.alloc | apply Kept.drewN | apply Kept.drew | refine Kept.setCell ?_ (.inl (.inr rfl)) _) | exact HK.out)) : p := h
theorem y6_ {p : Prop} (h : p := by (with_reducible repeat (first | refine blk_drewN ?_ _ | refine blk_drew ?_ | refine blk_alloc ?_ _)); refine blk_put (cs := #[.int .i64 ((rd_T74 l0 x33_2).f0), .int .i64 ((rd_T74 l0 x33_2).f1), .int .i64 ((rd_T74 l0 x33_2).f2), .int .i64 0]) ?_ 3 _ rfl; (with_reducible repeat (first | refine blk_drewN ?_ _ | refine blk_drew ?_ | refine blk_alloc ?_ _)); refine blk_put (cs := #[.int .i64 ((rd_T74 l0 x33_2).f0), .int .i64 ((rd_T74 l0 x33_2).f1), .int .i64 0, .int .i64 0]) ?_ 2 _ rfl; (with_reducible repeat (first | refine blk_drewN ?_ _ | refine blk_drew ?_ | refine blk_alloc ?_ _)); refine blk_put (cs := #[.int .i64 ((rd_T74 l0 x33_2).f0), .int .i64 0, .int .i64 0, .int .i64 0]) ?_ 1 _ rfl; (with_reducible repeat (first | refine blk_drewN ?_ _ | refine blk_drew ?_ | refine blk_alloc ?_ _)); refine blk_put (cs := #[.int .i64 0, .int .i64 0, .int .i64 0, .int .i64 0]) ?_ 0 _ rfl; (with_reducible repeat (first | refine blk_drewN ?_ _ | refine blk_drew ?_ | refine blk_alloc ?_ _)); exact BK9546312.out) : p := h
theorem y7_ {p : Prop} (h : p := by (try simp only [List.map_toArray, List.map_cons, List.map_nil]); first | done | rfl | (simp only [List.length_drop, List.length_take]; rfl)) : p := h
theorem y8_ {p : Prop} (h : p := by repeat (first | (with_reducible first | exact HB.out | apply below_alloc | apply pw_below_drewN | apply below_drew1 | refine below_set ?_ GE196.out) | exact HB.out)) : p := h
theorem y9_ {p : Prop} (h : p := by repeat (first | exact Drawn0.refl _ | apply Drawn0.step)) : p := h
theorem y10_ {p : Prop} (h : p := by first | exact HK.out.1 | exact (show Kept w _ (fun k_ => (P0_0_ k_ ∨ P0_1_ k_) ∨ k_ = gp0) from by repeat (first | (with_reducible first | exact HK.out | apply Kept.alloc | apply Kept.drewN | apply Kept.drew | refine Kept.setCell ?_ (.inl (.inr rfl)) _) | exact HK.out)).1) : p := h
theorem y11_ {p : Prop} (h : p := by repeat (first | (with_reducible first | exact HK.out | apply Kept.alloc | apply Kept.drewN | apply Kept.drew | refine Kept.setCell ?_ (.inl (.inr rfl)) _ | refine Kept.setCell ?_ (.inr GW436.out) _) | exact HK.out)) : p := h
theorem y12_ {p : Prop} (h : p := by (with_reducible repeat (first | refine blk_drewN ?_ _ | refine blk_drew ?_ | refine blk_alloc ?_ _)); exact BK0.out) : p := h
theorem y13_ {p : Prop} (h : p := by first | exact HK.out.1 | exact (show Kept w _ (fun k_ => (P1_0_ k_ ∨ P1_1_ k_) ∨ k_ = gp1) from by repeat (first | (with_reducible first | exact HK.out | apply Kept.alloc | apply Kept.drewN | apply Kept.drew | refine Kept.setCell ?_ (.inl (.inr rfl)) _ | refine Kept.setCell ?_ (.inr GW436.out) _) | exact HK.out)).1) : p := h
theorem y14_ {p : Prop} (h : p := by (with_reducible repeat (first | apply Kd.R_alloc | apply Kd.R_drewN | apply Kd.R_drew)); exact HO_1001.out) : p := h
theorem y15_ {p : Prop} (h : p := by (with_reducible repeat (first | refine blk_drewN ?_ _ | refine blk_drew ?_ | refine blk_alloc ?_ _)); refine blk_put (cs := #[.int .i64 ((rd_T74 l0 x18_1).f0), .int .i64 ((rd_T74 l0 x18_1).f1), .int .i64 ((rd_T74 l0 x18_1).f2), .int .i64 0]) ?_ 3 _ rfl; (with_reducible repeat (first | refine blk_drewN ?_ _ | refine blk_drew ?_ | refine blk_alloc ?_ _)); refine blk_put (cs := #[.int .i64 ((rd_T74 l0 x18_1).f0), .int .i64 ((rd_T74 l0 x18_1).f1), .int .i64 0, .int .i64 0]) ?_ 2 _ rfl; (with_reducible repeat (first | refine blk_drewN ?_ _ | refine blk_drew ?_ | refine blk_alloc ?_ _)); refine blk_put (cs := #[.int .i64 ((rd_T74 l0 x18_1).f0), .int .i64 0, .int .i64 0, .int .i64 0]) ?_ 1 _ rfl; (with_reducible repeat (first | refine blk_drewN ?_ _ | refine blk_drew ?_ | refine blk_alloc ?_ _)); refine blk_put (cs := #[.int .i64 0, .int .i64 0, .int .i64 0, .int .i64 0]) ?_ 0 _ rfl; (with_reducible repeat (first | refine blk_drewN ?_ _ | refine blk_drew ?_ | refine blk_alloc ?_ _)); exact BK9611348.out) : p := h
theorem y16_ {p : Prop} (h : p := by repeat (first | (with_reducible first | exact HB.out | apply below_alloc | apply pw_below_drewN | apply below_drew1 | refine below_set ?_ GE9546312.out) | exact HB.out)) : p := h
theorem y17_ {p : Prop} (h : p := by (with_reducible repeat (first | apply Kd.R_alloc | apply Kd.R_drewN | apply Kd.R_drew)); exact Kd.R_mono (Kd.R_far (p := ⟨gb9546312, 3, none⟩) (Kd.R_far (p := ⟨gb9546312, 2, none⟩) (Kd.R_far (p := ⟨gb9546312, 1, none⟩) (Kd.R_far (p := ⟨gb9546312, 0, none⟩) (Kd.R_types HO_6.out BK9546312.out y36_) (fun _ hk => hk.2) (.int .i64 ((rd_T74 l0 x33_2).f0))) (fun _ hk => hk.2) (.int .i64 ((rd_T74 l0 x33_2).f1))) (fun _ hk => hk.2) (.int .i64 ((rd_T74 l0 x33_2).f2))) (fun _ hk => hk.2) (.int .i64 ((rd_T74 l0 x33_2).f3))) (fun _ hk => trivial)) : p := h
theorem y18_ {p : Prop} (h : p := by repeat (first | (with_reducible first | exact HB.out | apply below_alloc | apply pw_below_drewN | apply below_drew1 | refine below_set ?_ GE1.out | refine below_set ?_ GE436.out) | exact HB.out)) : p := h
theorem y19_ {p : Prop} (h : p := by repeat (first | (with_reducible first | exact HB.out | apply below_alloc | apply pw_below_drewN | apply below_drew1 | refine below_set ?_ GE513.out | refine below_set ?_ GE9611348.out) | exact HB.out)) : p := h
theorem y20_ {p : Prop} (h : p := by (with_reducible repeat (first | apply Kd.R_alloc | apply Kd.R_drewN | apply Kd.R_drew)); exact HO9369609.out) : p := h
theorem y21_ {p : Prop} (h : p := by (with_reducible repeat (first | apply Kd.R_alloc | apply Kd.R_drewN | apply Kd.R_drew)); exact HO_1000.out) : p := h
theorem y22_ {p : Prop} (h : p := by (with_reducible repeat (first | refine blk_drewN ?_ _ | refine blk_drew ?_ | refine blk_alloc ?_ _)); refine blk_far ?_ NB513_520.out _; (with_reducible repeat (first | refine blk_drewN ?_ _ | refine blk_drew ?_ | refine blk_alloc ?_ _)); refine blk_far ?_ NB513_520.out _; (with_reducible repeat (first | refine blk_drewN ?_ _ | refine blk_drew ?_ | refine blk_alloc ?_ _)); refine blk_far ?_ NB513_520.out _; (with_reducible repeat (first | refine blk_drewN ?_ _ | refine blk_drew ?_ | refine blk_alloc ?_ _)); refine blk_far ?_ NB513_520.out _; (with_reducible repeat (first | refine blk_drewN ?_ _ | refine blk_drew ?_ | refine blk_alloc ?_ _)); exact BK513.out) : p := h
theorem y23_ {p : Prop} (h : p := by repeat (first | (with_reducible first | exact HB.out | apply below_alloc | apply pw_below_drewN | apply below_drew1 | refine below_set ?_ GE549.out) | exact HB.out)) : p := h
theorem y24_ {p : Prop} (h : p := by rw [hw]; exact (by (with_reducible repeat (first | refine blk_drewN ?_ _ | refine blk_drew ?_ | refine blk_alloc ?_ _)); refine blk_put (cs := #[.int .i64 ((rd_T37 l0 x20_1).f0), .int .i64 ((rd_T37 l0 x20_1).f1), .string ((rd_T37 l0 x20_1).f2), .int .i64 ((rd_T37 l0 x20_1).f3), .slice A550_4 ((rd_T37 l0 x20_1).f4).length c550_4, .slice none 0 0]) ?_ 5 _ rfl; (with_reducible repeat (first | refine blk_drewN ?_ _ | refine blk_drew ?_ | refine blk_alloc ?_ _)); refine blk_put (cs := #[.int .i64 ((rd_T37 l0 x20_1).f0), .int .i64 ((rd_T37 l0 x20_1).f1), .string ((rd_T37 l0 x20_1).f2), .int .i64 ((rd_T37 l0 x20_1).f3), .slice none 0 0, .slice none 0 0]) ?_ 4 _ rfl; (with_reducible repeat (first | refine blk_drewN ?_ _ | refine blk_drew ?_ | refine blk_alloc ?_ _)); refine blk_put (cs := #[.int .i64 ((rd_T37 l0 x20_1).f0), .int .i64 ((rd_T37 l0 x20_1).f1), .string ((rd_T37 l0 x20_1).f2), .int .i64 0, .slice none 0 0, .slice none 0 0]) ?_ 3 _ rfl; (with_reducible repeat (first | refine blk_drewN ?_ _ | refine blk_drew ?_ | refine blk_alloc ?_ _)); refine blk_put (cs := #[.int .i64 ((rd_T37 l0 x20_1).f0), .int .i64 ((rd_T37 l0 x20_1).f1), .string (⟨#[]⟩ : ByteArray), .int .i64 0, .slice none 0 0, .slice none 0 0]) ?_ 2 _ rfl; (with_reducible repeat (first | refine blk_drewN ?_ _ | refine blk_drew ?_ | refine blk_alloc ?_ _)); refine blk_put (cs := #[.int .i64 ((rd_T37 l0 x20_1).f0), .int .i64 0, .string (⟨#[]⟩ : ByteArray), .int .i64 0, .slice none 0 0, .slice none 0 0]) ?_ 1 _ rfl; (with_reducible repeat (first | refine blk_drewN ?_ _ | refine blk_drew ?_ | refine blk_alloc ?_ _)); refine blk_put (cs := #[.int .i64 0, .int .i64 0, .string (⟨#[]⟩ : ByteArray), .int .i64 0, .slice none 0 0, .slice none 0 0]) ?_ 0 _ rfl; (with_reducible repeat (first | refine blk_drewN ?_ _ | refine blk_drew ?_ | refine blk_alloc ?_ _)); exact BK9969952.out)) : p := h
theorem y25_ {p : Prop} (h : p := by repeat (first | (with_reducible first | exact HB.out | apply below_alloc | apply pw_below_drewN | apply below_drew1 | refine below_set ?_ GE257.out) | exact HB.out)) : p := h
theorem y26_ {p : Prop} (h : p := by (with_reducible repeat (first | refine blk_drewN ?_ _ | refine blk_drew ?_ | refine blk_alloc ?_ _)); exact BK549.out) : p := h
theorem y27_ {p : Prop} (h : p := by (with_reducible repeat (first | refine blk_drewN ?_ _ | refine blk_drew ?_ | refine blk_alloc ?_ _)); exact BK1.out) : p := h
theorem y28_ {p : Prop} (h : p := by (with_reducible repeat (first | apply Kd.R_alloc | apply Kd.R_drewN | apply Kd.R_drew)); exact Kd.R_mono (Kd.R_far (p := ⟨gb9611348, 3, none⟩) (Kd.R_far (p := ⟨gb9611348, 2, none⟩) (Kd.R_far (p := ⟨gb9611348, 1, none⟩) (Kd.R_far (p := ⟨gb9611348, 0, none⟩) (Kd.R_types HO_4.out BK9611348.out y36_) (fun _ hk => hk.2) (.int .i64 ((rd_T74 l0 x18_1).f0))) (fun _ hk => hk.2) (.int .i64 ((rd_T74 l0 x18_1).f1))) (fun _ hk => hk.2) (.int .i64 ((rd_T74 l0 x18_1).f2))) (fun _ hk => hk.2) (.int .i64 ((rd_T74 l0 x18_1).f3))) (fun _ hk => trivial)) : p := h
theorem y29_ {p : Prop} (h : p := by repeat (first | (with_reducible first | exact HB.out | apply below_alloc | apply pw_below_drewN | apply below_drew1 | refine below_set ?_ GE353.out) | exact HB.out)) : p := h
theorem y30_ {p : Prop} (h : p := by (with_reducible repeat (first | refine blk_drewN ?_ _ | refine blk_drew ?_ | refine blk_alloc ?_ _)); exact BK436.out) : p := h
theorem y31_ {p : Prop} (h : p := by repeat (first | (with_reducible first | exact HB.out | apply below_alloc | apply pw_below_drewN | apply below_drew1 | refine below_set ?_ GE513.out) | exact HB.out)) : p := h
theorem y32_ {p : Prop} (h : p := by repeat (first | (with_reducible first | exact HB.out | apply below_alloc | apply pw_below_drewN | apply below_drew1 | refine below_set ?_ GE549.out | refine below_set ?_ GE9969952.out) | exact HB.out)) : p := h
theorem y33_ {p : Prop} (h : p := by repeat (first | (with_reducible first | exact HB.out | apply below_alloc | apply pw_below_drewN | apply below_drew1 | refine below_set ?_ GE285.out | refine below_set ?_ GE286.out | refine below_set ?_ GE287.out) | exact HB.out)) : p := h
theorem y34_ {p : Prop} (h : p := by repeat (first | (with_reducible first | exact HK.out | apply Kept.alloc | apply Kept.drewN | apply Kept.drew) | exact HK.out)) : p := h
theorem y35_ {p : Prop} (h : p := by (with_reducible repeat (first | apply Kd.R_alloc | apply Kd.R_drewN | apply Kd.R_drew)); exact HO_4.out) : p := h
theorem y36_ {p : Prop} (h : p := by decide) : p := h
theorem y37_ {p : Prop} (h : p := by repeat (first | (with_reducible first | exact HB.out | apply below_alloc | apply pw_below_drewN | apply below_drew1 | refine below_set ?_ GE549.out | refine below_set ?_ GE9650306.out) | exact HB.out)) : p := h
theorem y38_ {p : Prop} (h : p := by kernel_rfl) : p := h
theorem y39_ {p : Prop} (h : p := by (with_reducible repeat (first | refine blk_drewN ?_ _ | refine blk_drew ?_ | refine blk_alloc ?_ _)); exact BK513.out) : p := h
theorem y40_ {p : Prop} (h : p := by (with_reducible repeat (first | refine blk_drewN ?_ _ | refine blk_drew ?_ | refine blk_alloc ?_ _)); exact BK196.out) : p := h
theorem y41_ {p : Prop} (h : p := by (with_reducible repeat (first | refine blk_drewN ?_ _ | refine blk_drew ?_ | refine blk_alloc ?_ _)); refine blk_put (cs := #[.int .i64 ((rd_T74 l0 x5_1).f0), .int .i64 ((rd_T74 l0 x5_1).f1), .int .i64 ((rd_T74 l0 x5_1).f2), .int .i64 0]) ?_ 3 _ rfl; (with_reducible repeat (first | refine blk_drewN ?_ _ | refine blk_drew ?_ | refine blk_alloc ?_ _)); refine blk_put (cs := #[.int .i64 ((rd_T74 l0 x5_1).f0), .int .i64 ((rd_T74 l0 x5_1).f1), .int .i64 0, .int .i64 0]) ?_ 2 _ rfl; (with_reducible repeat (first | refine blk_drewN ?_ _ | refine blk_drew ?_ | refine blk_alloc ?_ _)); refine blk_put (cs := #[.int .i64 ((rd_T74 l0 x5_1).f0), .int .i64 0, .int .i64 0, .int .i64 0]) ?_ 1 _ rfl; (with_reducible repeat (first | refine blk_drewN ?_ _ | refine blk_drew ?_ | refine blk_alloc ?_ _)); refine blk_put (cs := #[.int .i64 0, .int .i64 0, .int .i64 0, .int .i64 0]) ?_ 0 _ rfl; (with_reducible repeat (first | refine blk_drewN ?_ _ | refine blk_drew ?_ | refine blk_alloc ?_ _)); exact BK196.out) : p := h
theorem y42_ {p : Prop} (h : p := by (with_reducible repeat (first | apply Kd.R_alloc | apply Kd.R_drewN | apply Kd.R_drew)); exact HO_550000.out) : p := h
theorem y43_ {p : Prop} (h : p := by (with_reducible repeat (first | apply Kd.R_alloc | apply Kd.R_drewN | apply Kd.R_drew)); exact HO_550001.out) : p := h
theorem y44_ {p : Prop} (h : p := by rw [hw]; exact (by (with_reducible repeat (first | refine blk_drewN ?_ _ | refine blk_drew ?_ | refine blk_alloc ?_ _)); refine blk_far ?_ NB549_551.out _; (with_reducible repeat (first | refine blk_drewN ?_ _ | refine blk_drew ?_ | refine blk_alloc ?_ _)); refine blk_far ?_ NB549_551.out _; (with_reducible repeat (first | refine blk_drewN ?_ _ | refine blk_drew ?_ | refine blk_alloc ?_ _)); refine blk_far ?_ NB549_551.out _; (with_reducible repeat (first | refine blk_drewN ?_ _ | refine blk_drew ?_ | refine blk_alloc ?_ _)); refine blk_far ?_ NB549_551.out _; (with_reducible repeat (first | refine blk_drewN ?_ _ | refine blk_drew ?_ | refine blk_alloc ?_ _)); refine blk_far ?_ NB549_551.out _; (with_reducible repeat (first | refine blk_drewN ?_ _ | refine blk_drew ?_ | refine blk_alloc ?_ _)); refine blk_far ?_ NB549_551.out _; (with_reducible repeat (first | refine blk_drewN ?_ _ | refine blk_drew ?_ | refine blk_alloc ?_ _)); exact BK549.out)) : p := h
theorem y45_ {p : Prop} (h : p := by first | omega | exact Nat.le_refl _) : p := h
theorem y46_ {p : Prop} (h : p := by (with_reducible repeat (first | apply Kd.R_alloc | apply Kd.R_drewN | apply Kd.R_drew)); exact HO9184929.out) : p := h
theorem y47_ {p : Prop} (h : p := by rw [hw]; exact (by (with_reducible repeat (first | apply Kd.R_alloc | apply Kd.R_drewN | apply Kd.R_drew)); exact Kd.R_mono (Kd.R_far (p := ⟨gb9969952, 5, none⟩) (Kd.R_far (p := ⟨gb9969952, 4, none⟩) (Kd.R_far (p := ⟨gb9969952, 3, none⟩) (Kd.R_far (p := ⟨gb9969952, 2, none⟩) (Kd.R_far (p := ⟨gb9969952, 1, none⟩) (Kd.R_far (p := ⟨gb9969952, 0, none⟩) (Kd.R_types HO_550000.out BK9969952.out y36_) (fun _ hk => hk.2) (.int .i64 ((rd_T37 l0 x20_1).f0))) (fun _ hk => hk.2) (.int .i64 ((rd_T37 l0 x20_1).f1))) (fun _ hk => hk.2) (.string ((rd_T37 l0 x20_1).f2))) (fun _ hk => hk.2) (.int .i64 ((rd_T37 l0 x20_1).f3))) (fun _ hk => hk.2) (.slice A550_4 ((rd_T37 l0 x20_1).f4).length c550_4)) (fun _ hk => hk.2) (.slice A550_5 ((rd_T37 l0 x20_1).f5).length c550_5)) (fun _ hk => hk.1))) : p := h
theorem y48_ {p : Prop} (h : p := by rw [hw]; exact (by (with_reducible repeat (first | apply Kd.R_alloc | apply Kd.R_drewN | apply Kd.R_drew)); exact Kd.R_mono (Kd.R_far (p := ⟨gb9969952, 5, none⟩) (Kd.R_far (p := ⟨gb9969952, 4, none⟩) (Kd.R_far (p := ⟨gb9969952, 3, none⟩) (Kd.R_far (p := ⟨gb9969952, 2, none⟩) (Kd.R_far (p := ⟨gb9969952, 1, none⟩) (Kd.R_far (p := ⟨gb9969952, 0, none⟩) (Kd.R_types HO_550001.out BK9969952.out y36_) (fun _ hk => hk.2) (.int .i64 ((rd_T37 l0 x20_1).f0))) (fun _ hk => hk.2) (.int .i64 ((rd_T37 l0 x20_1).f1))) (fun _ hk => hk.2) (.string ((rd_T37 l0 x20_1).f2))) (fun _ hk => hk.2) (.int .i64 ((rd_T37 l0 x20_1).f3))) (fun _ hk => hk.2) (.slice A550_4 ((rd_T37 l0 x20_1).f4).length c550_4)) (fun _ hk => hk.2) (.slice A550_5 ((rd_T37 l0 x20_1).f5).length c550_5)) (fun _ hk => hk.1))) : p := h
theorem y49_ {p : Prop} (h : p := by (with_reducible repeat (first | apply Kd.R_alloc | apply Kd.R_drewN | apply Kd.R_drew)); exact Kd.R_mono (Kd.R_far (p := ⟨gb9326266, 5, none⟩) (Kd.R_far (p := ⟨gb9326266, 4, none⟩) (Kd.R_far (p := ⟨gb9326266, 3, none⟩) (Kd.R_far (p := ⟨gb9326266, 2, none⟩) (Kd.R_far (p := ⟨gb9326266, 1, none⟩) (Kd.R_far (p := ⟨gb9326266, 0, none⟩) (Kd.R_types HO_5.out BK9326266.out y36_) (fun _ hk => hk.2) (.int .i64 ((rd_T37 l0 x11_1).f0))) (fun _ hk => hk.2) (.int .i64 ((rd_T37 l0 x11_1).f1))) (fun _ hk => hk.2) (.string ((rd_T37 l0 x11_1).f2))) (fun _ hk => hk.2) (.int .i64 ((rd_T37 l0 x11_1).f3))) (fun _ hk => hk.2) (.slice A485_4 ((rd_T37 l0 x11_1).f4).length c485_4)) (fun _ hk => hk.2) (.slice A485_5 ((rd_T37 l0 x11_1).f5).length c485_5)) (fun _ hk => trivial)) : p := h
theorem y50_ {p : Prop} (h : p := by (with_reducible repeat (first | refine blk_drewN ?_ _ | refine blk_drew ?_ | refine blk_alloc ?_ _)); exact BK353.out) : p := h
theorem y51_ {p : Prop} (h : p := by (with_reducible repeat (first | apply Kd.R_alloc | apply Kd.R_drewN | apply Kd.R_drew)); exact HO9781806.out) : p := h
theorem y52_ {p : Prop} (h : p := by repeat (first | (with_reducible first | exact HB.out | apply below_alloc | apply pw_below_drewN | apply below_drew1 | refine below_set ?_ GE9131528.out | refine below_set ?_ GE9046858.out) | exact HB.out)) : p := h
theorem y53_ {p : Prop} (h : p := by (with_reducible repeat (first | refine blk_drewN ?_ _ | refine blk_drew ?_ | refine blk_alloc ?_ _)); exact BK9131528.out) : p := h
theorem y54_ {p : Prop} (h : p := by first | exact HK.out.1 | exact (show Kept w _ (fun k_ => P2_ k_) from by repeat (first | (with_reducible first | exact HK.out | apply Kept.alloc | apply Kept.drewN | apply Kept.drew) | exact HK.out)).1) : p := h
theorem y55_ {p : Prop} (h : p := by (with_reducible repeat (first | refine blk_drewN ?_ _ | refine blk_drew ?_ | refine blk_alloc ?_ _)); exact BK273.out) : p := h
theorem y56_ {p : Prop} (h : p := by (with_reducible repeat (first | refine blk_drewN ?_ _ | refine blk_drew ?_ | refine blk_alloc ?_ _)); exact BK285.out) : p := h
theorem y57_ {p : Prop} (h : p := by simp) : p := h
theorem y58_ {p : Prop} (h : p := by (with_reducible repeat (first | apply Kd.R_alloc | apply Kd.R_drewN | apply Kd.R_drew)); exact Kd.R_mono HO9369609.out (fun _ hk => ⟨⟨hk.1.1.1.1, ⟨hk.1.2, hk.2⟩⟩, hk.1.1.2⟩)) : p := h
theorem y59_ {p : Prop} (h : p := by (with_reducible repeat (first | apply Kd.R_alloc | apply Kd.R_drewN | apply Kd.R_drew)); exact Kd.R_mono HO9184929.out (fun _ hk => ⟨⟨hk.1.1.1.1, ⟨hk.1.2, hk.2⟩⟩, hk.1.1.2⟩)) : p := h
theorem y60_ {p : Prop} (h : p := by (with_reducible repeat (first | apply Kd.R_alloc | apply Kd.R_drewN | apply Kd.R_drew)); exact Kd.R_mono HO9369609.out (fun _ hk => ⟨hk.1.1, ⟨hk.2, ⟨hk.1.2.2, hk.1.2.1⟩⟩⟩)) : p := h
theorem y61_ {p : Prop} (h : p := by (with_reducible repeat (first | apply Kd.R_alloc | apply Kd.R_drewN | apply Kd.R_drew)); exact Kd.R_mono HO9184929.out (fun _ hk => ⟨hk.1.1, ⟨hk.1.2.2, ⟨hk.2, hk.1.2.1⟩⟩⟩)) : p := h
theorem y62_ {p : Prop} (h : p := by (with_reducible repeat (first | apply Kd.R_alloc | apply Kd.R_drewN | apply Kd.R_drew)); exact Kd.R_mono HO_1000.out (fun _ hk => ⟨hk.1.1.1, ⟨hk.1.1.2, ⟨hk.1.2, hk.2⟩⟩⟩)) : p := h
theorem y63_ {p : Prop} (h : p := by (with_reducible repeat (first | apply Kd.R_alloc | apply Kd.R_drewN | apply Kd.R_drew)); exact Kd.R_mono HO_1001.out (fun _ hk => ⟨⟨hk.1.1.1, ⟨hk.1.2, hk.2⟩⟩, hk.1.1.2⟩)) : p := h
theorem y64_ {p : Prop} (h : p := by (with_reducible repeat (first | apply Kd.R_alloc | apply Kd.R_drewN | apply Kd.R_drew)); exact HO9006620.out) : p := h
theorem y65_ {p : Prop} (h : p := by (with_reducible repeat (first | apply Kd.R_alloc | apply Kd.R_drewN | apply Kd.R_drew)); exact HO9209476.out) : p := h
theorem y66_ {p : Prop} (h : p := by (with_reducible repeat (first | apply Kd.R_alloc | apply Kd.R_drewN | apply Kd.R_drew)); exact HO9710811.out) : p := h
theorem y67_ {p : Prop} (h : p := by (with_reducible repeat (first | apply Kd.R_alloc | apply Kd.R_drewN | apply Kd.R_drew)); exact Kd.R_mono (Kd.R_far (p := ⟨gb196, 3, none⟩) (Kd.R_far (p := ⟨gb196, 2, none⟩) (Kd.R_far (p := ⟨gb196, 1, none⟩) (Kd.R_far (p := ⟨gb196, 0, none⟩) (Kd.R_types HO_4.out BK196.out y36_) (fun _ hk => hk.2) (.int .i64 ((rd_T74 l0 x5_1).f0))) (fun _ hk => hk.2) (.int .i64 ((rd_T74 l0 x5_1).f1))) (fun _ hk => hk.2) (.int .i64 ((rd_T74 l0 x5_1).f2))) (fun _ hk => hk.2) (.int .i64 ((rd_T74 l0 x5_1).f3))) (fun _ hk => trivial)) : p := h
theorem y68_ {p : Prop} (h : p := by (with_reducible repeat (first | apply Kd.R_alloc | apply Kd.R_drewN | apply Kd.R_drew)); exact HO_5.out) : p := h
theorem y69_ {p : Prop} (h : p := by repeat (first | (with_reducible first | exact HB.out | apply below_alloc | apply pw_below_drewN | apply below_drew1 | refine below_set ?_ GE9326266.out) | exact HB.out)) : p := h
theorem y70_ {p : Prop} (h : p := by repeat (first | (with_reducible first | exact HB.out | apply below_alloc | apply pw_below_drewN | apply below_drew1 | refine below_set ?_ GE542.out) | exact HB.out)) : p := h
theorem y71_ {p : Prop} (h : p := by simp only [putAll, Act.put, List.setIfInBounds_toArray, List.set_cons_zero, List.set_cons_succ]) : p := h
theorem y72_ {p : Prop} (h : p := by have := HK1.out; omega) : p := h
theorem y73_ {p : Prop} (h : p := by (with_reducible repeat (first | apply Kd.R_alloc | apply Kd.R_drewN | apply Kd.R_drew)); exact HO0_0.out) : p := h
theorem y74_ {p : Prop} (h : p := by (with_reducible repeat (first | apply Kd.R_alloc | apply Kd.R_drewN | apply Kd.R_drew)); exact HO0_1.out) : p := h
theorem y75_ {p : Prop} (h : p := by (with_reducible repeat (first | apply Kd.S_alloc | apply Kd.S_drewN | apply Kd.S_drew)); exact HO_3.out) : p := h
theorem y76_ {p : Prop} (h : p := by first | (rw [add_block]; exact hn9370078_0) | (show (Addr.add _ _).block ≠ _; rw [add_block]; exact hn9370078_0) | exact hn9370078_0) : p := h
theorem y77_ {p : Prop} (h : p := by first | (rw [add_block]; exact hn9370078_1) | (show (Addr.add _ _).block ≠ _; rw [add_block]; exact hn9370078_1) | exact hn9370078_1) : p := h
theorem y78_ {p : Prop} (h : p := by first | (rw [add_block]; exact hn9370078_2) | (show (Addr.add _ _).block ≠ _; rw [add_block]; exact hn9370078_2) | exact hn9370078_2) : p := h
theorem y79_ {p : Prop} (h : p := by first | (rw [add_block]; exact hn9370078_3) | (show (Addr.add _ _).block ≠ _; rw [add_block]; exact hn9370078_3) | exact hn9370078_3) : p := h
theorem y80_ {p : Prop} (h : p := by first | (rw [add_block]; exact hn9983786_0) | (show (Addr.add _ _).block ≠ _; rw [add_block]; exact hn9983786_0) | exact hn9983786_0) : p := h
theorem y81_ {p : Prop} (h : p := by first | (rw [add_block]; exact hn9983786_1) | (show (Addr.add _ _).block ≠ _; rw [add_block]; exact hn9983786_1) | exact hn9983786_1) : p := h
theorem y82_ {p : Prop} (h : p := by first | (rw [add_block]; exact hn9983786_2) | (show (Addr.add _ _).block ≠ _; rw [add_block]; exact hn9983786_2) | exact hn9983786_2) : p := h
theorem y83_ {p : Prop} (h : p := by first | (rw [add_block]; exact hn9983786_3) | (show (Addr.add _ _).block ≠ _; rw [add_block]; exact hn9983786_3) | exact hn9983786_3) : p := h
theorem y84_ {p : Prop} (h : p := by have := HK1.out; have := HJ5.out; have := HJ11.out; omega) : p := h
theorem y85_ {p : Prop} (h : p := by first | (go_simp; done) | (go_simp; rfl)) : p := h
theorem y86_ {p : Prop} (h : p := by repeat (first | (with_reducible first | exact HB.out | apply below_alloc | apply pw_below_drewN | apply below_drew1 | refine below_set ?_ GE273.out | refine below_set ?_ GE274.out) | exact HB.out)) : p := h
theorem y87_ {p : Prop} (h : p := by repeat (first | (with_reducible first | exact HB.out | apply below_alloc | apply pw_below_drewN | apply below_drew1 | refine below_set ?_ GE285.out | refine below_set ?_ GE286.out) | exact HB.out)) : p := h
theorem y88_ {p : Prop} (h : p := by omega) : p := h
theorem y89_ {p : Prop} (h : p := by have := HJ4.out; first | omega | exact Nat.le_refl _) : p := h
theorem y90_ {p : Prop} (h : p := by (with_reducible repeat (first | refine blk_drewN ?_ _ | refine blk_drew ?_ | refine blk_alloc ?_ _)); exact BK257.out) : p := h
theorem y91_ {p : Prop} (h : p := by repeat (first | exact (Kd.C_below HR0.out HB.out) | (with_reducible refine Kd.C_alloc ?_ _) | (with_reducible refine Kd.C_drewN ?_ _) | (with_reducible refine Kd.C_drew ?_))) : p := h
theorem y92_ {p : Prop} (h : p := by repeat (first | (with_reducible first | exact HB.out | apply below_alloc | apply pw_below_drewN | apply below_drew1 | refine below_set ?_ GE9446264.out) | exact HB.out)) : p := h
theorem y93_ {p : Prop} (h : p := by repeat (first | (with_reducible first | exact HB.out | apply below_alloc | apply pw_below_drewN | apply below_drew1 | refine below_set ?_ GE9493561.out) | exact HB.out)) : p := h
theorem y94_ {p : Prop} (h : p := by repeat (first | (with_reducible first | exact HB.out | apply below_alloc | apply pw_below_drewN | apply below_drew1 | refine below_set ?_ GE9131528.out) | exact HB.out)) : p := h
theorem y95_ {p : Prop} (h : p := by repeat (first | (with_reducible first | exact HB.out | apply below_alloc | apply pw_below_drewN | apply below_drew1 | refine below_set ?_ GE273.out) | exact HB.out)) : p := h
theorem y96_ {p : Prop} (h : p := by repeat (first | (with_reducible first | exact HB.out | apply below_alloc | apply pw_below_drewN | apply below_drew1 | refine below_set ?_ GE285.out) | exact HB.out)) : p := h
theorem y97_ {p : Prop} (h : p := by (with_reducible repeat (first | apply Kd.R_alloc | apply Kd.R_drewN | apply Kd.R_drew)); exact HO9391523.out) : p := h
theorem y98_ {p : Prop} (h : p := by (with_reducible repeat (first | apply Kd.R_alloc | apply Kd.R_drewN | apply Kd.R_drew)); exact HO9140498.out) : p := h
theorem y99_ {p : Prop} (h : p := by (with_reducible repeat (first | apply Kd.R_alloc | apply Kd.R_drewN | apply Kd.R_drew)); exact HO1_0.out) : p := h
theorem y100_ {p : Prop} (h : p := by (with_reducible repeat (first | apply Kd.R_alloc | apply Kd.R_drewN | apply Kd.R_drew)); exact HO1_1.out) : p := h
theorem y101_ {p : Prop} (h : p := by (with_reducible repeat (first | apply Kd.R_alloc | apply Kd.R_drewN | apply Kd.R_drew)); exact HO_3.out) : p := h
theorem y102_ {p : Prop} (h : p := by first | exact Kd.R_nil _ _ _ _ _ | exact Kd.N_nil _ _ _ _ _ | exact Kd.V_nil _ _ _ _ _ | exact Kd.Q_nil _ _ _ _ _ | exact Kd.S_nil _ _ _ _ _) : p := h
theorem y103_ {p : Prop} (h : p := by (with_reducible repeat (first | apply Kd.R_alloc | apply Kd.R_drewN | apply Kd.R_drew)); exact (Kd.R_mono (Kd.R_far (p := ⟨gb257, 4, none⟩) (Kd.R_types HO263.out BK257.out y36_) (fun _ hk => hk.2) (.slice Ao15 y261.length co15)) (fun _ h_ => h_.1))) : p := h
theorem y104_ {p : Prop} (h : p := by (with_reducible repeat (first | apply Kd.R_alloc | apply Kd.R_drewN | apply Kd.R_drew)); exact (Kd.R_mono (Kd.R_far (p := ⟨gb287, 4, none⟩) (Kd.R_types HO290.out BK287.out y36_) (fun _ hk => hk.2) (.slice Ao13 t288.length co13)) (fun _ h_ => h_.1))) : p := h
theorem y105_ {p : Prop} (h : p := by (with_reducible repeat (first | refine blk_drewN ?_ _ | refine blk_drew ?_ | refine blk_alloc ?_ _)); exact BK9650306.out) : p := h
theorem y106_ {p : Prop} (h : p := by (with_reducible repeat (first | refine blk_drewN ?_ _ | refine blk_drew ?_ | refine blk_alloc ?_ _)); exact BK9493561.out) : p := h
theorem y107_ {p : Prop} (h : p := by (with_reducible repeat (first | refine blk_drewN ?_ _ | refine blk_drew ?_ | refine blk_alloc ?_ _)); exact BK9046858.out) : p := h
theorem y108_ {p : Prop} (h : p := by (with_reducible repeat (first | refine blk_drewN ?_ _ | refine blk_drew ?_ | refine blk_alloc ?_ _)); exact BK274.out) : p := h
theorem y109_ {p : Prop} (h : p := by (with_reducible repeat (first | refine blk_drewN ?_ _ | refine blk_drew ?_ | refine blk_alloc ?_ _)); exact BK286.out) : p := h
theorem y110_ {p : Prop} (h : p := by have := HK1.out; have := HK9210684.out; omega) : p := h
end Go.Proofs.Ytjbcpghpafacaaa.I
