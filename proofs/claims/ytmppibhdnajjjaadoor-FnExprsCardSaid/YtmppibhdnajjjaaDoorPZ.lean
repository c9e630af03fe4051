/- Words for this seat's texts: steps that stand alike in many places, each under a name. No condition. -/
import Derived.ArgAppend
import Derived.Below
import Derived.BigQuiet
import Derived.Deep.AppendLies
import Derived.Deep.CutBlock
import Derived.Deep.DeepCutAuto
import Derived.Deep.Draws
import Derived.Deep.LoopGhost
import Derived.Deep.OwnRows
import Derived.Deep.QuietTactic
import Derived.Deep.RegionHeld3
import Derived.KernelRfl
import Derived.Laws.BitsLemmas
import Derived.Laws.BytesArg
import Derived.Laws.IdiomCopy
import Derived.Laws.MakeOwn
import Derived.Laws.OwnMore
import Derived.Laws.Rows
import Derived.Laws.Slices
import Derived.Lib.AppendStr
import Derived.Lib.ConvBytes
import Derived.Maps.AppendAt
import Derived.OrdersHeld
import Derived.OwnWalk
import Derived.RowKit
import Derived.RowKit3
import Derived.Tactics
import Derived.Test.YtmppibhdnajjjaaDoorPH
import Derived.Test.YtmppibhdnajjjaaDoorProg
import Derived.Test.YtmppibhdnajjjaaDoorWApart
import Derived.Test.YtmppibhdnajjjaaDoorWArr
import Derived.Test.YtmppibhdnajjjaaDoorWAt
import Derived.Test.YtmppibhdnajjjaaDoorWEqStruct
import Derived.Test.YtmppibhdnajjjaaDoorWFoot
import Derived.Test.YtmppibhdnajjjaaDoorWFootNe
import Derived.Test.YtmppibhdnajjjaaDoorWFour
import Derived.Test.YtmppibhdnajjjaaDoorWGuard
import Derived.Test.YtmppibhdnajjjaaDoorWInv
import Derived.Test.YtmppibhdnajjjaaDoorWInvWords
import Derived.Test.YtmppibhdnajjjaaDoorWKept
import Derived.Test.YtmppibhdnajjjaaDoorWLast
import Derived.Test.YtmppibhdnajjjaaDoorWMore
import Derived.Test.YtmppibhdnajjjaaDoorWN
import Derived.Test.YtmppibhdnajjjaaDoorWNEv
import Derived.Test.YtmppibhdnajjjaaDoorWQPut
import Derived.Test.YtmppibhdnajjjaaDoorWRepsOne
import Derived.Test.YtmppibhdnajjjaaDoorWShare
import Derived.Test.YtmppibhdnajjjaaDoorWTab
import Derived.Test.YtmppibhdnajjjaaDoorWWords
import Derived.Test.YtmppibhdnajjjaaDoorWZeros
import Derived.Test.YtmppibhdnajjjaaDoorXWords
import Derived.WalkKit
import Derived.WideLaws
namespace Go.Proofs.YtmppibhdnajjjaaDoor.P
open Go.RowKit Go.Proofs.YtmppibhdnajjjaaDoorW.PrintWords Go.Proofs.YtmppibhdnajjjaaDoorW.PrintLast Go.Proofs.YtmppibhdnajjjaaDoorW.PrintMore
theorem cT_ {w w' : World} {p : Addr} {v : Value} (hB : Below w.heap.size w w') (hx : w.cell? p = some v) : w'.cell? p = some v := (hB.cell (World.block_lt_of_cell? w _ hx)).trans hx
section
variable {P : Program} {ops : Array Oper} {Q : Exit → Act → World → Prop}
theorem gc_ {rest : List Oper} {oi : Oper} {a : Act} {w : World} (f : FuncId) (d : Nat) {fn : Func} {as_ : Array Operand} {ts_ : Array TypeId} (hf : P.funcs[f]? = some fn) (args : Array Value) (h : Calls P f args w fun e w' => ∃ v, e = .returned v ∧ wpList P ops Q rest (a.put (some d) v) w') (hd : oi.dst = some d := by rfl) (hg : oi.guard = none := by rfl) (hop : oi.op = .call { callee := .value (.func f), args := as_, argTypes := ts_ } := by rfl) (hname : (fn.name == "runtime.NumGoroutine") = false := by kernel_rfl) (hb : fn.body.isSome = true := by rfl) (hargs : as_.map a.eval = args := by (try simp only [List.map_toArray, List.map_cons, List.map_nil]); first | done | rfl | (simp only [List.length_drop, List.length_take]; rfl) | (go_simp; done) | (simp [Act.eval, bne]; done)) : wpList P ops Q (oi :: rest) a w := goesL_ (some d) hd hg hf hname hb args hop hargs h
end
theorem a_ {p : Prop} (h : p) : Aside0 p := ⟨h⟩
theorem t_ : True := True.intro
abbrev T_ : Bool := true
abbrev F_ : Bool := false
theorem zr_ {p : Prop} (h : p := by rfl) : p := h
theorem zs_ {p : Prop} (h : p := by first | (go_simp; done) | (go_simp; rfl)) : p := h
theorem z0_ {p : Prop} (h : p := by exact any_of HT_.out (by kernel_rfl)) : p := h
theorem z1_ {p : Prop} (h : p := by intro w'; go_simp; with_reducible rfl) : p := h
theorem z2_ {p : Prop} (h : p := by simp only [Act.put, List.setIfInBounds_toArray, List.set_cons_zero, List.set_cons_succ, i64_w, i32_w]; rfl) : p := h
theorem z3_ {p : Prop} (h : p := by exact take_ofW HT_.out HW_.out (by kernel_rfl)) : p := h
theorem z4_ {p : Prop} (h : p := by rintro w' ⟨s0, s1, s2⟩; go_simp; with_reducible rfl) : p := h
theorem z5_ {p : Prop} (h : p := by first | (rw [hy_]; with_reducible exact H) | (have H2_ := (Option.bind_some _ _).symm.trans H; rw [hy_]; with_reducible exact H2_) | (have H2_ := (Option.bind_some _ _).symm.trans H; with_reducible exact H2_) | with_reducible exact H | (rw [hy_]; exact H) | exact H) : p := h
theorem z6_ {p : Prop} (h : p := by rintro w' ⟨s0, s1⟩; go_simp; with_reducible rfl) : p := h
theorem z7_ {p : Prop} (h : p := by show Act.put _ (some 21) _ = _; simp only [Act.put, List.setIfInBounds_toArray, List.set_cons_zero, List.set_cons_succ, i64_w, i32_w]; rfl) : p := h
theorem z8_ {p : Prop} (h : p := by show Act.put _ (some 32) _ = _; simp only [Act.put, List.setIfInBounds_toArray, List.set_cons_zero, List.set_cons_succ, i64_w, i32_w]; rfl) : p := h
theorem z9_ {p : Prop} (h : p := by show Act.put _ (some 47) _ = _; simp only [Act.put, List.setIfInBounds_toArray, List.set_cons_zero, List.set_cons_succ, i64_w, i32_w]; rfl) : p := h
theorem z10_ {p : Prop} (h : p := by show Act.put _ (some 54) _ = _; simp only [Act.put, List.setIfInBounds_toArray, List.set_cons_zero, List.set_cons_succ, i64_w, i32_w]; rfl) : p := h
theorem z11_ {p : Prop} (h : p := by rintro w' ⟨s0, s1, s2, s3, s4, s5, s6, s7, s8, s9⟩; go_simp; with_reducible rfl) : p := h
theorem z12_ {p : Prop} (h : p := by show Act.put _ (some 92) _ = _; simp only [Act.put, List.setIfInBounds_toArray, List.set_cons_zero, List.set_cons_succ, i64_w, i32_w]; rfl) : p := h
theorem z13_ {p : Prop} (h : p := by simp only [putAll, Act.put, List.setIfInBounds_toArray, List.set_cons_zero, List.set_cons_succ]; rfl) : p := h
theorem z14_ {p : Prop} (h : p := by show Act.put _ (some 18) _ = _; simp only [Act.put, List.setIfInBounds_toArray, List.set_cons_zero, List.set_cons_succ, i64_w, i32_w]; rfl) : p := h
theorem z15_ {p : Prop} (h : p := by show Act.put _ (some 23) _ = _; simp only [Act.put, List.setIfInBounds_toArray, List.set_cons_zero, List.set_cons_succ, i64_w, i32_w]; rfl) : p := h
theorem z16_ {p : Prop} (h : p := by show Act.put _ (some 24) _ = _; simp only [Act.put, List.setIfInBounds_toArray, List.set_cons_zero, List.set_cons_succ, i64_w, i32_w]; rfl) : p := h
theorem z17_ {p : Prop} (h : p := by rintro w' ⟨s0, s1, s2, s3⟩; go_simp; with_reducible rfl) : p := h
theorem z18_ {p : Prop} (h : p := by show Act.put _ (some 37) _ = _; simp only [Act.put, List.setIfInBounds_toArray, List.set_cons_zero, List.set_cons_succ, i64_w, i32_w]; rfl) : p := h
theorem z19_ {p : Prop} (h : p := by show Act.put _ (some 51) _ = _; simp only [Act.put, List.setIfInBounds_toArray, List.set_cons_zero, List.set_cons_succ, i64_w, i32_w]; rfl) : p := h
theorem z20_ {p : Prop} (h : p := by show Act.put _ (some 52) _ = _; simp only [Act.put, List.setIfInBounds_toArray, List.set_cons_zero, List.set_cons_succ, i64_w, i32_w]; rfl) : p := h
theorem z21_ {p : Prop} (h : p := by show Act.put _ (some 55) _ = _; simp only [Act.put, List.setIfInBounds_toArray, List.set_cons_zero, List.set_cons_succ, i64_w, i32_w]; rfl) : p := h
theorem z22_ {p : Prop} (h : p := by show Act.put _ (some 56) _ = _; simp only [Act.put, List.setIfInBounds_toArray, List.set_cons_zero, List.set_cons_succ, i64_w, i32_w]; rfl) : p := h
theorem z23_ {p : Prop} (h : p := by show Act.put _ (some 64) _ = _; simp only [Act.put, List.setIfInBounds_toArray, List.set_cons_zero, List.set_cons_succ, i64_w, i32_w]; rfl) : p := h
theorem z24_ {p : Prop} (h : p := by show Act.put _ (some 69) _ = _; simp only [Act.put, List.setIfInBounds_toArray, List.set_cons_zero, List.set_cons_succ, i64_w, i32_w]; rfl) : p := h
theorem z25_ {p : Prop} (h : p := by show Act.put _ (some 76) _ = _; simp only [Act.put, List.setIfInBounds_toArray, List.set_cons_zero, List.set_cons_succ, i64_w, i32_w]; rfl) : p := h
theorem z26_ {p : Prop} (h : p := by show Act.put _ (some 79) _ = _; simp only [Act.put, List.setIfInBounds_toArray, List.set_cons_zero, List.set_cons_succ, i64_w, i32_w]; rfl) : p := h
theorem z27_ {p : Prop} (h : p := by show Act.put _ (some 80) _ = _; simp only [Act.put, List.setIfInBounds_toArray, List.set_cons_zero, List.set_cons_succ, i64_w, i32_w]; rfl) : p := h
theorem z28_ {p : Prop} (h : p := by show Act.put _ (some 81) _ = _; simp only [Act.put, List.setIfInBounds_toArray, List.set_cons_zero, List.set_cons_succ, i64_w, i32_w]; rfl) : p := h
theorem z29_ {p : Prop} (h : p := by show Act.put _ (some 26) _ = _; simp only [Act.put, List.setIfInBounds_toArray, List.set_cons_zero, List.set_cons_succ, i64_w, i32_w]; rfl) : p := h
theorem z30_ {p : Prop} (h : p := by show Act.put _ (some 30) _ = _; simp only [Act.put, List.setIfInBounds_toArray, List.set_cons_zero, List.set_cons_succ, i64_w, i32_w]; rfl) : p := h
theorem z31_ {p : Prop} (h : p := by show Act.put _ (some 33) _ = _; simp only [Act.put, List.setIfInBounds_toArray, List.set_cons_zero, List.set_cons_succ, i64_w, i32_w]; rfl) : p := h
theorem z32_ {p : Prop} (h : p := by show Act.put _ (some 34) _ = _; simp only [Act.put, List.setIfInBounds_toArray, List.set_cons_zero, List.set_cons_succ, i64_w, i32_w]; rfl) : p := h
theorem z33_ {p : Prop} (h : p := by rintro w' ⟨s0, s1, s2, s3, s4, s5, s6⟩; go_simp; with_reducible rfl) : p := h
theorem z34_ {p : Prop} (h : p := by show Act.put _ (some 11) _ = _; simp only [Act.put, List.setIfInBounds_toArray, List.set_cons_zero, List.set_cons_succ, i64_w, i32_w]; rfl) : p := h
theorem z35_ {p : Prop} (h : p := by show Act.put _ (some 12) _ = _; simp only [Act.put, List.setIfInBounds_toArray, List.set_cons_zero, List.set_cons_succ, i64_w, i32_w]; rfl) : p := h
theorem y0_ {p : Prop} (h : p := by repeat (first | (with_reducible first | exact HK.out | apply Kept.alloc | apply Kept.drewN | apply Kept.drew | refine Kept.setCell ?_ (.inl (.inr rfl)) _) | exact HK.out)) : p := h
theorem y1_ {p : Prop} (h : p := by repeat (first | (with_reducible first | exact HB.out | apply below_alloc | apply pw_below_drewN | apply below_drew1) | exact HB.out)) : p := h
theorem y2_ {p : Prop} (h : p := by first | exact HK.out.1 | exact (show Kept w _ (fun k_ => (P0_2_ k_) ∨ k_ = gp0) from by repeat (first | (with_reducible first | exact HK.out | apply Kept.alloc | apply Kept.drewN | apply Kept.drew | refine Kept.setCell ?_ (.inl (.inr rfl)) _) | exact HK.out)).1) : p := h
theorem y3_ {p : Prop} (h : p := by repeat (first | (with_reducible first | exact HB.out | apply below_alloc | apply pw_below_drewN | apply below_drew1 | refine below_set ?_ GE0.out) | exact HB.out)) : p := h
theorem y4_ {p : Prop} (h : p := by (with_reducible repeat (first | refine blk_drewN ?_ _ | refine blk_drew ?_ | refine blk_alloc ?_ _)); refine blk_put (cs := #[.int .i64 ((rd_T45 l0 a1).f0), .int .i64 ((rd_T45 l0 a1).f1), .int .i64 ((rd_T45 l0 a1).f2), .int .i64 0]) ?_ 3 _ rfl; (with_reducible repeat (first | refine blk_drewN ?_ _ | refine blk_drew ?_ | refine blk_alloc ?_ _)); refine blk_put (cs := #[.int .i64 ((rd_T45 l0 a1).f0), .int .i64 ((rd_T45 l0 a1).f1), .int .i64 0, .int .i64 0]) ?_ 2 _ rfl; (with_reducible repeat (first | refine blk_drewN ?_ _ | refine blk_drew ?_ | refine blk_alloc ?_ _)); refine blk_put (cs := #[.int .i64 ((rd_T45 l0 a1).f0), .int .i64 0, .int .i64 0, .int .i64 0]) ?_ 1 _ rfl; (with_reducible repeat (first | refine blk_drewN ?_ _ | refine blk_drew ?_ | refine blk_alloc ?_ _)); refine blk_put (cs := #[.int .i64 0, .int .i64 0, .int .i64 0, .int .i64 0]) ?_ 0 _ rfl; (with_reducible repeat (first | refine blk_drewN ?_ _ | refine blk_drew ?_ | refine blk_alloc ?_ _)); exact BK9354176.out) : p := h
theorem y5_ {p : Prop} (h : p := by first | (with_reducible assumption) | assumption) : p := h
theorem y6_ {p : Prop} (h : p := by repeat (first | (with_reducible first | exact HB.out | apply below_alloc | apply pw_below_drewN | apply below_drew1 | refine below_set ?_ (IsS131.ge HI0.out)) | exact HB.out)) : p := h
theorem y7_ {p : Prop} (h : p := by repeat (first | (with_reducible first | exact HK.out | apply KeepBut.set_ | apply keep_drewN | apply keep_drew | apply keep_alloc) | exact HK.out)) : p := h
theorem y8_ {p : Prop} (h : p := by first | rfl | (simp; done) | (simp [*]; done)) : p := h
theorem y9_ {p : Prop} (h : p := by first | rfl | (simp [errW_none, errW_some] <;> rfl) | (simp [*, errW_none, errW_some] <;> rfl)) : p := h
theorem y10_ {p : Prop} (h : p := by repeat (first | (with_reducible first | exact HI0.out | apply IsS131.alloc | apply IsS131.drewN | apply IsS131.drew | apply IsS131.set_1) | exact HI0.out)) : p := h
theorem y11_ {p : Prop} (h : p := by (with_reducible repeat (first | refine blk_drewN ?_ _ | refine blk_drew ?_ | refine blk_alloc ?_ _)); refine blk_put (cs := #[.int .i64 ((rd_T45 l0 x33_2).f0), .int .i64 ((rd_T45 l0 x33_2).f1), .int .i64 ((rd_T45 l0 x33_2).f2), .int .i64 0]) ?_ 3 _ rfl; (with_reducible repeat (first | refine blk_drewN ?_ _ | refine blk_drew ?_ | refine blk_alloc ?_ _)); refine blk_put (cs := #[.int .i64 ((rd_T45 l0 x33_2).f0), .int .i64 ((rd_T45 l0 x33_2).f1), .int .i64 0, .int .i64 0]) ?_ 2 _ rfl; (with_reducible repeat (first | refine blk_drewN ?_ _ | refine blk_drew ?_ | refine blk_alloc ?_ _)); refine blk_put (cs := #[.int .i64 ((rd_T45 l0 x33_2).f0), .int .i64 0, .int .i64 0, .int .i64 0]) ?_ 1 _ rfl; (with_reducible repeat (first | refine blk_drewN ?_ _ | refine blk_drew ?_ | refine blk_alloc ?_ _)); refine blk_put (cs := #[.int .i64 0, .int .i64 0, .int .i64 0, .int .i64 0]) ?_ 0 _ rfl; (with_reducible repeat (first | refine blk_drewN ?_ _ | refine blk_drew ?_ | refine blk_alloc ?_ _)); exact BK9818739.out) : p := h
theorem y12_ {p : Prop} (h : p := by (try simp only [List.map_toArray, List.map_cons, List.map_nil]); first | done | rfl | (simp only [List.length_drop, List.length_take]; rfl)) : p := h
theorem y13_ {p : Prop} (h : p := by (with_reducible repeat (first | refine blk_drewN ?_ _ | refine blk_drew ?_ | refine blk_alloc ?_ _)); exact BK0.out) : p := h
theorem y14_ {p : Prop} (h : p := by repeat (first | (with_reducible first | exact HB.out | apply below_alloc | apply pw_below_drewN | apply below_drew1 | refine below_set ?_ GE9354176.out) | exact HB.out)) : p := h
theorem y15_ {p : Prop} (h : p := by repeat (first | exact Drawn0.refl _ | apply Drawn0.step)) : p := h
theorem y16_ {p : Prop} (h : p := by first | exact HK.out.1 | exact (show Kept w _ (fun k_ => (P0_1_ k_) ∨ k_ = gp0) from by repeat (first | (with_reducible first | exact HK.out | apply Kept.alloc | apply Kept.drewN | apply Kept.drew | refine Kept.setCell ?_ (.inl (.inr rfl)) _) | exact HK.out)).1) : p := h
theorem y17_ {p : Prop} (h : p := by repeat (first | (with_reducible first | exact HB.out | apply below_alloc | apply pw_below_drewN | apply below_drew1 | refine below_set ?_ GE583.out) | exact HB.out)) : p := h
theorem y18_ {p : Prop} (h : p := by repeat (first | (with_reducible first | exact HB.out | apply below_alloc | apply pw_below_drewN | apply below_drew1 | refine below_set ?_ GE9818739.out) | exact HB.out)) : p := h
theorem y19_ {p : Prop} (h : p := by (with_reducible repeat (first | apply Kd.R_alloc | apply Kd.R_drewN | apply Kd.R_drew)); exact Kd.R_mono (Kd.R_far (p := ⟨gb9818739, 3, none⟩) (Kd.R_far (p := ⟨gb9818739, 2, none⟩) (Kd.R_far (p := ⟨gb9818739, 1, none⟩) (Kd.R_far (p := ⟨gb9818739, 0, none⟩) (Kd.R_types HO_6.out BK9818739.out y36_) (fun _ hk => hk.2) (.int .i64 ((rd_T45 l0 x33_2).f0))) (fun _ hk => hk.2) (.int .i64 ((rd_T45 l0 x33_2).f1))) (fun _ hk => hk.2) (.int .i64 ((rd_T45 l0 x33_2).f2))) (fun _ hk => hk.2) (.int .i64 ((rd_T45 l0 x33_2).f3))) (fun _ hk => trivial)) : p := h
theorem y20_ {p : Prop} (h : p := by (with_reducible repeat (first | refine blk_drewN ?_ _ | refine blk_drew ?_ | refine blk_alloc ?_ _)); exact BK583.out) : p := h
theorem y21_ {p : Prop} (h : p := by repeat (first | (with_reducible first | exact HB.out | apply below_alloc | apply pw_below_drewN | apply below_drew1 | refine below_set ?_ GE583.out | refine below_set ?_ GE595.out | refine below_set ?_ GE603.out) | exact HB.out)) : p := h
theorem y22_ {p : Prop} (h : p := by repeat (first | (with_reducible first | exact HB.out | apply below_alloc | apply pw_below_drewN | apply below_drew1 | refine below_set ?_ GE9789516.out | refine below_set ?_ GE9635226.out) | exact HB.out)) : p := h
theorem y23_ {p : Prop} (h : p := by (with_reducible repeat (first | apply Kd.R_alloc | apply Kd.R_drewN | apply Kd.R_drew)); exact HO9916997.out) : p := h
theorem y24_ {p : Prop} (h : p := by (with_reducible repeat (first | apply Kd.R_alloc | apply Kd.R_drewN | apply Kd.R_drew)); exact HO_1.out) : p := h
theorem y25_ {p : Prop} (h : p := by repeat (first | (with_reducible first | exact HB.out | apply below_alloc | apply pw_below_drewN | apply below_drew1 | refine below_set ?_ GE158.out) | exact HB.out)) : p := h
theorem y26_ {p : Prop} (h : p := by repeat (first | (with_reducible first | exact HB.out | apply below_alloc | apply pw_below_drewN | apply below_drew1 | refine below_set ?_ GE583.out | refine below_set ?_ GE595.out) | exact HB.out)) : p := h
theorem y27_ {p : Prop} (h : p := by first | exact HK.out.1 | exact (show Kept w _ (fun k_ => (P1_ k_) ∨ k_ = g) from by repeat (first | (with_reducible first | exact HK.out | apply Kept.alloc | apply Kept.drewN | apply Kept.drew | refine Kept.setCell ?_ (.inl (.inr rfl)) _) | exact HK.out)).1) : p := h
theorem y28_ {p : Prop} (h : p := by repeat (first | (with_reducible first | exact HB.out | apply below_alloc | apply pw_below_drewN | apply below_drew1 | refine below_set ?_ GE9789516.out) | exact HB.out)) : p := h
theorem y29_ {p : Prop} (h : p := by kernel_rfl) : p := h
theorem y30_ {p : Prop} (h : p := by rw [hw]; exact (by (with_reducible repeat (first | refine blk_drewN ?_ _ | refine blk_drew ?_ | refine blk_alloc ?_ _)); refine blk_put (cs := #[.string a0, .int .i64 0, .slice none 0 0]) ?_ 2 _ rfl; (with_reducible repeat (first | refine blk_drewN ?_ _ | refine blk_drew ?_ | refine blk_alloc ?_ _)); refine blk_put (cs := #[.string a0, .int .i64 0, .slice none 0 0]) ?_ 1 _ rfl; (with_reducible repeat (first | refine blk_drewN ?_ _ | refine blk_drew ?_ | refine blk_alloc ?_ _)); refine blk_put (cs := #[.string (⟨#[]⟩ : ByteArray), .int .i64 0, .slice none 0 0]) ?_ 0 _ rfl; (with_reducible repeat (first | refine blk_drewN ?_ _ | refine blk_drew ?_ | refine blk_alloc ?_ _)); exact BK9427325.out)) : p := h
theorem y31_ {p : Prop} (h : p := by (with_reducible repeat (first | apply Kd.R_alloc | apply Kd.R_drewN | apply Kd.R_drew)); exact HO_584001.out) : p := h
theorem y32_ {p : Prop} (h : p := by repeat (first | (with_reducible first | exact HB.out | apply below_alloc | apply pw_below_drewN | apply below_drew1 | refine below_set ?_ GE9005454.out) | exact HB.out)) : p := h
theorem y33_ {p : Prop} (h : p := by repeat (first | (with_reducible first | exact HK.out | apply Kept.alloc | apply Kept.drewN | apply Kept.drew) | exact HK.out)) : p := h
theorem y34_ {p : Prop} (h : p := by (with_reducible repeat (first | refine blk_drewN ?_ _ | refine blk_drew ?_ | refine blk_alloc ?_ _)); exact BK9789516.out) : p := h
theorem y35_ {p : Prop} (h : p := by have h_ : (t536 : Int) < ((t532.length : Int) : Int) := of_decide_eq_true y5_; first | exact h_ | (have e_ := (Kd.R_reads' HO9916997.out).1; omega) | simpa using h_) : p := h
theorem y36_ {p : Prop} (h : p := by decide) : p := h
theorem y37_ {p : Prop} (h : p := by first | omega | exact Nat.le_refl _) : p := h
theorem y38_ {p : Prop} (h : p := by repeat (first | (with_reducible first | exact HB.out | apply below_alloc | apply pw_below_drewN | apply below_drew1 | refine below_set ?_ GE9427325.out) | exact HB.out)) : p := h
theorem y39_ {p : Prop} (h : p := by (with_reducible repeat (first | apply Kd.R_alloc | apply Kd.R_drewN | apply Kd.R_drew)); exact HO9158808.out) : p := h
theorem y40_ {p : Prop} (h : p := by (with_reducible repeat (first | refine blk_drewN ?_ _ | refine blk_drew ?_ | refine blk_alloc ?_ _)); exact BK158.out) : p := h
theorem y41_ {p : Prop} (h : p := by (with_reducible repeat (first | apply Kd.R_alloc | apply Kd.R_drewN | apply Kd.R_drew)); exact HO9078455.out) : p := h
theorem y42_ {p : Prop} (h : p := by (with_reducible repeat (first | apply Kd.R_alloc | apply Kd.R_drewN | apply Kd.R_drew)); exact HO0_2.out) : p := h
theorem y43_ {p : Prop} (h : p := by (with_reducible repeat (first | refine blk_drewN ?_ _ | refine blk_drew ?_ | refine blk_alloc ?_ _)); exact BK9887140.out) : p := h
theorem y44_ {p : Prop} (h : p := by first | exact HK.out.1 | exact (show Kept w _ (fun k_ => P2_ k_) from by repeat (first | (with_reducible first | exact HK.out | apply Kept.alloc | apply Kept.drewN | apply Kept.drew) | exact HK.out)).1) : p := h
theorem y45_ {p : Prop} (h : p := by (with_reducible repeat (first | refine blk_drewN ?_ _ | refine blk_drew ?_ | refine blk_alloc ?_ _)); exact BK9005454.out) : p := h
theorem y46_ {p : Prop} (h : p := by (with_reducible repeat (first | apply Kd.R_alloc | apply Kd.R_drewN | apply Kd.R_drew)); exact HO9088134.out) : p := h
theorem y47_ {p : Prop} (h : p := by (with_reducible repeat (first | apply Kd.R_alloc | apply Kd.R_drewN | apply Kd.R_drew)); exact HO582.out) : p := h
theorem y48_ {p : Prop} (h : p := by (with_reducible repeat (first | apply Kd.R_alloc | apply Kd.R_drewN | apply Kd.R_drew)); exact HO_5.out) : p := h
theorem y49_ {p : Prop} (h : p := by (with_reducible repeat (first | refine blk_drewN ?_ _ | refine blk_drew ?_ | refine blk_alloc ?_ _)); refine blk_put (cs := #[.int .i64 tx0, .string (⟨#[]⟩ : ByteArray)]) ?_ 1 _ rfl; (with_reducible repeat (first | refine blk_drewN ?_ _ | refine blk_drew ?_ | refine blk_alloc ?_ _)); refine blk_put (cs := #[.int .i64 0, .string (⟨#[]⟩ : ByteArray)]) ?_ 0 _ rfl; (with_reducible repeat (first | refine blk_drewN ?_ _ | refine blk_drew ?_ | refine blk_alloc ?_ _)); exact BK9005454.out) : p := h
theorem y50_ {p : Prop} (h : p := by (with_reducible repeat (first | refine blk_drewN ?_ _ | refine blk_drew ?_ | refine blk_alloc ?_ _)); refine blk_put (cs := #[.int .i64 0, .string (⟨#[]⟩ : ByteArray)]) ?_ 1 _ rfl; (with_reducible repeat (first | refine blk_drewN ?_ _ | refine blk_drew ?_ | refine blk_alloc ?_ _)); refine blk_put (cs := #[.int .i64 0, .string (⟨#[]⟩ : ByteArray)]) ?_ 0 _ rfl; (with_reducible repeat (first | refine blk_drewN ?_ _ | refine blk_drew ?_ | refine blk_alloc ?_ _)); exact BK9005454.out) : p := h
theorem y51_ {p : Prop} (h : p := by have := HJ1.out; have := HJ7.out; have := HJ10.out; have := HJ24.out; have := HK5.out; first | omega | exact Nat.le_refl _) : p := h
theorem y52_ {p : Prop} (h : p := by (with_reducible repeat (first | refine blk_drewN ?_ _ | refine blk_drew ?_ | refine blk_alloc ?_ _)); refine blk_put (cs := #[.int .i64 t599, .slice none 0 0]) ?_ 1 _ rfl; (with_reducible repeat (first | refine blk_drewN ?_ _ | refine blk_drew ?_ | refine blk_alloc ?_ _)); refine blk_put (cs := #[.int .i64 0, .slice none 0 0]) ?_ 0 _ rfl; (with_reducible repeat (first | refine blk_drewN ?_ _ | refine blk_drew ?_ | refine blk_alloc ?_ _)); exact BK9120189.out) : p := h
theorem y53_ {p : Prop} (h : p := by (with_reducible repeat (first | refine blk_drewN ?_ _ | refine blk_drew ?_ | refine blk_alloc ?_ _)); refine blk_put (cs := #[.int .i64 2, .slice none 0 0]) ?_ 1 _ rfl; (with_reducible repeat (first | refine blk_drewN ?_ _ | refine blk_drew ?_ | refine blk_alloc ?_ _)); refine blk_put (cs := #[.int .i64 0, .slice none 0 0]) ?_ 0 _ rfl; (with_reducible repeat (first | refine blk_drewN ?_ _ | refine blk_drew ?_ | refine blk_alloc ?_ _)); exact BK9789516.out) : p := h
theorem y54_ {p : Prop} (h : p := by (with_reducible repeat (first | refine blk_drewN ?_ _ | refine blk_drew ?_ | refine blk_alloc ?_ _)); refine blk_put (cs := #[.int .i64 5, .slice none 0 0]) ?_ 1 _ rfl; (with_reducible repeat (first | refine blk_drewN ?_ _ | refine blk_drew ?_ | refine blk_alloc ?_ _)); refine blk_put (cs := #[.int .i64 0, .slice none 0 0]) ?_ 0 _ rfl; (with_reducible repeat (first | refine blk_drewN ?_ _ | refine blk_drew ?_ | refine blk_alloc ?_ _)); exact BK9789516.out) : p := h
theorem y55_ {p : Prop} (h : p := by (with_reducible repeat (first | refine blk_drewN ?_ _ | refine blk_drew ?_ | refine blk_alloc ?_ _)); refine blk_put (cs := #[.int .i64 0, .slice none 0 0]) ?_ 1 _ rfl; (with_reducible repeat (first | refine blk_drewN ?_ _ | refine blk_drew ?_ | refine blk_alloc ?_ _)); refine blk_put (cs := #[.int .i64 0, .slice none 0 0]) ?_ 0 _ rfl; (with_reducible repeat (first | refine blk_drewN ?_ _ | refine blk_drew ?_ | refine blk_alloc ?_ _)); exact BK9789516.out) : p := h
theorem y56_ {p : Prop} (h : p := by (with_reducible repeat (first | apply Kd.R_alloc | apply Kd.R_drewN | apply Kd.R_drew)); exact Kd.R_mono (Kd.R_far (p := ⟨gp0, 2, none⟩) (Kd.R_types HO0_1.out BK0.out y36_) (fun _ hk => hk.2) (.bool true)) (fun _ hk => hk.1)) : p := h
theorem y57_ {p : Prop} (h : p := by (with_reducible repeat (first | apply Kd.R_alloc | apply Kd.R_drewN | apply Kd.R_drew)); exact HO9369609.out) : p := h
theorem y58_ {p : Prop} (h : p := by simp) : p := h
theorem y59_ {p : Prop} (h : p := by first | (rw [add_block]; exact hn9622153_0) | (show (Addr.add _ _).block ≠ _; rw [add_block]; exact hn9622153_0) | exact hn9622153_0) : p := h
theorem y60_ {p : Prop} (h : p := by first | (rw [add_block]; exact hn9622153_1) | (show (Addr.add _ _).block ≠ _; rw [add_block]; exact hn9622153_1) | exact hn9622153_1) : p := h
theorem y61_ {p : Prop} (h : p := by first | (rw [add_block]; exact hn9622153_2) | (show (Addr.add _ _).block ≠ _; rw [add_block]; exact hn9622153_2) | exact hn9622153_2) : p := h
theorem y62_ {p : Prop} (h : p := by first | (rw [add_block]; exact hn9622153_3) | (show (Addr.add _ _).block ≠ _; rw [add_block]; exact hn9622153_3) | exact hn9622153_3) : p := h
theorem y63_ {p : Prop} (h : p := by first | (rw [add_block]; exact hn9069318_0) | (show (Addr.add _ _).block ≠ _; rw [add_block]; exact hn9069318_0) | exact hn9069318_0) : p := h
theorem y64_ {p : Prop} (h : p := by first | (rw [add_block]; exact hn9069318_1) | (show (Addr.add _ _).block ≠ _; rw [add_block]; exact hn9069318_1) | exact hn9069318_1) : p := h
theorem y65_ {p : Prop} (h : p := by first | (rw [add_block]; exact hn9069318_2) | (show (Addr.add _ _).block ≠ _; rw [add_block]; exact hn9069318_2) | exact hn9069318_2) : p := h
theorem y66_ {p : Prop} (h : p := by first | (rw [add_block]; exact hn9069318_3) | (show (Addr.add _ _).block ≠ _; rw [add_block]; exact hn9069318_3) | exact hn9069318_3) : p := h
theorem y67_ {p : Prop} (h : p := by (with_reducible repeat (first | refine blk_drewN ?_ _ | refine blk_drew ?_ | refine blk_alloc ?_ _)); refine blk_far ?_ NB595_603.out _; (with_reducible repeat (first | refine blk_drewN ?_ _ | refine blk_drew ?_ | refine blk_alloc ?_ _)); refine blk_far ?_ NB595_603.out _; (with_reducible repeat (first | refine blk_drewN ?_ _ | refine blk_drew ?_ | refine blk_alloc ?_ _)); exact BK9887140.out) : p := h
theorem y68_ {p : Prop} (h : p := by (with_reducible repeat (first | refine blk_drewN ?_ _ | refine blk_drew ?_ | refine blk_alloc ?_ _)); refine blk_far ?_ NB583_595.out _; (with_reducible repeat (first | refine blk_drewN ?_ _ | refine blk_drew ?_ | refine blk_alloc ?_ _)); refine blk_far ?_ NB583_595.out _; (with_reducible repeat (first | refine blk_drewN ?_ _ | refine blk_drew ?_ | refine blk_alloc ?_ _)); exact BK583.out) : p := h
theorem y69_ {p : Prop} (h : p := by (with_reducible repeat (first | refine blk_drewN ?_ _ | refine blk_drew ?_ | refine blk_alloc ?_ _)); refine blk_far ?_ NB583_603.out _; (with_reducible repeat (first | refine blk_drewN ?_ _ | refine blk_drew ?_ | refine blk_alloc ?_ _)); refine blk_far ?_ NB583_603.out _; (with_reducible repeat (first | refine blk_drewN ?_ _ | refine blk_drew ?_ | refine blk_alloc ?_ _)); exact BK583.out) : p := h
theorem y70_ {p : Prop} (h : p := by repeat (first | (with_reducible first | exact HB.out | apply below_alloc | apply pw_below_drewN | apply below_drew1 | refine below_set ?_ GE0.out | refine below_set ?_ GE252.out) | exact HB.out)) : p := h
theorem y71_ {p : Prop} (h : p := by repeat (first | (with_reducible first | exact HB.out | apply below_alloc | apply pw_below_drewN | apply below_drew1 | refine below_set ?_ GE0.out | refine below_set ?_ GE365.out) | exact HB.out)) : p := h
theorem y72_ {p : Prop} (h : p := by (with_reducible repeat (first | apply Kd.R_alloc | apply Kd.R_drewN | apply Kd.R_drew)); exact Kd.R_mono (Kd.R_far (p := ⟨gb9120189, 1, none⟩) (Kd.R_far (p := ⟨gb9120189, 0, none⟩) (Kd.R_types HO9078455.out BK9120189.out y36_) (fun _ hk => hk.2) (.int .i64 t599)) (fun _ hk => hk.2) (.slice Ao9305271 t600.length co9305271)) (fun _ hk => ⟨hk.1.1.2, hk.1.2⟩)) : p := h
theorem y73_ {p : Prop} (h : p := by (with_reducible repeat (first | apply Kd.R_alloc | apply Kd.R_drewN | apply Kd.R_drew)); exact Kd.R_mono (Kd.R_far (p := ⟨gb9120189, 1, none⟩) (Kd.R_far (p := ⟨gb9120189, 0, none⟩) (Kd.R_types HO_584001.out BK9120189.out y36_) (fun _ hk => hk.2) (.int .i64 t599)) (fun _ hk => hk.2) (.slice Ao9305271 t600.length co9305271)) (fun _ hk => ⟨hk.1.1.2, hk.1.2⟩)) : p := h
theorem y74_ {p : Prop} (h : p := by (with_reducible repeat (first | apply Kd.R_alloc | apply Kd.R_drewN | apply Kd.R_drew)); exact Kd.R_mono (Kd.R_far (p := ⟨gb9120189, 1, none⟩) (Kd.R_far (p := ⟨gb9120189, 0, none⟩) (Kd.R_types HO9999083.out BK9120189.out y36_) (fun _ hk => hk.2) (.int .i64 t599)) (fun _ hk => hk.2) (.slice Ao9305271 t600.length co9305271)) (fun _ hk => ⟨hk.1.2, hk.1.1.2⟩)) : p := h
theorem y75_ {p : Prop} (h : p := by (with_reducible repeat (first | refine blk_drewN ?_ _ | refine blk_drew ?_ | refine blk_alloc ?_ _)); exact BK9635226.out) : p := h
theorem y76_ {p : Prop} (h : p := by (with_reducible repeat (first | refine blk_drewN ?_ _ | refine blk_drew ?_ | refine blk_alloc ?_ _)); exact BK9354176.out) : p := h
theorem y77_ {p : Prop} (h : p := by have := HJ4.out; first | omega | exact Nat.le_refl _) : p := h
theorem y78_ {p : Prop} (h : p := by repeat (first | (with_reducible first | exact HB.out | apply below_alloc | apply pw_below_drewN | apply below_drew1 | refine below_set ?_ GE9996277.out) | exact HB.out)) : p := h
theorem y79_ {p : Prop} (h : p := by (with_reducible repeat (first | apply Kd.R_alloc | apply Kd.R_drewN | apply Kd.R_drew)); exact (Kd.R_mono (Kd.R_far (p := ⟨gb9887140, 1, none⟩) (Kd.R_far (p := ⟨gb9887140, 0, none⟩) (Kd.R_types HO_584001.out BK9887140.out y36_) (fun _ hk => hk.2) (.int .i64 t593)) (fun _ hk => hk.2) (.string t594)) (fun _ h_ => h_.1))) : p := h
theorem y80_ {p : Prop} (h : p := by (with_reducible repeat (first | apply Kd.R_alloc | apply Kd.R_drewN | apply Kd.R_drew)); exact (Kd.R_mono (Kd.R_far (p := ⟨gb9887140, 1, none⟩) (Kd.R_far (p := ⟨gb9887140, 0, none⟩) (Kd.R_types HO9078455.out BK9887140.out y36_) (fun _ hk => hk.2) (.int .i64 t593)) (fun _ hk => hk.2) (.string t594)) (fun _ h_ => h_.1))) : p := h
theorem y81_ {p : Prop} (h : p := by omega) : p := h
theorem y82_ {p : Prop} (h : p := by (with_reducible repeat (first | apply Kd.R_alloc | apply Kd.R_drewN | apply Kd.R_drew)); exact HO9266660.out) : p := h
theorem y83_ {p : Prop} (h : p := by (with_reducible repeat (first | apply Kd.R_alloc | apply Kd.R_drewN | apply Kd.R_drew)); exact HO_1002.out) : p := h
theorem y84_ {p : Prop} (h : p := by (with_reducible repeat (first | apply Kd.R_alloc | apply Kd.R_drewN | apply Kd.R_drew)); exact HO0_1.out) : p := h
theorem y85_ {p : Prop} (h : p := by have := HJ1.out; first | omega | exact Nat.le_refl _) : p := h
theorem y86_ {p : Prop} (h : p := by (with_reducible repeat (first | apply Kd.R_alloc | apply Kd.R_drewN | apply Kd.R_drew)); exact HO1.out) : p := h
theorem y87_ {p : Prop} (h : p := by (with_reducible repeat (first | refine blk_drewN ?_ _ | refine blk_drew ?_ | refine blk_alloc ?_ _)); refine blk_put (cs := #[.string a0_0, u9000_, .bool false]) ?_ 2 _ rfl; (with_reducible repeat (first | refine blk_drewN ?_ _ | refine blk_drew ?_ | refine blk_alloc ?_ _)); exact BK0.out) : p := h
theorem y88_ {p : Prop} (h : p := by (with_reducible repeat (first | refine blk_drewN ?_ _ | refine blk_drew ?_ | refine blk_alloc ?_ _)); refine blk_put (cs := #[.string a0_0, u9000_, .bool true]) ?_ 2 _ rfl; (with_reducible repeat (first | refine blk_drewN ?_ _ | refine blk_drew ?_ | refine blk_alloc ?_ _)); exact BK0.out) : p := h
theorem y89_ {p : Prop} (h : p := by first | exact Kd.R_nil _ _ _ _ _ | exact Kd.N_nil _ _ _ _ _ | exact Kd.V_nil _ _ _ _ _ | exact Kd.Q_nil _ _ _ _ _ | exact Kd.S_nil _ _ _ _ _) : p := h
theorem y90_ {p : Prop} (h : p := by (with_reducible repeat (first | refine blk_drewN ?_ _ | refine blk_drew ?_ | refine blk_alloc ?_ _)); exact BK9120189.out) : p := h
theorem y91_ {p : Prop} (h : p := by have h_ := cx10; (try simp only [ByteArray.size_append, ByteArray.size_extract] at h_); have s0_ : (⟨#[40]⟩ : ByteArray).size = 1 := rfl; have s1_ : (⟨#[43, 45, 42, 47, 60, 61, 38]⟩ : ByteArray).size = 7 := rfl;  omega) : p := h
theorem y92_ {p : Prop} (h : p := by have h_ := cx12; (try simp only [ByteArray.size_append, ByteArray.size_extract] at h_); have s0_ : (⟨#[40]⟩ : ByteArray).size = 1 := rfl; have s1_ : (⟨#[43, 45, 42, 47, 60, 61, 38]⟩ : ByteArray).size = 7 := rfl;  omega) : p := h
theorem y93_ {p : Prop} (h : p := by have h_ := cx13; (try simp only [ByteArray.size_append, ByteArray.size_extract] at h_); have s0_ : (⟨#[40]⟩ : ByteArray).size = 1 := rfl; have s1_ : (⟨#[43, 45, 42, 47, 60, 61, 38]⟩ : ByteArray).size = 7 := rfl;  omega) : p := h
theorem y94_ {p : Prop} (h : p := by have := HK1.out; have := HK9123708.out; omega) : p := h
theorem y95_ {p : Prop} (h : p := by have := HJ1.out; have := HJ7.out; have := HJ10.out; have := HJ24.out; have := HK5.out; have := HJ30.out; omega) : p := h
theorem y96_ {p : Prop} (h : p := by (with_reducible repeat (first | apply Kd.R_alloc | apply Kd.R_drewN | apply Kd.R_drew)); exact HO_604001.out) : p := h
theorem y97_ {p : Prop} (h : p := by repeat (first | (with_reducible first | exact HK.out | apply Kept.alloc | apply Kept.drewN | apply Kept.drew | refine Kept.setCell ?_ (.inl (.inr rfl)) _ | refine Kept.setCell ?_ (.inr GW252.out) _) | exact HK.out)) : p := h
theorem y98_ {p : Prop} (h : p := by repeat (first | (with_reducible first | exact HK.out | apply Kept.alloc | apply Kept.drewN | apply Kept.drew | refine Kept.setCell ?_ (.inl (.inr rfl)) _ | refine Kept.setCell ?_ (.inr GW365.out) _) | exact HK.out)) : p := h
theorem y99_ {p : Prop} (h : p := by (with_reducible repeat (first | apply Kd.R_alloc | apply Kd.R_drewN | apply Kd.R_drew)); exact HO_1001.out) : p := h
theorem y100_ {p : Prop} (h : p := by have := HJ1.out; omega) : p := h
theorem y101_ {p : Prop} (h : p := by have := HJ1.out; have := HJ7.out; first | omega | exact Nat.le_refl _) : p := h
theorem y102_ {p : Prop} (h : p := by have : (1 : Int) < (x0_7.size : Int) := of_decide_eq_true y5_; omega) : p := h
end Go.Proofs.YtmppibhdnajjjaaDoor.P
