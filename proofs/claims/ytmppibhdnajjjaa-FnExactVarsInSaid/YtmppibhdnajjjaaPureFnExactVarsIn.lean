/- FnExactVarsIn: for every list of nodes the program's VarsIn answers what the reference's answers, turns none of them, keeps nothing of them, and its answer owns its memory; no condition. -/
import Derived.Test.YtmppibhdnajjjaaUVarsIn
import Derived.Test.YtmppibhdnajjjaaUInts
import Derived.Test.YtmppibhdnajjjaaVSFnExactVarsIn
import Derived.Test.YtmppibhdnajjjaaV7
namespace Go.Proofs.Ytmppibhdnajjjaa.V
set_option linter.unusedVariables false
set_option linter.unusedSimpArgs false
open Go.RowKit Go.Proofs.Ytmppibhdnajjjaa Go.Proofs.YtmppibhdnajjjaaW.PrintWords Go.Proofs.YtmppibhdnajjjaaW.PrintLast
def mkN1 (x : List S70) (i m : Int) : List S70 := x.set i.toNat ⟨m, (rd_T70 x i).f1, (rd_T70 x i).f2, (rd_T70 x i).f3⟩
def mkN2 (x : List S70) (i m : Int) : List S70 := x.set i.toNat ⟨(rd_T70 x i).f0, m, (rd_T70 x i).f2, (rd_T70 x i).f3⟩
def mkN3 (x : List S70) (i m : Int) : List S70 := x.set i.toNat ⟨(rd_T70 x i).f0, (rd_T70 x i).f1, m, (rd_T70 x i).f3⟩
def mkN4 (x : List S70) (i m : Int) : List S70 := x.set i.toNat ⟨(rd_T70 x i).f0, (rd_T70 x i).f1, (rd_T70 x i).f2, m⟩
theorem markNodeS_some (l : List S70) (hl : l.length ≤ 1048576) : ∃ m l', Ev (fun k => laws_markNodeS.f k l 1) (m, l') ∧ ¬ m < 0 := by
  have main : ∀ d i : Nat, l.length - i = d → i ≤ l.length → ∀ x : List S70, x.length = l.length → ∃ m l', Ev (fun k => laws_markNodeS.l0 k x (4 * (i : Int) + 1) (i : Int)) (m, l') ∧ ¬ m < 0 := by
    intro d
    induction d with
    | zero =>
      intro i hd hi x hx
      exact ⟨_, _, Ev.step (fun k => by rw [laws_markNodeS.l0]) (Pl.ev_ite_neg (by omega) (Ev.now _)), by omega⟩
    | succ d ih =>
      intro i hd hi x hx
      have w1 : wrap64 (4 * (i : Int) + 1 + 1) = 4 * (i : Int) + 1 + 1 := Pl.wrap_in (by omega) (by omega)
      have w2 : wrap64 (4 * (i : Int) + 1 + 1 + 1) = 4 * (i : Int) + 1 + 1 + 1 := Pl.wrap_in (by omega) (by omega)
      have w3 : wrap64 (4 * (i : Int) + 1 + 1 + 1 + 1) = 4 * (i : Int) + 1 + 1 + 1 + 1 := Pl.wrap_in (by omega) (by omega)
      have w4 : wrap64 (4 * (i : Int) + 1 + 1 + 1 + 1 + 1) = 4 * ((i + 1 : Nat) : Int) + 1 := by rw [Pl.wrap_in (by omega) (by omega)]; omega
      obtain ⟨m, l', h, h0⟩ := ih (i + 1) (by omega) (by omega) (mkN4 (mkN3 (mkN2 (mkN1 x (i : Int) (4 * (i : Int) + 1)) (i : Int) (4 * (i : Int) + 1 + 1)) (i : Int) (4 * (i : Int) + 1 + 1 + 1)) (i : Int) (4 * (i : Int) + 1 + 1 + 1 + 1)) (by simp [mkN1, mkN2, mkN3, mkN4, hx])
      refine ⟨m, l', Ev.step (fun k => by rw [laws_markNodeS.l0]) (Pl.ev_ite_pos (by omega) (Pl.ev_ite_pos (by omega) ?_)), h0⟩
      rw [w1, w2, w3, w4, Pl.wrap_nat (show i < 9223372036854775807 by omega)]
      exact h
  obtain ⟨m, l', h, h0⟩ := main l.length 0 (by omega) (Nat.zero_le _) l rfl
  refine ⟨m, l', ?_, h0⟩
  unfold laws_markNodeS.f
  simpa using h
end Go.Proofs.Ytmppibhdnajjjaa.V
namespace Go.Proofs.Ytmppibhdnajjjaa.Pure
open Go.RowKit Go.Proofs.Ytmppibhdnajjjaa Go.Proofs.Ytmppibhdnajjjaa.V Go.Proofs.YtmppibhdnajjjaaW.PrintWords Go.Proofs.YtmppibhdnajjjaaW.PrintLast
theorem FnExactVarsIn : laws_FnExactVarsIn.Pure := by
  intro a ha
  refine Ev.rounds (g := fun k => laws_FnExactVarsIn.f k a) ?_
  unfold laws_FnExactVarsIn.f
  obtain ⟨r, r0, r1, r2, r3⟩ := szNodeS_ev a ha.1 1048576 (by omega) (by omega)
  rw [r3]
  simp only [Option.bind_some]
  by_cases hr : r < 0
  · exact Pl.ev_ite_pos hr (Ev.now _)
  · refine Pl.ev_ite_neg hr ?_
    have a1 := r2 (by omega)
    have ta := toNodeS_ev a a1
    have la : (a.map toNode).length ≤ 1048576 := by simpa using a1
    obtain ⟨l, hl, s, m, _⟩ := varsIn_ev (a.map toNode) la
    obtain ⟨t, t', ht, h0⟩ := markNodeS_some (a.map toNode) la
    have eqi := eqInts_ev (exprC (a.map toNode)) l hl
    have mk := markInts_ev (exprC (a.map toNode)) l hl
    have hd := heldInts_ev (exprC (a.map toNode)) l.length hl
    refine Pl.ev_bind' ta (Pl.ev_bind' s (Pl.ev_bind' ta (Pl.ev_bind' m (Pl.ev_bind' eqi (Pl.ev_ite_pos rfl (Pl.ev_bind' ta (Pl.ev_bind' (eqNodeS_ev _ la) (Pl.ev_ite_pos rfl (Pl.ev_bind' ht (Pl.ev_ite_neg h0 (Pl.ev_bind' eqi ?_)))))))))))
    refine Ev.step (fun k => by rw [laws_FnExactVarsIn.j0]) ?_
    refine Pl.ev_ite_neg (by simp) (Pl.ev_bind' mk (Pl.ev_bind' hd (Pl.ev_ite_neg (by omega) (Pl.ev_ite_pos rfl (Pl.ev_bind' ta (Pl.ev_bind' m (Pl.ev_bind' eqi (Pl.ev_ite_pos rfl (Pl.ev_bind' hd (Pl.ev_ite_neg (by omega) (Pl.ev_ite_pos rfl (Ev.now _))))))))))))
end Go.Proofs.Ytmppibhdnajjjaa.Pure
