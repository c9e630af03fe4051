-- Written by a program of this session's own (xp.py) for this seat.
import Derived.Test.YtmppibhdnajjjaaDoorGZ
import Derived.Test.YtmppibhdnajjjaaDoorG0
import Derived.Test.YtmppibhdnajjjaaDoorG9
namespace Go.Proofs.YtmppibhdnajjjaaDoor.G
open Go.RowKit Go.Proofs.YtmppibhdnajjjaaDoorW.PrintWords Go.Proofs.YtmppibhdnajjjaaDoorW.PrintLast Go.Proofs.YtmppibhdnajjjaaDoorW.PrintMore
attribute [local go_sem] Instr.field asAgg
attribute [local go_sem] max2_int min2_int max_two min_two max_three min_three max_four min_four   -- for this text's walks alone
set_option linter.unusedVariables false
set_option linter.unusedSimpArgs false

/-! ### impl_isPlace: function 88 -/
def impl_isPlace.f (a0 : Int) (a1 : Int) : Option (Bool) := (impl_inRange.f a0 0 (wrap64 (a1 - 1))).bind fun t268 => (some t268)
set_option maxHeartbeats 8000000 in
set_option maxRecDepth 100000 in
theorem impl_isPlace.calls (a0 : Int) (a1 : Int) (r : Bool) (w : World) (h : impl_isPlace.f a0 a1 = some r) :
    Calls Tryd.prog 88 #[.int .i64 a0, .int .i64 a1] w fun e w' => e = .returned (.bool r) ∧ Drawn0 w w' := by
 have H : ((impl_inRange.f a0 0 (wrap64 (a1 - 1))).bind fun t268 => (some t268)) = some r := h; clear h; replace H := Option.bind_eq_some_iff.mp H; obtain ⟨t268, A30, H⟩ := H; have A3 := a_ A30; clear A30; obtain rfl := Option.some.inj H; go_enter Tryd.func88, Tryd.ntmps88
 go_wp2_with (first | ((with_reducible refine gate_callee (f := 48) rfl ?_); refine gc_ 48 8 Tryd.func48 #[.int .i64 a0, .int .i64 0, .int .i64 (wrap64 (a1 - 1))] ?_; (with_reducible refine (impl_inRange.calls a0 0 (wrap64 (a1 - 1)) t268 _ A3.out).mono ?_); rintro e w' ⟨rfl, ⟨nd, rfl⟩⟩; refine ⟨_, rfl, ?_⟩))
 go_ret
 exact ⟨y1_, y8_⟩

end Go.Proofs.YtmppibhdnajjjaaDoor.G
