/- A record that came in as an argument: its cells tell it. No condition. -/
import Derived.Test.YtmppibhdnajjjaaDoorXOpen
import Derived.WideShapes
namespace Go.Proofs.YtmppibhdnajjjaaDoor
open Go.RowKit Go.WideShapes
theorem agg_of_cells {P : Program} {w : World} {r : Reach} {base : Nat} {t : TypeId} {v : Value} {fs : Array Field} {l : List Value} (ht : P.underlying t = some (.struct fs)) (h : Value.okWide P w r base t v) (hc : v.cells.toList = l) : v = .agg l.toArray := by
  obtain ⟨cs, rfl, _⟩ := okWide_struct ht h
  subst hc
  simp [Value.cells]
end Go.Proofs.YtmppibhdnajjjaaDoor
