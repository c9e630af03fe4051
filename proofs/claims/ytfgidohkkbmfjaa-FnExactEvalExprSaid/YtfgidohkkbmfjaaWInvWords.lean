-- PRINTED BY print.sh 35421559b90ae4d0a3588c463048766b98c2df88dd9212a6774a882060cdf62d: not written by this session
import Derived.Test.YtfgidohkkbmfjaaWInv
import Derived.Test.YtfgidohkkbmfjaaWFootNe
namespace Go.Proofs.YtfgidohkkbmfjaaW.PrintWords
open Go.RowKit
end Go.Proofs.YtfgidohkkbmfjaaW.PrintWords
namespace Go.Proofs.YtfgidohkkbmfjaaW.PrintLast
section
variable {ops : Array Oper} {a : Act} {o og : Oper} {g : Nat} {t : Tmp} {u : Bool}
end
end Go.Proofs.YtfgidohkkbmfjaaW.PrintLast
