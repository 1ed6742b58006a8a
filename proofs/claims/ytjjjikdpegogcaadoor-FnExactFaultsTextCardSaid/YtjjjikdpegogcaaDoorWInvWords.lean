-- PRINTED BY print.sh 35421559b90ae4d0a3588c463048766b98c2df88dd9212a6774a882060cdf62d: not written by this session
import Derived.Test.YtjjjikdpegogcaaDoorWInv
import Derived.Test.YtjjjikdpegogcaaDoorWFootNe
namespace Go.Proofs.YtjjjikdpegogcaaDoorW.PrintWords
open Go.RowKit
end Go.Proofs.YtjjjikdpegogcaaDoorW.PrintWords
namespace Go.Proofs.YtjjjikdpegogcaaDoorW.PrintLast
section
variable {ops : Array Oper} {a : Act} {o og : Oper} {g : Nat} {t : Tmp} {u : Bool}
end
end Go.Proofs.YtjjjikdpegogcaaDoorW.PrintLast

