/- The library's words (strings.Split, Cut, Join, strconv.Itoa, Atoi) as the plain lists of bytes that Sp.lean speaks of. -/
import Derived.Test.YtcfoebkbahpnaaaQSp
import Derived.Lib.IndexBytes
import Derived.Lib.CountLaws
import Derived.Lib.SplitLaws
import Derived.Lib.CutLaws
import Derived.Lib.AtoiAllCases
namespace Go.Proofs.Ytcfoebkbahpnaaa
open Go.Lib

/-! ### digits -/
end Go.Proofs.Ytcfoebkbahpnaaa
