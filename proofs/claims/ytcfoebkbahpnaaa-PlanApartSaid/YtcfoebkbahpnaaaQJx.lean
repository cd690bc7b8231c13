import Derived.Test.YtcfoebkbahpnaaaQJx0
import Derived.Test.YtcfoebkbahpnaaaQJx1
import Derived.Test.YtcfoebkbahpnaaaQJx2
import Derived.Test.YtcfoebkbahpnaaaQJx3
import Derived.Test.YtcfoebkbahpnaaaQJx4
import Derived.Test.YtcfoebkbahpnaaaQJx5
import Derived.Test.YtcfoebkbahpnaaaQJx6
import Derived.Test.YtcfoebkbahpnaaaQJx7
import Derived.Test.YtcfoebkbahpnaaaQJx8
import Derived.Test.YtcfoebkbahpnaaaQJx9
import Derived.Test.YtcfoebkbahpnaaaQJx10
import Derived.Test.YtcfoebkbahpnaaaQJx11
import Derived.Test.YtcfoebkbahpnaaaQJx12
import Derived.Test.YtcfoebkbahpnaaaQJx13
import Derived.Test.YtcfoebkbahpnaaaQJx14
import Derived.Test.YtcfoebkbahpnaaaQJx15
namespace Go.Proofs.Ytcfoebkbahpnaaa.K
open Go.RowKit Go.Proofs.YtcfoebkbahpnaaaW.PrintWords Go.Proofs.YtcfoebkbahpnaaaW.PrintLast Go.Proofs.YtcfoebkbahpnaaaW.PrintMore
attribute [local go_sem] max2_int min2_int max_two min_two max_three min_three max_four min_four
set_option linter.unusedVariables false
set_option maxHeartbeats 8000000
set_option maxRecDepth 100000
set_option linter.unusedSimpArgs false
end Go.Proofs.Ytcfoebkbahpnaaa.K
