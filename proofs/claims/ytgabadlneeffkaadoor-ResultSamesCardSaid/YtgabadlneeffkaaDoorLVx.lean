-- Written by lp.py: a program of this session's over the kit's printer. Not trusted: Lean checks it.
import Derived.Test.YtgabadlneeffkaaDoorLVx0
import Derived.Test.YtgabadlneeffkaaDoorLVx1
import Derived.Test.YtgabadlneeffkaaDoorLVx2
import Derived.Test.YtgabadlneeffkaaDoorLVx3
import Derived.Test.YtgabadlneeffkaaDoorLVx4
import Derived.Test.YtgabadlneeffkaaDoorLVx5
import Derived.Test.YtgabadlneeffkaaDoorLVx6
import Derived.Test.YtgabadlneeffkaaDoorLVx7
import Derived.Test.YtgabadlneeffkaaDoorLVx8
import Derived.Test.YtgabadlneeffkaaDoorLVx9
import Derived.Test.YtgabadlneeffkaaDoorLVx10
import Derived.Test.YtgabadlneeffkaaDoorLVx11
import Derived.Test.YtgabadlneeffkaaDoorLVx12
import Derived.Test.YtgabadlneeffkaaDoorLVx13
import Derived.Test.YtgabadlneeffkaaDoorLVx14
namespace Go.Proofs.YtgabadlneeffkaaDoor.S
open Go.RowKit Go.Proofs.YtgabadlneeffkaaDoorW.PrintWords Go.Proofs.YtgabadlneeffkaaDoorW.PrintLast Go.Proofs.YtgabadlneeffkaaDoorW.PrintMore
attribute [local go_sem] max2_int min2_int max_two min_two max_three min_three max_four min_four
set_option linter.unusedVariables false
set_option linter.unusedSimpArgs false
end Go.Proofs.YtgabadlneeffkaaDoor.S
