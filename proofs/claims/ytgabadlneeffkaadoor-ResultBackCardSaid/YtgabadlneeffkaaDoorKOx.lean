-- Written by lp.py: a program of this session's over the kit's printer. Not trusted: Lean checks it.
import Derived.Test.YtgabadlneeffkaaDoorKOx0
import Derived.Test.YtgabadlneeffkaaDoorKOx1
import Derived.Test.YtgabadlneeffkaaDoorKOx2
import Derived.Test.YtgabadlneeffkaaDoorKOx3
import Derived.Test.YtgabadlneeffkaaDoorKOx4
import Derived.Test.YtgabadlneeffkaaDoorKOx5
import Derived.Test.YtgabadlneeffkaaDoorKOx6
import Derived.Test.YtgabadlneeffkaaDoorKOx7
import Derived.Test.YtgabadlneeffkaaDoorKOx8
import Derived.Test.YtgabadlneeffkaaDoorKOx9
import Derived.Test.YtgabadlneeffkaaDoorKOx10
import Derived.Test.YtgabadlneeffkaaDoorKOx11
import Derived.Test.YtgabadlneeffkaaDoorKOx12
import Derived.Test.YtgabadlneeffkaaDoorKOx13
namespace Go.Proofs.YtgabadlneeffkaaDoor.B
open Go.RowKit Go.Proofs.YtgabadlneeffkaaDoorW.PrintWords Go.Proofs.YtgabadlneeffkaaDoorW.PrintLast Go.Proofs.YtgabadlneeffkaaDoorW.PrintMore
attribute [local go_sem] max2_int min2_int max_two min_two max_three min_three max_four min_four
set_option linter.unusedVariables false
set_option linter.unusedSimpArgs false
end Go.Proofs.YtgabadlneeffkaaDoor.B
