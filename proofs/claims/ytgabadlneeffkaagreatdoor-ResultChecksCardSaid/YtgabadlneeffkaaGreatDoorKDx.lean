-- Written by lp.py: a program of this session's over the kit's printer. Not trusted: Lean checks it.
import Derived.Test.YtgabadlneeffkaaGreatDoorKDx0
import Derived.Test.YtgabadlneeffkaaGreatDoorKDx1
import Derived.Test.YtgabadlneeffkaaGreatDoorKDx2
import Derived.Test.YtgabadlneeffkaaGreatDoorKDx3
import Derived.Test.YtgabadlneeffkaaGreatDoorKDx4
import Derived.Test.YtgabadlneeffkaaGreatDoorKDx5
import Derived.Test.YtgabadlneeffkaaGreatDoorKDx6
import Derived.Test.YtgabadlneeffkaaGreatDoorKDx7
import Derived.Test.YtgabadlneeffkaaGreatDoorKDx8
import Derived.Test.YtgabadlneeffkaaGreatDoorKDx9
import Derived.Test.YtgabadlneeffkaaGreatDoorKDx10
import Derived.Test.YtgabadlneeffkaaGreatDoorKDx11
import Derived.Test.YtgabadlneeffkaaGreatDoorKDx12
import Derived.Test.YtgabadlneeffkaaGreatDoorKDx13
import Derived.Test.YtgabadlneeffkaaGreatDoorKDx14
import Derived.Test.YtgabadlneeffkaaGreatDoorKDx15
import Derived.Test.YtgabadlneeffkaaGreatDoorKDx16
namespace Go.Proofs.YtgabadlneeffkaaGreatDoor.C
open Go.RowKit Go.Proofs.YtgabadlneeffkaaGreatDoorW.PrintWords Go.Proofs.YtgabadlneeffkaaGreatDoorW.PrintLast Go.Proofs.YtgabadlneeffkaaGreatDoorW.PrintMore
attribute [local go_sem] max2_int min2_int max_two min_two max_three min_three max_four min_four
set_option linter.unusedVariables false
set_option linter.unusedSimpArgs false
end Go.Proofs.YtgabadlneeffkaaGreatDoor.C
