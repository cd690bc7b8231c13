-- Written by lp.py: a program of this session's over the kit's printer. Not trusted: Lean checks it.
import Derived.Test.YtlkpdfbmklanoaaDoorQx0
import Derived.Test.YtlkpdfbmklanoaaDoorQx1
import Derived.Test.YtlkpdfbmklanoaaDoorQx2
import Derived.Test.YtlkpdfbmklanoaaDoorQx3
import Derived.Test.YtlkpdfbmklanoaaDoorQx4
import Derived.Test.YtlkpdfbmklanoaaDoorQx5
import Derived.Test.YtlkpdfbmklanoaaDoorQx6
import Derived.Test.YtlkpdfbmklanoaaDoorQx7
import Derived.Test.YtlkpdfbmklanoaaDoorQx8
import Derived.Test.YtlkpdfbmklanoaaDoorQx9
import Derived.Test.YtlkpdfbmklanoaaDoorQx10
namespace Go.Proofs.YtlkpdfbmklanoaaDoor.Q
open Go.RowKit Go.Proofs.YtlkpdfbmklanoaaDoorW.PrintWords Go.Proofs.YtlkpdfbmklanoaaDoorW.PrintLast Go.Proofs.YtlkpdfbmklanoaaDoorW.PrintMore
attribute [local go_sem] max2_int min2_int max_two min_two max_three min_three max_four min_four   -- for this text's walks alone
set_option linter.unusedVariables false
set_option linter.unusedSimpArgs false

end Go.Proofs.YtlkpdfbmklanoaaDoor.Q
