-- by wip/xprint.py, a program of this session over the kit's print: not trusted, Lean checks it.
import Derived.Test.YtjllgibfcnkgpadQx0
import Derived.Test.YtjllgibfcnkgpadQx1
import Derived.Test.YtjllgibfcnkgpadQx2
import Derived.Test.YtjllgibfcnkgpadQx3
import Derived.Test.YtjllgibfcnkgpadQx4
import Derived.Test.YtjllgibfcnkgpadQx5
import Derived.Test.YtjllgibfcnkgpadQx6
import Derived.Test.YtjllgibfcnkgpadQx7
import Derived.Test.YtjllgibfcnkgpadQx8
import Derived.Test.YtjllgibfcnkgpadQx9
import Derived.Test.YtjllgibfcnkgpadQx10
namespace Go.Proofs.Ytjllgibfcnkgpad.Q
open Go.RowKit Go.Proofs.YtjllgibfcnkgpadW.PrintWords Go.Proofs.YtjllgibfcnkgpadW.PrintLast Go.Proofs.YtjllgibfcnkgpadW.PrintMore
attribute [local go_sem] max2_int min2_int max_two min_two max_three min_three max_four min_four   -- for this text's walks alone
set_option linter.unusedVariables false
set_option linter.unusedSimpArgs false

end Go.Proofs.Ytjllgibfcnkgpad.Q
