-- by wip/xprint.py, a program of this session over the kit's print: not trusted, Lean checks it.
import Derived.Test.YtjllgibfcnkgpabQx0
import Derived.Test.YtjllgibfcnkgpabQx1
import Derived.Test.YtjllgibfcnkgpabQx2
import Derived.Test.YtjllgibfcnkgpabQx3
import Derived.Test.YtjllgibfcnkgpabQx4
namespace Go.Proofs.Ytjllgibfcnkgpab.Q
open Go.RowKit Go.Proofs.YtjllgibfcnkgpabW.PrintWords Go.Proofs.YtjllgibfcnkgpabW.PrintLast Go.Proofs.YtjllgibfcnkgpabW.PrintMore
attribute [local go_sem] max2_int min2_int max_two min_two max_three min_three max_four min_four   -- for this text's walks alone
set_option linter.unusedVariables false
set_option linter.unusedSimpArgs false

end Go.Proofs.Ytjllgibfcnkgpab.Q
