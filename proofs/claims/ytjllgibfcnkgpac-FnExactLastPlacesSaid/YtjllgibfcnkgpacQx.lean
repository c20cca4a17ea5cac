-- by wip/xprint.py, a program of this session over the kit's print: not trusted, Lean checks it.
import Derived.Test.YtjllgibfcnkgpacQx0
import Derived.Test.YtjllgibfcnkgpacQx1
import Derived.Test.YtjllgibfcnkgpacQx2
import Derived.Test.YtjllgibfcnkgpacQx3
import Derived.Test.YtjllgibfcnkgpacQx4
namespace Go.Proofs.Ytjllgibfcnkgpac.Q
open Go.RowKit Go.Proofs.YtjllgibfcnkgpacW.PrintWords Go.Proofs.YtjllgibfcnkgpacW.PrintLast Go.Proofs.YtjllgibfcnkgpacW.PrintMore
attribute [local go_sem] max2_int min2_int max_two min_two max_three min_three max_four min_four   -- for this text's walks alone
set_option linter.unusedVariables false
set_option linter.unusedSimpArgs false

end Go.Proofs.Ytjllgibfcnkgpac.Q
