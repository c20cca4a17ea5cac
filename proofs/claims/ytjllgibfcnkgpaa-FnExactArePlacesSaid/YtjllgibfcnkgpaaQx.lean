-- by wip/xprint.py, a program of this session over the kit's print: not trusted, Lean checks it.
import Derived.Test.YtjllgibfcnkgpaaQx0
import Derived.Test.YtjllgibfcnkgpaaQx1
import Derived.Test.YtjllgibfcnkgpaaQx2
import Derived.Test.YtjllgibfcnkgpaaQx3
import Derived.Test.YtjllgibfcnkgpaaQx4
import Derived.Test.YtjllgibfcnkgpaaQx5
import Derived.Test.YtjllgibfcnkgpaaQx6
import Derived.Test.YtjllgibfcnkgpaaQx7
import Derived.Test.YtjllgibfcnkgpaaQx8
namespace Go.Proofs.Ytjllgibfcnkgpaa.Q
open Go.RowKit Go.Proofs.YtjllgibfcnkgpaaW.PrintWords Go.Proofs.YtjllgibfcnkgpaaW.PrintLast Go.Proofs.YtjllgibfcnkgpaaW.PrintMore
attribute [local go_sem] max2_int min2_int max_two min_two max_three min_three max_four min_four   -- for this text's walks alone
set_option linter.unusedVariables false
set_option linter.unusedSimpArgs false

end Go.Proofs.Ytjllgibfcnkgpaa.Q
