-- by wip/xprint.py, a program of this session over the kit's print: not trusted, Lean checks it.
import Derived.Test.YtjllgibfcnkgpagQx0
import Derived.Test.YtjllgibfcnkgpagQx1
import Derived.Test.YtjllgibfcnkgpagQx2
import Derived.Test.YtjllgibfcnkgpagQx3
import Derived.Test.YtjllgibfcnkgpagQx4
import Derived.Test.YtjllgibfcnkgpagQx5
import Derived.Test.YtjllgibfcnkgpagQx6
import Derived.Test.YtjllgibfcnkgpagQx7
import Derived.Test.YtjllgibfcnkgpagQx8
import Derived.Test.YtjllgibfcnkgpagQx9
import Derived.Test.YtjllgibfcnkgpagQx10
import Derived.Test.YtjllgibfcnkgpagQx11
import Derived.Test.YtjllgibfcnkgpagQx12
import Derived.Test.YtjllgibfcnkgpagQx13
import Derived.Test.YtjllgibfcnkgpagQx14
import Derived.Test.YtjllgibfcnkgpagQx15
import Derived.Test.YtjllgibfcnkgpagQx16
import Derived.Test.YtjllgibfcnkgpagQx17
import Derived.Test.YtjllgibfcnkgpagQx18
import Derived.Test.YtjllgibfcnkgpagQx19
import Derived.Test.YtjllgibfcnkgpagQx20
namespace Go.Proofs.Ytjllgibfcnkgpag.Q
open Go.RowKit Go.Proofs.YtjllgibfcnkgpagW.PrintWords Go.Proofs.YtjllgibfcnkgpagW.PrintLast Go.Proofs.YtjllgibfcnkgpagW.PrintMore
attribute [local go_sem] max2_int min2_int max_two min_two max_three min_three max_four min_four   -- for this text's walks alone
set_option linter.unusedVariables false
set_option linter.unusedSimpArgs false

end Go.Proofs.Ytjllgibfcnkgpag.Q
