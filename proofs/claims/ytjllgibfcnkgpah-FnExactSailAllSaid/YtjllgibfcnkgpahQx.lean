-- by wip/xprint.py, a program of this session over the kit's print: not trusted, Lean checks it.
import Derived.Test.YtjllgibfcnkgpahQx0
import Derived.Test.YtjllgibfcnkgpahQx1
import Derived.Test.YtjllgibfcnkgpahQx2
import Derived.Test.YtjllgibfcnkgpahQx3
import Derived.Test.YtjllgibfcnkgpahQx4
import Derived.Test.YtjllgibfcnkgpahQx5
import Derived.Test.YtjllgibfcnkgpahQx6
import Derived.Test.YtjllgibfcnkgpahQx7
import Derived.Test.YtjllgibfcnkgpahQx8
import Derived.Test.YtjllgibfcnkgpahQx9
import Derived.Test.YtjllgibfcnkgpahQx10
import Derived.Test.YtjllgibfcnkgpahQx11
import Derived.Test.YtjllgibfcnkgpahQx12
import Derived.Test.YtjllgibfcnkgpahQx13
import Derived.Test.YtjllgibfcnkgpahQx14
import Derived.Test.YtjllgibfcnkgpahQx15
import Derived.Test.YtjllgibfcnkgpahQx16
import Derived.Test.YtjllgibfcnkgpahQx17
import Derived.Test.YtjllgibfcnkgpahQx18
import Derived.Test.YtjllgibfcnkgpahQx19
import Derived.Test.YtjllgibfcnkgpahQx20
import Derived.Test.YtjllgibfcnkgpahQx21
import Derived.Test.YtjllgibfcnkgpahQx22
namespace Go.Proofs.Ytjllgibfcnkgpah.Q
open Go.RowKit Go.Proofs.YtjllgibfcnkgpahW.PrintWords Go.Proofs.YtjllgibfcnkgpahW.PrintLast Go.Proofs.YtjllgibfcnkgpahW.PrintMore
attribute [local go_sem] max2_int min2_int max_two min_two max_three min_three max_four min_four   -- for this text's walks alone
set_option linter.unusedVariables false
set_option linter.unusedSimpArgs false

end Go.Proofs.Ytjllgibfcnkgpah.Q
