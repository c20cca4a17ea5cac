-- by wip/xprint.py, a program of this session over the kit's print: not trusted, Lean checks it.
import Derived.Test.YtjllgibfcnkgpaeQx0
import Derived.Test.YtjllgibfcnkgpaeQx1
import Derived.Test.YtjllgibfcnkgpaeQx2
import Derived.Test.YtjllgibfcnkgpaeQx3
import Derived.Test.YtjllgibfcnkgpaeQx4
import Derived.Test.YtjllgibfcnkgpaeQx5
import Derived.Test.YtjllgibfcnkgpaeQx6
import Derived.Test.YtjllgibfcnkgpaeQx7
import Derived.Test.YtjllgibfcnkgpaeQx8
import Derived.Test.YtjllgibfcnkgpaeQx9
import Derived.Test.YtjllgibfcnkgpaeQx10
namespace Go.Proofs.Ytjllgibfcnkgpae.Q
open Go.RowKit Go.Proofs.YtjllgibfcnkgpaeW.PrintWords Go.Proofs.YtjllgibfcnkgpaeW.PrintLast Go.Proofs.YtjllgibfcnkgpaeW.PrintMore
attribute [local go_sem] max2_int min2_int max_two min_two max_three min_three max_four min_four   -- for this text's walks alone
set_option linter.unusedVariables false
set_option linter.unusedSimpArgs false

end Go.Proofs.Ytjllgibfcnkgpae.Q
