-- by wip/xprint.py, a program of this session over the kit's print: not trusted, Lean checks it.
import Derived.Test.YtjllgibfcnkgpafQx0
import Derived.Test.YtjllgibfcnkgpafQx1
import Derived.Test.YtjllgibfcnkgpafQx2
import Derived.Test.YtjllgibfcnkgpafQx3
import Derived.Test.YtjllgibfcnkgpafQx4
import Derived.Test.YtjllgibfcnkgpafQx5
import Derived.Test.YtjllgibfcnkgpafQx6
import Derived.Test.YtjllgibfcnkgpafQx7
import Derived.Test.YtjllgibfcnkgpafQx8
import Derived.Test.YtjllgibfcnkgpafQx9
import Derived.Test.YtjllgibfcnkgpafQx10
import Derived.Test.YtjllgibfcnkgpafQx11
import Derived.Test.YtjllgibfcnkgpafQx12
import Derived.Test.YtjllgibfcnkgpafQx13
import Derived.Test.YtjllgibfcnkgpafQx14
import Derived.Test.YtjllgibfcnkgpafQx15
import Derived.Test.YtjllgibfcnkgpafQx16
import Derived.Test.YtjllgibfcnkgpafQx17
import Derived.Test.YtjllgibfcnkgpafQx18
namespace Go.Proofs.Ytjllgibfcnkgpaf.Q
open Go.RowKit Go.Proofs.YtjllgibfcnkgpafW.PrintWords Go.Proofs.YtjllgibfcnkgpafW.PrintLast Go.Proofs.YtjllgibfcnkgpafW.PrintMore
attribute [local go_sem] max2_int min2_int max_two min_two max_three min_three max_four min_four   -- for this text's walks alone
set_option linter.unusedVariables false
set_option linter.unusedSimpArgs false

end Go.Proofs.Ytjllgibfcnkgpaf.Q
