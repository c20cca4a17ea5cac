-- by wip/xprint.py, a program of this session over the kit's print: not trusted, Lean checks it.
import Derived.Test.YtldeaeeolibpjagQx0
import Derived.Test.YtldeaeeolibpjagQx1
import Derived.Test.YtldeaeeolibpjagQx2
import Derived.Test.YtldeaeeolibpjagQx3
import Derived.Test.YtldeaeeolibpjagQx4
import Derived.Test.YtldeaeeolibpjagQx5
import Derived.Test.YtldeaeeolibpjagQx6
import Derived.Test.YtldeaeeolibpjagQx7
import Derived.Test.YtldeaeeolibpjagQx8
import Derived.Test.YtldeaeeolibpjagQx9
import Derived.Test.YtldeaeeolibpjagQx10
import Derived.Test.YtldeaeeolibpjagQx11
import Derived.Test.YtldeaeeolibpjagQx12
import Derived.Test.YtldeaeeolibpjagQx13
import Derived.Test.YtldeaeeolibpjagQx14
import Derived.Test.YtldeaeeolibpjagQx15
import Derived.Test.YtldeaeeolibpjagQx16
import Derived.Test.YtldeaeeolibpjagQx17
import Derived.Test.YtldeaeeolibpjagQx18
import Derived.Test.YtldeaeeolibpjagQx19
import Derived.Test.YtldeaeeolibpjagQx20
import Derived.Test.YtldeaeeolibpjagQx21
import Derived.Test.YtldeaeeolibpjagQx22
import Derived.Test.YtldeaeeolibpjagQx23
import Derived.Test.YtldeaeeolibpjagQx24
import Derived.Test.YtldeaeeolibpjagQx25
import Derived.Test.YtldeaeeolibpjagQx26
namespace Go.Proofs.Ytldeaeeolibpjag.Q
open Go.RowKit Go.Proofs.YtldeaeeolibpjagW.PrintWords Go.Proofs.YtldeaeeolibpjagW.PrintLast Go.Proofs.YtldeaeeolibpjagW.PrintMore
attribute [local go_sem] max2_int min2_int max_two min_two max_three min_three max_four min_four   -- for this text's walks alone
set_option linter.unusedVariables false
set_option linter.unusedSimpArgs false

end Go.Proofs.Ytldeaeeolibpjag.Q
