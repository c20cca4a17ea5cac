-- by wip/xprint.py, a program of this session over the kit's print: not trusted, Lean checks it.
import Derived.Test.YtldeaeeolibpjacQx0
import Derived.Test.YtldeaeeolibpjacQx1
import Derived.Test.YtldeaeeolibpjacQx2
import Derived.Test.YtldeaeeolibpjacQx3
import Derived.Test.YtldeaeeolibpjacQx4
import Derived.Test.YtldeaeeolibpjacQx5
import Derived.Test.YtldeaeeolibpjacQx6
import Derived.Test.YtldeaeeolibpjacQx7
import Derived.Test.YtldeaeeolibpjacQx8
import Derived.Test.YtldeaeeolibpjacQx9
import Derived.Test.YtldeaeeolibpjacQx10
import Derived.Test.YtldeaeeolibpjacQx11
import Derived.Test.YtldeaeeolibpjacQx12
namespace Go.Proofs.Ytldeaeeolibpjac.Q
open Go.RowKit Go.Proofs.YtldeaeeolibpjacW.PrintWords Go.Proofs.YtldeaeeolibpjacW.PrintLast Go.Proofs.YtldeaeeolibpjacW.PrintMore
attribute [local go_sem] max2_int min2_int max_two min_two max_three min_three max_four min_four   -- for this text's walks alone
set_option linter.unusedVariables false
set_option linter.unusedSimpArgs false

end Go.Proofs.Ytldeaeeolibpjac.Q
