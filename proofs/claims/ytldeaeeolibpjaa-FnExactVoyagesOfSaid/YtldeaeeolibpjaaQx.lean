-- by wip/xprint.py, a program of this session over the kit's print: not trusted, Lean checks it.
import Derived.Test.YtldeaeeolibpjaaQx0
import Derived.Test.YtldeaeeolibpjaaQx1
import Derived.Test.YtldeaeeolibpjaaQx2
import Derived.Test.YtldeaeeolibpjaaQx3
import Derived.Test.YtldeaeeolibpjaaQx4
import Derived.Test.YtldeaeeolibpjaaQx5
import Derived.Test.YtldeaeeolibpjaaQx6
import Derived.Test.YtldeaeeolibpjaaQx7
import Derived.Test.YtldeaeeolibpjaaQx8
import Derived.Test.YtldeaeeolibpjaaQx9
import Derived.Test.YtldeaeeolibpjaaQx10
import Derived.Test.YtldeaeeolibpjaaQx11
import Derived.Test.YtldeaeeolibpjaaQx12
import Derived.Test.YtldeaeeolibpjaaQx13
import Derived.Test.YtldeaeeolibpjaaQx14
import Derived.Test.YtldeaeeolibpjaaQx15
import Derived.Test.YtldeaeeolibpjaaQx16
import Derived.Test.YtldeaeeolibpjaaQx17
import Derived.Test.YtldeaeeolibpjaaQx18
import Derived.Test.YtldeaeeolibpjaaQx19
import Derived.Test.YtldeaeeolibpjaaQx20
import Derived.Test.YtldeaeeolibpjaaQx21
import Derived.Test.YtldeaeeolibpjaaQx22
import Derived.Test.YtldeaeeolibpjaaQx23
import Derived.Test.YtldeaeeolibpjaaQx24
import Derived.Test.YtldeaeeolibpjaaQx25
namespace Go.Proofs.Ytldeaeeolibpjaa.Q
open Go.RowKit Go.Proofs.YtldeaeeolibpjaaW.PrintWords Go.Proofs.YtldeaeeolibpjaaW.PrintLast Go.Proofs.YtldeaeeolibpjaaW.PrintMore
attribute [local go_sem] max2_int min2_int max_two min_two max_three min_three max_four min_four   -- for this text's walks alone
set_option linter.unusedVariables false
set_option linter.unusedSimpArgs false

end Go.Proofs.Ytldeaeeolibpjaa.Q
