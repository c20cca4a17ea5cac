-- the kit's words, without the theorems that this claim never names (xprune.py)
import Derived.SizedLaws
import Derived.ChangeSlices
namespace Go.Proofs.YtldeaeeolibpjagW.PrintWords
open Go.ChangeShapes Go.WideShapes
end Go.Proofs.YtldeaeeolibpjagW.PrintWords
