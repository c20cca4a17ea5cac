-- the kit's words, without the theorems that this claim never names (xprune.py)
import Derived.Test.YtldeaeeolibpjagWWords
import Derived.Test.YtldeaeeolibpjagWLast
namespace Go.Proofs.YtldeaeeolibpjagW.PrintWords
open Go.RowKit
namespace Kd
section
variable {α : Type} {d : Kd α} {e base g o n cap : Nat} {ok okp : Nat → Prop} {w W : World} {v : Value} {xs : List α}
end
section
variable {α : Type} {enc : α → Value} {h1 : ∀ x, (enc x).oneCell' = true} {e base g o n cap : Nat} {ok : Nat → Prop} {W : World} {xs : List α}
end
end Kd
end Go.Proofs.YtldeaeeolibpjagW.PrintWords
