-- the kit's words, without the theorems that this claim never names (xprune.py)
import Derived.Test.YtldeaeeolibpjagWN
namespace Go.Proofs.YtldeaeeolibpjagW.PrintWords
open Go.RowKit
namespace Kd
section
variable {α : Type} {d : Kd α} {W : World} {g n : Nat} {S ok : Nat → Prop} {A : Option Addr} {ad : Addr} {xs : List α}
end
end Kd
end Go.Proofs.YtldeaeeolibpjagW.PrintWords
