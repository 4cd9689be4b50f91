/- Words that the printed proofs lean on (the part of the kit's print that they come to). -/
import Derived.Test.YtopchlafmfgpnaaWWords
import Derived.Laws.StructEq
namespace Go.Proofs.YtopchlafmfgpnaaW.PrintWords
open Go.RowKit
section
variable {P : Program} {d : Nat} {xs ys : Array Value} {f : Field} {fs : List Field} {a b : Value} {r s : Bool} {w : World}
end
end Go.Proofs.YtopchlafmfgpnaaW.PrintWords
