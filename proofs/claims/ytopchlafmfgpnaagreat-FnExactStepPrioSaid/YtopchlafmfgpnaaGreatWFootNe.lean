/- Words that the printed proofs lean on (the part of the kit's print that they come to). -/
import Derived.Test.YtopchlafmfgpnaaGreatWN
namespace Go.Proofs.YtopchlafmfgpnaaGreatW.PrintWords
open Go.RowKit
namespace Kd
section
variable {α:Type} {d:Kd α} {W:World} {g n:Nat} {S ok:Nat→Prop} {A:Option Addr} {ad:Addr} {xs:List α}
end
end Kd
end Go.Proofs.YtopchlafmfgpnaaGreatW.PrintWords
