/- Contracts of Go's own library, laid at this program. Conditions: none. -/
import Derived.Shelf.Lay
import Derived.Ground.NamesProg
import Derived.Ground.Names8Prog
import Derived.Ground.Names2Prog
import Derived.Shelf.Sort.Plain
import Derived.Shelf.Slices.CompactI
import Derived.Shelf.Spec.SlicesGrow
import Derived.Test.YtcicokdmnhbjjaaGreatRows
namespace Go.Proofs
open Go.Shelf
shelf_lay_g Lays8.n4 Nm8 4 at Tryz 102 as Tryz.grow102
shelf_lay Lays.n189 Nm 189 at Tryz as Tryz.lays189
shelf_lay Lays2.n20 Nm2 20 at Tryz as Tryz.laysNm220
end Go.Proofs
