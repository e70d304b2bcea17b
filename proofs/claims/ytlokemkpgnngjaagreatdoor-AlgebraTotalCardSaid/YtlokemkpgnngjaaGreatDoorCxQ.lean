/- The library's sort and compact of integers at this seat (rn: functions 44, 45), from the shelf. -/
import Derived.Test.YtlokemkpgnngjaaGreatDoorProg
import Derived.Test.YtlokemkpgnngjaaGreatDoorCxP
import Derived.Ground.NamesProg
import Derived.Shelf.Lay
import Derived.Shelf.Sort.Plain
import Derived.Shelf.Slices.In.SortNone
import Derived.Shelf.Slices.CompactI
set_option maxRecDepth 100000
namespace Go.Proofs
open Go.RowKit Go.Shelf Go.Lib
shelf_lay Lays.n189 Nm 189 at Tryz as Tryz.laysSort
shelf_lay Lays2.n20 Nm2 20 at Tryz as Tryz.laysCompact
namespace YtlokemkpgnngjaaGreatDoor
theorem sortC : SortC Tryz.prog 44 := ⟨fun blk off cap zs w h1 h2 h3 => Any.slices_Sort_int Tryz.laysSort blk off cap zs w h1 h2 h3, fun p cap w => calls_of_every_depth fun D => AnyS.slices_Sort_int_none_in Tryz.laysSort D p cap w⟩
theorem compactC : CompactC Tryz.prog 45 := ⟨fun blk off cap zs w h1 h2 h3 => Any.slices_Compact_int Tryz.laysCompact blk off cap zs w h1 h2 h3, fun p cap w => Any.slices_Compact_int_empty Tryz.laysCompact p cap w⟩
end YtlokemkpgnngjaaGreatDoor
end Go.Proofs
