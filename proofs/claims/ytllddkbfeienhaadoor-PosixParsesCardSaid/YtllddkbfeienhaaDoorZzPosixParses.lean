/- PosixParses: for every text of at most 200 bytes, which texts are plans, and what plan each one is, as the document says; a longer one isn't looked at. It holds for every text, on every machine that has started. -/
import Derived.Test.YtllddkbfeienhaaDoorMEPosixParses
import Derived.Test.YtllddkbfeienhaaDoorMD
import Derived.Test.YtllddkbfeienhaaDoorMC
namespace Go.Proofs.YtllddkbfeienhaaDoor
open Go.Sm Go.Proofs
theorem posixParses : Rows.PosixParsesCardSaid := pp_card fun s => sim_true so_lawPosixParses (x := s) rfl (lawPosixParses s)
end Go.Proofs.YtllddkbfeienhaaDoor
