-- Written by program (wip/tools/rows.py) for this seat; not trusted: Lean checks it.
import Derived.Test.YtfdjgdjmllkdcaaDoorX30
import Derived.Test.YtfdjgdjmllkdcaaDoorGood
namespace Go.Proofs.YtfdjgdjmllkdcaaDoor.X
open Go.RowKit

end Go.Proofs.YtfdjgdjmllkdcaaDoor.X
