-- CUT by wip/tools/wtrim.py out of the words that the kit's print wrote for this seat: only what this seat's texts name is left; Lean checks it.
import Derived.Test.YtbapjcafcmnhoaaDoorWApart
import Derived.Test.YtbapjcafcmnhoaaDoorWArr
namespace Go.Proofs.YtbapjcafcmnhoaaDoorW.PrintWords
open Go.RowKit
namespace Kd
end Kd
end Go.Proofs.YtbapjcafcmnhoaaDoorW.PrintWords
