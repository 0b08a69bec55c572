/- A run of the closures: ops 20621 -/
import Derived.Test.YtkfdbldnghcngaaGreatTe
namespace Go.Proofs.YtkfdbldnghcngaaGreat.Fast
open Go.Fg
theorem run0 : goF 20 [power, (.agg [(.sli [[(.sli [[(.i .i64 0)]])]]), (.sli [[(.b true)]])])] = some (.tup [(.agg [(.sli [[(.i .u8 1), (.i .i64 1)]]), (.sli []), (.i .i64 9), (.i .i64 2), (.i .i64 1), (.i .i64 4), (.sli [])]), (.i .i64 0)]) := by kernel_rfl
end Go.Proofs.YtkfdbldnghcngaaGreat.Fast
