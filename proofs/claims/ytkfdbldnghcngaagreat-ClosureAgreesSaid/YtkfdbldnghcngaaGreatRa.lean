/- A run of the closures: ops 68737 -/
import Derived.Test.YtkfdbldnghcngaaGreatTe
namespace Go.Proofs.YtkfdbldnghcngaaGreat.Fast
open Go.Fg
theorem run2 : goF 20 [power, (.agg [(.sli [[(.sli [[(.i .i64 2)]])]]), (.sli [[(.b true)]])])] = some (.tup [(.agg [(.sli [[(.i .u8 1), (.i .i64 4)]]), (.sli []), (.i .i64 25), (.i .i64 4), (.i .i64 1), (.i .i64 12), (.sli [])]), (.i .i64 0)]) := by kernel_rfl
end Go.Proofs.YtkfdbldnghcngaaGreat.Fast
