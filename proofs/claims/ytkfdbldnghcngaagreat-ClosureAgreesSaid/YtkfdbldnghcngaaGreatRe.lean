/- A run of the closures: ops 67383 -/
import Derived.Test.YtkfdbldnghcngaaGreatTe
namespace Go.Proofs.YtkfdbldnghcngaaGreat.Fast
open Go.Fg
theorem paths2 : goF 36 [power, (.agg [(.sli [[(.sli [[(.i .i64 2)]])]]), (.sli [[(.b true)]])])] = some (.tup [(.sli [[(.sli [])], [(.sli [[(.i .i64 3), (.i .i64 0)]])], [(.sli [[(.i .i64 3), (.i .i64 1)]])], [(.sli [[(.i .i64 3), (.i .i64 2)]])]]), (.i .i64 0)]) := by kernel_rfl
end Go.Proofs.YtkfdbldnghcngaaGreat.Fast
