/- A run of the closures: ops 13528 -/
import Derived.Test.YtkfdbldnghcngaaGreatTe
namespace Go.Proofs.YtkfdbldnghcngaaGreat.Fast
open Go.Fg
theorem runo : goF 20 [power, (.agg [(.sli [[(.sli [])]]), (.sli [[(.b false)]])])] = some (.tup [(.agg [(.sli [[(.i .u8 0), (.i .i64 0)]]), (.sli []), (.i .i64 4), (.i .i64 2), (.i .i64 0), (.i .i64 2), (.sli [])]), (.i .i64 0)]) := by kernel_rfl
end Go.Proofs.YtkfdbldnghcngaaGreat.Fast
