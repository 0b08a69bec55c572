/- Arguments of the known calls, and their answers. -/
import Derived.Test.YtgboonfbfapaaaaGreatGa
set_option linter.unusedVariables false
set_option linter.unusedSimpArgs false
set_option linter.unusedSectionVars false
namespace Go.Proofs.YtgboonfbfapaaaaGreat
open Go.Fg
noncomputable def alV : IV := (.sli [[(.s [109, 97, 105, 110]), (.i .i64 1), (.sli [[(.i .u8 1), (.s []), (.i .i64 2), (.sli [[(.i .i64 (-1)), (.i .i64 0)]])], [(.i .u8 10), (.s []), (.i .i64 0), (.sli [[(.i .i64 0), (.i .i64 0)]])], [(.i .u8 1), (.s []), (.i .i64 0), (.sli [[(.i .i64 (-1)), (.i .i64 0)]])], [(.i .u8 12), (.s []), (.i .i64 0), (.sli [[(.i .i64 1), (.i .i64 0)], [(.i .i64 2), (.i .i64 0)]])]]), (.sli []), (.sli [[(.i .i64 3), (.i .i64 0)]])]])
noncomputable def tiV : IV := (.sli [[(.s [109, 97, 105, 110]), (.i .i64 1), (.sli [[(.i .u8 1), (.s []), (.i .i64 2), (.sli [[(.i .i64 (-1)), (.i .i64 0)]])], [(.i .u8 10), (.s []), (.i .i64 0), (.sli [[(.i .i64 0), (.i .i64 0)]])], [(.i .u8 1), (.s []), (.i .i64 0), (.sli [[(.i .i64 (-1)), (.i .i64 0)]])], [(.i .u8 12), (.s []), (.i .i64 0), (.sli [[(.i .i64 1), (.i .i64 0)], [(.i .i64 2), (.i .i64 0)]])], [(.i .u8 11), (.s []), (.i .i64 0), (.sli [[(.i .i64 1), (.i .i64 0)], [(.i .i64 2), (.i .i64 0)], [(.i .i64 3), (.i .i64 0)]])]]), (.sli []), (.sli [[(.i .i64 3), (.i .i64 0)]])]])
noncomputable def heV : IV := (.sli [[(.s [109, 97, 105, 110]), (.i .i64 2), (.sli [[(.i .u8 1), (.s []), (.i .i64 0), (.sli [[(.i .i64 (-1)), (.i .i64 0)]])], [(.i .u8 12), (.s []), (.i .i64 0), (.sli [[(.i .i64 (-1)), (.i .i64 1)], [(.i .i64 0), (.i .i64 0)]])]]), (.sli []), (.sli [[(.i .i64 1), (.i .i64 0)]])]])
noncomputable def i0V : IV := (.agg [(.sli []), (.sli [])])
noncomputable def inV (l : List (List IV)) : IV := .agg [.sli [[.sli l]], .sli [[.b false]]]
noncomputable def rh1 : IV := (.tup [(.sli [[(.i .u8 1), (.sli []), (.i .i64 3), (.i .i64 0), (.i .i64 0), (.i .i64 0), (.i .i64 0)], [(.i .u8 2), (.sli []), (.i .i64 0), (.i .i64 0), (.i .i64 1), (.i .i64 0), (.i .i64 0)]]), (.i .i64 0)])
noncomputable def rw1 : IV := (.tup [(.sli [[(.i .u8 2), (.sli []), (.i .i64 0), (.i .i64 0), (.i .i64 1), (.i .i64 0), (.i .i64 0)]]), (.i .i64 0)])
noncomputable def ro1 : IV := (.tup [(.sli [[(.i .u8 2), (.sli []), (.i .i64 0), (.i .i64 0), (.i .i64 1), (.i .i64 0), (.i .i64 0)]]), (.i .i64 0)])
noncomputable def rt1 : IV := (.tup [(.sli [[(.i .u8 1), (.sli []), (.i .i64 3), (.i .i64 0), (.i .i64 0), (.i .i64 0), (.i .i64 0)], [(.i .u8 2), (.sli []), (.i .i64 0), (.i .i64 0), (.i .i64 1), (.i .i64 0), (.i .i64 0)]]), (.i .i64 0)])
noncomputable def ro2 : IV := (.tup [(.sli []), (.i .i64 0)])
noncomputable def rh2 : IV := (.tup [(.sli [[(.i .u8 1), (.sli []), (.i .i64 (-1)), (.i .i64 1), (.i .i64 0), (.i .i64 0), (.i .i64 0)], [(.i .u8 1), (.sli []), (.i .i64 1), (.i .i64 0), (.i .i64 0), (.i .i64 0), (.i .i64 0)], [(.i .u8 3), (.sli []), (.i .i64 0), (.i .i64 0), (.i .i64 0), (.i .i64 0), (.i .i64 0)]]), (.i .i64 0)])
noncomputable def rw2 : IV := (.tup [(.sli [[(.i .u8 3), (.sli []), (.i .i64 0), (.i .i64 0), (.i .i64 0), (.i .i64 0), (.i .i64 0)]]), (.i .i64 0)])
noncomputable def rh3 : IV := (.tup [(.sli []), (.i .i64 0)])
end Go.Proofs.YtgboonfbfapaaaaGreat
