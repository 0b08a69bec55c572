/- Lives: what is asked. -/
import Derived.Test.YtipaofnpdolfgaaGreatBc
namespace Go.Proofs.YtipaofnpdolfgaaGreat
open Go.Fg
noncomputable def loopV : IV := (.agg [(nn 1), (nn 0), (.sli [[(nn 0), (nn 0)], [(nn 1), (nn 0)], [(nn 2), (nn 0)], [(nn 3), (nn 0)], [(nn 4), (nn 0)], [(nn 5), (nn 0)], [(nn 6), (nn 0)], [(nn 7), (nn 0)], [(nn 8), (nn 0)], [(nn 9), (nn 0)], [(nn 10), (nn 0)], [(nn 11), (nn 0)], [(nn 12), (nn 0)], [(nn 13), (nn 0)], [(nn 14), (nn 0)], [(nn 15), (nn 0)], [(nn 16), (nn 0)], [(nn 17), (nn 0)], [(nn 18), (nn 0)]]), (.mi [(.agg [(nn 0), (nn 0)]), (.agg [(nn 1), (nn 0)]), (.agg [(nn 2), (nn 0)]), (.agg [(nn 3), (nn 0)]), (.agg [(nn 4), (nn 0)]), (.agg [(nn 5), (nn 0)]), (.agg [(nn 6), (nn 0)]), (.agg [(nn 7), (nn 0)]), (.agg [(nn 8), (nn 0)]), (.agg [(nn 9), (nn 0)]), (.agg [(nn 10), (nn 0)]), (.agg [(nn 11), (nn 0)]), (.agg [(nn 12), (nn 0)]), (.agg [(nn 13), (nn 0)]), (.agg [(nn 14), (nn 0)]), (.agg [(nn 15), (nn 0)]), (.agg [(nn 16), (nn 0)]), (.agg [(nn 17), (nn 0)]), (.agg [(nn 18), (nn 0)])] [(.b false), (.b false), (.b true), (.b true), (.b true), (.b true), (.b true), (.b true), (.b true), (.b true), (.b true), (.b true), (.b true), (.b true), (.b true), (.b true), (.b true), (.b true), (.b true)])])
noncomputable def ctxs (k : Nat) : List (List IV) := match fs[k]? with
  | some (.tup (.agg (.sli cs :: _) :: _)) => cs
  | _ => []
noncomputable def cx (k n : Nat) : IV := .agg ((ctxs k)[n]?.getD [])
def tblV : List (Nat × Nat × Bool) := [(1, 1, true), (2, 1, true), (3, 1, true), (4, 1, true), (5, 1, true), (6, 1, true), (7, 1, true), (8, 1, true), (9, 1, true), (10, 1, true), (11, 1, true), (12, 1, true), (13, 1, false), (13, 2, true), (14, 2, true), (15, 2, true), (16, 2, true), (17, 2, true), (18, 2, true), (19, 2, true), (20, 2, true), (21, 2, true), (22, 2, true), (23, 2, true), (24, 2, true), (25, 2, false), (25, 3, true), (26, 3, true), (27, 3, true), (28, 3, true), (29, 3, true), (30, 3, true), (31, 3, true), (32, 3, true), (33, 3, true), (34, 3, true), (35, 3, true), (36, 3, true), (37, 3, false), (37, 4, true), (38, 4, true), (39, 4, false), (40, 4, false)]
end Go.Proofs.YtipaofnpdolfgaaGreat
