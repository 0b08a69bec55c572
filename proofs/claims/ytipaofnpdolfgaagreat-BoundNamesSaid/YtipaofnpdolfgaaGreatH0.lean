/- Live known calls. -/
import Derived.Test.YtipaofnpdolfgaaGreatBh
namespace Go.Proofs.YtipaofnpdolfgaaGreat
open Go.Fg
theorem lh0 : runL cfK eh0 [111] = true := by kernel_rfl
end Go.Proofs.YtipaofnpdolfgaaGreat
/- Live known calls. -/
namespace Go.Proofs.YtipaofnpdolfgaaGreat
open Go.Fg
theorem lh1 : runL cfK eh1 [] = true := by kernel_rfl
end Go.Proofs.YtipaofnpdolfgaaGreat
/- Live known calls. -/
namespace Go.Proofs.YtipaofnpdolfgaaGreat
open Go.Fg
theorem lh2 : runL cfK eh2 [] = true := by kernel_rfl
end Go.Proofs.YtipaofnpdolfgaaGreat
/- Live known calls. -/
namespace Go.Proofs.YtipaofnpdolfgaaGreat
open Go.Fg
theorem lh3 : runL cfK eh3 [1595] = true := by kernel_rfl
end Go.Proofs.YtipaofnpdolfgaaGreat
/- Live known calls. -/
namespace Go.Proofs.YtipaofnpdolfgaaGreat
open Go.Fg
theorem lh4 : runL cfK eh4 [1739] = true := by kernel_rfl
end Go.Proofs.YtipaofnpdolfgaaGreat
/- Live known calls. -/
namespace Go.Proofs.YtipaofnpdolfgaaGreat
open Go.Fg
theorem lh5 : runL cfK eh5 [1799, 1801, 1804, 1807, 1810, 1813, 1818, 1820, 1825, 1828, 1831, 1834, 1837, 1840, 1843, 1846, 1848, 2293, 2297, 2302, 2306, 2311, 2316, 2321, 2326, 2331, 2336, 2341, 2344] = true := by kernel_rfl
end Go.Proofs.YtipaofnpdolfgaaGreat
