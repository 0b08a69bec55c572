/- Known calls. -/
import Derived.Test.YtgboonfbfapaaaaGreatGa
namespace Go.Proofs.YtgboonfbfapaaaaGreat
open Go.Fg
theorem ki : goN 51 [v6V] v21V = true := by kernel_rfl
theorem kj : goN 52 [v6V, v3V] v22V = true := by kernel_rfl
theorem kl : goN 54 [v6V, (.i .i64 0)] v23V = true := by kernel_rfl
end Go.Proofs.YtgboonfbfapaaaaGreat
/- Known calls. -/
namespace Go.Proofs.YtgboonfbfapaaaaGreat
open Go.Fg
theorem kq0 : goN 26 [v31V, v13V] (.i .i64 (-1)) = true := by kernel_rfl
theorem kq1 : goN 26 [v32V, v13V] (.i .i64 1) = true := by kernel_rfl
theorem kq2 : goN 26 [v33V, v13V] (.i .i64 (-1)) = true := by kernel_rfl
theorem kq3 : goN 26 [v13V, v13V] (.i .i64 0) = true := by kernel_rfl
theorem kq4 : goN 26 [v34V, v13V] (.i .i64 1) = true := by kernel_rfl
theorem kq5 : goN 26 [v35V, v13V] (.i .i64 1) = true := by kernel_rfl
theorem kq6 : goN 26 [v36V, v13V] (.i .i64 1) = true := by kernel_rfl
theorem kq7 : goN 26 [v37V, v13V] (.i .i64 1) = true := by kernel_rfl
theorem kq8 : goN 26 [v38V, v13V] (.i .i64 1) = true := by kernel_rfl
theorem kq9 : goN 26 [v39V, v13V] (.i .i64 1) = true := by kernel_rfl
theorem kq10 : goN 26 [v40V, v13V] (.i .i64 1) = true := by kernel_rfl
theorem kq11 : goN 26 [v41V, v13V] (.i .i64 1) = true := by kernel_rfl
theorem kq12 : goN 26 [v42V, v13V] (.i .i64 1) = true := by kernel_rfl
theorem kq13 : goN 26 [v43V, v13V] (.i .i64 1) = true := by kernel_rfl
theorem kq14 : goN 26 [v44V, v13V] (.i .i64 1) = true := by kernel_rfl
end Go.Proofs.YtgboonfbfapaaaaGreat
