/-
  Reckoned for all graphs: which have full directions.
-/
import Derived.Test.YtjklkphhfkdkpaaKStrong
section
namespace Go.Proofs.Ytjklkphhfkdkpaa.Gw
set_option maxRecDepth 100000
theorem full1 : allSub (pairs 1) (chkFull 1) = true := by decide +kernel
theorem full2 : allSub (pairs 2) (chkFull 2) = true := by decide +kernel
theorem full3 : allSub (pairs 3) (chkFull 3) = true := by decide +kernel
theorem full4 : allSub (pairs 4) (chkFull 4) = true := by decide +kernel
theorem full5 : allSub (pairs 5) (chkFull 5) = true := by decide +kernel
end Go.Proofs.Ytjklkphhfkdkpaa.Gw
end
