/- ClientBad: the evaluator's runs (part 0). -/
import Derived.Test.YtjighphlkcedhaaDoorEvClientBadRun
import Derived.KernelRfl
namespace Go.Proofs.YtjighphlkcedhaaDoor.clientBad
open Go.YtjighphlkcedhaaDoorEv
set_option maxRecDepth 100000
theorem tn : tnil = true := by kernel_rfl
theorem t1 (c ty : Nat) (x : Nat → Int) : tst 1 1 c ty x = true := by kernel_rfl
theorem t4 (c ty : Nat) (x : Nat → Int) : tst 4 4 c ty x = true := by kernel_rfl
theorem t7 (c ty : Nat) (x : Nat → Int) : tst 7 7 c ty x = true := by kernel_rfl
theorem t10 (c ty : Nat) (x : Nat → Int) : tst 10 10 c ty x = true := by kernel_rfl
theorem t13 (c ty : Nat) (x : Nat → Int) : tst 13 13 c ty x = true := by kernel_rfl
theorem t16 (c ty : Nat) (x : Nat → Int) : tst 16 16 c ty x = true := by kernel_rfl
theorem t19 (c ty : Nat) (x : Nat → Int) : tst 19 19 c ty x = true := by kernel_rfl
theorem t22 (c ty : Nat) (x : Nat → Int) : tst 22 22 c ty x = true := by kernel_rfl
theorem t25 (c ty : Nat) (x : Nat → Int) : tst 25 25 c ty x = true := by kernel_rfl
theorem t28 (c ty : Nat) (x : Nat → Int) : tst 28 28 c ty x = true := by kernel_rfl
theorem t31 (c ty : Nat) (x : Nat → Int) : tst 31 31 c ty x = true := by kernel_rfl
theorem t34 (c ty : Nat) (x : Nat → Int) : tst 34 34 c ty x = true := by kernel_rfl
theorem t37 (c ty : Nat) (x : Nat → Int) : tst 37 37 c ty x = true := by kernel_rfl
theorem t40 (c ty : Nat) (x : Nat → Int) : tst 40 40 c ty x = true := by kernel_rfl
theorem t43 (c ty : Nat) (x : Nat → Int) : tst 43 43 c ty x = true := by kernel_rfl
theorem t46 (c ty : Nat) (x : Nat → Int) : tst 46 46 c ty x = true := by kernel_rfl
theorem t49 (c ty : Nat) (x : Nat → Int) : tst 49 49 c ty x = true := by kernel_rfl
end Go.Proofs.YtjighphlkcedhaaDoor.clientBad
