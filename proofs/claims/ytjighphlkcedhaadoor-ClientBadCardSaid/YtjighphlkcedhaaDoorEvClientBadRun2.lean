/- ClientBad: the evaluator's runs (part 2). -/
import Derived.Test.YtjighphlkcedhaaDoorEvClientBadRun
import Derived.KernelRfl
namespace Go.Proofs.YtjighphlkcedhaaDoor.clientBad
open Go.YtjighphlkcedhaaDoorEv
set_option maxRecDepth 100000
theorem t0 (c ty : Nat) (x : Nat → Int) : tst 0 0 c ty x = true := by kernel_rfl
theorem t3 (c ty : Nat) (x : Nat → Int) : tst 3 3 c ty x = true := by kernel_rfl
theorem t6 (c ty : Nat) (x : Nat → Int) : tst 6 6 c ty x = true := by kernel_rfl
theorem t9 (c ty : Nat) (x : Nat → Int) : tst 9 9 c ty x = true := by kernel_rfl
theorem t12 (c ty : Nat) (x : Nat → Int) : tst 12 12 c ty x = true := by kernel_rfl
theorem t15 (c ty : Nat) (x : Nat → Int) : tst 15 15 c ty x = true := by kernel_rfl
theorem t18 (c ty : Nat) (x : Nat → Int) : tst 18 18 c ty x = true := by kernel_rfl
theorem t21 (c ty : Nat) (x : Nat → Int) : tst 21 21 c ty x = true := by kernel_rfl
theorem t24 (c ty : Nat) (x : Nat → Int) : tst 24 24 c ty x = true := by kernel_rfl
theorem t27 (c ty : Nat) (x : Nat → Int) : tst 27 27 c ty x = true := by kernel_rfl
theorem t30 (c ty : Nat) (x : Nat → Int) : tst 30 30 c ty x = true := by kernel_rfl
theorem t33 (c ty : Nat) (x : Nat → Int) : tst 33 33 c ty x = true := by kernel_rfl
theorem t36 (c ty : Nat) (x : Nat → Int) : tst 36 36 c ty x = true := by kernel_rfl
theorem t39 (c ty : Nat) (x : Nat → Int) : tst 39 39 c ty x = true := by kernel_rfl
theorem t42 (c ty : Nat) (x : Nat → Int) : tst 42 42 c ty x = true := by kernel_rfl
theorem t45 (c ty : Nat) (x : Nat → Int) : tst 45 45 c ty x = true := by kernel_rfl
theorem t48 (c ty : Nat) (x : Nat → Int) : tst 48 48 c ty x = true := by kernel_rfl
end Go.Proofs.YtjighphlkcedhaaDoor.clientBad
