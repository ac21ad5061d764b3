/- ClientBad: the evaluator's runs (part 1). -/
import Derived.Test.YtjighphlkcedhaaDoorEvClientBadRun
import Derived.KernelRfl
namespace Go.Proofs.YtjighphlkcedhaaDoor.clientBad
open Go.YtjighphlkcedhaaDoorEv
set_option maxRecDepth 100000
theorem tl (k c ty : Nat) (x : Nat → Int) : tst 50 (k + 51) (c + (k + 51)) ty x = true := by kernel_rfl
theorem t2 (c ty : Nat) (x : Nat → Int) : tst 2 2 c ty x = true := by kernel_rfl
theorem t5 (c ty : Nat) (x : Nat → Int) : tst 5 5 c ty x = true := by kernel_rfl
theorem t8 (c ty : Nat) (x : Nat → Int) : tst 8 8 c ty x = true := by kernel_rfl
theorem t11 (c ty : Nat) (x : Nat → Int) : tst 11 11 c ty x = true := by kernel_rfl
theorem t14 (c ty : Nat) (x : Nat → Int) : tst 14 14 c ty x = true := by kernel_rfl
theorem t17 (c ty : Nat) (x : Nat → Int) : tst 17 17 c ty x = true := by kernel_rfl
theorem t20 (c ty : Nat) (x : Nat → Int) : tst 20 20 c ty x = true := by kernel_rfl
theorem t23 (c ty : Nat) (x : Nat → Int) : tst 23 23 c ty x = true := by kernel_rfl
theorem t26 (c ty : Nat) (x : Nat → Int) : tst 26 26 c ty x = true := by kernel_rfl
theorem t29 (c ty : Nat) (x : Nat → Int) : tst 29 29 c ty x = true := by kernel_rfl
theorem t32 (c ty : Nat) (x : Nat → Int) : tst 32 32 c ty x = true := by kernel_rfl
theorem t35 (c ty : Nat) (x : Nat → Int) : tst 35 35 c ty x = true := by kernel_rfl
theorem t38 (c ty : Nat) (x : Nat → Int) : tst 38 38 c ty x = true := by kernel_rfl
theorem t41 (c ty : Nat) (x : Nat → Int) : tst 41 41 c ty x = true := by kernel_rfl
theorem t44 (c ty : Nat) (x : Nat → Int) : tst 44 44 c ty x = true := by kernel_rfl
theorem t47 (c ty : Nat) (x : Nat → Int) : tst 47 47 c ty x = true := by kernel_rfl
theorem t50 (c ty : Nat) (x : Nat → Int) : tst 50 50 c ty x = true := by kernel_rfl
end Go.Proofs.YtjighphlkcedhaaDoor.clientBad
