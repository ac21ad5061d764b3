/- PersistClears: the evaluator's answers, by the kernel. -/
import Derived.Test.YtmjhcnkngaglmaaGreatDoorEvPersistClearsRun
import Derived.KernelRfl
namespace Go.Proofs.YtmjhcnkngaglmaaGreatDoor.persistClears
open Go.YtmjhcnkngaglmaaGreatDoorEv
set_option maxRecDepth 100000
theorem g52 : tsts [[.int .i64 (.ofNat 5), .int .i64 (.ofNat 1), .bool true]] = true := by kernel_rfl
theorem g52_0 : tst [.int .i64 (.ofNat 5), .int .i64 (.ofNat 1), .bool true] = true := (tsts_cons g52).1
theorem g53 : tsts [[.int .i64 (.ofNat 5), .int .i64 (.ofNat 1), .bool false]] = true := by kernel_rfl
theorem g53_0 : tst [.int .i64 (.ofNat 5), .int .i64 (.ofNat 1), .bool false] = true := (tsts_cons g53).1
theorem g54 : tsts [[.int .i64 (.ofNat 5), .int .i64 (.ofNat 2), .bool true]] = true := by kernel_rfl
theorem g54_0 : tst [.int .i64 (.ofNat 5), .int .i64 (.ofNat 2), .bool true] = true := (tsts_cons g54).1
theorem g55 : tsts [[.int .i64 (.ofNat 5), .int .i64 (.ofNat 2), .bool false]] = true := by kernel_rfl
theorem g55_0 : tst [.int .i64 (.ofNat 5), .int .i64 (.ofNat 2), .bool false] = true := (tsts_cons g55).1
theorem g56 : tsts [[.int .i64 (.ofNat 5), .int .i64 (.ofNat 3), .bool true]] = true := by kernel_rfl
theorem g56_0 : tst [.int .i64 (.ofNat 5), .int .i64 (.ofNat 3), .bool true] = true := (tsts_cons g56).1
theorem g57 : tsts [[.int .i64 (.ofNat 5), .int .i64 (.ofNat 3), .bool false]] = true := by kernel_rfl
theorem g57_0 : tst [.int .i64 (.ofNat 5), .int .i64 (.ofNat 3), .bool false] = true := (tsts_cons g57).1
theorem g58 : tsts [[.int .i64 (.ofNat 5), .int .i64 (.ofNat 4), .bool true]] = true := by kernel_rfl
theorem g58_0 : tst [.int .i64 (.ofNat 5), .int .i64 (.ofNat 4), .bool true] = true := (tsts_cons g58).1
theorem g59 : tsts [[.int .i64 (.ofNat 5), .int .i64 (.ofNat 4), .bool false]] = true := by kernel_rfl
theorem g59_0 : tst [.int .i64 (.ofNat 5), .int .i64 (.ofNat 4), .bool false] = true := (tsts_cons g59).1
theorem g60 : tsts [[.int .i64 (.ofNat 6), .int .i64 (.ofNat 0), .bool true]] = true := by kernel_rfl
theorem g60_0 : tst [.int .i64 (.ofNat 6), .int .i64 (.ofNat 0), .bool true] = true := (tsts_cons g60).1
theorem g61 : tsts [[.int .i64 (.ofNat 6), .int .i64 (.ofNat 0), .bool false]] = true := by kernel_rfl
theorem g61_0 : tst [.int .i64 (.ofNat 6), .int .i64 (.ofNat 0), .bool false] = true := (tsts_cons g61).1
theorem g62 : tsts [[.int .i64 (.ofNat 6), .int .i64 (.ofNat 1), .bool true]] = true := by kernel_rfl
theorem g62_0 : tst [.int .i64 (.ofNat 6), .int .i64 (.ofNat 1), .bool true] = true := (tsts_cons g62).1
theorem g63 : tsts [[.int .i64 (.ofNat 6), .int .i64 (.ofNat 1), .bool false]] = true := by kernel_rfl
theorem g63_0 : tst [.int .i64 (.ofNat 6), .int .i64 (.ofNat 1), .bool false] = true := (tsts_cons g63).1
theorem g64 : tsts [[.int .i64 (.ofNat 6), .int .i64 (.ofNat 2), .bool true]] = true := by kernel_rfl
theorem g64_0 : tst [.int .i64 (.ofNat 6), .int .i64 (.ofNat 2), .bool true] = true := (tsts_cons g64).1
theorem g65 : tsts [[.int .i64 (.ofNat 6), .int .i64 (.ofNat 2), .bool false]] = true := by kernel_rfl
theorem g65_0 : tst [.int .i64 (.ofNat 6), .int .i64 (.ofNat 2), .bool false] = true := (tsts_cons g65).1
theorem g66 : tsts [[.int .i64 (.ofNat 6), .int .i64 (.ofNat 3), .bool true]] = true := by kernel_rfl
theorem g66_0 : tst [.int .i64 (.ofNat 6), .int .i64 (.ofNat 3), .bool true] = true := (tsts_cons g66).1
theorem g67 : tsts [[.int .i64 (.ofNat 6), .int .i64 (.ofNat 3), .bool false]] = true := by kernel_rfl
theorem g67_0 : tst [.int .i64 (.ofNat 6), .int .i64 (.ofNat 3), .bool false] = true := (tsts_cons g67).1
theorem g68 : tsts [[.int .i64 (.ofNat 6), .int .i64 (.ofNat 4), .bool true]] = true := by kernel_rfl
theorem g68_0 : tst [.int .i64 (.ofNat 6), .int .i64 (.ofNat 4), .bool true] = true := (tsts_cons g68).1
theorem g69 : tsts [[.int .i64 (.ofNat 6), .int .i64 (.ofNat 4), .bool false]] = true := by kernel_rfl
theorem g69_0 : tst [.int .i64 (.ofNat 6), .int .i64 (.ofNat 4), .bool false] = true := (tsts_cons g69).1
theorem g70 : tsts [[.int .i64 (.ofNat 7), .int .i64 (.ofNat 0), .bool true]] = true := by kernel_rfl
theorem g70_0 : tst [.int .i64 (.ofNat 7), .int .i64 (.ofNat 0), .bool true] = true := (tsts_cons g70).1
theorem g71 : tsts [[.int .i64 (.ofNat 7), .int .i64 (.ofNat 0), .bool false]] = true := by kernel_rfl
theorem g71_0 : tst [.int .i64 (.ofNat 7), .int .i64 (.ofNat 0), .bool false] = true := (tsts_cons g71).1
theorem g72 : tsts [[.int .i64 (.ofNat 7), .int .i64 (.ofNat 1), .bool true]] = true := by kernel_rfl
theorem g72_0 : tst [.int .i64 (.ofNat 7), .int .i64 (.ofNat 1), .bool true] = true := (tsts_cons g72).1
theorem g73 : tsts [[.int .i64 (.ofNat 7), .int .i64 (.ofNat 1), .bool false]] = true := by kernel_rfl
theorem g73_0 : tst [.int .i64 (.ofNat 7), .int .i64 (.ofNat 1), .bool false] = true := (tsts_cons g73).1
theorem g74 : tsts [[.int .i64 (.ofNat 7), .int .i64 (.ofNat 2), .bool true]] = true := by kernel_rfl
theorem g74_0 : tst [.int .i64 (.ofNat 7), .int .i64 (.ofNat 2), .bool true] = true := (tsts_cons g74).1
theorem g75 : tsts [[.int .i64 (.ofNat 7), .int .i64 (.ofNat 2), .bool false]] = true := by kernel_rfl
theorem g75_0 : tst [.int .i64 (.ofNat 7), .int .i64 (.ofNat 2), .bool false] = true := (tsts_cons g75).1
theorem g76 : tsts [[.int .i64 (.ofNat 7), .int .i64 (.ofNat 3), .bool true]] = true := by kernel_rfl
theorem g76_0 : tst [.int .i64 (.ofNat 7), .int .i64 (.ofNat 3), .bool true] = true := (tsts_cons g76).1
theorem g77 : tsts [[.int .i64 (.ofNat 7), .int .i64 (.ofNat 3), .bool false]] = true := by kernel_rfl
theorem g77_0 : tst [.int .i64 (.ofNat 7), .int .i64 (.ofNat 3), .bool false] = true := (tsts_cons g77).1
end Go.Proofs.YtmjhcnkngaglmaaGreatDoor.persistClears
