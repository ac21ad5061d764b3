/- PersistClears: the evaluator's answers, by the kernel. -/
import Derived.Test.YtmjhcnkngaglmaaGreatDoorEvPersistClearsRun
import Derived.KernelRfl
namespace Go.Proofs.YtmjhcnkngaglmaaGreatDoor.persistClears
open Go.YtmjhcnkngaglmaaGreatDoorEv
set_option maxRecDepth 100000
theorem g104 : tsts [[.int .i64 (.ofNat 10), .int .i64 (.ofNat 2), .bool true]] = true := by kernel_rfl
theorem g104_0 : tst [.int .i64 (.ofNat 10), .int .i64 (.ofNat 2), .bool true] = true := (tsts_cons g104).1
theorem g105 : tsts [[.int .i64 (.ofNat 10), .int .i64 (.ofNat 2), .bool false]] = true := by kernel_rfl
theorem g105_0 : tst [.int .i64 (.ofNat 10), .int .i64 (.ofNat 2), .bool false] = true := (tsts_cons g105).1
theorem g106 : tsts [[.int .i64 (.ofNat 10), .int .i64 (.ofNat 3), .bool true]] = true := by kernel_rfl
theorem g106_0 : tst [.int .i64 (.ofNat 10), .int .i64 (.ofNat 3), .bool true] = true := (tsts_cons g106).1
theorem g107 : tsts [[.int .i64 (.ofNat 10), .int .i64 (.ofNat 3), .bool false]] = true := by kernel_rfl
theorem g107_0 : tst [.int .i64 (.ofNat 10), .int .i64 (.ofNat 3), .bool false] = true := (tsts_cons g107).1
theorem g108 : tsts [[.int .i64 (.ofNat 10), .int .i64 (.ofNat 4), .bool true]] = true := by kernel_rfl
theorem g108_0 : tst [.int .i64 (.ofNat 10), .int .i64 (.ofNat 4), .bool true] = true := (tsts_cons g108).1
theorem g109 : tsts [[.int .i64 (.ofNat 10), .int .i64 (.ofNat 4), .bool false]] = true := by kernel_rfl
theorem g109_0 : tst [.int .i64 (.ofNat 10), .int .i64 (.ofNat 4), .bool false] = true := (tsts_cons g109).1
theorem g110 : tsts [[.int .i64 (.ofNat 11), .int .i64 (.ofNat 0), .bool true]] = true := by kernel_rfl
theorem g110_0 : tst [.int .i64 (.ofNat 11), .int .i64 (.ofNat 0), .bool true] = true := (tsts_cons g110).1
theorem g111 : tsts [[.int .i64 (.ofNat 11), .int .i64 (.ofNat 0), .bool false]] = true := by kernel_rfl
theorem g111_0 : tst [.int .i64 (.ofNat 11), .int .i64 (.ofNat 0), .bool false] = true := (tsts_cons g111).1
theorem g112 : tsts [[.int .i64 (.ofNat 11), .int .i64 (.ofNat 1), .bool true]] = true := by kernel_rfl
theorem g112_0 : tst [.int .i64 (.ofNat 11), .int .i64 (.ofNat 1), .bool true] = true := (tsts_cons g112).1
theorem g113 : tsts [[.int .i64 (.ofNat 11), .int .i64 (.ofNat 1), .bool false]] = true := by kernel_rfl
theorem g113_0 : tst [.int .i64 (.ofNat 11), .int .i64 (.ofNat 1), .bool false] = true := (tsts_cons g113).1
theorem g114 : tsts [[.int .i64 (.ofNat 11), .int .i64 (.ofNat 2), .bool true]] = true := by kernel_rfl
theorem g114_0 : tst [.int .i64 (.ofNat 11), .int .i64 (.ofNat 2), .bool true] = true := (tsts_cons g114).1
theorem g115 : tsts [[.int .i64 (.ofNat 11), .int .i64 (.ofNat 2), .bool false]] = true := by kernel_rfl
theorem g115_0 : tst [.int .i64 (.ofNat 11), .int .i64 (.ofNat 2), .bool false] = true := (tsts_cons g115).1
theorem g116 : tsts [[.int .i64 (.ofNat 11), .int .i64 (.ofNat 3), .bool true]] = true := by kernel_rfl
theorem g116_0 : tst [.int .i64 (.ofNat 11), .int .i64 (.ofNat 3), .bool true] = true := (tsts_cons g116).1
theorem g117 : tsts [[.int .i64 (.ofNat 11), .int .i64 (.ofNat 3), .bool false]] = true := by kernel_rfl
theorem g117_0 : tst [.int .i64 (.ofNat 11), .int .i64 (.ofNat 3), .bool false] = true := (tsts_cons g117).1
theorem g118 : tsts [[.int .i64 (.ofNat 11), .int .i64 (.ofNat 4), .bool true]] = true := by kernel_rfl
theorem g118_0 : tst [.int .i64 (.ofNat 11), .int .i64 (.ofNat 4), .bool true] = true := (tsts_cons g118).1
theorem g119 : tsts [[.int .i64 (.ofNat 11), .int .i64 (.ofNat 4), .bool false]] = true := by kernel_rfl
theorem g119_0 : tst [.int .i64 (.ofNat 11), .int .i64 (.ofNat 4), .bool false] = true := (tsts_cons g119).1
theorem g120 : tsts [[.int .i64 (.ofNat 12), .int .i64 (.ofNat 0), .bool true]] = true := by kernel_rfl
theorem g120_0 : tst [.int .i64 (.ofNat 12), .int .i64 (.ofNat 0), .bool true] = true := (tsts_cons g120).1
theorem g121 : tsts [[.int .i64 (.ofNat 12), .int .i64 (.ofNat 0), .bool false]] = true := by kernel_rfl
theorem g121_0 : tst [.int .i64 (.ofNat 12), .int .i64 (.ofNat 0), .bool false] = true := (tsts_cons g121).1
theorem g122 : tsts [[.int .i64 (.ofNat 12), .int .i64 (.ofNat 1), .bool true]] = true := by kernel_rfl
theorem g122_0 : tst [.int .i64 (.ofNat 12), .int .i64 (.ofNat 1), .bool true] = true := (tsts_cons g122).1
theorem g123 : tsts [[.int .i64 (.ofNat 12), .int .i64 (.ofNat 1), .bool false]] = true := by kernel_rfl
theorem g123_0 : tst [.int .i64 (.ofNat 12), .int .i64 (.ofNat 1), .bool false] = true := (tsts_cons g123).1
theorem g124 : tsts [[.int .i64 (.ofNat 12), .int .i64 (.ofNat 2), .bool true]] = true := by kernel_rfl
theorem g124_0 : tst [.int .i64 (.ofNat 12), .int .i64 (.ofNat 2), .bool true] = true := (tsts_cons g124).1
theorem g125 : tsts [[.int .i64 (.ofNat 12), .int .i64 (.ofNat 2), .bool false]] = true := by kernel_rfl
theorem g125_0 : tst [.int .i64 (.ofNat 12), .int .i64 (.ofNat 2), .bool false] = true := (tsts_cons g125).1
theorem g126 : tsts [[.int .i64 (.ofNat 12), .int .i64 (.ofNat 3), .bool true]] = true := by kernel_rfl
theorem g126_0 : tst [.int .i64 (.ofNat 12), .int .i64 (.ofNat 3), .bool true] = true := (tsts_cons g126).1
theorem g127 : tsts [[.int .i64 (.ofNat 12), .int .i64 (.ofNat 3), .bool false]] = true := by kernel_rfl
theorem g127_0 : tst [.int .i64 (.ofNat 12), .int .i64 (.ofNat 3), .bool false] = true := (tsts_cons g127).1
theorem g128 : tsts [[.int .i64 (.ofNat 12), .int .i64 (.ofNat 4), .bool true]] = true := by kernel_rfl
theorem g128_0 : tst [.int .i64 (.ofNat 12), .int .i64 (.ofNat 4), .bool true] = true := (tsts_cons g128).1
theorem g129 : tsts [[.int .i64 (.ofNat 12), .int .i64 (.ofNat 4), .bool false]] = true := by kernel_rfl
theorem g129_0 : tst [.int .i64 (.ofNat 12), .int .i64 (.ofNat 4), .bool false] = true := (tsts_cons g129).1
end Go.Proofs.YtmjhcnkngaglmaaGreatDoor.persistClears
