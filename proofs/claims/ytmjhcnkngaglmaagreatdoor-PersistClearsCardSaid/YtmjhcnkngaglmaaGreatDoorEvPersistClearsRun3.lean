/- PersistClears: the evaluator's answers, by the kernel. -/
import Derived.Test.YtmjhcnkngaglmaaGreatDoorEvPersistClearsRun
import Derived.KernelRfl
namespace Go.Proofs.YtmjhcnkngaglmaaGreatDoor.persistClears
open Go.YtmjhcnkngaglmaaGreatDoorEv
set_option maxRecDepth 100000
theorem g78 : tsts [[.int .i64 (.ofNat 7), .int .i64 (.ofNat 4), .bool true]] = true := by kernel_rfl
theorem g78_0 : tst [.int .i64 (.ofNat 7), .int .i64 (.ofNat 4), .bool true] = true := (tsts_cons g78).1
theorem g79 : tsts [[.int .i64 (.ofNat 7), .int .i64 (.ofNat 4), .bool false]] = true := by kernel_rfl
theorem g79_0 : tst [.int .i64 (.ofNat 7), .int .i64 (.ofNat 4), .bool false] = true := (tsts_cons g79).1
theorem g80 : tsts [[.int .i64 (.ofNat 8), .int .i64 (.ofNat 0), .bool true]] = true := by kernel_rfl
theorem g80_0 : tst [.int .i64 (.ofNat 8), .int .i64 (.ofNat 0), .bool true] = true := (tsts_cons g80).1
theorem g81 : tsts [[.int .i64 (.ofNat 8), .int .i64 (.ofNat 0), .bool false]] = true := by kernel_rfl
theorem g81_0 : tst [.int .i64 (.ofNat 8), .int .i64 (.ofNat 0), .bool false] = true := (tsts_cons g81).1
theorem g82 : tsts [[.int .i64 (.ofNat 8), .int .i64 (.ofNat 1), .bool true]] = true := by kernel_rfl
theorem g82_0 : tst [.int .i64 (.ofNat 8), .int .i64 (.ofNat 1), .bool true] = true := (tsts_cons g82).1
theorem g83 : tsts [[.int .i64 (.ofNat 8), .int .i64 (.ofNat 1), .bool false]] = true := by kernel_rfl
theorem g83_0 : tst [.int .i64 (.ofNat 8), .int .i64 (.ofNat 1), .bool false] = true := (tsts_cons g83).1
theorem g84 : tsts [[.int .i64 (.ofNat 8), .int .i64 (.ofNat 2), .bool true]] = true := by kernel_rfl
theorem g84_0 : tst [.int .i64 (.ofNat 8), .int .i64 (.ofNat 2), .bool true] = true := (tsts_cons g84).1
theorem g85 : tsts [[.int .i64 (.ofNat 8), .int .i64 (.ofNat 2), .bool false]] = true := by kernel_rfl
theorem g85_0 : tst [.int .i64 (.ofNat 8), .int .i64 (.ofNat 2), .bool false] = true := (tsts_cons g85).1
theorem g86 : tsts [[.int .i64 (.ofNat 8), .int .i64 (.ofNat 3), .bool true]] = true := by kernel_rfl
theorem g86_0 : tst [.int .i64 (.ofNat 8), .int .i64 (.ofNat 3), .bool true] = true := (tsts_cons g86).1
theorem g87 : tsts [[.int .i64 (.ofNat 8), .int .i64 (.ofNat 3), .bool false]] = true := by kernel_rfl
theorem g87_0 : tst [.int .i64 (.ofNat 8), .int .i64 (.ofNat 3), .bool false] = true := (tsts_cons g87).1
theorem g88 : tsts [[.int .i64 (.ofNat 8), .int .i64 (.ofNat 4), .bool true]] = true := by kernel_rfl
theorem g88_0 : tst [.int .i64 (.ofNat 8), .int .i64 (.ofNat 4), .bool true] = true := (tsts_cons g88).1
theorem g89 : tsts [[.int .i64 (.ofNat 8), .int .i64 (.ofNat 4), .bool false]] = true := by kernel_rfl
theorem g89_0 : tst [.int .i64 (.ofNat 8), .int .i64 (.ofNat 4), .bool false] = true := (tsts_cons g89).1
theorem g90 : tsts [[.int .i64 (.ofNat 9), .int .i64 (.ofNat 0), .bool true]] = true := by kernel_rfl
theorem g90_0 : tst [.int .i64 (.ofNat 9), .int .i64 (.ofNat 0), .bool true] = true := (tsts_cons g90).1
theorem g91 : tsts [[.int .i64 (.ofNat 9), .int .i64 (.ofNat 0), .bool false]] = true := by kernel_rfl
theorem g91_0 : tst [.int .i64 (.ofNat 9), .int .i64 (.ofNat 0), .bool false] = true := (tsts_cons g91).1
theorem g92 : tsts [[.int .i64 (.ofNat 9), .int .i64 (.ofNat 1), .bool true]] = true := by kernel_rfl
theorem g92_0 : tst [.int .i64 (.ofNat 9), .int .i64 (.ofNat 1), .bool true] = true := (tsts_cons g92).1
theorem g93 : tsts [[.int .i64 (.ofNat 9), .int .i64 (.ofNat 1), .bool false]] = true := by kernel_rfl
theorem g93_0 : tst [.int .i64 (.ofNat 9), .int .i64 (.ofNat 1), .bool false] = true := (tsts_cons g93).1
theorem g94 : tsts [[.int .i64 (.ofNat 9), .int .i64 (.ofNat 2), .bool true]] = true := by kernel_rfl
theorem g94_0 : tst [.int .i64 (.ofNat 9), .int .i64 (.ofNat 2), .bool true] = true := (tsts_cons g94).1
theorem g95 : tsts [[.int .i64 (.ofNat 9), .int .i64 (.ofNat 2), .bool false]] = true := by kernel_rfl
theorem g95_0 : tst [.int .i64 (.ofNat 9), .int .i64 (.ofNat 2), .bool false] = true := (tsts_cons g95).1
theorem g96 : tsts [[.int .i64 (.ofNat 9), .int .i64 (.ofNat 3), .bool true]] = true := by kernel_rfl
theorem g96_0 : tst [.int .i64 (.ofNat 9), .int .i64 (.ofNat 3), .bool true] = true := (tsts_cons g96).1
theorem g97 : tsts [[.int .i64 (.ofNat 9), .int .i64 (.ofNat 3), .bool false]] = true := by kernel_rfl
theorem g97_0 : tst [.int .i64 (.ofNat 9), .int .i64 (.ofNat 3), .bool false] = true := (tsts_cons g97).1
theorem g98 : tsts [[.int .i64 (.ofNat 9), .int .i64 (.ofNat 4), .bool true]] = true := by kernel_rfl
theorem g98_0 : tst [.int .i64 (.ofNat 9), .int .i64 (.ofNat 4), .bool true] = true := (tsts_cons g98).1
theorem g99 : tsts [[.int .i64 (.ofNat 9), .int .i64 (.ofNat 4), .bool false]] = true := by kernel_rfl
theorem g99_0 : tst [.int .i64 (.ofNat 9), .int .i64 (.ofNat 4), .bool false] = true := (tsts_cons g99).1
theorem g100 : tsts [[.int .i64 (.ofNat 10), .int .i64 (.ofNat 0), .bool true]] = true := by kernel_rfl
theorem g100_0 : tst [.int .i64 (.ofNat 10), .int .i64 (.ofNat 0), .bool true] = true := (tsts_cons g100).1
theorem g101 : tsts [[.int .i64 (.ofNat 10), .int .i64 (.ofNat 0), .bool false]] = true := by kernel_rfl
theorem g101_0 : tst [.int .i64 (.ofNat 10), .int .i64 (.ofNat 0), .bool false] = true := (tsts_cons g101).1
theorem g102 : tsts [[.int .i64 (.ofNat 10), .int .i64 (.ofNat 1), .bool true]] = true := by kernel_rfl
theorem g102_0 : tst [.int .i64 (.ofNat 10), .int .i64 (.ofNat 1), .bool true] = true := (tsts_cons g102).1
theorem g103 : tsts [[.int .i64 (.ofNat 10), .int .i64 (.ofNat 1), .bool false]] = true := by kernel_rfl
theorem g103_0 : tst [.int .i64 (.ofNat 10), .int .i64 (.ofNat 1), .bool false] = true := (tsts_cons g103).1
end Go.Proofs.YtmjhcnkngaglmaaGreatDoor.persistClears
