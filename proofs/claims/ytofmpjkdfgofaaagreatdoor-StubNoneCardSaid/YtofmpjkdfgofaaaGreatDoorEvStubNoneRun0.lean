/- StubNone: the evaluator's answers, by the kernel. -/
import Derived.Test.YtofmpjkdfgofaaaGreatDoorEvStubNoneRun
import Derived.KernelRfl
namespace Go.Proofs.YtofmpjkdfgofaaaGreatDoor.stubNone
open Go.YtofmpjkdfgofaaaGreatDoorEv
set_option maxRecDepth 100000
theorem g0 (W : World) : tsts W [[]] = true := by kernel_rfl
theorem g0_0 (W : World) : tst W [] = true := (tsts_cons (g0 W)).1
end Go.Proofs.YtofmpjkdfgofaaaGreatDoor.stubNone
