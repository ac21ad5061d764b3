/- AddrPrefix: the evaluator's run. -/
import Derived.Test.YtpjfkfgnnecgjaaDoorEvOrc
import Derived.Test.YtpjfkfgnnecgjaaDoorRows
import Derived.KernelRfl
namespace Go.Proofs.YtpjfkfgnnecgjaaDoor.addrPrefix
open Go.YtpjfkfgnnecgjaaDoorEv
set_option maxRecDepth 100000
def isTrue : Res → Bool
  | .done (.bool true) _ => true
  | _ => false
theorem isTrue_done {r : Res} (h : isTrue r = true) : ∃ σ, r = .done (.bool true) σ := by
  unfold isTrue at h
  split at h
  · exact ⟨_, rfl⟩
  · cases h
noncomputable def tab4 : List SV := ([0, 1, 28, 2, 29, 14, 24, 3, 30, 22, 20, 15, 25, 17, 4, 8, 31, 27, 13, 23, 21, 19, 16, 7, 26, 12, 18, 6, 11, 5, 10, 9] : List Int).map (SV.int .u8)
noncomputable def tab5 : List SV := ([0, 1, 56, 2, 57, 49, 28, 3, 61, 58, 42, 50, 38, 29, 17, 4, 62, 47, 59, 36, 45, 43, 51, 22, 53, 39, 33, 30, 24, 18, 12, 5, 63, 55, 48, 27, 60, 41, 37, 16, 46, 35, 44, 21, 52, 32, 23, 11, 54, 26, 40, 15, 34, 20, 31, 10, 25, 14, 19, 9, 13, 8, 7, 6] : List Int).map (SV.int .u8)
noncomputable def tab1 : List SV := ([1, 10, 100, 1000, 10000, 100000, 1000000, 10000000, 100000000, 1000000000, 10000000000, 100000000000, 1000000000000, 10000000000000, 100000000000000, 1000000000000000, 10000000000000000, 100000000000000000, 1000000000000000000, 10000000000000000000] : List Int).map (SV.int .u64)
noncomputable def tabs : List (Nat × List SV) := [(4, tab4), (5, tab5), (1, tab1)]
theorem beg (W : World) : isTrue (runQ Tryd.prog evOrc.orc 1000000 (.call 6 []) ⟨.nil, []⟩ ⟨Tryd.prog.globals.size, .nil, some (W, ⟨[2, 3], tabs⟩)⟩) = true := by kernel_rfl
end Go.Proofs.YtpjfkfgnnecgjaaDoor.addrPrefix
