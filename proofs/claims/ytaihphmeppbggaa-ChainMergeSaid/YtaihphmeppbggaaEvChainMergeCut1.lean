/- ChainMerge: pieces of its runs, by the kernel. -/
import Derived.Test.YtaihphmeppbggaaEvChainMergeLit
import Derived.Test.YtaihphmeppbggaaRows
import Derived.KernelRfl
namespace Go.Proofs.Ytaihphmeppbggaa.chainMerge
open Go.YtaihphmeppbggaaEv
set_option maxRecDepth 100000
theorem ok_c27 : OrcOk Try.prog c27 := okOf fun W => by kernel_rfl
theorem ok_c28 : OrcOk Try.prog c28 := okOf fun W => by kernel_rfl
theorem ok_c29 : OrcOk Try.prog c29 := okOf fun W => by kernel_rfl
theorem ok_c30 : OrcOk Try.prog c30 := okOf fun W => by kernel_rfl
theorem ok_c31 : OrcOk Try.prog c31 := okOf fun W => by kernel_rfl
theorem ok_c32 : OrcOk Try.prog c32 := okOf fun W => by kernel_rfl
theorem ok_c33 : OrcOk Try.prog c33 := okOf fun W => by kernel_rfl
theorem ok_c34 : OrcOk Try.prog c34 := okOf fun W => by kernel_rfl
theorem ok_c35 : OrcOk Try.prog c35 := okOf fun W => by kernel_rfl
theorem ok_c36 : OrcOk Try.prog c36 := okOf fun W => by kernel_rfl
theorem ok_c37 : OrcOk Try.prog c37 := okOf fun W => by kernel_rfl
theorem ok_c38 : OrcOk Try.prog c38 := okOf fun W => by kernel_rfl
theorem ok_c39 : OrcOk Try.prog c39 := okOf fun W => by kernel_rfl
theorem ok_c40 : OrcOk Try.prog c40 := okOf fun W => by kernel_rfl
theorem ok_c41 : OrcOk Try.prog c41 := okOf fun W => by kernel_rfl
theorem ok_c42 : OrcOk Try.prog c42 := okOf fun W => by kernel_rfl
theorem ok_c43 : OrcOk Try.prog c43 := okOf fun W => by kernel_rfl
theorem ok_c44 : OrcOk Try.prog c44 := okOf fun W => by kernel_rfl
theorem ok_c45 : OrcOk Try.prog c45 := okOf fun W => by kernel_rfl
theorem ok_c46 : OrcOk Try.prog c46 := okOf fun W => by kernel_rfl
theorem ok_c47 : OrcOk Try.prog c47 := okOf fun W => by kernel_rfl
theorem ok_c48 : OrcOk Try.prog c48 := okOf fun W => by kernel_rfl
theorem ok_c49 : OrcOk Try.prog c49 := okOf fun W => by kernel_rfl
theorem ok_c50 : OrcOk Try.prog c50 := okOf fun W => by kernel_rfl
end Go.Proofs.Ytaihphmeppbggaa.chainMerge
