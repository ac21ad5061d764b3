/- ChainMerge: pieces of its runs, by the kernel. -/
import Derived.Test.YtaihphmeppbggaaEvChainMergeLit
import Derived.Test.YtaihphmeppbggaaRows
import Derived.KernelRfl
namespace Go.Proofs.Ytaihphmeppbggaa.chainMerge
open Go.YtaihphmeppbggaaEv
set_option maxRecDepth 100000
theorem ok_c51 : OrcOk Try.prog c51 := okOf fun W => by kernel_rfl
theorem ok_c52 : OrcOk Try.prog c52 := okOf fun W => by kernel_rfl
theorem ok_c53 : OrcOk Try.prog c53 := okOf fun W => by kernel_rfl
theorem ok_c54 : OrcOk Try.prog c54 := okOf fun W => by kernel_rfl
theorem ok_c55 : OrcOk Try.prog c55 := okOf fun W => by kernel_rfl
theorem ok_c56 : OrcOk Try.prog c56 := okOf fun W => by kernel_rfl
theorem ok_c57 : OrcOk Try.prog c57 := okOf fun W => by kernel_rfl
theorem ok_c58 : OrcOk Try.prog c58 := okOf fun W => by kernel_rfl
theorem ok_c59 : OrcOk Try.prog c59 := okOf fun W => by kernel_rfl
theorem ok_c60 : OrcOk Try.prog c60 := okOf fun W => by kernel_rfl
theorem ok_c61 : OrcOk Try.prog c61 := okOf fun W => by kernel_rfl
theorem ok_c62 : OrcOk Try.prog c62 := okOf fun W => by kernel_rfl
theorem ok_c63 : OrcOk Try.prog c63 := okOf fun W => by kernel_rfl
theorem ok_c64 : OrcOk Try.prog c64 := okOf fun W => by kernel_rfl
theorem ok_c65 : OrcOk Try.prog c65 := okOf fun W => by kernel_rfl
theorem ok_c66 : OrcOk Try.prog c66 := okOf fun W => by kernel_rfl
theorem ok_c67 : OrcOk Try.prog c67 := okOf fun W => by kernel_rfl
theorem ok_c68 : OrcOk Try.prog c68 := okOf fun W => by kernel_rfl
theorem ok_c69 : OrcOk Try.prog c69 := okOf fun W => by kernel_rfl
theorem ok_c70 : OrcOk Try.prog c70 := okOf fun W => by kernel_rfl
theorem ok_c71 : OrcOk Try.prog c71 := okOf fun W => by kernel_rfl
theorem ok_c72 : OrcOk Try.prog c72 := okOf fun W => by kernel_rfl
end Go.Proofs.Ytaihphmeppbggaa.chainMerge
