/- ChainMerge: pieces of its runs, by the kernel. -/
import Derived.Test.YtaihphmeppbggaaEvChainMergeLit
import Derived.Test.YtaihphmeppbggaaRows
import Derived.KernelRfl
namespace Go.Proofs.Ytaihphmeppbggaa.chainMerge
open Go.YtaihphmeppbggaaEv
set_option maxRecDepth 100000
theorem ok_c115 : OrcOk Try.prog c115 := okOf fun W => by kernel_rfl
theorem ok_c116 : OrcOk Try.prog c116 := okOf fun W => by kernel_rfl
theorem ok_c117 : OrcOk Try.prog c117 := okOf fun W => by kernel_rfl
theorem ok_c118 : OrcOk Try.prog c118 := okOf fun W => by kernel_rfl
theorem ok_c119 : OrcOk Try.prog c119 := okOf fun W => by kernel_rfl
theorem ok_c120 : OrcOk Try.prog c120 := okOf fun W => by kernel_rfl
theorem ok_c121 : OrcOk Try.prog c121 := okOf fun W => by kernel_rfl
theorem ok_c122 : OrcOk Try.prog c122 := okOf fun W => by kernel_rfl
theorem ok_c123 : OrcOk Try.prog c123 := okOf fun W => by kernel_rfl
theorem ok_c124 : OrcOk Try.prog c124 := okOf fun W => by kernel_rfl
theorem ok_c125 : OrcOk Try.prog c125 := okOf fun W => by kernel_rfl
theorem ok_c126 : OrcOk Try.prog c126 := okOf fun W => by kernel_rfl
theorem ok_c127 : OrcOk Try.prog c127 := okOf fun W => by kernel_rfl
theorem ok_c128 : OrcOk Try.prog c128 := okOf fun W => by kernel_rfl
theorem ok_c129 : OrcOk Try.prog c129 := okOf fun W => by kernel_rfl
theorem ok_c130 : OrcOk Try.prog c130 := okOf fun W => by kernel_rfl
theorem ok_c131 : OrcOk Try.prog c131 := okOf fun W => by kernel_rfl
theorem ok_c132 : OrcOk Try.prog c132 := okOf fun W => by kernel_rfl
end Go.Proofs.Ytaihphmeppbggaa.chainMerge
