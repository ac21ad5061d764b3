/- ChainMerge: pieces of its runs, by the kernel. -/
import Derived.Test.YtaihphmeppbggaaEvChainMergeLit
import Derived.Test.YtaihphmeppbggaaRows
import Derived.KernelRfl
namespace Go.Proofs.Ytaihphmeppbggaa.chainMerge
open Go.YtaihphmeppbggaaEv
set_option maxRecDepth 100000
theorem ok_c133 : OrcOk Try.prog c133 := okOf fun W => by kernel_rfl
theorem ok_c134 : OrcOk Try.prog c134 := okOf fun W => by kernel_rfl
theorem ok_c135 : OrcOk Try.prog c135 := okOf fun W => by kernel_rfl
theorem ok_c136 : OrcOk Try.prog c136 := okOf fun W => by kernel_rfl
theorem ok_c137 : OrcOk Try.prog c137 := okOf fun W => by kernel_rfl
theorem ok_c138 : OrcOk Try.prog c138 := okOf fun W => by kernel_rfl
theorem ok_c139 : OrcOk Try.prog c139 := okOf fun W => by kernel_rfl
theorem ok_c140 : OrcOk Try.prog c140 := okOf fun W => by kernel_rfl
end Go.Proofs.Ytaihphmeppbggaa.chainMerge
