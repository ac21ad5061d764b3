/- ChainMerge: pieces of its runs, by the kernel. -/
import Derived.Test.YtaihphmeppbggaaEvChainMergeLit
import Derived.Test.YtaihphmeppbggaaRows
import Derived.KernelRfl
namespace Go.Proofs.Ytaihphmeppbggaa.chainMerge
open Go.YtaihphmeppbggaaEv
set_option maxRecDepth 100000
theorem ok_c93 : OrcOk Try.prog c93 := okOf fun W => by kernel_rfl
theorem ok_c94 : OrcOk Try.prog c94 := okOf fun W => by kernel_rfl
theorem ok_c95 : OrcOk Try.prog c95 := okOf fun W => by kernel_rfl
theorem ok_c96 : OrcOk Try.prog c96 := okOf fun W => by kernel_rfl
theorem ok_c97 : OrcOk Try.prog c97 := okOf fun W => by kernel_rfl
theorem ok_c98 : OrcOk Try.prog c98 := okOf fun W => by kernel_rfl
theorem ok_c99 : OrcOk Try.prog c99 := okOf fun W => by kernel_rfl
theorem ok_c100 : OrcOk Try.prog c100 := okOf fun W => by kernel_rfl
theorem ok_c101 : OrcOk Try.prog c101 := okOf fun W => by kernel_rfl
theorem ok_c102 : OrcOk Try.prog c102 := okOf fun W => by kernel_rfl
theorem ok_c103 : OrcOk Try.prog c103 := okOf fun W => by kernel_rfl
theorem ok_c104 : OrcOk Try.prog c104 := okOf fun W => by kernel_rfl
theorem ok_c105 : OrcOk Try.prog c105 := okOf fun W => by kernel_rfl
theorem ok_c106 : OrcOk Try.prog c106 := okOf fun W => by kernel_rfl
theorem ok_c107 : OrcOk Try.prog c107 := okOf fun W => by kernel_rfl
theorem ok_c108 : OrcOk Try.prog c108 := okOf fun W => by kernel_rfl
theorem ok_c109 : OrcOk Try.prog c109 := okOf fun W => by kernel_rfl
theorem ok_c110 : OrcOk Try.prog c110 := okOf fun W => by kernel_rfl
theorem ok_c111 : OrcOk Try.prog c111 := okOf fun W => by kernel_rfl
theorem ok_c112 : OrcOk Try.prog c112 := okOf fun W => by kernel_rfl
theorem ok_c113 : OrcOk Try.prog c113 := okOf fun W => by kernel_rfl
theorem ok_c114 : OrcOk Try.prog c114 := okOf fun W => by kernel_rfl
end Go.Proofs.Ytaihphmeppbggaa.chainMerge
