/- ChainMerge: pieces of its runs, by the kernel. -/
import Derived.Test.YtaihphmeppbggaaEvChainMergeLit
import Derived.Test.YtaihphmeppbggaaRows
import Derived.KernelRfl
namespace Go.Proofs.Ytaihphmeppbggaa.chainMerge
open Go.YtaihphmeppbggaaEv
set_option maxRecDepth 100000
theorem ok_c73 : OrcOk Try.prog c73 := okOf fun W => by kernel_rfl
theorem ok_c74 : OrcOk Try.prog c74 := okOf fun W => by kernel_rfl
theorem ok_c75 : OrcOk Try.prog c75 := okOf fun W => by kernel_rfl
theorem ok_c76 : OrcOk Try.prog c76 := okOf fun W => by kernel_rfl
theorem ok_c77 : OrcOk Try.prog c77 := okOf fun W => by kernel_rfl
theorem ok_c78 : OrcOk Try.prog c78 := okOf fun W => by kernel_rfl
theorem ok_c79 : OrcOk Try.prog c79 := okOf fun W => by kernel_rfl
theorem ok_c80 : OrcOk Try.prog c80 := okOf fun W => by kernel_rfl
theorem ok_c81 : OrcOk Try.prog c81 := okOf fun W => by kernel_rfl
theorem ok_c82 : OrcOk Try.prog c82 := okOf fun W => by kernel_rfl
theorem ok_c83 : OrcOk Try.prog c83 := okOf fun W => by kernel_rfl
theorem ok_c84 : OrcOk Try.prog c84 := okOf fun W => by kernel_rfl
theorem ok_c85 : OrcOk Try.prog c85 := okOf fun W => by kernel_rfl
theorem ok_c86 : OrcOk Try.prog c86 := okOf fun W => by kernel_rfl
theorem ok_c87 : OrcOk Try.prog c87 := okOf fun W => by kernel_rfl
theorem ok_c88 : OrcOk Try.prog c88 := okOf fun W => by kernel_rfl
theorem ok_c89 : OrcOk Try.prog c89 := okOf fun W => by kernel_rfl
theorem ok_c90 : OrcOk Try.prog c90 := okOf fun W => by kernel_rfl
theorem ok_c91 : OrcOk Try.prog c91 := okOf fun W => by kernel_rfl
theorem ok_c92 : OrcOk Try.prog c92 := okOf fun W => by kernel_rfl
end Go.Proofs.Ytaihphmeppbggaa.chainMerge
