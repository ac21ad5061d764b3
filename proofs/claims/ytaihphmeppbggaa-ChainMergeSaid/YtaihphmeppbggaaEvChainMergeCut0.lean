/- ChainMerge: pieces of its runs, by the kernel. -/
import Derived.Test.YtaihphmeppbggaaEvChainMergeLit
import Derived.Test.YtaihphmeppbggaaRows
import Derived.KernelRfl
namespace Go.Proofs.Ytaihphmeppbggaa.chainMerge
open Go.YtaihphmeppbggaaEv
set_option maxRecDepth 100000
theorem ok_c0 : OrcOk Try.prog c0 := okOf fun W => by kernel_rfl
theorem ok_c1 : OrcOk Try.prog c1 := okOf fun W => by kernel_rfl
theorem ok_c2 : OrcOk Try.prog c2 := okOf fun W => by kernel_rfl
theorem ok_c3 : OrcOk Try.prog c3 := okOf fun W => by kernel_rfl
theorem ok_c4 : OrcOk Try.prog c4 := okOf fun W => by kernel_rfl
theorem ok_c5 : OrcOk Try.prog c5 := okOf fun W => by kernel_rfl
theorem ok_c6 : OrcOk Try.prog c6 := okOf fun W => by kernel_rfl
theorem ok_c7 : OrcOk Try.prog c7 := okOf fun W => by kernel_rfl
theorem ok_c8 : OrcOk Try.prog c8 := okOf fun W => by kernel_rfl
theorem ok_c9 : OrcOk Try.prog c9 := okOf fun W => by kernel_rfl
theorem ok_c10 : OrcOk Try.prog c10 := okOf fun W => by kernel_rfl
theorem ok_c11 : OrcOk Try.prog c11 := okOf fun W => by kernel_rfl
theorem ok_c12 : OrcOk Try.prog c12 := okOf fun W => by kernel_rfl
theorem ok_c13 : OrcOk Try.prog c13 := okOf fun W => by kernel_rfl
theorem ok_c14 : OrcOk Try.prog c14 := okOf fun W => by kernel_rfl
theorem ok_c15 : OrcOk Try.prog c15 := okOf fun W => by kernel_rfl
theorem ok_c16 : OrcOk Try.prog c16 := okOf fun W => by kernel_rfl
theorem ok_c17 : OrcOk Try.prog c17 := okOf fun W => by kernel_rfl
theorem ok_c18 : OrcOk Try.prog c18 := okOf fun W => by kernel_rfl
theorem ok_c19 : OrcOk Try.prog c19 := okOf fun W => by kernel_rfl
theorem ok_c20 : OrcOk Try.prog c20 := okOf fun W => by kernel_rfl
theorem ok_c21 : OrcOk Try.prog c21 := okOf fun W => by kernel_rfl
theorem ok_c22 : OrcOk Try.prog c22 := okOf fun W => by kernel_rfl
theorem ok_c23 : OrcOk Try.prog c23 := okOf fun W => by kernel_rfl
theorem ok_c24 : OrcOk Try.prog c24 := okOf fun W => by kernel_rfl
theorem ok_c25 : OrcOk Try.prog c25 := okOf fun W => by kernel_rfl
theorem ok_c26 : OrcOk Try.prog c26 := okOf fun W => by kernel_rfl
end Go.Proofs.Ytaihphmeppbggaa.chainMerge
