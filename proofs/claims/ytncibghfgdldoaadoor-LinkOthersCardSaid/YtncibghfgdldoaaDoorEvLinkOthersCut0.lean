/- LinkOthers: pieces of its runs, by the kernel. -/
import Derived.Test.YtncibghfgdldoaaDoorEvLinkOthersLit
import Derived.Test.YtncibghfgdldoaaDoorRows
import Derived.KernelRfl
namespace Go.Proofs.YtncibghfgdldoaaDoor.linkOthers
open Go.YtncibghfgdldoaaDoorEv
set_option maxRecDepth 100000
theorem ok_c0 : OrcOk Tryd.prog c0 := okOf fun W => by kernel_rfl
theorem ok_c1 : OrcOk Tryd.prog c1 := okOf fun W => by kernel_rfl
theorem ok_c2 : OrcOk Tryd.prog c2 := okOf fun W => by kernel_rfl
theorem ok_c3 : OrcOk Tryd.prog c3 := okOf fun W => by kernel_rfl
theorem ok_c4 : OrcOk Tryd.prog c4 := okOf fun W => by kernel_rfl
theorem ok_c5 : OrcOk Tryd.prog c5 := okOf fun W => by kernel_rfl
theorem ok_c6 : OrcOk Tryd.prog c6 := okOf fun W => by kernel_rfl
theorem ok_c7 : OrcOk Tryd.prog c7 := okOf fun W => by kernel_rfl
theorem ok_c8 : OrcOk Tryd.prog c8 := okOf fun W => by kernel_rfl
theorem ok_c9 : OrcOk Tryd.prog c9 := okOf fun W => by kernel_rfl
theorem ok_c10 : OrcOk Tryd.prog c10 := okOf fun W => by kernel_rfl
theorem ok_c11 : OrcOk Tryd.prog c11 := okOf fun W => by kernel_rfl
theorem ok_c12 : OrcOk Tryd.prog c12 := okOf fun W => by kernel_rfl
theorem ok_c13 : OrcOk Tryd.prog c13 := okOf fun W => by kernel_rfl
theorem ok_c14 : OrcOk Tryd.prog c14 := okOf fun W => by kernel_rfl
theorem ok_c15 : OrcOk Tryd.prog c15 := okOf fun W => by kernel_rfl
theorem ok_c16 : OrcOk Tryd.prog c16 := okOf fun W => by kernel_rfl
theorem ok_c17 : OrcOk Tryd.prog c17 := okOf fun W => by kernel_rfl
theorem ok_c18 : OrcOk Tryd.prog c18 := okOf fun W => by kernel_rfl
theorem ok_c19 : OrcOk Tryd.prog c19 := okOf fun W => by kernel_rfl
theorem ok_c20 : OrcOk Tryd.prog c20 := okOf fun W => by kernel_rfl
theorem ok_c21 : OrcOk Tryd.prog c21 := okOf fun W => by kernel_rfl
theorem ok_c22 : OrcOk Tryd.prog c22 := okOf fun W => by kernel_rfl
theorem ok_c23 : OrcOk Tryd.prog c23 := okOf fun W => by kernel_rfl
theorem ok_c24 : OrcOk Tryd.prog c24 := okOf fun W => by kernel_rfl
theorem ok_c25 : OrcOk Tryd.prog c25 := okOf fun W => by kernel_rfl
theorem ok_c26 : OrcOk Tryd.prog c26 := okOf fun W => by kernel_rfl
theorem ok_c27 : OrcOk Tryd.prog c27 := okOf fun W => by kernel_rfl
theorem ok_c28 : OrcOk Tryd.prog c28 := okOf fun W => by kernel_rfl
theorem ok_c29 : OrcOk Tryd.prog c29 := okOf fun W => by kernel_rfl
theorem ok_c30 : OrcOk Tryd.prog c30 := okOf fun W => by kernel_rfl
theorem ok_c31 : OrcOk Tryd.prog c31 := okOf fun W => by kernel_rfl
theorem ok_c32 : OrcOk Tryd.prog c32 := okOf fun W => by kernel_rfl
theorem ok_c33 : OrcOk Tryd.prog c33 := okOf fun W => by kernel_rfl
theorem ok_c34 : OrcOk Tryd.prog c34 := okOf fun W => by kernel_rfl
theorem ok_c35 : OrcOk Tryd.prog c35 := okOf fun W => by kernel_rfl
theorem ok_c36 : OrcOk Tryd.prog c36 := okOf fun W => by kernel_rfl
theorem ok_c37 : OrcOk Tryd.prog c37 := okOf fun W => by kernel_rfl
theorem ok_c38 : OrcOk Tryd.prog c38 := okOf fun W => by kernel_rfl
theorem ok_c39 : OrcOk Tryd.prog c39 := okOf fun W => by kernel_rfl
theorem ok_c40 : OrcOk Tryd.prog c40 := okOf fun W => by kernel_rfl
theorem ok_c41 : OrcOk Tryd.prog c41 := okOf fun W => by kernel_rfl
theorem ok_c42 : OrcOk Tryd.prog c42 := okOf fun W => by kernel_rfl
theorem ok_c43 : OrcOk Tryd.prog c43 := okOf fun W => by kernel_rfl
theorem ok_c44 : OrcOk Tryd.prog c44 := okOf fun W => by kernel_rfl
theorem ok_c45 : OrcOk Tryd.prog c45 := okOf fun W => by kernel_rfl
theorem ok_c46 : OrcOk Tryd.prog c46 := okOf fun W => by kernel_rfl
theorem ok_c47 : OrcOk Tryd.prog c47 := okOf fun W => by kernel_rfl
theorem ok_c48 : OrcOk Tryd.prog c48 := okOf fun W => by kernel_rfl
theorem ok_c49 : OrcOk Tryd.prog c49 := okOf fun W => by kernel_rfl
theorem ok_c50 : OrcOk Tryd.prog c50 := okOf fun W => by kernel_rfl
theorem ok_c51 : OrcOk Tryd.prog c51 := okOf fun W => by kernel_rfl
theorem ok_c52 : OrcOk Tryd.prog c52 := okOf fun W => by kernel_rfl
theorem ok_c53 : OrcOk Tryd.prog c53 := okOf fun W => by kernel_rfl
theorem ok_c54 : OrcOk Tryd.prog c54 := okOf fun W => by kernel_rfl
theorem ok_c55 : OrcOk Tryd.prog c55 := okOf fun W => by kernel_rfl
theorem ok_c56 : OrcOk Tryd.prog c56 := okOf fun W => by kernel_rfl
theorem ok_c57 : OrcOk Tryd.prog c57 := okOf fun W => by kernel_rfl
theorem ok_c58 : OrcOk Tryd.prog c58 := okOf fun W => by kernel_rfl
theorem ok_c59 : OrcOk Tryd.prog c59 := okOf fun W => by kernel_rfl
theorem ok_c60 : OrcOk Tryd.prog c60 := okOf fun W => by kernel_rfl
theorem ok_c61 : OrcOk Tryd.prog c61 := okOf fun W => by kernel_rfl
theorem ok_c62 : OrcOk Tryd.prog c62 := okOf fun W => by kernel_rfl
theorem ok_c63 : OrcOk Tryd.prog c63 := okOf fun W => by kernel_rfl
theorem ok_c64 : OrcOk Tryd.prog c64 := okOf fun W => by kernel_rfl
theorem ok_c65 : OrcOk Tryd.prog c65 := okOf fun W => by kernel_rfl
theorem ok_c66 : OrcOk Tryd.prog c66 := okOf fun W => by kernel_rfl
end Go.Proofs.YtncibghfgdldoaaDoor.linkOthers
