/- LinkOthers: pieces of its runs, by the kernel. -/
import Derived.Test.YtncibghfgdldoaaDoorEvLinkOthersLit
import Derived.Test.YtncibghfgdldoaaDoorRows
import Derived.KernelRfl
namespace Go.Proofs.YtncibghfgdldoaaDoor.linkOthers
open Go.YtncibghfgdldoaaDoorEv
set_option maxRecDepth 100000
theorem ok_c67 : OrcOk Tryd.prog c67 := okOf fun W => by kernel_rfl
theorem ok_c68 : OrcOk Tryd.prog c68 := okOf fun W => by kernel_rfl
theorem ok_c69 : OrcOk Tryd.prog c69 := okOf fun W => by kernel_rfl
theorem ok_c70 : OrcOk Tryd.prog c70 := okOf fun W => by kernel_rfl
theorem ok_c71 : OrcOk Tryd.prog c71 := okOf fun W => by kernel_rfl
theorem ok_c72 : OrcOk Tryd.prog c72 := okOf fun W => by kernel_rfl
theorem ok_c73 : OrcOk Tryd.prog c73 := okOf fun W => by kernel_rfl
theorem ok_c74 : OrcOk Tryd.prog c74 := okOf fun W => by kernel_rfl
theorem ok_c75 : OrcOk Tryd.prog c75 := okOf fun W => by kernel_rfl
theorem ok_c76 : OrcOk Tryd.prog c76 := okOf fun W => by kernel_rfl
theorem ok_c77 : OrcOk Tryd.prog c77 := okOf fun W => by kernel_rfl
theorem ok_c78 : OrcOk Tryd.prog c78 := okOf fun W => by kernel_rfl
theorem ok_c79 : OrcOk Tryd.prog c79 := okOf fun W => by kernel_rfl
theorem ok_c80 : OrcOk Tryd.prog c80 := okOf fun W => by kernel_rfl
theorem ok_c81 : OrcOk Tryd.prog c81 := okOf fun W => by kernel_rfl
theorem ok_c82 : OrcOk Tryd.prog c82 := okOf fun W => by kernel_rfl
theorem ok_c83 : OrcOk Tryd.prog c83 := okOf fun W => by kernel_rfl
theorem ok_c84 : OrcOk Tryd.prog c84 := okOf fun W => by kernel_rfl
theorem ok_c85 : OrcOk Tryd.prog c85 := okOf fun W => by kernel_rfl
theorem ok_c86 : OrcOk Tryd.prog c86 := okOf fun W => by kernel_rfl
theorem ok_c87 : OrcOk Tryd.prog c87 := okOf fun W => by kernel_rfl
theorem ok_c88 : OrcOk Tryd.prog c88 := okOf fun W => by kernel_rfl
theorem ok_c89 : OrcOk Tryd.prog c89 := okOf fun W => by kernel_rfl
theorem ok_c90 : OrcOk Tryd.prog c90 := okOf fun W => by kernel_rfl
theorem ok_c91 : OrcOk Tryd.prog c91 := okOf fun W => by kernel_rfl
theorem ok_c92 : OrcOk Tryd.prog c92 := okOf fun W => by kernel_rfl
theorem ok_c93 : OrcOk Tryd.prog c93 := okOf fun W => by kernel_rfl
theorem ok_c94 : OrcOk Tryd.prog c94 := okOf fun W => by kernel_rfl
theorem ok_c95 : OrcOk Tryd.prog c95 := okOf fun W => by kernel_rfl
theorem ok_c96 : OrcOk Tryd.prog c96 := okOf fun W => by kernel_rfl
theorem ok_c97 : OrcOk Tryd.prog c97 := okOf fun W => by kernel_rfl
theorem ok_c98 : OrcOk Tryd.prog c98 := okOf fun W => by kernel_rfl
theorem ok_c99 : OrcOk Tryd.prog c99 := okOf fun W => by kernel_rfl
theorem ok_c100 : OrcOk Tryd.prog c100 := okOf fun W => by kernel_rfl
theorem ok_c101 : OrcOk Tryd.prog c101 := okOf fun W => by kernel_rfl
theorem ok_c102 : OrcOk Tryd.prog c102 := okOf fun W => by kernel_rfl
theorem ok_c103 : OrcOk Tryd.prog c103 := okOf fun W => by kernel_rfl
theorem ok_c104 : OrcOk Tryd.prog c104 := okOf fun W => by kernel_rfl
theorem ok_c105 : OrcOk Tryd.prog c105 := okOf fun W => by kernel_rfl
theorem ok_c106 : OrcOk Tryd.prog c106 := okOf fun W => by kernel_rfl
theorem ok_c107 : OrcOk Tryd.prog c107 := okOf fun W => by kernel_rfl
theorem ok_c108 : OrcOk Tryd.prog c108 := okOf fun W => by kernel_rfl
theorem ok_c109 : OrcOk Tryd.prog c109 := okOf fun W => by kernel_rfl
theorem ok_c110 : OrcOk Tryd.prog c110 := okOf fun W => by kernel_rfl
theorem ok_c111 : OrcOk Tryd.prog c111 := okOf fun W => by kernel_rfl
theorem ok_c112 : OrcOk Tryd.prog c112 := okOf fun W => by kernel_rfl
theorem ok_c113 : OrcOk Tryd.prog c113 := okOf fun W => by kernel_rfl
theorem ok_c114 : OrcOk Tryd.prog c114 := okOf fun W => by kernel_rfl
theorem ok_c115 : OrcOk Tryd.prog c115 := okOf fun W => by kernel_rfl
theorem ok_c116 : OrcOk Tryd.prog c116 := okOf fun W => by kernel_rfl
theorem ok_c117 : OrcOk Tryd.prog c117 := okOf fun W => by kernel_rfl
theorem ok_c118 : OrcOk Tryd.prog c118 := okOf fun W => by kernel_rfl
theorem ok_c119 : OrcOk Tryd.prog c119 := okOf fun W => by kernel_rfl
theorem ok_c120 : OrcOk Tryd.prog c120 := okOf fun W => by kernel_rfl
theorem ok_c121 : OrcOk Tryd.prog c121 := okOf fun W => by kernel_rfl
theorem ok_c122 : OrcOk Tryd.prog c122 := okOf fun W => by kernel_rfl
theorem ok_c123 : OrcOk Tryd.prog c123 := okOf fun W => by kernel_rfl
theorem ok_c124 : OrcOk Tryd.prog c124 := okOf fun W => by kernel_rfl
theorem ok_c125 : OrcOk Tryd.prog c125 := okOf fun W => by kernel_rfl
theorem ok_c126 : OrcOk Tryd.prog c126 := okOf fun W => by kernel_rfl
theorem ok_c127 : OrcOk Tryd.prog c127 := okOf fun W => by kernel_rfl
theorem ok_c128 : OrcOk Tryd.prog c128 := okOf fun W => by kernel_rfl
theorem ok_c129 : OrcOk Tryd.prog c129 := okOf fun W => by kernel_rfl
theorem ok_c130 : OrcOk Tryd.prog c130 := okOf fun W => by kernel_rfl
theorem ok_c131 : OrcOk Tryd.prog c131 := okOf fun W => by kernel_rfl
theorem ok_c132 : OrcOk Tryd.prog c132 := okOf fun W => by kernel_rfl
end Go.Proofs.YtncibghfgdldoaaDoor.linkOthers
