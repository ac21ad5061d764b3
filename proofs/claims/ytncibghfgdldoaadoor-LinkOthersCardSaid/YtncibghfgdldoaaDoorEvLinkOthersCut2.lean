/- LinkOthers: pieces of its runs, by the kernel. -/
import Derived.Test.YtncibghfgdldoaaDoorEvLinkOthersLit
import Derived.Test.YtncibghfgdldoaaDoorRows
import Derived.KernelRfl
namespace Go.Proofs.YtncibghfgdldoaaDoor.linkOthers
open Go.YtncibghfgdldoaaDoorEv
set_option maxRecDepth 100000
theorem ok_c133 : OrcOk Tryd.prog c133 := okOf fun W => by kernel_rfl
theorem ok_c134 : OrcOk Tryd.prog c134 := okOf fun W => by kernel_rfl
theorem ok_c135 : OrcOk Tryd.prog c135 := okOf fun W => by kernel_rfl
theorem ok_c136 : OrcOk Tryd.prog c136 := okOf fun W => by kernel_rfl
theorem ok_c137 : OrcOk Tryd.prog c137 := okOf fun W => by kernel_rfl
theorem ok_c138 : OrcOk Tryd.prog c138 := okOf fun W => by kernel_rfl
theorem ok_c139 : OrcOk Tryd.prog c139 := okOf fun W => by kernel_rfl
theorem ok_c140 : OrcOk Tryd.prog c140 := okOf fun W => by kernel_rfl
theorem ok_c141 : OrcOk Tryd.prog c141 := okOf fun W => by kernel_rfl
theorem ok_c142 : OrcOk Tryd.prog c142 := okOf fun W => by kernel_rfl
theorem ok_c143 : OrcOk Tryd.prog c143 := okOf fun W => by kernel_rfl
theorem ok_c144 : OrcOk Tryd.prog c144 := okOf fun W => by kernel_rfl
theorem ok_c145 : OrcOk Tryd.prog c145 := okOf fun W => by kernel_rfl
theorem ok_c146 : OrcOk Tryd.prog c146 := okOf fun W => by kernel_rfl
theorem ok_c147 : OrcOk Tryd.prog c147 := okOf fun W => by kernel_rfl
theorem ok_c148 : OrcOk Tryd.prog c148 := okOf fun W => by kernel_rfl
theorem ok_c149 : OrcOk Tryd.prog c149 := okOf fun W => by kernel_rfl
theorem ok_c150 : OrcOk Tryd.prog c150 := okOf fun W => by kernel_rfl
theorem ok_c151 : OrcOk Tryd.prog c151 := okOf fun W => by kernel_rfl
theorem ok_c152 : OrcOk Tryd.prog c152 := okOf fun W => by kernel_rfl
theorem ok_c153 : OrcOk Tryd.prog c153 := okOf fun W => by kernel_rfl
theorem ok_c154 : OrcOk Tryd.prog c154 := okOf fun W => by kernel_rfl
theorem ok_c155 : OrcOk Tryd.prog c155 := okOf fun W => by kernel_rfl
theorem ok_c156 : OrcOk Tryd.prog c156 := okOf fun W => by kernel_rfl
theorem ok_c157 : OrcOk Tryd.prog c157 := okOf fun W => by kernel_rfl
theorem ok_c158 : OrcOk Tryd.prog c158 := okOf fun W => by kernel_rfl
theorem ok_c159 : OrcOk Tryd.prog c159 := okOf fun W => by kernel_rfl
theorem ok_c160 : OrcOk Tryd.prog c160 := okOf fun W => by kernel_rfl
theorem ok_c161 : OrcOk Tryd.prog c161 := okOf fun W => by kernel_rfl
theorem ok_c162 : OrcOk Tryd.prog c162 := okOf fun W => by kernel_rfl
theorem ok_c163 : OrcOk Tryd.prog c163 := okOf fun W => by kernel_rfl
theorem ok_c164 : OrcOk Tryd.prog c164 := okOf fun W => by kernel_rfl
theorem ok_c165 : OrcOk Tryd.prog c165 := okOf fun W => by kernel_rfl
theorem ok_c166 : OrcOk Tryd.prog c166 := okOf fun W => by kernel_rfl
theorem ok_c167 : OrcOk Tryd.prog c167 := okOf fun W => by kernel_rfl
theorem ok_c168 : OrcOk Tryd.prog c168 := okOf fun W => by kernel_rfl
theorem ok_c169 : OrcOk Tryd.prog c169 := okOf fun W => by kernel_rfl
theorem ok_c170 : OrcOk Tryd.prog c170 := okOf fun W => by kernel_rfl
theorem ok_c171 : OrcOk Tryd.prog c171 := okOf fun W => by kernel_rfl
theorem ok_c172 : OrcOk Tryd.prog c172 := okOf fun W => by kernel_rfl
theorem ok_c173 : OrcOk Tryd.prog c173 := okOf fun W => by kernel_rfl
theorem ok_c174 : OrcOk Tryd.prog c174 := okOf fun W => by kernel_rfl
theorem ok_c175 : OrcOk Tryd.prog c175 := okOf fun W => by kernel_rfl
theorem ok_c176 : OrcOk Tryd.prog c176 := okOf fun W => by kernel_rfl
theorem ok_c177 : OrcOk Tryd.prog c177 := okOf fun W => by kernel_rfl
theorem ok_c178 : OrcOk Tryd.prog c178 := okOf fun W => by kernel_rfl
theorem ok_c179 : OrcOk Tryd.prog c179 := okOf fun W => by kernel_rfl
theorem ok_c180 : OrcOk Tryd.prog c180 := okOf fun W => by kernel_rfl
theorem ok_c181 : OrcOk Tryd.prog c181 := okOf fun W => by kernel_rfl
theorem ok_c182 : OrcOk Tryd.prog c182 := okOf fun W => by kernel_rfl
theorem ok_c183 : OrcOk Tryd.prog c183 := okOf fun W => by kernel_rfl
theorem ok_c184 : OrcOk Tryd.prog c184 := okOf fun W => by kernel_rfl
theorem ok_c185 : OrcOk Tryd.prog c185 := okOf fun W => by kernel_rfl
theorem ok_c186 : OrcOk Tryd.prog c186 := okOf fun W => by kernel_rfl
theorem ok_c187 : OrcOk Tryd.prog c187 := okOf fun W => by kernel_rfl
theorem ok_c188 : OrcOk Tryd.prog c188 := okOf fun W => by kernel_rfl
theorem ok_c189 : OrcOk Tryd.prog c189 := okOf fun W => by kernel_rfl
theorem ok_c190 : OrcOk Tryd.prog c190 := okOf fun W => by kernel_rfl
theorem ok_c191 : OrcOk Tryd.prog c191 := okOf fun W => by kernel_rfl
theorem ok_c192 : OrcOk Tryd.prog c192 := okOf fun W => by kernel_rfl
theorem ok_c193 : OrcOk Tryd.prog c193 := okOf fun W => by kernel_rfl
theorem ok_c194 : OrcOk Tryd.prog c194 := okOf fun W => by kernel_rfl
theorem ok_c195 : OrcOk Tryd.prog c195 := okOf fun W => by kernel_rfl
theorem ok_c196 : OrcOk Tryd.prog c196 := okOf fun W => by kernel_rfl
theorem ok_c197 : OrcOk Tryd.prog c197 := okOf fun W => by kernel_rfl
theorem ok_c198 : OrcOk Tryd.prog c198 := okOf fun W => by kernel_rfl
end Go.Proofs.YtncibghfgdldoaaDoor.linkOthers
