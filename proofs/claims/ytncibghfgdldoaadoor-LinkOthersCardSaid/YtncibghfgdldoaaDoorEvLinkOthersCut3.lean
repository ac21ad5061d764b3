/- LinkOthers: pieces of its runs, by the kernel. -/
import Derived.Test.YtncibghfgdldoaaDoorEvLinkOthersLit
import Derived.Test.YtncibghfgdldoaaDoorRows
import Derived.KernelRfl
namespace Go.Proofs.YtncibghfgdldoaaDoor.linkOthers
open Go.YtncibghfgdldoaaDoorEv
set_option maxRecDepth 100000
theorem ok_c199 : OrcOk Tryd.prog c199 := okOf fun W => by kernel_rfl
theorem ok_c200 : OrcOk Tryd.prog c200 := okOf fun W => by kernel_rfl
theorem ok_c201 : OrcOk Tryd.prog c201 := okOf fun W => by kernel_rfl
theorem ok_c202 : OrcOk Tryd.prog c202 := okOf fun W => by kernel_rfl
theorem ok_c203 : OrcOk Tryd.prog c203 := okOf fun W => by kernel_rfl
theorem ok_c204 : OrcOk Tryd.prog c204 := okOf fun W => by kernel_rfl
theorem ok_c205 : OrcOk Tryd.prog c205 := okOf fun W => by kernel_rfl
theorem ok_c206 : OrcOk Tryd.prog c206 := okOf fun W => by kernel_rfl
theorem ok_c207 : OrcOk Tryd.prog c207 := okOf fun W => by kernel_rfl
theorem ok_c208 : OrcOk Tryd.prog c208 := okOf fun W => by kernel_rfl
theorem ok_c209 : OrcOk Tryd.prog c209 := okOf fun W => by kernel_rfl
theorem ok_c210 : OrcOk Tryd.prog c210 := okOf fun W => by kernel_rfl
theorem ok_c211 : OrcOk Tryd.prog c211 := okOf fun W => by kernel_rfl
theorem ok_c212 : OrcOk Tryd.prog c212 := okOf fun W => by kernel_rfl
theorem ok_c213 : OrcOk Tryd.prog c213 := okOf fun W => by kernel_rfl
theorem ok_c214 : OrcOk Tryd.prog c214 := okOf fun W => by kernel_rfl
theorem ok_c215 : OrcOk Tryd.prog c215 := okOf fun W => by kernel_rfl
theorem ok_c216 : OrcOk Tryd.prog c216 := okOf fun W => by kernel_rfl
theorem ok_c217 : OrcOk Tryd.prog c217 := okOf fun W => by kernel_rfl
theorem ok_c218 : OrcOk Tryd.prog c218 := okOf fun W => by kernel_rfl
theorem ok_c219 : OrcOk Tryd.prog c219 := okOf fun W => by kernel_rfl
theorem ok_c220 : OrcOk Tryd.prog c220 := okOf fun W => by kernel_rfl
theorem ok_c221 : OrcOk Tryd.prog c221 := okOf fun W => by kernel_rfl
theorem ok_c222 : OrcOk Tryd.prog c222 := okOf fun W => by kernel_rfl
theorem ok_c223 : OrcOk Tryd.prog c223 := okOf fun W => by kernel_rfl
theorem ok_c224 : OrcOk Tryd.prog c224 := okOf fun W => by kernel_rfl
theorem ok_c225 : OrcOk Tryd.prog c225 := okOf fun W => by kernel_rfl
theorem ok_c226 : OrcOk Tryd.prog c226 := okOf fun W => by kernel_rfl
theorem ok_c227 : OrcOk Tryd.prog c227 := okOf fun W => by kernel_rfl
theorem ok_c228 : OrcOk Tryd.prog c228 := okOf fun W => by kernel_rfl
theorem ok_c229 : OrcOk Tryd.prog c229 := okOf fun W => by kernel_rfl
theorem ok_c230 : OrcOk Tryd.prog c230 := okOf fun W => by kernel_rfl
theorem ok_c231 : OrcOk Tryd.prog c231 := okOf fun W => by kernel_rfl
theorem ok_c232 : OrcOk Tryd.prog c232 := okOf fun W => by kernel_rfl
theorem ok_c233 : OrcOk Tryd.prog c233 := okOf fun W => by kernel_rfl
theorem ok_c234 : OrcOk Tryd.prog c234 := okOf fun W => by kernel_rfl
theorem ok_c235 : OrcOk Tryd.prog c235 := okOf fun W => by kernel_rfl
theorem ok_c236 : OrcOk Tryd.prog c236 := okOf fun W => by kernel_rfl
theorem ok_c237 : OrcOk Tryd.prog c237 := okOf fun W => by kernel_rfl
theorem ok_c238 : OrcOk Tryd.prog c238 := okOf fun W => by kernel_rfl
theorem ok_c239 : OrcOk Tryd.prog c239 := okOf fun W => by kernel_rfl
theorem ok_c240 : OrcOk Tryd.prog c240 := okOf fun W => by kernel_rfl
theorem ok_c241 : OrcOk Tryd.prog c241 := okOf fun W => by kernel_rfl
theorem ok_c242 : OrcOk Tryd.prog c242 := okOf fun W => by kernel_rfl
theorem ok_c243 : OrcOk Tryd.prog c243 := okOf fun W => by kernel_rfl
theorem ok_c244 : OrcOk Tryd.prog c244 := okOf fun W => by kernel_rfl
theorem ok_c245 : OrcOk Tryd.prog c245 := okOf fun W => by kernel_rfl
theorem ok_c246 : OrcOk Tryd.prog c246 := okOf fun W => by kernel_rfl
theorem ok_c247 : OrcOk Tryd.prog c247 := okOf fun W => by kernel_rfl
theorem ok_c248 : OrcOk Tryd.prog c248 := okOf fun W => by kernel_rfl
theorem ok_c249 : OrcOk Tryd.prog c249 := okOf fun W => by kernel_rfl
theorem ok_c250 : OrcOk Tryd.prog c250 := okOf fun W => by kernel_rfl
theorem ok_c251 : OrcOk Tryd.prog c251 := okOf fun W => by kernel_rfl
theorem ok_c252 : OrcOk Tryd.prog c252 := okOf fun W => by kernel_rfl
theorem ok_c253 : OrcOk Tryd.prog c253 := okOf fun W => by kernel_rfl
theorem ok_c254 : OrcOk Tryd.prog c254 := okOf fun W => by kernel_rfl
theorem ok_c255 : OrcOk Tryd.prog c255 := okOf fun W => by kernel_rfl
theorem ok_c256 : OrcOk Tryd.prog c256 := okOf fun W => by kernel_rfl
theorem ok_c257 : OrcOk Tryd.prog c257 := okOf fun W => by kernel_rfl
theorem ok_c258 : OrcOk Tryd.prog c258 := okOf fun W => by kernel_rfl
theorem ok_c259 : OrcOk Tryd.prog c259 := okOf fun W => by kernel_rfl
theorem ok_c260 : OrcOk Tryd.prog c260 := okOf fun W => by kernel_rfl
theorem ok_c261 : OrcOk Tryd.prog c261 := okOf fun W => by kernel_rfl
theorem ok_c262 : OrcOk Tryd.prog c262 := okOf fun W => by kernel_rfl
theorem ok_c263 : OrcOk Tryd.prog c263 := okOf fun W => by kernel_rfl
theorem ok_c264 : OrcOk Tryd.prog c264 := okOf fun W => by kernel_rfl
end Go.Proofs.YtncibghfgdldoaaDoor.linkOthers
