/- LinkOthers: pieces of its runs, by the kernel. -/
import Derived.Test.YtncibghfgdldoaaDoorEvLinkOthersLit
import Derived.Test.YtncibghfgdldoaaDoorRows
import Derived.KernelRfl
namespace Go.Proofs.YtncibghfgdldoaaDoor.linkOthers
open Go.YtncibghfgdldoaaDoorEv
set_option maxRecDepth 100000
theorem ok_c265 : OrcOk Tryd.prog c265 := okOf fun W => by kernel_rfl
theorem ok_c266 : OrcOk Tryd.prog c266 := okOf fun W => by kernel_rfl
theorem ok_c267 : OrcOk Tryd.prog c267 := okOf fun W => by kernel_rfl
theorem ok_c268 : OrcOk Tryd.prog c268 := okOf fun W => by kernel_rfl
theorem ok_c269 : OrcOk Tryd.prog c269 := okOf fun W => by kernel_rfl
theorem ok_c270 : OrcOk Tryd.prog c270 := okOf fun W => by kernel_rfl
theorem ok_c271 : OrcOk Tryd.prog c271 := okOf fun W => by kernel_rfl
theorem ok_c272 : OrcOk Tryd.prog c272 := okOf fun W => by kernel_rfl
theorem ok_c273 : OrcOk Tryd.prog c273 := okOf fun W => by kernel_rfl
theorem ok_c274 : OrcOk Tryd.prog c274 := okOf fun W => by kernel_rfl
theorem ok_c275 : OrcOk Tryd.prog c275 := okOf fun W => by kernel_rfl
theorem ok_c276 : OrcOk Tryd.prog c276 := okOf fun W => by kernel_rfl
theorem ok_c277 : OrcOk Tryd.prog c277 := okOf fun W => by kernel_rfl
theorem ok_c278 : OrcOk Tryd.prog c278 := okOf fun W => by kernel_rfl
theorem ok_c279 : OrcOk Tryd.prog c279 := okOf fun W => by kernel_rfl
theorem ok_c280 : OrcOk Tryd.prog c280 := okOf fun W => by kernel_rfl
theorem ok_c281 : OrcOk Tryd.prog c281 := okOf fun W => by kernel_rfl
theorem ok_c282 : OrcOk Tryd.prog c282 := okOf fun W => by kernel_rfl
theorem ok_c283 : OrcOk Tryd.prog c283 := okOf fun W => by kernel_rfl
theorem ok_c284 : OrcOk Tryd.prog c284 := okOf fun W => by kernel_rfl
theorem ok_c285 : OrcOk Tryd.prog c285 := okOf fun W => by kernel_rfl
theorem ok_c286 : OrcOk Tryd.prog c286 := okOf fun W => by kernel_rfl
theorem ok_c287 : OrcOk Tryd.prog c287 := okOf fun W => by kernel_rfl
theorem ok_c288 : OrcOk Tryd.prog c288 := okOf fun W => by kernel_rfl
theorem ok_c289 : OrcOk Tryd.prog c289 := okOf fun W => by kernel_rfl
theorem ok_c290 : OrcOk Tryd.prog c290 := okOf fun W => by kernel_rfl
theorem ok_c291 : OrcOk Tryd.prog c291 := okOf fun W => by kernel_rfl
theorem ok_c292 : OrcOk Tryd.prog c292 := okOf fun W => by kernel_rfl
theorem ok_c293 : OrcOk Tryd.prog c293 := okOf fun W => by kernel_rfl
theorem ok_c294 : OrcOk Tryd.prog c294 := okOf fun W => by kernel_rfl
theorem ok_c295 : OrcOk Tryd.prog c295 := okOf fun W => by kernel_rfl
theorem ok_c296 : OrcOk Tryd.prog c296 := okOf fun W => by kernel_rfl
theorem ok_c297 : OrcOk Tryd.prog c297 := okOf fun W => by kernel_rfl
theorem ok_c298 : OrcOk Tryd.prog c298 := okOf fun W => by kernel_rfl
theorem ok_c299 : OrcOk Tryd.prog c299 := okOf fun W => by kernel_rfl
theorem ok_c300 : OrcOk Tryd.prog c300 := okOf fun W => by kernel_rfl
theorem ok_c301 : OrcOk Tryd.prog c301 := okOf fun W => by kernel_rfl
theorem ok_c302 : OrcOk Tryd.prog c302 := okOf fun W => by kernel_rfl
theorem ok_c303 : OrcOk Tryd.prog c303 := okOf fun W => by kernel_rfl
theorem ok_c304 : OrcOk Tryd.prog c304 := okOf fun W => by kernel_rfl
theorem ok_c305 : OrcOk Tryd.prog c305 := okOf fun W => by kernel_rfl
theorem ok_c306 : OrcOk Tryd.prog c306 := okOf fun W => by kernel_rfl
theorem ok_c307 : OrcOk Tryd.prog c307 := okOf fun W => by kernel_rfl
theorem ok_c308 : OrcOk Tryd.prog c308 := okOf fun W => by kernel_rfl
theorem ok_c309 : OrcOk Tryd.prog c309 := okOf fun W => by kernel_rfl
theorem ok_c310 : OrcOk Tryd.prog c310 := okOf fun W => by kernel_rfl
theorem ok_c311 : OrcOk Tryd.prog c311 := okOf fun W => by kernel_rfl
theorem ok_c312 : OrcOk Tryd.prog c312 := okOf fun W => by kernel_rfl
theorem ok_c313 : OrcOk Tryd.prog c313 := okOf fun W => by kernel_rfl
theorem ok_c314 : OrcOk Tryd.prog c314 := okOf fun W => by kernel_rfl
theorem ok_c315 : OrcOk Tryd.prog c315 := okOf fun W => by kernel_rfl
theorem ok_c316 : OrcOk Tryd.prog c316 := okOf fun W => by kernel_rfl
theorem ok_c317 : OrcOk Tryd.prog c317 := okOf fun W => by kernel_rfl
theorem ok_c318 : OrcOk Tryd.prog c318 := okOf fun W => by kernel_rfl
theorem ok_c319 : OrcOk Tryd.prog c319 := okOf fun W => by kernel_rfl
theorem ok_c320 : OrcOk Tryd.prog c320 := okOf fun W => by kernel_rfl
theorem ok_c321 : OrcOk Tryd.prog c321 := okOf fun W => by kernel_rfl
end Go.Proofs.YtncibghfgdldoaaDoor.linkOthers
