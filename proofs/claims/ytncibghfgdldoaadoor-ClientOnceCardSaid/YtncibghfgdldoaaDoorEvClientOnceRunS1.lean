/- ClientOnce: the evaluator's answers, by the kernel. -/
import Derived.Test.YtncibghfgdldoaaDoorEvClientOnceRun
import Derived.KernelRfl
namespace Go.Proofs.YtncibghfgdldoaaDoor.clientOnce
open Go.YtncibghfgdldoaaDoorEv
set_option maxRecDepth 100000
theorem s180 (m2 : Nat) : tst [.int .i64 (.ofNat 4), .int .i64 (.ofNat 1), .int .i64 (.negSucc m2)] = true := by kernel_rfl
theorem s181 (m2 : Nat) : tst [.int .i64 (.ofNat 4), .int .i64 (.ofNat 1), .int .i64 (.ofNat (m2 + 6))] = true := by kernel_rfl
theorem s182 (m2 : Nat) : tst [.int .i64 (.ofNat 4), .int .i64 (.ofNat 2), .int .i64 (.negSucc m2)] = true := by kernel_rfl
theorem s183 (m2 : Nat) : tst [.int .i64 (.ofNat 4), .int .i64 (.ofNat 2), .int .i64 (.ofNat (m2 + 6))] = true := by kernel_rfl
theorem s184 (m2 : Nat) : tst [.int .i64 (.ofNat 4), .int .i64 (.ofNat 3), .int .i64 (.negSucc m2)] = true := by kernel_rfl
theorem s185 (m2 : Nat) : tst [.int .i64 (.ofNat 4), .int .i64 (.ofNat 3), .int .i64 (.ofNat (m2 + 6))] = true := by kernel_rfl
theorem s186 (m2 : Nat) : tst [.int .i64 (.ofNat 4), .int .i64 (.ofNat 4), .int .i64 (.negSucc m2)] = true := by kernel_rfl
theorem s187 (m2 : Nat) : tst [.int .i64 (.ofNat 4), .int .i64 (.ofNat 4), .int .i64 (.ofNat (m2 + 6))] = true := by kernel_rfl
theorem s188 (m2 : Nat) : tst [.int .i64 (.ofNat 4), .int .i64 (.ofNat 5), .int .i64 (.negSucc m2)] = true := by kernel_rfl
theorem s189 (m2 : Nat) : tst [.int .i64 (.ofNat 4), .int .i64 (.ofNat 5), .int .i64 (.ofNat (m2 + 6))] = true := by kernel_rfl
theorem s190 (m2 : Nat) : tst [.int .i64 (.ofNat 4), .int .i64 (.ofNat 6), .int .i64 (.negSucc m2)] = true := by kernel_rfl
theorem s191 (m2 : Nat) : tst [.int .i64 (.ofNat 4), .int .i64 (.ofNat 6), .int .i64 (.ofNat (m2 + 6))] = true := by kernel_rfl
theorem s192 (m2 : Nat) : tst [.int .i64 (.ofNat 4), .int .i64 (.ofNat 7), .int .i64 (.negSucc m2)] = true := by kernel_rfl
theorem s193 (m2 : Nat) : tst [.int .i64 (.ofNat 4), .int .i64 (.ofNat 7), .int .i64 (.ofNat (m2 + 6))] = true := by kernel_rfl
theorem s194 (m2 : Nat) : tst [.int .i64 (.ofNat 4), .int .i64 (.ofNat 8), .int .i64 (.negSucc m2)] = true := by kernel_rfl
theorem s195 (m2 : Nat) : tst [.int .i64 (.ofNat 4), .int .i64 (.ofNat 8), .int .i64 (.ofNat (m2 + 6))] = true := by kernel_rfl
theorem s196 (m2 : Nat) : tst [.int .i64 (.ofNat 4), .int .i64 (.ofNat 9), .int .i64 (.negSucc m2)] = true := by kernel_rfl
theorem s197 (m2 : Nat) : tst [.int .i64 (.ofNat 4), .int .i64 (.ofNat 9), .int .i64 (.ofNat (m2 + 6))] = true := by kernel_rfl
theorem s198 (m2 : Nat) : tst [.int .i64 (.ofNat 4), .int .i64 (.ofNat 10), .int .i64 (.negSucc m2)] = true := by kernel_rfl
theorem s199 (m2 : Nat) : tst [.int .i64 (.ofNat 4), .int .i64 (.ofNat 10), .int .i64 (.ofNat (m2 + 6))] = true := by kernel_rfl
theorem s200 (m2 : Nat) : tst [.int .i64 (.ofNat 4), .int .i64 (.ofNat 11), .int .i64 (.negSucc m2)] = true := by kernel_rfl
theorem s201 (m2 : Nat) : tst [.int .i64 (.ofNat 4), .int .i64 (.ofNat 11), .int .i64 (.ofNat (m2 + 6))] = true := by kernel_rfl
theorem s202 (m2 : Nat) : tst [.int .i64 (.ofNat 4), .int .i64 (.ofNat 12), .int .i64 (.negSucc m2)] = true := by kernel_rfl
theorem s203 (m2 : Nat) : tst [.int .i64 (.ofNat 4), .int .i64 (.ofNat 12), .int .i64 (.ofNat (m2 + 6))] = true := by kernel_rfl
theorem s204 (m2 : Nat) : tst [.int .i64 (.ofNat 4), .int .i64 (.ofNat 13), .int .i64 (.negSucc m2)] = true := by kernel_rfl
theorem s205 (m2 : Nat) : tst [.int .i64 (.ofNat 4), .int .i64 (.ofNat 13), .int .i64 (.ofNat (m2 + 6))] = true := by kernel_rfl
theorem s206 (m2 : Nat) : tst [.int .i64 (.ofNat 4), .int .i64 (.ofNat 14), .int .i64 (.negSucc m2)] = true := by kernel_rfl
theorem s207 (m2 : Nat) : tst [.int .i64 (.ofNat 4), .int .i64 (.ofNat 14), .int .i64 (.ofNat (m2 + 6))] = true := by kernel_rfl
theorem s208 (m2 : Nat) : tst [.int .i64 (.ofNat 4), .int .i64 (.ofNat 15), .int .i64 (.negSucc m2)] = true := by kernel_rfl
theorem s209 (m2 : Nat) : tst [.int .i64 (.ofNat 4), .int .i64 (.ofNat 15), .int .i64 (.ofNat (m2 + 6))] = true := by kernel_rfl
theorem s210 (m2 : Nat) : tst [.int .i64 (.ofNat 4), .int .i64 (.ofNat 16), .int .i64 (.negSucc m2)] = true := by kernel_rfl
theorem s211 (m2 : Nat) : tst [.int .i64 (.ofNat 4), .int .i64 (.ofNat 16), .int .i64 (.ofNat (m2 + 6))] = true := by kernel_rfl
theorem s212 (m2 : Nat) : tst [.int .i64 (.ofNat 4), .int .i64 (.ofNat 17), .int .i64 (.negSucc m2)] = true := by kernel_rfl
theorem s213 (m2 : Nat) : tst [.int .i64 (.ofNat 4), .int .i64 (.ofNat 17), .int .i64 (.ofNat (m2 + 6))] = true := by kernel_rfl
theorem s214 (m2 : Nat) : tst [.int .i64 (.ofNat 4), .int .i64 (.ofNat 18), .int .i64 (.negSucc m2)] = true := by kernel_rfl
theorem s215 (m2 : Nat) : tst [.int .i64 (.ofNat 4), .int .i64 (.ofNat 18), .int .i64 (.ofNat (m2 + 6))] = true := by kernel_rfl
theorem s216 (m2 : Nat) : tst [.int .i64 (.ofNat 4), .int .i64 (.ofNat 19), .int .i64 (.negSucc m2)] = true := by kernel_rfl
theorem s217 (m2 : Nat) : tst [.int .i64 (.ofNat 4), .int .i64 (.ofNat 19), .int .i64 (.ofNat (m2 + 6))] = true := by kernel_rfl
theorem s218 (m2 : Nat) : tst [.int .i64 (.ofNat 4), .int .i64 (.ofNat 20), .int .i64 (.negSucc m2)] = true := by kernel_rfl
theorem s219 (m2 : Nat) : tst [.int .i64 (.ofNat 4), .int .i64 (.ofNat 20), .int .i64 (.ofNat (m2 + 6))] = true := by kernel_rfl
theorem s220 (m1 : Nat) (a2 : Int) : tst [.int .i64 (.ofNat 4), .int .i64 (.ofNat (m1 + 21)), .int .i64 a2] = true := by kernel_rfl
theorem s221 (m1 : Nat) (a2 : Int) : tst [.int .i64 (.ofNat 5), .int .i64 (.negSucc m1), .int .i64 a2] = true := by kernel_rfl
theorem s222 (m2 : Nat) : tst [.int .i64 (.ofNat 5), .int .i64 (.ofNat 0), .int .i64 (.negSucc m2)] = true := by kernel_rfl
theorem s223 (m2 : Nat) : tst [.int .i64 (.ofNat 5), .int .i64 (.ofNat 0), .int .i64 (.ofNat (m2 + 6))] = true := by kernel_rfl
theorem s224 (m2 : Nat) : tst [.int .i64 (.ofNat 5), .int .i64 (.ofNat 1), .int .i64 (.negSucc m2)] = true := by kernel_rfl
theorem s225 (m2 : Nat) : tst [.int .i64 (.ofNat 5), .int .i64 (.ofNat 1), .int .i64 (.ofNat (m2 + 6))] = true := by kernel_rfl
theorem s226 (m2 : Nat) : tst [.int .i64 (.ofNat 5), .int .i64 (.ofNat 2), .int .i64 (.negSucc m2)] = true := by kernel_rfl
theorem s227 (m2 : Nat) : tst [.int .i64 (.ofNat 5), .int .i64 (.ofNat 2), .int .i64 (.ofNat (m2 + 6))] = true := by kernel_rfl
theorem s228 (m2 : Nat) : tst [.int .i64 (.ofNat 5), .int .i64 (.ofNat 3), .int .i64 (.negSucc m2)] = true := by kernel_rfl
theorem s229 (m2 : Nat) : tst [.int .i64 (.ofNat 5), .int .i64 (.ofNat 3), .int .i64 (.ofNat (m2 + 6))] = true := by kernel_rfl
theorem s230 (m2 : Nat) : tst [.int .i64 (.ofNat 5), .int .i64 (.ofNat 4), .int .i64 (.negSucc m2)] = true := by kernel_rfl
theorem s231 (m2 : Nat) : tst [.int .i64 (.ofNat 5), .int .i64 (.ofNat 4), .int .i64 (.ofNat (m2 + 6))] = true := by kernel_rfl
theorem s232 (m2 : Nat) : tst [.int .i64 (.ofNat 5), .int .i64 (.ofNat 5), .int .i64 (.negSucc m2)] = true := by kernel_rfl
theorem s233 (m2 : Nat) : tst [.int .i64 (.ofNat 5), .int .i64 (.ofNat 5), .int .i64 (.ofNat (m2 + 6))] = true := by kernel_rfl
theorem s234 (m2 : Nat) : tst [.int .i64 (.ofNat 5), .int .i64 (.ofNat 6), .int .i64 (.negSucc m2)] = true := by kernel_rfl
theorem s235 (m2 : Nat) : tst [.int .i64 (.ofNat 5), .int .i64 (.ofNat 6), .int .i64 (.ofNat (m2 + 6))] = true := by kernel_rfl
theorem s236 (m2 : Nat) : tst [.int .i64 (.ofNat 5), .int .i64 (.ofNat 7), .int .i64 (.negSucc m2)] = true := by kernel_rfl
theorem s237 (m2 : Nat) : tst [.int .i64 (.ofNat 5), .int .i64 (.ofNat 7), .int .i64 (.ofNat (m2 + 6))] = true := by kernel_rfl
theorem s238 (m2 : Nat) : tst [.int .i64 (.ofNat 5), .int .i64 (.ofNat 8), .int .i64 (.negSucc m2)] = true := by kernel_rfl
theorem s239 (m2 : Nat) : tst [.int .i64 (.ofNat 5), .int .i64 (.ofNat 8), .int .i64 (.ofNat (m2 + 6))] = true := by kernel_rfl
theorem s240 (m2 : Nat) : tst [.int .i64 (.ofNat 5), .int .i64 (.ofNat 9), .int .i64 (.negSucc m2)] = true := by kernel_rfl
theorem s241 (m2 : Nat) : tst [.int .i64 (.ofNat 5), .int .i64 (.ofNat 9), .int .i64 (.ofNat (m2 + 6))] = true := by kernel_rfl
theorem s242 (m2 : Nat) : tst [.int .i64 (.ofNat 5), .int .i64 (.ofNat 10), .int .i64 (.negSucc m2)] = true := by kernel_rfl
theorem s243 (m2 : Nat) : tst [.int .i64 (.ofNat 5), .int .i64 (.ofNat 10), .int .i64 (.ofNat (m2 + 6))] = true := by kernel_rfl
theorem s244 (m2 : Nat) : tst [.int .i64 (.ofNat 5), .int .i64 (.ofNat 11), .int .i64 (.negSucc m2)] = true := by kernel_rfl
theorem s245 (m2 : Nat) : tst [.int .i64 (.ofNat 5), .int .i64 (.ofNat 11), .int .i64 (.ofNat (m2 + 6))] = true := by kernel_rfl
theorem s246 (m2 : Nat) : tst [.int .i64 (.ofNat 5), .int .i64 (.ofNat 12), .int .i64 (.negSucc m2)] = true := by kernel_rfl
theorem s247 (m2 : Nat) : tst [.int .i64 (.ofNat 5), .int .i64 (.ofNat 12), .int .i64 (.ofNat (m2 + 6))] = true := by kernel_rfl
theorem s248 (m2 : Nat) : tst [.int .i64 (.ofNat 5), .int .i64 (.ofNat 13), .int .i64 (.negSucc m2)] = true := by kernel_rfl
theorem s249 (m2 : Nat) : tst [.int .i64 (.ofNat 5), .int .i64 (.ofNat 13), .int .i64 (.ofNat (m2 + 6))] = true := by kernel_rfl
theorem s250 (m2 : Nat) : tst [.int .i64 (.ofNat 5), .int .i64 (.ofNat 14), .int .i64 (.negSucc m2)] = true := by kernel_rfl
theorem s251 (m2 : Nat) : tst [.int .i64 (.ofNat 5), .int .i64 (.ofNat 14), .int .i64 (.ofNat (m2 + 6))] = true := by kernel_rfl
theorem s252 (m2 : Nat) : tst [.int .i64 (.ofNat 5), .int .i64 (.ofNat 15), .int .i64 (.negSucc m2)] = true := by kernel_rfl
theorem s253 (m2 : Nat) : tst [.int .i64 (.ofNat 5), .int .i64 (.ofNat 15), .int .i64 (.ofNat (m2 + 6))] = true := by kernel_rfl
theorem s254 (m2 : Nat) : tst [.int .i64 (.ofNat 5), .int .i64 (.ofNat 16), .int .i64 (.negSucc m2)] = true := by kernel_rfl
theorem s255 (m2 : Nat) : tst [.int .i64 (.ofNat 5), .int .i64 (.ofNat 16), .int .i64 (.ofNat (m2 + 6))] = true := by kernel_rfl
theorem s256 (m2 : Nat) : tst [.int .i64 (.ofNat 5), .int .i64 (.ofNat 17), .int .i64 (.negSucc m2)] = true := by kernel_rfl
theorem s257 (m2 : Nat) : tst [.int .i64 (.ofNat 5), .int .i64 (.ofNat 17), .int .i64 (.ofNat (m2 + 6))] = true := by kernel_rfl
theorem s258 (m2 : Nat) : tst [.int .i64 (.ofNat 5), .int .i64 (.ofNat 18), .int .i64 (.negSucc m2)] = true := by kernel_rfl
theorem s259 (m2 : Nat) : tst [.int .i64 (.ofNat 5), .int .i64 (.ofNat 18), .int .i64 (.ofNat (m2 + 6))] = true := by kernel_rfl
theorem s260 (m2 : Nat) : tst [.int .i64 (.ofNat 5), .int .i64 (.ofNat 19), .int .i64 (.negSucc m2)] = true := by kernel_rfl
theorem s261 (m2 : Nat) : tst [.int .i64 (.ofNat 5), .int .i64 (.ofNat 19), .int .i64 (.ofNat (m2 + 6))] = true := by kernel_rfl
theorem s262 (m2 : Nat) : tst [.int .i64 (.ofNat 5), .int .i64 (.ofNat 20), .int .i64 (.negSucc m2)] = true := by kernel_rfl
theorem s263 (m2 : Nat) : tst [.int .i64 (.ofNat 5), .int .i64 (.ofNat 20), .int .i64 (.ofNat (m2 + 6))] = true := by kernel_rfl
theorem s264 (m1 : Nat) (a2 : Int) : tst [.int .i64 (.ofNat 5), .int .i64 (.ofNat (m1 + 21)), .int .i64 a2] = true := by kernel_rfl
theorem s265 (m1 : Nat) (a2 : Int) : tst [.int .i64 (.ofNat 6), .int .i64 (.negSucc m1), .int .i64 a2] = true := by kernel_rfl
theorem s266 (m2 : Nat) : tst [.int .i64 (.ofNat 6), .int .i64 (.ofNat 0), .int .i64 (.negSucc m2)] = true := by kernel_rfl
theorem s267 (m2 : Nat) : tst [.int .i64 (.ofNat 6), .int .i64 (.ofNat 0), .int .i64 (.ofNat (m2 + 6))] = true := by kernel_rfl
theorem s268 (m2 : Nat) : tst [.int .i64 (.ofNat 6), .int .i64 (.ofNat 1), .int .i64 (.negSucc m2)] = true := by kernel_rfl
theorem s269 (m2 : Nat) : tst [.int .i64 (.ofNat 6), .int .i64 (.ofNat 1), .int .i64 (.ofNat (m2 + 6))] = true := by kernel_rfl
theorem s270 (m2 : Nat) : tst [.int .i64 (.ofNat 6), .int .i64 (.ofNat 2), .int .i64 (.negSucc m2)] = true := by kernel_rfl
theorem s271 (m2 : Nat) : tst [.int .i64 (.ofNat 6), .int .i64 (.ofNat 2), .int .i64 (.ofNat (m2 + 6))] = true := by kernel_rfl
theorem s272 (m2 : Nat) : tst [.int .i64 (.ofNat 6), .int .i64 (.ofNat 3), .int .i64 (.negSucc m2)] = true := by kernel_rfl
theorem s273 (m2 : Nat) : tst [.int .i64 (.ofNat 6), .int .i64 (.ofNat 3), .int .i64 (.ofNat (m2 + 6))] = true := by kernel_rfl
theorem s274 (m2 : Nat) : tst [.int .i64 (.ofNat 6), .int .i64 (.ofNat 4), .int .i64 (.negSucc m2)] = true := by kernel_rfl
theorem s275 (m2 : Nat) : tst [.int .i64 (.ofNat 6), .int .i64 (.ofNat 4), .int .i64 (.ofNat (m2 + 6))] = true := by kernel_rfl
theorem s276 (m2 : Nat) : tst [.int .i64 (.ofNat 6), .int .i64 (.ofNat 5), .int .i64 (.negSucc m2)] = true := by kernel_rfl
theorem s277 (m2 : Nat) : tst [.int .i64 (.ofNat 6), .int .i64 (.ofNat 5), .int .i64 (.ofNat (m2 + 6))] = true := by kernel_rfl
theorem s278 (m2 : Nat) : tst [.int .i64 (.ofNat 6), .int .i64 (.ofNat 6), .int .i64 (.negSucc m2)] = true := by kernel_rfl
theorem s279 (m2 : Nat) : tst [.int .i64 (.ofNat 6), .int .i64 (.ofNat 6), .int .i64 (.ofNat (m2 + 6))] = true := by kernel_rfl
theorem s280 (m2 : Nat) : tst [.int .i64 (.ofNat 6), .int .i64 (.ofNat 7), .int .i64 (.negSucc m2)] = true := by kernel_rfl
theorem s281 (m2 : Nat) : tst [.int .i64 (.ofNat 6), .int .i64 (.ofNat 7), .int .i64 (.ofNat (m2 + 6))] = true := by kernel_rfl
theorem s282 (m2 : Nat) : tst [.int .i64 (.ofNat 6), .int .i64 (.ofNat 8), .int .i64 (.negSucc m2)] = true := by kernel_rfl
theorem s283 (m2 : Nat) : tst [.int .i64 (.ofNat 6), .int .i64 (.ofNat 8), .int .i64 (.ofNat (m2 + 6))] = true := by kernel_rfl
theorem s284 (m2 : Nat) : tst [.int .i64 (.ofNat 6), .int .i64 (.ofNat 9), .int .i64 (.negSucc m2)] = true := by kernel_rfl
theorem s285 (m2 : Nat) : tst [.int .i64 (.ofNat 6), .int .i64 (.ofNat 9), .int .i64 (.ofNat (m2 + 6))] = true := by kernel_rfl
theorem s286 (m2 : Nat) : tst [.int .i64 (.ofNat 6), .int .i64 (.ofNat 10), .int .i64 (.negSucc m2)] = true := by kernel_rfl
theorem s287 (m2 : Nat) : tst [.int .i64 (.ofNat 6), .int .i64 (.ofNat 10), .int .i64 (.ofNat (m2 + 6))] = true := by kernel_rfl
theorem s288 (m2 : Nat) : tst [.int .i64 (.ofNat 6), .int .i64 (.ofNat 11), .int .i64 (.negSucc m2)] = true := by kernel_rfl
theorem s289 (m2 : Nat) : tst [.int .i64 (.ofNat 6), .int .i64 (.ofNat 11), .int .i64 (.ofNat (m2 + 6))] = true := by kernel_rfl
theorem s290 (m2 : Nat) : tst [.int .i64 (.ofNat 6), .int .i64 (.ofNat 12), .int .i64 (.negSucc m2)] = true := by kernel_rfl
theorem s291 (m2 : Nat) : tst [.int .i64 (.ofNat 6), .int .i64 (.ofNat 12), .int .i64 (.ofNat (m2 + 6))] = true := by kernel_rfl
theorem s292 (m2 : Nat) : tst [.int .i64 (.ofNat 6), .int .i64 (.ofNat 13), .int .i64 (.negSucc m2)] = true := by kernel_rfl
theorem s293 (m2 : Nat) : tst [.int .i64 (.ofNat 6), .int .i64 (.ofNat 13), .int .i64 (.ofNat (m2 + 6))] = true := by kernel_rfl
theorem s294 (m2 : Nat) : tst [.int .i64 (.ofNat 6), .int .i64 (.ofNat 14), .int .i64 (.negSucc m2)] = true := by kernel_rfl
theorem s295 (m2 : Nat) : tst [.int .i64 (.ofNat 6), .int .i64 (.ofNat 14), .int .i64 (.ofNat (m2 + 6))] = true := by kernel_rfl
theorem s296 (m2 : Nat) : tst [.int .i64 (.ofNat 6), .int .i64 (.ofNat 15), .int .i64 (.negSucc m2)] = true := by kernel_rfl
theorem s297 (m2 : Nat) : tst [.int .i64 (.ofNat 6), .int .i64 (.ofNat 15), .int .i64 (.ofNat (m2 + 6))] = true := by kernel_rfl
theorem s298 (m2 : Nat) : tst [.int .i64 (.ofNat 6), .int .i64 (.ofNat 16), .int .i64 (.negSucc m2)] = true := by kernel_rfl
theorem s299 (m2 : Nat) : tst [.int .i64 (.ofNat 6), .int .i64 (.ofNat 16), .int .i64 (.ofNat (m2 + 6))] = true := by kernel_rfl
theorem s300 (m2 : Nat) : tst [.int .i64 (.ofNat 6), .int .i64 (.ofNat 17), .int .i64 (.negSucc m2)] = true := by kernel_rfl
theorem s301 (m2 : Nat) : tst [.int .i64 (.ofNat 6), .int .i64 (.ofNat 17), .int .i64 (.ofNat (m2 + 6))] = true := by kernel_rfl
theorem s302 (m2 : Nat) : tst [.int .i64 (.ofNat 6), .int .i64 (.ofNat 18), .int .i64 (.negSucc m2)] = true := by kernel_rfl
theorem s303 (m2 : Nat) : tst [.int .i64 (.ofNat 6), .int .i64 (.ofNat 18), .int .i64 (.ofNat (m2 + 6))] = true := by kernel_rfl
theorem s304 (m2 : Nat) : tst [.int .i64 (.ofNat 6), .int .i64 (.ofNat 19), .int .i64 (.negSucc m2)] = true := by kernel_rfl
theorem s305 (m2 : Nat) : tst [.int .i64 (.ofNat 6), .int .i64 (.ofNat 19), .int .i64 (.ofNat (m2 + 6))] = true := by kernel_rfl
theorem s306 (m2 : Nat) : tst [.int .i64 (.ofNat 6), .int .i64 (.ofNat 20), .int .i64 (.negSucc m2)] = true := by kernel_rfl
theorem s307 (m2 : Nat) : tst [.int .i64 (.ofNat 6), .int .i64 (.ofNat 20), .int .i64 (.ofNat (m2 + 6))] = true := by kernel_rfl
theorem s308 (m1 : Nat) (a2 : Int) : tst [.int .i64 (.ofNat 6), .int .i64 (.ofNat (m1 + 21)), .int .i64 a2] = true := by kernel_rfl
theorem s309 (m1 : Nat) (a2 : Int) : tst [.int .i64 (.ofNat 7), .int .i64 (.negSucc m1), .int .i64 a2] = true := by kernel_rfl
theorem s310 (m2 : Nat) : tst [.int .i64 (.ofNat 7), .int .i64 (.ofNat 0), .int .i64 (.negSucc m2)] = true := by kernel_rfl
theorem s311 (m2 : Nat) : tst [.int .i64 (.ofNat 7), .int .i64 (.ofNat 0), .int .i64 (.ofNat (m2 + 6))] = true := by kernel_rfl
theorem s312 (m2 : Nat) : tst [.int .i64 (.ofNat 7), .int .i64 (.ofNat 1), .int .i64 (.negSucc m2)] = true := by kernel_rfl
theorem s313 (m2 : Nat) : tst [.int .i64 (.ofNat 7), .int .i64 (.ofNat 1), .int .i64 (.ofNat (m2 + 6))] = true := by kernel_rfl
theorem s314 (m2 : Nat) : tst [.int .i64 (.ofNat 7), .int .i64 (.ofNat 2), .int .i64 (.negSucc m2)] = true := by kernel_rfl
theorem s315 (m2 : Nat) : tst [.int .i64 (.ofNat 7), .int .i64 (.ofNat 2), .int .i64 (.ofNat (m2 + 6))] = true := by kernel_rfl
theorem s316 (m2 : Nat) : tst [.int .i64 (.ofNat 7), .int .i64 (.ofNat 3), .int .i64 (.negSucc m2)] = true := by kernel_rfl
theorem s317 (m2 : Nat) : tst [.int .i64 (.ofNat 7), .int .i64 (.ofNat 3), .int .i64 (.ofNat (m2 + 6))] = true := by kernel_rfl
theorem s318 (m2 : Nat) : tst [.int .i64 (.ofNat 7), .int .i64 (.ofNat 4), .int .i64 (.negSucc m2)] = true := by kernel_rfl
theorem s319 (m2 : Nat) : tst [.int .i64 (.ofNat 7), .int .i64 (.ofNat 4), .int .i64 (.ofNat (m2 + 6))] = true := by kernel_rfl
theorem s320 (m2 : Nat) : tst [.int .i64 (.ofNat 7), .int .i64 (.ofNat 5), .int .i64 (.negSucc m2)] = true := by kernel_rfl
theorem s321 (m2 : Nat) : tst [.int .i64 (.ofNat 7), .int .i64 (.ofNat 5), .int .i64 (.ofNat (m2 + 6))] = true := by kernel_rfl
theorem s322 (m2 : Nat) : tst [.int .i64 (.ofNat 7), .int .i64 (.ofNat 6), .int .i64 (.negSucc m2)] = true := by kernel_rfl
theorem s323 (m2 : Nat) : tst [.int .i64 (.ofNat 7), .int .i64 (.ofNat 6), .int .i64 (.ofNat (m2 + 6))] = true := by kernel_rfl
theorem s324 (m2 : Nat) : tst [.int .i64 (.ofNat 7), .int .i64 (.ofNat 7), .int .i64 (.negSucc m2)] = true := by kernel_rfl
theorem s325 (m2 : Nat) : tst [.int .i64 (.ofNat 7), .int .i64 (.ofNat 7), .int .i64 (.ofNat (m2 + 6))] = true := by kernel_rfl
theorem s326 (m2 : Nat) : tst [.int .i64 (.ofNat 7), .int .i64 (.ofNat 8), .int .i64 (.negSucc m2)] = true := by kernel_rfl
theorem s327 (m2 : Nat) : tst [.int .i64 (.ofNat 7), .int .i64 (.ofNat 8), .int .i64 (.ofNat (m2 + 6))] = true := by kernel_rfl
theorem s328 (m2 : Nat) : tst [.int .i64 (.ofNat 7), .int .i64 (.ofNat 9), .int .i64 (.negSucc m2)] = true := by kernel_rfl
theorem s329 (m2 : Nat) : tst [.int .i64 (.ofNat 7), .int .i64 (.ofNat 9), .int .i64 (.ofNat (m2 + 6))] = true := by kernel_rfl
theorem s330 (m2 : Nat) : tst [.int .i64 (.ofNat 7), .int .i64 (.ofNat 10), .int .i64 (.negSucc m2)] = true := by kernel_rfl
theorem s331 (m2 : Nat) : tst [.int .i64 (.ofNat 7), .int .i64 (.ofNat 10), .int .i64 (.ofNat (m2 + 6))] = true := by kernel_rfl
theorem s332 (m2 : Nat) : tst [.int .i64 (.ofNat 7), .int .i64 (.ofNat 11), .int .i64 (.negSucc m2)] = true := by kernel_rfl
theorem s333 (m2 : Nat) : tst [.int .i64 (.ofNat 7), .int .i64 (.ofNat 11), .int .i64 (.ofNat (m2 + 6))] = true := by kernel_rfl
theorem s334 (m2 : Nat) : tst [.int .i64 (.ofNat 7), .int .i64 (.ofNat 12), .int .i64 (.negSucc m2)] = true := by kernel_rfl
theorem s335 (m2 : Nat) : tst [.int .i64 (.ofNat 7), .int .i64 (.ofNat 12), .int .i64 (.ofNat (m2 + 6))] = true := by kernel_rfl
theorem s336 (m2 : Nat) : tst [.int .i64 (.ofNat 7), .int .i64 (.ofNat 13), .int .i64 (.negSucc m2)] = true := by kernel_rfl
theorem s337 (m2 : Nat) : tst [.int .i64 (.ofNat 7), .int .i64 (.ofNat 13), .int .i64 (.ofNat (m2 + 6))] = true := by kernel_rfl
theorem s338 (m2 : Nat) : tst [.int .i64 (.ofNat 7), .int .i64 (.ofNat 14), .int .i64 (.negSucc m2)] = true := by kernel_rfl
theorem s339 (m2 : Nat) : tst [.int .i64 (.ofNat 7), .int .i64 (.ofNat 14), .int .i64 (.ofNat (m2 + 6))] = true := by kernel_rfl
theorem s340 (m2 : Nat) : tst [.int .i64 (.ofNat 7), .int .i64 (.ofNat 15), .int .i64 (.negSucc m2)] = true := by kernel_rfl
theorem s341 (m2 : Nat) : tst [.int .i64 (.ofNat 7), .int .i64 (.ofNat 15), .int .i64 (.ofNat (m2 + 6))] = true := by kernel_rfl
theorem s342 (m2 : Nat) : tst [.int .i64 (.ofNat 7), .int .i64 (.ofNat 16), .int .i64 (.negSucc m2)] = true := by kernel_rfl
theorem s343 (m2 : Nat) : tst [.int .i64 (.ofNat 7), .int .i64 (.ofNat 16), .int .i64 (.ofNat (m2 + 6))] = true := by kernel_rfl
theorem s344 (m2 : Nat) : tst [.int .i64 (.ofNat 7), .int .i64 (.ofNat 17), .int .i64 (.negSucc m2)] = true := by kernel_rfl
theorem s345 (m2 : Nat) : tst [.int .i64 (.ofNat 7), .int .i64 (.ofNat 17), .int .i64 (.ofNat (m2 + 6))] = true := by kernel_rfl
theorem s346 (m2 : Nat) : tst [.int .i64 (.ofNat 7), .int .i64 (.ofNat 18), .int .i64 (.negSucc m2)] = true := by kernel_rfl
theorem s347 (m2 : Nat) : tst [.int .i64 (.ofNat 7), .int .i64 (.ofNat 18), .int .i64 (.ofNat (m2 + 6))] = true := by kernel_rfl
theorem s348 (m2 : Nat) : tst [.int .i64 (.ofNat 7), .int .i64 (.ofNat 19), .int .i64 (.negSucc m2)] = true := by kernel_rfl
theorem s349 (m2 : Nat) : tst [.int .i64 (.ofNat 7), .int .i64 (.ofNat 19), .int .i64 (.ofNat (m2 + 6))] = true := by kernel_rfl
theorem s350 (m2 : Nat) : tst [.int .i64 (.ofNat 7), .int .i64 (.ofNat 20), .int .i64 (.negSucc m2)] = true := by kernel_rfl
theorem s351 (m2 : Nat) : tst [.int .i64 (.ofNat 7), .int .i64 (.ofNat 20), .int .i64 (.ofNat (m2 + 6))] = true := by kernel_rfl
theorem s352 (m1 : Nat) (a2 : Int) : tst [.int .i64 (.ofNat 7), .int .i64 (.ofNat (m1 + 21)), .int .i64 a2] = true := by kernel_rfl
theorem s353 (m1 : Nat) (a2 : Int) : tst [.int .i64 (.ofNat 8), .int .i64 (.negSucc m1), .int .i64 a2] = true := by kernel_rfl
theorem s354 (m2 : Nat) : tst [.int .i64 (.ofNat 8), .int .i64 (.ofNat 0), .int .i64 (.negSucc m2)] = true := by kernel_rfl
theorem s355 (m2 : Nat) : tst [.int .i64 (.ofNat 8), .int .i64 (.ofNat 0), .int .i64 (.ofNat (m2 + 6))] = true := by kernel_rfl
theorem s356 (m2 : Nat) : tst [.int .i64 (.ofNat 8), .int .i64 (.ofNat 1), .int .i64 (.negSucc m2)] = true := by kernel_rfl
theorem s357 (m2 : Nat) : tst [.int .i64 (.ofNat 8), .int .i64 (.ofNat 1), .int .i64 (.ofNat (m2 + 6))] = true := by kernel_rfl
theorem s358 (m2 : Nat) : tst [.int .i64 (.ofNat 8), .int .i64 (.ofNat 2), .int .i64 (.negSucc m2)] = true := by kernel_rfl
theorem s359 (m2 : Nat) : tst [.int .i64 (.ofNat 8), .int .i64 (.ofNat 2), .int .i64 (.ofNat (m2 + 6))] = true := by kernel_rfl
end Go.Proofs.YtncibghfgdldoaaDoor.clientOnce
