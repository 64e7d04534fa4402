/- The gradient of nets with three hidden units. -/
import Derived.Test.YtffopeihcebpjaaGreatME
set_option linter.unusedVariables false
set_option linter.unusedSimpArgs false
set_option maxRecDepth 100000
set_option maxHeartbeats 40000000
namespace Go.Proofs.YtffopeihcebpjaaGreat.X
open Go
theorem grad13 (w0 w1 w2 w3 w4 w5 w6 w7 w8 w9 x0 y : Int) (h1 : pFits 1 3 [w0, w1, w2, w3, w4, w5, w6, w7, w8, w9] = true) (h2 : pInputs 1 [x0] = true) (h3 : pFix y = true) :
    deepB Tryz.prog (GC L13) 99 1 9 22 [.ag [dn 1, dn 3], .sl 1 (elR [w0, w1, w2, w3, w4, w5, w6, w7, w8, w9]), .ag [.sl 1 (elR [x0]), dn y]] = some (.tu [.sl 1 (elR (pGrad 1 3 [w0, w1, w2, w3, w4, w5, w6, w7, w8, w9] [x0] y)), dn 0]) := by
  simp -implicitDefEqProofs (maxSteps := 10000000) [cb22, p22_0, p22_1, p22_2, p22_3, p22_4, k_loop, loop_s, mk_1, mk_2, mk_3, slice_27, cb Tryz.func67, Tryz.f67, cb Tryz.func132, Tryz.f132, cb Tryz.func69, Tryz.f69, cb Tryz.func70, Tryz.f70, K133, K68, K73, seqHead, dropSeq, Tryz.f22, cb Tryz.func65, Tryz.f65, lk13, lk12, lk11, lk10, lk9, lk8, lk7, lk6, lk5, lk4, lk3, lk2, K130, K131, K66, h1, h2, h3]
  kernel_rfl
theorem grad23 (w0 w1 w2 w3 w4 w5 w6 w7 w8 w9 w10 w11 w12 x0 x1 y : Int) (h1 : pFits 2 3 [w0, w1, w2, w3, w4, w5, w6, w7, w8, w9, w10, w11, w12] = true) (h2 : pInputs 2 [x0, x1] = true) (h3 : pFix y = true) :
    deepB Tryz.prog (GC L13) 99 1 9 22 [.ag [dn 2, dn 3], .sl 1 (elR [w0, w1, w2, w3, w4, w5, w6, w7, w8, w9, w10, w11, w12]), .ag [.sl 1 (elR [x0, x1]), dn y]] = some (.tu [.sl 1 (elR (pGrad 2 3 [w0, w1, w2, w3, w4, w5, w6, w7, w8, w9, w10, w11, w12] [x0, x1] y)), dn 0]) := by
  simp -implicitDefEqProofs (maxSteps := 10000000) [cb22, p22_0, p22_1, p22_2, p22_3, p22_4, k_loop, loop_s, mk_1, mk_2, mk_3, slice_27, cb Tryz.func67, Tryz.f67, cb Tryz.func132, Tryz.f132, cb Tryz.func69, Tryz.f69, cb Tryz.func70, Tryz.f70, K133, K68, K73, seqHead, dropSeq, Tryz.f22, cb Tryz.func65, Tryz.f65, lk13, lk12, lk11, lk10, lk9, lk8, lk7, lk6, lk5, lk4, lk3, lk2, K130, K131, K66, h1, h2, h3]
  kernel_rfl
theorem grad33 (w0 w1 w2 w3 w4 w5 w6 w7 w8 w9 w10 w11 w12 w13 w14 w15 x0 x1 x2 y : Int) (h1 : pFits 3 3 [w0, w1, w2, w3, w4, w5, w6, w7, w8, w9, w10, w11, w12, w13, w14, w15] = true) (h2 : pInputs 3 [x0, x1, x2] = true) (h3 : pFix y = true) :
    deepB Tryz.prog (GC L13) 99 1 9 22 [.ag [dn 3, dn 3], .sl 1 (elR [w0, w1, w2, w3, w4, w5, w6, w7, w8, w9, w10, w11, w12, w13, w14, w15]), .ag [.sl 1 (elR [x0, x1, x2]), dn y]] = some (.tu [.sl 1 (elR (pGrad 3 3 [w0, w1, w2, w3, w4, w5, w6, w7, w8, w9, w10, w11, w12, w13, w14, w15] [x0, x1, x2] y)), dn 0]) := by
  simp -implicitDefEqProofs (maxSteps := 10000000) [cb22, p22_0, p22_1, p22_2, p22_3, p22_4, k_loop, loop_s, mk_1, mk_2, mk_3, slice_27, cb Tryz.func67, Tryz.f67, cb Tryz.func132, Tryz.f132, cb Tryz.func69, Tryz.f69, cb Tryz.func70, Tryz.f70, K133, K68, K73, seqHead, dropSeq, Tryz.f22, cb Tryz.func65, Tryz.f65, lk13, lk12, lk11, lk10, lk9, lk8, lk7, lk6, lk5, lk4, lk3, lk2, K130, K131, K66, h1, h2, h3]
  kernel_rfl
end Go.Proofs.YtffopeihcebpjaaGreat.X
