/- The code of each function is what the program's own code becomes, first part. Conditions: none. -/
import Derived.Test.YtpajdajecfjnnaaGreatNilLitsB
import Derived.Test.YtpajdajecfjnnaaGreatProg
import Derived.KernelRfl
set_option autoImplicit false
namespace Go.Ago.Nil
open Go Go.Ago Go.Proofs
theorem c3 : compFunc Tryz.prog true 3 = some f3 := by kernel_rfl
theorem c4 : compFunc Tryz.prog true 4 = some f4 := by kernel_rfl
theorem c5 : compFunc Tryz.prog true 5 = some f5 := by kernel_rfl
theorem c6 : compFunc Tryz.prog true 6 = some f6 := by kernel_rfl
theorem c7 : compFunc Tryz.prog true 7 = some f7 := by kernel_rfl
theorem c8 : compFunc Tryz.prog true 8 = some f8 := by kernel_rfl
theorem c9 : compFunc Tryz.prog true 9 = some f9 := by kernel_rfl
theorem c10 : compFunc Tryz.prog true 10 = some f10 := by kernel_rfl
theorem c11 : compFunc Tryz.prog true 11 = some f11 := by kernel_rfl
theorem c13 : compFunc Tryz.prog true 13 = some f13 := by kernel_rfl
theorem c14 : compFunc Tryz.prog true 14 = some f14 := by kernel_rfl
theorem c15 : compFunc Tryz.prog true 15 = some f15 := by kernel_rfl
theorem c16 : compFunc Tryz.prog true 16 = some f16 := by kernel_rfl
theorem c17 : compFunc Tryz.prog true 17 = some f17 := by kernel_rfl
theorem c18 : compFunc Tryz.prog true 18 = some f18 := by kernel_rfl
theorem c19 : compFunc Tryz.prog true 19 = some f19 := by kernel_rfl
theorem c20 : compFunc Tryz.prog true 20 = some f20 := by kernel_rfl
theorem c21 : compFunc Tryz.prog true 21 = some f21 := by kernel_rfl
theorem c22 : compFunc Tryz.prog true 22 = some f22 := by kernel_rfl
theorem c23 : compFunc Tryz.prog true 23 = some f23 := by kernel_rfl
theorem c24 : compFunc Tryz.prog true 24 = some f24 := by kernel_rfl
theorem c25 : compFunc Tryz.prog true 25 = some f25 := by kernel_rfl
theorem c26 : compFunc Tryz.prog true 26 = some f26 := by kernel_rfl
theorem c27 : compFunc Tryz.prog true 27 = some f27 := by kernel_rfl
theorem c28 : compFunc Tryz.prog true 28 = some f28 := by kernel_rfl
theorem c29 : compFunc Tryz.prog true 29 = some f29 := by kernel_rfl
theorem c30 : compFunc Tryz.prog true 30 = some f30 := by kernel_rfl
theorem c31 : compFunc Tryz.prog true 31 = some f31 := by kernel_rfl
theorem c32 : compFunc Tryz.prog true 32 = some f32 := by kernel_rfl
theorem c33 : compFunc Tryz.prog true 33 = some f33 := by kernel_rfl
theorem c34 : compFunc Tryz.prog true 34 = some f34 := by kernel_rfl
theorem c35 : compFunc Tryz.prog true 35 = some f35 := by kernel_rfl
theorem c36 : compFunc Tryz.prog true 36 = some f36 := by kernel_rfl
theorem c37 : compFunc Tryz.prog true 37 = some f37 := by kernel_rfl
theorem c38 : compFunc Tryz.prog true 38 = some f38 := by kernel_rfl
theorem c39 : compFunc Tryz.prog true 39 = some f39 := by kernel_rfl
theorem c40 : compFunc Tryz.prog true 40 = some f40 := by kernel_rfl
theorem c41 : compFunc Tryz.prog true 41 = some f41 := by kernel_rfl
theorem c42 : compFunc Tryz.prog true 42 = some f42 := by kernel_rfl
theorem c43 : compFunc Tryz.prog true 43 = some f43 := by kernel_rfl
theorem c44 : compFunc Tryz.prog true 44 = some f44 := by kernel_rfl
theorem c45 : compFunc Tryz.prog true 45 = some f45 := by kernel_rfl
theorem c46 : compFunc Tryz.prog true 46 = some f46 := by kernel_rfl
theorem c47 : compFunc Tryz.prog true 47 = some f47 := by kernel_rfl
theorem c48 : compFunc Tryz.prog true 48 = some f48 := by kernel_rfl
theorem c49 : compFunc Tryz.prog true 49 = some f49 := by kernel_rfl
theorem c50 : compFunc Tryz.prog true 50 = some f50 := by kernel_rfl
theorem c51 : compFunc Tryz.prog true 51 = some f51 := by kernel_rfl
theorem c52 : compFunc Tryz.prog true 52 = some f52 := by kernel_rfl
theorem c53 : compFunc Tryz.prog true 53 = some f53 := by kernel_rfl
theorem c54 : compFunc Tryz.prog true 54 = some f54 := by kernel_rfl
theorem c55 : compFunc Tryz.prog true 55 = some f55 := by kernel_rfl
theorem c56 : compFunc Tryz.prog true 56 = some f56 := by kernel_rfl
theorem c57 : compFunc Tryz.prog true 57 = some f57 := by kernel_rfl
theorem c58 : compFunc Tryz.prog true 58 = some f58 := by kernel_rfl
theorem c59 : compFunc Tryz.prog true 59 = some f59 := by kernel_rfl
theorem c60 : compFunc Tryz.prog true 60 = some f60 := by kernel_rfl
theorem c61 : compFunc Tryz.prog true 61 = some f61 := by kernel_rfl
theorem c62 : compFunc Tryz.prog true 62 = some f62 := by kernel_rfl
theorem c64 : compFunc Tryz.prog true 64 = some f64 := by kernel_rfl
end Go.Ago.Nil
