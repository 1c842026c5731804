/- The code of each function is what the program's own code becomes, second part. Conditions: none. -/
import Derived.Test.YtpajdajecfjnnaaGreatNilLitsB
import Derived.Test.YtpajdajecfjnnaaGreatProg
import Derived.KernelRfl
set_option autoImplicit false
namespace Go.Ago.Nil
open Go Go.Ago Go.Proofs
theorem c65 : compFunc Tryz.prog true 65 = some f65 := by kernel_rfl
theorem c66 : compFunc Tryz.prog true 66 = some f66 := by kernel_rfl
theorem c67 : compFunc Tryz.prog true 67 = some f67 := by kernel_rfl
theorem c68 : compFunc Tryz.prog true 68 = some f68 := by kernel_rfl
theorem c69 : compFunc Tryz.prog true 69 = some f69 := by kernel_rfl
theorem c70 : compFunc Tryz.prog true 70 = some f70 := by kernel_rfl
theorem c71 : compFunc Tryz.prog true 71 = some f71 := by kernel_rfl
theorem c72 : compFunc Tryz.prog true 72 = some f72 := by kernel_rfl
theorem c73 : compFunc Tryz.prog true 73 = some f73 := by kernel_rfl
theorem c74 : compFunc Tryz.prog true 74 = some f74 := by kernel_rfl
theorem c75 : compFunc Tryz.prog true 75 = some f75 := by kernel_rfl
theorem c76 : compFunc Tryz.prog true 76 = some f76 := by kernel_rfl
theorem c77 : compFunc Tryz.prog true 77 = some f77 := by kernel_rfl
theorem c78 : compFunc Tryz.prog true 78 = some f78 := by kernel_rfl
theorem c79 : compFunc Tryz.prog true 79 = some f79 := by kernel_rfl
theorem c80 : compFunc Tryz.prog true 80 = some f80 := by kernel_rfl
theorem c81 : compFunc Tryz.prog true 81 = some f81 := by kernel_rfl
theorem c82 : compFunc Tryz.prog true 82 = some f82 := by kernel_rfl
theorem c83 : compFunc Tryz.prog true 83 = some f83 := by kernel_rfl
theorem c84 : compFunc Tryz.prog true 84 = some f84 := by kernel_rfl
theorem c85 : compFunc Tryz.prog true 85 = some f85 := by kernel_rfl
theorem c86 : compFunc Tryz.prog true 86 = some f86 := by kernel_rfl
theorem c88 : compFunc Tryz.prog true 88 = some f88 := by kernel_rfl
theorem c89 : compFunc Tryz.prog true 89 = some f89 := by kernel_rfl
theorem c90 : compFunc Tryz.prog true 90 = some f90 := by kernel_rfl
theorem c91 : compFunc Tryz.prog true 91 = some f91 := by kernel_rfl
theorem c92 : compFunc Tryz.prog true 92 = some f92 := by kernel_rfl
theorem c93 : compFunc Tryz.prog true 93 = some f93 := by kernel_rfl
theorem c94 : compFunc Tryz.prog true 94 = some f94 := by kernel_rfl
theorem c95 : compFunc Tryz.prog true 95 = some f95 := by kernel_rfl
theorem c96 : compFunc Tryz.prog true 96 = some f96 := by kernel_rfl
theorem c97 : compFunc Tryz.prog true 97 = some f97 := by kernel_rfl
theorem c98 : compFunc Tryz.prog true 98 = some f98 := by kernel_rfl
theorem c99 : compFunc Tryz.prog true 99 = some f99 := by kernel_rfl
theorem c100 : compFunc Tryz.prog true 100 = some f100 := by kernel_rfl
theorem c102 : compFunc Tryz.prog true 102 = some f102 := by kernel_rfl
theorem c103 : compFunc Tryz.prog true 103 = some f103 := by kernel_rfl
theorem c104 : compFunc Tryz.prog true 104 = some f104 := by kernel_rfl
theorem c105 : compFunc Tryz.prog true 105 = some f105 := by kernel_rfl
theorem c106 : compFunc Tryz.prog true 106 = some f106 := by kernel_rfl
theorem c107 : compFunc Tryz.prog true 107 = some f107 := by kernel_rfl
theorem c108 : compFunc Tryz.prog true 108 = some f108 := by kernel_rfl
theorem c109 : compFunc Tryz.prog true 109 = some f109 := by kernel_rfl
theorem c110 : compFunc Tryz.prog true 110 = some f110 := by kernel_rfl
theorem c111 : compFunc Tryz.prog true 111 = some f111 := by kernel_rfl
theorem c112 : compFunc Tryz.prog true 112 = some f112 := by kernel_rfl
theorem c113 : compFunc Tryz.prog true 113 = some f113 := by kernel_rfl
theorem c118 : compFunc Tryz.prog true 118 = some f118 := by kernel_rfl
theorem c119 : compFunc Tryz.prog true 119 = some f119 := by kernel_rfl
theorem c120 : compFunc Tryz.prog true 120 = some f120 := by kernel_rfl
theorem c121 : compFunc Tryz.prog true 121 = some f121 := by kernel_rfl
theorem c122 : compFunc Tryz.prog true 122 = some f122 := by kernel_rfl
theorem c123 : compFunc Tryz.prog true 123 = some f123 := by kernel_rfl
theorem c124 : compFunc Tryz.prog true 124 = some f124 := by kernel_rfl
theorem c125 : compFunc Tryz.prog true 125 = some f125 := by kernel_rfl
theorem c143 : compFunc Tryz.prog true 143 = some f143 := by kernel_rfl
theorem c144 : compFunc Tryz.prog true 144 = some f144 := by kernel_rfl
theorem c145 : compFunc Tryz.prog true 145 = some f145 := by kernel_rfl
theorem c146 : compFunc Tryz.prog true 146 = some f146 := by kernel_rfl
theorem c147 : compFunc Tryz.prog true 147 = some f147 := by kernel_rfl
end Go.Ago.Nil
