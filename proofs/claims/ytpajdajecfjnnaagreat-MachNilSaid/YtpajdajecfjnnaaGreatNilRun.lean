/- The run of MachNil, carried out by the kernel. Conditions: none. -/
import Derived.Test.YtpajdajecfjnnaaGreatNilLitsB
import Derived.Test.YtpajdajecfjnnaaGreatAgoD
import Derived.Lib.IndexMore
set_option autoImplicit false
namespace Go.Ago.Nil
open Go Go.Ago
def tbl : PM AFunc := tblOf fList
def containsG : List AVal → Option AVal
  | [.str a, .str b] => bif Nat.ble a.size 1000 then some (.bool (Lib.contains a.data.toList b.data.toList)) else none
  | _ => none
def readG : List AVal → Option AVal
  | [_, _] => some (.tuple [])
  | _ => none
def own (cf : CallF) : CallF := primA 63 false containsG (primA 12 true readG cf)
theorem run0_true : okTrue (callA own tbl.get 3000 3000 false 3 [] emptyA) = true := by kernel_rfl
end Go.Ago.Nil
