/- An example of chapter 16. Printed by gen_daw.py. -/
import Derived.Test.YteecfnfjlclhdaaGreatS5

set_option linter.unusedSimpArgs false
set_option linter.unusedVariables false

/- An example of chapter 16. Printed by gen_daw.py. -/
namespace Go.Proofs.YteecfnfjlclhdaaGreat.V
open Go (IntKind BinOp UnOp)
theorem aw_cyc : EE [25, 17] Z54 [.p dsgF, .p (.sl 1 none [.int .i64 0, .int .i64 1, .int .i64 2])] [] = some ((.p (.tup [(.sl 1 (some false) [(.int .i64 0), (.int .i64 2)]), (.int .i64 0)])), []) := E_with (a0 := Z5 exD) (r0 := .tup [I 0, I 0]) Z94 100 30 orc_no (by kernel_rfl)
end Go.Proofs.YteecfnfjlclhdaaGreat.V
