/- An example of chapter 16. Printed by gen_daw.py. -/
import Derived.Test.YteecfnfjlclhdaaGreatS5

set_option linter.unusedSimpArgs false
set_option linter.unusedVariables false

/- An example of chapter 16. Printed by gen_daw.py. -/
namespace Go.Proofs.YteecfnfjlclhdaaGreat.V
open Go (IntKind BinOp UnOp)
theorem aw_mat : EE [13, 17] Z3f [.p dsgF] [] = some ((.tup [(.ap [1007, 13, 17]), (.p (.int .i64 0))]), [([1007, 13, 17], (.row false 46 1 (some false) [(.sl 1 (some false) [(.int .i64 4), (.int .i64 3), (.int .i64 4)]), (.sl 1 (some false) [(.int .i64 2), (.int .i64 4), (.int .i64 4)]), (.sl 1 (some false) [(.int .i64 4), (.int .i64 4), (.int .i64 4)])]))]) := E_with (a0 := Z5 exD) (r0 := .tup [I 0, I 0]) Z94 100 30 orc_no (by kernel_rfl)
end Go.Proofs.YteecfnfjlclhdaaGreat.V
