/- Twins of books, the statements of layer 3. -/
import Derived.Test.YtnhclbecbagmfaaSpCraftAt
set_option linter.all false
namespace Go.AI
variable {A : Type} {R : Adts A}
section
variable {bk rbk : Int → List Bs → A}
end
end Go.AI
