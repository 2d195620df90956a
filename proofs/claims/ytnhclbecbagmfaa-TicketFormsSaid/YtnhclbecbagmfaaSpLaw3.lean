/- Crafts: what every program answers that is one; any book, keys, texts, tags. -/
import Derived.Test.YtnhclbecbagmfaaSpTw3
set_option linter.all false
namespace Go.AI
variable {A : Type} {R : Adts A}
section
variable {bk rbk : Int → List Bs → A}
end
end Go.AI
