/- Walks of package pair: why a thing moves, and how far off it stands. -/
import Derived.Test.YtjijeeadmhpfcaaPf
import Derived.Test.YtjijeeadmhpfcaaTypes
set_option linter.unusedSimpArgs false
set_option linter.unusedVariables false
namespace Go.Proofs.Ytjijeeadmhpfcaa
open Go Go.Eng Go.Pw1

end Go.Proofs.Ytjijeeadmhpfcaa
