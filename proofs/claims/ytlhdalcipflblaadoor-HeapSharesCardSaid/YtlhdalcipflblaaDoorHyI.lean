/- The facts on the tables of types and on the entries of functions that the walks use. Written by program. -/
import Derived.Test.YtlhdalcipflblaaDoorHyH
import Derived.Test.YtlhdalcipflblaaDoorEngC
set_option linter.unusedSimpArgs false
set_option linter.unusedVariables false
namespace Go.Proofs.YtlhdalcipflblaaDoor
open Go Go.Eng

end Go.Proofs.YtlhdalcipflblaaDoor
