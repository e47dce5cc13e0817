/- world: Read and Write are not here -/
import Derived.Test.YtieelilkkpcmdaaDoorWd
namespace Go.Proofs.YtieelilkkpcmdaaDoor
open Go.RowKit M
set_option linter.unusedVariables false

end Go.Proofs.YtieelilkkpcmdaaDoor
