/- Plain laws: copies, equality, sizes, marks of lists of numbers. -/
import Derived.Test.YthfbkecnnllpkaaTd1
import Derived.Test.YthfbkecnnllpkaaPl2
set_option linter.unusedVariables false
set_option linter.unusedSimpArgs false
namespace Go.Proofs.YthfbkecnnllpkaaH
open Go

end Go.Proofs.YthfbkecnnllpkaaH

