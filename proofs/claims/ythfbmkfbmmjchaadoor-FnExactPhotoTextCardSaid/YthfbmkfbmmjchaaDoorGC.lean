/- What these functions of the program hand back, each proved by walking its operations. -/
import Derived.Test.YthfbmkfbmmjchaaDoorProg
import Derived.Test.YthfbmkfbmmjchaaDoorFw
import Derived.Test.YthfbmkfbmmjchaaDoorGB
set_option linter.unusedVariables false
set_option linter.unusedSimpArgs false
set_option maxRecDepth 4000
namespace Go.Proofs.YthfbmkfbmmjchaaDoor
open Go Go.Sx Go.RowKit Go.W Go.Proofs
attribute [local irreducible] Ex ExL ExD Op1 Free RetQ MutQ Reads CellO SegO LoadsAs
end Go.Proofs.YthfbmkfbmmjchaaDoor
