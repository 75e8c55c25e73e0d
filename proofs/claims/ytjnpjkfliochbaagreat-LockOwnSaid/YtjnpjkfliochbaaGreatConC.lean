import Derived.Test.YtjnpjkfliochbaaGreatConB
set_option linter.unusedVariables false
set_option linter.unusedSimpArgs false
set_option maxRecDepth 20000
namespace Go.Proofs.YtjnpjkfliochbaaGreat
open Go.Eng Go.Tm
end Go.Proofs.YtjnpjkfliochbaaGreat
