-- PRINTED by print.py (a twelfth state) out of the translation. Not trusted: Lean checks it.
import Derived.Test.YtklomikdihlcgaaPBasex0
import Derived.Test.YtklomikdihlcgaaPBasex1
import Derived.Test.YtklomikdihlcgaaPBasex2
import Derived.Test.YtklomikdihlcgaaPBasex3
import Derived.Test.YtklomikdihlcgaaPBasex4
import Derived.Test.YtklomikdihlcgaaPBasex5
import Derived.Test.YtklomikdihlcgaaPBasex6
import Derived.Test.YtklomikdihlcgaaPBasex7
import Derived.Test.YtklomikdihlcgaaPBasex8
import Derived.Test.YtklomikdihlcgaaPBasex9
namespace Go.Proofs.Ytklomikdihlcgaa.PBase
open Go.RowKit Go.Proofs.YtklomikdihlcgaaW.PrintWords Go.Proofs.YtklomikdihlcgaaW.PrintLast Go.Proofs.YtklomikdihlcgaaW.PrintMore
attribute [local go_sem] max2_int min2_int max_two min_two max_three min_three max_four min_four   -- for this text's walks alone
set_option linter.unusedVariables false
set_option linter.unusedSimpArgs false

end Go.Proofs.Ytklomikdihlcgaa.PBase
