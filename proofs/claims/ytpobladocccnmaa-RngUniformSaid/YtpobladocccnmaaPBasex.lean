-- PRINTED by print.py (a twelfth state) out of the translation. Not trusted: Lean checks it.
import Derived.Test.YtpobladocccnmaaPBasex0
import Derived.Test.YtpobladocccnmaaPBasex1
import Derived.Test.YtpobladocccnmaaPBasex2
import Derived.Test.YtpobladocccnmaaPBasex3
import Derived.Test.YtpobladocccnmaaPBasex4
import Derived.Test.YtpobladocccnmaaPBasex5
namespace Go.Proofs.Ytpobladocccnmaa.PBase
open Go.RowKit Go.Proofs.YtpobladocccnmaaW.PrintWords Go.Proofs.YtpobladocccnmaaW.PrintLast Go.Proofs.YtpobladocccnmaaW.PrintMore
attribute [local go_sem] max2_int min2_int max_two min_two max_three min_three max_four min_four   -- for this text's walks alone
set_option linter.unusedVariables false
set_option linter.unusedSimpArgs false

end Go.Proofs.Ytpobladocccnmaa.PBase
