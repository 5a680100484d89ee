-- Written by a program of ours (wip/gen/trimwords.py, out of the kit's print and its words): this session's own text.
import Derived.Test.YtdmhdfdlljafbaaPFnExactCleanCopyx0
import Derived.Test.YtdmhdfdlljafbaaPFnExactCleanCopyx1
import Derived.Test.YtdmhdfdlljafbaaPFnExactCleanCopyx2
import Derived.Test.YtdmhdfdlljafbaaPFnExactCleanCopyx3
import Derived.Test.YtdmhdfdlljafbaaPFnExactCleanCopyx4
namespace Go.Proofs.Ytdmhdfdlljafbaa.PFnExactCleanCopy
open Go.RowKit Go.Proofs.YtdmhdfdlljafbaaW.PrintWords Go.Proofs.YtdmhdfdlljafbaaW.PrintLast Go.Proofs.YtdmhdfdlljafbaaW.PrintMore
attribute [local go_sem] max2_int min2_int max_two min_two max_three min_three max_four min_four   -- for this text's walks alone
set_option linter.unusedVariables false
set_option linter.unusedSimpArgs false

end Go.Proofs.Ytdmhdfdlljafbaa.PFnExactCleanCopy
