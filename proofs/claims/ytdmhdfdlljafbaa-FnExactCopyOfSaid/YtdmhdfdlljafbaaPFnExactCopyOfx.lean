-- Written by a program of ours (wip/gen/trimwords.py, out of the kit's print and its words): this session's own text.
import Derived.Test.YtdmhdfdlljafbaaPFnExactCopyOfx0
import Derived.Test.YtdmhdfdlljafbaaPFnExactCopyOfx1
import Derived.Test.YtdmhdfdlljafbaaPFnExactCopyOfx2
import Derived.Test.YtdmhdfdlljafbaaPFnExactCopyOfx3
namespace Go.Proofs.Ytdmhdfdlljafbaa.PFnExactCopyOf
open Go.RowKit Go.Proofs.YtdmhdfdlljafbaaW.PrintWords Go.Proofs.YtdmhdfdlljafbaaW.PrintLast Go.Proofs.YtdmhdfdlljafbaaW.PrintMore
attribute [local go_sem] max2_int min2_int max_two min_two max_three min_three max_four min_four   -- for this text's walks alone
set_option linter.unusedVariables false
set_option linter.unusedSimpArgs false

end Go.Proofs.Ytdmhdfdlljafbaa.PFnExactCopyOf
