-- Written by a program of ours (wip/gen/patchprint.py: the kit's printer with changes of ours): this session's own text.
import Derived.Test.YtdmhdfdlljafbaaPFnDiffsx0
import Derived.Test.YtdmhdfdlljafbaaPFnDiffsx1
import Derived.Test.YtdmhdfdlljafbaaPFnDiffsx2
import Derived.Test.YtdmhdfdlljafbaaPFnDiffsx3
import Derived.Test.YtdmhdfdlljafbaaPFnDiffsx4
import Derived.Test.YtdmhdfdlljafbaaPFnDiffsx5
import Derived.Test.YtdmhdfdlljafbaaPFnDiffsx6
import Derived.Test.YtdmhdfdlljafbaaPFnDiffsx7
namespace Go.Proofs.Ytdmhdfdlljafbaa.PFnDiffs
open Go.RowKit Go.Proofs.YtdmhdfdlljafbaaW.PrintWords Go.Proofs.YtdmhdfdlljafbaaW.PrintLast Go.Proofs.YtdmhdfdlljafbaaW.PrintMore
attribute [local go_sem] max2_int min2_int max_two min_two max_three min_three max_four min_four   -- for this text's walks alone
set_option linter.unusedVariables false
set_option linter.unusedSimpArgs false

end Go.Proofs.Ytdmhdfdlljafbaa.PFnDiffs
