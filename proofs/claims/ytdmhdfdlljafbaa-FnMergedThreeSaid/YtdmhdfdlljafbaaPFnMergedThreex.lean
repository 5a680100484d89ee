-- Written by a program of ours (wip/gen/patchprint.py: the kit's printer with changes of ours): this session's own text.
import Derived.Test.YtdmhdfdlljafbaaPFnMergedThreex0
import Derived.Test.YtdmhdfdlljafbaaPFnMergedThreex1
import Derived.Test.YtdmhdfdlljafbaaPFnMergedThreex2
import Derived.Test.YtdmhdfdlljafbaaPFnMergedThreex3
import Derived.Test.YtdmhdfdlljafbaaPFnMergedThreex4
import Derived.Test.YtdmhdfdlljafbaaPFnMergedThreex5
import Derived.Test.YtdmhdfdlljafbaaPFnMergedThreex6
import Derived.Test.YtdmhdfdlljafbaaPFnMergedThreex7
import Derived.Test.YtdmhdfdlljafbaaPFnMergedThreex8
import Derived.Test.YtdmhdfdlljafbaaPFnMergedThreex9
namespace Go.Proofs.Ytdmhdfdlljafbaa.PFnMergedThree
open Go.RowKit Go.Proofs.YtdmhdfdlljafbaaW.PrintWords Go.Proofs.YtdmhdfdlljafbaaW.PrintLast Go.Proofs.YtdmhdfdlljafbaaW.PrintMore
attribute [local go_sem] max2_int min2_int max_two min_two max_three min_three max_four min_four   -- for this text's walks alone
set_option linter.unusedVariables false
set_option linter.unusedSimpArgs false

end Go.Proofs.Ytdmhdfdlljafbaa.PFnMergedThree
