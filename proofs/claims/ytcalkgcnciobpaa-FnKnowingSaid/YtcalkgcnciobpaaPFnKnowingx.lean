-- Written by a program of ours (wip/gen/trimwords.py, out of the kit's print and its words): this session's own text.
import Derived.Test.YtcalkgcnciobpaaPFnKnowingx0
import Derived.Test.YtcalkgcnciobpaaPFnKnowingx1
import Derived.Test.YtcalkgcnciobpaaPFnKnowingx2
import Derived.Test.YtcalkgcnciobpaaPFnKnowingx3
import Derived.Test.YtcalkgcnciobpaaPFnKnowingx4
import Derived.Test.YtcalkgcnciobpaaPFnKnowingx5
import Derived.Test.YtcalkgcnciobpaaPFnKnowingx6
import Derived.Test.YtcalkgcnciobpaaPFnKnowingx7
import Derived.Test.YtcalkgcnciobpaaPFnKnowingx8
import Derived.Test.YtcalkgcnciobpaaPFnKnowingx9
import Derived.Test.YtcalkgcnciobpaaPFnKnowingx10
import Derived.Test.YtcalkgcnciobpaaPFnKnowingx11
import Derived.Test.YtcalkgcnciobpaaPFnKnowingx12
import Derived.Test.YtcalkgcnciobpaaPFnKnowingx13
namespace Go.Proofs.Ytcalkgcnciobpaa.PFnKnowing
open Go.RowKit Go.Proofs.YtcalkgcnciobpaaW.PrintWords Go.Proofs.YtcalkgcnciobpaaW.PrintLast Go.Proofs.YtcalkgcnciobpaaW.PrintMore
attribute [local go_sem] max2_int min2_int max_two min_two max_three min_three max_four min_four   -- for this text's walks alone
set_option linter.unusedVariables false
set_option linter.unusedSimpArgs false

end Go.Proofs.Ytcalkgcnciobpaa.PFnKnowing
