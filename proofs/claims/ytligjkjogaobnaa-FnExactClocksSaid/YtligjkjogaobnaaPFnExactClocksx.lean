-- Written by a program of ours (wip/gen/trimwords.py, out of the kit's print and its words): this session's own text.
import Derived.Test.YtligjkjogaobnaaPFnExactClocksx0
import Derived.Test.YtligjkjogaobnaaPFnExactClocksx1
import Derived.Test.YtligjkjogaobnaaPFnExactClocksx2
import Derived.Test.YtligjkjogaobnaaPFnExactClocksx3
import Derived.Test.YtligjkjogaobnaaPFnExactClocksx4
import Derived.Test.YtligjkjogaobnaaPFnExactClocksx5
import Derived.Test.YtligjkjogaobnaaPFnExactClocksx6
import Derived.Test.YtligjkjogaobnaaPFnExactClocksx7
import Derived.Test.YtligjkjogaobnaaPFnExactClocksx8
import Derived.Test.YtligjkjogaobnaaPFnExactClocksx9
import Derived.Test.YtligjkjogaobnaaPFnExactClocksx10
import Derived.Test.YtligjkjogaobnaaPFnExactClocksx11
namespace Go.Proofs.Ytligjkjogaobnaa.PFnExactClocks
open Go.RowKit Go.Proofs.YtligjkjogaobnaaW.PrintWords Go.Proofs.YtligjkjogaobnaaW.PrintLast Go.Proofs.YtligjkjogaobnaaW.PrintMore
attribute [local go_sem] max2_int min2_int max_two min_two max_three min_three max_four min_four   -- for this text's walks alone
set_option linter.unusedVariables false
set_option linter.unusedSimpArgs false

end Go.Proofs.Ytligjkjogaobnaa.PFnExactClocks
