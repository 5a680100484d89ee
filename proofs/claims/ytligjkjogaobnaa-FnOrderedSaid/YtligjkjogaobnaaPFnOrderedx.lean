-- Written by a program of ours (wip/gen/trimwords.py, out of the kit's print and its words): this session's own text.
import Derived.Test.YtligjkjogaobnaaPFnOrderedx0
import Derived.Test.YtligjkjogaobnaaPFnOrderedx1
import Derived.Test.YtligjkjogaobnaaPFnOrderedx2
import Derived.Test.YtligjkjogaobnaaPFnOrderedx3
import Derived.Test.YtligjkjogaobnaaPFnOrderedx4
import Derived.Test.YtligjkjogaobnaaPFnOrderedx5
import Derived.Test.YtligjkjogaobnaaPFnOrderedx6
import Derived.Test.YtligjkjogaobnaaPFnOrderedx7
import Derived.Test.YtligjkjogaobnaaPFnOrderedx8
import Derived.Test.YtligjkjogaobnaaPFnOrderedx9
import Derived.Test.YtligjkjogaobnaaPFnOrderedx10
import Derived.Test.YtligjkjogaobnaaPFnOrderedx11
import Derived.Test.YtligjkjogaobnaaPFnOrderedx12
import Derived.Test.YtligjkjogaobnaaPFnOrderedx13
namespace Go.Proofs.Ytligjkjogaobnaa.PFnOrdered
open Go.RowKit Go.Proofs.YtligjkjogaobnaaW.PrintWords Go.Proofs.YtligjkjogaobnaaW.PrintLast Go.Proofs.YtligjkjogaobnaaW.PrintMore
attribute [local go_sem] max2_int min2_int max_two min_two max_three min_three max_four min_four   -- for this text's walks alone
set_option linter.unusedVariables false
set_option linter.unusedSimpArgs false

end Go.Proofs.Ytligjkjogaobnaa.PFnOrdered
