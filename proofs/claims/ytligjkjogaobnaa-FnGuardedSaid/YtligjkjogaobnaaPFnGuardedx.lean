-- Written by a program of ours (wip/gen/trimwords.py, out of the kit's print and its words): this session's own text.
import Derived.Test.YtligjkjogaobnaaPFnGuardedx0
import Derived.Test.YtligjkjogaobnaaPFnGuardedx1
import Derived.Test.YtligjkjogaobnaaPFnGuardedx2
import Derived.Test.YtligjkjogaobnaaPFnGuardedx3
import Derived.Test.YtligjkjogaobnaaPFnGuardedx4
import Derived.Test.YtligjkjogaobnaaPFnGuardedx5
import Derived.Test.YtligjkjogaobnaaPFnGuardedx6
import Derived.Test.YtligjkjogaobnaaPFnGuardedx7
import Derived.Test.YtligjkjogaobnaaPFnGuardedx8
import Derived.Test.YtligjkjogaobnaaPFnGuardedx9
import Derived.Test.YtligjkjogaobnaaPFnGuardedx10
import Derived.Test.YtligjkjogaobnaaPFnGuardedx11
namespace Go.Proofs.Ytligjkjogaobnaa.PFnGuarded
open Go.RowKit Go.Proofs.YtligjkjogaobnaaW.PrintWords Go.Proofs.YtligjkjogaobnaaW.PrintLast Go.Proofs.YtligjkjogaobnaaW.PrintMore
attribute [local go_sem] max2_int min2_int max_two min_two max_three min_three max_four min_four   -- for this text's walks alone
set_option linter.unusedVariables false
set_option linter.unusedSimpArgs false

end Go.Proofs.Ytligjkjogaobnaa.PFnGuarded
