-- Written by a program of ours (wip/gen/trimwords.py, out of the kit's print and its words): this session's own text.
import Derived.Test.YtligjkjogaobnaaPFnExactTokenOfx0
import Derived.Test.YtligjkjogaobnaaPFnExactTokenOfx1
import Derived.Test.YtligjkjogaobnaaPFnExactTokenOfx2
import Derived.Test.YtligjkjogaobnaaPFnExactTokenOfx3
import Derived.Test.YtligjkjogaobnaaPFnExactTokenOfx4
namespace Go.Proofs.Ytligjkjogaobnaa.PFnExactTokenOf
open Go.RowKit Go.Proofs.YtligjkjogaobnaaW.PrintWords Go.Proofs.YtligjkjogaobnaaW.PrintLast Go.Proofs.YtligjkjogaobnaaW.PrintMore
attribute [local go_sem] max2_int min2_int max_two min_two max_three min_three max_four min_four   -- for this text's walks alone
set_option linter.unusedVariables false
set_option linter.unusedSimpArgs false

end Go.Proofs.Ytligjkjogaobnaa.PFnExactTokenOf
