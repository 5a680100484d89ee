-- Written by a program of ours (wip/gen/trimwords.py, out of the kit's print and its words): this session's own text.
import Derived.Test.YtdmhdfdlljafbaaPFnNotesx0
import Derived.Test.YtdmhdfdlljafbaaPFnNotesx1
import Derived.Test.YtdmhdfdlljafbaaPFnNotesx2
import Derived.Test.YtdmhdfdlljafbaaPFnNotesx3
import Derived.Test.YtdmhdfdlljafbaaPFnNotesx4
import Derived.Test.YtdmhdfdlljafbaaPFnNotesx5
import Derived.Test.YtdmhdfdlljafbaaPFnNotesx6
import Derived.Test.YtdmhdfdlljafbaaPFnNotesx7
import Derived.Test.YtdmhdfdlljafbaaPFnNotesx8
import Derived.Test.YtdmhdfdlljafbaaPFnNotesx9
import Derived.Test.YtdmhdfdlljafbaaPFnNotesx10
import Derived.Test.YtdmhdfdlljafbaaPFnNotesx11
import Derived.Test.YtdmhdfdlljafbaaPFnNotesx12
namespace Go.Proofs.Ytdmhdfdlljafbaa.PFnNotes
open Go.RowKit Go.Proofs.YtdmhdfdlljafbaaW.PrintWords Go.Proofs.YtdmhdfdlljafbaaW.PrintLast Go.Proofs.YtdmhdfdlljafbaaW.PrintMore
attribute [local go_sem] max2_int min2_int max_two min_two max_three min_three max_four min_four   -- for this text's walks alone
set_option linter.unusedVariables false
set_option linter.unusedSimpArgs false

end Go.Proofs.Ytdmhdfdlljafbaa.PFnNotes
