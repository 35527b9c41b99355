-- Written by px.py, a program of this session, over the kit's printer: some functions have a definition and a proof of this session's own.
import Derived.Test.YtgcgmlbjklkkjaaQFnGameLinesx0
import Derived.Test.YtgcgmlbjklkkjaaQFnGameLinesx1
import Derived.Test.YtgcgmlbjklkkjaaQFnGameLinesx2
import Derived.Test.YtgcgmlbjklkkjaaQFnGameLinesx3
import Derived.Test.YtgcgmlbjklkkjaaQFnGameLinesx4
import Derived.Test.YtgcgmlbjklkkjaaQFnGameLinesx5
import Derived.Test.YtgcgmlbjklkkjaaQFnGameLinesx6
import Derived.Test.YtgcgmlbjklkkjaaQFnGameLinesx7
import Derived.Test.YtgcgmlbjklkkjaaQFnGameLinesx8
import Derived.Test.YtgcgmlbjklkkjaaQFnGameLinesx9
import Derived.Test.YtgcgmlbjklkkjaaQFnGameLinesx10
import Derived.Test.YtgcgmlbjklkkjaaQFnGameLinesx11
import Derived.Test.YtgcgmlbjklkkjaaQFnGameLinesx12
import Derived.Test.YtgcgmlbjklkkjaaQFnGameLinesx13
import Derived.Test.YtgcgmlbjklkkjaaQFnGameLinesx14
namespace Go.Proofs.Ytgcgmlbjklkkjaa.QFnGameLines
open Go.RowKit Go.Proofs.YtgcgmlbjklkkjaaW.PrintWords Go.Proofs.YtgcgmlbjklkkjaaW.PrintLast Go.Proofs.YtgcgmlbjklkkjaaW.PrintMore
attribute [local go_sem] max2_int min2_int max_two min_two max_three min_three max_four min_four   -- for this text's walks alone
set_option linter.unusedVariables false
set_option linter.unusedSimpArgs false

end Go.Proofs.Ytgcgmlbjklkkjaa.QFnGameLines
-- squeezed
