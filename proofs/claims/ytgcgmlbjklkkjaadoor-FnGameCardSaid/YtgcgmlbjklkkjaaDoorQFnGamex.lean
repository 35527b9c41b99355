-- Written by px.py, a program of this session, over the kit's printer: some functions have a definition and a proof of this session's own.
import Derived.Test.YtgcgmlbjklkkjaaDoorQFnGamex0
import Derived.Test.YtgcgmlbjklkkjaaDoorQFnGamex1
import Derived.Test.YtgcgmlbjklkkjaaDoorQFnGamex2
import Derived.Test.YtgcgmlbjklkkjaaDoorQFnGamex3
import Derived.Test.YtgcgmlbjklkkjaaDoorQFnGamex4
import Derived.Test.YtgcgmlbjklkkjaaDoorQFnGamex5
import Derived.Test.YtgcgmlbjklkkjaaDoorQFnGamex6
namespace Go.Proofs.YtgcgmlbjklkkjaaDoor.QFnGame
open Go.RowKit Go.Proofs.YtgcgmlbjklkkjaaDoorW.PrintWords Go.Proofs.YtgcgmlbjklkkjaaDoorW.PrintLast Go.Proofs.YtgcgmlbjklkkjaaDoorW.PrintMore
attribute [local go_sem] fq ft gc gf eW eX fu fv   -- for this text's walks alone
set_option linter.unusedVariables false
set_option linter.unusedSimpArgs false

end Go.Proofs.YtgcgmlbjklkkjaaDoor.QFnGame
-- squeezed
