/- '[]byte(s)' in one step of a walk: the new row, which is read only. No condition. -/
import Derived.Test.YtchmaojmknfbpaaBase
set_option linter.unusedVariables false
namespace Go.Proofs.Ytchmaojmknfbpaa.Base
open Go Go.RowKit Go.Proofs.YtchmaojmknfbpaaW.PrintWords Go.Proofs.YtchmaojmknfbpaaW.PrintLast Go.Proofs.YtchmaojmknfbpaaW.PrintMore

end Go.Proofs.Ytchmaojmknfbpaa.Base
