/- CONTRACTS of package psw (layer 6) and of its reference jobshopref06: both return the SAME plain functions. No conditions but the words' own ranges. -/
import Derived.Test.YthjdjbipfdigeaaProg
import Derived.Test.YthjdjbipfdigeaaPw
import Derived.Lib.Hide
import Derived.Outline
import Derived.Below
import Derived.Handy
namespace Go.Proofs.Ythjdjbipfdigeaa
open Go.RowKit
set_option linter.unusedVariables false
set_option linter.unusedSimpArgs false

end Go.Proofs.Ythjdjbipfdigeaa
