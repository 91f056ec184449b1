/- How the arguments read. -/
import Derived.Test.YtgjdmnljnimamaaProg
import Derived.Test.YtgjdmnljnimamaaSx23
import Derived.Test.YtgjdmnljnimamaaOpLaw2
namespace Go.Proofs.Ytgjdmnljnimamaa
open Go.ChangeShapes Go.WideShapes Go.ChangeAt Go.RowKit Go.Sx

end Go.Proofs.Ytgjdmnljnimamaa
