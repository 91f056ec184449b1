/- How the arguments read. -/
import Derived.Test.YthecfjipaepcgaaProg
import Derived.Test.YthecfjipaepcgaaSx25
import Derived.Test.YthecfjipaepcgaaWsLaw5
import Derived.Test.YthecfjipaepcgaaExLaw
namespace Go.Proofs.Ythecfjipaepcgaa
open Go.ChangeShapes Go.WideShapes Go.ChangeAt Go.RowKit Go.Sx

end Go.Proofs.Ythecfjipaepcgaa
