/- How the arguments read. -/
import Derived.Test.YtkndekkacimekaaProg
import Derived.Test.YtkndekkacimekaaSx22
import Derived.Test.YtkndekkacimekaaTdLaw
namespace Go.Proofs.Ytkndekkacimekaa
open Go.ChangeShapes Go.WideShapes Go.ChangeAt Go.RowKit Go.Sx

end Go.Proofs.Ytkndekkacimekaa
