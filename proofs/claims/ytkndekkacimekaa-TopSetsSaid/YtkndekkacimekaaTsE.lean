/- How the arguments read. -/
import Derived.Test.YtkndekkacimekaaProg
import Derived.Test.YtkndekkacimekaaSx23
import Derived.Test.YtkndekkacimekaaOpLaw2
import Derived.Test.YtkndekkacimekaaWsPure
namespace Go.Proofs.Ytkndekkacimekaa
open Go.ChangeShapes Go.WideShapes Go.ChangeAt Go.RowKit Go.Sx

end Go.Proofs.Ytkndekkacimekaa
