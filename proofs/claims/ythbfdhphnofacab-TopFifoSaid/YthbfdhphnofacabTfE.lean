/- How the arguments read. -/
import Derived.Test.YthbfdhphnofacabProg
import Derived.Test.YthbfdhphnofacabSx17
import Derived.Test.YthbfdhphnofacabTfLaw
namespace Go.Proofs.Ythbfdhphnofacab
open Go.ChangeShapes Go.WideShapes Go.ChangeAt Go.RowKit Go.Sx

end Go.Proofs.Ythbfdhphnofacab
