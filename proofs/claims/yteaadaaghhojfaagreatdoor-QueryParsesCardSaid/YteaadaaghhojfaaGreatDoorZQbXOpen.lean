import Derived.Test.YteaadaaghhojfaaGreatDoorZQbM0
import Derived.SizedLaws
import Derived.ChangeSlices
import Derived.ChangeReads
namespace Go.Proofs.YteaadaaghhojfaaGreatDoorW.XW
open Go.RowKit Go.ChangeShapes Go.WideShapes Go.Proofs.YteaadaaghhojfaaGreatDoorW.PrintWords Go.Proofs.YteaadaaghhojfaaGreatDoorW.PrintLast Go.Proofs.YteaadaaghhojfaaGreatDoorW.PrintMore
set_option linter.unusedVariables false
set_option linter.unusedSimpArgs false
def cells_of:DataW Unit→List Value
 | .lit (.int k n)=>[.int k n]
 | .agg l=>go l
 | _=>[]
where go:List (DataW Unit)→List Value
 | []=>[]
 | d ::r=>cells_of d++go r
section
variable {α β:Type} {P:Program} {t e:TypeId}
end
end Go.Proofs.YteaadaaghhojfaaGreatDoorW.XW
