import Derived.Test.YteaadaaghhojfaaGreatDoorZQcPQux0
namespace Go.Proofs.YteaadaaghhojfaaGreatDoor.PQu
open Go.RowKit Go.Proofs.YteaadaaghhojfaaGreatDoorW.PrintWords Go.Proofs.YteaadaaghhojfaaGreatDoorW.PrintLast Go.Proofs.YteaadaaghhojfaaGreatDoorW.PrintMore
attribute [local go_sem] max2_int min2_int max_two min_two max_three min_three max_four min_four
set_option linter.unusedVariables false
set_option linter.unusedSimpArgs false
structure S36 where
 f0:ByteArray
 f1:(List S93)
def k36:Kd S36:=Kd.iso (Kd.pair Kd.string (Kd.slice 93 k93)) (fun x:S36=>(x.f0,x.f1))
theorem k36_open {w:World} {x:S36} {cs:List Value} (h:k36.K w x cs):∃ A1 c1,cs=[.string x.f0, .slice A1 x.f1.length c1]∧x.f1.length≤c1∧k93.C w A1 x.f1.length x.f1:=by
 obtain ⟨_,_,rfl,rfl,⟨A1,c1,rfl,l1,g1⟩⟩:=h
 exact ⟨A1,c1,rfl,l1,g1⟩
end Go.Proofs.YteaadaaghhojfaaGreatDoor.PQu
