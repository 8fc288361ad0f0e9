import Derived.Test.YtbefmicenjdfkaaDoorZaPTkx0
namespace Go.Proofs.YtbefmicenjdfkaaDoor.PTk
open Go.RowKit Go.Proofs.YtbefmicenjdfkaaDoorW.PrintWords Go.Proofs.YtbefmicenjdfkaaDoorW.PrintLast Go.Proofs.YtbefmicenjdfkaaDoorW.PrintMore
attribute [local go_sem] max2_int min2_int max_two min_two max_three min_three max_four min_four
set_option linter.unusedVariables false
set_option linter.unusedSimpArgs false
structure S41 where
 f0:ByteArray
 f1:(List S52)
def k41:Kd S41:=Kd.iso (Kd.pair Kd.string (Kd.slice 52 k52)) (fun x:S41=>(x.f0,x.f1))
theorem k41_open {w:World} {x:S41} {cs:List Value} (h:k41.K w x cs):∃ A1 c1,cs=[.string x.f0, .slice A1 x.f1.length c1]∧x.f1.length≤c1∧k52.C w A1 x.f1.length x.f1:=by
 obtain ⟨_,_,rfl,rfl,⟨A1,c1,rfl,l1,g1⟩⟩:=h
 exact ⟨A1,c1,rfl,l1,g1⟩
end Go.Proofs.YtbefmicenjdfkaaDoor.PTk
