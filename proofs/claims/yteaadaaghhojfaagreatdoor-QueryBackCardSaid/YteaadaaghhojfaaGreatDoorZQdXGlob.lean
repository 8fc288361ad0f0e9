import Derived.Test.YteaadaaghhojfaaGreatDoorZQdXBy
import Derived.Test.YteaadaaghhojfaaGreatDoorZQdShelf
namespace Go.Proofs.YteaadaaghhojfaaGreatDoorW.PrintMore
open Go Go.RowKit Go.Proofs.YteaadaaghhojfaaGreatDoorW.PrintWords Go.Proofs.YteaadaaghhojfaaGreatDoorW.PrintLast
def GInt (w:World):Prop:=∃ m,w.cell? ⟨0,0,none⟩=some (.int .i64 m)
theorem gint_at {w W:World} (h:GInt w) (hb:Below w.heap.size w W):GInt W:=h.imp fun _ hm=>(hb.cell (World.block_lt_of_cell? w _ hm)).trans hm
theorem gint_of {w:World} (hsh:w.ShapedOpen Tryz.prog):GInt w:=Tryz.laysM219.s1_3 w hsh
theorem gint_off {w:World} {g j:Nat} {u:Value} (h:GInt w) (hj:j≠0):GInt (w.setCell ⟨g,j,none⟩ u):=h.imp fun _ hm=>(World.cell?_setCell_other _ _ _ _ (fun e=>hj (congrArg Addr.off e))).trans hm
theorem gint_int {w:World} {g:Nat} {a:Int} (h:GInt w):GInt (w.setCell ⟨g,0,none⟩ (.int .i64 a)):=by
 obtain ⟨m,hm⟩:=h
 by_cases e:(⟨g,0,none⟩:Addr)=⟨0,0,none⟩
 ·exact ⟨a,by rw [← e];rw [← e] at hm;exact World.cell?_setCell_same _ _ _ hm⟩
 ·exact ⟨m,(World.cell?_setCell_other _ _ _ _ e).trans hm⟩
theorem qM {W:World} (h:GInt W:=by first|exact HG.out|exact gint_at HG.out HB.out|exact gint_at HG.out (pw_below_drewN (Below.refl _ _) _)|exact gint_at HG.out qC):GInt W:=h
end Go.Proofs.YteaadaaghhojfaaGreatDoorW.PrintMore
