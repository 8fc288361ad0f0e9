import Derived.Lib.Bytealg
import Derived.Sort.Statements
import Derived.Shelf.SlSortCmp.Insertion
namespace Go.Proofs.YteaadaaghhojfaaGreatDoorW.XW
open Go
set_option linter.unusedVariables false
set_option linter.unusedSimpArgs false
theorem bl_cons (a b:UInt8) (x y:List UInt8):Op.bytesLess (a ::x) (b ::y)=true↔a<b∨(a=b∧Op.bytesLess x y=true):=by
 simp [Op.bytesLess]
theorem bl_trans:∀ a b c:List UInt8,Op.bytesLess a b=true→Op.bytesLess b c=true→Op.bytesLess a c=true
 | _,_,[],_,h=>by simp [Op.bytesLess] at h
 | [],_,_ ::_,_,_=>rfl
 | _ ::_,[],_ ::_,h,_=>by simp [Op.bytesLess] at h
 | a ::x,b ::y,c ::z,h1,h2=>by
  rw [bl_cons] at *
  rcases h1 with h1|⟨rfl,h1⟩
  ·rcases h2 with h2|⟨rfl,h2⟩
   ·left;rw [UInt8.lt_iff_toNat_lt] at *;omega
   ·exact .inl h1
  ·rcases h2 with h2|⟨rfl,h2⟩
   ·exact .inl h2
   ·exact .inr ⟨rfl,bl_trans _ _ _ h1 h2⟩
end Go.Proofs.YteaadaaghhojfaaGreatDoorW.XW
