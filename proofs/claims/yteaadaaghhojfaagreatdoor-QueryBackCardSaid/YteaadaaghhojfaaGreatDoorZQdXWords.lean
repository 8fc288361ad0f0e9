import Derived.Test.YteaadaaghhojfaaGreatDoorZQdM0
import Derived.Lib.Join
import Derived.Lib.Bytealg
namespace Go.Proofs.YteaadaaghhojfaaGreatDoorW.XW
open Go.RowKit Go.Proofs.YteaadaaghhojfaaGreatDoorW.PrintWords Go.Proofs.YteaadaaghhojfaaGreatDoorW.PrintLast Go.Proofs.YteaadaaghhojfaaGreatDoorW.PrintMore
set_option linter.unusedVariables false
theorem plain_of_cell {w:World} {a:Addr} {v:Value} (h:w.cell? a=some v):a=⟨a.block,a.off,none⟩:=by
 cases a with
 | mk b o s =>
  cases s with
  | none=>rfl
  | some x=>unfold World.cell? at h;simp at h;split at h<;>simp at h
theorem C_strings {w:World} {A:Option Addr} {l:List ByteArray} (h:Kd.C Kd.string w A l.length l) (hl:l≠[]) :
  ∃ bk o,A=some ⟨bk,o,none⟩∧(∀ (j:Nat) x,l[j]?=some x→w.cell? ⟨bk,o+j,none⟩=some (.string x))∧bk<w.heap.size:=by
 obtain ⟨_,_,h1⟩:=h
 obtain ⟨ad,rfl,h3⟩:=h1 (by cases l<;>simp_all)
 have get:∀ (j:Nat) x,l[j]?=some x→w.cell? (ad.add j)=some (.string x):=by
  intro j x hx
  obtain ⟨c,_,rfl,h2⟩:=h3 j x hx
  have:=h2 0 _ rfl
  simpa [Kd.string,Kd.scalar] using this
 obtain ⟨x,t,rfl⟩:∃ x t,l=x ::t:=by cases l with
  | nil=>exact absurd rfl hl
  | cons x t=>exact ⟨x,t,rfl⟩
 have g0:=get 0 x rfl
 rw [show ad.add 0=ad from rfl] at g0
 have e:=plain_of_cell g0
 refine ⟨ad.block,ad.off,by rw [← e],fun j y hy=>?_,World.block_lt_of_cell? w _ g0⟩
 have:=get j y hy
 rwa [e,add_plain'] at this
where
 add_plain':∀ {g o j:Nat},(⟨g,o,none⟩:Addr).add j=⟨g,o+j,none⟩:=by
  intro g o j;unfold Addr.add;split<;>simp_all
theorem ob_len (A:Option Addr) (n c n' c':Nat):(Value.slice A n c).ownBlock=(Value.slice A n' c').ownBlock:=by cases A<;>rfl
theorem one_byte {a:ByteArray} {c:UInt8} (h:a.data.toList=[c]):a=⟨#[c]⟩:=by
 cases a;rename_i d;cases d;simp at h;subst h;rfl
end Go.Proofs.YteaadaaghhojfaaGreatDoorW.XW
