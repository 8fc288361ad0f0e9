import Derived.Test.YtbefmicenjdfkaaDoorZaWMore
import Derived.Test.YtbefmicenjdfkaaDoorZaWWords
import Derived.Test.YtbefmicenjdfkaaDoorZaWKept
import Derived.Shelf.SlSortCmp.NoneTotal
namespace Go.Proofs.YtbefmicenjdfkaaDoorW.XW
open Go.RowKit
open Go.Sort (HoldsK flatK get_flatK size_flatK putCells)
open Go.Proofs.YtbefmicenjdfkaaDoorW.PrintWords Go.Proofs.YtbefmicenjdfkaaDoorW.PrintLast Go.Proofs.YtbefmicenjdfkaaDoorW.PrintMore
set_option linter.unusedVariables false
set_option linter.unusedSimpArgs false
section
variable {α:Type} [Inhabited α] {enc:α→List Value} {k:Nat}
theorem div_of {j i k:Nat} (hi:i<k):(j * k+i) / k=j:=by
 rw [Nat.mul_comm,Nat.mul_add_div (by omega),Nat.div_eq_of_lt hi,Nat.add_zero]
theorem mod_of {j i k:Nat} (hi:i<k):(j * k+i) % k=i:=by
 rw [Nat.mul_comm,Nat.mul_add_mod,Nat.mod_eq_of_lt hi]
theorem lt_of_place {j i k n:Nat} (hj:j<n) (hi:i<k):j * k+i<n * k:=by
 have h1:(j+1) * k≤n * k:=Nat.mul_le_mul_right k hj
 rw [Nat.succ_mul] at h1;omega
theorem flat_elem (hk:∀ x,(enc x).length=k) (r:List α) (j:Nat) (p:α) (hj:r[j]?=some p):((flatK enc k r.toArray).toList.drop (j * k)).take k=enc p:=by
 obtain ⟨hlt,hp⟩:=List.getElem?_eq_some_iff.1 hj
 apply List.ext_getElem?
 intro i
 rw [List.getElem?_take]
 by_cases hi:i<k
 ·rw [if_pos hi,List.getElem?_drop]
  have ht:j * k+i<r.toArray.size * k:=by simpa using lt_of_place hlt hi
  have e:=get_flatK enc k r.toArray (j * k+i) ht
  rw [div_of hi,mod_of hi] at e
  rw [Array.getElem?_toList,Array.getElem?_eq_getElem (by rw [size_flatK];exact ht)]
  rw [getElem!_pos _ _ (by rw [size_flatK];exact ht)] at e
  rw [e]
  have:r.toArray[j]! = p:=by rw [getElem!_pos r.toArray j (by simpa using hlt)];simpa using hp
  rw [this,getElem!_pos (enc p) i (by rw [hk];exact hi),List.getElem?_eq_getElem]
 ·rw [if_neg hi,List.getElem?_eq_none (by rw [hk];omega)]
theorem sort_own {P:Program} {N:Nat} {fv:Value} (d:Kd α) (e:TypeId) (hk:∀ x,(enc x).length=k) (hsz:d.sz=k)
  (hop:∀ {w base ok x cs},d.M w base ok x cs→cs=enc x) (hmk:∀ w base ok x,d.M w base ok x (enc x))
  {w0 w:World} {P0:Nat→Prop} {u:Value} {l r:List α} (hB:Below w0.heap.size w0 w) (ho:d.R e w w0.heap.size P0 u l) (hlen:r.length=l.length)
  (hcell:∀ blk cap,HoldsK enc k w blk 0 l.toArray→blk<w.heap.size→Calls P N #[.slice (some ⟨blk,0,none⟩) l.length cap,fv] w fun e w'=>e = .returned (.tuple #[])∧∃ n os,w'=sortWorldK enc k w blk 0 n r.toArray os)
  (hnone:∀ A c,l=[]→Calls P N #[.slice A 0 c,fv] w fun e w'=>e = .returned (.tuple #[])∧w'=w) :
  Calls P N #[u,fv] w fun e' w'=>e' = .returned (.tuple #[])∧d.R e w' w0.heap.size (fun k_=>(P0 k_∨w.heap.size≤k_)) u r∧Below w0.heap.size w0 w'∧Kept w w' (fun k_=>P0 k_):=by
 have ho':=ho
 obtain ⟨h0,inner,⟨hil,hown⟩,hrl,hrep⟩:=ho
 by_cases hl:l=[]
 ·subst hl
  obtain rfl:r=[]:=by simpa using hlen
  have hu:∃ A c,u = .slice A 0 c:=by
   rcases hown with ⟨rfl,_⟩|⟨g,cap,cur,rfl,_⟩
   ·exact ⟨_,_,rfl⟩
   ·exact ⟨_,_,rfl⟩
  obtain ⟨A,c,rfl⟩:=hu
  refine (hnone A c rfl).mono ?_
  rintro e' w' ⟨rfl,rfl⟩
  exact ⟨rfl,Kd.R_mono ho' (fun _ h => .inl h),hB,Kept.refl _ _⟩
 ·rcases hown with ⟨_,h⟩|⟨g,cap,cur,rfl,hg,hh,hnc,hcm,hcs,htk⟩
  ·exact absurd (List.length_eq_zero_iff.1 h) hl
  have hP0:P0 g:=h0 g rfl
  have hlt:g<w.heap.size:=blk_lt hh
  rw [hsz] at hil hrl hrep hcs htk
  have hin:∀ (j:Nat) (p:α),l[j]?=some p→(inner.drop (j * k)).take k=enc p:=fun j p hj=>by
   exact hop (hrep j p hj)
  have hcur:∀ t,t<l.length * k→cur[t]?=inner[t]?:=by
   intro t ht
   have e1:=congrArg (·[t]?) htk
   simp only [List.getElem?_take,if_pos ht,Array.getElem?_toList] at e1
   exact e1
  have hH:HoldsK enc k w g 0 l.toArray:=by
   intro t ht
   rw [size_flatK] at ht
   have ht':t<l.length * k:=by simpa using ht
   have hk0:0<k:=by
    rcases Nat.eq_zero_or_pos k with h|h
    ·subst h;omega
    ·exact h
   have hj:t / k<l.length:=Nat.div_lt_of_lt_mul (by rw [Nat.mul_comm];exact ht')
   refine ⟨?_,?_⟩
   ·rw [Nat.zero_add,blk_cell hh,hcur t ht',get_flatK _ _ _ _ ht]
    have he:=hin (t / k) _ (List.getElem?_eq_getElem hj)
    have e2:=congrArg (·[t % k]?) he
    simp only [List.getElem?_take,if_pos (Nat.mod_lt t hk0),List.getElem?_drop] at e2
    rw [Nat.div_add_mod' t k] at e2
    rw [e2]
    have e3:l.toArray[t / k]! = l[t / k]:=by rw [getElem!_pos l.toArray (t / k) (by simpa using hj)];simp
    rw [e3,getElem!_pos (enc l[t / k]) (t % k) (by rw [hk];exact Nat.mod_lt t hk0),List.getElem?_eq_getElem]
    rfl
   ·exact blk_frozen hh _
  refine (hcell g cap hH hlt).mono ?_
  rintro e' w' ⟨rfl,n,os,rfl⟩
  have hheap:∀ i,i<w.heap.size→(sortWorldK enc k w g 0 n r.toArray os).heap[i]?=if g=i then some (.cells (putCells id 0 (flatK enc k r.toArray) cur) e (0,0)) else w.heap[i]?:=by
   intro i hi
   show ((w.heap.modify g _)++os)[i]?=_
   rw [Array.getElem?_append_left (by simpa using hi),Array.getElem?_modify]
   by_cases hgi:g=i
   ·subst hgi
    rw [if_pos rfl,if_pos rfl,hh]
    rfl
   ·rw [if_neg hgi,if_neg hgi]
  have hsize:w.heap.size≤(sortWorldK enc k w g 0 n r.toArray os).heap.size:=by
   show w.heap.size≤((w.heap.modify g _)++os).size
   simp
  refine ⟨rfl,?_,?_,?_⟩
  ·refine ⟨fun k_ hk_ => .inl (h0 k_ hk_),(flatK enc k r.toArray).toList,⟨?_,?_⟩,?_,?_⟩
   ·rw [hsz];simp
   ·refine .inr ⟨g,cap,putCells id 0 (flatK enc k r.toArray) cur,by rw [hlen],hg,by rw [hheap g hlt,if_pos rfl],by omega,hcm,?_,?_⟩
    ·rw [hsz];simpa [putCells] using hcs
    ·rw [hsz]
     have hle:r.length * k≤cap * k:=Nat.mul_le_mul_right k (by omega)
     apply List.ext_getElem?
     intro t
     rw [List.getElem?_take]
     by_cases ht:t<r.length * k
     ·rw [if_pos ht]
      have hF:t<(flatK enc k r.toArray).size:=by rw [size_flatK];simpa using ht
      rw [Array.getElem?_toList,Array.getElem?_toList,Array.getElem?_eq_getElem hF]
      simp only [putCells,Array.getElem?_mapIdx]
      rw [Array.getElem?_eq_getElem (by omega:t<cur.size),Option.map_some,if_pos ⟨Nat.zero_le _,by omega⟩]
      simp only [id_eq,Nat.sub_zero]
      rw [getElem!_pos (flatK enc k r.toArray) t hF]
     ·rw [if_neg ht,List.getElem?_eq_none (by rw [Array.length_toList,size_flatK];simpa using ht)]
   ·rw [hsz];simp
   ·intro j p hj
    rw [hsz,flat_elem hk r j p hj]
    exact hmk _ _ _ _
  ·refine ⟨hB.os,hB.tape,hB.output,Nat.le_trans hB.size hsize,fun i hi=>?_⟩
   rw [hheap i (Nat.lt_of_lt_of_le hi hB.size),if_neg (by omega)]
   exact hB.block i hi
  ·refine ⟨hsize,fun i hi hn=>?_⟩
   rw [hheap i hi,if_neg (by intro h;subst h;exact hn hP0)]
end
end Go.Proofs.YtbefmicenjdfkaaDoorW.XW
