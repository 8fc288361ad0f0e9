import Derived.Test.YteaadaaghhojfaaGreatDoorZQdM0
namespace Go.Proofs.YteaadaaghhojfaaGreatDoorW.XP
open Go.RowKit Go.Proofs.YteaadaaghhojfaaGreatDoorW.PrintWords Go.Proofs.YteaadaaghhojfaaGreatDoorW.PrintLast Go.Proofs.YteaadaaghhojfaaGreatDoorW.PrintMore
set_option linter.unusedVariables false
set_option linter.unusedSimpArgs false
theorem wrap_up (i:Nat) (h:i<9223372036854775807):wrap64 ((i:Int)+1)=((i+1:Nat):Int):=by unfold wrap64;omega
theorem Ev_const {α:Type} {o:Option α} {r:α} (h:o=some r):Ev (fun _=>o) r:=⟨0,fun _ _=>h⟩
theorem Ev_bind0 {α β:Type} {o:Option α} {f:Nat→α→Option β} {a:α} {r:β} (h:o=some a) (k:Ev (fun n=>f n a) r):Ev (fun n=>o.bind (f n)) r:=by
 rw [h];simpa using k
theorem Ev_if_pos {α:Type} {c:Prop} [Decidable c] {g f:Nat→Option α} {r:α} (h:c) (k:Ev g r):Ev (fun n=>if c then g n else f n) r:=by simpa [h] using k
theorem Ev_if_neg {α:Type} {c:Prop} [Decidable c] {g f:Nat→Option α} {r:α} (h:¬ c) (k:Ev f r):Ev (fun n=>if c then g n else f n) r:=by simpa [h] using k
theorem Ev_if {α:Type} {c:Prop} [Decidable c] {g f:Nat→Option α} {r q:α} (h:c→Ev g r) (k:¬ c→Ev f q):Ev (fun n=>if c then g n else f n) (if c then r else q):=by
 by_cases hc:c
 ·rw [if_pos hc];exact Ev_if_pos hc (h hc)
 ·rw [if_neg hc];exact Ev_if_neg hc (k hc)
theorem rdOf_nat {α:Type} (d:α) (l:List α) (i:Nat):rdOf d l (i:Int)=l.getD i d:=by simp [rdOf]
theorem rdOf_lt {α:Type} (d:α) (l:List α) (i:Nat) (h:i<l.length):rdOf d l (i:Int)=l[i]:=by rw [rdOf_nat];simp [List.getD,h]
theorem getD_lt {α:Type} (d:α) (l:List α) (i:Nat) (h:i<l.length):l.getD i d=l[i]:=by simp [List.getD,h]
theorem drop_cons {α:Type} (l:List α) (i:Nat) (h:i<l.length):l.drop i=l[i] ::l.drop (i+1):=List.drop_eq_getElem_cons h
theorem ba_eq (a b:ByteArray):a.toList=b.toList↔a=b:=by
 constructor
 ·intro h
  have h2:a.data.toList=b.data.toList:=by rwa [ba_toList,ba_toList] at h
  cases a;cases b;simpa using h2
 ·rintro rfl;rfl
where
 ba_loop:∀ (a:ByteArray) (i:Nat) (r:List UInt8),ByteArray.toList.loop a i r=r.reverse++a.data.toList.drop i:=by
  intro a i r
  unfold ByteArray.toList.loop
  split
  ·rename_i h
   rw [ba_loop a (i+1) _]
   have h':i<a.data.toList.length:=by simpa using h
   rw [List.drop_eq_getElem_cons h',List.reverse_cons,List.append_assoc]
   congr 1
   show _=[_]++_
   congr 1
   simp [ByteArray.get!, h]
  ·rename_i h
   rw [List.drop_eq_nil_of_le (by simpa using h)];simp
 ba_toList:∀ (a:ByteArray),a.toList=a.data.toList:=by
  intro a;unfold ByteArray.toList;rw [ba_loop];simp
end Go.Proofs.YteaadaaghhojfaaGreatDoorW.XP
