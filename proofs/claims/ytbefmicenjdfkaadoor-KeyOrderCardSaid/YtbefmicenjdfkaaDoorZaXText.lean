import Derived.Lib.Bytealg
import Derived.Sort.Statements
import Derived.Shelf.SlSortCmp.Insertion
namespace Go.Proofs.YtbefmicenjdfkaaDoorW.XW
open Go
set_option linter.unusedVariables false
set_option linter.unusedSimpArgs false
theorem u8_lt_irrefl (a:UInt8):¬ a<a:=by simp
theorem bl_cons (a b:UInt8) (x y:List UInt8):Op.bytesLess (a ::x) (b ::y)=true↔a<b∨(a=b∧Op.bytesLess x y=true):=by
 simp [Op.bytesLess]
theorem cmp_lt:∀ a b:List UInt8,Lib.compareBytes a b<0↔Op.bytesLess a b=true
 | [],[]=>by simp [Lib.compareBytes,Op.bytesLess]
 | [],_ ::_=>by simp [Lib.compareBytes,Op.bytesLess]
 | _ ::_,[]=>by simp [Lib.compareBytes,Op.bytesLess]
 | a ::x,b ::y=>by
  rw [bl_cons,Lib.compareBytes]
  split
  ·rename_i h;simp [h]
  ·rename_i h
   split
   ·rename_i h2
    have hne:a≠b:=fun e=>by subst e;exact u8_lt_irrefl _ h2
    simp [h,hne]
   ·rename_i h2
    have e:a=b:=by
     apply UInt8.toNat_inj.1
     rw [UInt8.lt_iff_toNat_lt] at h h2;omega
    subst e
    simp [cmp_lt x y]
theorem cmp_zero:∀ a b:List UInt8,Lib.compareBytes a b=0↔a=b
 | [],[]=>by simp [Lib.compareBytes]
 | [],_ ::_=>by simp [Lib.compareBytes]
 | _ ::_,[]=>by simp [Lib.compareBytes]
 | a ::x,b ::y=>by
  rw [Lib.compareBytes]
  split
  ·rename_i h
   have hne:a≠b:=fun e=>by subst e;exact u8_lt_irrefl _ h
   simp [hne]
  ·rename_i h
   split
   ·rename_i h2
    have hne:a≠b:=fun e=>by subst e;exact u8_lt_irrefl _ h2
    simp [hne]
   ·rename_i h2
    have e:a=b:=by
     apply UInt8.toNat_inj.1
     rw [UInt8.lt_iff_toNat_lt] at h h2;omega
    subst e
    simp [cmp_zero x y]
theorem bl_irrefl:∀ a:List UInt8,Op.bytesLess a a=false
 | []=>rfl
 | a ::x=>by simp [Op.bytesLess,bl_irrefl x]
theorem bl_trans:∀ a b c:List UInt8,Op.bytesLess a b=true→Op.bytesLess b c=true→Op.bytesLess a c=true
 | _,_,[],_,h=>by simp [Op.bytesLess] at h
 | [],_,_ ::_,_,_=>rfl
 | _ ::_,[],_ ::_,h,_=>by simp [Op.bytesLess] at h
 | a ::x,b ::y,c ::z,h1,h2=>by
  rw [bl_cons] at *
  rcases h1 with h1|⟨rfl,h1⟩
  ·rcases h2 with h2|⟨rfl,h2⟩
   ·left;rw [UInt8.lt_iff_toNat_lt] at *;omega
   ·exact .inl h1
  ·rcases h2 with h2|⟨rfl,h2⟩
   ·exact .inl h2
   ·exact .inr ⟨rfl,bl_trans _ _ _ h1 h2⟩
theorem bl_total:∀ a b:List UInt8,a≠b→Op.bytesLess a b=true∨Op.bytesLess b a=true
 | [],[],h=>absurd rfl h
 | [],_ ::_,_ => .inl rfl
 | _ ::_,[],_ => .inr rfl
 | a ::x,b ::y,h=>by
  rw [bl_cons,bl_cons]
  by_cases e:a=b
  ·subst e
   rcases bl_total x y (fun e=>h (by rw [e])) with h1|h1
   ·exact .inl (.inr ⟨rfl,h1⟩)
   ·exact .inr (.inr ⟨rfl,h1⟩)
  ·have:a.toNat≠b.toNat:=fun h=>e (UInt8.toNat_inj.1 h)
   rcases Nat.lt_or_gt_of_ne this with h1|h1
   ·exact .inl (.inl (UInt8.lt_iff_toNat_lt.2 h1))
   ·exact .inr (.inl (UInt8.lt_iff_toNat_lt.2 h1))
theorem bl_asymm (a b:List UInt8) (h:Op.bytesLess a b=true):Op.bytesLess b a=false:=by
 cases h2:Op.bytesLess b a with
 | false=>rfl
 | true=>have:=bl_trans _ _ _ h h2;rw [bl_irrefl] at this;cases this
theorem ltOf_text {α:Type} (g:α→List UInt8) (x y:α):ltOf (fun x y=>Lib.compareBytes (g x) (g y)) x y=Op.bytesLess (g x) (g y):=by
 unfold ltOf
 rw [Bool.eq_iff_iff,decide_eq_true_iff]
 exact cmp_lt _ _
theorem swo_text {α:Type} (g:α→List UInt8):Sort.SWO (ltOf (fun x y:α=>Lib.compareBytes (g x) (g y))) where
 irrefl x:=by rw [ltOf_text,bl_irrefl]
 trans x y z h1 h2:=by rw [ltOf_text] at *;exact bl_trans _ _ _ h1 h2
 ntrans x y z h1 h2:=by
  rw [ltOf_text] at *
  cases h:Op.bytesLess (g x) (g z) with
  | false=>rfl
  | true =>
   by_cases e:g x=g y
   ·rw [e] at h;rw [h] at h2;cases h2
   ·rcases bl_total _ _ e with h3|h3
    ·rw [h3] at h1;cases h1
    ·have:=bl_trans _ _ _ h3 h;rw [this] at h2;cases h2
end Go.Proofs.YtbefmicenjdfkaaDoorW.XW
