import Derived.Test.YteaadaaghhojfaaGreatDoorZQdM0
import Derived.SizedLaws
import Derived.ChangeSlices
import Derived.ChangeReads
namespace Go.Proofs.YteaadaaghhojfaaGreatDoorW.XW
open Go.RowKit Go.ChangeShapes Go.WideShapes Go.Proofs.YteaadaaghhojfaaGreatDoorW.PrintWords Go.Proofs.YteaadaaghhojfaaGreatDoorW.PrintLast Go.Proofs.YteaadaaghhojfaaGreatDoorW.PrintMore
set_option linter.unusedVariables false
set_option linter.unusedSimpArgs false
def cells_of:DataW Unit→List Value
 | .lit (.int k n)=>[.int k n]
 | .agg l=>go l
 | _=>[]
where go:List (DataW Unit)→List Value
 | []=>[]
 | d ::r=>cells_of d++go r
theorem mapM_get {α β:Type} {f:α→Option β}:∀ {l:List α} {ys:List β},l.mapM f=some ys→ys.length=l.length∧∀ (i:Nat) (a:α),l[i]?=some a→∃ b,ys[i]?=some b∧f a=some b
 | [],ys,h=>by
  simp at h;subst h
  exact ⟨rfl,fun i a hi=>by simp at hi⟩
 | x ::l,ys,h=>by
  rw [List.mapM_cons] at h
  cases hx:f x with
  | none=>rw [hx] at h;simp at h
  | some b =>
   cases hl:l.mapM f with
   | none=>rw [hx,hl] at h;simp at h
   | some bs =>
    rw [hx,hl] at h
    simp at h
    subst h
    obtain ⟨h1,h2⟩:=mapM_get hl
    refine ⟨by simp [h1],fun i a hi=>?_⟩
    cases i with
    | zero=>simp at hi;subst hi;exact ⟨b,rfl,hx⟩
    | succ i=>simp at hi;obtain ⟨c,hc,hf⟩:=h2 i a hi;exact ⟨c,by simpa using hc,hf⟩
theorem choose_list {α:Type} (Q:Nat→α→Prop):∀ n,(∀ i,i<n→∃ y,Q i y)→∃ ys:List α,ys.length=n∧∀ i y,ys[i]?=some y→Q i y
 | 0,_=>⟨[],rfl,fun i y h=>by simp at h⟩
 | n+1,h=>by
  obtain ⟨ys,hl,hq⟩:=choose_list Q n (fun i hi=>h i (by omega))
  obtain ⟨y,hy⟩:=h n (by omega)
  refine ⟨ys++[y],by simp [hl],fun i z hz=>?_⟩
  by_cases hi:i<n
  ·rw [List.getElem?_append_left (by omega)] at hz;exact hq i z hz
  ·rw [List.getElem?_append_right (by omega)] at hz
   have:i=n:=by
    have:=(List.getElem?_eq_some_iff.1 hz).1
    simp at this;omega
   subst this
   simp [hl] at hz;subst hz;exact hy
def Opens {α:Type} (P:Program) (t:TypeId) (d:Kd α) (ok:α→Prop):Prop :=
 ∀ (H:Type) (enc:TypeId×Value→H) (w:World) (base fuel:Nat) (held:Bool) (cs:List Value) (x:DataW H) (ps:List MemPlace),
  DataW.trod enc P w base (fun _=>true) held fuel t cs=some (x,ps)→(x.weights P t).all (·≤reachBytes)=true→∃ y,d.K w y cs∧ok y
section
variable {α β:Type} {P:Program} {t e:TypeId}
theorem opens_int {k:IntKind} (hu:P.underlying t=some (.int k)):Opens P t (Kd.int k) (fun n=>(Lit.int k n).wf=true):=by
 intro H enc w base fuel held cs x ps h hw
 cases fuel with
 | zero=>cases h
 | succ fuel =>
  unfold DataW.trod at h
  rw [hu] at h
  split at h<;>first|(cases h;done)|skip
  all_goals first|(rename_i h1;cases h1)|skip
  all_goals simp_all
  obtain ⟨⟨rfl,hwf⟩,_⟩:=h
  exact ⟨_,rfl,hwf⟩
theorem opens_string (hu:P.underlying t=some .string):Opens P t Kd.string (fun s=>s.size≤140737488351232):=by
 intro H enc w base fuel held cs x ps h hw
 cases fuel with
 | zero=>cases h
 | succ fuel =>
  unfold DataW.trod at h
  rw [hu] at h
  split at h<;>simp_all
  obtain ⟨_,rfl,_⟩:=h
  refine ⟨_,rfl,?_⟩
  simp [DataW.weights,reachBytes] at hw
  exact hw
theorem cells_get {w:World} {base:Nat} {a:Addr} {n:Nat} {cs:List Value} (h:w.cells? base a n=some cs):cs.length=n∧∀ i u,cs[i]?=some u→w.cell? (a.add i)=some u:=by
 unfold World.cells? at h
 split at h
 ·obtain ⟨h1,h2⟩:=mapM_get h
  refine ⟨by simpa using h1,fun i u hu=>?_⟩
  have hi:i<n:=by
   have:=(List.getElem?_eq_some_iff.1 hu).1
   simp at h1;omega
  obtain ⟨b,hb,hc⟩:=h2 i i (by simp [hi])
  rw [hu] at hb;cases hb;exact hc
 ·cases h
theorem all_append {p:Nat→Bool} {l r:List Nat}:(l++r).all p=true↔l.all p=true∧r.all p=true:=by simp
theorem weightsAll_get {H:Type} {e:TypeId}:∀ {xs:List (DataW H)},(DataW.weightsAll P e xs).all (·≤reachBytes)=true→∀ x∈xs,(x.weights P e).all (·≤reachBytes)=true
 | [],_,_,h=>by cases h
 | y ::ys,h,x,hx=>by
  rw [DataW.weightsAll,all_append] at h
  rcases List.mem_cons.1 hx with rfl|hx
  ·exact h.1
  ·exact weightsAll_get h.2 x hx
theorem opens_slice {d:Kd α} {ok:α→Prop} {B:Nat} (hu:P.underlying t=some (.slice e)) (he:Opens P e d ok) (hsz:P.cellsOf e=d.sz) (hB:P.bytesOf e=B) :
  Opens P t (Kd.slice e d) (fun xs=>xs.length * B≤140737488351232∧∀ x∈xs,ok x):=by
 intro H enc w base fuel held cs x ps h hw
 cases fuel with
 | zero=>cases h
 | succ fuel =>
  unfold DataW.trod at h
  rw [hu] at h
  split at h
  case h_7=>exact ⟨[],⟨none,0,rfl,Nat.le_refl _,⟨rfl,by simp,fun h=>absurd h (Nat.lt_irrefl 0)⟩⟩,by simp,by simp⟩
  case h_8 e2 a len cap he2 =>
   obtain rfl:e=e2:=by cases he2;rfl
   simp only [if_true] at h
   split at h
   case isFalse=>cases h
   case isTrue hb =>
    cases h1:(List.range len).mapM fun i=>(w.cells? base (a.add (i * P.cellsOf e)) (P.cellsOf e)).bind (DataW.trod enc P w base (fun _=>true) held fuel e) with
    | none=>rw [h1] at h;cases h
    | some elems =>
     rw [h1] at h
     simp only [Option.bind_some] at h
     cases h2:(List.range (cap - len)).mapM fun j=>(w.cells? base (a.add ((len+j) * P.cellsOf e)) (P.cellsOf e)).bind (DataW.trod enc P w base (fun _=>true) held fuel e) with
     | none=>rw [h2] at h;cases h
     | some rest =>
      rw [h2] at h
      simp only [Option.map_some,Option.some.injEq,Prod.mk.injEq] at h
      obtain ⟨rfl,_⟩:=h
      rw [DataW.weights,hu] at hw
      simp only [List.all_cons,List.all_append,Bool.and_eq_true,hB,List.length_map] at hw
      obtain ⟨hw0,hw1,_⟩:=hw
      obtain ⟨l1,g1⟩:=mapM_get h1
      have l1':elems.length=len:=by simpa using l1
      obtain ⟨ys,hyl,hys⟩:=choose_list (fun i y=>∃ c,c.length=d.sz∧d.K w y c∧(∀ j u,c[j]?=some u→w.cell? (a.add (i * d.sz+j))=some u)∧ok y) len (fun i hi=>by
       obtain ⟨b,hb1,hb2⟩:=g1 i i (by simp [hi])
       cases hc:w.cells? base (a.add (i * P.cellsOf e)) (P.cellsOf e) with
       | none=>rw [hc] at hb2;cases hb2
       | some c =>
        rw [hc] at hb2
        simp only [Option.bind_some] at hb2
        obtain ⟨c1,c2⟩:=cells_get hc
        obtain ⟨y,hy,hok⟩:=he _ enc w base fuel held c b.1 b.2 (by rw [hb2]) (weightsAll_get (by simpa using hw1) b.1 (List.mem_map.2 ⟨b,List.mem_of_getElem? hb1,rfl⟩))
        refine ⟨y,c,by rw [c1,hsz],hy,fun j u hu=>?_,hok⟩
        have:=c2 j u hu
        rwa [add_add,hsz] at this)
      subst hyl
      refine ⟨ys,⟨some a,cap,rfl,hb.2.1,rfl,by have:=hb.2.2;unfold maxLen at this;omega,fun _=>⟨a,rfl,fun j p hj=>?_⟩⟩,?_,?_⟩
      ·obtain ⟨c,c1,c2,c3,_⟩:=hys j p hj
       exact ⟨c,c1,c2,c3⟩
      ·have hw0:(elems.length+rest.length) * B≤140737488351232:=of_decide_eq_true hw0
       have:ys.length * B≤(elems.length+rest.length) * B:=Nat.mul_le_mul_right _ (by omega)
       omega
      ·intro y hy
       obtain ⟨i,hi⟩:=List.getElem?_of_mem hy
       obtain ⟨_,_,_,_,h⟩:=hys i y hi
       exact h
  all_goals first|(cases h;done)|(rename_i h1;cases h1;done)|simp_all
def OpensFs (P:Program) (fs:List Field) (o:Nat) (d:Kd α) (ok:α→Prop):Prop :=
 ∀ (H:Type) (enc:TypeId×Value→H) (w:World) (base fuel:Nat) (held:Bool) (cs:List Value) (xs:List (DataW H×List MemPlace)),
  cs.length=o+d.sz→(fs.mapM fun f=>DataW.trod enc P w base (fun _=>true) held fuel f.type ((cs.drop f.offset).take (P.cellsOf f.type)))=some xs →
  (DataW.weightsEach P (fs.map (·.type)) (xs.map (·.1))).all (·≤reachBytes)=true→∃ y,d.K w y (cs.drop o)∧ok y
theorem opensFs_one {d:Kd α} {ok:α→Prop} {f:Field} {o:Nat} (ho:f.offset=o) (hf:Opens P f.type d ok) (hsz:P.cellsOf f.type=d.sz):OpensFs P [f] o d ok:=by
 intro H enc w base fuel held cs xs hl h hw
 obtain ⟨l1,g1⟩:=mapM_get h
 obtain ⟨b,hb1,hb2⟩:=g1 0 f rfl
 obtain ⟨x,rfl⟩:∃ x,xs=[x]:=by
  cases xs with
  | nil=>simp at l1
  | cons x t=>simp at l1;subst l1;exact ⟨x,rfl⟩
 cases hb1
 simp only [List.map_cons,List.map_nil,DataW.weightsEach,List.append_nil] at hw
 rw [ho,hsz,List.take_of_length_le (by simp;omega)] at hb2
 exact hf _ enc w base fuel held _ b.1 b.2 hb2 hw
theorem opensFs_cons {d1:Kd α} {d2:Kd β} {ok1:α→Prop} {ok2:β→Prop} {f:Field} {fs:List Field} {o o2:Nat} (ho:f.offset=o) (hf:Opens P f.type d1 ok1) (hsz:P.cellsOf f.type=d1.sz)
  (ho2:o2=o+d1.sz) (hr:OpensFs P fs o2 d2 ok2):OpensFs P (f ::fs) o (Kd.pair d1 d2) (fun x=>ok1 x.1∧ok2 x.2):=by
 subst ho2
 intro H enc w base fuel held cs xs hl h hw
 have hl':cs.length=o+d1.sz+d2.sz:=by rw [hl];show o+(d1.sz+d2.sz)=_;omega
 rw [List.mapM_cons] at h
 cases h1:DataW.trod enc P w base (fun _=>true) held fuel f.type ((cs.drop f.offset).take (P.cellsOf f.type)) with
 | none=>rw [h1] at h;simp at h
 | some b =>
  cases h2:fs.mapM fun f=>DataW.trod enc P w base (fun _=>true) held fuel f.type ((cs.drop f.offset).take (P.cellsOf f.type)) with
  | none=>rw [h1,h2] at h;simp at h
  | some bs =>
   rw [h1,h2] at h
   simp at h
   subst h
   simp only [List.map_cons,DataW.weightsEach,List.all_append,Bool.and_eq_true] at hw
   rw [ho,hsz] at h1
   obtain ⟨y,hy,hyo⟩:=hf _ enc w base fuel held _ b.1 b.2 h1 hw.1
   obtain ⟨z,hz,hzo⟩:=hr _ enc w base fuel held cs bs hl' h2 hw.2
   refine ⟨(y,z),⟨_,_,?_,hy,hz⟩,hyo,hzo⟩
   rw [← List.drop_drop,List.take_append_drop]
theorem opens_struct {d:Kd α} {ok:α→Prop} {fs:Array Field} (hu:P.underlying t=some (.struct fs)) (hf:OpensFs P fs.toList 0 d ok) (hsz:P.cellsOf t=d.sz):Opens P t d ok:=by
 intro H enc w base fuel held cs x ps h hw
 cases fuel with
 | zero=>cases h
 | succ fuel =>
  unfold DataW.trod at h
  rw [hu] at h
  simp only at h
  split at h
  case isFalse=>cases h
  case isTrue hl =>
   cases h1:fs.toList.mapM fun f=>DataW.trod enc P w base (fun _=>true) held fuel f.type ((cs.drop f.offset).take (P.cellsOf f.type)) with
   | none=>rw [h1] at h;cases h
   | some xs =>
    rw [h1] at h
    simp only [Option.map_some,Option.some.injEq,Prod.mk.injEq] at h
    obtain ⟨rfl,_⟩:=h
    rw [DataW.weights,hu] at hw
    have:=hf _ enc w base fuel held cs xs (by rw [hl,hsz];omega) h1 hw
    simpa using this
theorem opens_iso {d:Kd α} {ok:α→Prop} {f:β→α} (g:α→β) (hg:∀ x,f (g x)=x) (h:Opens P t d ok):Opens P t (Kd.iso d f) (fun y=>ok (f y)):=by
 intro H enc w base fuel held cs x ps h1 hw
 obtain ⟨y,hy,hok⟩:=h _ enc w base fuel held cs x ps h1 hw
 exact ⟨g y,by show d.K w (f (g y)) cs;rw [hg];exact hy,by show ok (f (g y));rw [hg];exact hok⟩
theorem weights_at {H:Type}:∀ {ts:List TypeId} {ds:List (DataW H)} {j:Nat} {t:TypeId} {d:DataW H},(DataW.weightsEach P ts ds).all (·≤reachBytes)=true→ts[j]?=some t→ds[j]?=some d→(d.weights P t).all (·≤reachBytes)=true
 | [],_,_,_,_,_,ht,_=>by simp at ht
 | _ ::_,[],_,_,_,_,_,hd=>by simp at hd
 | t0 ::ts,d0 ::ds,0,t,d,h,ht,hd=>by
  simp at ht hd
  subst ht hd
  rw [DataW.weightsEach,all_append] at h
  exact h.1
 | t0 ::ts,d0 ::ds,j+1,t,d,h,ht,hd=>by
  rw [DataW.weightsEach,all_append] at h
  exact weights_at (j:=j) h.2 (by simpa using ht) (by simpa using hd)
theorem open_struct {H:Type} {enc:TypeId×Value→H} {W:World} {d:Kd α} {ok:α→Prop} {v:Value} {x:DataW H} {ps:List MemPlace} {ts:List TypeId} {ds:List (DataW H)} {j:Nat} {r:Reach} {b0:Nat} {fs:Array Field}
  (hu:P.underlying t=some (.struct fs)) (ho:Opens P t d ok) (hv:Value.okWide P W r b0 t v) (h:DataW.Trod enc P W 0 (fun _=>true) true t v x ps)
  (hw:(DataW.weightsEach P ts ds).all (·≤reachBytes)=true) (ht:ts[j]?=some t) (hd:ds[j]?=some x) :
  ∃ cs y,v = .agg cs∧d.K W y cs.toList∧ok y:=by
 obtain ⟨cs,rfl,_⟩:=okWide_struct hu hv
 obtain ⟨fuel,hf⟩:=h
 obtain ⟨y,hy,hok⟩:=ho _ enc W 0 fuel true _ x ps hf (weights_at hw ht hd)
 exact ⟨cs,y,rfl,hy,hok⟩
end
end Go.Proofs.YteaadaaghhojfaaGreatDoorW.XW
