/- A part of the proof: ZTGZ2, ZTHFc, ZTGP5, ZTGY2, ZTGY3, ZTGW7, ZTGZ3. No condition. -/
import Derived.Test.YtdcphpbimeoioaaGreatDoorBT4
import Derived.Test.YtdcphpbimeoioaaGreatDoorProg
section
set_option linter.unusedSectionVars false
namespace Go.Proofs.YtdcphpbimeoioaaGreatDoorE
open Go Go.Proofs
set_option linter.unusedVariables false
set_option linter.unusedSimpArgs false
theorem iadd_hi {a b:Int} (h1:9223372036854775807<a+b) (h2:a+b≤18446744073709551614):iadd .i64 a b=a+b - 18446744073709551616:=by
 unfold iadd;simp [IntKind.wrap,IntKind.bits,IntKind.signed];omega
theorem iadd_lo {a b:Int} (h1:a+b < -9223372036854775808) (h2 : -18446744073709551616≤a+b):iadd .i64 a b=a+b+18446744073709551616:=by
 unfold iadd;simp [IntKind.wrap,IntKind.bits,IntKind.signed];omega
theorem sat_addI (n:Nat) (x y:Int) (o p:Bool) (hx:I64 x) (hy:I64 y):sat_Add n ((x,o,()),(y,p,()),())=some ((addS (x,o,()) (y,p,()),()),((),(),())):=by
 obtain ⟨hx1,hx2⟩:=hx
 obtain ⟨hy1,hy2⟩:=hy
 unfold addS
 cases o with
 | true=>simp [sat_Add]
 | false =>
  cases p with
  | true=>simp [sat_Add]
  | false =>
   simp only [sat_Add,sat_Of,bindN_s,cond_false,ilt_eq,ile_eq]
   by_cases h2:9223372036854775807<x+y
   ·have a1:0<x:=by omega
    have a2:0<y:=by omega
    have a3:x+y - 18446744073709551616<0:=by omega
    rw [iadd_hi h2 (by omega)]
    simp only [a1,a2,a3,h2,decide_true,cond_true,if_true]
   ·by_cases h3:x+y < -9223372036854775808
    ·have a1:¬ 0<x:=by omega
     have a2:x<0:=by omega
     have a4:y<0:=by omega
     have a3:0≤x+y+18446744073709551616:=by omega
     rw [iadd_lo h3 (by omega)]
     simp only [a1,a2,a3,a4,h2,h3,decide_true,decide_false,cond_true,cond_false,if_true,if_false]
    ·rw [iadd64 (by omega) (by omega)]
     by_cases g1:0<x
     ·have g3:¬ x<0:=by omega
      by_cases g2:0<y
      ·have g4:¬ x+y<0:=by omega
       simp only [g1,g2,g3,g4,h2,h3,decide_true,decide_false,cond_true,cond_false,if_false]
      ·simp only [g1,g2,g3,h2,h3,decide_true,decide_false,cond_true,cond_false,if_false]
     ·by_cases g3:x<0
      ·by_cases g2:y<0
       ·have g4:¬ 0≤x+y:=by omega
        simp only [g1,g2,g3,g4,h2,h3,decide_true,decide_false,cond_true,cond_false,if_false]
       ·simp only [g1,g2,g3,h2,h3,decide_true,decide_false,cond_true,cond_false,if_false]
      ·simp only [g1,g3,h2,h3,decide_false,cond_false,if_false]
theorem sat_Add_v (n:Nat) (a b:SM) (ha:I64 a.1) (hb:I64 b.1):sat_Add n (a,b,())=some ((addS a b,()),((),(),())):=sat_addI n a.1 b.1 a.2.1 b.2.1 ha hb
theorem cell_two_v (n:Nat) (a b:CL) (ha:CellFit a) (hb:CellFit b):cell_two n (a,b,())=some ((twoC a b,()),((),(),())):=by
 have hA:=sat_Add_v n a.2.1 b.2.1 ha.2.1 hb.2.1
 obtain ⟨c,s,mn,mx,⟨⟩⟩:=a
 obtain ⟨d,t,mn',mx',⟨⟩⟩:=b
 obtain ⟨⟨p1,p2⟩,_,_,_⟩:=ha
 obtain ⟨⟨q1,q2⟩,_,_,_⟩:=hb
 simp only at p1 p2 q1 q2 hA
 unfold twoC
 simp only [cell_two,cell_Empty,cell_counts,ilt_eq,bindN_s]
 by_cases h1:d<1
 ·simp only [h1,decide_true,cond_true,if_true]
 ·by_cases h2:c<1
  ·simp only [h1,h2,decide_true,decide_false,cond_true,cond_false,if_true,if_false]
  ·have e1:isub .i64 9223372036854775807 d=9223372036854775807 - d:=subM q1 q2 h1
   simp only [h1,h2,decide_false,cond_false,if_false,e1,hA,bindN_s]
   by_cases h3:9223372036854775807 - d<c
   ·simp only [h3,decide_true,cond_true,if_true,bindN_s]
    by_cases h4:mn'<mn<;>by_cases h5:mx<mx'<;>simp only [h4,h5,decide_true,decide_false,cond_true,cond_false,if_true,if_false]
   ·have e2:iadd .i64 c d=c+d:=addM p2 q2 h1 h2 h3
    simp only [h3,decide_false,cond_false,if_false,e2,bindN_s]
    by_cases h4:mn'<mn<;>by_cases h5:mx<mx'<;>simp only [h4,h5,decide_true,decide_false,cond_true,cond_false,if_true,if_false]
theorem cell_merge_l0 (n:Nat) (l:List CL) (hl:l.length≤1000000) (hf:∀ c∈l,CellFit c):∀ (d i g:Nat) (acc:CL),CellFit acc→i+d=l.length→d<g →
  cell_Merge_l0 n g (acc,l,(l.length:Int),(i:Int),())=some (.inl ((l.drop i).foldl twoC acc,()))
 | 0,i,g,acc,ha,hd,hg=>by
  obtain ⟨g,rfl⟩:∃ g',g=g'+1:=⟨g - 1,by omega⟩
  have k:¬ (i:Int)<(l.length:Int):=by omega
  rw [List.drop_of_length_le (by omega)]
  simp [cell_Merge_l0,k]
 | d+1,i,g,acc,ha,hd,hg=>by
  obtain ⟨g,rfl⟩:∃ g',g=g'+1:=⟨g - 1,by omega⟩
  have hi:i<l.length:=by omega
  have k:(i:Int)<(l.length:Int):=by omega
  have k0:(0:Int)≤i:=by omega
  have hx:=hf _ (List.getElem_mem hi)
  have hT:=cell_two_v n acc l[i] ha hx
  have ih:=cell_merge_l0 n l hl hf d (i+1) g (twoC acc l[i]) (twoC_fit ha hx) (by omega) (by omega)
  rw [drop_eq hi,List.foldl_cons]
  simp only [cell_Merge_l0,ilt_eq,ile_eq,k,k0,decide_true,cond_true,lat_eq,iN,Int.toNat_natCast,List.getElem?_eq_getElem hi,bindN_s,hT,iadd1 (i:=i) (by omega),bindL_id2,ih]
theorem cell_Merge_v {n:Nat} (hn:Big n) (l:List CL) (hl:l.length≤1000000) (hf:∀ c∈l,CellFit c):cell_Merge n (l,())=some ((l.foldl twoC zC,()),((),())):=by
 have h:=cell_merge_l0 n l hl hf l.length 0 n zC zC_fit (by omega) (by unfold Big at hn;omega)
 rw [show ((0:Nat):Int)=0 from rfl,List.drop_zero] at h
 have h':cell_Merge_l0 n n (((0:Int),((0:Int),false,()),(0:Int),(0:Int),()),l,(l.length:Int),(0:Int),())=some (.inl (l.foldl twoC zC,())):=h
 simp only [cell_Merge,ilen,h',bindL_inl]
theorem cell_Value_v (n:Nat) (c:CL) (agg:Int):cell_Value n (c,agg,())=some ((valC c agg,()),((),(),())):=by
 unfold valC
 simp only [cell_Value,sat_Of,bindN_s,ieq_eq]
 by_cases h1:agg=1
 ·simp [h1]
 ·by_cases h2:agg=2
  ·simp [h2]
  ·by_cases h3:agg=3
   ·simp [h3]
   ·by_cases h4:agg=4
    ·simp [h4]
    ·simp [h1,h2,h3,h4]
def FitMp (m:List (PK×CL)):Prop:=∀ e∈m,CellFit e.2
theorem mget_fit {k:PK}:∀ {m:List (PK×CL)},FitMp m→CellFit (mget eqK k zC m)
 | [],_=>zC_fit
 | p ::r,h=>by
  rw [mget]
  cases eqK k p.1 with
  | true=>exact h p List.mem_cons_self
  | false=>exact mget_fit fun e he=>h e (List.mem_cons_of_mem _ he)
theorem mput_fit {k:PK} {v:CL} (hv:CellFit v):∀ {m:List (PK×CL)},FitMp m→FitMp (mput eqK k v m)
 | [],_=>fun e he=>by
  rw [mput,List.mem_singleton] at he;rw [he];exact hv
 | p ::r,h=>fun e he=>by
  rw [mput] at he
  cases hq:eqK k p.1 with
  | true =>
   rw [hq,cond_true] at he
   rcases List.mem_cons.1 he with he|he
   ·rw [he];exact hv
   ·exact h e (List.mem_cons_of_mem _ he)
  | false =>
   rw [hq,cond_false] at he
   rcases List.mem_cons.1 he with he|he
   ·rw [he];exact h p List.mem_cons_self
   ·exact mput_fit hv (fun e he=>h e (List.mem_cons_of_mem _ he)) e he
theorem mput_len {k:PK} {v:CL}:∀ m:List (PK×CL),(mput eqK k v m).length≤m.length+1
 | []=>by simp [mput]
 | p ::r=>by
  rw [mput]
  cases eqK k p.1 with
  | true=>simp
  | false=>have:=mput_len (k:=k) (v:=v) r;simp;omega
theorem stepM_fit {q:QY} {m:List (PK×CL)} {x:IT} (hm:FitMp m) (hx:CellFit x.2.2.1):FitMp (stepM q m x):=by
 unfold stepM
 cases okI q x with
 | none=>exact hm
 | some g=>exact mput_fit (twoC_fit (twoC_fit zC_fit (mget_fit hm)) hx) hm
theorem stepM_len (q:QY) (m:List (PK×CL)) (x:IT):(stepM q m x).length≤m.length+1:=by
 unfold stepM
 cases okI q x with
 | none=>exact Nat.le_succ _
 | some g=>exact mput_len m
theorem foldM_len (q:QY):∀ (l:List IT) (m:List (PK×CL)),(l.foldl (stepM q) m).length≤m.length+l.length
 | [],m=>by simp
 | x ::l,m=>by
  have h1:=foldM_len q l (stepM q m x)
  have h2:=stepM_len q m x
  rw [List.foldl_cons,List.length_cons];omega
theorem stepA_v {n:Nat} (hn:Big n) (q:QY) (hq:FitQ q) (x:IT) (hx1:x.2.1.size≤100000) (hx2:CellFit x.2.2.1) (m:List (PK×CL)) (hm:FitMp m):stepA n q x m=some (stepM q m x):=by
 have hS:=row_series_v hn x.2.1 hx1
 have hout:=parseK_out x.2.1
 unfold stepA stepM okI
 rw [hS,bindN_s]
 by_cases q1:(parseK x.2.1).2.2=0
 ·have hr:=hout.resolve_right (fun h=>h.1 q1)
  obtain ⟨f1,f2,f3,f4⟩:=rightK_fit hr.2
  by_cases q2:textK (parseK x.2.1).1 (parseK x.2.1).2.1=x.2.1
  ·have hE:cell_Empty n x.2.2=some ((decide (x.2.2.1.1<1),()),((),())):=by simp [cell_Empty]
   rw [hE]
   simp only [q1,q2,decide_true,Bool.and_self,Bool.not_true,cond_false,bindN_s,if_true]
   by_cases q3:x.2.2.1.1<1
   ·simp only [q3,decide_true,cond_true,if_true]
   ·have hF:=query_Fits_v hn q ((parseK x.2.1).1,(parseK x.2.1).2.1,()) (by show (parseK x.2.1).2.1.length≤_;omega) hq.2.1
    simp only at hF
    simp only [q3,decide_false,cond_false,hF,bindN_s,if_false]
    by_cases q4:fitsQ q.2.1 q.2.2.1 (parseK x.2.1).1 (parseK x.2.1).2.1=true
    ·have hG:=query_Group_v hn q ((parseK x.2.1).1,(parseK x.2.1).2.1,()) f2 hq.2.2
     simp only at hG
     have hM:=cell_Merge_v hn [mget eqK (x.1,groupQ q.2.2.2.1 (parseK x.2.1).2.1) zCell m,x.2.2.1] (by simp) (by
      intro c hc
      simp only [List.mem_cons,List.not_mem_nil,or_false] at hc
      rcases hc with rfl|rfl
      ·exact mget_fit hm
      ·exact hx2)
     simp only [q4,Bool.not_true,cond_false,hG,bindN_s,hM,if_true]
     rfl
    ·have q4':fitsQ q.2.1 q.2.2.1 (parseK x.2.1).1 (parseK x.2.1).2.1=false:=by simpa using q4
     simp only [q4',Bool.not_false,cond_true,Bool.false_eq_true,if_false]
  ·simp only [q1,q2,decide_true,decide_false,Bool.and_false,Bool.not_false,cond_true,if_true,if_false]
 ·simp only [q1,decide_false,Bool.false_and,Bool.not_false,cond_true,if_false]
theorem runA_v {n:Nat} (hn:Big n) (q:QY) (hq:FitQ q):∀ (l:List IT) (m:List (PK×CL)),(∀ x∈l,x.2.1.size≤100000∧CellFit x.2.2.1)→FitMp m→runA n q l m=some (l.foldl (stepM q) m)
 | [],m,_,_=>rfl
 | x ::l,m,hl,hm=>by
  obtain ⟨h1,h2⟩:=hl x List.mem_cons_self
  rw [runA,stepA_v hn q hq x h1 h2 m hm,bindN_s,List.foldl_cons]
  exact runA_v hn q hq l _ (fun y hy=>hl y (List.mem_cons_of_mem _ hy)) (stepM_fit hm h2)
theorem rowsA_v {n:Nat} (q:QY):∀ m:List (PK×CL),rowsA n q m=some (m.map (rowM q))
 | []=>rfl
 | e ::m=>by
  have h:rowA n q e=some (rowM q e):=by
   unfold rowA
   rw [cell_Value_v n e.2 q.1,bindN_s];rfl
  rw [rowsA,h,bindN_s,rowsA_v q m,bindN_s];rfl
theorem row_Answer_v {n:Nat} (hn:Big n) (q:QY) (hq:FitQ q) (l:List IT) (hl:FitI l):row_Answer n (q,l,())=some ((answerQ q l,()),((),(),())):=by
 have hl1:=hl.1
 have hR:=query_Right_v hn q hq.2.1 hq.2.2
 have hC:sl_CloneItem n (l,())=some ((l,()),((),())):=by
  have:room l.length 64=true:=room_of (by omega)
  simp [sl_CloneItem,this]
 have hS:=sl_StableItem_v hn l (by omega)
 have hs:=fitI_sorted hl
 have hA:=runA_v hn q hq (stableS ltK l) [] (fun x hx=>hs.2 x hx) (fun e he=>by cases he)
 have hlen:=foldM_len q (stableS ltK l) []
 have hs1:=hs.1
 have b1:Nat.ble (stableS ltK l).length 1000000=true:=by rw [Nat.ble_eq];omega
 have b2:Nat.ble (((stableS ltK l).foldl (stepM q) []).map (rowM q)).length 1000000=true:=by rw [Nat.ble_eq,List.length_map];simp at hlen;omega
 have hrows:=rows_sorted q l (List.Perm.refl _) (sortRow_spec (((stableS ltK l).foldl (stepM q) []).map (rowM q))).1 ((sortRow_spec (((stableS ltK l).foldl (stepM q) []).map (rowM q))).2.imp fun {a b} h=>by rw [ltRow] at h;exact h)
 unfold answerQ
 simp only [row_Answer,hR,bindN_s]
 unfold rightY
 cases rightQ q.1 q.2.1 q.2.2.1 q.2.2.2.1 with
 | false=>simp
 | true =>
  simp only [Bool.not_true,cond_false,hC,bindN_s,hS,b1,cond_true,hA,rowsA_v,b2,hrows,if_true]
end Go.Proofs.YtdcphpbimeoioaaGreatDoorE
end
section
set_option linter.unusedSectionVars false
namespace Go.Proofs.YtdcphpbimeoioaaGreatDoorE
open Go
set_option linter.unusedVariables false
set_option maxRecDepth 100000
abbrev law8_alive_sg:List Sg:=[]
abbrev law8_alive_rs:List Rt:=[.tree .bool]
def law8_alive (n:Nat) (x:SgEl law8_alive_sg):Option (RtEl law8_alive_rs×OutEl law8_alive_sg) :=
  bindN (row_Parse n ((⟨#[51,124,97,61,49,124,53,59,52,124,124,55,33]⟩:ByteArray),())) fun p1 =>
  bindN (row_Parse n ((⟨#[52,124,124,55,59,51,124,124,53]⟩:ByteArray),())) fun p2 =>
  bindN (row_Parse n ((⟨#[51,124,53]⟩:ByteArray),())) fun p3 =>
  bindN (r07_Parse n ((⟨#[115,117,109,32,99,112,117,32,98,121,32,97]⟩:ByteArray),())) fun p4 =>
  bindN (r06_Of n ([(5:Int)],())) fun p5 =>
  bindN (row_Answer n (p4.1.1,[((4:Int),(⟨#[99,112,117,123,97,61,50,125]⟩:ByteArray),p5.1),((4:Int),(⟨#[99,112,117,123,97,61,49,44,98,61,57,125]⟩:ByteArray),p5.1),((4:Int),(⟨#[99,112,117,123,97,61,49,125]⟩:ByteArray),p5.1),((4:Int),(⟨#[109,101,109]⟩:ByteArray),p5.1)],())) fun p6 =>
  bif ieq p1.1.2.1 (0:Int) then
   bif ieq p2.1.2.1 (9:Int) then
    bif ieq p3.1.2.1 (2:Int) then
     bif ieq (ilen p1.1.1) (2:Int) then
      bif ile (0:Int) (1:Int) then
       bindN (lat p1.1.1 (iN (1:Int))) fun v7 =>
       bif ieq v7.1 (4:Int) && (seq v7.2.1 (⟨#[]⟩:ByteArray) && (ieq v7.2.2.1.1 (7:Int) && (beqB v7.2.2.1.2.1 true && true))) then
        bindN (row_Text n (p1.1.1,())) fun p8 =>
        bif seq p8.1.1 (⟨#[51,124,97,61,49,124,53,59,52,124,124,55,33]⟩:ByteArray) then
         bindN (row_Text n ([],())) fun p9 =>
         bif seq p9.1.1 (⟨#[45]⟩:ByteArray) then
          bindN (row_Text n p6.1) fun p10 =>
          bif seq p10.1.1 (⟨#[52,124,97,61,49,124,49,48,59,52,124,97,61,50,124,53]⟩:ByteArray) then
           bindN (row_Right n p6.1) fun p11 =>
           bif p11.1.1 then
            bif ile (0:Int) (0:Int) then
             bindN (lat p1.1.1 (iN (0:Int))) fun v12 =>
             bif ile (0:Int) (1:Int) then
              bindN (lat p1.1.1 (iN (1:Int))) fun v13 =>
              bindN (row_Before n (v12,v13,())) fun p14 =>
              bif p14.1.1 then
               bindN (row_Same n (p1.1.1,p1.1.1,())) fun p15 =>
               bif p15.1.1 then
                bindN (row_Same n (p1.1.1,p6.1)) fun p16 =>
                some ((!p16.1.1,()),())
               else
               some ((false,()),())
              else
              some ((false,()),())
             else none
            else none
           else
           some ((false,()),())
          else
          some ((false,()),())
         else
         some ((false,()),())
        else
        some ((false,()),())
       else
       some ((false,()),())
      else none
     else
     some ((false,()),())
    else
    some ((false,()),())
   else
   some ((false,()),())
  else
  some ((false,()),())
abbrev law8_alive_ent (n:Nat):Ent:=⟨48,law8_alive_sg,law8_alive_rs,law8_alive n⟩
theorem law8_alive_ok (n:Nat):EntOk Tryz.prog (law8_alive_ent n):=ent_ok' mixed (T:=[row_Parse_ent n,r07_Parse_ent n,r06_Of_ent n,row_Answer_ent n,row_Text_ent n,row_Right_ent n,row_Before_ent n,row_Same_ent n]) (tabCons (row_Parse_ok n) (tabCons (r07_Parse_ok n) (tabCons (r06_Of_ok n) (tabCons (row_Answer_ok n) (tabCons (row_Text_ok n) (tabCons (row_Right_ok n) (tabCons (row_Before_ok n) (tabCons (row_Same_ok n) tabNil)))))))) tabLNil fun x=>by kernel_rfl
abbrev law_RowAnswers_sg:List Sg:=[.tree tQuery, .tree (.slice tItem)]
abbrev law_RowAnswers_rs:List Rt:=[.tree .bool]
def law_RowAnswers (n:Nat) (x:SgEl law_RowAnswers_sg):Option (RtEl law_RowAnswers_rs×OutEl law_RowAnswers_sg) :=
  bindN (law8_alive n ()) fun p1 =>
  bif !p1.1.1 then
   some ((false,()),((),(),()))
  else
  bindN (r07_Great n (x.1,())) fun p2 =>
  bif p2.1.1 then
   some ((true,()),((),(),()))
  else
  bindN (r08_Much n x.2) fun p3 =>
  bif p3.1.1 then
   some ((true,()),((),(),()))
  else
  bif roomA ([]:List (El tItem)) x.2.1 64 then
   bindN (row_Answer n (x.1,app ([]:List (El tItem)) x.2.1,())) fun p4 =>
   bindN (r08_Answer n x) fun p5 =>
   bindN (r08_Same n (p4.1.1,p5.1)) fun p6 =>
   bif p6.1.1 then
    bindN (row_Right n p4.1) fun p7 =>
    bif p7.1.1 then
     bindN (r08_Items n (app ([]:List (El tItem)) x.2.1,x.2)) fun p8 =>
     some (p8.1,((),(),()))
    else
    some ((false,()),((),(),()))
   else
   some ((false,()),((),(),()))
  else none
abbrev law_RowAnswers_ent (n:Nat):Ent:=⟨13,law_RowAnswers_sg,law_RowAnswers_rs,law_RowAnswers n⟩
theorem law_RowAnswers_ok (n:Nat):EntOk Tryz.prog (law_RowAnswers_ent n):=ent_ok' mixed (T:=[law8_alive_ent n,r07_Great_ent n,r08_Much_ent n,row_Answer_ent n,r08_Answer_ent n,r08_Same_ent n,row_Right_ent n,r08_Items_ent n]) (tabCons (law8_alive_ok n) (tabCons (r07_Great_ok n) (tabCons (r08_Much_ok n) (tabCons (row_Answer_ok n) (tabCons (r08_Answer_ok n) (tabCons (r08_Same_ok n) (tabCons (row_Right_ok n) (tabCons (r08_Items_ok n) tabNil)))))))) tabLNil fun x=>by kernel_rfl
abbrev law_RowOrder_sg:List Sg:=[.tree tQuery, .tree (.slice tItem), .tree (.int .u8)]
abbrev law_RowOrder_rs:List Rt:=[.tree .bool]
def law_RowOrder_l1 (n:Nat):Nat→SgEl [.tree (.slice tItem), .tree (.int .u8), .boxr tQuery, .tree (.int .i64), .tree (.int .i64)]→Option (SgEl [.tree (.slice tItem), .tree (.int .u8), .boxr tQuery, .tree (.int .i64)] ⊕ SgEl [.tree .bool])
  | 0,_=>none
  | g+1,s =>
    bif ilt s.2.2.2.2.1 s.2.2.2.1 then
     bif ile (0:Int) s.2.2.2.2.1 then
      bindN (lat s.1 (iN s.2.2.2.2.1)) fun v1 =>
      bif ile (0:Int) s.2.2.2.1 then
       bindN (lat s.1 (iN s.2.2.2.1)) fun v2 =>
       bif seq v1.2.1 v2.2.1 then
        bif ile (0:Int) s.2.2.2.2.1 then
         bindN (lat s.1 (iN s.2.2.2.2.1)) fun v3 =>
         bif ile (0:Int) s.2.2.2.1 then
          bindN (lat s.1 (iN s.2.2.2.1)) fun v4 =>
          bif ieq v3.1 v4.1 then
           some (Sum.inr (true,()))
          else
          bindL (law_RowOrder_l1 n g (s.1,s.2.1,s.2.2.1,s.2.2.2.1,iadd .i64 s.2.2.2.2.1 (1:Int),())) (fun a5 =>
           some (Sum.inl a5)) fun b6 =>
          some (Sum.inr b6)
         else none
        else none
       else
       bindL (law_RowOrder_l1 n g (s.1,s.2.1,s.2.2.1,s.2.2.2.1,iadd .i64 s.2.2.2.2.1 (1:Int),())) (fun a7 =>
        some (Sum.inl a7)) fun b8 =>
       some (Sum.inr b8)
      else none
     else none
    else
    some (Sum.inl (s.1,s.2.1,s.2.2.1,s.2.2.2.1,()))
theorem law_RowOrder_l1_ok (n:Nat):∀ g,LEntOk Tryz.prog 14 (nSl law_RowOrder_sg) ⟨1,[.tree (.slice tItem), .tree (.int .u8), .boxr tQuery, .tree (.int .i64), .tree (.int .i64)],2,[.tree (.slice tItem), .tree (.int .u8), .boxr tQuery, .tree (.int .i64)],[.tree .bool],law_RowOrder_l1 n g⟩ g
  | 0=>loop_zero' fun _=>rfl
  | g+1=>loop_step' mixed (T:=[law8_alive_ent n,r07_Great_ent n,r08_Much_ent n,row_Answer_ent n,r08_Same_ent n]) (tabCons (law8_alive_ok n) (tabCons (r07_Great_ok n) (tabCons (r08_Much_ok n) (tabCons (row_Answer_ok n) (tabCons (r08_Same_ok n) tabNil))))) tabLNil (law_RowOrder_l1_ok n g) fun s=>by kernel_rfl
def law_RowOrder_l0 (n:Nat):Nat→SgEl [.tree (.slice tItem), .tree (.int .u8), .boxr tQuery, .tree (.int .i64)]→Option (SgEl [.tree (.slice tItem), .tree (.int .u8), .boxr tQuery] ⊕ SgEl [.tree .bool])
  | 0,_=>none
  | g+1,s =>
    bif ilt s.2.2.2.1 (ilen s.1) then
     bindL (law_RowOrder_l1 n n (s.1,s.2.1,s.2.2.1,s.2.2.2.1,(0:Int),())) (fun a1 =>
      bindL (law_RowOrder_l0 n g (a1.1,a1.2.1,a1.2.2.1,iadd .i64 a1.2.2.2.1 (1:Int),())) (fun a3 =>
       some (Sum.inl a3)) fun b4 =>
      some (Sum.inr b4)) fun b2 =>
     some (Sum.inr b2)
    else
    some (Sum.inl (s.1,s.2.1,s.2.2.1,()))
theorem law_RowOrder_l0_ok (n:Nat):∀ g,LEntOk Tryz.prog 14 (nSl law_RowOrder_sg) ⟨0,[.tree (.slice tItem), .tree (.int .u8), .boxr tQuery, .tree (.int .i64)],0,[.tree (.slice tItem), .tree (.int .u8), .boxr tQuery],[.tree .bool],law_RowOrder_l0 n g⟩ g
  | 0=>loop_zero' fun _=>rfl
  | g+1=>loop_step' mixed (T:=[law8_alive_ent n,r07_Great_ent n,r08_Much_ent n,row_Answer_ent n,r08_Same_ent n]) (tabCons (law8_alive_ok n) (tabCons (r07_Great_ok n) (tabCons (r08_Much_ok n) (tabCons (row_Answer_ok n) (tabCons (r08_Same_ok n) tabNil))))) (tabLCons (law_RowOrder_l1_ok n n) tabLNil) (law_RowOrder_l0_ok n g) fun s=>by kernel_rfl
def law_RowOrder (n:Nat) (x:SgEl law_RowOrder_sg):Option (RtEl law_RowOrder_rs×OutEl law_RowOrder_sg) :=
  bindN (law8_alive n ()) fun p1 =>
  bif !p1.1.1 then
   some ((false,()),((),(),(),()))
  else
  bindN (r07_Great n (x.1,())) fun p2 =>
  bif p2.1.1 then
   some ((true,()),((),(),(),()))
  else
  bindN (r08_Much n (x.2.1,())) fun p3 =>
  bif p3.1.1 then
   some ((true,()),((),(),(),()))
  else
  bif ieq (ilen x.2.1) (0:Int) then
   some ((true,()),((),(),(),()))
  else
  bindL (law_RowOrder_l0 n n (x.2.1,x.2.2.1,x.1,(0:Int),())) (fun a4 =>
   bif ieq (ilen a4.1) (0:Int) then
    none
   else
   bif ile (0:Int) (irem (iconv .i64 a4.2.1) (ilen a4.1)) then
    bif ile (irem (iconv .i64 a4.2.1) (ilen a4.1)) (ilen a4.1) then
     bif ile (ilen a4.1) (ilen a4.1) then
      bif roomA ([]:List (El tItem)) (winI a4.1 (irem (iconv .i64 a4.2.1) (ilen a4.1)) (ilen a4.1)) 64 then
       bif ile (0:Int) (0:Int) then
        bif ile (0:Int) (irem (iconv .i64 a4.2.1) (ilen a4.1)) then
         bif ile (irem (iconv .i64 a4.2.1) (ilen a4.1)) (ilen a4.1) then
          bif roomA (app ([]:List (El tItem)) (winI a4.1 (irem (iconv .i64 a4.2.1) (ilen a4.1)) (ilen a4.1))) (winI a4.1 (0:Int) (irem (iconv .i64 a4.2.1) (ilen a4.1))) 64 then
           bindN (row_Answer n (a4.2.2.1,a4.1,())) fun p6 =>
           bindN (row_Answer n (a4.2.2.1,app (app ([]:List (El tItem)) (winI a4.1 (irem (iconv .i64 a4.2.1) (ilen a4.1)) (ilen a4.1))) (winI a4.1 (0:Int) (irem (iconv .i64 a4.2.1) (ilen a4.1))),())) fun p7 =>
           bindN (r08_Same n (p6.1.1,p7.1)) fun p8 =>
           some (p8.1,((),(),(),()))
          else none
         else none
        else none
       else none
      else none
     else none
    else none
   else none) fun b5 =>
  some (b5,((),(),(),()))
abbrev law_RowOrder_ent (n:Nat):Ent:=⟨14,law_RowOrder_sg,law_RowOrder_rs,law_RowOrder n⟩
theorem law_RowOrder_ok (n:Nat):EntOk Tryz.prog (law_RowOrder_ent n):=ent_ok' mixed (T:=[law8_alive_ent n,r07_Great_ent n,r08_Much_ent n,row_Answer_ent n,r08_Same_ent n]) (tabCons (law8_alive_ok n) (tabCons (r07_Great_ok n) (tabCons (r08_Much_ok n) (tabCons (row_Answer_ok n) (tabCons (r08_Same_ok n) tabNil))))) (tabLCons (law_RowOrder_l0_ok n n) (tabLCons (law_RowOrder_l1_ok n n) tabLNil)) fun x=>by kernel_rfl
abbrev law_RowCounts_sg:List Sg:=[.tree tQuery, .tree (.slice tItem)]
abbrev law_RowCounts_rs:List Rt:=[.tree .bool]
def law_RowCounts_l2 (n:Nat):Nat→SgEl [.own tRow, .own tRow, .tree (.int .i64), .tree (.int .i64), .tree (.int .i64), .tree (.int .i64)]→Option (SgEl [.own tRow, .own tRow, .tree (.int .i64), .tree (.int .i64), .tree (.int .i64)] ⊕ SgEl [])
  | 0,_=>none
  | g+1,s =>
    bif ilt s.2.2.2.2.2.1 (ilen s.1) then
     bif ile (0:Int) s.2.2.2.2.2.1 then
      bindN (lat s.1 (iN s.2.2.2.2.2.1)) fun v1 =>
      bindN (lat s.1 (iN s.2.2.2.2.2.1)) fun v2 =>
      bif ile (0:Int) s.2.2.2.1 then
       bindN (lat s.2.1 (iN s.2.2.2.1)) fun v3 =>
       bindN (lat s.2.1 (iN s.2.2.2.1)) fun v4 =>
       bif ieq v2.1 v4.1 then
        bif ile (0:Int) s.2.2.2.2.2.1 then
         bindN (lat s.1 (iN s.2.2.2.2.2.1)) fun v5 =>
         bindN (lat s.1 (iN s.2.2.2.2.2.1)) fun v6 =>
         bindL (law_RowCounts_l2 n g (s.1,s.2.1,iadd .i64 s.2.2.1 (1:Int),s.2.2.2.1,iadd .i64 s.2.2.2.2.1 v6.2.2.1.1,iadd .i64 s.2.2.2.2.2.1 (1:Int),())) (fun a7 =>
          some (Sum.inl a7)) fun b8 =>
         some (Sum.inr ())
        else none
       else
       bindL (law_RowCounts_l2 n g (s.1,s.2.1,s.2.2.1,s.2.2.2.1,s.2.2.2.2.1,iadd .i64 s.2.2.2.2.2.1 (1:Int),())) (fun a9 =>
        some (Sum.inl a9)) fun b10 =>
       some (Sum.inr ())
      else none
     else none
    else
    some (Sum.inl (s.1,s.2.1,s.2.2.1,s.2.2.2.1,s.2.2.2.2.1,()))
theorem law_RowCounts_l2_ok (n:Nat):∀ g,LEntOk Tryz.prog 16 (nSl law_RowCounts_sg) ⟨2,[.own tRow, .own tRow, .tree (.int .i64), .tree (.int .i64), .tree (.int .i64), .tree (.int .i64)],4,[.own tRow, .own tRow, .tree (.int .i64), .tree (.int .i64), .tree (.int .i64)],[],law_RowCounts_l2 n g⟩ g
  | 0=>loop_zero' fun _=>rfl
  | g+1=>loop_step' mixed (T:=[law8_alive_ent n,r07_Great_ent n,r08_Much_ent n,row_Answer_ent n]) (tabCons (law8_alive_ok n) (tabCons (r07_Great_ok n) (tabCons (r08_Much_ok n) (tabCons (row_Answer_ok n) tabNil)))) tabLNil (law_RowCounts_l2_ok n g) fun s=>by kernel_rfl
def law_RowCounts_l1 (n:Nat):Nat→SgEl [.own tRow, .own tRow, .tree (.int .i64), .tree (.int .i64)]→Option (SgEl [.own tRow, .tree (.int .i64)] ⊕ SgEl [.tree .bool])
  | 0,_=>none
  | g+1,s =>
    bif ilt s.2.2.2.1 (ilen s.2.1) then
     bindL (law_RowCounts_l2 n n (s.1,s.2.1,s.2.2.1,s.2.2.2.1,(0:Int),(0:Int),())) (fun a1 =>
      bif ilt (0:Int) (ilen a1.1) then
       bif ile (0:Int) a1.2.2.2.1 then
        bindN (lat a1.2.1 (iN a1.2.2.2.1)) fun v3 =>
        bindN (lat a1.2.1 (iN a1.2.2.2.1)) fun v4 =>
        bif !(ieq a1.2.2.2.2.1 v4.2.2.1.1) then
         some (Sum.inr (false,()))
        else
        bif ile (0:Int) a1.2.2.2.1 then
         bindN (lat a1.2.1 (iN a1.2.2.2.1)) fun v5 =>
         bindN (lat a1.2.1 (iN a1.2.2.2.1)) fun v6 =>
         bif v6.2.2.1.2.1 then
          some (Sum.inr (false,()))
         else
         bif ile (0:Int) a1.2.2.2.1 then
          bindN (lat a1.2.1 (iN a1.2.2.2.1)) fun v7 =>
          bindN (lat a1.2.1 (iN a1.2.2.2.1)) fun v8 =>
          bif !(seq v8.2.1 (⟨#[]⟩:ByteArray)) then
           some (Sum.inr (false,()))
          else
          bindL (law_RowCounts_l1 n g (a1.1,a1.2.1,a1.2.2.1,iadd .i64 a1.2.2.2.1 (1:Int),())) (fun a9 =>
           some (Sum.inl a9)) fun b10 =>
          some (Sum.inr b10)
         else none
        else none
       else none
      else
      bindL (law_RowCounts_l1 n g (a1.1,a1.2.1,a1.2.2.1,iadd .i64 a1.2.2.2.1 (1:Int),())) (fun a11 =>
       some (Sum.inl a11)) fun b12 =>
      some (Sum.inr b12)) fun b2 =>
     none
    else
    some (Sum.inl (s.1,s.2.2.1,()))
theorem law_RowCounts_l1_ok (n:Nat):∀ g,LEntOk Tryz.prog 16 (nSl law_RowCounts_sg) ⟨1,[.own tRow, .own tRow, .tree (.int .i64), .tree (.int .i64)],2,[.own tRow, .tree (.int .i64)],[.tree .bool],law_RowCounts_l1 n g⟩ g
  | 0=>loop_zero' fun _=>rfl
  | g+1=>loop_step' mixed (T:=[law8_alive_ent n,r07_Great_ent n,r08_Much_ent n,row_Answer_ent n]) (tabCons (law8_alive_ok n) (tabCons (r07_Great_ok n) (tabCons (r08_Much_ok n) (tabCons (row_Answer_ok n) tabNil)))) (tabLCons (law_RowCounts_l2_ok n n) tabLNil) (law_RowCounts_l1_ok n g) fun s=>by kernel_rfl
def law_RowCounts_l0 (n:Nat):Nat→SgEl [.tree (.slice tItem), .boxr tQuery, .tree (.int .i64)]→Option (SgEl [.tree (.slice tItem), .boxr tQuery] ⊕ SgEl [.tree .bool])
  | 0,_=>none
  | g+1,s =>
    bif ilt s.2.2.1 (ilen s.1) then
     bif ile (0:Int) s.2.2.1 then
      bindN (lat s.1 (iN s.2.2.1)) fun v1 =>
      bif ilt (1000000:Int) v1.2.2.1.1 then
       some (Sum.inr (true,()))
      else
      bindL (law_RowCounts_l0 n g (s.1,s.2.1,iadd .i64 s.2.2.1 (1:Int),())) (fun a2 =>
       some (Sum.inl a2)) fun b3 =>
      some (Sum.inr b3)
     else none
    else
    some (Sum.inl (s.1,s.2.1,()))
theorem law_RowCounts_l0_ok (n:Nat):∀ g,LEntOk Tryz.prog 16 (nSl law_RowCounts_sg) ⟨0,[.tree (.slice tItem), .boxr tQuery, .tree (.int .i64)],0,[.tree (.slice tItem), .boxr tQuery],[.tree .bool],law_RowCounts_l0 n g⟩ g
  | 0=>loop_zero' fun _=>rfl
  | g+1=>loop_step' mixed (T:=[law8_alive_ent n,r07_Great_ent n,r08_Much_ent n,row_Answer_ent n]) (tabCons (law8_alive_ok n) (tabCons (r07_Great_ok n) (tabCons (r08_Much_ok n) (tabCons (row_Answer_ok n) tabNil)))) (tabLCons (law_RowCounts_l1_ok n n) (tabLCons (law_RowCounts_l2_ok n n) tabLNil)) (law_RowCounts_l0_ok n g) fun s=>by kernel_rfl
def law_RowCounts (n:Nat) (x:SgEl law_RowCounts_sg):Option (RtEl law_RowCounts_rs×OutEl law_RowCounts_sg) :=
  bindN (law8_alive n ()) fun p1 =>
  bif !p1.1.1 then
   some ((false,()),((),(),()))
  else
  bindN (r07_Great n (x.1,())) fun p2 =>
  bif p2.1.1 then
   some ((true,()),((),(),()))
  else
  bindN (r08_Much n x.2) fun p3 =>
  bif p3.1.1 then
   some ((true,()),((),(),()))
  else
  bindL (law_RowCounts_l0 n n (x.2.1,x.1,(0:Int),())) (fun a4 =>
   bindN (row_Answer n (((1:Int),a4.2.1.2),a4.1,())) fun p6 =>
   bindN (row_Answer n (((1:Int),a4.2.1.2.1,a4.2.1.2.2.1,[],()),a4.1,())) fun p7 =>
   bindL (law_RowCounts_l1 n n (p6.1.1,p7.1.1,(0:Int),(0:Int),())) (fun a8 =>
    some ((ieq a8.2.1 (ilen a8.1),()),((),(),()))) fun b9 =>
   some (b9,((),(),()))) fun b5 =>
  some (b5,((),(),()))
abbrev law_RowCounts_ent (n:Nat):Ent:=⟨16,law_RowCounts_sg,law_RowCounts_rs,law_RowCounts n⟩
theorem law_RowCounts_ok (n:Nat):EntOk Tryz.prog (law_RowCounts_ent n):=ent_ok' mixed (T:=[law8_alive_ent n,r07_Great_ent n,r08_Much_ent n,row_Answer_ent n]) (tabCons (law8_alive_ok n) (tabCons (r07_Great_ok n) (tabCons (r08_Much_ok n) (tabCons (row_Answer_ok n) tabNil)))) (tabLCons (law_RowCounts_l0_ok n n) (tabLCons (law_RowCounts_l1_ok n n) (tabLCons (law_RowCounts_l2_ok n n) tabLNil))) fun x=>by kernel_rfl
end Go.Proofs.YtdcphpbimeoioaaGreatDoorE
end
section
set_option linter.unusedSectionVars false
namespace Go.Proofs.YtdcphpbimeoioaaGreatDoorE
open Go
set_option linter.unusedVariables false
set_option linter.unusedSimpArgs false
theorem r08_Same_v {n:Nat} (hn:Big n) {a b:List (El tRow)} (ha:Lim a):r08_Same n (a,b,())=some ((eqb a b,()),((),(),())):=by
 by_cases h:a.length=b.length
 ·letI:DecidableEq (El tRow):=fun _ _=>Classical.propDecidable _
  have hL:=eq_loop h (L:=fun g i=>r08_Same_l0 n g (a,b,i,())) (fun g=>by simp [r08_Same_l0]) (fun g i h1 h2=>by
   have e:=iadd1 (i:=i) (by omega)
   simp [r08_Same_l0,h1,h2,e,eqb,Prod.ext_iff]
   try (split<;>split<;>first|rfl|(exfalso;simp_all))) (g:=n) (by unfold Big at hn;omega)
  simp only [r08_Same,ilen,h,ieq_eq] at hL ⊢
  simp only [decide_true,Bool.not_true,cond_false,hL]
  by_cases e:a=b<;>simp [e,eqb_f]
 ·have e:a≠b:=fun e=>h (by rw [e])
  have h':¬ (a.length:Int)=(b.length:Int):=by omega
  simp [r08_Same,h',eqb_f e]
theorem r08_Items_v {n:Nat} (hn:Big n) {a b:List (El tItem)} (ha:Lim a):r08_Items n (a,b,())=some ((eqb a b,()),((),(),())):=by
 by_cases h:a.length=b.length
 ·letI:DecidableEq (El tItem):=fun _ _=>Classical.propDecidable _
  have hL:=eq_loop h (L:=fun g i=>r08_Items_l0 n g (a,b,i,())) (fun g=>by simp [r08_Items_l0]) (fun g i h1 h2=>by
   have e:=iadd1 (i:=i) (by omega)
   simp [r08_Items_l0,h1,h2,e,eqb,Prod.ext_iff]
   try (split<;>split<;>first|rfl|(exfalso;simp_all))) (g:=n) (by unfold Big at hn;omega)
  simp only [r08_Items,ilen,h,ieq_eq] at hL ⊢
  simp only [decide_true,Bool.not_true,cond_false,hL]
  by_cases e:a=b<;>simp [e,eqb_f]
 ·have e:a≠b:=fun e=>h (by rw [e])
  have h':¬ (a.length:Int)=(b.length:Int):=by omega
  simp [r08_Items,h',eqb_f e]
end Go.Proofs.YtdcphpbimeoioaaGreatDoorE
end
section
set_option linter.unusedSectionVars false
namespace Go.Proofs.YtdcphpbimeoioaaGreatDoorE
open Go Go.Proofs
set_option linter.unusedVariables false
set_option linter.unusedSimpArgs false
def muchI (l:List (El tItem)):Bool:=decide (100<l.length) || l.any fun r=>decide (300<r.2.1.size)
theorem r08_Much_v {n:Nat} (hn:Big n) (l:List (El tItem)):r08_Much n (l,())=some ((muchI l,()),((),())):=by
 by_cases h:100<l.length
 ·have h':(100:Int)<l.length:=by omega
  simp [r08_Much,muchI,h,h']
 ·have hL:=any_loop (a:=l) (fun r=>decide (300<r.2.1.size)) true (L:=fun g i=>r08_Much_l0 n g (l,i,())) (fun g=>by simp [r08_Much_l0]) (fun g i h1=>by
   have e:=iadd1 (i:=i) (by omega)
   by_cases hp:300<(l[i]).2.1.size
   ·have hp':(300:Int)<(l[i]).2.1.size:=by omega
    simp [r08_Much_l0,h1,e,hp,hp']
   ·have hp':¬ (300:Int)<(l[i]).2.1.size:=by omega
    simp [r08_Much_l0,h1,e,hp,hp']) (g:=n) (by unfold Big at hn;omega)
  have e:¬ (100:Int)<l.length:=by omega
  simp only [r08_Much,ilen,ilt_eq,e,decide_false,cond_false,hL,muchI,h,Bool.false_or]
  generalize l.any _=c
  cases c<;>simp
theorem not_muchI {l:List (El tItem)} (h:muchI l=false):l.length≤100∧∀ r∈l,r.2.1.size≤300:=by
 unfold muchI at h
 rw [Bool.or_eq_false_iff,decide_eq_false_iff_not,List.any_eq_false] at h
 exact ⟨by omega,fun r hr=>by have:=h.2 r hr;simp at this;omega⟩
theorem i64_of {n:Int} (h:(Lit.int .i64 n).wf=true):I64 n:=by
 simp [Lit.wf,IntKind.bits,IntKind.signed,IntKind.min,IntKind.max] at h
 unfold I64
 omega
end Go.Proofs.YtdcphpbimeoioaaGreatDoorE
end
section
set_option linter.unusedSectionVars false
namespace Go.Proofs.YtdcphpbimeoioaaGreatDoorE
open Go Go.Proofs
set_option linter.unusedVariables false
set_option linter.unusedSimpArgs false
set_option maxRecDepth 100000
theorem alive8_v:law8_alive 1000000000000000 ()=some ((true,()),()):=by kernel_rfl
theorem big_n:Big 1000000000000000:=by unfold Big;omega
end Go.Proofs.YtdcphpbimeoioaaGreatDoorE
end
section
set_option linter.unusedSectionVars false
namespace Go.Proofs.YtdcphpbimeoioaaGreatDoorE
open Go Go.Proofs
set_option linter.unusedVariables false
set_option linter.unusedSimpArgs false
theorem toI {a b:Int} (h:a≤b):a≤b:=h
def sumW (w:Int):List (PK×CL)→Int
 | []=>0
 | e ::m=>(if e.1.1=w then e.2.1 else 0)+sumW w m
theorem sumW_app (w:Int):∀ a b:List (PK×CL),sumW w (a++b)=sumW w a+sumW w b
 | [],b=>by simp [sumW]
 | e ::a,b=>by rw [List.cons_append,sumW,sumW,sumW_app w a b];omega
def totI:List IT→Int
 | []=>0
 | x ::l=>(if x.2.2.1.1<1 then 0 else x.2.2.1.1)+totI l
def totM:List (PK×CL)→Int
 | []=>0
 | e ::m=>e.2.1+totM m
theorem totM_app:∀ a b:List (PK×CL),totM (a++b)=totM a+totM b
 | [],b=>by simp [totM]
 | e ::a,b=>by rw [List.cons_append,totM,totM,totM_app a b];omega
theorem totM_nonneg:∀ {m:List (PK×CL)},(∀ e∈m,1≤e.2.1)→0≤totM m
 | [],_=>Int.le_refl 0
 | e ::m,h=>by
  have h1:=toI (h e List.mem_cons_self)
  have h2:=totM_nonneg (m:=m) fun x hx=>h x (List.mem_cons_of_mem _ hx)
  rw [totM];omega
theorem totM_mem:∀ {m:List (PK×CL)} {e:PK×CL},(∀ e∈m,1≤e.2.1)→e∈m→e.2.1≤totM m
 | [],_,_,h=>by cases h
 | a ::m,e,hp,h=>by
  have h1:=hp a List.mem_cons_self
  have h0:=totM_nonneg (m:=m) fun x hx=>hp x (List.mem_cons_of_mem _ hx)
  rw [totM]
  rcases List.mem_cons.1 h with h|h
  ·rw [h];exact Int.le_add_of_nonneg_right h0
  ·have h2:=totM_mem (m:=m) (fun x hx=>hp x (List.mem_cons_of_mem _ hx)) h
   exact Int.le_trans h2 (Int.le_add_of_nonneg_left (Int.le_trans (by decide) (toI h1)))
theorem add_no {x y:Int} (h:x+y≤9223372036854775807):¬ 9223372036854775807 - y<x:=by omega
theorem sum_le {a b c:Int} (h1:a≤b) (h2:b+c≤9223372036854775807):a+c≤9223372036854775807:=by omega
theorem mid_if (a x y b:Int) (p:Prop) [Decidable p]:a+((if p then x+y else 0)+b)=a+((if p then x else 0)+b)+(if p then y else 0):=by split<;>omega
theorem mid_add (a x y b:Int):a+(x+y+b)=a+(x+b)+y:=by omega
theorem two_count {a b:CL} (ha:1≤a.1) (hb:1≤b.1) (h:a.1+b.1≤9223372036854775807):(twoC a b).1=a.1+b.1:=by
 unfold twoC
 rw [if_neg (Int.not_lt.2 hb),if_neg (Int.not_lt.2 ha)]
 show (if 9223372036854775807 - b.1<a.1 then 9223372036854775807 else a.1+b.1)=a.1+b.1
 rw [if_neg (add_no h)]
theorem put_sum {k:PK} {c:CL} {m:List (PK×CL)} (hm:Inv1 m) (hc:1≤c.1) (hb:totM m+c.1≤9223372036854775807) (w:Int) :
  sumW w (putC k c m)=sumW w m+(if k.1=w then c.1 else 0)∧totM (putC k c m)=totM m+c.1:=by
 rcases putC_cases (k:=k) hm hc with ⟨_,h⟩|⟨m1,c0,m2,h1,h2⟩
 ·rw [h,sumW_app,totM_app]
  simp only [sumW,totM]
  exact ⟨by omega,by omega⟩
 ·have hc0:1≤c0.1:=hm.pos (k,c0) (by rw [h1];simp)
  have hle:c0.1≤totM m:=totM_mem hm.pos (e:=(k,c0)) (by rw [h1];simp)
  have hcount:=two_count hc0 hc (sum_le hle hb)
  rw [h2,h1,sumW_app,sumW_app,totM_app,totM_app]
  simp only [sumW,totM,hcount]
  exact ⟨mid_if _ _ _ _ _,mid_add _ _ _ _⟩
def sumK (q:QY) (w:Int):List IT→Int
 | []=>0
 | x ::l=>(if (okI q x).isSome=true∧x.1=w then x.2.2.1.1 else 0)+sumK q w l
theorem pos_part (c t:Int) (ht:0≤t):0≤(if c<1 then 0 else c)+t:=by split<;>omega
theorem pos_if (c:Int):0≤(if c<1 then (0:Int) else c):=by split<;>omega
theorem le_part (c t u:Int):u+t≤u+((if c<1 then 0 else c)+t):=by have:=pos_if c;omega
theorem le_in {m c l:Int} (h:m+(c+l)≤9223372036854775807) (hl:0≤l):m+c≤9223372036854775807:=by omega
theorem le_as {m c l:Int} (h:m+(c+l)≤9223372036854775807):m+c+l≤9223372036854775807:=by omega
theorem totI_nonneg:∀ l:List IT,0≤totI l
 | []=>Int.le_refl 0
 | x ::l=>pos_part _ _ (totI_nonneg l)
theorem fold_sum (q:QY) (w:Int):∀ (l:List IT) (m:List (PK×CL)),Inv1 m→totM m+totI l≤9223372036854775807 →
  sumW w (l.foldl (stepM q) m)=sumW w m+sumK q w l∧totM (l.foldl (stepM q) m)≤totM m+totI l
 | [],m,_,_=>by simp [sumK,totI]
 | x ::l,m,hm,hb=>by
  have hl:=totI_nonneg l
  rw [List.foldl_cons]
  rw [totI] at hb
  have hinv:=stepM_inv (q:=q) hm x
  cases ho:okI q x with
  | none =>
   have hs:stepM q m x=m:=by unfold stepM;rw [ho]
   rw [hs] at hinv ⊢
   obtain ⟨h1,h2⟩:=fold_sum q w l m hinv (Int.le_trans (le_part _ _ _) hb)
   rw [sumK,totI,ho,h1]
   exact ⟨by simp,Int.le_trans h2 (le_part _ _ _)⟩
  | some g =>
   have hs:stepM q m x=putC (x.1,g) x.2.2.1 m:=by unfold stepM;rw [ho]
   rw [hs] at hinv ⊢
   have hc:=okI_pos ho
   rw [if_neg (Int.not_lt.2 hc)] at hb
   obtain ⟨h1,h2⟩:=put_sum (k:=(x.1,g)) hm hc (le_in hb hl) w
   obtain ⟨h3,h4⟩:=fold_sum q w l _ hinv (by rw [h2];exact le_as hb)
   rw [h3,h1,sumK,ho,totI,if_neg (Int.not_lt.2 hc)]
   rw [h2,Int.add_assoc] at h4
   refine ⟨?_,h4⟩
   simp only [Option.isSome_some,true_and]
   exact Int.add_assoc _ _ _
def noBy (q:QY):QY:=(q.1,q.2.1,q.2.2.1,[],())
theorem only_nil (l:List TG):onlyT l []=[]:=by
 unfold onlyT hasT;simp
theorem group_nil (tags:List TG):groupQ [] tags=(⟨#[]⟩:ByteArray):=by unfold groupQ;rw [only_nil];rfl
theorem okI_noBy (q:QY) (x:IT):okI (noBy q) x=(okI q x).map fun _=>(⟨#[]⟩:ByteArray):=by
 unfold okI noBy
 simp only [group_nil]
 split
 ·split
  ·split
   ·rfl
   ·split<;>rfl
  ·rfl
 ·rfl
theorem sumK_noBy (q:QY) (w:Int):∀ l:List IT,sumK (noBy q) w l=sumK q w l
 | []=>rfl
 | x ::l=>by
  rw [sumK,sumK,sumK_noBy q w l,okI_noBy]
  simp
theorem right_noBy {q:QY} (h:rightY q=true):rightY (noBy q)=true:=by
 unfold rightY at *
 obtain ⟨h1,h2,h3,h4⟩:=rightQ_parts h
 unfold rightQ noBy
 simp only [h2,h3,names_nil,decide_true,Bool.and_true]
 rw [Bool.and_eq_true,decide_eq_true_eq,decide_eq_true_eq]
 exact h1
theorem noBy_keys (q:QY):∀ (l:List IT) (m:List (PK×CL)),(∀ e∈m,e.1.2=(⟨#[]⟩:ByteArray))→∀ e∈l.foldl (stepM (noBy q)) m,e.1.2=(⟨#[]⟩:ByteArray)
 | [],m,h=>h
 | x ::l,m,h=>by
  rw [List.foldl_cons]
  refine noBy_keys q l _ fun e he=>?_
  unfold stepM at he
  cases ho:okI (noBy q) x with
  | none=>rw [ho] at he;exact h e he
  | some g =>
   rw [ho] at he
   have hg:g=(⟨#[]⟩:ByteArray):=by
    rw [okI_noBy] at ho
    cases h2:okI q x with
    | none=>rw [h2] at ho;cases ho
    | some g'=>rw [h2] at ho;exact (Option.some.inj ho).symm
   unfold putC at he
   have:=(keys_put e.1 (x.1,g) _ m).1 (List.mem_map.2 ⟨e,he,rfl⟩)
   rcases this with h1|h1
   ·rw [h1];exact hg
   ·obtain ⟨e',he',h2⟩:=List.mem_map.1 h1
    rw [← h2];exact h e' he'
theorem sumW_none {w:Int}:∀ {m:List (PK×CL)},(∀ e∈m,e.1.1≠w)→sumW w m=0
 | [],_=>rfl
 | e ::m,h=>by
  rw [sumW,if_neg (h e List.mem_cons_self),sumW_none fun x hx=>h x (List.mem_cons_of_mem _ hx)];rfl
theorem sumW_one {e:PK×CL}:∀ {m:List (PK×CL)},(m.map (·.1)).Nodup→(∀ x∈m,x.1.2=(⟨#[]⟩:ByteArray))→e∈m→sumW e.1.1 m=e.2.1
 | [],_,_,h=>by cases h
 | a ::m,hn,hg,h=>by
  rw [List.map_cons,List.nodup_cons] at hn
  rcases List.mem_cons.1 h with h|h
  ·subst h
   rw [sumW,if_pos rfl,sumW_none]
   ·simp
   ·intro x hx he
    apply hn.1
    rw [List.mem_map]
    refine ⟨x,hx,Prod.ext he ?_⟩
    rw [hg x (List.mem_cons_of_mem _ hx),hg e List.mem_cons_self]
  ·have hne:a.1.1≠e.1.1:=fun he=>by
    apply hn.1
    rw [List.mem_map]
    refine ⟨e,h,Prod.ext he.symm ?_⟩
    rw [hg e (List.mem_cons_of_mem _ h),hg a List.mem_cons_self]
   rw [sumW,if_neg hne,sumW_one hn.2 (fun x hx=>hg x (List.mem_cons_of_mem _ hx)) h]
   simp
theorem keys_win (q:QY) (w:Int) (l:List IT):(∃ e∈l.foldl (stepM q) [],e.1.1=w)↔∃ x∈l,(okI q x).isSome=true∧x.1=w:=by
 constructor
 ·rintro ⟨e,he,hw⟩
  have:=(keys_fold q e.1 l []).1 (List.mem_map.2 ⟨e,he,rfl⟩)
  rcases this with h|h
  ·cases h
  ·obtain ⟨x,hx⟩:=List.exists_mem_of_ne_nil _ h
   rw [List.mem_filter] at hx
   unfold hit at hx
   rw [Bool.and_eq_true,decide_eq_true_eq,decide_eq_true_eq] at hx
   exact ⟨x,hx.1,by rw [hx.2.1];rfl,hx.2.2.trans hw⟩
 ·rintro ⟨x,hx,ho,hw⟩
  obtain ⟨g,hg⟩:=Option.isSome_iff_exists.1 ho
  have:=(keys_fold q (x.1,g) l []).2 (.inr fun h=>by
   have:x∈l.filter (hit q (x.1,g)):=List.mem_filter.2 ⟨hx,by unfold hit;rw [hg];simp⟩
   rw [h] at this;cases this)
  obtain ⟨e,he,h2⟩:=List.mem_map.1 this
  exact ⟨e,he,by rw [h2];exact hw⟩
def sumR (w:Int):List RW'→Int
 | []=>0
 | r ::l=>(if r.1=w then r.2.2.1.1 else 0)+sumR w l
theorem sumR_map (q:QY) (h:q.1=1) (w:Int):∀ m:List (PK×CL),sumR w (m.map (rowM q))=sumW w m
 | []=>rfl
 | e ::m=>by
  rw [List.map_cons,sumR,sumW,sumR_map q h w m]
  have e1:(rowM q e).1=e.1.1:=rfl
  have e2:(rowM q e).2.2.1.1=e.2.1:=by
   show (valC e.2 q.1).1=e.2.1
   unfold valC;rw [if_pos h]
  rw [e1,e2]
theorem sumR_perm (w:Int) {a b:List RW'} (h:a.Perm b):sumR w a=sumR w b:=by
 induction h with
 | nil=>rfl
 | cons x _ ih=>rw [sumR,sumR,ih]
 | swap x y l=>simp only [sumR];omega
 | trans _ _ ih1 ih2=>rw [ih1,ih2]
theorem answer_rows (q:QY) (l:List IT) (h:rightY q=true):∃ m:List (PK×CL),m=(stableS ltK l).foldl (stepM q) []∧Inv1 m∧(answerQ q l).Perm (m.map (rowM q)):=by
 have E:=fold_eqv q (stableS ltK l) [] [] ⟨inv0,List.Pairwise.nil,List.Perm.refl _⟩
 refine ⟨_,rfl,E.1,?_⟩
 unfold answerQ
 rw [if_pos h]
 have:=E.2.2.map (rowQ q)
 rw [List.map_map] at this
 exact this
def cntR (w:Int) (a:List RW'):Nat:=(a.filter fun r=>decide (r.1=w)).length
def cntB (a:List RW'):List RW'→Nat
 | []=>0
 | r ::b=>cntR r.1 a+cntB a b
theorem cntB_eq (b:List RW') (hb:(b.map (·.1)).Nodup):∀ a:List RW',(∀ r∈a,∃ s∈b,s.1=r.1)→cntB a b=a.length:=by
 have hz:∀ b:List RW',cntB [] b=0:=fun b=>by
  induction b with
  | nil=>rfl
  | cons s b ih=>rw [cntB,ih];rfl
 have hc:∀ (r:RW') (a:List RW') (b:List RW'),(b.map (·.1)).Nodup→cntB (r ::a) b=(if ∃ s∈b,s.1=r.1 then 1 else 0)+cntB a b:=by
  intro r a b
  induction b with
  | nil=>intro _;simp [cntB]
  | cons s b ih =>
   intro hn
   rw [List.map_cons,List.nodup_cons] at hn
   rw [cntB,cntB,ih hn.2]
   unfold cntR
   rw [List.filter_cons]
   by_cases h:r.1=s.1
   ·have h1:¬ ∃ t∈b,t.1=r.1:=fun ⟨t,ht,e⟩=>hn.1 (List.mem_map.2 ⟨t,ht,e.trans h⟩)
    have h2:∃ t∈s ::b,t.1=r.1:=⟨s,List.mem_cons_self,h.symm⟩
    rw [if_neg h1,if_pos h2,if_pos (decide_eq_true h),List.length_cons];omega
   ·have h2:(∃ t∈s ::b,t.1=r.1)↔∃ t∈b,t.1=r.1:=by
     constructor
     ·rintro ⟨t,ht,e⟩
      rcases List.mem_cons.1 ht with rfl|ht
      ·exact absurd e.symm h
      ·exact ⟨t,ht,e⟩
     ·rintro ⟨t,ht,e⟩;exact ⟨t,List.mem_cons_of_mem _ ht,e⟩
    rw [if_neg (by rw [decide_eq_false h];simp)]
    by_cases h3:∃ t∈b,t.1=r.1
    ·rw [if_pos h3,if_pos (h2.2 h3)];omega
    ·rw [if_neg h3,if_neg (fun h4=>h3 (h2.1 h4))];omega
 intro a
 induction a with
 | nil=>intro _;exact hz b
 | cons r a ih =>
  intro h
  rw [hc r a b hb,if_pos (h r List.mem_cons_self),ih fun x hx=>h x (List.mem_cons_of_mem _ hx),List.length_cons];omega
theorem counts_ok (q:QY) (hq:q.1=1) (l:List IT) (h:rightY q=true) (ht:totI l≤9223372036854775807) :
  (∀ r∈answerQ (noBy q) l,sumR r.1 (answerQ q l)=r.2.2.1.1∧r.2.2.1.2.1=false∧r.2.1=(⟨#[]⟩:ByteArray))∧cntB (answerQ q l) (answerQ (noBy q) l)=(answerQ q l).length:=by
 obtain ⟨m,e1,i1,p1⟩:=answer_rows q l h
 obtain ⟨m0,e0,i0,p0⟩:=answer_rows (noBy q) l (right_noBy h)
 have hperm:=stableS_perm l
 have htot:∀ {a b:List IT},a.Perm b→totI a=totI b:=fun {a b} hp=>by
  induction hp with
  | nil=>rfl
  | cons x _ ih=>rw [totI,totI,ih]
  | swap x y l=>simp only [totI];omega
  | trans _ _ ih1 ih2=>rw [ih1,ih2]
 have hb:totM ([]:List (PK×CL))+totI (stableS ltK l)≤9223372036854775807:=by rw [htot hperm,totM];omega
 have hg0:∀ e∈m0,e.1.2=(⟨#[]⟩:ByteArray):=by rw [e0];exact noBy_keys q _ [] fun e he=>by cases he
 have hs:∀ w,sumW w m=sumW w m0:=fun w=>by
  rw [e1,e0,(fold_sum q w _ [] inv0 hb).1,(fold_sum (noBy q) w _ [] inv0 hb).1,sumK_noBy]
 constructor
 ·intro r hr
  obtain ⟨e,he,rfl⟩:=List.mem_map.1 (p0.mem_iff.1 hr)
  have q1:(noBy q).1=1:=hq
  refine ⟨?_,?_,hg0 e he⟩
  ·rw [sumR_perm _ p1,sumR_map q hq]
   show sumW e.1.1 m=(valC e.2 (noBy q).1).1
   rw [hs,sumW_one i0.nodup hg0 he]
   unfold valC;rw [if_pos q1]
  ·show (valC e.2 (noBy q).1).2.1=false
   unfold valC;rw [if_pos q1]
 ·refine cntB_eq _ ?_ _ fun r hr=>?_
  ·have hnod:(m0.map (fun e=>e.1.1)).Nodup:=by
    have:=i0.nodup
    rw [List.Nodup,List.pairwise_map] at this ⊢
    refine List.Pairwise.imp_of_mem ?_ this
    intro a b ha hb hab he
    exact hab (Prod.ext he (by rw [hg0 a ha,hg0 b hb]))
   have hm:=(p0.map (·.1)).nodup_iff.2 (by rw [List.map_map];exact hnod)
   exact hm
  ·obtain ⟨e,he,rfl⟩:=List.mem_map.1 (p1.mem_iff.1 hr)
   have h1:=(keys_win q e.1.1 (stableS ltK l)).1 ⟨e,by rw [← e1];exact he,rfl⟩
   obtain ⟨x,hx,ho,hw⟩:=h1
   have h2:=(keys_win (noBy q) e.1.1 (stableS ltK l)).2 ⟨x,hx,by rw [okI_noBy,Option.isSome_map];exact ho,hw⟩
   obtain ⟨e',he',hw'⟩:=h2
   exact ⟨rowM (noBy q) e',p0.mem_iff.2 (List.mem_map.2 ⟨e',by rw [e0];exact he',rfl⟩),hw'⟩
end Go.Proofs.YtdcphpbimeoioaaGreatDoorE
end
section
set_option linter.unusedSectionVars false
namespace Go.Proofs.YtdcphpbimeoioaaGreatDoorE
open Go Go.Proofs
set_option linter.unusedVariables false
set_option linter.unusedSimpArgs false
set_option maxRecDepth 100000
theorem fitQ_of {q:QY} (h:greatQ q.2.1 q.2.2.1 q.2.2.2.1=false):FitQ q:=by
 obtain ⟨h1,h2,h3,_⟩:=not_greatQ h
 exact ⟨by omega,by have:=h2.1;omega,by omega⟩
theorem cell_ok {c:CL} (h:okE tCell c):CellFit c:=⟨i64_of h.1,i64_of h.2.1.1,i64_of h.2.2.1,i64_of h.2.2.2.1⟩
theorem fitI_of {l:List IT} (ho:okE (.slice tItem) l) (h:muchI l=false):FitI l:=by
 obtain ⟨h1,h2⟩:=not_muchI h
 exact ⟨by omega,fun r hr=>⟨by have:=h2 r hr;omega,cell_ok (ho.2 r hr).2.2.1⟩⟩
theorem filter_right {l:List TG} (h:rightT l=true) (p:TG→Bool):rightT (l.filter p)=true:=by
 obtain ⟨h1,h2,h3⟩:=(right_iff l).1 h
 refine (right_iff _).2 ⟨?_,h2.sublist List.filter_sublist,Nat.le_trans (List.length_filter_le _ _) h3⟩
 rw [List.all_eq_true] at h1 ⊢
 exact fun x hx=>h1 x (List.mem_filter.1 hx).1
def GoodG (g:ByteArray):Prop:=groupE g=0∧g.size≤1000
theorem good_text {l:List TG} (h:rightT l=true):GoodG (textT l):=by
 have h1:=parse_text l h
 have h2:=(right_fit h).2
 refine ⟨?_,by rw [← size_bl];exact h2⟩
 unfold groupE
 rw [h1];simp
theorem okI_good {q:QY} {x:IT} {g:ByteArray} (h:okI q x=some g):GoodG g:=by
 unfold okI at h
 split at h
 ·rename_i q1
  split at h
  ·split at h
   ·cases h
   ·split at h
    ·cases h
     have hr:=(parseK_out x.2.1).resolve_right (fun h'=>h'.1 q1)
     have h2:=((rightK_iff _ _).1 hr.2).2
     exact good_text (filter_right h2 _)
    ·cases h
  ·cases h
 ·cases h
theorem parts_good (q:QY):∀ (l acc:List IT),(∀ p∈acc,GoodG p.2.1)→∀ p∈l.foldl (stepQ q) acc,GoodG p.2.1
 | [],acc,h=>h
 | x ::l,acc,h=>by
  rw [List.foldl_cons]
  refine parts_good q l _ fun p hp=>?_
  unfold stepQ at hp
  cases ho:okI q x with
  | none=>rw [ho] at hp;exact h p hp
  | some g =>
   rw [ho] at hp
   rcases intoP_mem hp with h1|h1|⟨z,hz,h1⟩
   ·exact h p h1
   ·rw [h1];exact okI_good ho
   ·rw [h1];exact h z hz
theorem rise_of:∀ {l:List RW},l.Pairwise (fun a b=>befR a b=true)→riseR l=true
 | [],_=>rfl
 | [a],_=>rfl
 | a ::b ::r,h=>by
  have h1:=List.pairwise_cons.1 h
  rw [riseR,h1.1 b List.mem_cons_self,rise_of h1.2];rfl
theorem parts_strict (q:QY) (l:List IT):StrictP (partsQ' q l):=(fold_eqv q (stableS ltK l) [] [] ⟨inv0,List.Pairwise.nil,List.Perm.refl _⟩).2.1
theorem answer_fit (q:QY) (l:List IT) (hl:l.length≤100000):FitR (answerQ q l)∧rightR (answerQ q l)=true:=by
 unfold answerQ
 cases rightY q with
 | false=>exact ⟨⟨by simp,fun r hr=>by simp at hr⟩,rfl⟩
 | true =>
  have hg:=parts_good q (stableS ltK l) [] (fun p hp=>by cases hp)
  have hlen:=fold_len q (stableS ltK l) []
  have hp:=(stableS_perm l).length_eq
  rw [if_pos rfl]
  refine ⟨⟨by rw [List.length_map];unfold partsQ';simp at hlen;omega,fun r hr=>?_⟩,?_⟩
  ·obtain ⟨p,hp,rfl⟩:=List.mem_map.1 hr
   have:=(hg p hp).2
   show p.2.1.size≤_;omega
  ·unfold rightR
   rw [Bool.and_eq_true,List.all_eq_true]
   refine ⟨fun r hr=>?_,rise_of ?_⟩
   ·obtain ⟨p,hp,rfl⟩:=List.mem_map.1 hr
    exact decide_eq_true (hg p hp).1
   ·rw [List.pairwise_map]
    exact (parts_strict q l).imp fun {a b} h=>h
theorem rowAnswers_true:∀ x,okArgs [tQuery, .slice tItem] x→∃ o,law_RowAnswers 1000000000000000 x=some ((true,()),o):=by
 intro x hx
 obtain ⟨q,l,⟨⟩⟩:=x
 obtain ⟨hq,hl,_⟩:=hx
 have hn:=big_n
 have ha:=alive8_v
 generalize 1000000000000000=n at hn ha
 refine ⟨((),(),()),?_⟩
 have g1:=r07_Great_v hn q
 have g2:=r08_Much_v hn l
 cases h1:greatQ q.2.1 q.2.2.1 q.2.2.2.1 with
 | true=>simp only [law_RowAnswers,ha,bindN_s,Bool.not_true,cond_false,g1,h1,cond_true]
 | false =>
  cases h2:muchI l with
  | true=>simp only [law_RowAnswers,ha,bindN_s,Bool.not_true,cond_false,g1,h1,g2,h2,cond_true]
  | false =>
   have fq:=fitQ_of h1
   have fl:=fitI_of hl h2
   have A:=row_Answer_v hn q fq l fl
   have B:=r08_Answer_v hn q fq l fl
   obtain ⟨R1,R2⟩:=answer_fit q l fl.1
   have S:=r08_Same_v hn (a:=answerQ q l) (b:=answerQ q l) (Nat.le_trans R1.1 (by decide))
   have T:=row_Right_v hn (answerQ q l) R1
   have U:=r08_Items_v hn (a:=l) (b:=l) (Nat.le_trans fl.1 (by decide))
   have fl1:l.length≤100000:=fl.1
   have r1:room (([]:List (El tItem)).length+l.length) 64=true:=room_of (by simp;omega)
   simp only [law_RowAnswers,ha,bindN_s,Bool.not_true,cond_false,g1,h1,g2,h2,roomA,r1,cond_true,app,List.nil_append,A,B,S,eqb_refl,T,R2,U]
def twin (x y:IT):Bool:=seq x.2.1 y.2.1 && ieq x.1 y.1
theorem order_l1 (n:Nat) (l:List IT) (at':Int) (q:QY) (i:Nat) (hi:i<l.length) (hl:l.length≤1000000):∀ (d k g:Nat),k+d=i→d<g →
  law_RowOrder_l1 n g (l,at',q,(i:Int),(k:Int),())=some (if ((l.take i).drop k).any (fun x=>twin x l[i])=true then .inr (true,()) else .inl (l,at',q,(i:Int),()))
 | 0,k,g,hd,hg=>by
  obtain ⟨g,rfl⟩:∃ g',g=g'+1:=⟨g - 1,by omega⟩
  have c:¬ (k:Int)<(i:Int):=by omega
  rw [List.drop_of_length_le (by simp;omega)]
  simp [law_RowOrder_l1,c]
 | d+1,k,g,hd,hg=>by
  obtain ⟨g,rfl⟩:∃ g',g=g'+1:=⟨g - 1,by omega⟩
  have hk:k<(l.take i).length:=by simp;omega
  have hkl:k<l.length:=by omega
  have c:(k:Int)<(i:Int):=by omega
  have c0:(0:Int)≤k:=by omega
  have c1:(0:Int)≤i:=by omega
  have ih:=order_l1 n l at' q i hi hl d (k+1) g (by omega) (by omega)
  rw [drop_eq hk,List.getElem_take,List.any_cons]
  simp only [law_RowOrder_l1,ilt_eq,ile_eq,ieq_eq,seq_eq,c,c0,c1,decide_true,cond_true,lat_eq,iN,Int.toNat_natCast,List.getElem?_eq_getElem hi,List.getElem?_eq_getElem hkl,bindN_s,iadd1 (i:=k) (by omega),bindL_id1,ih]
  have et:twin l[k] l[i]=(decide (@Eq ByteArray l[k].2.1 l[i].2.1) && decide (@Eq Int l[k].1 l[i].1)):=by unfold twin;rw [seq_eq,ieq_eq]
  rw [et]
  by_cases h1:@Eq ByteArray l[k].2.1 l[i].2.1
  ·by_cases h2:@Eq Int l[k].1 l[i].1
   ·simp only [h1,h2,decide_true,cond_true,Bool.and_self,Bool.true_or,if_true]
   ·simp only [h1,h2,decide_true,decide_false,cond_true,cond_false,Bool.and_false,Bool.false_or]
  ·simp only [h1,decide_false,cond_false,Bool.false_and,Bool.false_or]
theorem order_l0 {n:Nat} (hn:Big n) (l:List IT) (at':Int) (q:QY) (hl:l.length≤1000000):∀ (d i g:Nat),i+d=l.length→d<g →
  law_RowOrder_l0 n g (l,at',q,(i:Int),())=some (.inr (true,())) ∨
  (law_RowOrder_l0 n g (l,at',q,(i:Int),())=some (.inl (l,at',q,()))∧∀ (j:Nat) (hj:j<l.length),i≤j→∀ (k:Nat) (hk:k<j),twin (l[k]'(by omega)) l[j]=false)
 | 0,i,g,hd,hg=>by
  obtain ⟨g,rfl⟩:∃ g',g=g'+1:=⟨g - 1,by omega⟩
  have c:¬ (i:Int)<(l.length:Int):=by omega
  exact .inr ⟨by simp [law_RowOrder_l0,c],fun j hj h=>by omega⟩
 | d+1,i,g,hd,hg=>by
  obtain ⟨g,rfl⟩:∃ g',g=g'+1:=⟨g - 1,by omega⟩
  have hi:i<l.length:=by omega
  have c:(i:Int)<(l.length:Int):=by omega
  have h1:=order_l1 n l at' q i hi hl i 0 n (by omega) (by unfold Big at hn;omega)
  rw [show ((0:Nat):Int)=0 from rfl,List.drop_zero] at h1
  have ih:=order_l0 hn l at' q hl d (i+1) g (by omega) (by omega)
  cases ha:(l.take i).any (fun x=>twin x l[i]) with
  | true =>
   rw [ha,if_pos rfl] at h1
   exact .inl (by simp only [law_RowOrder_l0,ilt_eq,ilen,c,decide_true,cond_true,h1,bindL_inr])
  | false =>
   rw [ha,if_neg (by simp)] at h1
   have e:law_RowOrder_l0 n (g+1) (l,at',q,(i:Int),())=law_RowOrder_l0 n g (l,at',q,((i+1:Nat):Int),()):=by
    simp only [law_RowOrder_l0,ilt_eq,ilen,c,decide_true,cond_true,h1,bindL_inl,iadd1 (i:=i) (by omega),bindL_id1]
   rw [e]
   rcases ih with ih|⟨ih1,ih2⟩
   ·exact .inl ih
   ·refine .inr ⟨ih1,fun j hj hij k hk=>?_⟩
    by_cases hji:j=i
    ·subst hji
     rw [List.any_eq_false] at ha
     have hm:l[k]'(by omega)∈l.take j:=by
      rw [List.mem_take_iff_getElem]
      exact ⟨k,by omega,rfl⟩
     have:=ha _ hm
     simpa using this
    ·exact ih2 j hj (by omega) k hk
theorem rem_nat {a m:Int} (h0:0≤a) (hm:0<m):∃ r:Nat,a.tmod m=(r:Int)∧(r:Int)<m:=by
 have h1:=Int.tmod_nonneg m h0
 have h2:=Int.tmod_lt_of_pos a hm
 exact ⟨(a.tmod m).toNat,by omega,by omega⟩
theorem u8_of {n:Int} (h:(Lit.int .u8 n).wf=true):0≤n∧n≤255:=by
 simp [Lit.wf,IntKind.bits,IntKind.signed,IntKind.min,IntKind.max] at h
 omega
theorem iconv64 {n:Int} (h1 : -9223372036854775808≤n) (h2:n≤9223372036854775807):iconv .i64 n=n:=by unfold iconv;exact wrap64 h1 h2
theorem conv_u8 {n:Int} (h:(Lit.int .u8 n).wf=true):0≤n∧n≤255∧iconv .i64 n=n:=by
 obtain ⟨h1,h2⟩:=u8_of h
 exact ⟨h1,h2,iconv64 (by omega) (by omega)⟩
theorem rowOrder_true:∀ x,okArgs [tQuery, .slice tItem, .int .u8] x→∃ o,law_RowOrder 1000000000000000 x=some ((true,()),o):=by
 intro x hx
 obtain ⟨q,l,at',⟨⟩⟩:=x
 obtain ⟨hq,hl,hat,_⟩:=hx
 have hn:=big_n
 have ha:=alive8_v
 generalize 1000000000000000=n at hn ha
 refine ⟨((),(),(),()),?_⟩
 have g1:=r07_Great_v hn q
 have g2:=r08_Much_v hn l
 cases h1:greatQ q.2.1 q.2.2.1 q.2.2.2.1 with
 | true=>simp only [law_RowOrder,ha,bindN_s,Bool.not_true,cond_false,g1,h1,cond_true]
 | false =>
  cases h2:muchI l with
  | true=>simp only [law_RowOrder,ha,bindN_s,Bool.not_true,cond_false,g1,h1,g2,h2,cond_true]
  | false =>
   have fq:=fitQ_of h1
   have fl:=fitI_of hl h2
   have fl1:l.length≤100000:=fl.1
   by_cases h0:l.length=0
   ·have e:(l.length:Int)=0:=by omega
    simp only [law_RowOrder,ha,bindN_s,Bool.not_true,cond_false,g1,h1,g2,h2,ilen,e,ieq_eq,decide_true,cond_true]
   ·have e:¬ (l.length:Int)=0:=by omega
    have hL:=order_l0 hn l at' q (by omega) l.length 0 n (by omega) (by unfold Big at hn;omega)
    rw [show ((0:Nat):Int)=0 from rfl] at hL
    rcases hL with hL|⟨hL,hA⟩
    ·simp only [law_RowOrder,ha,bindN_s,Bool.not_true,cond_false,g1,h1,g2,h2,ilen,e,ieq_eq,decide_false,hL,bindL_inr]
    ·obtain ⟨u1,u2,ec⟩:=conv_u8 (n:=at') hat
     obtain ⟨r,er,hr⟩:=rem_nat (m:=(l.length:Int)) u1 (by omega)
     have er':irem at' (l.length:Int)=(r:Int):=by unfold irem;exact er
     have hap:ApartI l:=by
      unfold ApartI
      rw [List.pairwise_iff_getElem]
      intro i j hi hj hij hc
      have:=hA j hj (by omega) i hij
      unfold twin at this
      rw [hc.1,hc.2] at this
      simp at this
     have hp:l.Perm (l.drop r++l.take r):=by
      have:=List.perm_append_comm (l₁:=l.take r) (l₂:=l.drop r)
      rw [List.take_append_drop] at this
      exact this
     have ft:FitI (l.drop r++l.take r):=⟨by rw [← hp.length_eq];exact fl.1,fun x hx=>fl.2 x (hp.mem_iff.2 hx)⟩
     have A:=row_Answer_v hn q fq l fl
     have B:=row_Answer_v hn q fq _ ft
     rw [← answer_perm q hap hp] at B
     obtain ⟨R1,R2⟩:=answer_fit q l fl.1
     have S:=r08_Same_v hn (a:=answerQ q l) (b:=answerQ q l) (Nat.le_trans R1.1 (by decide))
     have c0:(0:Int)≤(r:Int):=by omega
     have c1:(r:Int)≤(l.length:Int):=by omega
     have w1:(l.drop r).take (l.length - r)=l.drop r:=List.take_of_length_le (by simp)
     have r1:room (0+(l.length - r)) 64=true:=room_of (by omega)
     have r2:room (l.length - r+min r l.length) 64=true:=room_of (by omega)
     simp only [law_RowOrder,ha,bindN_s,Bool.not_true,cond_false,g1,h1,g2,h2,ilen,e,ieq_eq,ile_eq,decide_false,hL,bindL_inl,ec,er',c0,c1,Int.le_refl,decide_true,cond_true,roomA,app,winI,win_eq,Int.toNat_natCast,w1,List.nil_append,List.length_nil,List.length_drop,r1,Int.toNat_zero,List.drop_zero,Nat.sub_zero,List.length_take,Nat.min_self,r2,A,B,S,eqb_refl]
theorem pos_in (p:Prop) [Decidable p] (z t:Int) (hz:0≤z) (ht:0≤t):0≤(if p then z else 0)+t:=by split<;>omega
theorem cnt_add {s z t:Int} (h0:0≤s) (hz:0≤z) (ht:0≤t) (h:s+(z+t)≤9223372036854775807):iadd .i64 s z=s+z∧0≤s+z∧s+z+t≤9223372036854775807:=⟨iadd64 (by omega) (by omega),by omega,by omega⟩
theorem sumR_nonneg {w:Int}:∀ {a:List RW'},(∀ r∈a,0≤r.2.2.1.1)→0≤sumR w a
 | [],_=>Int.le_refl 0
 | r ::a,h=>by
  exact pos_in _ _ _ (h r List.mem_cons_self) (sumR_nonneg (w:=w) (a:=a) fun x hx=>h x (List.mem_cons_of_mem _ hx))
theorem counts_l2 (n:Nat) (a b:List RW') (i:Nat) (hi:i<b.length) (ha:a.length≤1000000) (hp:∀ r∈a,0≤r.2.2.1.1):∀ (d k g m:Nat) (s:Int),k+d=a.length→m+d≤8000000000000→d<g→0≤s→s+sumR b[i].1 (a.drop k)≤9223372036854775807 →
  law_RowCounts_l2 n g (a,b,(m:Int),(i:Int),s,(k:Int),())=some (.inl (a,b,((m+cntR b[i].1 (a.drop k):Nat):Int),(i:Int),s+sumR b[i].1 (a.drop k),()))
 | 0,k,g,m,s,hd,hm,hg,hs0,hs=>by
  obtain ⟨g,rfl⟩:∃ g',g=g'+1:=⟨g - 1,by omega⟩
  have c:¬ (k:Int)<(a.length:Int):=by omega
  rw [List.drop_of_length_le (by omega)]
  simp [law_RowCounts_l2,c,cntR,sumR]
 | d+1,k,g,m,s,hd,hm,hg,hs0,hs=>by
  obtain ⟨g,rfl⟩:∃ g',g=g'+1:=⟨g - 1,by omega⟩
  have hk:k<a.length:=by omega
  have c:(k:Int)<(a.length:Int):=by omega
  have c0:(0:Int)≤k:=by omega
  have c1:(0:Int)≤i:=by omega
  have hx:=hp _ (List.getElem_mem hk)
  have hrest:=sumR_nonneg (w:=b[i].1) (a:=a.drop (k+1)) fun r hr=>hp r (List.mem_of_mem_drop hr)
  rw [drop_eq hk,sumR] at hs
  rw [drop_eq hk]
  have ecnt:cntR b[i].1 (a[k] ::a.drop (k+1))=(if a[k].1=b[i].1 then 1 else 0)+cntR b[i].1 (a.drop (k+1)):=by
   unfold cntR
   rw [List.filter_cons]
   by_cases h:a[k].1=b[i].1
   ·rw [if_pos (decide_eq_true h),if_pos h,List.length_cons];omega
   ·rw [if_neg (by rw [decide_eq_false h];simp),if_neg h];omega
  rw [ecnt,sumR]
  simp only [law_RowCounts_l2,ilt_eq,ile_eq,ieq_eq,ilen,c,c0,c1,decide_true,cond_true,lat_eq,iN,Int.toNat_natCast,List.getElem?_eq_getElem hi,List.getElem?_eq_getElem hk,bindN_s,iadd1 (i:=k) (by omega),iadd1 (i:=m) (by omega),bindL_id2]
  by_cases h:a[k].1=b[i].1
  ·rw [if_pos h] at hs
   obtain ⟨ea,s1,s2⟩:=cnt_add hs0 hx hrest hs
   have ih:=counts_l2 n a b i hi ha hp d (k+1) g (m+1) (s+a[k].2.2.1.1) (by omega) (by omega) (by omega) s1 s2
   simp only [h,decide_true,cond_true,ea,ih,if_true]
   rw [show m+1+cntR b[i].1 (a.drop (k+1))=m+(1+cntR b[i].1 (a.drop (k+1))) by omega,Int.add_assoc]
  ·rw [if_neg h] at hs
   have ih:=counts_l2 n a b i hi ha hp d (k+1) g m s (by omega) (by omega) (by omega) hs0 (by omega)
   simp only [h,decide_false,cond_false,ih,if_false,Nat.zero_add,Int.zero_add]
theorem cntR_le (w:Int) (a:List RW'):cntR w a≤a.length:=List.length_filter_le _ _
theorem cntB_nil:∀ b:List RW',cntB [] b=0
 | []=>rfl
 | s ::b=>by rw [cntB,cntB_nil b];rfl
theorem counts_l1 {n:Nat} (hn:Big n) (a b:List RW') (ha:a.length≤1000000) (hb:b.length≤1000000) (hp:∀ r∈a,0≤r.2.2.1.1) (hsum:∀ w,sumR w a≤9223372036854775807)
  (hok:0<a.length→∀ r∈b,sumR r.1 a=r.2.2.1.1∧r.2.2.1.2.1=false∧r.2.1=(⟨#[]⟩:ByteArray)):∀ (d i g m:Nat),i+d=b.length→m+d * 1000000≤4000000000000→d<g →
  law_RowCounts_l1 n g (a,b,(m:Int),(i:Int),())=some (.inl (a,((m+cntB a (b.drop i):Nat):Int),()))
 | 0,i,g,m,hd,hm,hg=>by
  obtain ⟨g,rfl⟩:∃ g',g=g'+1:=⟨g - 1,by omega⟩
  have c:¬ (i:Int)<(b.length:Int):=by omega
  rw [List.drop_of_length_le (by omega)]
  simp [law_RowCounts_l1,c,cntB]
 | d+1,i,g,m,hd,hm,hg=>by
  obtain ⟨g,rfl⟩:∃ g',g=g'+1:=⟨g - 1,by omega⟩
  have hi:i<b.length:=by omega
  have c:(i:Int)<(b.length:Int):=by omega
  have c0:(0:Int)≤i:=by omega
  have h2:=counts_l2 n a b i hi ha hp a.length 0 n m 0 (by omega) (by omega) (by unfold Big at hn;omega) (Int.le_refl 0) (by rw [List.drop_zero,Int.zero_add];exact hsum _)
  rw [show ((0:Nat):Int)=0 from rfl,List.drop_zero,Int.zero_add] at h2
  have hcl:=cntR_le b[i].1 a
  have ih:=counts_l1 hn a b ha hb hp hsum hok d (i+1) g (m+cntR b[i].1 a) (by omega) (by omega) (by omega)
  rw [drop_eq hi,cntB]
  rw [show m+(cntR b[i].1 a+cntB a (b.drop (i+1)))=m+cntR b[i].1 a+cntB a (b.drop (i+1)) by omega,← ih]
  by_cases h0:0<a.length
  ·have h0':(0:Int)<(a.length:Int):=by omega
   obtain ⟨k1,k2,k3⟩:=hok h0 b[i] (List.getElem_mem hi)
   simp only [law_RowCounts_l1,ilt_eq,ile_eq,ieq_eq,seq_eq,ilen,c,c0,h0',decide_true,cond_true,h2,bindL_inl,lat_eq,iN,Int.toNat_natCast,List.getElem?_eq_getElem hi,bindN_s,k1,k2,k3,Bool.not_true,cond_false,iadd1 (i:=i) (by omega),bindL_id1]
  ·have h0':¬ (0:Int)<(a.length:Int):=by omega
   simp only [law_RowCounts_l1,ilt_eq,ilen,c,h0',decide_true,decide_false,cond_true,cond_false,h2,bindL_inl,iadd1 (i:=i) (by omega),bindL_id1]
theorem le_two (p:Prop) [Decidable p] (z a b:Int) (hz:0≤z) (h:a≤b):(if p then z else 0)+a≤z+b:=by split<;>omega
theorem le_mul {z t:Int} {n:Nat} (hz:z≤1000000) (ht:t≤(n:Int) * 1000000):(if z<1 then 0 else z)+t≤((n+1:Nat):Int) * 1000000:=by
 rw [show ((n+1:Nat):Int)=(n:Int)+1 from rfl,Int.add_mul]
 split<;>omega
theorem sumW_le (w:Int):∀ {m:List (PK×CL)},(∀ e∈m,1≤e.2.1)→sumW w m≤totM m
 | [],_=>Int.le_refl 0
 | e ::m,h=>by
  have h1:=sumW_le w (m:=m) fun x hx=>h x (List.mem_cons_of_mem _ hx)
  rw [sumW,totM]
  exact le_two _ _ _ _ (Int.le_trans (by decide) (toI (h e List.mem_cons_self))) h1
theorem totI_le:∀ {l:List IT},(∀ x∈l,x.2.2.1.1≤1000000)→totI l≤(l.length:Int) * 1000000
 | [],_=>by simp [totI]
 | x ::l,h=>by
  rw [totI,List.length_cons]
  exact le_mul (h x List.mem_cons_self) (totI_le (l:=l) fun y hy=>h y (List.mem_cons_of_mem _ hy))
theorem totI_perm {a b:List IT} (hp:a.Perm b):totI a=totI b:=by
 induction hp with
 | nil=>rfl
 | cons x _ ih=>rw [totI,totI,ih]
 | swap x y l=>simp only [totI];omega
 | trans _ _ ih1 ih2=>rw [ih1,ih2]
theorem count_rows {q:QY} (hq:q.1=1) (l:List IT) (ht:totI l≤9223372036854775807):(∀ r∈answerQ q l,0≤r.2.2.1.1)∧∀ w,sumR w (answerQ q l)≤9223372036854775807:=by
 cases h:rightY q with
 | false =>
  unfold answerQ
  rw [h]
  exact ⟨fun r hr=>by simp at hr,fun w=>by simp [sumR]⟩
 | true =>
  obtain ⟨m,e1,i1,p1⟩:=answer_rows q l h
  have hb:totM ([]:List (PK×CL))+totI (stableS ltK l)≤9223372036854775807:=by rw [totI_perm (stableS_perm l),totM];omega
  constructor
  ·intro r hr
   obtain ⟨e,he,rfl⟩:=List.mem_map.1 (p1.mem_iff.1 hr)
   have:=i1.pos e he
   show 0≤(valC e.2 q.1).1
   unfold valC
   rw [if_pos hq]
   exact Int.le_trans (by decide) (toI this)
  ·intro w
   rw [sumR_perm w p1,sumR_map q hq]
   have h1:=sumW_le w i1.pos
   have h2:=(fold_sum q w (stableS ltK l) [] inv0 hb).2
   rw [← e1] at h2
   exact Int.le_trans h1 (Int.le_trans h2 hb)
theorem rowCounts_true:∀ x,okArgs [tQuery, .slice tItem] x→∃ o,law_RowCounts 1000000000000000 x=some ((true,()),o):=by
 intro x hx
 obtain ⟨q,l,⟨⟩⟩:=x
 obtain ⟨hq,hl,_⟩:=hx
 have hn:=big_n
 have ha:=alive8_v
 generalize 1000000000000000=n at hn ha
 refine ⟨((),(),()),?_⟩
 have g1:=r07_Great_v hn q
 have g2:=r08_Much_v hn l
 cases h1:greatQ q.2.1 q.2.2.1 q.2.2.2.1 with
 | true=>simp only [law_RowCounts,ha,bindN_s,Bool.not_true,cond_false,g1,h1,cond_true]
 | false =>
  cases h2:muchI l with
  | true=>simp only [law_RowCounts,ha,bindN_s,Bool.not_true,cond_false,g1,h1,g2,h2,cond_true]
  | false =>
   have fq:=fitQ_of h1
   have fl:=fitI_of hl h2
   have fl1:l.length≤100000:=fl.1
   have fl2:=(not_muchI h2).1
   have hL:=any_loop' (a:=l) (fun x=>decide (1000000<x.2.2.1.1)) (l,q,()) (true,()) (L:=fun g i=>law_RowCounts_l0 n g (l,q,i,())) (fun g=>by simp [law_RowCounts_l0,ilen]) (fun g i hi=>by
    have k:(i:Int)<(l.length:Int):=by omega
    have k0:(0:Int)≤i:=by omega
    simp only [law_RowCounts_l0,ilt_eq,ile_eq,ilen,k,k0,decide_true,cond_true,lat_eq,iN,Int.toNat_natCast,List.getElem?_eq_getElem hi,bindN_s,iadd1 (i:=i) (by omega),bindL_id1]) (g:=n) (by unfold Big at hn;omega)
   cases h3:l.any (fun x=>decide (1000000<x.2.2.1.1)) with
   | true =>
    rw [h3,cond_true] at hL
    simp only [law_RowCounts,ha,bindN_s,Bool.not_true,cond_false,g1,h1,g2,h2,hL,bindL_inr]
   | false =>
    rw [h3,cond_false] at hL
    have ht:totI l≤9223372036854775807:=by
     have:=totI_le (l:=l) fun x hx=>by
      rw [List.any_eq_false] at h3
      have:=h3 x hx
      rw [decide_eq_true_eq] at this
      exact Int.not_lt.1 this
     omega
    have fq1:FitQ ((1:Int),q.2):=fq
    have fq2:FitQ (noBy ((1:Int),q.2)):=⟨fq.1,fq.2.1,by unfold noBy;simp⟩
    have A:=row_Answer_v hn ((1:Int),q.2) fq1 l fl
    have B:=row_Answer_v hn (noBy ((1:Int),q.2)) fq2 l fl
    have B':row_Answer n (((1:Int),q.2.1,q.2.2.1,[],()),l,())=some ((answerQ (noBy ((1:Int),q.2)) l,()),((),(),())):=B
    obtain ⟨p1,p2⟩:=count_rows (q:=((1:Int),q.2)) rfl l ht
    have ra:=(answer_fit ((1:Int),q.2) l fl.1).1.1
    have rb:=(answer_fit (noBy ((1:Int),q.2)) l fl.1).1.1
    have key:(0<(answerQ ((1:Int),q.2) l).length→∀ r∈answerQ (noBy ((1:Int),q.2)) l,sumR r.1 (answerQ ((1:Int),q.2) l)=r.2.2.1.1∧r.2.2.1.2.1=false∧r.2.1=(⟨#[]⟩:ByteArray))∧cntB (answerQ ((1:Int),q.2) l) (answerQ (noBy ((1:Int),q.2)) l)=(answerQ ((1:Int),q.2) l).length:=by
     cases hr:rightY ((1:Int),q.2) with
     | true =>
      have hc:=counts_ok ((1:Int),q.2) rfl l hr ht
      exact ⟨fun _=>hc.1,hc.2⟩
     | false =>
      have e:answerQ ((1:Int),q.2) l=[]:=by unfold answerQ;rw [hr];rfl
      rw [e]
      exact ⟨fun h=>absurd h (by simp),cntB_nil _⟩
    generalize answerQ ((1:Int),q.2) l=a at A p1 p2 ra key
    generalize answerQ (noBy ((1:Int),q.2)) l=b at B' rb key
    have hC:=counts_l1 hn a b (by omega) (by omega) p1 p2 key.1 b.length 0 n 0 (by omega) (by omega) (by unfold Big at hn;omega)
    rw [show ((0:Nat):Int)=0 from rfl,List.drop_zero,Nat.zero_add,key.2] at hC
    simp only [law_RowCounts,ha,bindN_s,Bool.not_true,cond_false,g1,h1,g2,h2,hL,bindL_inl,A,B',hC,ilen,ieq_eq,decide_true]
end Go.Proofs.YtdcphpbimeoioaaGreatDoorE
end
