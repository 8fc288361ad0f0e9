import Derived.Test.YteaadaaghhojfaaGreatDoorZQcSV
import Derived.Sort.OwnSorted
namespace Go.Proofs.YteaadaaghhojfaaGreatDoorW.SV
open Go Go.Proofs Go.RowKit Go.Shelf Go.Sort
set_option linter.unusedVariables false
set_option linter.unusedSimpArgs false
attribute [local go_sem] Oper.semAt_some
theorem infoS:(Tryz.prog.info? 9).map (fun i=>(i.zero,i.size,i.bytes))=some (some (.string ⟨#[]⟩),1,16):=by kernel_rfl
set_option maxRecDepth 100000 in
set_option maxHeartbeats 2000000 in
theorem appendSeq_calls (Bs:Nat) (sv:Value) (zs:List TX) (hreach:zs.length * 16≤140737488355328) (w:World) (hBs:Bs<w.heap.size) (hc:w.cell? ⟨Bs,0,none⟩=some sv) (hI:Texts w.heap.size w sv zs) :
  Calls Tryz.prog 173 #[.slice none 0 0, .func (.func 140) #[] #[.pointer (some ⟨Bs,0,none⟩)]] w fun e W'=>∃ v,e = .returned v∧W'.ownsRow w.heap.size 9 1 v zs.length (zs.map encStr)∧Below w.heap.size w W':=by
 refine (callsIn_wide (n:=6)).1 ?_
 have hro:Fence.wide.round=none:=rfl
 have h1:1≤6:=by omega
 obtain ⟨i0,hi,hz0,hz1,hz2⟩:=info_parts infoS
 refine callsIn_of_wp_marks Tryz.func173 rfl trivial ?_ hro
 simp only [Tryz.ntmps173,List.size_toArray,List.length_cons,List.length_nil,Nat.reduceAdd,Nat.reduceSub,Array.replicate_succ,Array.replicate_zero,List.push_toArray,List.append_toArray,List.nil_append,List.cons_append]
 gi_wp2
 have bO:=Boxed.new w 23 (.slice none 0 0)
 have hB0:Below w.heap.size w (w.alloc (.cells #[.slice none 0 0] 23)):=(Below.refl _ w).alloc (Nat.le_refl _) _
 refine wpIn_rangeFunc_ownG hro h1 (gf:=140) (lb:=#[.pointer (some ⟨Bs,0,none⟩)]) rfl trivial (enters_of Tryz.func140 (by kernel_rfl) rfl)
  (values_stops Fence.wide (6 - 1) trivial hro (by omega) Bs w.heap.size sv zs hreach (w.alloc (.cells #[.slice none 0 0] 23)) (by simp;omega) (by simp) ((hB0.cell (p:=⟨Bs,0,none⟩) hBs).trans hc) (hI.below hB0)) belowK_t (belowK_b (by simp)) (Below.refl _ _) (fun _=>rfl)
  (fun pre W=>(∃ v,Boxed W w.heap.size 23 v∧W.ownsRow w.heap.size 9 1 v pre.length (pre.map encStr)∧True)∧Below w.heap.size w W)
  (fun _ _ _=>False)
  (OwnFrom.and (Own.from (holdsRow_own w.heap.size w.heap.size 23 9 1 (fun pre:List TX=>pre.length) (fun pre:List TX=>pre.map encStr) (fun pre v=>True)) _) (ownFrom_below (Nat.le_refl _) (by simp)))
  (fun _ _ _ _ _ hs _ _=>hs)
  ⟨⟨_,bO,World.ownsRow_nil _ _ _ _,trivial⟩,hB0⟩
  (fun x=>{ tmps:=#[.slice none 0 0, .func (.func 140) #[] #[.pointer (some ⟨Bs,0,none⟩)], .pointer (some ⟨w.heap.size,0,none⟩),undef, .slice none 0 0, .string ⟨x.toArray⟩, .func (.func 140) #[] #[.pointer (some ⟨Bs,0,none⟩)], .string ⟨x.toArray⟩,undef,undef,undef,undef,undef],defers:=[] }) ?assign ?body ?done ?stop
 case assign =>
  intro l x W K hK
  gi_wp2
  exact hK
 case body =>
  rintro l pre x W ⟨⟨v,hv,hrow,_⟩,hB⟩ hlt
  have hcv:=hv.cell
  have hlt':pre.length<zs.length:=hlt
  gi_wp2_with (gi_at_builtin;refine wpListIn_append_own _ rfl _ _ 23 rfl w.heap.size 9 i0 (.string ⟨#[]⟩) 1 16 Tryz.underlying23 hi hz0 hz1 hz2 rfl (by decide) _ _ _ rfl (hrow.alloc _) ⟨W.heap.size,0,none⟩ 1 1 [.string ⟨x.toArray⟩] rfl rfl (cell_one_new _ _ _) (by simp [Value.oneCell']) (by unfold maxLen;omega) (by omega) (by have:=hB.size;simp;omega) ?_;intro v' w1 hown' hgrow _;obtain ⟨g',cap',rfl⟩:=ownsRow_succ hown';obtain ⟨hv1,hv2,hr2,hk2,hb2⟩:=hv.appended (by decide) hrow hB.size (Nat.le_refl _) hown' hgrow;have hc1:=hv1.cell;have hf1:=hv1.frozen)
  exact ⟨hk2.from _,hb2,⟨_,hv2,by simpa [encStr] using hr2,trivial⟩,hB.trans hb2⟩
 case done =>
  rintro D ys W hD rfl ⟨⟨v,hv,hrow,_⟩,hB⟩ hK
  have hcv:=hv.cell
  gi_wp2
  refine ⟨by simp, .inl ⟨_,_,rfl,run_takeDeferred hK,?_⟩⟩
  exact ⟨_,results_tmp rfl _ _ _,v,rfl,ownsRow_putObj hrow _ hK rfl,hB.trans (belowK_b (w:=w) (Nat.le_refl _) W D _ _ (by simp at hD;omega) hK rfl rfl)⟩
 case stop =>
  rintro D c pre W _ _ h _
  exact h.elim
set_option maxRecDepth 100000 in
set_option maxHeartbeats 2000000 in
theorem collect_calls (Bs:Nat) (sv:Value) (zs:List TX) (hreach:zs.length * 16≤140737488355328) (w:World) (hBs:Bs<w.heap.size) (hc:w.cell? ⟨Bs,0,none⟩=some sv) (hI:Texts w.heap.size w sv zs) :
  Calls Tryz.prog 138 #[.func (.func 140) #[] #[.pointer (some ⟨Bs,0,none⟩)]] w fun e W'=>∃ v,e = .returned v∧W'.ownsRow w.heap.size 9 1 v zs.length (zs.map encStr)∧Below w.heap.size w W':=by
 have hcon:=appendSeq_calls Bs sv zs hreach w hBs hc hI
 clear hc hI
 go_enter Tryz.func138,Tryz.ntmps138
 go_wp2_with (go_at_call 173;refine hcon.mono ?_;rintro e W' ⟨v,rfl,hr,hb⟩)
 go_ret
 exact ⟨v,rfl,hr,hb⟩
def sortedT (zs:List TX):List TX:=zs.mergeSort fun x y=>decide (x≤y)
theorem sortedT_len (zs:List TX):(sortedT zs).length=zs.length:=by unfold sortedT;exact List.length_mergeSort zs
theorem row_opened {w:World} {base:Nat} {e:TypeId} {v:Value} {zs:List TX} (hn:0<zs.length) (hr:w.ownsRow base e 1 v zs.length (zs.map encStr)) :
  ∃ g cap cur,v = .slice (some ⟨g,0,none⟩) zs.length cap∧base≤g∧w.heap[g]?=some (.cells cur e (0,0))∧zs.length≤cap∧cap≤maxLen∧cur.size=cap * 1∧Holds encStr w g 0 zs.toArray:=by
 rcases hr.2 with ⟨_,hz⟩|⟨g,cap,cur,rfl,hbase,hgb,r1,r2,r3,r4⟩
 ·omega
 ·exact ⟨g,cap,cur,rfl,hbase,hgb,r1,r2,r3,holds_of_block hgb (by simpa using r4)⟩
theorem sorted_calls (Bs:Nat) (sv:Value) (zs:List TX) (hreach:zs.length * 16≤140737488355328) (w:World) (hBs:Bs<w.heap.size) (hc:w.cell? ⟨Bs,0,none⟩=some sv) (hI:Texts w.heap.size w sv zs) :
  Calls Tryz.prog 104 #[.func (.func 140) #[] #[.pointer (some ⟨Bs,0,none⟩)]] w fun e W'=>((zs=[]∧∃ A c,e = .returned (.slice A 0 c))∨∃ g cap,e = .returned (.slice (some ⟨g,0,none⟩) (sortedT zs).length cap)∧(sortedT zs).length≤cap∧w.heap.size≤g∧g<W'.heap.size∧Holds encStr W' g 0 (sortedT zs).toArray)∧Below w.heap.size w W':=by
 have hcon:=collect_calls Bs sv zs hreach w hBs hc hI
 clear hc hI
 by_cases h0:zs=[]
 ·subst h0
  go_enter Tryz.func104,Tryz.ntmps104
  go_wp2_with (first|(go_at_call 138;refine hcon.mono ?_;rintro e W' ⟨v,rfl,hr,hb⟩;have hr2:=hr.2;obtain ⟨A1,c1,rfl⟩:∃ A1 c1,v = .slice A1 0 c1:=(by rcases hr2 with ⟨rfl,_⟩|⟨g,cap,cur,rfl,_⟩<;>exact ⟨_,_,rfl⟩);clear hr hr2)|(go_at_call 139;refine (Tryz.slices_Sort_string_none _ _ _).mono ?_;rintro e w' ⟨rfl,rfl⟩))
  go_ret
  exact ⟨.inl ⟨by first|rfl|trivial,_,_,rfl⟩,hb⟩
 ·have hz0:0<zs.length:=by cases zs with
   | nil=>exact absurd rfl h0
   | cons x t=>simp
  go_enter Tryz.func104,Tryz.ntmps104
  go_wp2_with (first|(go_at_call 138;refine hcon.mono ?_;rintro e W' ⟨v,rfl,hr,hb⟩;obtain ⟨g,cap,cur,rfl,hg,hgb,r1,r2,r3,hH⟩:=row_opened hz0 hr;have hlt:=(Array.getElem?_eq_some_iff.1 hgb).1;have hown:=fun nn os=>ownsRow_sorted (n:=nn) (os:=os) (ts:=sortedT zs) (sortedT_len zs) hg hgb r1 r2 r3;have hbel:=fun nn os=>hb.grown (grownBy_sorted (n:=nn) (os:=os) (sortedT zs).toArray) hb.size (fun j hj=>by cases hj;exact hg);clear hr)|(go_at_call 139;refine (Tryz.slices_Sort_string g 0 cap zs _ hH hlt (by omega)).mono ?_;rintro e w' ⟨rfl,nn,os,rfl⟩))
  go_ret
  have hs:=hown nn os
  obtain ⟨g1,cap1,cur1,e1,hg1,hgb1,s1,s2,s3,hH1⟩:=row_opened (by rw [sortedT_len];exact hz0) (by rw [sortedT_len];exact hs)
  injection e1 with e2 e3 e4
  injection e2 with e5
  injection e5 with e6
  subst e6
  subst e4
  exact ⟨.inr ⟨g,cap,by rw [sortedT_len];rfl,s1,hg,(Array.getElem?_eq_some_iff.1 hgb1).1,hH1⟩,hbel nn os⟩
end Go.Proofs.YteaadaaghhojfaaGreatDoorW.SV
