/- A part of the proof: ZRaFG, ZRaFH, ZRaFI, ZRaFJ, ZRaFK, ZRaFL, ZRaFM, ZRaGA, ZRaGB, ZRaGC, ZRaGX, ZRaGE1, ZRaGE2, ZRaHD, ZRaHE0, ZRaGE3, ZRaGP1, ZRaGE5, ZRaHE4, ZRaGQ1. No condition. -/
import Derived.Test.YtdcphpbimeoioaaGreatDoorBR1
import Derived.Orders
import Derived.WalkKit
import Derived.ProofKit
import Derived.OpenShut
import Derived.ShutString
import Derived.ChangeOld
import Derived.Below
import Derived.SizedLaws
import Derived.Carry
import Derived.Test.YtdcphpbimeoioaaGreatDoorProg
import Derived.Shelf.Strings.SlTrimAscii
import Derived.Shelf.GgSortFunc.InsertionK
import Derived.Shelf.Spec.SlicesGrow
import Derived.Shelf.SlSortCmp.NoneTotal
import Derived.Maps.AppendAt
import Derived.Lib.SliceRun
import Derived.Lib.Walk
import Derived.Deep.LoopGhost
import Derived.Lib.SlTrimSet
import Derived.Lib.Join
import Derived.Sort.AssemblyPlain
section
set_option linter.unusedSectionVars false
namespace Go.Proofs.YtdcphpbimeoioaaGreatDoorE
open Go
set_option linter.unusedVariables false
set_option linter.unusedSimpArgs false
variable [Dm]
section
variable {β:Type} {P:Program} {H H':Heap} {E E':Env} {O:Orc} {nb:Nat} {r:β} {A W:List Nat}
theorem cellsK_loc {v:PV} {K:List PV→Option β} (h:cellsK v K=some r):∃ cs,K cs=some r∧∀ {β:Type} (K:List PV→Option β),cellsK v K=K cs:=by
  rw [cellsK_nat] at h
  obtain ⟨cs,h1,h2⟩:=bind_some h
  exact ⟨cs,h2,fun K=>by rw [cellsK_nat,h1];rfl⟩
theorem fit_loc {n:Nat} {cs:List PV} {K:List PV→Option β} (h:fit n cs K=some r):K cs=some r∧∀ {β:Type} (K:List PV→Option β),fit n cs K=K cs:=by
  obtain ⟨h1,h2⟩:=cond_some h
  exact ⟨h2,fun K=>by unfold fit;rw [h1];rfl⟩
theorem decK_loc {t:Ty} {cs:List PV} {K:El t→List PV→Option β} (h:decK t cs K=some r):∃ x rest,K x rest=some r∧∀ {β:Type} (K:El t→List PV→Option β),decK t cs K=K x rest:=by
  rw [decK_nat] at h
  obtain ⟨p,h1,h2⟩:=bind_some h
  exact ⟨p.1,p.2,h2,fun K=>by rw [decK_nat,h1];rfl⟩
theorem elsFill_loc {t:Ty} {xs:List (El t)} {ps:List (Nat×PV)} {K:List (El t)→Option β} (h:elsFill H t xs ps K=some r):∃ ys,K ys=some r∧∀ {β:Type} (K:List (El t)→Option β),elsFill H t xs ps K=K ys:=by
  have e:∀ {β:Type} (K:List (El t)→Option β),elsFill H t xs ps K=(elsFill H t xs ps some).bind K:=fun K=>by rw [elsFill_bind];rfl
  rw [e] at h
  obtain ⟨cs,h1,h2⟩:=bind_some h
  exact ⟨cs,h2,fun K=>by rw [e,h1];rfl⟩
theorem bindN_eq {α:Type} (a:α) (K:α→Option β):bindN (some a) K=K a:=by unfold bindN;rfl
theorem store_loc {b i j n:Nat} {v:PV} {K:PV→Heap→Option β} (h:storeAt H b i j n v K=some r) (hb:b∈A) (hbW:b∈W) (hv:∀ c∈ownIds v,c∈A) (hvW:∀ c∈ownIds v,c∈W):Loc A W H fun H K=>storeAt H b i j n v K:=by
  unfold storeAt at h
  obtain ⟨x,hx,h⟩:=live_some h
  have hx':∀ H',Agr A H H'→hget H' b = .live x:=fun H' hH=>(hH b hb).trans hx
  split at h
  · rename_i row
    obtain ⟨cs,h,hcs⟩:=cellsK_loc h
    obtain ⟨h,hf⟩:=fit_loc h
    obtain ⟨h0,h⟩:=cond_some h
    refine ⟨.junk,[(b, .live (.box (splice row j cs) true))],by simpa using hbW,fun H' hH β K=>?_⟩
    simp only [storeAt,live_eq (hx' H' hH),hcs,hf,h0,cond_true,fH_eq]
    rfl
  · rename_i t xs
    obtain ⟨h0,h⟩:=cond_none h
    obtain ⟨cs,h,hcs⟩:=cellsK_loc h
    obtain ⟨h,hf⟩:=fit_loc h
    obtain ⟨x,h1,h⟩:=bindN_some h
    obtain ⟨h2,h⟩:=cond_some h
    obtain ⟨y,rest,h,hd⟩:=decK_loc h
    cases rest with
    | cons _ _=>cases h
    | nil =>
      obtain ⟨δ,g1,g2⟩:=frz_upd (ownIds v) (hset H b (.live (.arr t (lput xs i y) true)))
      refine ⟨.junk,(b, .live (.arr t (lput xs i y) true)) ::δ,fun x hx=>?_,fun H' hH β K=>?_⟩
      · rcases List.mem_cons.1 hx with rfl|hx
        · exact hbW
        · exact hvW _ (g1 x hx)
      · have e:snapV H' v=snapV H v:=snapV_agr fun c hc=>hH c (hv c hc)
        simp only [storeAt,live_eq (hx' H' hH),h0,cond_false,e,hcs,hf,h1,bindN_eq,h2,cond_true,hd,fH_eq,upd]
        rw [g2 _ ((hH.mono hv).hset b _)]
  · cases h
theorem append_loc {sz bytes:Nat} {x y:PV} {K:PV→Heap→Option β} (h:appendK nb H sz bytes x y K=some r) (hn:nb∈A) (hnW:nb∈W) (hx:∀ c∈footV x,c∈A) (hxW:∀ c∈footV x,c∈W) (hy:∀ c∈footV y,c∈A):Loc A W H fun H K=>appendK nb H sz bytes x y K:=by
  unfold appendK at h
  split at h
  · rename_i t
    obtain ⟨more,h,he⟩:=elsOf_loc h
    obtain ⟨h0,h⟩:=cond_some h
    obtain ⟨h1,h⟩:=cond_some h
    obtain ⟨hu,h⟩:=fresh_some h
    refine ⟨.own nb,[(nb, .live (.arr t more true))],by simpa using hnW,fun H' hH β K=>?_⟩
    simp only [appendK,he H' (fun c hc=>hH c (hy c hc)),h0,h1,cond_true,fresh_eq ((hH nb hn).trans hu),fH_eq]
    rfl
  · rename_i b
    obtain ⟨z,hz,h⟩:=live_some h
    split at h
    · rename_i t xs
      obtain ⟨more,h,he⟩:=elsOf_loc h
      obtain ⟨h0,h⟩:=cond_some h
      obtain ⟨h1,h⟩:=cond_some h
      obtain ⟨hu,h⟩:=fresh_some h
      refine ⟨.own nb,[(b, .dead),(nb, .live (.arr t (xs++more) true))],fun x hx=>?_,fun H' hH β K=>?_⟩
      · simp only [List.mem_cons,List.not_mem_nil,or_false] at hx
        rcases hx with rfl|rfl
        · exact hxW _ (by simp [footV])
        · exact hnW
      · simp only [appendK,live_eq ((hH b (hx b (by simp [footV]))).trans hz),he H' (fun c hc=>hH c (hy c hc)),h0,h1,cond_true,fresh_eq ((hH nb hn).trans hu),fH_eq]
        rfl
    · cases h
  · cases h
theorem appendV_loc {sz bytes:Nat} {x y:PV} {K:PV→Heap→Option β} (h:appendV nb H sz bytes x y K=some r) (hn:nb∈A) (hnW:nb∈W) (hx:∀ c∈footV x,c∈A) (hxW:∀ c∈footV x,c∈W) (hy:∀ c∈footV y,c∈A):Loc A W H fun H K=>appendV nb H sz bytes x y K:=by
  by_cases ho:∃ b lo n,x = .view b lo n
  · obtain ⟨b,lo,n,rfl⟩:=ho
    unfold appendV at h
    obtain ⟨z,hz,h⟩:=live_some h
    split at h
    · rename_i t xs
      obtain ⟨more,h,he⟩:=elsOf_loc h
      obtain ⟨h0,h⟩:=cond_some h
      obtain ⟨h1,h⟩:=cond_some h
      obtain ⟨hu,h⟩:=fresh_some h
      refine ⟨.own nb,[(b, .dead),(nb, .live (.arr t (win xs 0 n++more) true))],fun x hx=>?_,fun H' hH β K=>?_⟩
      · simp only [List.mem_cons,List.not_mem_nil,or_false] at hx
        rcases hx with rfl|rfl
        · exact hxW _ (by simp [footV])
        · exact hnW
      · simp only [appendV,live_eq ((hH b (hx b (by simp [footV]))).trans hz),he H' (fun c hc=>hH c (hy c hc)),h0,h1,cond_true,fresh_eq ((hH nb hn).trans hu),fH_eq]
        rfl
    · cases h
  · by_cases hem:∃ t,x = .emp t
    · obtain ⟨t,rfl⟩:=hem
      unfold appendV at h
      simp only at h
      obtain ⟨more,h,he⟩:=elsOf_loc h
      obtain ⟨h0,h⟩:=cond_some h
      obtain ⟨h1,h⟩:=cond_some h
      obtain ⟨hu,h⟩:=fresh_some h
      refine ⟨.own nb,[(nb, .live (.arr t more true))],by simpa using hnW,fun H' hH β K=>?_⟩
      simp only [appendV,he H' (fun c hc=>hH c (hy c hc)),h0,h1,cond_true,fresh_eq ((hH nb hn).trans hu),fH_eq]
      rfl
    have e:∀ (H:Heap) {β:Type} (K:PV→Heap→Option β),appendV nb H sz bytes x y K=appendK nb H sz bytes x y K:=by
      intro H β K
      unfold appendV
      split
      · exact absurd ⟨_,_,_,rfl⟩ ho
      · exact absurd ⟨_,rfl⟩ hem
      · rfl
    rw [e] at h
    have:=append_loc h hn hnW hx hxW hy
    simpa only [e] using this
theorem new_loc {c:{β:Type}→Heap→(PV→Heap→Option β)→Option β} (v:PV) (s:Slot) (hW:nb∈W) (h:∀ H',Agr A H H'→∀ {β:Type} (K:PV→Heap→Option β),c H' K=K v (hset H' nb s)):Loc A W H c :=
  ⟨v,[(nb,s)],by simpa using hW,fun H' hH β K=>h H' hH K⟩
theorem pure_loc {c:{β:Type}→(PV→Option β)→Option β} (hc:∀ {γ β:Type} (f:PV→Option γ) (K:γ→Option β),(c f).bind K=c fun b=>(f b).bind K) {K:PV→Option β} (h:c K=some r):Loc A W H fun H K=>c fun v=>K v H:=by
  obtain ⟨v,hv⟩:=loc_nat hc h
  exact loc_val v fun H' _ β K=>hv fun v=>K v H'
theorem act_loc (hcall:∀ (f:FuncId) (args:List (Bool×PV)) {β:Type} {r:β} (K:PV→Heap→Option β),callK O nb H f args K=some r→Loc (nb ::(footC O H f args).1++(footC O H f args).2) (nb ::(footC O H f args).2) H fun H K=>callK O nb H f args K)
    {a:PAct} {K:PV→Heap→Option β} (h:act O nb E H a K=some r):Loc (nb ::(foot O E H a).1++(foot O E H a).2) (nb ::(foot O E H a).2) H fun H K=>act O nb E H a K:=by
  cases a with
  | bad=>cases h
  | mv x=>exact loc_val _ fun H' _ β K=>rfl
  | pick c a b =>
    simp only [act] at h
    obtain ⟨t,ht,h⟩:=asBool_some h
    cases t<;>exact loc_val _ fun H' _ β K=>by simp only [act,ht,asBool];rfl
  | alloc z =>
    obtain ⟨hu,h⟩:=fresh_some h
    exact new_loc (nb:=nb) (.ptr nb 0 0) (.live (.box z true)) (by simp) fun H' hH β K=>by simp only [act,fresh_eq ((hH nb (by simp)).trans hu),fH_eq]
  | box n x =>
    simp only [act] at h
    obtain ⟨cs,h,hcs⟩:=cellsK_loc h
    obtain ⟨h,hf⟩:=fit_loc h
    obtain ⟨hu,h⟩:=fresh_some h
    exact new_loc (nb:=nb) (.ptr nb 0 0) (.live (.box cs true)) (by simp) fun H' hH β K=>by simp only [act,hcs,hf,fresh_eq ((hH nb (by simp)).trans hu),fH_eq]
  | build z ps =>
    have e:∀ {β:Type} (K:List PV→Option β),fillR z (ps.map (evP E)) K=(fillR z (ps.map (evP E)) some).bind K:=fun K=>by rw [fillR_bind];rfl
    simp only [act] at h
    rw [e] at h
    obtain ⟨cs,h1,h2⟩:=bind_some h
    exact loc_val _ fun H' _ β K=>by simp only [act];rw [e,h1];rfl
  | bslice t z n ps =>
    simp only [act] at h
    obtain ⟨y,rest,h,hd⟩:=decK_loc h
    cases rest with
    | cons _ _=>cases h
    | nil =>
      simp only at h
      obtain ⟨ys,h,he⟩:=elsFill_loc h
      obtain ⟨hu,h⟩:=fresh_some h
      obtain ⟨h0,h⟩:=cond_none h
      obtain ⟨δ,g1,g2⟩:=frz_upd (vOwn E (ps.map (·.2))) (hset H nb (.live (.arr t ys true)))
      refine ⟨.own nb,(nb, .live (.arr t ys true)) ::δ,fun x hx=>?_,fun H' hH β K=>?_⟩
      · rcases List.mem_cons.1 hx with rfl|hx
        · simp
        · exact List.mem_cons_of_mem _ (g1 x hx)
      · have hH2:Agr (vOwn E (ps.map (·.2))) H H':=hH.mono fun c hc=>by simp [foot,hc]
        have e:∀ {β:Type} (K:List (El t)→Option β),elsFill H' t (List.replicate n y) (ps.map fun (i,x)=>(i,x.ev E)) K=K ys:=fun K=>by
          rw [elsFill_agr _ _ _ K fun p hp b hb=>hH2 b ?_]
          · exact he K
          · obtain ⟨q,hq,rfl⟩:=List.mem_map.1 hp
            exact List.mem_flatMap.2 ⟨q.2,List.mem_map.2 ⟨q,hq,rfl⟩,hb⟩
        simp only [act,hd,e,fresh_eq ((hH nb (by simp)).trans hu),h0,cond_false,fH_eq,upd]
        rw [g2 _ (hH2.hset nb _)]
  | load k a=>exact load_loc h fun b hb=>by simp [foot,hb]
  | store n a x =>
    simp only [act] at h
    split at h
    · rename_i b i j he
      have:=store_loc (A:=nb ::(foot O E H (.store n a x)).1++(foot O E H (.store n a x)).2) (W:=nb ::(foot O E H (.store n a x)).2) h (by simp [foot,he,footV]) (by simp [foot,he,footV]) (fun c hc=>by simp [foot,hc]) (fun c hc=>by simp [foot,hc])
      simp only [act,he]
      exact this
    · cases h
  | nilck x=>exact nilck_loc h fun b hb=>by simp [foot,hb]
  | bin op x y=>exact pure_loc (c:=fun {β} K=>binOp (β:=β) op (x.ev E) (y.ev E) K) (fun f K=>by rw [binOp_nat _ _ _ f,binOp_nat _ _ _ fun b=>(f b).bind K,Option.bind_assoc]) (K:=fun v=>K v H) h
  | beq neg x y =>
    simp only [act] at h
    obtain ⟨a,ha,h⟩:=asBool_some h
    obtain ⟨b,hb,h⟩:=asBool_some h
    exact loc_val _ fun H' _ β K=>by simp only [act,ha,hb,asBool];rfl
  | aeq neg ks x y =>
    simp only [act] at h
    split at h
    · rename_i a b ha hb
      obtain ⟨h0,h⟩:=cond_some h
      have:=pure_loc (A:=nb ::(foot O E H (.aeq neg ks x y)).1++(foot O E H (.aeq neg ks x y)).2) (W:=nb ::(foot O E H (.aeq neg ks x y)).2) (H:=H) (c:=fun {β} K=>eqCells (β:=β) a b fun e=>K (.bool (cond neg (!e) e))) (fun f K=>eqCells_bind _ _ _ _) (K:=fun v=>K v H) h
      simp only [act,ha,hb,h0,cond_true]
      exact this
    · cases h
  | un op x=>exact pure_loc (c:=fun {β} K=>unOp (β:=β) op (x.ev E) K) (fun f K=>by rw [unOp_nat _ _ f,unOp_nat _ _ fun b=>(f b).bind K,Option.bind_assoc]) (K:=fun v=>K v H) h
  | toInt k x =>
    simp only [act] at h
    obtain ⟨k',n,e,h⟩:=asInt_some h
    exact loc_val _ fun H' _ β K=>by simp only [act,e,asInt];rfl
  | same x =>
    simp only [act] at h
    obtain ⟨s,e,h⟩:=asStr_some h
    exact loc_val _ fun H' _ β K=>by simp only [act,e,asStr];rfl
  | s2b x =>
    simp only [act] at h
    obtain ⟨s,e,h⟩:=asStr_some h
    obtain ⟨hu,h⟩:=fresh_some h
    exact new_loc (nb:=nb) (.own nb) (.live (.arr (.int .u8) (sbytes s) true)) (by simp) fun H' hH β K=>by simp only [act,e,asStr,fresh_eq ((hH nb (by simp)).trans hu),fH_eq]
  | b2s x =>
    simp only [act] at h
    obtain ⟨h0,h⟩:=cond_none h
    obtain ⟨l,h,he⟩:=elsOf_loc h
    exact loc_val _ fun H' hH β K=>by simp only [act,h0,cond_false,he H' (fun c hc=>hH c (by simp [foot,hc]))];rfl
  | mks t z bytes l c =>
    simp only [act] at h
    obtain ⟨k1,n1,e1,h⟩:=asInt_some h
    obtain ⟨k2,n2,e2,h⟩:=asInt_some h
    obtain ⟨h1,h⟩:=cond_some h
    obtain ⟨h2,h⟩:=cond_some h
    obtain ⟨h3,h⟩:=cond_some h
    obtain ⟨y,rest,h,hd⟩:=decK_loc h
    cases rest with
    | cons _ _=>cases h
    | nil =>
      simp only at h
      obtain ⟨hu,h⟩:=fresh_some h
      exact new_loc (nb:=nb) (.own nb) (.live (.arr t (List.replicate n1.toNat y) true)) (by simp) fun H' hH β K=>by simp only [act,e1,e2,asInt,h1,h2,h3,cond_true,hd,fresh_eq ((hH nb (by simp)).trans hu),fH_eq]
  | slice st sz x lo hi =>
    simp only [act] at h
    obtain ⟨h0,h⟩:=cond_some h
    have:=slice_loc (A:=nb ::(foot O E H (.slice st sz x lo hi)).1++(foot O E H (.slice st sz x lo hi)).2) (W:=nb ::(foot O E H (.slice st sz x lo hi)).2) h (fun b hb=>by simp [foot,hb]) (fun b hb=>by simp [foot,hb])
    simp only [act,h0,cond_true]
    exact this
  | sliceZ t x =>
    simp only [act] at h
    split at h
    · rename_i hx
      obtain ⟨h0,h⟩:=cond_some h
      exact loc_val _ fun H' _ β K=>by simp only [act,hx,h0,cond_true];rfl
    · rename_i hx
      obtain ⟨h0,h⟩:=cond_some h
      exact loc_val _ fun H' _ β K=>by simp only [act,hx,h0,cond_true];rfl
    · cases h
  | sliceV sz x lo hi =>
    simp only [act] at h
    obtain ⟨h0,h⟩:=cond_none h
    have:=sliceW_loc (A:=nb ::(foot O E H (.sliceV sz x lo hi)).1++(foot O E H (.sliceV sz x lo hi)).2) (W:=nb ::(foot O E H (.sliceV sz x lo hi)).2) h (fun b hb=>by simp [foot,hb])
    simp only [act,h0,cond_false]
    exact this
  | raw v us=>exact loc_val _ fun H' _ β K=>by simp only [act];rfl
  | fadr off x=>exact fadr_loc h fun b hb=>by simp [foot,hb]
  | fld off k x =>
    simp only [act] at h
    split at h
    · rename_i cs hc
      have:=pure_loc (A:=nb ::(foot O E H (.fld off k x)).1++(foot O E H (.fld off k x)).2) (W:=nb ::(foot O E H (.fld off k x)).2) (H:=H) (c:=fun {β} K=>part (β:=β) k off cs K) (fun f K=>by rw [part_nat _ _ _ f,part_nat _ _ _ fun b=>(f b).bind K,Option.bind_assoc]) (K:=fun v=>K v H) h
      simp only [act,hc]
      exact this
    · cases h
  | iadr sz x i =>
    simp only [act] at h
    obtain ⟨k,n,e,h⟩:=asInt_some h
    have:=iadr_loc (A:=nb ::(foot O E H (.iadr sz x i)).1++(foot O E H (.iadr sz x i)).2) (W:=nb ::(foot O E H (.iadr sz x i)).2) h (fun b hb=>by simp [foot,hb])
    simp only [act,e,asInt]
    exact this
  | idx x i =>
    simp only [act] at h
    obtain ⟨s,e1,h⟩:=asStr_some h
    obtain ⟨k,n,e2,h⟩:=asInt_some h
    obtain ⟨h1,h⟩:=cond_some h
    obtain ⟨h2,h⟩:=cond_some h
    exact loc_val _ fun H' _ β K=>by simp only [act,e1,e2,asStr,asInt,h1,h2,cond_true];rfl
  | ext x i =>
    simp only [act] at h
    obtain ⟨vs,e,h⟩:=asTup_some h
    split at h
    · rename_i v hv
      exact loc_val v fun H' _ β K=>by simp only [act,e,asTup,hv]
    · cases h
  | call f o args=>exact hcall f _ K h
  | callv x args =>
    simp only [act] at h
    split at h
    · rename_i f a b he
      have:=hcall f _ K h
      simp only [act,foot,he]
      exact this
    · cases h
  | len st x =>
    simp only [act] at h
    obtain ⟨h0,h⟩:=cond_some h
    obtain ⟨n,h,he⟩:=lenOf_loc h
    exact loc_val _ fun H' hH β K=>by simp only [act,h0,cond_true,he H' (fun c hc=>hH c (by simp [foot,hc]))];rfl
  | append st sz bytes x y =>
    simp only [act] at h
    obtain ⟨h0,h⟩:=cond_some h
    have:=appendV_loc (A:=nb ::(foot O E H (.append st sz bytes x y)).1++(foot O E H (.append st sz bytes x y)).2) (W:=nb ::(foot O E H (.append st sz bytes x y)).2) h (by simp) (by simp) (fun b hb=>by simp [foot,hb]) (fun b hb=>by simp [foot,hb]) (fun b hb=>by simp [foot,hb])
    simp only [act,h0,cond_true]
    exact this
  | copy _ _ _=>cases h
  | clear _ _=>cases h
  | min xs =>
    simp only [act] at h
    split at h
    · rename_i x l he
      have:=pure_loc (A:=nb ::(foot O E H (.min xs)).1++(foot O E H (.min xs)).2) (W:=nb ::(foot O E H (.min xs)).2) (H:=H) (c:=fun {β} K=>folds (β:=β) true x l K) (fun f K=>folds_bind _ _ _ _ _) (K:=fun v=>K v H) h
      simp only [act,he]
      exact this
    · cases h
  | max xs =>
    simp only [act] at h
    split at h
    · rename_i x l he
      have:=pure_loc (A:=nb ::(foot O E H (.max xs)).1++(foot O E H (.max xs)).2) (W:=nb ::(foot O E H (.max xs)).2) (H:=H) (c:=fun {β} K=>folds (β:=β) false x l K) (fun f K=>folds_bind _ _ _ _ _) (K:=fun v=>K v H) h
      simp only [act,he]
      exact this
    · cases h
  | mkf f a b=>exact loc_val _ fun H' _ β K=>rfl
end
end Go.Proofs.YtdcphpbimeoioaaGreatDoorE
end
section
set_option linter.unusedSectionVars false
namespace Go.Proofs.YtdcphpbimeoioaaGreatDoorE
open Go
set_option linter.unusedVariables false
set_option linter.unusedSimpArgs false
variable [Dm]
section
variable {β:Type} {P:Program} {H H':Heap} {E E':Env} {O:Orc} {nb:Nat} {r:β} {A W:List Nat}
theorem reach_seen:∀ (n:Nat) (M:Heap) (todo seen:List Nat) (b:Nat),b∈seen→b∈reach M n todo seen
  | 0,_,_,_,_,h=>h
  | _+1,_,[],_,_,h=>h
  | n+1,M,c ::r,seen,b,h=>by
    simp only [reach]
    cases memN c seen with
    | true=>exact reach_seen n M r seen b h
    | false=>exact reach_seen n M _ _ b (List.mem_append_left _ h)
theorem reach_agr {M M':Heap}:∀ (n:Nat) (todo seen:List Nat),(∀ b∈reach M n todo seen,idsB M' b=idsB M b)→reach M' n todo seen=reach M n todo seen
  | 0,_,_,_=>rfl
  | _+1,[],_,_=>rfl
  | n+1,c ::r,seen,h=>by
    simp only [reach] at h ⊢
    cases hm:memN c seen with
    | true=>rw [hm] at h;exact reach_agr n r seen h
    | false =>
      rw [hm] at h
      simp only [cond_false] at h ⊢
      rw [h c (reach_seen n M _ _ c (by simp))]
      exact reach_agr n _ _ h
theorem hget_map (g:Slot→Slot) (hg:g .unused = .unused) (H:Heap) (b:Nat):hget (H.map g) b=g (hget H b):=by
  rw [hget_get,hget_get,List.getElem?_map]
  cases H[b]?<;>simp [hg]
theorem snapS_agr {s:Slot} (h:∀ c∈ownB s,hget H' c=hget H c):snapS H' s=snapS H s:=by
  cases s with
  | live x =>
    cases x with
    | box cs w =>
      simp only [snapS,snapB]
      congr 2
      exact List.map_congr_left fun c hc=>cell1_agr fun b hb=>h b (List.mem_flatMap.2 ⟨c,hc,hb⟩)
    | arr t xs w=>rfl
  | _=>rfl
theorem callArgs_agr {args:List (Bool×PV)} (h:Agr (callFrozen H args) H H'):callArgs H' args=callArgs H args:=by
  unfold callArgs
  refine List.map_congr_left fun q hq=>?_
  obtain ⟨o,v⟩:=q
  cases o with
  | true=>rfl
  | false=>exact snapV_agr fun b hb=>h b (List.mem_append_left _ (List.mem_flatMap.2 ⟨(false,v),hq,hb⟩))
theorem slot_agr {args:List (Bool×PV)} (h:Agr (callIds H args) H H') (h':Agr (callFrozen H args) H H') {b:Nat} (hb:b∈callIds H args):snapS H' (hget H' b)=snapS H (hget H b):=by
  rw [h b hb]
  exact snapS_agr fun c hc=>h' c (List.mem_append_right _ (List.mem_flatMap.2 ⟨b,hb,hc⟩))
theorem callIds_agr {args:List (Bool×PV)} (h:Agr (callIds H args) H H') (h':Agr (callFrozen H args) H H'):callIds H' args=callIds H args:=by
  unfold callIds
  rw [callArgs_agr h']
  refine reach_agr _ _ _ fun b hb=>?_
  simp only [idsB]
  rw [hget_map _ rfl,hget_map _ rfl,slot_agr h h' hb]
theorem callFrozen_agr {args:List (Bool×PV)} (h:Agr (callIds H args) H H') (h':Agr (callFrozen H args) H H'):callFrozen H' args=callFrozen H args:=by
  unfold callFrozen
  rw [callIds_agr h h']
  have e:∀ l:List Nat,(∀ b∈l,hget H' b=hget H b)→(l.flatMap fun b=>ownB (hget H' b))=l.flatMap fun b=>ownB (hget H b):=by
    intro l
    induction l with
    | nil=>intro _;rfl
    | cons b l ih=>intro hl;simp only [List.flatMap_cons,hl b (List.mem_cons_self ..),ih fun c hc=>hl c (List.mem_cons_of_mem _ hc)]
  rw [e _ h]
theorem puts_upd:∀ (ids:List Nat) (ss:List Slot) (H:Heap),puts H ids ss=upd H (ids.zip ss)
  | [],ss,H=>by cases ss<;>rfl
  | b ::ids,[],H=>rfl
  | b ::ids,s ::ss,H=>puts_upd ids ss _
theorem Agr.upd:∀ (δ:List (Nat×Slot)) {H H':Heap},Agr A H H'→Agr A (upd H δ) (upd H' δ)
  | [],_,_,h=>h
  | (b,s) ::δ,_,_,h=>Agr.upd δ (h.hset b s)
theorem hset_same:∀ (H:Heap) (b:Nat),b<H.length→hset H b (hget H b)=H
  | [],b,h=>by simp at h
  | x ::r,0,h=>rfl
  | x ::r,b+1,h=>by
    have:=hset_same r b (by simpa using h)
    simp only [hset,hget,List.getD_cons_succ] at this ⊢
    rw [this]
theorem upd_same:∀ (δ:List (Nat×Slot)) (H:Heap),(∀ x∈δ,hget H x.1=x.2∧x.1<H.length)→upd H δ=H
  | [],H,_=>rfl
  | (b,s) ::δ,H,h=>by
    obtain ⟨h1,h2⟩:=h (b,s) (List.mem_cons_self ..)
    simp only at h1 h2
    subst h1
    simp only [upd]
    rw [hset_same H b h2]
    exact upd_same δ H fun x hx=>h x (List.mem_cons_of_mem _ hx)
theorem posN_of_mem {b:Nat} {ids:List Nat} (h:b∈ids):∃ i,posN b ids=some i:=by
  cases hp:posN b ids with
  | some i=>exact ⟨i,rfl⟩
  | none=>exact absurd h (posN_none hp)
theorem stay_cell {ids:List Nat} {c:PV} (h:stayC ids c=true):bakC ids nb (renC ids (cell1 H c))=c:=by
  cases c<;>simp only [stayC,reduceCtorEq] at h<;>try rfl
  rename_i b i j
  obtain ⟨k,hk⟩:=posN_of_mem (memN_iff.1 h)
  simp only [cell1,renC,hk,bakC,bakN,nth_eq,posN_some hk]
theorem stay_slot {ids:List Nat} {s:Slot} (h:stayS ids s=true):bakS ids nb (renS ids (snapS H s))=s:=by
  cases s with
  | unused=>rfl
  | dead=>rfl
  | live x =>
    cases x with
    | arr t xs w=>rfl
    | box cs w =>
      simp only [stayS] at h
      simp only [snapS,snapB,renS,renB,bakS,List.map_map]
      have:cs.map (bakC ids nb ∘ renC ids ∘ cell1 H)=cs:=by
        conv=>rhs;rw [← List.map_id cs]
        exact List.map_congr_left fun c hc=>stay_cell (List.all_eq_true.1 h c hc)
      rw [this]
theorem callK_loc (hO:OrcOk P O) {f:FuncId} {args:List (Bool×PV)} {K:PV→Heap→Option β} (h:callK O nb H f args K=some r) :
    Loc (nb ::(footC O H f args).1++(footC O H f args).2) (nb ::(footC O H f args).2) H fun H K=>callK O nb H f args K:=by
  unfold callK at h
  obtain ⟨hun,h⟩:=fresh_some h
  obtain ⟨hchk,h⟩:=cond_some h
  rw [fAs_eq,fH_eq] at h
  have hsame:∀ H',Agr (nb ::(callIds H args++callFrozen H args)) H H'→∀ {β:Type} (K:PV→Heap→Option β),callK O nb H' f args K =
      match O.call f ((callArgs H args).map (renV (callIds H args))) ((callIds H args).map fun b=>renS (callIds H args) (snapS H (hget H b))) with
      | ⟨_,x,enc,_⟩=>bindN x fun p=>back H' (callIds H args) (callFrozen H args) nb (enc p) K:=by
    intro H' hH β K
    have h1:Agr (callIds H args) H H':=hH.mono fun b hb=>by simp [hb]
    have h2:Agr (callFrozen H args) H H':=hH.mono fun b hb=>by simp [hb]
    unfold callK
    rw [fresh_eq ((hH nb (by simp)).trans hun),callIds_agr h1 h2,callFrozen_agr h1 h2,callArgs_agr h2]
    have hl:((callIds H args).all (isLive H'))=(callIds H args).all (isLive H):=by
      rw [Bool.eq_iff_iff,List.all_eq_true,List.all_eq_true]
      exact ⟨fun g b hb=>by have:=g b hb;simpa only [isLive,h1 b hb] using this,fun g b hb=>by have:=g b hb;simpa only [isLive,h1 b hb] using this⟩
    have hs:((callIds H args).map fun b=>renS (callIds H args) (snapS H' (hget H' b)))=(callIds H args).map fun b=>renS (callIds H args) (snapS H (hget H b)) :=
      List.map_congr_left fun b hb=>by rw [slot_agr h1 h2 hb]
    rw [hl,hchk,hs,fAs_eq,fH_eq]
    rfl
  have ho:=hO f ((callArgs H args).map (renV (callIds H args))) ((callIds H args).map fun b=>renS (callIds H args) (snapS H (hget H b)))
  have hft:footC O H f args=cond ((O.call f ((callArgs H args).map (renV (callIds H args))) ((callIds H args).map fun b=>renS (callIds H args) (snapS H (hget H b)))).keeps && (callIds H args).all fun b=>stayS (callIds H args) (hget H b)) (callIds H args,callFrozen H args) ([],callIds H args++callFrozen H args):=rfl
  generalize O.call f ((callArgs H args).map (renV (callIds H args))) ((callIds H args).map fun b=>renS (callIds H args) (snapS H (hget H b)))=su at ho h hsame hft
  obtain ⟨α,x,enc,keeps⟩:=su
  simp only at ho h hsame hft
  obtain ⟨p,hp,h⟩:=bindN_some h
  obtain ⟨_,_,hkeep⟩:=ho p hp
  have hb:∃ r1 H1,enc p=(r1,H1):=⟨_,_,rfl⟩
  obtain ⟨r1,H1,hq⟩:=hb
  rw [hq] at h hkeep
  unfold back at h
  simp only [fH_eq] at h
  obtain ⟨hlen,h⟩:=cond_some h
  obtain ⟨δ,g1,g2⟩:=frz_upd (callFrozen H args) (puts H (callIds H args++[nb]) (H1.map (bakS (callIds H args) nb)))
  have main:∀ H',Agr (nb ::(callIds H args++callFrozen H args)) H H'→∀ {β:Type} (K:PV→Heap→Option β),callK O nb H' f args K =
      K (bakV (callIds H args) nb r1) (upd H' ((callIds H args++[nb]).zip (H1.map (bakS (callIds H args) nb))++cond (flatV r1 && H1.all flatS) [] δ)):=by
    intro H' hH β K
    rw [hsame H' hH K,hp,bindN_eq,hq]
    unfold back
    simp only [fH_eq,hlen,cond_true,upd_append]
    rw [← puts_upd]
    cases (flatV r1 && H1.all flatS) with
    | true=>rfl
    | false =>
      simp only [cond_false]
      rw [g2 _ (by rw [puts_upd,puts_upd];exact Agr.upd _ (hH.mono fun b hb=>by simp [hb]))]
  cases hk:(keeps && (callIds H args).all fun b=>stayS (callIds H args) (hget H b)) with
  | false =>
    rw [hk] at hft
    rw [hft]
    refine ⟨_,_,fun x hx=>?_,fun H' hH β K=>main H' (hH.mono fun b hb=>by simpa using hb) K⟩
    rcases List.mem_append.1 hx with hx|hx
    · have:=(List.of_mem_zip hx).1
      simp only [List.mem_append,List.mem_cons,List.not_mem_nil,or_false] at this
      rcases this with h1|h1
      · simp [h1]
      · simp [h1]
    · cases hfl:(flatV r1 && H1.all flatS) with
      | true=>rw [hfl] at hx;cases hx
      | false=>rw [hfl] at hx;have:=g1 x hx;simp [this]
  | true =>
    rw [hk] at hft
    rw [hft]
    simp only [Bool.and_eq_true] at hk
    have e:=hkeep hk.1
    simp only at e
    subst e
    refine ⟨bakV (callIds H args) nb r1,cond (flatV r1 && ((callIds H args).map fun b=>renS (callIds H args) (snapS H (hget H b))).all flatS) [] δ,fun x hx=>?_,fun H' hH β K=>?_⟩
    · cases hfl:(flatV r1 && ((callIds H args).map fun b=>renS (callIds H args) (snapS H (hget H b))).all flatS) with
      | true=>rw [hfl] at hx;cases hx
      | false=>rw [hfl] at hx;have:=g1 x hx;simp [this]
    · have hH2:Agr (nb ::(callIds H args++callFrozen H args)) H H':=hH.mono fun b hb=>by simpa using hb
      refine (main H' hH2 K).trans ?_
      rw [upd_append,upd_same ((callIds H args++[nb]).zip (((callIds H args).map fun b=>renS (callIds H args) (snapS H (hget H b))).map (bakS (callIds H args) nb))) H' ?_]
      intro x hx
      have hz:∀ l:List Nat,(∀ b∈l,b∈callIds H args)→∀ x∈(l++[nb]).zip ((l.map fun b=>renS (callIds H args) (snapS H (hget H b))).map (bakS (callIds H args) nb)),x.1∈callIds H args∧x.2=hget H x.1:=by
        intro l
        induction l with
        | nil=>intro _ x hx;simp at hx
        | cons b l ih =>
          intro hl x hx
          simp only [List.cons_append,List.map_cons,List.zip_cons_cons,List.mem_cons] at hx
          rcases hx with rfl|hx
          · have hb:=hl b (List.mem_cons_self ..)
            exact ⟨hb,stay_slot (List.all_eq_true.1 hk.2 b hb)⟩
          · exact ih (fun c hc=>hl c (List.mem_cons_of_mem _ hc)) x hx
      obtain ⟨k1,k2⟩:=hz _ (fun _ h=>h) x hx
      simp only [Bool.and_eq_true] at hchk
      have hlv:=List.all_eq_true.1 hchk.2 _ k1
      have hg:=hH2 x.1 (by simp [k1])
      refine ⟨by rw [hg,k2],Nat.lt_of_not_le fun hle=>?_⟩
      rw [hget_len H' _ hle] at hg
      simp [isLive,← hg] at hlv
theorem act_loc' (hO:OrcOk P O) {a:PAct} {K:PV→Heap→Option β} (h:act O nb E H a K=some r):Loc (nb ::(foot O E H a).1++(foot O E H a).2) (nb ::(foot O E H a).2) H fun H K=>act O nb E H a K :=
  act_loc (fun f args {β} {r} K h=>callK_loc hO h) h
end
end Go.Proofs.YtdcphpbimeoioaaGreatDoorE
end
section
set_option linter.unusedSectionVars false
namespace Go.Proofs.YtdcphpbimeoioaaGreatDoorE
open Go
set_option linter.unusedVariables false
set_option linter.unusedSimpArgs false
variable [Dm]
section
variable {β:Type} {P:Program} {H H':Heap} {E E':Env} {O:Orc} {nb:Nat} {r:β} {A W:List Nat}
theorem ev_agr {x:Arg} (h:∀ t∈x.uses,get E' t=get E t):x.ev E'=x.ev E:=by
  cases x with
  | t n=>exact h n (by simp [Arg.uses])
  | c v=>rfl
theorem evs_agr {xs:List Arg} (h:∀ t∈xs.flatMap Arg.uses,get E' t=get E t):xs.map (Arg.ev E')=xs.map (Arg.ev E) :=
  List.map_congr_left fun x hx=>ev_agr fun t ht=>h t (List.mem_flatMap.2 ⟨x,hx,ht⟩)
theorem optEv_agr {x:Option Arg} (h:∀ t∈x.toList.flatMap Arg.uses,get E' t=get E t):optEv E' x=optEv E x:=by
  cases x with
  | none=>rfl
  | some x=>simp only [optEv];rw [ev_agr fun t ht=>h t (by simp [ht])]
theorem act_env {a:PAct} (h:∀ t∈a.uses,get E' t=get E t) (K:PV→Heap→Option β):act O nb E' H a K=act O nb E H a K:=by
  cases a with
  | bad=>rfl
  | alloc z=>rfl
  | raw _ _=>rfl
  | mv x|load _ x|nilck x|un _ x|toInt _ x|same x|s2b x|b2s x|fadr _ x|fld _ _ x|ext x _|len _ x|box _ x|sliceZ _ x=>simp only [act,ev_agr (x:=x) h]
  | clear _ x=>rfl
  | copy _ _ _=>rfl
  | pick c a b =>
    simp only [act]
    rw [ev_agr (x:=c) fun t ht=>h t (by simp [PAct.uses,ht]),ev_agr (x:=a) fun t ht=>h t (by simp [PAct.uses,ht]),ev_agr (x:=b) fun t ht=>h t (by simp [PAct.uses,ht])]
  | build z ps =>
    simp only [act]
    have:ps.map (evP E')=ps.map (evP E):=List.map_congr_left fun p hp=>by
      obtain ⟨i,j,x⟩:=p
      simp only [evP]
      rw [ev_agr (x:=x) fun t ht=>h t (List.mem_flatMap.2 ⟨(i,j,x),hp,ht⟩)]
    rw [this]
  | bslice t z n ps =>
    simp only [act]
    have e1:(ps.map fun (i,x)=>(i,Arg.ev E' x))=ps.map fun (i,x)=>(i,Arg.ev E x):=List.map_congr_left fun p hp=>by
      obtain ⟨i,x⟩:=p
      simp only
      rw [ev_agr (x:=x) fun t ht=>h t (List.mem_flatMap.2 ⟨(i,x),hp,ht⟩)]
    have e2:vOwn E' (ps.map (·.2))=vOwn E (ps.map (·.2)):=by
      unfold vOwn
      have:∀ l:List Arg,(∀ t∈l.flatMap Arg.uses,get E' t=get E t)→(l.flatMap fun x=>ownIds (x.ev E'))=l.flatMap fun x=>ownIds (x.ev E):=by
        intro l
        induction l with
        | nil=>intro _;rfl
        | cons x l ih =>
          intro hl
          simp only [List.flatMap_cons]
          rw [ev_agr (x:=x) fun t ht=>hl t (by simp [ht]),ih fun t ht=>hl t (by simp at ht ⊢;exact .inr ht)]
      exact this _ fun t ht=>h t (by simpa [PAct.uses,List.flatMap_map] using ht)
    rw [e1,e2]
  | store n a x|bin _ a x|beq _ a x|aeq _ _ a x|iadr _ a x|idx a x|append _ _ _ a x|mks _ _ _ a x =>
    simp only [act]
    rw [ev_agr (x:=a) fun t ht=>h t (by simp [PAct.uses,ht]),ev_agr (x:=x) fun t ht=>h t (by simp [PAct.uses,ht])]
  | sliceV sz x lo hi =>
    simp only [act]
    rw [ev_agr (x:=x) fun t ht=>h t (by simp [PAct.uses,ht]),optEv_agr (x:=lo) fun t ht=>h t (by simp [PAct.uses] at ht ⊢;exact .inr (.inl ht)),optEv_agr (x:=hi) fun t ht=>h t (by simp [PAct.uses] at ht ⊢;exact .inr (.inr ht))]
  | slice st sz x lo hi =>
    simp only [act]
    rw [ev_agr (x:=x) fun t ht=>h t (by simp [PAct.uses,ht]),optEv_agr (x:=lo) fun t ht=>h t (by simp [PAct.uses] at ht ⊢;exact .inr (.inl ht)),optEv_agr (x:=hi) fun t ht=>h t (by simp [PAct.uses] at ht ⊢;exact .inr (.inr ht))]
  | call f o args =>
    simp only [act]
    have:callPs E' args=callPs E args:=List.map_congr_left fun p hp=>by
      obtain ⟨i,x⟩:=p
      simp only
      rw [ev_agr (x:=x) fun t ht=>h t (List.mem_flatMap.2 ⟨(i,x),hp,ht⟩)]
    rw [this]
  | callv x args =>
    simp only [act]
    have:∀ a b,callVs E' a args b=callVs E a args b:=fun a b=>by
      unfold callVs
      congr 2
      exact List.map_congr_left fun y hy=>by rw [ev_agr (x:=y) fun t ht=>h t (by simp only [PAct.uses,List.mem_append,List.mem_flatMap];exact .inr ⟨y,hy,ht⟩)]
    rw [ev_agr (x:=x) fun t ht=>h t (by simp [PAct.uses,ht])]
    simp only [this]
  | min xs|max xs=>simp only [act];rw [evs_agr h]
  | mkf f a b =>
    simp only [act]
    rw [evs_agr (xs:=a) fun t ht=>h t (by simp only [PAct.uses,List.mem_append];exact .inl ht),evs_agr (xs:=b) fun t ht=>h t (by simp only [PAct.uses,List.mem_append];exact .inr ht)]
end
end Go.Proofs.YtdcphpbimeoioaaGreatDoorE
end
section
set_option linter.unusedSectionVars false
namespace Go.Proofs.YtdcphpbimeoioaaGreatDoorE
open Go
set_option linter.unusedVariables false
set_option linter.unusedSimpArgs false
variable [Dm]
structure Stp where
  o:POp
  v:PV
  δ:List (Nat×Slot)
  d:Done
def Fires (g:Option (Nat×Bool)) (E:Env):Prop:=match g with|none=>True|some (t,w)=>get E t = .bool w
def Stays (g:Option (Nat×Bool)) (E:Env):Prop:=match g with|none=>False|some (t,w)=>get E t = .bool (!w)∨get E t = .tup []
def EqE (E E':Env):Prop:=∀ t,get E t=get E' t
structure StpOk (O:Orc) (base:Nat) (s:Stp) (E:Env) (H:Heap):Prop where
  dst:s.d.dst=s.o.dst
  uses:s.d.uses=usesO s.o
  wr:∀ x∈s.δ,x.1∈s.d.wr
  run:(Fires s.o.guard E∧∀ E' H',(∀ t∈usesO s.o,get E' t=get E t)→Agr (s.d.rd++s.d.wr) H H'→∀ {β:Type} (K:PV→Heap→Option β),act O (base+s.d.i) E' H' s.o.act K=K s.v (upd H' s.δ)) ∨
    (Stays s.o.guard E∧s.v = .tup []∧s.δ=[])
def StepsOk (O:Orc) (base:Nat):List Done→List Stp→Env→Heap→Prop
  | _,[],_,_=>True
  | done,s ::r,E,H=>StpOk O base s E H∧s.o.after.all (fun k=>Nat.blt k s.d.i)=true∧okD s.d done=true∧s.d.anc=dd (s.o.after++s.o.after.flatMap (ancOf done)) ∧
    StepsOk O base (s.d ::done) r (putD s.o.dst s.v E) (upd H s.δ)
def allE:List Stp→Env→Env
  | [],E=>E
  | s ::r,E=>allE r (putD s.o.dst s.v E)
def allH:List Stp→Heap→Heap
  | [],H=>H
  | s ::r,H=>allH r (upd H s.δ)
section
variable {β:Type} {P:Program} {H H':Heap} {E E':Env} {O:Orc} {base:Nat} {r:β} {A W:List Nat}
theorem mem_dd {x:Nat}:∀ {l:List Nat},x∈dd l↔x∈l
  | []=>Iff.rfl
  | y ::r=>by
    have ih:=mem_dd (x:=x) (l:=r)
    simp only [dd]
    cases hm:memN y (dd r) with
    | true =>
      have:=memN_iff.1 hm
      simp only [cond_true,List.mem_cons]
      exact ⟨fun h => .inr (ih.1 h),fun h=>by rcases h with rfl|h;exact this;exact ih.2 h⟩
    | false=>simp only [cond_false,List.mem_cons,ih]
theorem ddK_eq:∀ (l:List Nat) (K:List Nat→Option β),ddK l K=K (dd l)
  | [],K=>rfl
  | x ::r,K=>by
    simp only [ddK,dd,ddK_eq r]
    cases memN x (dd r)<;>rfl
theorem EqE.put (h:EqE E E') (d:Option Nat) (v:PV):EqE (putD d v E) (putD d v E'):=fun t=>by
  cases d with
  | none=>exact h t
  | some d=>simp only [putD,get_cons];split<;>first|rfl|exact h t
theorem EqE.know (h:EqE E E') {t:Nat} {b:PV} (hb:get E t=b):EqE ((t,b) ::E) E':=fun u=>by
  rw [get_cons]
  split
  · rename_i e;subst e;rw [← h t,hb]
  · exact h u
theorem opsD_steps (hO:OrcOk P O):∀ (L:List (Nat×POp)) (done:List Done) {E E0:Env} {H:Heap} {K:Env→Heap→Option β},EqE E E0→opsD O base done L E H K=some r →
    ∃ Ls:List Stp,Ls.map (fun s=>(s.d.i,s.o))=L∧StepsOk O base done Ls E0 H∧∃ E',EqE E' (allE Ls E0)∧K E' (allH Ls H)=some r
  | [],done,E,E0,H,K,he,h=>⟨[],rfl,trivial,E,he,h⟩
  | (i,o) ::L,done,E,E0,H,K,he,h=>by
    have fire:∀ E1,EqE E1 E0→Fires o.guard E0→(match (⟨i,o.dst,usesO o,dd (o.after++o.after.flatMap (ancOf done)),dd (foot O E1 H o.act).1,dd ((base+i) ::(foot O E1 H o.act).2)⟩:Done) with
      | d=>cond (o.after.all (fun k=>Nat.blt k i) && okD d done) (act O (base+i) E1 H o.act fun v H=>fV v fun v=>opsD O base (d ::done) L (putD o.dst v E1) H K) none)=some r →
      ∃ Ls:List Stp,Ls.map (fun s=>(s.d.i,s.o))=(i,o) ::L∧StepsOk O base done Ls E0 H∧∃ E',EqE E' (allE Ls E0)∧K E' (allH Ls H)=some r:=by
      intro E1 h1 hf h
      simp only at h
      obtain ⟨h0,h⟩:=cond_some h
      simp only [Bool.and_eq_true] at h0
      obtain ⟨v,δ,g1,g2⟩:=act_loc' hO h
      have h2:=g2 H (fun _ _=>rfl) fun v H9=>fV v fun v=>opsD O base ((⟨i,o.dst,usesO o,dd (o.after++o.after.flatMap (ancOf done)),dd (foot O E1 H o.act).1,dd ((base+i) ::(foot O E1 H o.act).2)⟩:Done) ::done) L (putD o.dst v E1) H9 K
      simp only at h2
      rw [h2,fV_eq] at h
      obtain ⟨Ls,k1,k2,E',k3,k4⟩:=opsD_steps hO L _ (h1.put o.dst v) h
      refine ⟨⟨o,v,δ,⟨i,o.dst,usesO o,dd (o.after++o.after.flatMap (ancOf done)),dd (foot O E1 H o.act).1,dd ((base+i) ::(foot O E1 H o.act).2)⟩⟩ ::Ls,by simp [k1],⟨⟨rfl,rfl,fun x hx=>mem_dd.2 (g1 x hx), .inl ⟨hf,fun E' H' hE hA β K=>?_⟩⟩,h0.1,h0.2,rfl,k2⟩,E',k3,k4⟩
      rw [act_env (E:=E1) (fun t ht=>(hE t (List.mem_append_left _ ht)).trans (h1 t).symm) K]
      exact g2 H' (fun b hb=>hA b (by simp only [List.mem_append,mem_dd];simp at hb ⊢;rcases hb with h|h|h<;>simp [h])) K
    cases hg:o.guard with
    | none =>
      simp only [opsD,hg,ddK_eq] at h
      exact fire E he (by rw [hg];trivial) h
    | some g =>
      obtain ⟨t,w⟩:=g
      simp only [opsD,hg,ddK_eq] at h
      rcases asGuard_some h with ⟨hb,h⟩|⟨hb,h⟩
      · exact fire _ (he.know hb) (by rw [hg];exact (he t).symm.trans hb) h
      · obtain ⟨h0,h⟩:=cond_some h
        simp only [Bool.and_eq_true] at h0
        obtain ⟨Ls,k1,k2,E',k3,k4⟩:=opsD_steps hO L _ ((he.know rfl).put o.dst (.tup [])) h
        exact ⟨⟨o, .tup [],[],⟨i,o.dst,usesO o,dd (o.after++o.after.flatMap (ancOf done)),[],[]⟩⟩ ::Ls,by simp [k1],⟨⟨rfl,rfl,by simp, .inr ⟨by rw [hg];exact hb.imp (he t).symm.trans (he t).symm.trans,rfl,rfl⟩⟩,h0.1,h0.2,rfl,k2⟩,E',k3,k4⟩
end
end Go.Proofs.YtdcphpbimeoioaaGreatDoorE
end
section
set_option linter.unusedSectionVars false
namespace Go.Proofs.YtdcphpbimeoioaaGreatDoorE
open Go
set_option linter.unusedVariables false
set_option linter.unusedSimpArgs false
variable [Dm]
def subE (A:Nat→Bool):List Stp→Env→Env
  | [],E=>E
  | s ::r,E=>subE A r (cond (A s.d.i) (putD s.o.dst s.v E) E)
def subH (A:Nat→Bool):List Stp→Heap→Heap
  | [],H=>H
  | s ::r,H=>subH A r (cond (A s.d.i) (upd H s.δ) H)
section
variable {β:Type} {P:Program} {O:Orc} {base:Nat} {r:β} {A B:Nat→Bool}
theorem get_put_ne {d:Option Nat} {v:PV} {E:Env} {t:Nat} (h:d≠some t):get (putD d v E) t=get E t:=by
  cases d with
  | none=>rfl
  | some d=>simp only [putD,get_cons];rw [if_neg fun e=>h (by rw [e])]
theorem get_put_congr {d:Option Nat} {v:PV} {E E':Env} {t:Nat} (h:get E t=get E' t):get (putD d v E) t=get (putD d v E') t:=by
  cases d with
  | none=>exact h
  | some d=>simp only [putD,get_cons];rw [h]
theorem subE_congr:∀ (Ls:List Stp) {E E':Env} {t:Nat},(∀ s∈Ls,A s.d.i=B s.d.i∨s.o.dst≠some t)→get E t=get E' t→get (subE A Ls E) t=get (subE B Ls E') t
  | [],E,E',t,_,he=>he
  | s ::r,E,E',t,h,he=>by
    simp only [subE]
    refine subE_congr r (fun x hx=>h x (List.mem_cons_of_mem _ hx)) ?_
    rcases h s (List.mem_cons_self ..) with e|e
    · rw [e]
      cases B s.d.i with
      | true=>exact get_put_congr he
      | false=>exact he
    · cases A s.d.i<;>cases B s.d.i<;>simp only [cond_true,cond_false,get_put_ne e,he]
theorem subH_congr:∀ (Ls:List Stp) {H H':Heap} {b:Nat},(∀ s∈Ls,A s.d.i=B s.d.i∨∀ x∈s.δ,x.1≠b)→hget H b=hget H' b→hget (subH A Ls H) b=hget (subH B Ls H') b
  | [],H,H',b,_,he=>he
  | s ::r,H,H',b,h,he=>by
    simp only [subH]
    refine subH_congr r (fun x hx=>h x (List.mem_cons_of_mem _ hx)) ?_
    rcases h s (List.mem_cons_self ..) with e|e
    · rw [e]
      cases B s.d.i with
      | true=>exact (Agr.upd (A:=[b]) s.δ (H:=H') (H':=H) (fun c hc=>by simp at hc;subst hc;exact he)) b (by simp)
      | false=>exact he
    · cases A s.d.i<;>cases B s.d.i<;>simp only [cond_true,cond_false,hget_upd_ne _ _ _ e,he]
theorem subE_append:∀ (l l':List Stp) (E:Env),subE A (l++l') E=subE A l' (subE A l E)
  | [],_,_=>rfl
  | s ::l,l',E=>subE_append l l' _
theorem subH_append:∀ (l l':List Stp) (H:Heap),subH A (l++l') H=subH A l' (subH A l H)
  | [],_,_=>rfl
  | s ::l,l',H=>subH_append l l' _
theorem subH_upd:∀ (l:List Stp) (H:Heap) (δ:List (Nat×Slot)),(∀ s∈l,A s.d.i=true→∀ x∈s.δ,∀ y∈δ,x.1≠y.1)→subH A l (upd H δ)=upd (subH A l H) δ
  | [],H,δ,_=>rfl
  | s ::l,H,δ,h=>by
    simp only [subH]
    cases ha:A s.d.i with
    | false=>exact subH_upd l H δ fun x hx=>h x (List.mem_cons_of_mem _ hx)
    | true =>
      simp only [cond_true]
      rw [upd_comm δ s.δ H fun x hx y hy=>(h s (List.mem_cons_self ..) ha y hy x hx).symm]
      exact subH_upd l _ δ fun x hx=>h x (List.mem_cons_of_mem _ hx)
theorem steps_at {done:List Done}:∀ (l:List Stp) {done:List Done} {s:Stp} {l':List Stp} {E:Env} {H:Heap},StepsOk O base done (l++s ::l') E H →
    StpOk O base s (allE l E) (allH l H)∧s.o.after.all (fun k=>Nat.blt k s.d.i)=true∧okD s.d ((l.map (·.d)).reverse++done)=true∧s.d.anc=dd (s.o.after++s.o.after.flatMap (ancOf ((l.map (·.d)).reverse++done)))∧StepsOk O base (s.d ::((l.map (·.d)).reverse++done)) l' (putD s.o.dst s.v (allE l E)) (upd (allH l H) s.δ)
  | [],done,s,l',E,H,h=>h
  | x ::l,done,s,l',E,H,h=>by
    have:=steps_at (done:=done) l h.2.2.2.2
    simpa [allE,allH] using this
end
end Go.Proofs.YtdcphpbimeoioaaGreatDoorE
end
section
set_option linter.unusedSectionVars false
namespace Go.Proofs.YtdcphpbimeoioaaGreatDoorE
open Go
set_option linter.unusedVariables false
set_option linter.unusedSimpArgs false
variable [Dm]
section
variable {β:Type} {P:Program} {O:Orc} {base:Nat} {r:β} {A B:Nat→Bool}
theorem okD_spec:∀ {l:List Done} {y:Done},okD y l=true→∀ x∈l,x.i∈y.anc∨apartD x y=true
  | [],_,_,x,hx=>by cases hx
  | z ::l,y,h,x,hx=>by
    simp only [okD,Bool.and_eq_true,Bool.or_eq_true] at h
    rcases List.mem_cons.1 hx with rfl|hx
    · exact h.1.imp memN_iff.1 id
    · exact okD_spec h.2 x hx
theorem ancOf_mem:∀ {l:List Done} {i k:Nat},k∈ancOf l i→∃ x∈l,x.i=i∧k∈x.anc
  | [],_,_,h=>by simp [ancOf] at h
  | z ::l,i,k,h=>by
    simp only [ancOf] at h
    cases hb:Nat.beq z.i i with
    | true=>rw [hb] at h;exact ⟨z,List.mem_cons_self ..,Nat.eq_of_beq_eq_true hb,h⟩
    | false =>
      rw [hb] at h
      obtain ⟨x,h1,h2⟩:=ancOf_mem h
      exact ⟨x,List.mem_cons_of_mem _ h1,h2⟩
theorem anc_in:∀ (l:List Stp) {done:List Done} {E:Env} {H:Heap},StepsOk O base done l E H→(∀ s∈l,A s.d.i=true→∀ k∈s.o.after,A k=true)→(∀ x∈done,A x.i=true→∀ k∈x.anc,A k=true) →
    ∀ s∈l,(∀ k∈s.o.after,A k=true)→∀ k∈s.d.anc,A k=true
  | [],_,_,_,_,_,_,s,hs,_=>by cases hs
  | z ::l,done,E,H,h,hc,hd,s,hs,hk=>by
    obtain ⟨h1,h2,h3,h4,h5⟩:=h
    have here:(∀ k∈z.o.after,A k=true)→∀ k∈z.d.anc,A k=true:=by
      intro ha k hk
      rw [h4] at hk
      have hk:=mem_dd.1 hk
      rcases List.mem_append.1 hk with hk|hk
      · exact ha k hk
      · obtain ⟨j,hj,hk⟩:=List.mem_flatMap.1 hk
        obtain ⟨x,g1,g2,g3⟩:=ancOf_mem hk
        exact hd x g1 (by rw [g2];exact ha j hj) k g3
    rcases List.mem_cons.1 hs with rfl|hs
    · exact here hk
    · refine anc_in l h5 (fun x hx=>hc x (List.mem_cons_of_mem _ hx)) (fun x hx ha=>?_) s hs hk
      rcases List.mem_cons.1 hx with rfl|hx
      · exact here (hc z (List.mem_cons_self ..) ha)
      · exact hd x hx ha
theorem subE_true:∀ (l:List Stp) (E:Env),(∀ s∈l,B s.d.i=true)→subE B l E=allE l E
  | [],_,_=>rfl
  | s ::l,E,h=>by simp only [subE,allE,h s (List.mem_cons_self ..),cond_true];exact subE_true l _ fun x hx=>h x (List.mem_cons_of_mem _ hx)
theorem subE_false:∀ (l:List Stp) (E:Env),(∀ s∈l,B s.d.i=false)→subE B l E=E
  | [],_,_=>rfl
  | s ::l,E,h=>by simp only [subE,h s (List.mem_cons_self ..),cond_false];exact subE_false l _ fun x hx=>h x (List.mem_cons_of_mem _ hx)
theorem subH_true:∀ (l:List Stp) (H:Heap),(∀ s∈l,B s.d.i=true)→subH B l H=allH l H
  | [],_,_=>rfl
  | s ::l,E,h=>by simp only [subH,allH,h s (List.mem_cons_self ..),cond_true];exact subH_true l _ fun x hx=>h x (List.mem_cons_of_mem _ hx)
theorem subH_false:∀ (l:List Stp) (H:Heap),(∀ s∈l,B s.d.i=false)→subH B l H=H
  | [],_,_=>rfl
  | s ::l,E,h=>by simp only [subH,h s (List.mem_cons_self ..),cond_false];exact subH_false l _ fun x hx=>h x (List.mem_cons_of_mem _ hx)
structure Apart (x y:Done):Prop where
  xy:∀ t,x.dst=some t→t ∉ y.uses
  yx:∀ t,y.dst=some t→t ∉ x.uses
  ne:∀ t,x.dst=some t→y.dst≠some t
  wxy:∀ b∈x.wr,b ∉ y.rd++y.wr
  wyx:∀ b∈y.wr,b ∉ x.rd++x.wr
theorem noneOf_spec {a b:List Nat} (h:noneOf a b=true):∀ x∈a,x ∉ b:=fun x hx hb=>by
  have:=List.all_eq_true.1 h x hx
  rw [memN_iff.2 hb] at this
  cases this
theorem dstOff_spec {d:Option Nat} {l:List Nat} (h:dstOff d l=true):∀ t,d=some t→t ∉ l:=fun t ht hl=>by
  subst ht
  simp only [dstOff,memN_iff.2 hl] at h
  cases h
theorem apartD_spec {x y:Done} (h:apartD x y=true):Apart x y:=by
  unfold apartD at h
  simp only [Bool.and_eq_true] at h
  obtain ⟨⟨⟨⟨h1,h2⟩,h3⟩,h4⟩,h5⟩:=h
  refine ⟨dstOff_spec h1,dstOff_spec h2,fun t hx hy=>?_,noneOf_spec h4,noneOf_spec h5⟩
  rw [hx,hy] at h3
  simp only [show Nat.beq t t=true from Nat.beq_refl t] at h3
  cases h3
theorem Apart.symm {x y:Done} (h:Apart x y):Apart y x:=⟨h.yx,h.xy,fun t h1 h2=>h.ne t h2 h1,h.wyx,h.wxy⟩
theorem step_apart {l l':List Stp} {s:Stp} {E:Env} {H:Heap} (h:StepsOk O base [] (l++s ::l') E H) (hc:∀ x∈l++s ::l',A x.d.i=true→∀ k∈x.o.after,A k=true) (hs:A s.d.i=false) (hr:∀ k∈s.o.after,A k=true) :
    (∀ x∈l,A x.d.i=false→Apart x.d s.d)∧∀ x∈l',A x.d.i=true→Apart s.d x.d:=by
  have hin:=anc_in (A:=A) _ h hc (fun x hx=>by cases hx)
  refine ⟨fun x hx hA=>?_,fun x hx hA=>?_⟩
  · obtain ⟨_,_,h3,_⟩:=steps_at (done:=[]) l h
    rcases okD_spec h3 x.d (by simp;exact ⟨x,hx,rfl⟩) with e|e
    · have:=hin s (by simp) hr _ e
      rw [hA] at this;cases this
    · exact apartD_spec e
  · obtain ⟨l1,l2,rfl⟩:=List.append_of_mem hx
    have h':StepsOk O base [] ((l++s ::l1)++x ::l2) E H:=by simpa using h
    obtain ⟨_,_,h3,_⟩:=steps_at (done:=[]) (l++s ::l1) h'
    rcases okD_spec h3 s.d (by simp) with e|e
    · have:=hin x (by simp) (hc x (by simp) hA) _ e
      rw [hs] at this;cases this
    · exact apartD_spec e
theorem steps_all:∀ {l:List Stp} {done:List Done} {E:Env} {H:Heap},StepsOk O base done l E H→∀ x∈l,x.d.dst=x.o.dst∧x.d.uses=usesO x.o∧∀ y∈x.δ,y.1∈x.d.wr
  | [],_,_,_,_,x,hx=>by cases hx
  | z ::l,done,E,H,h,x,hx=>by
    rcases List.mem_cons.1 hx with rfl|hx
    · exact ⟨h.1.dst,h.1.uses,h.1.wr⟩
    · exact steps_all h.2.2.2.2 x hx
theorem step_env {l l':List Stp} {s:Stp} {E:Env} {H:Heap} (h:StepsOk O base [] (l++s ::l') E H) (hc:∀ x∈l++s ::l',A x.d.i=true→∀ k∈x.o.after,A k=true) (hs:A s.d.i=false) (hr:∀ k∈s.o.after,A k=true) :
    (∀ t∈usesO s.o,get (subE A (l++s ::l') E) t=get (allE l E) t)∧Agr (s.d.rd++s.d.wr) (allH l H) (subH A (l++s ::l') H):=by
  obtain ⟨a1,a2⟩:=step_apart h hc hs hr
  have hall:=steps_all h
  have hsu:=(hall s (by simp)).2.1
  refine ⟨fun t ht=>?_,fun b hb=>?_⟩
  · rw [subE_append,← subE_true (B:=fun _=>true) l E (fun _ _=>rfl)]
    simp only [subE,hs,cond_false]
    rw [← subE_false (B:=fun _=>false) l' (subE (fun _=>true) l E) (fun _ _=>rfl)]
    refine subE_congr l' (fun x hx=>?_) (subE_congr l (fun x hx=>?_) rfl)
    · cases hA:A x.d.i with
      | false=>exact .inl rfl
      | true=>exact .inr fun e=>(a2 x hx hA).yx t (by rw [(hall x (by simp [hx])).1,e]) (by rw [hsu];exact ht)
    · cases hA:A x.d.i with
      | true=>exact .inl rfl
      | false=>exact .inr fun e=>(a1 x hx hA).xy t (by rw [(hall x (by simp [hx])).1,e]) (by rw [hsu];exact ht)
  · rw [subH_append,← subH_true (B:=fun _=>true) l H (fun _ _=>rfl)]
    simp only [subH,hs,cond_false]
    rw [← subH_false (B:=fun _=>false) l' (subH (fun _=>true) l H) (fun _ _=>rfl)]
    refine subH_congr l' (fun x hx=>?_) (subH_congr l (fun x hx=>?_) rfl)
    · cases hA:A x.d.i with
      | false=>exact .inl rfl
      | true=>exact .inr fun y hy e=>(a2 x hx hA).wyx y.1 ((hall x (by simp [hx])).2.2 y hy) (by rw [e];exact hb)
    · cases hA:A x.d.i with
      | true=>exact .inl rfl
      | false=>exact .inr fun y hy e=>(a1 x hx hA).wxy y.1 ((hall x (by simp [hx])).2.2 y hy) (by rw [e];exact hb)
theorem subE_same:∀ (l:List Stp) (E:Env),(∀ s∈l,A s.d.i=B s.d.i)→subE A l E=subE B l E
  | [],_,_=>rfl
  | s ::l,E,h=>by simp only [subE,h s (List.mem_cons_self ..)];exact subE_same l _ fun x hx=>h x (List.mem_cons_of_mem _ hx)
theorem subH_same:∀ (l:List Stp) (H:Heap),(∀ s∈l,A s.d.i=B s.d.i)→subH A l H=subH B l H
  | [],_,_=>rfl
  | s ::l,E,h=>by simp only [subH,h s (List.mem_cons_self ..)];exact subH_same l _ fun x hx=>h x (List.mem_cons_of_mem _ hx)
theorem step_put {l l':List Stp} {s:Stp} {E:Env} {H:Heap} (h:StepsOk O base [] (l++s ::l') E H) (hc:∀ x∈l++s ::l',A x.d.i=true→∀ k∈x.o.after,A k=true) (hs:A s.d.i=false) (hr:∀ k∈s.o.after,A k=true)
    (hB:B s.d.i=true) (hl:∀ x∈l,B x.d.i=A x.d.i) (hl':∀ x∈l',B x.d.i=A x.d.i) :
    EqE (putD s.o.dst s.v (subE A (l++s ::l') E)) (subE B (l++s ::l') E)∧subH B (l++s ::l') H=upd (subH A (l++s ::l') H) s.δ:=by
  obtain ⟨a1,a2⟩:=step_apart h hc hs hr
  have hall:=steps_all h
  have hsd:=hall s (by simp)
  constructor
  · intro t
    rw [subE_append,subE_append]
    simp only [subE,hs,hB,cond_false,cond_true]
    rw [subE_same (A:=B) (B:=A) l' _ hl',subE_same (A:=B) (B:=A) l _ hl]
    by_cases e:s.o.dst=some t
    · have:get (subE A l' (putD s.o.dst s.v (subE A l E))) t=get (subE (fun _=>false) l' (putD s.o.dst s.v (subE A l E))) t:=by
        refine subE_congr l' (fun x hx=>?_) rfl
        cases hA:A x.d.i with
        | false=>exact .inl rfl
        | true=>exact .inr fun e'=>(a2 x hx hA).ne t (by rw [hsd.1,e]) (by rw [(hall x (by simp [hx])).1,e'])
      rw [this,subE_false (B:=fun _=>false) _ _ fun _ _=>rfl]
      rw [e]
      simp [putD,get_cons]
    · rw [get_put_ne e]
      exact (subE_congr l' (fun x hx => .inl rfl) (get_put_ne e)).symm
  · rw [subH_append,subH_append]
    simp only [subH,hs,hB,cond_false,cond_true]
    rw [subH_same (A:=B) (B:=A) l' _ hl',subH_same (A:=B) (B:=A) l _ hl]
    refine subH_upd l' _ _ fun x hx hA y hy z hz e=>?_
    have g1:=(hall x (by simp [hx])).2.2 y hy
    have g2:=hsd.2.2 z hz
    exact (a2 x hx hA).wyx y.1 g1 (by rw [e];exact List.mem_append_right _ g2)
end
end Go.Proofs.YtdcphpbimeoioaaGreatDoorE
end
section
set_option linter.unusedSectionVars false
namespace Go.Proofs.YtdcphpbimeoioaaGreatDoorE
open Go
set_option linter.unusedVariables false
set_option linter.unusedSimpArgs false
variable [Dm]
section
variable {β:Type} {P:Program} {O:Orc} {base n:Nat} {r:β} {os:Array Oper} {Q:Exit→Act→World→Prop} {Ls:List Stp} {E0:Env} {H0:Heap} {S:Nat→SL} {F:Nat→Prop} {w:World}
theorem EqE.symm {E E':Env} (h:EqE E E'):EqE E' E:=fun t=>(h t).symm
theorem EqE.trans {E E' E2:Env} (h:EqE E E') (h':EqE E' E2):EqE E E2:=fun t=>(h t).trans (h' t)
theorem At.eqE {E E':Env} {a:Act} (h:At S F w E a n) (he:EqE E E'):At S F w E' a n :=
  ⟨⟨fun k=>by rw [← he k];exact h.opd.tmp k,h.opd.const,h.opd.func⟩,h.size,h.defers⟩
theorem stp_at (hL:Ls.map (fun s=>(s.d.i,s.o))=number 0 (os.toList.map (opOf P os))) {i:Nat} {o:Oper} (ho:os[i]?=some o) :
    ∃ s l l',Ls=l++s ::l'∧s.d.i=i∧s.o=opOf P os o∧(∀ x∈l,x.d.i≠i)∧∀ x∈l',x.d.i≠i:=by
  have h1:Ls.map (fun s=>s.d.i)=List.range' 0 os.size:=by
    have:=congrArg (List.map Prod.fst) hL
    rw [number_fst,List.map_map] at this
    simpa [Function.comp_def] using this
  have hlt:i<os.size:=(Array.getElem?_eq_some_iff.1 ho).1
  have hi:i∈Ls.map (fun s=>s.d.i):=by rw [h1];simp [List.mem_range'_1,hlt]
  obtain ⟨s,hs,rfl⟩:=List.mem_map.1 hi
  have hso:s.o=opOf P os o:=by
    have hm:(s.d.i,s.o)∈number 0 (os.toList.map (opOf P os)):=by rw [← hL];exact List.mem_map.2 ⟨s,hs,rfl⟩
    obtain ⟨_,h2⟩:=number_mem _ _ _ hm
    simp only [Nat.sub_zero,List.getElem?_map,Array.getElem?_toList,ho,Option.map_some,Option.some.injEq] at h2
    exact h2.symm
  obtain ⟨l,l',rfl⟩:=List.append_of_mem hs
  have hn:((l++s ::l').map (fun s=>s.d.i)).Nodup:=by rw [h1];exact List.nodup_range' (step:=1)
  rw [List.map_append,List.map_cons,List.nodup_append] at hn
  obtain ⟨_,n2,n3⟩:=hn
  rw [List.nodup_cons] at n2
  exact ⟨s,l,l',rfl,rfl,hso,fun x hx e=>n3 _ (List.mem_map.2 ⟨x,hx,rfl⟩) _ (List.mem_cons_self ..) e,fun x hx e=>n2.1 (List.mem_map.2 ⟨x,hx,e⟩)⟩
theorem getD_set_self {l:Array Bool} {i:Nat} (h:i<l.size):(l.setIfInBounds i true).getD i false=true:=by
  simp [Array.getD_eq_getD_getElem?,Array.getElem?_setIfInBounds,h]
theorem any_ok (hO:OrcOk P O) (hL:Ls.map (fun s=>(s.d.i,s.o))=number 0 (os.toList.map (opOf P os))) (hd:(os.toList.map (opOf P os)).all (dstIn n)=true) (hs:StepsOk O base [] Ls E0 H0)
    (hQ:∀ S' F' w' E' a',EqE E' (allE Ls E0)→Rel S' F' w' (allH Ls H0)→At S' F' w' E' a' n→Adv S F w H0 S' F' w' (allH Ls H0)→Q .normal a' w') :
    ∀ (fuel:Nat) (listed:Array Bool) {S1:Nat→SL} {F1:Nat→Prop} {w1:World} {E1:Env} {a1:Act},listed.size=os.size→(∀ s∈Ls,listed.getD s.d.i false=true→∀ k∈s.o.after,listed.getD k false=true)→listed.toList.count false≤fuel →
      Rel S1 F1 w1 (subH (fun i=>listed.getD i false) Ls H0)→At S1 F1 w1 E1 a1 n→EqE E1 (subE (fun i=>listed.getD i false) Ls E0)→Adv S F w H0 S1 F1 w1 (subH (fun i=>listed.getD i false) Ls H0)→wpAny P .any os Q fuel listed a1 w1:=by
  have hidx:∀ s∈Ls,s.d.i<os.size∧∃ o,os[s.d.i]?=some o∧s.o=opOf P os o:=by
    intro s hs
    have hm:(s.d.i,s.o)∈number 0 (os.toList.map (opOf P os)):=by rw [← hL];exact List.mem_map.2 ⟨s,hs,rfl⟩
    obtain ⟨o,h1,h2,_⟩:=region_isOp hd _ hm
    exact ⟨(Array.getElem?_eq_some_iff.1 h1).1,o,h1,h2⟩
  have fin:∀ (listed:Array Bool) {S1:Nat→SL} {F1:Nat→Prop} {w1:World} {E1:Env} {a1:Act},(∀ s∈Ls,listed.getD s.d.i false=true)→Rel S1 F1 w1 (subH (fun i=>listed.getD i false) Ls H0)→At S1 F1 w1 E1 a1 n→EqE E1 (subE (fun i=>listed.getD i false) Ls E0)→Adv S F w H0 S1 F1 w1 (subH (fun i=>listed.getD i false) Ls H0)→Q .normal a1 w1:=by
    intro listed S1 F1 w1 E1 a1 hall hr ha he hA
    rw [subH_true (B:=fun i=>listed.getD i false) Ls H0 hall] at hr hA
    rw [subE_true (B:=fun i=>listed.getD i false) Ls E0 hall] at he
    exact hQ _ _ _ _ _ he hr ha hA
  intro fuel
  induction fuel with
  | zero =>
    intro listed S1 F1 w1 E1 a1 hsz hcl hf hr ha he hA
    have hno:∀ i,i<os.size→listed.getD i false=true:=by
      intro i hi
      have h0:listed.toList.count false=0:=Nat.le_zero.1 hf
      rw [List.count_eq_zero] at h0
      have hi':i<listed.size:=by omega
      rw [Array.getD_eq_getD_getElem?,Array.getElem?_eq_getElem hi']
      simp only [Option.getD_some]
      cases hb:listed[i] with
      | true=>rfl
      | false=>exact absurd (by rw [← hb];exact Array.getElem_mem_toList hi') h0
    refine ⟨?_,fin listed (fun s hs=>hno _ (hidx s hs).1) hr ha he hA⟩
    refine List.eq_nil_iff_forall_not_mem.2 fun i hi=>?_
    obtain ⟨h1,o,h2,_⟩:=mem_ready.1 hi
    have hlt:i<os.size:=(Array.getElem?_eq_some_iff.1 h2).1
    have:=hno i hlt
    rw [Array.getD_eq_getD_getElem?,Array.getElem?_eq_getElem (by omega:i<listed.size)] at this h1
    simp only [Option.getD_some] at this h1
    rw [this] at h1;cases h1
  | succ fuel ih =>
    intro listed S1 F1 w1 E1 a1 hsz hcl hf hr ha he hA
    have hgd:∀ i,i<os.size→listed.getD i true=listed.getD i false:=by
      intro i hi
      rw [Array.getD_eq_getD_getElem?,Array.getD_eq_getD_getElem?,Array.getElem?_eq_getElem (by omega:i<listed.size)]
      rfl
    refine ⟨fun hnil=>fin listed ?_ hr ha he hA,fun i hi=>?_⟩
    ·
      have key:∀ (m:Nat),∀ s∈Ls,s.d.i≤m→listed.getD s.d.i false=true:=by
        intro m
        induction m with
        | zero =>
          intro s hsm hle
          cases hb:listed.getD s.d.i false with
          | true=>rfl
          | false =>
            obtain ⟨hlt,o,ho,hso⟩:=hidx s hsm
            have:s.d.i∈Region.ready .any os listed:=mem_ready.2 ⟨by rw [hgd _ hlt];exact hb,o,ho,fun e he' hbd=>by
              obtain ⟨l,l',hll⟩:=List.append_of_mem hsm
              have h2:=(steps_at (done:=[]) l (hll ▸ hs)).2.1
              have:e.on∈s.o.after:=by rw [hso];exact List.mem_map.2 ⟨e,List.mem_filter.2 ⟨by simpa using he',hbd⟩,rfl⟩
              have:=List.all_eq_true.1 h2 _ this
              have:=Nat.le_of_ble_eq_true this
              omega⟩
            rw [hnil] at this;cases this
        | succ m ihm =>
          intro s hsm hle
          cases hb:listed.getD s.d.i false with
          | true=>rfl
          | false =>
            obtain ⟨hlt,o,ho,hso⟩:=hidx s hsm
            have:s.d.i∈Region.ready .any os listed:=mem_ready.2 ⟨by rw [hgd _ hlt];exact hb,o,ho,fun e he' hbd=>by
              obtain ⟨l,l',hll⟩:=List.append_of_mem hsm
              have h2:=(steps_at (done:=[]) l (hll ▸ hs)).2.1
              have:e.on∈s.o.after:=by rw [hso];exact List.mem_map.2 ⟨e,List.mem_filter.2 ⟨by simpa using he',hbd⟩,rfl⟩
              have:=List.all_eq_true.1 h2 _ this
              have h3:=Nat.le_of_ble_eq_true this
              have hlt':e.on<os.size:=by omega
              obtain ⟨s',k,k',e1,e2,e3,_⟩:=stp_at hL (Array.getElem?_eq_getElem hlt')
              have:=ihm s' (by rw [e1];simp) (by omega)
              rwa [e2] at this⟩
            rw [hnil] at this;cases this
      exact fun s hs=>key _ s hs (Nat.le_refl _)
    · obtain ⟨h1,o,ho,hrd⟩:=mem_ready.1 hi
      have hlt:i<os.size:=(Array.getElem?_eq_some_iff.1 ho).1
      rw [hgd i hlt] at h1
      obtain ⟨s,l,l',hll,hsi,hso,hl,hl'⟩:=stp_at hL ho
      have hA0:listed.getD s.d.i false=false:=by rw [hsi];exact h1
      have hrdy:∀ k∈s.o.after,listed.getD k false=true:=by
        intro k hk
        rw [hso] at hk
        obtain ⟨e,he',rfl⟩:=List.mem_map.1 hk
        obtain ⟨g1,g2⟩:=List.mem_filter.1 he'
        exact hrd e (by simpa using g1) g2
      have hB:(listed.setIfInBounds i true).getD s.d.i false=true:=by rw [hsi];exact getD_set_self (by omega)
      have hne:∀ x:Stp,x.d.i≠i→(listed.setIfInBounds i true).getD x.d.i false=listed.getD x.d.i false:=fun x hx=>getD_set_ne false fun e=>hx e.symm
      have hmono:∀ k,listed.getD k false=true→(listed.setIfInBounds i true).getD k false=true:=fun k hk=>by
        by_cases e:i=k
        · subst e;exact getD_set_self (by omega)
        · rw [getD_set_ne false e];exact hk
      have hs':=hs
      rw [hll] at hs' hcl
      obtain ⟨e1,e2⟩:=step_env (A:=fun i=>listed.getD i false) hs' hcl hA0 hrdy
      obtain ⟨p1,p2⟩:=step_put (A:=fun i=>listed.getD i false) (B:=fun j=>(listed.setIfInBounds i true).getD j false) hs' hcl hA0 hrdy hB (fun x hx=>hne x (hl x hx)) (fun x hx=>hne x (hl' x hx))
      have hrun:=(steps_at (done:=[]) l hs').1
      rw [← hll] at e1 e2 p1 p2 hcl
      obtain ⟨d1,d2⟩:=dstIn_spec (List.all_eq_true.1 hd _ (List.mem_map.2 ⟨o,by simpa using Array.mem_of_getElem? ho,rfl⟩):dstIn n (opOf P os o)=true)
      have hcl':∀ x∈Ls,(listed.setIfInBounds i true).getD x.d.i false=true→∀ k∈x.o.after,(listed.setIfInBounds i true).getD k false=true:=by
        intro x hx hb k hk
        by_cases e:x.d.i=i
        · refine hmono k (hrdy k ?_)
          have hx':=hx
          rw [hll] at hx'
          rcases List.mem_append.1 hx' with hx'|hx'
          · exact absurd e (hl x hx')
          · rcases List.mem_cons.1 hx' with rfl|hx'
            · exact hk
            · exact absurd e (hl' x hx')
        · rw [hne x e] at hb
          exact hmono k (hcl x hx hb k hk)
      have hcnt:(listed.setIfInBounds i true).toList.count false≤fuel:=by
        have hi':i<listed.toList.length:=by simpa using (by omega:i<listed.size)
        have h0:listed.toList[i]=false:=by
          rw [Array.getD_eq_getD_getElem?,Array.getElem?_eq_getElem (by omega:i<listed.size)] at h1
          simpa using h1
        have hm:0<listed.toList.count false:=List.count_pos_iff.2 (by rw [← h0];exact List.getElem_mem hi')
        rw [Array.toList_setIfInBounds,List.count_set hi',h0]
        simp
        simp at hm hf
        omega
      have hus:∀ t∈usesO s.o,get E1 t=get (allE l E0) t:=fun t ht=>(he t).trans (e1 t ht)
      have fire:Fires s.o.guard (allE l E0)→(∀ E' H',(∀ t∈usesO s.o,get E' t=get (allE l E0) t)→Agr (s.d.rd++s.d.wr) (allH l H0) H'→∀ {β:Type} (K:PV→Heap→Option β),act O (base+s.d.i) E' H' s.o.act K=K s.v (upd H' s.δ)) →
          o.wp P a1 w1 (wpAny P .any os Q fuel (listed.setIfInBounds i true)) Q:=by
        intro _ hact
        have ha':=hact E1 _ hus e2 (fun v H=>some (v,H))
        rw [show s.o.act=actV P (appUses os o.dst) o by rw [hso];rfl] at ha'
        refine wp_of_runs (actV_ok hO hr ha.opd o _ ha') fun v w' hv=>?_
        obtain ⟨pv,H',S',F',hK,hr',hv',hA'⟩:=hv
        cases hK
        refine ih _ (by simpa using hsz) hcl' hcnt (by rw [p2];exact hr') ((ha.adv hr hA').put hv' d1) ?_ (by rw [p2];exact hA.trans' hA')
        have hdst:s.o.dst=o.dst:=by rw [hso];rfl
        rw [← hdst]
        exact (he.put _ _).trans p1
      unfold wpOp
      simp only [ho]
      rcases hrun.run with ⟨g1,g2⟩|⟨g1,g2,g3⟩
      · have hw:Region.wanted o (yielded os a1.tmps)=true:=by
          cases hg:o.guard with
          | none=>simp [Region.wanted,hg]
          | some g =>
            obtain ⟨j,b⟩:=g
            obtain ⟨t,hgo,ht⟩:=d2 j b hg
            rw [hso,hgo] at g1
            have hb:get E1 t = .bool b:=(hus t (by rw [hso];simp [usesO,hgo])).trans g1
            simp [Region.wanted,hg,ha.yield hb ht]
        simp only [hw,if_true]
        exact .inl (fire g1 g2)
      · cases hg:o.guard with
        | none =>
          have:s.o.guard=none:=by rw [hso];simp [opOf,hg]
          rw [this] at g1;exact absurd g1 (fun h=>h)
        | some g =>
          obtain ⟨j,b⟩:=g
          obtain ⟨t,hgo,ht⟩:=d2 j b hg
          rw [hso,hgo] at g1
          have hu:=hus t (by rw [hso];simp [usesO,hgo])
          have hw:=ha.wantNo hg (g1.imp hu.trans hu.trans) ht
          simp only [hw,Bool.false_eq_true,if_false]
          rw [g3] at p2
          rw [g2] at p1
          have p2':subH (fun j=>(listed.setIfInBounds i true).getD j false) Ls H0=subH (fun i=>listed.getD i false) Ls H0:=p2
          have hdst:s.o.dst=o.dst:=by rw [hso];rfl
          refine ih _ (by simpa using hsz) hcl' hcnt (by rw [p2'];exact hr) (ha.skip d1) ?_ (by rw [p2'];exact hA)
          rw [← hdst]
          exact (he.put _ _).trans p1
theorem drawn_ok (hM:P.follows .mixedOrders=true) (hO:OrcOk P O):DrawnOk P O:=by
  intro β n id os S F w H E a r Q base out K hd hr ha h hQ
  obtain ⟨Ls,k1,k2,E',k3,k4⟩:=opsD_steps hO _ [] (fun _=>rfl) h
  refine wp_region_any hM ?_
  have h0:∀ i,(Array.replicate os.size false).getD i false=false:=fun i=>by
    simp [Array.getD_eq_getD_getElem?,Array.getElem?_replicate]
    split<;>rfl
  have hA:=Adv.heap (w:=w) (w':={ w with drawn:=w.drawn+1 }) rfl ⟨rfl,rfl,rfl,(fun _=>Nat.le_succ _)⟩ S F H
  refine any_ok (S:=S) (F:=F) (w:=w) hO k1 hd k2 (fun S' F' w' E2 a' e1 e2 e3 e4=>?_) os.size _ (by simp) (fun s _ hb=>?_) ?_ (S1:=S) (F1:=F) (E1:=E) ?_ (ha.adv hr hA) ?_ ?_
  · obtain ⟨A',g1,g2⟩:=at_keep (e3.eqE (e1.trans k3.symm)) k4
    exact hQ _ _ _ _ _ _ g1 e2 g2 e4.toM fun m=>e4.toM
  · rw [h0] at hb;cases hb
  · have:=List.count_le_length (a:=false) (l:=(Array.replicate os.size false).toList)
    simp
  · rw [subH_false (B:=fun i=>(Array.replicate os.size false).getD i false) _ _ fun s _=>h0 _]
    exact Rel.heap (w:=w) rfl hr
  · rw [subE_false (B:=fun i=>(Array.replicate os.size false).getD i false) _ _ fun s _=>h0 _]
    exact fun _=>rfl
  · rw [subH_false (B:=fun i=>(Array.replicate os.size false).getD i false) _ _ fun s _=>h0 _]
    exact hA
end
end Go.Proofs.YtdcphpbimeoioaaGreatDoorE
end
section
set_option linter.unusedSectionVars false
namespace Go.Proofs.YtdcphpbimeoioaaGreatDoorE
open Go Go.ChangeShapes Go.WideShapes
set_option linter.unusedVariables false
set_option linter.unusedSimpArgs false
variable [Dm]
def okE:(t:Ty)→El t→Prop
  | .int k,n=>(Lit.int k n).wf=true
  | .bool,_=>True
  | .str,s=>s.size≤140737488351232
  | .unit,_=>True
  | .none,_=>True
  | .slice t,xs=>xs.length≤140737488351232∧∀ x∈xs,okE t x
  | .pair a b,x=>okE a x.1∧okE b x.2
section
variable (P:Program)
def rowOk:List Field→Nat→Bool
  | [],_=>true
  | f ::r,n=>Nat.beq f.offset n && rowOk r (n+P.cellsOf f.type)
def tyGood:Nat→TypeId→Bool
  | 0,_=>false
  | n+1,t=>match P.underlying t with
    | some .bool=>true
    | some (.int _)=>true
    | some .string=>true
    | some (.slice e)=>Nat.beq (P.cellsOf e) (tyOf P n e).size && Nat.blt 0 (tyOf P n e).size && Nat.blt 0 (P.bytesOf e) && tyGood n e
    | some (.struct fs)=>rowOk P fs.toList 0 && Nat.beq (P.cellsOf t) (tyOf P (n+1) t).size && fs.toList.all fun f=>Nat.beq (P.cellsOf f.type) (tyOf P n f.type).size && tyGood n f.type
    | _=>false
end
def S0:Nat→SL:=fun _ => .unused
def F0 (w:World):Nat→Prop:=fun k=>k<w.heap.size
def CellsV (w:World) (t:Ty) (y:El t) (cs:List Value):Prop :=
  cs.length=t.size∧∀ (j:Nat) (p:PV) (v:Value),(cellsOf t y)[j]?=some p→cs[j]?=some v→Val S0 (F0 w) w p v∧v.oneCell=true
def OpE (P:Program) (ty:Ty) (t:TypeId):Prop :=
  ∀ (X:Type) (enc:TypeId×Value→X) (w:World) (base fuel:Nat) (held:Bool) (cs:List Value) (x:DataW X) (ps:List MemPlace),
    DataW.trod enc P w base (fun _=>true) held fuel t cs=some (x,ps)→(x.weights P t).all (·≤reachBytes)=true→∃ y:El ty,okE ty y∧CellsV w ty y cs
theorem eMapM_get {α β:Type} {f:α→Option β}:∀ {l:List α} {ys:List β},l.mapM f=some ys→ys.length=l.length∧∀ (i:Nat) (a:α),l[i]?=some a→∃ b,ys[i]?=some b∧f a=some b
  | [],ys,h=>by
    simp at h;subst h
    exact ⟨rfl,fun i a hi=>by simp at hi⟩
  | x ::l,ys,h=>by
    rw [List.mapM_cons] at h
    cases hx:f x with
    | none=>rw [hx] at h;simp at h
    | some b =>
      cases hl:l.mapM f with
      | none=>rw [hx,hl] at h;simp at h
      | some bs =>
        rw [hx,hl] at h
        simp at h
        subst h
        obtain ⟨h1,h2⟩:=eMapM_get hl
        refine ⟨by simp [h1],fun i a hi=>?_⟩
        cases i with
        | zero=>simp at hi;subst hi;exact ⟨b,rfl,hx⟩
        | succ i=>simp at hi;obtain ⟨c,hc,hf⟩:=h2 i a hi;exact ⟨c,by simpa using hc,hf⟩
theorem eChoose {α:Type} (Q:Nat→α→Prop):∀ n,(∀ i,i<n→∃ y,Q i y)→∃ ys:List α,ys.length=n∧∀ i y,ys[i]?=some y→Q i y
  | 0,_=>⟨[],rfl,fun i y h=>by simp at h⟩
  | n+1,h=>by
    obtain ⟨ys,hl,hq⟩:=eChoose Q n (fun i hi=>h i (by omega))
    obtain ⟨y,hy⟩:=h n (by omega)
    refine ⟨ys++[y],by simp [hl],fun i z hz=>?_⟩
    by_cases hi:i<n
    · rw [List.getElem?_append_left (by omega)] at hz;exact hq i z hz
    · rw [List.getElem?_append_right (by omega)] at hz
      have:i=n:=by
        have:=(List.getElem?_eq_some_iff.1 hz).1
        simp at this;omega
      subst this
      simp [hl] at hz;subst hz;exact hy
theorem eCells {w:World} {base:Nat} {a:Addr} {n:Nat} {cs:List Value} (h:w.cells? base a n=some cs):cs.length=n∧∀ i u,cs[i]?=some u→w.cell? (a.add i)=some u:=by
  unfold World.cells? at h
  split at h
  · obtain ⟨h1,h2⟩:=eMapM_get h
    refine ⟨by simpa using h1,fun i u hu=>?_⟩
    have hi:i<n:=by
      have:=(List.getElem?_eq_some_iff.1 hu).1
      simp at h1;omega
    obtain ⟨b,hb,hc⟩:=h2 i i (by simp [hi])
    rw [hu] at hb;cases hb;exact hc
  · cases h
theorem eCell {w:World} {a:Addr} {u:Value} (h:w.cell? a=some u):a.spot=none∧a.block<w.heap.size:=by
  unfold World.cell? at h
  split at h
  · rename_i c t f he
    split at h
    · cases h
    · rename_i hs
      exact ⟨by cases hsp:a.spot<;>simp_all,(Array.getElem?_eq_some_iff.1 he).1⟩
  · cases h
theorem eAllApp {p:Nat→Bool} {l r:List Nat}:(l++r).all p=true↔l.all p=true∧r.all p=true:=by simp
section
variable {P:Program}
theorem eWeights {X:Type} {e:TypeId}:∀ {xs:List (DataW X)},(DataW.weightsAll P e xs).all (·≤reachBytes)=true→∀ x∈xs,(x.weights P e).all (·≤reachBytes)=true
  | [],_,_,h=>by cases h
  | y ::ys,h,x,hx=>by
    rw [DataW.weightsAll,eAllApp] at h
    rcases List.mem_cons.1 hx with rfl|hx
    · exact h.1
    · exact eWeights h.2 x hx
theorem ope_int {t:TypeId} {k:IntKind} (hu:P.underlying t=some (.int k)):OpE P (.int k) t:=by
  intro X enc w base fuel held cs x ps h hw
  cases fuel with
  | zero=>cases h
  | succ fuel =>
    unfold DataW.trod at h
    rw [hu] at h
    split at h<;>first|(cases h;done)|skip
    all_goals first|(rename_i h1;cases h1)|skip
    all_goals simp_all
    obtain ⟨⟨rfl,hwf⟩,_⟩:=h
    refine ⟨_,hwf,rfl,fun j p v hp hv=>?_⟩
    cases j with
    | zero=>simp [cellsOf] at hp hv;subst hp;subst hv;exact ⟨.int _ _,rfl⟩
    | succ j=>simp at hv
theorem ope_bool {t:TypeId} (hu:P.underlying t=some .bool):OpE P .bool t:=by
  intro X enc w base fuel held cs x ps h hw
  cases fuel with
  | zero=>cases h
  | succ fuel =>
    unfold DataW.trod at h
    rw [hu] at h
    split at h<;>simp_all
    rename_i b
    have hc:CellsV w .bool b [.bool b]:=⟨rfl,fun j p v hp hv=>by
      cases j with
      | zero=>simp [cellsOf] at hp hv;subst hp;subst hv;exact ⟨.bool _,rfl⟩
      | succ j=>simp at hv⟩
    cases b
    · exact .inl ⟨trivial,hc⟩
    · exact .inr ⟨trivial,hc⟩
theorem ope_str {t:TypeId} (hu:P.underlying t=some .string):OpE P .str t:=by
  intro X enc w base fuel held cs x ps h hw
  cases fuel with
  | zero=>cases h
  | succ fuel =>
    unfold DataW.trod at h
    rw [hu] at h
    split at h<;>simp_all
    obtain ⟨_,rfl,_⟩:=h
    rename_i s _ _
    refine ⟨s,?_,rfl,fun j p v hp hv=>?_⟩
    · simp [DataW.weights,reachBytes] at hw
      exact hw
    · cases j with
      | zero=>simp [cellsOf] at hp hv;subst hp;subst hv;exact ⟨.str _,rfl⟩
      | succ j=>simp at hv
theorem ope_slice {t e:TypeId} {te:Ty} (hu:P.underlying t=some (.slice e)) (he:OpE P te e) (hsz:P.cellsOf e=te.size) (h0:0<te.size) (hB:0<P.bytesOf e):OpE P (.slice te) t:=by
  intro X enc w base fuel held cs x ps h hw
  cases fuel with
  | zero=>cases h
  | succ fuel =>
    unfold DataW.trod at h
    rw [hu] at h
    split at h
    case h_7 =>
      refine ⟨[],⟨by simp,by simp⟩,rfl,fun j p v hp hv=>?_⟩
      cases j with
      | zero=>simp [cellsOf] at hp hv;subst hp;subst hv;exact ⟨.lst te [] none 0 (fun _ _=>undef) (Nat.le_refl _) (fun h=>absurd rfl h) (fun _ _ h=>by cases h) (fun ad i x j p _ h=>by simp at h) (fun i x j p h=>by simp at h),rfl⟩
      | succ j=>simp at hv
    case h_8 e2 a len cap he2 =>
      obtain rfl:e=e2:=by cases he2;rfl
      simp only [if_true] at h
      split at h
      case isFalse=>cases h
      case isTrue hb =>
        cases h1:(List.range len).mapM fun i=>(w.cells? base (a.add (i * P.cellsOf e)) (P.cellsOf e)).bind (DataW.trod enc P w base (fun _=>true) held fuel e) with
        | none=>rw [h1] at h;cases h
        | some elems =>
          rw [h1] at h
          simp only [Option.bind_some] at h
          cases h2:(List.range (cap - len)).mapM fun j=>(w.cells? base (a.add ((len+j) * P.cellsOf e)) (P.cellsOf e)).bind (DataW.trod enc P w base (fun _=>true) held fuel e) with
          | none=>rw [h2] at h;cases h
          | some rest =>
            rw [h2] at h
            simp only [Option.map_some,Option.some.injEq,Prod.mk.injEq] at h
            obtain ⟨rfl,_⟩:=h
            rw [DataW.weights,hu] at hw
            simp only [List.all_cons,List.all_append,Bool.and_eq_true,List.length_map] at hw
            obtain ⟨hw0,hw1,_⟩:=hw
            obtain ⟨l1,g1⟩:=eMapM_get h1
            have l1':elems.length=len:=by simpa using l1
            obtain ⟨ys,hyl,hys⟩:=eChoose (fun i (y:El te)=>∃ c,CellsV w te y c∧(∀ j u,c[j]?=some u→w.cell? ((a.add (i * te.size)).add j)=some u)∧okE te y) len (fun i hi=>by
              obtain ⟨b,hb1,hb2⟩:=g1 i i (by simp [hi])
              cases hc:w.cells? base (a.add (i * P.cellsOf e)) (P.cellsOf e) with
              | none=>rw [hc] at hb2;cases hb2
              | some c =>
                rw [hc] at hb2
                simp only [Option.bind_some] at hb2
                obtain ⟨c1,c2⟩:=eCells hc
                obtain ⟨y,hy,hok⟩:=he _ enc w base fuel held c b.1 b.2 (by rw [hb2]) (eWeights (by simpa using hw1) b.1 (List.mem_map.2 ⟨b,List.mem_of_getElem? hb1,rfl⟩))
                exact ⟨y,c,hok,fun j u hu=>by rw [← hsz];exact c2 j u hu,hy⟩)
            subst hyl
            have hadd:∀ (a:Addr) (i j:Nat) (u:Value),w.cell? ((a.add i).add j)=some u→w.cell? ⟨a.block,a.off+i+j,none⟩=some u∧a.block<w.heap.size∧(i=0→j=0→a.spot=none):=by
              intro a i j u h
              obtain ⟨s1,s2⟩:=eCell h
              obtain ⟨blk,off,sp⟩:=a
              unfold Addr.add at *
              by_cases hi:i=0<;>by_cases hj:j=0<;>simp_all
            refine ⟨ys,⟨?_,?_⟩,rfl,fun j p v hp hv=>?_⟩
            · have hw0:(elems.length+rest.length) * P.bytesOf e≤140737488351232:=of_decide_eq_true hw0
              have h3:(elems.length+rest.length) * 1≤(elems.length+rest.length) * P.bytesOf e:=Nat.mul_le_mul_left _ hB
              omega
            · intro y hy
              obtain ⟨i,hi⟩:=List.getElem?_of_mem hy
              obtain ⟨_,_,_,h⟩:=hys i y hi
              exact h
            · cases j with
              | succ j=>simp at hv
              | zero =>
                simp [cellsOf] at hp hv
                subst hp;subst hv
                refine ⟨.lst te ys (some a) cap (fun i j=>(w.cell? ⟨a.block,a.off+i * te.size+j,none⟩).getD undef) hb.2.1 (fun _=>⟨a,rfl⟩) (fun hne ad e=>?_) (fun ad i x j p e hx hp=>?_) (fun i x j p hx hp=>?_),rfl⟩
                · cases e
                  cases ys with
                  | nil=>exact absurd rfl hne
                  | cons y ys =>
                    obtain ⟨c,⟨c1,_⟩,c3,_⟩:=hys 0 y rfl
                    have:0<c.length:=by omega
                    exact (hadd _ _ _ _ (c3 0 _ (List.getElem?_eq_getElem this))).2.2 (by simp) rfl
                · cases e
                  obtain ⟨c,⟨c1,c2⟩,c3,_⟩:=hys i x hx
                  have hj:j<c.length:=by rw [c1,← cellsOf_size te x];exact (List.getElem?_eq_some_iff.1 hp).1
                  obtain ⟨q1,q2,_⟩:=hadd _ _ _ _ (c3 j _ (List.getElem?_eq_getElem hj))
                  exact ⟨q2,by rw [q1];rfl⟩
                · obtain ⟨c,⟨c1,c2⟩,c3,_⟩:=hys i x hx
                  have hj:j<c.length:=by rw [c1,← cellsOf_size te x];exact (List.getElem?_eq_some_iff.1 hp).1
                  obtain ⟨q1,q2,_⟩:=hadd _ _ _ _ (c3 j _ (List.getElem?_eq_getElem hj))
                  rw [q1]
                  exact (c2 j p _ hp (List.getElem?_eq_getElem hj)).1
    all_goals first|(cases h;done)|(rename_i h1;cases h1;done)|simp_all
theorem ope_fields (tf:TypeId→Ty):∀ (fs:List Field) (o:Nat),rowOk P fs o=true→(∀ f∈fs,OpE P (tf f.type) f.type∧P.cellsOf f.type=(tf f.type).size) →
    ∀ (X:Type) (enc:TypeId×Value→X) (w:World) (base fuel:Nat) (held:Bool) (cs:List Value) (xs:List (DataW X×List MemPlace)),cs.length=o+(fs.foldr (fun f r=>Ty.pair (tf f.type) r) .unit).size →
      (fs.mapM fun f=>DataW.trod enc P w base (fun _=>true) held fuel f.type ((cs.drop f.offset).take (P.cellsOf f.type)))=some xs →
      (DataW.weightsEach P (fs.map (·.type)) (xs.map (·.1))).all (·≤reachBytes)=true→∃ y:El (fs.foldr (fun f r=>Ty.pair (tf f.type) r) .unit),okE _ y∧CellsV w _ y (cs.drop o)
  | [],o,_,_,X,enc,w,base,fuel,held,cs,xs,hl,h,hw=>by
    refine ⟨(),trivial,?_,fun j p v hp hv=>?_⟩
    · simpa [Ty.size] using by simp [Ty.size] at hl;omega
    · simp [cellsOf] at hp
  | f ::fs,o,hro,hf,X,enc,w,base,fuel,held,cs,xs,hl,h,hw=>by
    simp only [rowOk,Bool.and_eq_true] at hro
    obtain ⟨hof,hro⟩:=hro
    have hof:=Nat.eq_of_beq_eq_true hof
    obtain ⟨hf1,hf2⟩:=hf f (List.mem_cons_self ..)
    simp only [List.foldr_cons,Ty.size] at hl
    rw [List.mapM_cons] at h
    cases h1:DataW.trod enc P w base (fun _=>true) held fuel f.type ((cs.drop f.offset).take (P.cellsOf f.type)) with
    | none=>rw [h1] at h;simp at h
    | some b =>
      cases h2:fs.mapM fun f=>DataW.trod enc P w base (fun _=>true) held fuel f.type ((cs.drop f.offset).take (P.cellsOf f.type)) with
      | none=>rw [h1,h2] at h;simp at h
      | some bs =>
        rw [h1,h2] at h
        simp at h
        subst h
        simp only [List.map_cons,DataW.weightsEach,List.all_append,Bool.and_eq_true] at hw
        rw [hof,hf2] at h1
        obtain ⟨y,hy,hyc⟩:=hf1 _ enc w base fuel held _ b.1 b.2 h1 hw.1
        rw [hf2] at hro
        obtain ⟨z,hz,hzc⟩:=ope_fields tf fs (o+(tf f.type).size) hro (fun g hg=>hf g (List.mem_cons_of_mem _ hg)) _ enc w base fuel held cs bs (by omega) h2 hw.2
        refine ⟨(y,z),⟨hy,hz⟩,?_,fun j p v hp hv=>?_⟩
        · simp only [List.foldr_cons,Ty.size,List.length_drop];omega
        · have hcl:=cellsOf_size (tf f.type) y
          simp only [List.foldr_cons,cellsOf] at hp
          rw [List.getElem?_append] at hp
          rw [List.getElem?_drop] at hv
          split at hp
          · rename_i hj
            exact hyc.2 j p v hp (by rw [List.getElem?_take,if_pos (by omega),List.getElem?_drop];exact hv)
          · rename_i hj
            refine hzc.2 (j - (cellsOf (tf f.type) y).length) p v hp ?_
            rw [List.getElem?_drop,← hv]
            congr 1
            omega
theorem ope_struct {t:TypeId} {fs:Array Field} {tf:TypeId→Ty} (hu:P.underlying t=some (.struct fs)) (hro:rowOk P fs.toList 0=true) (hf:∀ f∈fs.toList,OpE P (tf f.type) f.type∧P.cellsOf f.type=(tf f.type).size)
    (hsz:P.cellsOf t=(fs.toList.foldr (fun f r=>Ty.pair (tf f.type) r) .unit).size):OpE P (fs.toList.foldr (fun f r=>Ty.pair (tf f.type) r) .unit) t:=by
  intro X enc w base fuel held cs x ps h hw
  cases fuel with
  | zero=>cases h
  | succ fuel =>
    unfold DataW.trod at h
    rw [hu] at h
    simp only at h
    split at h
    case isFalse=>cases h
    case isTrue hl =>
      cases h1:fs.toList.mapM fun f=>DataW.trod enc P w base (fun _=>true) held fuel f.type ((cs.drop f.offset).take (P.cellsOf f.type)) with
      | none=>rw [h1] at h;cases h
      | some xs =>
        rw [h1] at h
        simp only [Option.map_some,Option.some.injEq,Prod.mk.injEq] at h
        obtain ⟨rfl,_⟩:=h
        rw [DataW.weights,hu] at hw
        have:=ope_fields tf fs.toList 0 hro hf _ enc w base fuel held cs xs (by rw [hl,hsz];omega) h1 hw
        simpa using this
theorem ope:∀ (n:Nat) (t:TypeId),tyGood P n t=true→OpE P (tyOf P n t) t
  | 0,t,h=>by cases h
  | n+1,t,h=>by
    have IH:∀ u,tyGood P n u=true→OpE P (tyOf P n u) u:=fun u hu=>ope n u hu
    unfold tyGood at h
    unfold tyOf
    split at h<;>rename_i hu<;>simp only [hu]
    · exact ope_bool hu
    · exact ope_int hu
    · exact ope_str hu
    · simp only [Bool.and_eq_true] at h
      exact ope_slice hu (IH _ h.2) (Nat.eq_of_beq_eq_true h.1.1.1) (Nat.le_of_ble_eq_true h.1.1.2) (Nat.le_of_ble_eq_true h.1.2)
    · simp only [Bool.and_eq_true] at h
      have hsz:=Nat.eq_of_beq_eq_true h.1.2
      unfold tyOf at hsz
      simp only [hu] at hsz
      refine ope_struct hu h.1.1 (fun f hf=>?_) hsz
      have:=List.all_eq_true.1 h.2 f hf
      simp only [Bool.and_eq_true] at this
      exact ⟨IH _ this.2,Nat.eq_of_beq_eq_true this.1⟩
    · cases h
end
end Go.Proofs.YtdcphpbimeoioaaGreatDoorE
end
section
set_option linter.unusedSectionVars false
namespace Go.Proofs.YtdcphpbimeoioaaGreatDoorE
open Go Go.ChangeShapes Go.WideShapes Go.ChangeAt Go.RowKit
set_option linter.unusedVariables false
set_option linter.unusedSimpArgs false
variable [Dm]
def okArgs:(tys:List Ty)→SgEl (tys.map Sg.tree)→Prop
  | [],_=>True
  | t ::r,x=>okE t x.1∧okArgs r x.2
section
variable {P:Program}
theorem mainHeap_trees:∀ (tys:List Ty) (x:SgEl (tys.map Sg.tree)) (e:Nat),mainHeap (tys.map Sg.tree) x e=[]
  | [],_,_=>rfl
  | t ::r,x,e=>mainHeap_trees r x.2 e
theorem extraHeap_trees:∀ (tys:List Ty) (x:SgEl (tys.map Sg.tree)),extraHeap (tys.map Sg.tree) x=[]
  | [],_=>rfl
  | t ::r,x=>extraHeap_trees r x.2
theorem outHeap_trees:∀ (tys:List Ty) (x:SgEl (tys.map Sg.tree)) (o:OutEl (tys.map Sg.tree)),outHeap (tys.map Sg.tree) x o=[]
  | [],_,_=>rfl
  | t ::r,x,o=>outHeap_trees r x.2 o.2
theorem heap_trees (tys:List Ty) (x:SgEl (tys.map Sg.tree)):heapOf (tys.map Sg.tree) x=[]:=by
  unfold heapOf;rw [mainHeap_trees,extraHeap_trees];rfl
theorem rel0 {w:World} (hg:gHolds w):Rel S0 (F0 w) w [] :=
  ⟨fun b=>by simp [hget,SlotOk,S0],fun b b' k h=>by simp [S0,blkOf] at h,fun k h=>h,gHolds_lt hg,hg⟩
theorem val_top {w:World} {t:TypeId} {n:Nat} (hg:tyGood P n t=true) {r:Reach} {b0:Nat} {v:Value} (hv:Value.okWide P w r b0 t v) {y:El (tyOf P n t)} (hy:CellsV w (tyOf P n t) y v.cells.toList):Val S0 (F0 w) w (valPV (tyOf P n t) y) v:=by
  cases n with
  | zero=>cases hg
  | succ n =>
    have one:∀ (hvc:v.cells=#[v]) {ty:Ty} {y:El ty},cellsOf ty y=[valPV ty y]→(∀ (j:Nat) (p:PV) (u:Value),(cellsOf ty y)[j]?=some p→v.cells.toList[j]?=some u→Val S0 (F0 w) w p u∧u.oneCell=true)→Val S0 (F0 w) w (valPV ty y) v:=by
      intro hvc ty y he h
      exact (h 0 _ v (by rw [he];rfl) (by rw [hvc];rfl)).1
    unfold tyGood at hg
    split at hg<;>rename_i hu
    · have e:tyOf P (n+1) t = .bool:=by rw [tyOf];simp only [hu]
      revert y;rw [e];intro y hy
      obtain ⟨b,rfl⟩:∃ b,v = .bool b:=by
        simp only [Value.okWide,hu,Cell.okWide] at hv
        cases v<;>simp_all [Cell.ok]
      exact one rfl rfl hy.2
    · rename_i k
      have e:tyOf P (n+1) t = .int k:=by rw [tyOf];simp only [hu]
      revert y;rw [e];intro y hy
      obtain ⟨k',m,rfl⟩:∃ k' m,v = .int k' m:=by
        simp only [Value.okWide,hu,Cell.okWide] at hv
        cases v<;>simp_all [Cell.ok]
      exact one rfl rfl hy.2
    · have e:tyOf P (n+1) t = .str:=by rw [tyOf];simp only [hu]
      revert y;rw [e];intro y hy
      obtain ⟨s,rfl⟩:=okWide_string hu hv
      exact one rfl rfl hy.2
    · rename_i el
      have e:tyOf P (n+1) t = .slice (tyOf P n el):=by rw [tyOf];simp only [hu]
      revert y;rw [e];intro y hy
      obtain ⟨a,len,cap,rfl⟩:=okWide_slice hu hv
      exact one rfl rfl hy.2
    · rename_i fs
      obtain ⟨cs,rfl,hsz⟩:=okWide_struct hu hv
      have e:tyOf P (n+1) t=fs.toList.foldr (fun f r=>Ty.pair (tyOf P n f.type) r) .unit:=by rw [tyOf];simp only [hu]
      revert y;rw [e]
      have agg:∀ (ty:Ty) (y:El ty),valPV ty y = .agg (cellsOf ty y)→CellsV w ty y cs.toList→Val S0 (F0 w) w (valPV ty y) (.agg cs):=by
        intro ty y he ⟨c1,c2⟩
        rw [he]
        have hl:cs.size=(cellsOf ty y).length:=by rw [cellsOf_size];simpa using c1
        refine .agg _ cs hl (fun i p u hp hu=>(c2 i p u hp (by simpa using hu)).1) (fun i u hu=>?_)
        have hi:i<(cellsOf ty y).length:=by rw [← hl];exact (Array.getElem?_eq_some_iff.1 hu).1
        exact (c2 i _ u (List.getElem?_eq_getElem hi) (by simpa using hu)).2
      intro y hy
      have ha:∀ (l:List Field) (y:El (l.foldr (fun f r=>Ty.pair (tyOf P n f.type) r) .unit)),valPV _ y = .agg (cellsOf _ y):=by intro l y;cases l<;>rfl
      exact agg _ y (ha _ y) hy
    · cases hg
theorem args_open {X:Type} {enc:TypeId×Value→X} {w:World} {r:Reach} {b0 n:Nat}:∀ (ts:List TypeId) (vs:List Value) (ds:List (DataW X)) (ps:List MemPlace),ts.all (tyGood P n)=true →
    DataW.TrodAll enc P w 0 (fun _=>true) true ts vs ds ps→(∀ (j:Nat) (t:TypeId) (v:Value),ts[j]?=some t→vs[j]?=some v→Value.okWide P w r b0 t v) →
    (∀ (j:Nat) (t:TypeId) (d:DataW X),ts[j]?=some t→ds[j]?=some d→(d.weights P t).all (·≤reachBytes)=true) →
    ∃ x:SgEl ((ts.map (tyOf P n)).map Sg.tree),okArgs (ts.map (tyOf P n)) x∧vs.length=(argsOf ((ts.map (tyOf P n)).map Sg.tree) x 0).length∧∀ (i:Nat) (p:PV) (v:Value),(argsOf ((ts.map (tyOf P n)).map Sg.tree) x 0)[i]?=some p→vs[i]?=some v→Val S0 (F0 w) w p v
  | [],vs,ds,ps,_,h,_,_=>by
    cases vs<;>cases ds<;>simp [DataW.TrodAll] at h
    exact ⟨(),trivial,rfl,fun i p v hp=>by have hp:([]:List PV)[i]?=some p:=hp;simp at hp⟩
  | t ::ts,vs,ds,ps,hg,h,hv,hw=>by
    obtain ⟨v,vs',d,ds',p,q,rfl,rfl,_,h1,h2⟩:=trodAll_cons h
    simp only [List.all_cons,Bool.and_eq_true] at hg
    obtain ⟨fuel,hf⟩:=h1
    obtain ⟨y,hy,hc⟩:=ope n t hg.1 _ enc w 0 fuel true _ d p hf (hw 0 t d rfl rfl)
    obtain ⟨x,hx,hl,hxx⟩:=args_open (r:=r) (b0:=b0) ts vs' ds' q hg.2 h2 (fun j t v a b=>hv (j+1) t v (by simpa using a) (by simpa using b)) (fun j t d a b=>hw (j+1) t d (by simpa using a) (by simpa using b))
    refine ⟨(y,x),⟨hy,hx⟩,by show vs'.length+1=_;rw [hl];rfl,fun i p u hp hu=>?_⟩
    have hp:(valPV (tyOf P n t) y ::argsOf ((ts.map (tyOf P n)).map Sg.tree) x 0)[i]?=some p:=hp
    cases i with
    | zero =>
      simp at hp hu
      subst hp;subst hu
      exact val_top hg.1 (hv 0 t v rfl rfl) hc
    | succ i=>exact hxx i p u (by simpa using hp) (by simpa using hu)
theorem weights_each {X:Type}:∀ {ts:List TypeId} {ds:List (DataW X)} {us:List TypeId} {gs:List (DataW X)},ds.length=ts.length→(DataW.weightsEach P (ts++us) (ds++gs)).all (·≤reachBytes)=true→∀ (j:Nat) (t:TypeId) (d:DataW X),ts[j]?=some t→ds[j]?=some d→(d.weights P t).all (·≤reachBytes)=true
  | [],_,_,_,_,_,j,t,d,ht,_=>by simp at ht
  | _ ::_,[],_,_,hl,_,_,_,_,_,_=>by simp at hl
  | t0 ::ts,d0 ::ds,us,gs,hl,h,0,t,d,ht,hd=>by
    simp at ht hd
    subst ht hd
    simp only [List.cons_append,DataW.weightsEach] at h
    rw [eAllApp] at h
    exact h.1
  | t0 ::ts,d0 ::ds,us,gs,hl,h,j+1,t,d,ht,hd=>by
    simp only [List.cons_append,DataW.weightsEach] at h
    rw [eAllApp] at h
    exact weights_each (by simpa using hl) h.2 j t d (by simpa using ht) (by simpa using hd)
theorem trodAll_len {X:Type} {enc:TypeId×Value→X} {w:World} {base:Nat} {sp:Nat→Bool} {held:Bool}:∀ {ts:List TypeId} {vs:List Value} {ds:List (DataW X)} {ps:List MemPlace},DataW.TrodAll enc P w base sp held ts vs ds ps→vs.length=ts.length∧ds.length=ts.length
  | [],vs,ds,ps,h=>by cases vs<;>cases ds<;>simp [DataW.TrodAll] at h;exact ⟨rfl,rfl⟩
  | t ::ts,vs,ds,ps,h=>by
    obtain ⟨v,vs',d,ds',p,q,rfl,rfl,_,_,h2⟩:=trodAll_cons h
    obtain ⟨e1,e2⟩:=trodAll_len h2
    exact ⟨by simp [e1],by simp [e2]⟩
theorem trodAll_below {X:Type} {enc:TypeId×Value→X} {w w':World} (hl:laidOutB P=true) (bel:Below w.heap.size w w'):∀ {ts:List TypeId} {vs:List Value} {ds:List (DataW X)} {ps:List MemPlace},ts.all (fun t=>P.readableRec t && decide (t<P.types.size))=true →
    DataW.TrodAll enc P w 0 (fun _=>true) true ts vs ds ps→DataW.TrodAll enc P w' 0 (fun b=>decide (b<w.heap.size)) true ts vs ds ps
  | [],vs,ds,ps,_,h=>by cases vs<;>cases ds<;>simp [DataW.TrodAll] at h;subst h;exact trodAll_mk0
  | t ::ts,vs,ds,ps,hg,h=>by
    obtain ⟨v,vs',d,ds',p,q,rfl,rfl,rfl,h1,h2⟩:=trodAll_cons h
    simp only [List.all_cons,Bool.and_eq_true,decide_eq_true_eq] at hg
    have hlt:∀ x∈p,x.block<w.heap.size:=by obtain ⟨m,hm⟩:=h1;exact DataW.trod_lt m _ _ _ hm
    exact trodAll_cons_mk (Below.trod hl hg.1.1 hg.1.2 h1 bel hlt) (trodAll_below hl bel hg.2 h2)
theorem law_calls {f:FuncId} {tys:List Ty} {F:SgEl (tys.map Sg.tree)→Option (RtEl [.tree .bool]×OutEl (tys.map Sg.tree))} (hE:EntOk P ⟨f,tys.map Sg.tree,[.tree .bool],F⟩) {x:SgEl (tys.map Sg.tree)} {o:OutEl (tys.map Sg.tree)} (hx:F x=some ((true,()),o))
    {w:World} (hg:gHolds w) {vs:Array Value} (hl:vs.toList.length=(argsOf (tys.map Sg.tree) x 0).length) (hv:∀ (i:Nat) (p:PV) (v:Value),(argsOf (tys.map Sg.tree) x 0)[i]?=some p→vs.toList[i]?=some v→Val S0 (F0 w) w p v) :
    Calls P f vs w fun e w'=>e = .returned (.bool true)∧Below w.heap.size w w':=by
  obtain ⟨_,hc⟩:=hE x _ hx
  have:=hc S0 (F0 w) w vs (by rw [heap_trees];exact rel0 hg) ⟨by simpa using hl,fun i p v a b=>hv i p v a (by simpa using b)⟩
  refine this.mono ?_
  rintro e w' ⟨v,S',F',rfl,hr,hval,hA⟩
  have e1:(encOut (tys.map Sg.tree) [.tree .bool] x ((true,()),o)).1 = .bool true:=rfl
  simp only at hval
  rw [e1] at hval
  refine ⟨by rw [val_bool hval],hA.st.1,hA.st.2.1,hA.st.2.2.1,hA.sz,fun k hk=>hA.same k hk ?_⟩
  rw [heap_trees]
  rintro ⟨b,y,hy,_⟩
  simp [hget] at hy
end
end Go.Proofs.YtdcphpbimeoioaaGreatDoorE
end
section
set_option linter.unusedSectionVars false
namespace Go.Proofs.YtdcphpbimeoioaaGreatDoorE
open Go
set_option linter.unusedVariables false
@[reducible] def bsx (l:List Nat):ByteArray:=⟨(l.map UInt8.ofNat).toArray⟩
@[reducible] def beqB (a b:Bool):Bool:=a ==b
@[reducible] def ilen {α:Type} (xs:List α):Int:=(xs.length:Int)
@[reducible] def iN (i:Int):Nat:=i.toNat
@[reducible] def winI {α:Type} (xs:List α) (l h:Int):List α:=win xs l.toNat (h.toNat - l.toNat)
@[reducible] def roomL {α:Type} (xs:List α) (b:Nat):Bool:=room xs.length b
@[reducible] def roomA {α:Type} (xs ys:List α) (b:Nat):Bool:=room (xs.length+ys.length) b
@[reducible] def app {α:Type} (xs ys:List α):List α:=xs++ys
@[reducible] def repl {α:Type} (n:Int) (x:α):List α:=List.replicate n.toNat x
section
variable [Dm] {P:Program} {f:FuncId} {m:Nat}
theorem tabNil:TabF P []:=fun _ h=>by cases h
theorem tabCons {x:Ent} {T:List Ent} (h:EntOk P x) (hT:TabF P T):TabF P (x ::T):=fun y hy=>by
  rcases List.mem_cons.1 hy with rfl|hy
  · exact h
  · exact hT y hy
theorem tabLNil:TabL P f m []:=fun _ h=>by cases h
theorem tabLCons {x:LEnt} {g:Nat} {L:List LEnt} (h:LEntOk P f m x g) (hL:TabL P f m L):TabL P f m (x ::L):=fun y hy=>by
  rcases List.mem_cons.1 hy with rfl|hy
  · exact ⟨g,h⟩
  · exact hL y hy
theorem loop_zero' {i e:Nat} {sg sgE sgR:List Sg} {X:SgEl sg→Option (SgEl sgE ⊕ SgEl sgR)} (h:∀ s,X s=none):LEntOk P f m ⟨i,sg,e,sgE,sgR,X⟩ 0:=fun pf hf lv lx ap fz nb pc c hs hm s y hy=>by
  have:=(h s).symm.trans hy;cases this
theorem loop_step' {T:List Ent} {L:List LEnt} (hM:P.follows .mixedOrders=true) (hT:TabF P T) (hL:TabL P f m L) {i e g:Nat} {sg sgE sgR:List Sg} {X X':SgEl sg→Option (SgEl sgE ⊕ SgEl sgR)}
    (hX:LEntOk P f m ⟨i,sg,e,sgE,sgR,X⟩ g) (hs:∀ s,walkL P T (⟨i,sg,e,sgE,sgR,X⟩ ::L) f m ⟨i,sg,e,sgE,sgR,X⟩ s=X' s):LEntOk P f m ⟨i,sg,e,sgE,sgR,X'⟩ (g+1) :=
  loop_step (fun _ h=>drawn_ok hM h) hT hL hX hs
theorem ent_ok' {T:List Ent} {L:List LEnt} (hM:P.follows .mixedOrders=true) {sg:List Sg} {rs:List Rt} (hT:TabF P T) (hL:TabL P f (nSl sg) L) {X:SgEl sg→Option (RtEl rs×OutEl sg)}
    (h:∀ x,walkF P T L f sg rs x=X x):EntOk P ⟨f,sg,rs,X⟩:=ent_ok (fun _ h=>drawn_ok hM h) hT hL h
end
instance:Dm:=⟨false⟩
theorem mixed:Tryz.prog.follows .mixedOrders=true:=by kernel_rfl
end Go.Proofs.YtdcphpbimeoioaaGreatDoorE
end
section
set_option linter.unusedSectionVars false
namespace Go.Proofs.YtdcphpbimeoioaaGreatDoorE
open Go Go.RowKit
set_option linter.unusedVariables false
set_option linter.unusedSimpArgs false
variable [Dm]
structure BelD (w w':World):Prop extends Below w.heap.size w w' where
  drawn:Dm.dm=true→w.drawn≤w'.drawn
theorem BelD.refl (w:World):BelD w w:=⟨Below.refl _ _,fun _=>Nat.le_refl _⟩
def flatTy:Ty→Bool
  | .int _|.bool|.str=>true
  | _=>false
def scal:(t:Ty)→El t→Value
  | .int k,n => .int k n
  | .bool,b => .bool b
  | .str,s => .string s
  | _,_=>undef
def scals:(tys:List Ty)→SgEl (tys.map Sg.tree)→List Value
  | [],_=>[]
  | t ::r,x=>scal t x.1 ::scals r x.2
def scalr:(rs:List Ty)→RtEl (rs.map Rt.tree)→List Value
  | [],_=>[]
  | t ::r,x=>scal t x.1 ::scalr r x.2
def resV (rs:List Ty) (y:RtEl (rs.map Rt.tree)):Value :=
  match rs,y with
  | [t],y=>scal t y.1
  | rs,y => .tuple (scalr rs y).toArray
section
variable {P:Program} {S:Nat→SL} {F:Nat→Prop} {w:World}
theorem scal_val {t:Ty} (h:flatTy t=true) (x:El t):Val S F w (valPV t x) (scal t x):=by
  cases t with
  | int k=>exact .int _ _
  | bool=>exact .bool _
  | str=>exact .str _
  | _=>cases h
theorem scal_of {t:Ty} (h:flatTy t=true) {x:El t} {v:Value} (hv:Val S F w (valPV t x) v):v=scal t x:=by
  cases t with
  | int k=>exact val_int hv
  | bool=>exact val_bool hv
  | str=>exact val_str hv
  | _=>cases h
theorem scals_of:∀ (tys:List Ty),tys.all flatTy=true→∀ (x:SgEl (tys.map Sg.tree)) (vs:List Value) (n:Nat),vs.length=(argsOf (tys.map Sg.tree) x n).length→(∀ (i:Nat) (p:PV) (v:Value),(argsOf (tys.map Sg.tree) x n)[i]?=some p→vs[i]?=some v→Val S F w p v)→vs=scals tys x
  | [],_,_,vs,n,hl,_=>by
    have:vs.length=0:=hl
    exact List.length_eq_zero_iff.1 this
  | t ::tys,h,x,vs,n,hl,hv=>by
    simp only [List.all_cons,Bool.and_eq_true] at h
    cases vs with
    | nil=>have:(0:Nat)=(argsOf (tys.map Sg.tree) x.2 n).length+1:=hl;omega
    | cons v vs =>
      have h1:=scal_of h.1 (hv 0 (valPV t x.1) v rfl rfl)
      have h2:=scals_of tys h.2 x.2 vs n (by have:vs.length+1=(argsOf (tys.map Sg.tree) x.2 n).length+1:=hl;omega) fun i p u hp hu=>hv (i+1) p u hp hu
      rw [h1,h2];rfl
theorem scalr_val:∀ (rs:List Ty),rs.all flatTy=true→∀ (y:RtEl (rs.map Rt.tree)) (i:Nat) (p:PV) (v:Value),(resList (rs.map Rt.tree) y)[i]?=some p→(scalr rs y)[i]?=some v→Val S F w p v
  | [],_,_,i,p,v,hp,_=>by have hp:([]:List PV)[i]?=some p:=hp;simp at hp
  | t ::rs,h,y,i,p,v,hp,hv=>by
    simp only [List.all_cons,Bool.and_eq_true] at h
    have hp:(valPV t y.1 ::resList (rs.map Rt.tree) y.2)[i]?=some p:=hp
    have hv:(scal t y.1 ::scalr rs y.2)[i]?=some v:=hv
    cases i with
    | zero=>simp at hp hv;subst hp;subst hv;exact scal_val h.1 _
    | succ i=>exact scalr_val rs h.2 y.2 i p v (by simpa using hp) (by simpa using hv)
theorem scalr_len:∀ (rs:List Ty) (y:RtEl (rs.map Rt.tree)),(scalr rs y).length=(resList (rs.map Rt.tree) y).length
  | [],_=>rfl
  | t ::rs,y=>congrArg (·+1) (scalr_len rs y.2)
theorem res_val {rs:List Ty} (h:rs.all flatTy=true) (y:RtEl (rs.map Rt.tree)) (m:Nat):Val S F w (resOfT (rs.map Rt.tree) y m).1 (resV rs y)∧(resOfT (rs.map Rt.tree) y m).2=[]:=by
  match rs,y,h with
  | [],y,h=>exact ⟨.tup _ _ rfl (fun i p v hp=>by have hp:([]:List PV)[i]?=some p:=hp;simp at hp),rfl⟩
  | [t],y,h =>
    simp only [List.all_cons,List.all_nil,Bool.and_true] at h
    exact ⟨scal_val h _,rfl⟩
  | t ::t2 ::r,y,h=>exact ⟨.tup _ _ (by rw [List.size_toArray];exact scalr_len (t ::t2 ::r) y) (fun i p v hp hv=>scalr_val (t ::t2 ::r) h y i p v hp (by simpa using hv)),rfl⟩
theorem ent_scalg {f:FuncId} {tys rs:List Ty} (ht:tys.all flatTy=true) (hr:rs.all flatTy=true) (hE:Enters P f) {G:SgEl (tys.map Sg.tree)→Option (RtEl (rs.map Rt.tree)×OutEl (tys.map Sg.tree))}
    (h:∀ x y,G x=some y→∀ w,gHolds w→Calls P f (scals tys x).toArray w fun e w'=>e = .returned (resV rs y.1)∧BelD w w'):EntOk P ⟨f,tys.map Sg.tree,rs.map Rt.tree,G⟩:=by
  intro x y hy
  refine ⟨hE,?_⟩
  intro S F w vs hR hA
  have hv:vs.toList=scals tys x:=scals_of tys ht x vs.toList 0 (by simpa using hA.1) fun i p v hp hu=>hA.2 i p v hp (by simpa using hu)
  have hv':vs=(scals tys x).toArray:=by rw [← hv]
  rw [hv']
  refine (h x y hy w hR.gl.2).mono ?_
  rintro e w' ⟨rfl,bel⟩
  have hh:=heap_trees tys x
  rw [hh] at hR
  obtain ⟨g1,g2⟩:=res_val (S:=S) (F:=F) (w:=w') hr y.1 (nIds (tys.map Sg.tree))
  have e2:(encOut (tys.map Sg.tree) (rs.map Rt.tree) x y).2=[]:=by
    unfold encOut
    generalize resOfT (rs.map Rt.tree) y.1 (nIds (tys.map Sg.tree))=q at g2
    obtain ⟨q1,q2⟩:=q
    simp only at g2 ⊢
    rw [g2,outHeap_trees];rfl
  have e1:(encOut (tys.map Sg.tree) (rs.map Rt.tree) x y).1=(resOfT (rs.map Rt.tree) y.1 (nIds (tys.map Sg.tree))).1:=by
    unfold encOut
    generalize resOfT (rs.map Rt.tree) y.1 (nIds (tys.map Sg.tree))=q
    rfl
  have hS:∀ b,S b = .unused:=fun b=>unused_S hR (by simp [hget])
  have hno:∀ k,¬ WR S ([]:Heap) k:=by rintro k ⟨b,z,hz,_⟩;simp [hget] at hz
  refine ⟨_,S,F,rfl,?_,by rw [e1];exact g1,?_⟩
  · rw [e2]
    exact ⟨fun b=>by rw [hS];simp [hget,SlotOk],fun b b' k h1=>(by rw [hS] at h1;simp [blkOf] at h1),fun k hk=>Nat.lt_of_lt_of_le (hR.fsz k hk) bel.size,hR.gl.mono (fun _ h=>h) fun k hk=>bel.block k (hR.fsz k hk)⟩
  · rw [e2,hh]
    exact ⟨fun _ h=>h,fun b hb=>absurd (hS b) hb,bel.size,fun k hk _=>bel.block k hk,fun k hk=>absurd hk (hno k),fun _ h => .inl h,bel.os,bel.tape,bel.output,bel.drawn⟩
theorem ent_scal {f:FuncId} {tys rs:List Ty} (ht:tys.all flatTy=true) (hr:rs.all flatTy=true) (hE:Enters P f) {G:SgEl (tys.map Sg.tree)→Option (RtEl (rs.map Rt.tree)×OutEl (tys.map Sg.tree))}
    (h:∀ x y,G x=some y→∀ w,Calls P f (scals tys x).toArray w fun e w'=>e = .returned (resV rs y.1)∧BelD w w'):EntOk P ⟨f,tys.map Sg.tree,rs.map Rt.tree,G⟩:=ent_scalg ht hr hE fun x y hy w _=>h x y hy w
end
theorem enters {P:Program} {f:FuncId} {fn:Func} (h:P.funcs[f]?=some fn) (h1:fn.body.isSome=true) (h2:(fn.name == "runtime.NumGoroutine")=false):Enters P f:=⟨fn,h,h1,h2⟩
theorem kept {P:Program} {f:FuncId} {vs:Array Value} {w:World} {v:Value} (h:Calls P f vs w fun e w'=>e = .returned v∧w'=w):Calls P f vs w fun e w'=>e = .returned v∧BelD w w' :=
  h.mono fun e w' hh=>⟨hh.1,hh.2 ▸ BelD.refl _⟩
end Go.Proofs.YtdcphpbimeoioaaGreatDoorE
end
section
set_option linter.unusedSectionVars false
namespace Go.Proofs.YtdcphpbimeoioaaGreatDoorE
open Go Go.RowKit Go.Shelf
set_option linter.unusedVariables false
theorem belOff {w w':World} (h:Below w.heap.size w w'):BelD w w':=⟨h,fun d=>Bool.noConfusion d⟩
theorem grown {P:Program} {f:FuncId} {vs:Array Value} {w:World} {v:Value} (h:Calls P f vs w fun e w'=>e = .returned v∧Below w.heap.size w w'):Calls P f vs w fun e w'=>e = .returned v∧BelD w w':=h.mono fun e w' hh=>⟨hh.1,belOff hh.2⟩
abbrev s_IndexByte_sg:List Sg:=[.tree .str, .tree (.int .u8)]
abbrev s_IndexByte_rs:List Rt:=[.tree (.int .i64)]
def s_IndexByte (n:Nat) (x:SgEl s_IndexByte_sg):Option (RtEl s_IndexByte_rs×OutEl s_IndexByte_sg):=some ((Lib.indexByte x.1.data.toList x.2.1.toNat.toUInt8,()),((),(),()))
abbrev s_IndexByte_ent (n:Nat):Ent:=⟨171,s_IndexByte_sg,s_IndexByte_rs,s_IndexByte n⟩
theorem s_IndexByte_ok (n:Nat):EntOk Tryz.prog (s_IndexByte_ent n) :=
  ent_scal (tys:=[.str, .int .u8]) (rs:=[.int .i64]) rfl rfl (enters Tryz.func171 (by kernel_rfl) (by kernel_rfl)) fun x y h w=>by
    cases h;exact kept (Tryz.strings_IndexByte x.1 x.2.1 w)
abbrev s_Compare_sg:List Sg:=[.tree .str, .tree .str]
abbrev s_Compare_rs:List Rt:=[.tree (.int .i64)]
def s_Compare (n:Nat) (x:SgEl s_Compare_sg):Option (RtEl s_Compare_rs×OutEl s_Compare_sg):=some ((Lib.compareBytes x.1.data.toList x.2.1.data.toList,()),((),(),()))
abbrev s_Compare_ent (n:Nat):Ent:=⟨118,s_Compare_sg,s_Compare_rs,s_Compare n⟩
theorem s_Compare_ok [Dm] (n:Nat):EntOk Tryz.prog (s_Compare_ent n) :=
  ent_scal (tys:=[.str, .str]) (rs:=[.int .i64]) rfl rfl (enters Tryz.func118 (by kernel_rfl) (by kernel_rfl)) fun x y h w=>by
    cases h;exact kept (Tryz.strings_Compare x.1 x.2.1 w)
abbrev s_Index1_sg:List Sg:=[.tree .str, .tree .str]
abbrev s_Index1_rs:List Rt:=[.tree (.int .i64)]
def s_Index1 (n:Nat) (x:SgEl s_Index1_sg):Option (RtEl s_Index1_rs×OutEl s_Index1_sg) :=
  match x.2.1.data.toList with
  | [c]=>some ((Lib.indexByte x.1.data.toList c,()),((),(),()))
  | l=>bif Nat.blt x.1.size 4294967281 then some ((Lib.index x.1.data.toList l,()),((),(),())) else none
theorem gMax {w:World} (hg:gHolds w):∃ m,w.cell? ⟨0,0,none⟩=some (.int .i64 m):=hg.1
abbrev s_Index1_ent (n:Nat):Ent:=⟨303,s_Index1_sg,s_Index1_rs,s_Index1 n⟩
theorem s_Index1_ok (n:Nat):EntOk Tryz.prog (s_Index1_ent n) :=
  ent_scalg (tys:=[.str, .str]) (rs:=[.int .i64]) rfl rfl (enters Tryz.func303 (by kernel_rfl) (by kernel_rfl)) fun x y h w hg=>by
    obtain ⟨s,⟨⟨l⟩⟩,u⟩:=x
    unfold s_Index1 at h
    split at h
    · rename_i c hc
      simp only at hc
      subst hc
      cases h;exact kept (Tryz.stringslite_Index_one s c w)
    · obtain ⟨h0,h⟩:=cond_some h
      cases h
      obtain ⟨m,hm⟩:=gMax hg
      exact kept (Tryz.stringslite_Index s ⟨⟨l⟩⟩ m w (Nat.le_of_ble_eq_true h0) hm)
abbrev s_Trim_sg:List Sg:=[.tree .str, .tree .str]
abbrev s_Trim_rs:List Rt:=[.tree .str]
def s_Trim (n:Nat) (x:SgEl s_Trim_sg):Option (RtEl s_Trim_rs×OutEl s_Trim_sg) :=
  bif Nat.ble x.1.size 9223372036854775807 && Nat.blt x.2.1.size 4294967281 && x.2.1.data.toList.all (fun b=>decide (b.toNat<128)) then some ((⟨(Lib.trimS x.1.data.toList x.2.1.data.toList).toArray⟩,()),((),(),())) else none
abbrev s_Trim_ent (n:Nat):Ent:=⟨248,s_Trim_sg,s_Trim_rs,s_Trim n⟩
theorem s_Trim_ok (n:Nat):EntOk Tryz.prog (s_Trim_ent n) :=
  ent_scal (tys:=[.str, .str]) (rs:=[.str]) rfl rfl (enters Tryz.func248 (by kernel_rfl) (by kernel_rfl)) fun x y h w=>by
    obtain ⟨h0,h⟩:=cond_some h
    simp only [Bool.and_eq_true] at h0
    cases h
    exact grown (Any.strings_Trim_laid Tryz.lays160 (by kernel_rfl) x.1 x.2.1 w (Nat.le_of_ble_eq_true h0.1.1) (Nat.le_of_ble_eq_true h0.1.2) (ascii_of_all h0.2))
end Go.Proofs.YtdcphpbimeoioaaGreatDoorE
end
section
set_option linter.unusedSectionVars false
namespace Go.Proofs.YtdcphpbimeoioaaGreatDoorE
open Go Go.RowKit Go.Shelf
set_option linter.unusedVariables false
set_option linter.unusedSimpArgs false
theorem ent_flat {P:Program} {f:FuncId} {tys rs:List Ty} (hr:rs.all flatTy=true) (hE:Enters P f) {G:SgEl (tys.map Sg.tree)→Option (RtEl (rs.map Rt.tree)×OutEl (tys.map Sg.tree))}
    (h:∀ x y,G x=some y→∀ (S:Nat→SL) (F:Nat→Prop) (w:World) (vs:Array Value),(∀ k,F k→k<w.heap.size)→Args S F w (argsOf (tys.map Sg.tree) x 0) vs→Calls P f vs w fun e w'=>e = .returned (resV rs y.1)∧BelD w w'):EntOk P ⟨f,tys.map Sg.tree,rs.map Rt.tree,G⟩:=by
  intro x y hy
  refine ⟨hE,?_⟩
  intro S F w vs hR hA
  refine (h x y hy S F w vs hR.fsz hA).mono ?_
  rintro e w' ⟨rfl,bel⟩
  have hh:=heap_trees tys x
  rw [hh] at hR
  obtain ⟨g1,g2⟩:=res_val (S:=S) (F:=F) (w:=w') hr y.1 (nIds (tys.map Sg.tree))
  have e2:(encOut (tys.map Sg.tree) (rs.map Rt.tree) x y).2=[]:=by
    unfold encOut
    generalize resOfT (rs.map Rt.tree) y.1 (nIds (tys.map Sg.tree))=q at g2
    obtain ⟨q1,q2⟩:=q
    simp only at g2 ⊢
    rw [g2,outHeap_trees];rfl
  have e1:(encOut (tys.map Sg.tree) (rs.map Rt.tree) x y).1=(resOfT (rs.map Rt.tree) y.1 (nIds (tys.map Sg.tree))).1:=by
    unfold encOut
    generalize resOfT (rs.map Rt.tree) y.1 (nIds (tys.map Sg.tree))=q
    rfl
  have hS:∀ b,S b = .unused:=fun b=>unused_S hR (by simp [hget])
  have hno:∀ k,¬ WR S ([]:Heap) k:=by rintro k ⟨b,z,hz,_⟩;simp [hget] at hz
  refine ⟨_,S,F,rfl,?_,by rw [e1];exact g1,?_⟩
  · rw [e2]
    exact ⟨fun b=>by rw [hS];simp [hget,SlotOk],fun b b' k h1=>(by rw [hS] at h1;simp [blkOf] at h1),fun k hk=>Nat.lt_of_lt_of_le (hR.fsz k hk) bel.size,hR.gl.mono (fun _ h=>h) fun k hk=>bel.block k (hR.fsz k hk)⟩
  · rw [e2,hh]
    exact ⟨fun _ h=>h,fun b hb=>absurd (hS b) hb,bel.size,fun k hk _=>bel.block k hk,fun k hk=>absurd hk (hno k),fun _ h => .inl h,bel.os,bel.tape,bel.output,bel.drawn⟩
abbrev s_Join_sg:List Sg:=[.tree (.slice .str), .tree .str]
abbrev s_Join_rs:List Rt:=[.tree .str]
def joinX (xs:List ByteArray) (sep:ByteArray):ByteArray:=⟨(Lib.join (xs.map (·.data.toList)) sep.data.toList).toArray⟩
def s_Join (n:Nat) (x:SgEl s_Join_sg):Option (RtEl s_Join_rs×OutEl s_Join_sg) :=
  bif Nat.ble x.1.length 140737488355328 && Nat.ble (Lib.join (x.1.map (·.data.toList)) x.2.1.data.toList).length 140737488355328 then some ((joinX x.1 x.2.1,()),((),(),())) else none
abbrev s_Join_ent (n:Nat):Ent:=⟨151,s_Join_sg,s_Join_rs,s_Join n⟩
theorem s_Join_ok (n:Nat):EntOk Tryz.prog (s_Join_ent n) :=
  ent_flat (tys:=[.slice .str, .str]) (rs:=[.str]) rfl (enters Tryz.func151 (by kernel_rfl) (by kernel_rfl)) fun x y h S F w vs hF hA=>by
    obtain ⟨xs,sep,u⟩:=x
    obtain ⟨h0,h⟩:=cond_some h
    simp only [Bool.and_eq_true] at h0
    cases h
    have hn:=Nat.le_of_ble_eq_true h0.1
    have hl:=Nat.le_of_ble_eq_true h0.2
    have hlen:vs.size=2:=hA.1
    obtain ⟨v0,v1,rfl⟩:∃ v0 v1,vs=#[v0,v1]:=by
      obtain ⟨l⟩:=vs
      match l,hlen with
      | [a,b],_=>exact ⟨a,b,rfl⟩
    have a0:Val S F w (.lst .str xs) v0:=hA.2 0 _ v0 rfl rfl
    have a1:Val S F w (.str sep) v1:=hA.2 1 _ v1 rfl rfl
    have e1:=val_str a1
    subst e1
    cases a0 with
    | lst _ _ a cap vf hc ha hs hcell hv =>
      by_cases hx:xs=[]
      · subst hx
        exact (Tryz.strings_Join_none a cap sep w).mono fun e w' hh=>⟨hh.1,hh.2 ▸ BelD.refl _⟩
      · obtain ⟨ad,rfl⟩:=ha hx
        have hsp:=hs hx ad rfl
        obtain ⟨bk,o,sp⟩:=ad
        simp only at hsp
        subst hsp
        have hcs:∀ (j:Nat) (x:ByteArray),xs[j]?=some x→w.cell? ⟨bk,o+j,none⟩=some (.string x):=by
          intro j x hj
          have h1:=(hcell _ j x 0 (.str x) rfl hj rfl).2
          have h2:=val_str (hv j x 0 (.str x) hj rfl)
          rw [h2] at h1
          simpa [Ty.size] using h1
        have hbk:bk<w.heap.size:=by
          cases xs with
          | nil=>exact absurd rfl hx
          | cons x r=>exact hF _ (hcell _ 0 x 0 (.str x) rfl rfl rfl).1
        exact grown (Tryz.strings_Join bk o cap xs sep w hcs hbk hn hc hl)
end Go.Proofs.YtdcphpbimeoioaaGreatDoorE
end
section
set_option linter.unusedSectionVars false
namespace Go.Proofs.YtdcphpbimeoioaaGreatDoorE
open Go
set_option linter.unusedVariables false
set_option maxRecDepth 100000
abbrev tSum:Ty := .pair (.int .i64) (.pair .bool .unit)
abbrev tTag:Ty := .pair .str (.pair .str .unit)
abbrev tKey:Ty := .pair .str (.pair (.slice tTag) .unit)
abbrev tMatch:Ty := .pair (.int .i64) tTag
abbrev tCell:Ty := .pair (.int .i64) (.pair tSum (.pair (.int .i64) (.pair (.int .i64) .unit)))
abbrev tQuery:Ty := .pair (.int .i64) (.pair .str (.pair (.slice tMatch) (.pair (.slice .str) .unit)))
abbrev tRow:Ty := .pair (.int .i64) (.pair .str (.pair tSum .unit))
abbrev tItem:Ty := .pair (.int .i64) (.pair .str (.pair tCell .unit))
abbrev r01_Add_sg:List Sg:=[.tree tSum, .tree tSum]
abbrev r01_Add_rs:List Rt:=[.tree tSum]
def r01_Add (n:Nat) (x:SgEl r01_Add_sg):Option (RtEl r01_Add_rs×OutEl r01_Add_sg) :=
  bif x.1.2.1 then
   some ((x.1,()),((),(),()))
  else
  bif x.2.1.2.1 then
   some (x.2,((),(),()))
  else
  bif ilt (0:Int) x.1.1 then
   bif ilt (isub .i64 (9223372036854775807:Int) x.1.1) x.2.1.1 then
    some ((((9223372036854775807:Int),true,()),()),((),(),()))
   else
   bif ilt x.1.1 (0:Int) then
    bif ilt x.2.1.1 (isub .i64 (-9223372036854775808:Int) x.1.1) then
     some ((((-9223372036854775808:Int),true,()),()),((),(),()))
    else
    some (((iadd .i64 x.1.1 x.2.1.1,false,()),()),((),(),()))
   else
   some (((iadd .i64 x.1.1 x.2.1.1,false,()),()),((),(),()))
  else
  bif ilt x.1.1 (0:Int) then
   bif ilt x.2.1.1 (isub .i64 (-9223372036854775808:Int) x.1.1) then
    some ((((-9223372036854775808:Int),true,()),()),((),(),()))
   else
   some (((iadd .i64 x.1.1 x.2.1.1,false,()),()),((),(),()))
  else
  some (((iadd .i64 x.1.1 x.2.1.1,false,()),()),((),(),()))
abbrev r01_Add_ent (n:Nat):Ent:=⟨194,r01_Add_sg,r01_Add_rs,r01_Add n⟩
theorem r01_Add_ok (n:Nat):EntOk Tryz.prog (r01_Add_ent n):=ent_ok' mixed (T:=[]) tabNil tabLNil fun x=>by kernel_rfl
abbrev r01_Number_sg:List Sg:=[.tree (.int .i64)]
abbrev r01_Number_rs:List Rt:=[.tree .str]
def r01_Number_l0 (n:Nat):Nat→SgEl [.tree (.int .i64), .tree (.int .i64), .tree .str]→Option (SgEl [.tree (.int .i64), .tree .str] ⊕ SgEl [])
  | 0,_=>none
  | g+1,s =>
    bif ieq (10:Int) (0:Int) then
     none
    else
    bif sfits (ofBytes [iconv .u8 (iadd .i64 (48:Int) (isub .i64 (0:Int) (irem s.2.1 (10:Int))))]) s.2.2.1 then
     bif ieq (10:Int) (0:Int) then
      none
     else
     bif ieq (iquo .i64 s.2.1 (10:Int)) (0:Int) then
      some (Sum.inl (s.1,scat (ofBytes [iconv .u8 (iadd .i64 (48:Int) (isub .i64 (0:Int) (irem s.2.1 (10:Int))))]) s.2.2.1,()))
     else
     bindL (r01_Number_l0 n g (s.1,iquo .i64 s.2.1 (10:Int),scat (ofBytes [iconv .u8 (iadd .i64 (48:Int) (isub .i64 (0:Int) (irem s.2.1 (10:Int))))]) s.2.2.1,())) (fun a1 =>
      some (Sum.inl a1)) fun b2 =>
     some (Sum.inr ())
    else none
theorem r01_Number_l0_ok (n:Nat):∀ g,LEntOk Tryz.prog 87 (nSl r01_Number_sg) ⟨0,[.tree (.int .i64), .tree (.int .i64), .tree .str],0,[.tree (.int .i64), .tree .str],[],r01_Number_l0 n g⟩ g
  | 0=>loop_zero' fun _=>rfl
  | g+1=>loop_step' mixed (T:=[]) tabNil tabLNil (r01_Number_l0_ok n g) fun s=>by kernel_rfl
def r01_Number (n:Nat) (x:SgEl r01_Number_sg):Option (RtEl r01_Number_rs×OutEl r01_Number_sg) :=
  bif ilt (0:Int) x.1 then
   bindL (r01_Number_l0 n n (x.1,isub .i64 (0:Int) x.1,(⟨#[]⟩:ByteArray),())) (fun a1 =>
    bif ilt a1.1 (0:Int) then
     bif sfits (⟨#[45]⟩:ByteArray) a1.2.1 then
      some ((scat (⟨#[45]⟩:ByteArray) a1.2.1,()),((),()))
     else none
    else
    some (a1.2,((),()))) fun b2 =>
   none
  else
  bindL (r01_Number_l0 n n (x.1,x.1,(⟨#[]⟩:ByteArray),())) (fun a3 =>
   bif ilt a3.1 (0:Int) then
    bif sfits (⟨#[45]⟩:ByteArray) a3.2.1 then
     some ((scat (⟨#[45]⟩:ByteArray) a3.2.1,()),((),()))
    else none
   else
   some (a3.2,((),()))) fun b4 =>
  none
abbrev r01_Number_ent (n:Nat):Ent:=⟨87,r01_Number_sg,r01_Number_rs,r01_Number n⟩
theorem r01_Number_ok (n:Nat):EntOk Tryz.prog (r01_Number_ent n):=ent_ok' mixed (T:=[]) tabNil (tabLCons (r01_Number_l0_ok n n) tabLNil) fun x=>by kernel_rfl
abbrev r01_Text_sg:List Sg:=[.tree tSum]
abbrev r01_Text_rs:List Rt:=[.tree .str]
def r01_Text (n:Nat) (x:SgEl r01_Text_sg):Option (RtEl r01_Text_rs×OutEl r01_Text_sg) :=
  bif x.1.2.1 then
   bindN (r01_Number n (x.1.1,())) fun p1 =>
   bif sfits p1.1.1 (⟨#[33]⟩:ByteArray) then
    some ((scat p1.1.1 (⟨#[33]⟩:ByteArray),()),((),()))
   else none
  else
  bindN (r01_Number n (x.1.1,())) fun p2 =>
  some (p2.1,((),()))
abbrev r01_Text_ent (n:Nat):Ent:=⟨108,r01_Text_sg,r01_Text_rs,r01_Text n⟩
theorem r01_Text_ok (n:Nat):EntOk Tryz.prog (r01_Text_ent n):=ent_ok' mixed (T:=[r01_Number_ent n]) (tabCons (r01_Number_ok n) tabNil) tabLNil fun x=>by kernel_rfl
abbrev r01_Read_sg:List Sg:=[.tree .str]
abbrev r01_Read_rs:List Rt:=[.tree (.int .i64), .tree (.int .i64)]
def r01_Read_l1 (n:Nat):Nat→SgEl [.tree .str, .tree .str, .tree (.int .i64), .tree (.int .i64)]→Option (SgEl [.tree .str, .tree .str, .tree (.int .i64)] ⊕ SgEl [.tree (.int .i64), .tree (.int .i64)])
  | 0,_=>none
  | g+1,s =>
    bif ilt s.2.2.2.1 (ssize s.2.1) then
     bif ile (0:Int) s.2.2.2.1 then
      bif ilt s.2.2.2.1 (ssize s.2.1) then
       bif ieq (10:Int) (0:Int) then
        none
       else
       bif ilt s.2.2.1 (iquo .i64 (iadd .i64 (-9223372036854775808:Int) (iconv .i64 (isub .u8 (sat s.2.1 s.2.2.2.1) (48:Int)))) (10:Int)) then
        some (Sum.inr ((0:Int),(3:Int),()))
       else
       bindL (r01_Read_l1 n g (s.1,s.2.1,isub .i64 (imul .i64 (10:Int) s.2.2.1) (iconv .i64 (isub .u8 (sat s.2.1 s.2.2.2.1) (48:Int))),iadd .i64 s.2.2.2.1 (1:Int),())) (fun a1 =>
        some (Sum.inl a1)) fun b2 =>
       some (Sum.inr b2)
      else none
     else none
    else
    some (Sum.inl (s.1,s.2.1,s.2.2.1,()))
theorem r01_Read_l1_ok (n:Nat):∀ g,LEntOk Tryz.prog 97 (nSl r01_Read_sg) ⟨1,[.tree .str, .tree .str, .tree (.int .i64), .tree (.int .i64)],2,[.tree .str, .tree .str, .tree (.int .i64)],[.tree (.int .i64), .tree (.int .i64)],r01_Read_l1 n g⟩ g
  | 0=>loop_zero' fun _=>rfl
  | g+1=>loop_step' mixed (T:=[]) tabNil tabLNil (r01_Read_l1_ok n g) fun s=>by kernel_rfl
def r01_Read_l0 (n:Nat):Nat→SgEl [.tree .str, .tree .str, .tree (.int .i64)]→Option (SgEl [.tree .str, .tree .str] ⊕ SgEl [.tree (.int .i64), .tree (.int .i64)])
  | 0,_=>none
  | g+1,s =>
    bif ilt s.2.2.1 (ssize s.2.1) then
     bif ile (0:Int) s.2.2.1 then
      bif ilt s.2.2.1 (ssize s.2.1) then
       bif ilt (sat s.2.1 s.2.2.1) (48:Int) then
        some (Sum.inr ((0:Int),(2:Int),()))
       else
       bif ile (0:Int) s.2.2.1 then
        bif ilt s.2.2.1 (ssize s.2.1) then
         bif ilt (57:Int) (sat s.2.1 s.2.2.1) then
          some (Sum.inr ((0:Int),(2:Int),()))
         else
         bindL (r01_Read_l0 n g (s.1,s.2.1,iadd .i64 s.2.2.1 (1:Int),())) (fun a1 =>
          some (Sum.inl a1)) fun b2 =>
         some (Sum.inr b2)
        else none
       else none
      else none
     else none
    else
    some (Sum.inl (s.1,s.2.1,()))
theorem r01_Read_l0_ok (n:Nat):∀ g,LEntOk Tryz.prog 97 (nSl r01_Read_sg) ⟨0,[.tree .str, .tree .str, .tree (.int .i64)],0,[.tree .str, .tree .str],[.tree (.int .i64), .tree (.int .i64)],r01_Read_l0 n g⟩ g
  | 0=>loop_zero' fun _=>rfl
  | g+1=>loop_step' mixed (T:=[]) tabNil (tabLCons (r01_Read_l1_ok n n) tabLNil) (r01_Read_l0_ok n g) fun s=>by kernel_rfl
def r01_Read (n:Nat) (x:SgEl r01_Read_sg):Option (RtEl r01_Read_rs×OutEl r01_Read_sg) :=
  bif ilt (1:Int) (ssize x.1) then
   bif ile (0:Int) (0:Int) then
    bif ilt (0:Int) (ssize x.1) then
     bif ieq (sat x.1 (0:Int)) (45:Int) then
      bif ile (0:Int) (1:Int) then
       bif ile (1:Int) (ssize x.1) then
        bif ile (ssize x.1) (ssize x.1) then
         bif ieq (ssize (sext x.1 (1:Int) (ssize x.1))) (0:Int) then
          some (((0:Int),(2:Int),()),((),()))
         else
         bif ile (0:Int) (0:Int) then
          bif ilt (0:Int) (ssize (sext x.1 (1:Int) (ssize x.1))) then
           bif ieq (sat (sext x.1 (1:Int) (ssize x.1)) (0:Int)) (48:Int) then
            bif ilt (1:Int) (ssize x.1) then
             some (((0:Int),(2:Int),()),((),()))
            else
            bindL (r01_Read_l0 n n (x.1,sext x.1 (1:Int) (ssize x.1),(0:Int),())) (fun a1 =>
             bindL (r01_Read_l1 n n (a1.1,a1.2.1,(0:Int),(0:Int),())) (fun a3 =>
              bif ilt (ssize a3.2.1) (ssize a3.1) then
               some ((a3.2.2.1,(0:Int),()),((),()))
              else
              bif ieq a3.2.2.1 (-9223372036854775808:Int) then
               some (((0:Int),(3:Int),()),((),()))
              else
              some ((isub .i64 (0:Int) a3.2.2.1,(0:Int),()),((),()))) fun b4 =>
             some (b4,((),()))) fun b2 =>
            some (b2,((),()))
           else
           bindL (r01_Read_l0 n n (x.1,sext x.1 (1:Int) (ssize x.1),(0:Int),())) (fun a5 =>
            bindL (r01_Read_l1 n n (a5.1,a5.2.1,(0:Int),(0:Int),())) (fun a7 =>
             bif ilt (ssize a7.2.1) (ssize a7.1) then
              some ((a7.2.2.1,(0:Int),()),((),()))
             else
             bif ieq a7.2.2.1 (-9223372036854775808:Int) then
              some (((0:Int),(3:Int),()),((),()))
             else
             some ((isub .i64 (0:Int) a7.2.2.1,(0:Int),()),((),()))) fun b8 =>
            some (b8,((),()))) fun b6 =>
           some (b6,((),()))
          else none
         else none
        else none
       else none
      else none
     else
     bif ieq (ssize x.1) (0:Int) then
      some (((0:Int),(2:Int),()),((),()))
     else
     bif ile (0:Int) (0:Int) then
      bif ilt (0:Int) (ssize x.1) then
       bif ieq (sat x.1 (0:Int)) (48:Int) then
        bif ilt (1:Int) (ssize x.1) then
         some (((0:Int),(2:Int),()),((),()))
        else
        bindL (r01_Read_l0 n n (x.1,x.1,(0:Int),())) (fun a9 =>
         bindL (r01_Read_l1 n n (a9.1,a9.2.1,(0:Int),(0:Int),())) (fun a11 =>
          bif ilt (ssize a11.2.1) (ssize a11.1) then
           some ((a11.2.2.1,(0:Int),()),((),()))
          else
          bif ieq a11.2.2.1 (-9223372036854775808:Int) then
           some (((0:Int),(3:Int),()),((),()))
          else
          some ((isub .i64 (0:Int) a11.2.2.1,(0:Int),()),((),()))) fun b12 =>
         some (b12,((),()))) fun b10 =>
        some (b10,((),()))
       else
       bindL (r01_Read_l0 n n (x.1,x.1,(0:Int),())) (fun a13 =>
        bindL (r01_Read_l1 n n (a13.1,a13.2.1,(0:Int),(0:Int),())) (fun a15 =>
         bif ilt (ssize a15.2.1) (ssize a15.1) then
          some ((a15.2.2.1,(0:Int),()),((),()))
         else
         bif ieq a15.2.2.1 (-9223372036854775808:Int) then
          some (((0:Int),(3:Int),()),((),()))
         else
         some ((isub .i64 (0:Int) a15.2.2.1,(0:Int),()),((),()))) fun b16 =>
        some (b16,((),()))) fun b14 =>
       some (b14,((),()))
      else none
     else none
    else none
   else none
  else
  bif ieq (ssize x.1) (0:Int) then
   some (((0:Int),(2:Int),()),((),()))
  else
  bif ile (0:Int) (0:Int) then
   bif ilt (0:Int) (ssize x.1) then
    bif ieq (sat x.1 (0:Int)) (48:Int) then
     bif ilt (1:Int) (ssize x.1) then
      some (((0:Int),(2:Int),()),((),()))
     else
     bindL (r01_Read_l0 n n (x.1,x.1,(0:Int),())) (fun a17 =>
      bindL (r01_Read_l1 n n (a17.1,a17.2.1,(0:Int),(0:Int),())) (fun a19 =>
       bif ilt (ssize a19.2.1) (ssize a19.1) then
        some ((a19.2.2.1,(0:Int),()),((),()))
       else
       bif ieq a19.2.2.1 (-9223372036854775808:Int) then
        some (((0:Int),(3:Int),()),((),()))
       else
       some ((isub .i64 (0:Int) a19.2.2.1,(0:Int),()),((),()))) fun b20 =>
      some (b20,((),()))) fun b18 =>
     some (b18,((),()))
    else
    bindL (r01_Read_l0 n n (x.1,x.1,(0:Int),())) (fun a21 =>
     bindL (r01_Read_l1 n n (a21.1,a21.2.1,(0:Int),(0:Int),())) (fun a23 =>
      bif ilt (ssize a23.2.1) (ssize a23.1) then
       some ((a23.2.2.1,(0:Int),()),((),()))
      else
      bif ieq a23.2.2.1 (-9223372036854775808:Int) then
       some (((0:Int),(3:Int),()),((),()))
      else
      some ((isub .i64 (0:Int) a23.2.2.1,(0:Int),()),((),()))) fun b24 =>
     some (b24,((),()))) fun b22 =>
    some (b22,((),()))
   else none
  else none
abbrev r01_Read_ent (n:Nat):Ent:=⟨97,r01_Read_sg,r01_Read_rs,r01_Read n⟩
theorem r01_Read_ok (n:Nat):EntOk Tryz.prog (r01_Read_ent n):=ent_ok' mixed (T:=[]) tabNil (tabLCons (r01_Read_l0_ok n n) (tabLCons (r01_Read_l1_ok n n) tabLNil)) fun x=>by kernel_rfl
abbrev r01_Parse_sg:List Sg:=[.tree .str]
abbrev r01_Parse_rs:List Rt:=[.tree tSum, .tree (.int .i64)]
def r01_Parse (n:Nat) (x:SgEl r01_Parse_sg):Option (RtEl r01_Parse_rs×OutEl r01_Parse_sg) :=
  bif ilt (0:Int) (ssize x.1) then
   bif ile (0:Int) (isub .i64 (ssize x.1) (1:Int)) then
    bif ilt (isub .i64 (ssize x.1) (1:Int)) (ssize x.1) then
     bif ieq (sat x.1 (isub .i64 (ssize x.1) (1:Int))) (33:Int) then
      bif ile (0:Int) (0:Int) then
       bif ile (0:Int) (isub .i64 (ssize x.1) (1:Int)) then
        bif ile (isub .i64 (ssize x.1) (1:Int)) (ssize x.1) then
         bindN (r01_Read n (sext x.1 (0:Int) (isub .i64 (ssize x.1) (1:Int)),())) fun p1 =>
         bif !(ieq p1.1.2.1 (0:Int)) then
          some ((((0:Int),false,()),p1.1.2),((),()))
         else
         some (((p1.1.1,ieq (sat x.1 (isub .i64 (ssize x.1) (1:Int))) (33:Int),()),(0:Int),()),((),()))
        else none
       else none
      else none
     else
     bindN (r01_Read n x) fun p2 =>
     bif !(ieq p2.1.2.1 (0:Int)) then
      some ((((0:Int),false,()),p2.1.2),((),()))
     else
     some (((p2.1.1,ieq (sat x.1 (isub .i64 (ssize x.1) (1:Int))) (33:Int),()),(0:Int),()),((),()))
    else none
   else none
  else
  bindN (r01_Read n x) fun p3 =>
  bif !(ieq p3.1.2.1 (0:Int)) then
   some ((((0:Int),false,()),p3.1.2),((),()))
  else
  some (((p3.1.1,false,()),(0:Int),()),((),()))
abbrev r01_Parse_ent (n:Nat):Ent:=⟨174,r01_Parse_sg,r01_Parse_rs,r01_Parse n⟩
theorem r01_Parse_ok (n:Nat):EntOk Tryz.prog (r01_Parse_ent n):=ent_ok' mixed (T:=[r01_Read_ent n]) (tabCons (r01_Read_ok n) tabNil) tabLNil fun x=>by kernel_rfl
abbrev r02_small_sg:List Sg:=[.tree (.int .u8)]
abbrev r02_small_rs:List Rt:=[.tree .bool]
def r02_small (n:Nat) (x:SgEl r02_small_sg):Option (RtEl r02_small_rs×OutEl r02_small_sg) :=
  bif ile (97:Int) x.1 then
   some ((ile x.1 (122:Int),()),((),()))
  else
  some ((false,()),((),()))
abbrev r02_small_ent (n:Nat):Ent:=⟨187,r02_small_sg,r02_small_rs,r02_small n⟩
theorem r02_small_ok (n:Nat):EntOk Tryz.prog (r02_small_ent n):=ent_ok' mixed (T:=[]) tabNil tabLNil fun x=>by kernel_rfl
abbrev r02_digit_sg:List Sg:=[.tree (.int .u8)]
abbrev r02_digit_rs:List Rt:=[.tree .bool]
def r02_digit (n:Nat) (x:SgEl r02_digit_sg):Option (RtEl r02_digit_rs×OutEl r02_digit_sg) :=
  bif ile (48:Int) x.1 then
   some ((ile x.1 (57:Int),()),((),()))
  else
  some ((false,()),((),()))
abbrev r02_digit_ent (n:Nat):Ent:=⟨188,r02_digit_sg,r02_digit_rs,r02_digit n⟩
theorem r02_digit_ok (n:Nat):EntOk Tryz.prog (r02_digit_ent n):=ent_ok' mixed (T:=[]) tabNil tabLNil fun x=>by kernel_rfl
abbrev r02_Name_sg:List Sg:=[.tree .str]
abbrev r02_Name_rs:List Rt:=[.tree .bool]
def r02_Name_l0 (n:Nat):Nat→SgEl [.tree .str, .tree (.int .i64)]→Option (SgEl [] ⊕ SgEl [.tree .bool])
  | 0,_=>none
  | g+1,s =>
    bif ilt s.2.1 (ssize s.1) then
     bif ile (0:Int) s.2.1 then
      bif ilt s.2.1 (ssize s.1) then
       bindN (r02_small n (sat s.1 s.2.1,())) fun p1 =>
       bif !p1.1.1 then
        bif ile (0:Int) s.2.1 then
         bif ilt s.2.1 (ssize s.1) then
          bindN (r02_digit n (sat s.1 s.2.1,())) fun p2 =>
          bif !p2.1.1 then
           bif ile (0:Int) s.2.1 then
            bif ilt s.2.1 (ssize s.1) then
             bif !(ieq (sat s.1 s.2.1) (95:Int)) then
              some (Sum.inr (false,()))
             else
             bindL (r02_Name_l0 n g (s.1,iadd .i64 s.2.1 (1:Int),())) (fun a3 =>
              some (Sum.inl ())) fun b4 =>
             some (Sum.inr b4)
            else none
           else none
          else
          bindL (r02_Name_l0 n g (s.1,iadd .i64 s.2.1 (1:Int),())) (fun a5 =>
           some (Sum.inl ())) fun b6 =>
          some (Sum.inr b6)
         else none
        else none
       else
       bindL (r02_Name_l0 n g (s.1,iadd .i64 s.2.1 (1:Int),())) (fun a7 =>
        some (Sum.inl ())) fun b8 =>
       some (Sum.inr b8)
      else none
     else none
    else
    some (Sum.inl ())
theorem r02_Name_l0_ok (n:Nat):∀ g,LEntOk Tryz.prog 135 (nSl r02_Name_sg) ⟨0,[.tree .str, .tree (.int .i64)],0,[],[.tree .bool],r02_Name_l0 n g⟩ g
  | 0=>loop_zero' fun _=>rfl
  | g+1=>loop_step' mixed (T:=[r02_small_ent n,r02_digit_ent n]) (tabCons (r02_small_ok n) (tabCons (r02_digit_ok n) tabNil)) tabLNil (r02_Name_l0_ok n g) fun s=>by kernel_rfl
def r02_Name (n:Nat) (x:SgEl r02_Name_sg):Option (RtEl r02_Name_rs×OutEl r02_Name_sg) :=
  bif ilt (ssize x.1) (1:Int) then
   some ((false,()),((),()))
  else
  bif ilt (12:Int) (ssize x.1) then
   some ((false,()),((),()))
  else
  bif ile (0:Int) (0:Int) then
   bif ilt (0:Int) (ssize x.1) then
    bindN (r02_small n (sat x.1 (0:Int),())) fun p1 =>
    bif !p1.1.1 then
     some ((false,()),((),()))
    else
    bindL (r02_Name_l0 n n (x.1,(0:Int),())) (fun a2 =>
     some ((true,()),((),()))) fun b3 =>
    some (b3,((),()))
   else none
  else none
abbrev r02_Name_ent (n:Nat):Ent:=⟨135,r02_Name_sg,r02_Name_rs,r02_Name n⟩
theorem r02_Name_ok (n:Nat):EntOk Tryz.prog (r02_Name_ent n):=ent_ok' mixed (T:=[r02_small_ent n,r02_digit_ent n]) (tabCons (r02_small_ok n) (tabCons (r02_digit_ok n) tabNil)) (tabLCons (r02_Name_l0_ok n n) tabLNil) fun x=>by kernel_rfl
abbrev r02_Value_sg:List Sg:=[.tree .str]
abbrev r02_Value_rs:List Rt:=[.tree .bool]
def r02_Value_l0 (n:Nat):Nat→SgEl [.tree .str, .tree (.int .i64)]→Option (SgEl [] ⊕ SgEl [.tree .bool])
  | 0,_=>none
  | g+1,s =>
    bif ilt s.2.1 (ssize s.1) then
     bif ile (0:Int) s.2.1 then
      bif ilt s.2.1 (ssize s.1) then
       bindN (r02_small n (sat s.1 s.2.1,())) fun p1 =>
       bif !p1.1.1 then
        bif ile (0:Int) s.2.1 then
         bif ilt s.2.1 (ssize s.1) then
          bindN (r02_digit n (sat s.1 s.2.1,())) fun p2 =>
          bif !p2.1.1 then
           bif ile (0:Int) s.2.1 then
            bif ilt s.2.1 (ssize s.1) then
             bif !(ieq (sat s.1 s.2.1) (95:Int)) then
              bif ile (0:Int) s.2.1 then
               bif ilt s.2.1 (ssize s.1) then
                bif !(ieq (sat s.1 s.2.1) (45:Int)) then
                 bif ile (0:Int) s.2.1 then
                  bif ilt s.2.1 (ssize s.1) then
                   bif !(ieq (sat s.1 s.2.1) (46:Int)) then
                    some (Sum.inr (false,()))
                   else
                   bindL (r02_Value_l0 n g (s.1,iadd .i64 s.2.1 (1:Int),())) (fun a3 =>
                    some (Sum.inl ())) fun b4 =>
                   some (Sum.inr b4)
                  else none
                 else none
                else
                bindL (r02_Value_l0 n g (s.1,iadd .i64 s.2.1 (1:Int),())) (fun a5 =>
                 some (Sum.inl ())) fun b6 =>
                some (Sum.inr b6)
               else none
              else none
             else
             bindL (r02_Value_l0 n g (s.1,iadd .i64 s.2.1 (1:Int),())) (fun a7 =>
              some (Sum.inl ())) fun b8 =>
             some (Sum.inr b8)
            else none
           else none
          else
          bindL (r02_Value_l0 n g (s.1,iadd .i64 s.2.1 (1:Int),())) (fun a9 =>
           some (Sum.inl ())) fun b10 =>
          some (Sum.inr b10)
         else none
        else none
       else
       bindL (r02_Value_l0 n g (s.1,iadd .i64 s.2.1 (1:Int),())) (fun a11 =>
        some (Sum.inl ())) fun b12 =>
       some (Sum.inr b12)
      else none
     else none
    else
    some (Sum.inl ())
theorem r02_Value_l0_ok (n:Nat):∀ g,LEntOk Tryz.prog 246 (nSl r02_Value_sg) ⟨0,[.tree .str, .tree (.int .i64)],0,[],[.tree .bool],r02_Value_l0 n g⟩ g
  | 0=>loop_zero' fun _=>rfl
  | g+1=>loop_step' mixed (T:=[r02_small_ent n,r02_digit_ent n]) (tabCons (r02_small_ok n) (tabCons (r02_digit_ok n) tabNil)) tabLNil (r02_Value_l0_ok n g) fun s=>by kernel_rfl
def r02_Value (n:Nat) (x:SgEl r02_Value_sg):Option (RtEl r02_Value_rs×OutEl r02_Value_sg) :=
  bif ilt (ssize x.1) (1:Int) then
   some ((false,()),((),()))
  else
  bif ilt (12:Int) (ssize x.1) then
   some ((false,()),((),()))
  else
  bindL (r02_Value_l0 n n (x.1,(0:Int),())) (fun a1 =>
   some ((true,()),((),()))) fun b2 =>
  some (b2,((),()))
abbrev r02_Value_ent (n:Nat):Ent:=⟨246,r02_Value_sg,r02_Value_rs,r02_Value n⟩
theorem r02_Value_ok (n:Nat):EntOk Tryz.prog (r02_Value_ent n):=ent_ok' mixed (T:=[r02_small_ent n,r02_digit_ent n]) (tabCons (r02_small_ok n) (tabCons (r02_digit_ok n) tabNil)) (tabLCons (r02_Value_l0_ok n n) tabLNil) fun x=>by kernel_rfl
abbrev r02_Split_sg:List Sg:=[.tree .str, .tree (.int .u8)]
abbrev r02_Split_rs:List Rt:=[.tree (.slice .str)]
def r02_Split_l0 (n:Nat):Nat→SgEl [.tree .str, .tree (.int .u8), .own .str, .tree (.int .i64), .tree (.int .i64)]→Option (SgEl [.tree .str, .own .str, .tree (.int .i64)] ⊕ SgEl [])
  | 0,_=>none
  | g+1,s =>
    bif ilt s.2.2.2.2.1 (ssize s.1) then
     bif ile (0:Int) s.2.2.2.2.1 then
      bif ilt s.2.2.2.2.1 (ssize s.1) then
       bif ieq (sat s.1 s.2.2.2.2.1) s.2.1 then
        bif ile (0:Int) s.2.2.2.1 then
         bif ile s.2.2.2.1 s.2.2.2.2.1 then
          bif ile s.2.2.2.2.1 (ssize s.1) then
           bif roomA s.2.2.1 [sext s.1 s.2.2.2.1 s.2.2.2.2.1] 16 then
            bindL (r02_Split_l0 n g (s.1,s.2.1,app s.2.2.1 [sext s.1 s.2.2.2.1 s.2.2.2.2.1],iadd .i64 s.2.2.2.2.1 (1:Int),iadd .i64 s.2.2.2.2.1 (1:Int),())) (fun a1 =>
             some (Sum.inl a1)) fun b2 =>
            some (Sum.inr ())
           else none
          else none
         else none
        else none
       else
       bindL (r02_Split_l0 n g (s.1,s.2.1,s.2.2.1,s.2.2.2.1,iadd .i64 s.2.2.2.2.1 (1:Int),())) (fun a3 =>
        some (Sum.inl a3)) fun b4 =>
       some (Sum.inr ())
      else none
     else none
    else
    some (Sum.inl (s.1,s.2.2.1,s.2.2.2.1,()))
theorem r02_Split_l0_ok (n:Nat):∀ g,LEntOk Tryz.prog 113 (nSl r02_Split_sg) ⟨0,[.tree .str, .tree (.int .u8), .own .str, .tree (.int .i64), .tree (.int .i64)],0,[.tree .str, .own .str, .tree (.int .i64)],[],r02_Split_l0 n g⟩ g
  | 0=>loop_zero' fun _=>rfl
  | g+1=>loop_step' mixed (T:=[]) tabNil tabLNil (r02_Split_l0_ok n g) fun s=>by kernel_rfl
def r02_Split (n:Nat) (x:SgEl r02_Split_sg):Option (RtEl r02_Split_rs×OutEl r02_Split_sg) :=
  bindL (r02_Split_l0 n n (x.1,x.2.1,[],(0:Int),(0:Int),())) (fun a1 =>
   bif ile (0:Int) a1.2.2.1 then
    bif ile a1.2.2.1 (ssize a1.1) then
     bif ile (ssize a1.1) (ssize a1.1) then
      bif roomA a1.2.1 [sext a1.1 a1.2.2.1 (ssize a1.1)] 16 then
       some ((app a1.2.1 [sext a1.1 a1.2.2.1 (ssize a1.1)],()),((),(),()))
      else none
     else none
    else none
   else none) fun b2 =>
  none
abbrev r02_Split_ent (n:Nat):Ent:=⟨113,r02_Split_sg,r02_Split_rs,r02_Split n⟩
theorem r02_Split_ok (n:Nat):EntOk Tryz.prog (r02_Split_ent n):=ent_ok' mixed (T:=[]) tabNil (tabLCons (r02_Split_l0_ok n n) tabLNil) fun x=>by kernel_rfl
abbrev r02_Join_sg:List Sg:=[.tree .str, .tree (.slice .str)]
abbrev r02_Join_rs:List Rt:=[.tree .str]
def r02_Join_l0 (n:Nat):Nat→SgEl [.tree .str, .tree (.slice .str), .tree .str, .tree (.int .i64)]→Option (SgEl [.tree .str] ⊕ SgEl [])
  | 0,_=>none
  | g+1,s =>
    bif ilt s.2.2.2.1 (ilen s.2.1) then
     bif ilt (0:Int) s.2.2.2.1 then
      bif sfits s.2.2.1 s.1 then
       bif ile (0:Int) s.2.2.2.1 then
        bindN (lat s.2.1 (iN s.2.2.2.1)) fun v1 =>
        bif sfits (scat s.2.2.1 s.1) v1 then
         bindL (r02_Join_l0 n g (s.1,s.2.1,scat (scat s.2.2.1 s.1) v1,iadd .i64 s.2.2.2.1 (1:Int),())) (fun a2 =>
          some (Sum.inl a2)) fun b3 =>
         some (Sum.inr ())
        else none
       else none
      else none
     else
     bif ile (0:Int) s.2.2.2.1 then
      bindN (lat s.2.1 (iN s.2.2.2.1)) fun v4 =>
      bif sfits s.2.2.1 v4 then
       bindL (r02_Join_l0 n g (s.1,s.2.1,scat s.2.2.1 v4,iadd .i64 s.2.2.2.1 (1:Int),())) (fun a5 =>
        some (Sum.inl a5)) fun b6 =>
       some (Sum.inr ())
      else none
     else none
    else
    some (Sum.inl (s.2.2.1,()))
theorem r02_Join_l0_ok (n:Nat):∀ g,LEntOk Tryz.prog 109 (nSl r02_Join_sg) ⟨0,[.tree .str, .tree (.slice .str), .tree .str, .tree (.int .i64)],0,[.tree .str],[],r02_Join_l0 n g⟩ g
  | 0=>loop_zero' fun _=>rfl
  | g+1=>loop_step' mixed (T:=[]) tabNil tabLNil (r02_Join_l0_ok n g) fun s=>by kernel_rfl
def r02_Join (n:Nat) (x:SgEl r02_Join_sg):Option (RtEl r02_Join_rs×OutEl r02_Join_sg) :=
  bindL (r02_Join_l0 n n (x.1,x.2.1,(⟨#[]⟩:ByteArray),(0:Int),())) (fun a1 =>
   some (a1,((),(),()))) fun b2 =>
  none
abbrev r02_Join_ent (n:Nat):Ent:=⟨109,r02_Join_sg,r02_Join_rs,r02_Join n⟩
theorem r02_Join_ok (n:Nat):EntOk Tryz.prog (r02_Join_ent n):=ent_ok' mixed (T:=[]) tabNil (tabLCons (r02_Join_l0_ok n n) tabLNil) fun x=>by kernel_rfl
abbrev r02_Fields_sg:List Sg:=[.tree .str]
abbrev r02_Fields_rs:List Rt:=[.tree (.slice .str)]
def r02_Fields_l0 (n:Nat):Nat→SgEl [.own .str, .tree (.slice .str), .tree (.int .i64)]→Option (SgEl [.own .str] ⊕ SgEl [])
  | 0,_=>none
  | g+1,s =>
    bif ilt s.2.2.1 (ilen s.2.1) then
     bif ile (0:Int) s.2.2.1 then
      bindN (lat s.2.1 (iN s.2.2.1)) fun v1 =>
      bif !(seq v1 (⟨#[]⟩:ByteArray)) then
       bif ile (0:Int) s.2.2.1 then
        bindN (lat s.2.1 (iN s.2.2.1)) fun v2 =>
        bif roomA s.1 [v2] 16 then
         bindL (r02_Fields_l0 n g (app s.1 [v2],s.2.1,iadd .i64 s.2.2.1 (1:Int),())) (fun a3 =>
          some (Sum.inl a3)) fun b4 =>
         some (Sum.inr ())
        else none
       else none
      else
      bindL (r02_Fields_l0 n g (s.1,s.2.1,iadd .i64 s.2.2.1 (1:Int),())) (fun a5 =>
       some (Sum.inl a5)) fun b6 =>
      some (Sum.inr ())
     else none
    else
    some (Sum.inl (s.1,()))
theorem r02_Fields_l0_ok (n:Nat):∀ g,LEntOk Tryz.prog 94 (nSl r02_Fields_sg) ⟨0,[.own .str, .tree (.slice .str), .tree (.int .i64)],0,[.own .str],[],r02_Fields_l0 n g⟩ g
  | 0=>loop_zero' fun _=>rfl
  | g+1=>loop_step' mixed (T:=[r02_Split_ent n]) (tabCons (r02_Split_ok n) tabNil) tabLNil (r02_Fields_l0_ok n g) fun s=>by kernel_rfl
def r02_Fields (n:Nat) (x:SgEl r02_Fields_sg):Option (RtEl r02_Fields_rs×OutEl r02_Fields_sg) :=
  bindN (r02_Split n (x.1,(32:Int),())) fun p1 =>
  bindL (r02_Fields_l0 n n ([],p1.1.1,(0:Int),())) (fun a2 =>
   some (a2,((),()))) fun b3 =>
  none
abbrev r02_Fields_ent (n:Nat):Ent:=⟨94,r02_Fields_sg,r02_Fields_rs,r02_Fields n⟩
theorem r02_Fields_ok (n:Nat):EntOk Tryz.prog (r02_Fields_ent n):=ent_ok' mixed (T:=[r02_Split_ent n]) (tabCons (r02_Split_ok n) tabNil) (tabLCons (r02_Fields_l0_ok n n) tabLNil) fun x=>by kernel_rfl
abbrev r03_may_sg:List Sg:=[.tree tTag]
abbrev r03_may_rs:List Rt:=[.tree .bool]
def r03_may (n:Nat) (x:SgEl r03_may_sg):Option (RtEl r03_may_rs×OutEl r03_may_sg) :=
  bindN (r02_Name n (x.1.1,())) fun p1 =>
  bif p1.1.1 then
   bindN (r02_Value n x.1.2) fun p2 =>
   some (p2.1,((),()))
  else
  some ((false,()),((),()))
abbrev r03_may_ent (n:Nat):Ent:=⟨206,r03_may_sg,r03_may_rs,r03_may n⟩
theorem r03_may_ok (n:Nat):EntOk Tryz.prog (r03_may_ent n):=ent_ok' mixed (T:=[r02_Name_ent n,r02_Value_ent n]) (tabCons (r02_Name_ok n) (tabCons (r02_Value_ok n) tabNil)) tabLNil fun x=>by kernel_rfl
abbrev r03_Canon_sg:List Sg:=[.tree (.slice tTag)]
abbrev r03_Canon_rs:List Rt:=[.tree (.slice tTag), .tree (.int .i64)]
def r03_Canon_l2 (n:Nat):Nat→SgEl [.tree (.slice tTag), .own tTag, .tree (.int .i64), .tree (.int .i64)]→Option (SgEl [.tree (.slice tTag), .own tTag, .tree (.int .i64), .tree (.int .i64)] ⊕ SgEl [])
  | 0,_=>none
  | g+1,s =>
    bif ilt s.2.2.2.1 (ilen s.2.1) then
     bif ile (0:Int) s.2.2.2.1 then
      bindN (lat s.2.1 (iN s.2.2.2.1)) fun v1 =>
      bindN (lat s.2.1 (iN s.2.2.2.1)) fun v2 =>
      bif ile (0:Int) s.2.2.1 then
       bindN (lat s.1 (iN s.2.2.1)) fun v3 =>
       bif slt v2.1 v3.1 then
        bindL (r03_Canon_l2 n g (s.1,s.2.1,s.2.2.1,iadd .i64 s.2.2.2.1 (1:Int),())) (fun a4 =>
         some (Sum.inl a4)) fun b5 =>
        some (Sum.inr ())
       else
       some (Sum.inl s)
      else none
     else none
    else
    some (Sum.inl s)
theorem r03_Canon_l2_ok (n:Nat):∀ g,LEntOk Tryz.prog 218 (nSl r03_Canon_sg) ⟨2,[.tree (.slice tTag), .own tTag, .tree (.int .i64), .tree (.int .i64)],4,[.tree (.slice tTag), .own tTag, .tree (.int .i64), .tree (.int .i64)],[],r03_Canon_l2 n g⟩ g
  | 0=>loop_zero' fun _=>rfl
  | g+1=>loop_step' mixed (T:=[r03_may_ent n]) (tabCons (r03_may_ok n) tabNil) tabLNil (r03_Canon_l2_ok n g) fun s=>by kernel_rfl
def r03_Canon_l1 (n:Nat):Nat→SgEl [.tree (.slice tTag), .own tTag, .tree (.int .i64)]→Option (SgEl [.own tTag] ⊕ SgEl [.tree (.slice tTag), .tree (.int .i64)])
  | 0,_=>none
  | g+1,s =>
    bif ilt s.2.2.1 (ilen s.1) then
     bindL (r03_Canon_l2 n n (s.1,s.2.1,s.2.2.1,(0:Int),())) (fun a1 =>
      bif ilt a1.2.2.2.1 (ilen a1.2.1) then
       bif ile (0:Int) a1.2.2.2.1 then
        bindN (lat a1.2.1 (iN a1.2.2.2.1)) fun v3 =>
        bindN (lat a1.2.1 (iN a1.2.2.2.1)) fun v4 =>
        bif ile (0:Int) a1.2.2.1 then
         bindN (lat a1.1 (iN a1.2.2.1)) fun v5 =>
         bif seq v4.1 v5.1 then
          some (Sum.inr ([],(5:Int),()))
         else
         bif ile (0:Int) a1.2.2.2.1 then
          bif ile a1.2.2.2.1 (ilen a1.2.1) then
           bif ile (ilen a1.2.1) (ilen a1.2.1) then
            bif roomA ([]:List (El tTag)) (win a1.2.1 (iN a1.2.2.2.1) (iN (ilen a1.2.1) - iN a1.2.2.2.1)) 32 then
             bif ile (0:Int) (0:Int) then
              bif ile (0:Int) a1.2.2.2.1 then
               bif ile a1.2.2.2.1 (ilen a1.2.1) then
                bif ile (0:Int) a1.2.2.1 then
                 bindN (lat a1.1 (iN a1.2.2.1)) fun v6 =>
                 bif roomA (win a1.2.1 0 (iN a1.2.2.2.1 - iN (0:Int))) [v6] 32 then
                  bif roomA (app (win a1.2.1 0 (iN a1.2.2.2.1 - iN (0:Int))) [v6]) (app ([]:List (El tTag)) (win a1.2.1 (iN a1.2.2.2.1) (iN (ilen a1.2.1) - iN a1.2.2.2.1))) 32 then
                   bindL (r03_Canon_l1 n g (a1.1,app (app (win a1.2.1 0 (iN a1.2.2.2.1 - iN (0:Int))) [v6]) (app ([]:List (El tTag)) (win a1.2.1 (iN a1.2.2.2.1) (iN (ilen a1.2.1) - iN a1.2.2.2.1))),iadd .i64 a1.2.2.1 (1:Int),())) (fun a7 =>
                    some (Sum.inl a7)) fun b8 =>
                   some (Sum.inr b8)
                  else none
                 else none
                else none
               else none
              else none
             else none
            else none
           else none
          else none
         else none
        else none
       else none
      else
      bif ile (0:Int) a1.2.2.2.1 then
       bif ile a1.2.2.2.1 (ilen a1.2.1) then
        bif ile (ilen a1.2.1) (ilen a1.2.1) then
         bif roomA ([]:List (El tTag)) (win a1.2.1 (iN a1.2.2.2.1) (iN (ilen a1.2.1) - iN a1.2.2.2.1)) 32 then
          bif ile (0:Int) (0:Int) then
           bif ile (0:Int) a1.2.2.2.1 then
            bif ile a1.2.2.2.1 (ilen a1.2.1) then
             bif ile (0:Int) a1.2.2.1 then
              bindN (lat a1.1 (iN a1.2.2.1)) fun v9 =>
              bif roomA (win a1.2.1 0 (iN a1.2.2.2.1 - iN (0:Int))) [v9] 32 then
               bif roomA (app (win a1.2.1 0 (iN a1.2.2.2.1 - iN (0:Int))) [v9]) (app ([]:List (El tTag)) (win a1.2.1 (iN a1.2.2.2.1) (iN (ilen a1.2.1) - iN a1.2.2.2.1))) 32 then
                bindL (r03_Canon_l1 n g (a1.1,app (app (win a1.2.1 0 (iN a1.2.2.2.1 - iN (0:Int))) [v9]) (app ([]:List (El tTag)) (win a1.2.1 (iN a1.2.2.2.1) (iN (ilen a1.2.1) - iN a1.2.2.2.1))),iadd .i64 a1.2.2.1 (1:Int),())) (fun a10 =>
                 some (Sum.inl a10)) fun b11 =>
                some (Sum.inr b11)
               else none
              else none
             else none
            else none
           else none
          else none
         else none
        else none
       else none
      else none) fun b2 =>
     none
    else
    some (Sum.inl (s.2.1,()))
theorem r03_Canon_l1_ok (n:Nat):∀ g,LEntOk Tryz.prog 218 (nSl r03_Canon_sg) ⟨1,[.tree (.slice tTag), .own tTag, .tree (.int .i64)],2,[.own tTag],[.tree (.slice tTag), .tree (.int .i64)],r03_Canon_l1 n g⟩ g
  | 0=>loop_zero' fun _=>rfl
  | g+1=>loop_step' mixed (T:=[r03_may_ent n]) (tabCons (r03_may_ok n) tabNil) (tabLCons (r03_Canon_l2_ok n n) tabLNil) (r03_Canon_l1_ok n g) fun s=>by kernel_rfl
def r03_Canon_l0 (n:Nat):Nat→SgEl [.tree (.slice tTag), .tree (.int .i64)]→Option (SgEl [.tree (.slice tTag)] ⊕ SgEl [.tree (.slice tTag), .tree (.int .i64)])
  | 0,_=>none
  | g+1,s =>
    bif ilt s.2.1 (ilen s.1) then
     bif ile (0:Int) s.2.1 then
      bindN (lat s.1 (iN s.2.1)) fun v1 =>
      bindN (r03_may n (v1,())) fun p2 =>
      bif !p2.1.1 then
       some (Sum.inr ([],(2:Int),()))
      else
      bindL (r03_Canon_l0 n g (s.1,iadd .i64 s.2.1 (1:Int),())) (fun a3 =>
       some (Sum.inl a3)) fun b4 =>
      some (Sum.inr b4)
     else none
    else
    some (Sum.inl (s.1,()))
theorem r03_Canon_l0_ok (n:Nat):∀ g,LEntOk Tryz.prog 218 (nSl r03_Canon_sg) ⟨0,[.tree (.slice tTag), .tree (.int .i64)],0,[.tree (.slice tTag)],[.tree (.slice tTag), .tree (.int .i64)],r03_Canon_l0 n g⟩ g
  | 0=>loop_zero' fun _=>rfl
  | g+1=>loop_step' mixed (T:=[r03_may_ent n]) (tabCons (r03_may_ok n) tabNil) (tabLCons (r03_Canon_l1_ok n n) (tabLCons (r03_Canon_l2_ok n n) tabLNil)) (r03_Canon_l0_ok n g) fun s=>by kernel_rfl
def r03_Canon (n:Nat) (x:SgEl r03_Canon_sg):Option (RtEl r03_Canon_rs×OutEl r03_Canon_sg) :=
  bindL (r03_Canon_l0 n n (x.1,(0:Int),())) (fun a1 =>
   bif ilt (4:Int) (ilen a1.1) then
    some (([],(4:Int),()),((),()))
   else
   bindL (r03_Canon_l1 n n (a1.1,[],(0:Int),())) (fun a3 =>
    some ((a3.1,(0:Int),()),((),()))) fun b4 =>
   some (b4,((),()))) fun b2 =>
  some (b2,((),()))
abbrev r03_Canon_ent (n:Nat):Ent:=⟨218,r03_Canon_sg,r03_Canon_rs,r03_Canon n⟩
theorem r03_Canon_ok (n:Nat):EntOk Tryz.prog (r03_Canon_ent n):=ent_ok' mixed (T:=[r03_may_ent n]) (tabCons (r03_may_ok n) tabNil) (tabLCons (r03_Canon_l0_ok n n) (tabLCons (r03_Canon_l1_ok n n) (tabLCons (r03_Canon_l2_ok n n) tabLNil))) fun x=>by kernel_rfl
abbrev r03_Text_sg:List Sg:=[.tree (.slice tTag)]
abbrev r03_Text_rs:List Rt:=[.tree .str]
def r03_Text_l0 (n:Nat):Nat→SgEl [.tree (.slice tTag), .own .str, .tree (.int .i64)]→Option (SgEl [.own .str] ⊕ SgEl [])
  | 0,_=>none
  | g+1,s =>
    bif ilt s.2.2.1 (ilen s.1) then
     bif ile (0:Int) s.2.2.1 then
      bindN (lat s.1 (iN s.2.2.1)) fun v1 =>
      bif sfits v1.1 (⟨#[61]⟩:ByteArray) then
       bif ile (0:Int) s.2.2.1 then
        bindN (lat s.1 (iN s.2.2.1)) fun v2 =>
        bif sfits (scat v1.1 (⟨#[61]⟩:ByteArray)) v2.2.1 then
         bif roomA s.2.1 [scat (scat v1.1 (⟨#[61]⟩:ByteArray)) v2.2.1] 16 then
          bindL (r03_Text_l0 n g (s.1,app s.2.1 [scat (scat v1.1 (⟨#[61]⟩:ByteArray)) v2.2.1],iadd .i64 s.2.2.1 (1:Int),())) (fun a3 =>
           some (Sum.inl a3)) fun b4 =>
          some (Sum.inr ())
         else none
        else none
       else none
      else none
     else none
    else
    some (Sum.inl (s.2.1,()))
theorem r03_Text_l0_ok (n:Nat):∀ g,LEntOk Tryz.prog 155 (nSl r03_Text_sg) ⟨0,[.tree (.slice tTag), .own .str, .tree (.int .i64)],0,[.own .str],[],r03_Text_l0 n g⟩ g
  | 0=>loop_zero' fun _=>rfl
  | g+1=>loop_step' mixed (T:=[r02_Join_ent n]) (tabCons (r02_Join_ok n) tabNil) tabLNil (r03_Text_l0_ok n g) fun s=>by kernel_rfl
def r03_Text (n:Nat) (x:SgEl r03_Text_sg):Option (RtEl r03_Text_rs×OutEl r03_Text_sg) :=
  bindL (r03_Text_l0 n n (x.1,[],(0:Int),())) (fun a1 =>
   bindN (r02_Join n ((⟨#[44]⟩:ByteArray),a1)) fun p3 =>
   some (p3.1,((),()))) fun b2 =>
  none
abbrev r03_Text_ent (n:Nat):Ent:=⟨155,r03_Text_sg,r03_Text_rs,r03_Text n⟩
theorem r03_Text_ok (n:Nat):EntOk Tryz.prog (r03_Text_ent n):=ent_ok' mixed (T:=[r02_Join_ent n]) (tabCons (r02_Join_ok n) tabNil) (tabLCons (r03_Text_l0_ok n n) tabLNil) fun x=>by kernel_rfl
abbrev r03_Parse_sg:List Sg:=[.tree .str]
abbrev r03_Parse_rs:List Rt:=[.tree (.slice tTag), .tree (.int .i64)]
def r03_Parse_l0 (n:Nat):Nat→SgEl [.own tTag, .tree (.slice .str), .tree (.int .i64)]→Option (SgEl [.own tTag] ⊕ SgEl [.tree (.slice tTag), .tree (.int .i64)])
  | 0,_=>none
  | g+1,s =>
    bif ilt s.2.2.1 (ilen s.2.1) then
     bif ile (0:Int) s.2.2.1 then
      bindN (lat s.2.1 (iN s.2.2.1)) fun v1 =>
      bindN (r02_Split n (v1,(61:Int),())) fun p2 =>
      bif ilt (ilen p2.1.1) (2:Int) then
       some (Sum.inr ([],(2:Int),()))
      else
      bif ile (0:Int) (0:Int) then
       bindN (lat p2.1.1 (iN (0:Int))) fun v3 =>
       bif ile (0:Int) (1:Int) then
        bif ile (1:Int) (ilen p2.1.1) then
         bif ile (ilen p2.1.1) (ilen p2.1.1) then
          bindN (r02_Join n ((⟨#[61]⟩:ByteArray),winI p2.1.1 (1:Int) (ilen p2.1.1),())) fun p4 =>
          bif roomA s.1 [(v3,p4.1)] 32 then
           bindL (r03_Parse_l0 n g (app s.1 [(v3,p4.1)],s.2.1,iadd .i64 s.2.2.1 (1:Int),())) (fun a5 =>
            some (Sum.inl a5)) fun b6 =>
           some (Sum.inr b6)
          else none
         else none
        else none
       else none
      else none
     else none
    else
    some (Sum.inl (s.1,()))
theorem r03_Parse_l0_ok (n:Nat):∀ g,LEntOk Tryz.prog 170 (nSl r03_Parse_sg) ⟨0,[.own tTag, .tree (.slice .str), .tree (.int .i64)],0,[.own tTag],[.tree (.slice tTag), .tree (.int .i64)],r03_Parse_l0 n g⟩ g
  | 0=>loop_zero' fun _=>rfl
  | g+1=>loop_step' mixed (T:=[r02_Split_ent n,r02_Join_ent n,r03_Canon_ent n]) (tabCons (r02_Split_ok n) (tabCons (r02_Join_ok n) (tabCons (r03_Canon_ok n) tabNil))) tabLNil (r03_Parse_l0_ok n g) fun s=>by kernel_rfl
def r03_Parse (n:Nat) (x:SgEl r03_Parse_sg):Option (RtEl r03_Parse_rs×OutEl r03_Parse_sg) :=
  bif seq x.1 (⟨#[]⟩:ByteArray) then
   some (([],(0:Int),()),((),()))
  else
  bindN (r02_Split n (x.1,(44:Int),())) fun p1 =>
  bindL (r03_Parse_l0 n n ([],p1.1.1,(0:Int),())) (fun a2 =>
   bindN (r03_Canon n a2) fun p4 =>
   some (p4.1,((),()))) fun b3 =>
  some (b3,((),()))
abbrev r03_Parse_ent (n:Nat):Ent:=⟨170,r03_Parse_sg,r03_Parse_rs,r03_Parse n⟩
theorem r03_Parse_ok (n:Nat):EntOk Tryz.prog (r03_Parse_ent n):=ent_ok' mixed (T:=[r02_Split_ent n,r02_Join_ent n,r03_Canon_ent n]) (tabCons (r02_Split_ok n) (tabCons (r02_Join_ok n) (tabCons (r03_Canon_ok n) tabNil))) (tabLCons (r03_Parse_l0_ok n n) tabLNil) fun x=>by kernel_rfl
abbrev r04_Cut_sg:List Sg:=[.tree .str]
abbrev r04_Cut_rs:List Rt:=[.tree .str, .tree .str, .tree .bool]
def r04_Cut_l0 (n:Nat):Nat→SgEl [.tree .str, .tree (.int .i64)]→Option (SgEl [.tree .str, .tree (.int .i64)] ⊕ SgEl [])
  | 0,_=>none
  | g+1,s =>
    bif ilt s.2.1 (ssize s.1) then
     bif ile (0:Int) s.2.1 then
      bif ilt s.2.1 (ssize s.1) then
       bif !(ieq (sat s.1 s.2.1) (123:Int)) then
        bindL (r04_Cut_l0 n g (s.1,iadd .i64 s.2.1 (1:Int),())) (fun a1 =>
         some (Sum.inl a1)) fun b2 =>
        some (Sum.inr ())
       else
       some (Sum.inl s)
      else none
     else none
    else
    some (Sum.inl s)
theorem r04_Cut_l0_ok (n:Nat):∀ g,LEntOk Tryz.prog 134 (nSl r04_Cut_sg) ⟨0,[.tree .str, .tree (.int .i64)],0,[.tree .str, .tree (.int .i64)],[],r04_Cut_l0 n g⟩ g
  | 0=>loop_zero' fun _=>rfl
  | g+1=>loop_step' mixed (T:=[]) tabNil tabLNil (r04_Cut_l0_ok n g) fun s=>by kernel_rfl
def r04_Cut (n:Nat) (x:SgEl r04_Cut_sg):Option (RtEl r04_Cut_rs×OutEl r04_Cut_sg) :=
  bindL (r04_Cut_l0 n n (x.1,(0:Int),())) (fun a1 =>
   bif ieq a1.2.1 (ssize a1.1) then
    some ((a1.1,(⟨#[]⟩:ByteArray),true,()),((),()))
   else
   bif ile (0:Int) (isub .i64 (ssize a1.1) (1:Int)) then
    bif ilt (isub .i64 (ssize a1.1) (1:Int)) (ssize a1.1) then
     bif !(ieq (sat a1.1 (isub .i64 (ssize a1.1) (1:Int))) (125:Int)) then
      some (((⟨#[]⟩:ByteArray),(⟨#[]⟩:ByteArray),false,()),((),()))
     else
     bif ieq (iadd .i64 a1.2.1 (1:Int)) (isub .i64 (ssize a1.1) (1:Int)) then
      some (((⟨#[]⟩:ByteArray),(⟨#[]⟩:ByteArray),false,()),((),()))
     else
     bif ile (0:Int) (0:Int) then
      bif ile (0:Int) a1.2.1 then
       bif ile a1.2.1 (ssize a1.1) then
        bif ile (0:Int) (iadd .i64 a1.2.1 (1:Int)) then
         bif ile (iadd .i64 a1.2.1 (1:Int)) (isub .i64 (ssize a1.1) (1:Int)) then
          bif ile (isub .i64 (ssize a1.1) (1:Int)) (ssize a1.1) then
           some ((sext a1.1 (0:Int) a1.2.1,sext a1.1 (iadd .i64 a1.2.1 (1:Int)) (isub .i64 (ssize a1.1) (1:Int)),true,()),((),()))
          else none
         else none
        else none
       else none
      else none
     else none
    else none
   else none) fun b2 =>
  none
abbrev r04_Cut_ent (n:Nat):Ent:=⟨134,r04_Cut_sg,r04_Cut_rs,r04_Cut n⟩
theorem r04_Cut_ok (n:Nat):EntOk Tryz.prog (r04_Cut_ent n):=ent_ok' mixed (T:=[]) tabNil (tabLCons (r04_Cut_l0_ok n n) tabLNil) fun x=>by kernel_rfl
abbrev r05_may_sg:List Sg:=[.tree tMatch]
abbrev r05_may_rs:List Rt:=[.tree .bool]
def r05_may (n:Nat) (x:SgEl r05_may_sg):Option (RtEl r05_may_rs×OutEl r05_may_sg) :=
  bindN (r02_Name n (x.1.2.1,())) fun p1 =>
  bif !p1.1.1 then
   some ((false,()),((),()))
  else
  bif ieq x.1.1 (1:Int) then
   bindN (r02_Value n x.1.2.2) fun p2 =>
   some (p2.1,((),()))
  else
  bif ieq x.1.1 (2:Int) then
   bindN (r02_Value n x.1.2.2) fun p3 =>
   some (p3.1,((),()))
  else
  bif ieq x.1.1 (3:Int) then
   bif seq x.1.2.2.1 (⟨#[]⟩:ByteArray) then
    some ((true,()),((),()))
   else
   bindN (r02_Value n x.1.2.2) fun p4 =>
   some (p4.1,((),()))
  else
  bif ieq x.1.1 (4:Int) then
   some ((seq x.1.2.2.1 (⟨#[]⟩:ByteArray),()),((),()))
  else
  some ((false,()),((),()))
abbrev r05_may_ent (n:Nat):Ent:=⟨190,r05_may_sg,r05_may_rs,r05_may n⟩
theorem r05_may_ok (n:Nat):EntOk Tryz.prog (r05_may_ent n):=ent_ok' mixed (T:=[r02_Name_ent n,r02_Value_ent n]) (tabCons (r02_Name_ok n) (tabCons (r02_Value_ok n) tabNil)) tabLNil fun x=>by kernel_rfl
abbrev r05_find_sg:List Sg:=[.tree .str, .tree .str]
abbrev r05_find_rs:List Rt:=[.tree (.int .i64)]
def r05_find_l0 (n:Nat):Nat→SgEl [.tree .str, .tree .str, .tree (.int .i64)]→Option (SgEl [] ⊕ SgEl [.tree (.int .i64)])
  | 0,_=>none
  | g+1,s =>
    bif ile (iadd .i64 s.2.2.1 (ssize s.2.1)) (ssize s.1) then
     bif ile (0:Int) s.2.2.1 then
      bif ile s.2.2.1 (iadd .i64 s.2.2.1 (ssize s.2.1)) then
       bif ile (iadd .i64 s.2.2.1 (ssize s.2.1)) (ssize s.1) then
        bif seq (sext s.1 s.2.2.1 (iadd .i64 s.2.2.1 (ssize s.2.1))) s.2.1 then
         some (Sum.inr s.2.2)
        else
        bindL (r05_find_l0 n g (s.1,s.2.1,iadd .i64 s.2.2.1 (1:Int),())) (fun a1 =>
         some (Sum.inl ())) fun b2 =>
        some (Sum.inr b2)
       else none
      else none
     else none
    else
    some (Sum.inl ())
theorem r05_find_l0_ok (n:Nat):∀ g,LEntOk Tryz.prog 245 (nSl r05_find_sg) ⟨0,[.tree .str, .tree .str, .tree (.int .i64)],0,[],[.tree (.int .i64)],r05_find_l0 n g⟩ g
  | 0=>loop_zero' fun _=>rfl
  | g+1=>loop_step' mixed (T:=[]) tabNil tabLNil (r05_find_l0_ok n g) fun s=>by kernel_rfl
def r05_find (n:Nat) (x:SgEl r05_find_sg):Option (RtEl r05_find_rs×OutEl r05_find_sg) :=
  bindL (r05_find_l0 n n (x.1,x.2.1,(0:Int),())) (fun a1 =>
   some (((-1:Int),()),((),(),()))) fun b2 =>
  some (b2,((),(),()))
abbrev r05_find_ent (n:Nat):Ent:=⟨245,r05_find_sg,r05_find_rs,r05_find n⟩
theorem r05_find_ok (n:Nat):EntOk Tryz.prog (r05_find_ent n):=ent_ok' mixed (T:=[]) tabNil (tabLCons (r05_find_l0_ok n n) tabLNil) fun x=>by kernel_rfl
abbrev r05_part_sg:List Sg:=[.tree .str]
abbrev r05_part_rs:List Rt:=[.tree tMatch]
def r05_part (n:Nat) (x:SgEl r05_part_sg):Option (RtEl r05_part_rs×OutEl r05_part_sg) :=
  bindN (r05_find n (x.1,(⟨#[33,61]⟩:ByteArray),())) fun p1 =>
  bif ile (0:Int) p1.1.1 then
   bif ile (0:Int) (0:Int) then
    bif ile (0:Int) p1.1.1 then
     bif ile p1.1.1 (ssize x.1) then
      bif ile (0:Int) (iadd .i64 p1.1.1 (2:Int)) then
       bif ile (iadd .i64 p1.1.1 (2:Int)) (ssize x.1) then
        bif ile (ssize x.1) (ssize x.1) then
         some ((((2:Int),sext x.1 (0:Int) p1.1.1,sext x.1 (iadd .i64 p1.1.1 (2:Int)) (ssize x.1),()),()),((),()))
        else none
       else none
      else none
     else none
    else none
   else none
  else
  bindN (r05_find n (x.1,(⟨#[61]⟩:ByteArray),())) fun p2 =>
  bif ilt p2.1.1 (0:Int) then
   some ((((4:Int),x.1,(⟨#[]⟩:ByteArray),()),()),((),()))
  else
  bif ile (0:Int) (isub .i64 (ssize x.1) (1:Int)) then
   bif ilt (isub .i64 (ssize x.1) (1:Int)) (ssize x.1) then
    bif ieq (sat x.1 (isub .i64 (ssize x.1) (1:Int))) (42:Int) then
     bif ile (0:Int) (0:Int) then
      bif ile (0:Int) p2.1.1 then
       bif ile p2.1.1 (ssize x.1) then
        bif ile (0:Int) (iadd .i64 p2.1.1 (1:Int)) then
         bif ile (iadd .i64 p2.1.1 (1:Int)) (isub .i64 (ssize x.1) (1:Int)) then
          bif ile (isub .i64 (ssize x.1) (1:Int)) (ssize x.1) then
           some ((((3:Int),sext x.1 (0:Int) p2.1.1,sext x.1 (iadd .i64 p2.1.1 (1:Int)) (isub .i64 (ssize x.1) (1:Int)),()),()),((),()))
          else none
         else none
        else none
       else none
      else none
     else none
    else
    bif ile (0:Int) (0:Int) then
     bif ile (0:Int) p2.1.1 then
      bif ile p2.1.1 (ssize x.1) then
       bif ile (0:Int) (iadd .i64 p2.1.1 (1:Int)) then
        bif ile (iadd .i64 p2.1.1 (1:Int)) (ssize x.1) then
         bif ile (ssize x.1) (ssize x.1) then
          some ((((1:Int),sext x.1 (0:Int) p2.1.1,sext x.1 (iadd .i64 p2.1.1 (1:Int)) (ssize x.1),()),()),((),()))
         else none
        else none
       else none
      else none
     else none
    else none
   else none
  else none
abbrev r05_part_ent (n:Nat):Ent:=⟨189,r05_part_sg,r05_part_rs,r05_part n⟩
theorem r05_part_ok (n:Nat):EntOk Tryz.prog (r05_part_ent n):=ent_ok' mixed (T:=[r05_find_ent n]) (tabCons (r05_find_ok n) tabNil) tabLNil fun x=>by kernel_rfl
abbrev r05_Parse_sg:List Sg:=[.tree .str]
abbrev r05_Parse_rs:List Rt:=[.tree (.slice tMatch), .tree (.int .i64)]
def r05_Parse_l0 (n:Nat):Nat→SgEl [.own tMatch, .tree (.slice .str), .tree (.int .i64)]→Option (SgEl [.own tMatch] ⊕ SgEl [.tree (.slice tMatch), .tree (.int .i64)])
  | 0,_=>none
  | g+1,s =>
    bif ilt s.2.2.1 (ilen s.2.1) then
     bif ile (0:Int) s.2.2.1 then
      bindN (lat s.2.1 (iN s.2.2.1)) fun v1 =>
      bindN (r05_part n (v1,())) fun p2 =>
      bindN (r05_may n p2.1) fun p3 =>
      bif !p3.1.1 then
       some (Sum.inr ([],(2:Int),()))
      else
      bif roomA s.1 [p2.1.1] 40 then
       bindL (r05_Parse_l0 n g (app s.1 [p2.1.1],s.2.1,iadd .i64 s.2.2.1 (1:Int),())) (fun a4 =>
        some (Sum.inl a4)) fun b5 =>
       some (Sum.inr b5)
      else none
     else none
    else
    some (Sum.inl (s.1,()))
theorem r05_Parse_l0_ok (n:Nat):∀ g,LEntOk Tryz.prog 136 (nSl r05_Parse_sg) ⟨0,[.own tMatch, .tree (.slice .str), .tree (.int .i64)],0,[.own tMatch],[.tree (.slice tMatch), .tree (.int .i64)],r05_Parse_l0 n g⟩ g
  | 0=>loop_zero' fun _=>rfl
  | g+1=>loop_step' mixed (T:=[r02_Split_ent n,r05_part_ent n,r05_may_ent n]) (tabCons (r02_Split_ok n) (tabCons (r05_part_ok n) (tabCons (r05_may_ok n) tabNil))) tabLNil (r05_Parse_l0_ok n g) fun s=>by kernel_rfl
def r05_Parse (n:Nat) (x:SgEl r05_Parse_sg):Option (RtEl r05_Parse_rs×OutEl r05_Parse_sg) :=
  bif seq x.1 (⟨#[]⟩:ByteArray) then
   some (([],(0:Int),()),((),()))
  else
  bindN (r02_Split n (x.1,(44:Int),())) fun p1 =>
  bindL (r05_Parse_l0 n n ([],p1.1.1,(0:Int),())) (fun a2 =>
   bif ilt (4:Int) (ilen a2.1) then
    some (([],(4:Int),()),((),()))
   else
   some ((a2.1,(0:Int),()),((),()))) fun b3 =>
  some (b3,((),()))
abbrev r05_Parse_ent (n:Nat):Ent:=⟨136,r05_Parse_sg,r05_Parse_rs,r05_Parse n⟩
theorem r05_Parse_ok (n:Nat):EntOk Tryz.prog (r05_Parse_ent n):=ent_ok' mixed (T:=[r02_Split_ent n,r05_part_ent n,r05_may_ent n]) (tabCons (r02_Split_ok n) (tabCons (r05_part_ok n) (tabCons (r05_may_ok n) tabNil))) (tabLCons (r05_Parse_l0_ok n n) tabLNil) fun x=>by kernel_rfl
abbrev r06_Fold_sg:List Sg:=[.tree tCell, .tree (.int .i64)]
abbrev r06_Fold_rs:List Rt:=[.tree tCell]
def r06_Fold (n:Nat) (x:SgEl r06_Fold_sg):Option (RtEl r06_Fold_rs×OutEl r06_Fold_sg) :=
  bif ilt x.1.1 (1:Int) then
   some ((((1:Int),(x.2.1,false,()),x.2.1,x.2),()),((),(),()))
  else
  bif ilt x.1.1 (9223372036854775807:Int) then
   bindN (r01_Add n (x.1.2.1,(x.2.1,false,()),())) fun p1 =>
   bif ilt x.2.1 x.1.2.2.1 then
    bif ilt x.1.2.2.2.1 x.2.1 then
     some (((iadd .i64 x.1.1 (1:Int),p1.1.1,x.2.1,x.2),()),((),(),()))
    else
    some (((iadd .i64 x.1.1 (1:Int),p1.1.1,x.2.1,x.1.2.2.2),()),((),(),()))
   else
   bif ilt x.1.2.2.2.1 x.2.1 then
    some (((iadd .i64 x.1.1 (1:Int),p1.1.1,x.1.2.2.1,x.2),()),((),(),()))
   else
   some (((iadd .i64 x.1.1 (1:Int),p1.1.1,x.1.2.2),()),((),(),()))
  else
  bindN (r01_Add n (x.1.2.1,(x.2.1,false,()),())) fun p2 =>
  bif ilt x.2.1 x.1.2.2.1 then
   bif ilt x.1.2.2.2.1 x.2.1 then
    some (((x.1.1,p2.1.1,x.2.1,x.2),()),((),(),()))
   else
   some (((x.1.1,p2.1.1,x.2.1,x.1.2.2.2),()),((),(),()))
  else
  bif ilt x.1.2.2.2.1 x.2.1 then
   some (((x.1.1,p2.1.1,x.1.2.2.1,x.2),()),((),(),()))
  else
  some (((x.1.1,p2.1.1,x.1.2.2),()),((),(),()))
abbrev r06_Fold_ent (n:Nat):Ent:=⟨143,r06_Fold_sg,r06_Fold_rs,r06_Fold n⟩
theorem r06_Fold_ok (n:Nat):EntOk Tryz.prog (r06_Fold_ent n):=ent_ok' mixed (T:=[r01_Add_ent n]) (tabCons (r01_Add_ok n) tabNil) tabLNil fun x=>by kernel_rfl
abbrev r06_Of_sg:List Sg:=[.tree (.slice (.int .i64))]
abbrev r06_Of_rs:List Rt:=[.tree tCell]
def r06_Of_l0 (n:Nat):Nat→SgEl [.tree (.slice (.int .i64)), .boxr tCell, .boxr tCell, .tree (.int .i64)]→Option (SgEl [.boxr tCell, .boxr tCell] ⊕ SgEl [])
  | 0,_=>none
  | g+1,s =>
    bif ilt s.2.2.2.1 (ilen s.1) then
     bif ile (0:Int) s.2.2.2.1 then
      bindN (lat s.1 (iN s.2.2.2.1)) fun v1 =>
      bindN (r06_Fold n (s.2.2.1,v1,())) fun p2 =>
      bindL (r06_Of_l0 n g (s.1,s.2.1,p2.1.1,iadd .i64 s.2.2.2.1 (1:Int),())) (fun a3 =>
       some (Sum.inl a3)) fun b4 =>
      some (Sum.inr ())
     else none
    else
    some (Sum.inl (s.2.1,s.2.2.1,()))
theorem r06_Of_l0_ok (n:Nat):∀ g,LEntOk Tryz.prog 98 (nSl r06_Of_sg) ⟨0,[.tree (.slice (.int .i64)), .boxr tCell, .boxr tCell, .tree (.int .i64)],0,[.boxr tCell, .boxr tCell],[],r06_Of_l0 n g⟩ g
  | 0=>loop_zero' fun _=>rfl
  | g+1=>loop_step' mixed (T:=[r06_Fold_ent n]) (tabCons (r06_Fold_ok n) tabNil) tabLNil (r06_Of_l0_ok n g) fun s=>by kernel_rfl
def r06_Of (n:Nat) (x:SgEl r06_Of_sg):Option (RtEl r06_Of_rs×OutEl r06_Of_sg) :=
  bindL (r06_Of_l0 n n (x.1,((0:Int),((0:Int),false,()),(0:Int),(0:Int),()),((0:Int),((0:Int),false,()),(0:Int),(0:Int),()),(0:Int),())) (fun a1 =>
   some (a1.2,((),()))) fun b2 =>
  none
abbrev r06_Of_ent (n:Nat):Ent:=⟨98,r06_Of_sg,r06_Of_rs,r06_Of n⟩
theorem r06_Of_ok (n:Nat):EntOk Tryz.prog (r06_Of_ent n):=ent_ok' mixed (T:=[r06_Fold_ent n]) (tabCons (r06_Fold_ok n) tabNil) (tabLCons (r06_Of_l0_ok n n) tabLNil) fun x=>by kernel_rfl
abbrev r07_aggs_sg:List Sg:=[]
abbrev r07_aggs_rs:List Rt:=[.tree (.slice .str)]
def r07_aggs (n:Nat) (x:SgEl r07_aggs_sg):Option (RtEl r07_aggs_rs×OutEl r07_aggs_sg) :=
  some (([(⟨#[]⟩:ByteArray),(⟨#[99,111,117,110,116]⟩:ByteArray),(⟨#[115,117,109]⟩:ByteArray),(⟨#[109,105,110]⟩:ByteArray),(⟨#[109,97,120]⟩:ByteArray)],()),())
abbrev r07_aggs_ent (n:Nat):Ent:=⟨156,r07_aggs_sg,r07_aggs_rs,r07_aggs n⟩
theorem r07_aggs_ok (n:Nat):EntOk Tryz.prog (r07_aggs_ent n):=ent_ok' mixed (T:=[]) tabNil tabLNil fun x=>by kernel_rfl
abbrev r07_names_sg:List Sg:=[.tree (.slice .str)]
abbrev r07_names_rs:List Rt:=[.tree (.int .i64)]
def r07_names_l2 (n:Nat):Nat→SgEl [.tree (.slice .str), .tree (.int .i64), .tree (.int .i64)]→Option (SgEl [.tree (.slice .str), .tree (.int .i64)] ⊕ SgEl [.tree (.int .i64)])
  | 0,_=>none
  | g+1,s =>
    bif ilt s.2.2.1 s.2.1 then
     bif ile (0:Int) s.2.2.1 then
      bindN (lat s.1 (iN s.2.2.1)) fun v1 =>
      bif ile (0:Int) s.2.1 then
       bindN (lat s.1 (iN s.2.1)) fun v2 =>
       bif seq v1 v2 then
        some (Sum.inr ((5:Int),()))
       else
       bindL (r07_names_l2 n g (s.1,s.2.1,iadd .i64 s.2.2.1 (1:Int),())) (fun a3 =>
        some (Sum.inl a3)) fun b4 =>
       some (Sum.inr b4)
      else none
     else none
    else
    some (Sum.inl (s.1,s.2.1,()))
theorem r07_names_l2_ok (n:Nat):∀ g,LEntOk Tryz.prog 137 (nSl r07_names_sg) ⟨2,[.tree (.slice .str), .tree (.int .i64), .tree (.int .i64)],4,[.tree (.slice .str), .tree (.int .i64)],[.tree (.int .i64)],r07_names_l2 n g⟩ g
  | 0=>loop_zero' fun _=>rfl
  | g+1=>loop_step' mixed (T:=[r02_Name_ent n]) (tabCons (r02_Name_ok n) tabNil) tabLNil (r07_names_l2_ok n g) fun s=>by kernel_rfl
def r07_names_l1 (n:Nat):Nat→SgEl [.tree (.slice .str), .tree (.int .i64)]→Option (SgEl [] ⊕ SgEl [.tree (.int .i64)])
  | 0,_=>none
  | g+1,s =>
    bif ilt s.2.1 (ilen s.1) then
     bindL (r07_names_l2 n n (s.1,s.2.1,(0:Int),())) (fun a1 =>
      bindL (r07_names_l1 n g (a1.1,iadd .i64 a1.2.1 (1:Int),())) (fun a3 =>
       some (Sum.inl ())) fun b4 =>
      some (Sum.inr b4)) fun b2 =>
     some (Sum.inr b2)
    else
    some (Sum.inl ())
theorem r07_names_l1_ok (n:Nat):∀ g,LEntOk Tryz.prog 137 (nSl r07_names_sg) ⟨1,[.tree (.slice .str), .tree (.int .i64)],2,[],[.tree (.int .i64)],r07_names_l1 n g⟩ g
  | 0=>loop_zero' fun _=>rfl
  | g+1=>loop_step' mixed (T:=[r02_Name_ent n]) (tabCons (r02_Name_ok n) tabNil) (tabLCons (r07_names_l2_ok n n) tabLNil) (r07_names_l1_ok n g) fun s=>by kernel_rfl
def r07_names_l0 (n:Nat):Nat→SgEl [.tree (.slice .str), .tree (.int .i64)]→Option (SgEl [.tree (.slice .str)] ⊕ SgEl [.tree (.int .i64)])
  | 0,_=>none
  | g+1,s =>
    bif ilt s.2.1 (ilen s.1) then
     bif ile (0:Int) s.2.1 then
      bindN (lat s.1 (iN s.2.1)) fun v1 =>
      bindN (r02_Name n (v1,())) fun p2 =>
      bif !p2.1.1 then
       some (Sum.inr ((2:Int),()))
      else
      bindL (r07_names_l0 n g (s.1,iadd .i64 s.2.1 (1:Int),())) (fun a3 =>
       some (Sum.inl a3)) fun b4 =>
      some (Sum.inr b4)
     else none
    else
    some (Sum.inl (s.1,()))
theorem r07_names_l0_ok (n:Nat):∀ g,LEntOk Tryz.prog 137 (nSl r07_names_sg) ⟨0,[.tree (.slice .str), .tree (.int .i64)],0,[.tree (.slice .str)],[.tree (.int .i64)],r07_names_l0 n g⟩ g
  | 0=>loop_zero' fun _=>rfl
  | g+1=>loop_step' mixed (T:=[r02_Name_ent n]) (tabCons (r02_Name_ok n) tabNil) (tabLCons (r07_names_l1_ok n n) (tabLCons (r07_names_l2_ok n n) tabLNil)) (r07_names_l0_ok n g) fun s=>by kernel_rfl
def r07_names (n:Nat) (x:SgEl r07_names_sg):Option (RtEl r07_names_rs×OutEl r07_names_sg) :=
  bindL (r07_names_l0 n n (x.1,(0:Int),())) (fun a1 =>
   bif ilt (4:Int) (ilen a1.1) then
    some (((4:Int),()),((),()))
   else
   bindL (r07_names_l1 n n (a1.1,(0:Int),())) (fun a3 =>
    some (((0:Int),()),((),()))) fun b4 =>
   some (b4,((),()))) fun b2 =>
  some (b2,((),()))
abbrev r07_names_ent (n:Nat):Ent:=⟨137,r07_names_sg,r07_names_rs,r07_names n⟩
theorem r07_names_ok (n:Nat):EntOk Tryz.prog (r07_names_ent n):=ent_ok' mixed (T:=[r02_Name_ent n]) (tabCons (r02_Name_ok n) tabNil) (tabLCons (r07_names_l0_ok n n) (tabLCons (r07_names_l1_ok n n) (tabLCons (r07_names_l2_ok n n) tabLNil))) fun x=>by kernel_rfl
abbrev r07_agg_sg:List Sg:=[.tree .str]
abbrev r07_agg_rs:List Rt:=[.tree (.int .i64)]
def r07_agg_l0 (n:Nat):Nat→SgEl [.tree .str, .tree (.slice .str), .tree (.int .i64)]→Option (SgEl [] ⊕ SgEl [.tree (.int .i64)])
  | 0,_=>none
  | g+1,s =>
    bif ilt s.2.2.1 (ilen s.2.1) then
     bif ile (0:Int) s.2.2.1 then
      bindN (lat s.2.1 (iN s.2.2.1)) fun v1 =>
      bif seq v1 s.1 then
       some (Sum.inr s.2.2)
      else
      bindL (r07_agg_l0 n g (s.1,s.2.1,iadd .i64 s.2.2.1 (1:Int),())) (fun a2 =>
       some (Sum.inl ())) fun b3 =>
      some (Sum.inr b3)
     else none
    else
    some (Sum.inl ())
theorem r07_agg_l0_ok (n:Nat):∀ g,LEntOk Tryz.prog 133 (nSl r07_agg_sg) ⟨0,[.tree .str, .tree (.slice .str), .tree (.int .i64)],0,[],[.tree (.int .i64)],r07_agg_l0 n g⟩ g
  | 0=>loop_zero' fun _=>rfl
  | g+1=>loop_step' mixed (T:=[r07_aggs_ent n]) (tabCons (r07_aggs_ok n) tabNil) tabLNil (r07_agg_l0_ok n g) fun s=>by kernel_rfl
def r07_agg (n:Nat) (x:SgEl r07_agg_sg):Option (RtEl r07_agg_rs×OutEl r07_agg_sg) :=
  bindN (r07_aggs n ()) fun p1 =>
  bindL (r07_agg_l0 n n (x.1,p1.1.1,(1:Int),())) (fun a2 =>
   some (((0:Int),()),((),()))) fun b3 =>
  some (b3,((),()))
abbrev r07_agg_ent (n:Nat):Ent:=⟨133,r07_agg_sg,r07_agg_rs,r07_agg n⟩
theorem r07_agg_ok (n:Nat):EntOk Tryz.prog (r07_agg_ent n):=ent_ok' mixed (T:=[r07_aggs_ent n]) (tabCons (r07_aggs_ok n) tabNil) (tabLCons (r07_agg_l0_ok n n) tabLNil) fun x=>by kernel_rfl
abbrev r07_Parse_sg:List Sg:=[.tree .str]
abbrev r07_Parse_rs:List Rt:=[.tree tQuery, .tree (.int .i64)]
def r07_Parse (n:Nat) (x:SgEl r07_Parse_sg):Option (RtEl r07_Parse_rs×OutEl r07_Parse_sg) :=
  bindN (r02_Fields n x) fun p1 =>
  bif !(ieq (ilen p1.1.1) (2:Int)) then
   bif !(ieq (ilen p1.1.1) (4:Int)) then
    some ((((0:Int),(⟨#[]⟩:ByteArray),[],[],()),(2:Int),()),((),()))
   else
   bif ile (0:Int) (2:Int) then
    bindN (lat p1.1.1 (iN (2:Int))) fun v2 =>
    bif !(seq v2 (⟨#[98,121]⟩:ByteArray)) then
     some ((((0:Int),(⟨#[]⟩:ByteArray),[],[],()),(2:Int),()),((),()))
    else
    bif ile (0:Int) (0:Int) then
     bindN (lat p1.1.1 (iN (0:Int))) fun v3 =>
     bindN (r07_agg n (v3,())) fun p4 =>
     bif ieq p4.1.1 (0:Int) then
      some ((((0:Int),(⟨#[]⟩:ByteArray),[],[],()),(2:Int),()),((),()))
     else
     bif ile (0:Int) (1:Int) then
      bindN (lat p1.1.1 (iN (1:Int))) fun v5 =>
      bindN (r04_Cut n (v5,())) fun p6 =>
      bif !p6.1.2.2.1 then
       some ((((0:Int),(⟨#[]⟩:ByteArray),[],[],()),(2:Int),()),((),()))
      else
      bindN (r02_Name n (p6.1.1,())) fun p7 =>
      bif !p7.1.1 then
       some ((((0:Int),(⟨#[]⟩:ByteArray),[],[],()),(2:Int),()),((),()))
      else
      bindN (r05_Parse n (p6.1.2.1,())) fun p8 =>
      bif !(ieq p8.1.2.1 (0:Int)) then
       some ((((0:Int),(⟨#[]⟩:ByteArray),[],[],()),p8.1.2),((),()))
      else
      bif ieq (ilen p1.1.1) (4:Int) then
       bif ile (0:Int) (3:Int) then
        bindN (lat p1.1.1 (iN (3:Int))) fun v9 =>
        bindN (r02_Split n (v9,(44:Int),())) fun p10 =>
        bindN (r07_names n p10.1) fun p11 =>
        bif !(ieq p11.1.1 (0:Int)) then
         some ((((0:Int),(⟨#[]⟩:ByteArray),[],[],()),p11.1),((),()))
        else
        some (((p4.1.1,p6.1.1,p8.1.1,p10.1),(0:Int),()),((),()))
       else none
      else
      bindN (r07_names n ([],())) fun p12 =>
      bif !(ieq p12.1.1 (0:Int)) then
       some ((((0:Int),(⟨#[]⟩:ByteArray),[],[],()),p12.1),((),()))
      else
      some (((p4.1.1,p6.1.1,p8.1.1,[],()),(0:Int),()),((),()))
     else none
    else none
   else none
  else
  bif ile (0:Int) (0:Int) then
   bindN (lat p1.1.1 (iN (0:Int))) fun v13 =>
   bindN (r07_agg n (v13,())) fun p14 =>
   bif ieq p14.1.1 (0:Int) then
    some ((((0:Int),(⟨#[]⟩:ByteArray),[],[],()),(2:Int),()),((),()))
   else
   bif ile (0:Int) (1:Int) then
    bindN (lat p1.1.1 (iN (1:Int))) fun v15 =>
    bindN (r04_Cut n (v15,())) fun p16 =>
    bif !p16.1.2.2.1 then
     some ((((0:Int),(⟨#[]⟩:ByteArray),[],[],()),(2:Int),()),((),()))
    else
    bindN (r02_Name n (p16.1.1,())) fun p17 =>
    bif !p17.1.1 then
     some ((((0:Int),(⟨#[]⟩:ByteArray),[],[],()),(2:Int),()),((),()))
    else
    bindN (r05_Parse n (p16.1.2.1,())) fun p18 =>
    bif !(ieq p18.1.2.1 (0:Int)) then
     some ((((0:Int),(⟨#[]⟩:ByteArray),[],[],()),p18.1.2),((),()))
    else
    bif ieq (ilen p1.1.1) (4:Int) then
     bif ile (0:Int) (3:Int) then
      bindN (lat p1.1.1 (iN (3:Int))) fun v19 =>
      bindN (r02_Split n (v19,(44:Int),())) fun p20 =>
      bindN (r07_names n p20.1) fun p21 =>
      bif !(ieq p21.1.1 (0:Int)) then
       some ((((0:Int),(⟨#[]⟩:ByteArray),[],[],()),p21.1),((),()))
      else
      some (((p14.1.1,p16.1.1,p18.1.1,p20.1),(0:Int),()),((),()))
     else none
    else
    bindN (r07_names n ([],())) fun p22 =>
    bif !(ieq p22.1.1 (0:Int)) then
     some ((((0:Int),(⟨#[]⟩:ByteArray),[],[],()),p22.1),((),()))
    else
    some (((p14.1.1,p16.1.1,p18.1.1,[],()),(0:Int),()),((),()))
   else none
  else none
abbrev r07_Parse_ent (n:Nat):Ent:=⟨61,r07_Parse_sg,r07_Parse_rs,r07_Parse n⟩
theorem r07_Parse_ok (n:Nat):EntOk Tryz.prog (r07_Parse_ent n):=ent_ok' mixed (T:=[r02_Fields_ent n,r07_agg_ent n,r04_Cut_ent n,r02_Name_ent n,r05_Parse_ent n,r02_Split_ent n,r07_names_ent n]) (tabCons (r02_Fields_ok n) (tabCons (r07_agg_ok n) (tabCons (r04_Cut_ok n) (tabCons (r02_Name_ok n) (tabCons (r05_Parse_ok n) (tabCons (r02_Split_ok n) (tabCons (r07_names_ok n) tabNil))))))) tabLNil fun x=>by kernel_rfl
abbrev r08_Before_sg:List Sg:=[.tree tRow, .tree tRow]
abbrev r08_Before_rs:List Rt:=[.tree .bool]
def r08_Before (n:Nat) (x:SgEl r08_Before_sg):Option (RtEl r08_Before_rs×OutEl r08_Before_sg) :=
  bif ilt x.1.1 x.2.1.1 then
   some ((true,()),((),(),()))
  else
  bif ieq x.1.1 x.2.1.1 then
   some ((slt x.1.2.1 x.2.1.2.1,()),((),(),()))
  else
  some ((false,()),((),(),()))
abbrev r08_Before_ent (n:Nat):Ent:=⟨51,r08_Before_sg,r08_Before_rs,r08_Before n⟩
theorem r08_Before_ok (n:Nat):EntOk Tryz.prog (r08_Before_ent n):=ent_ok' mixed (T:=[]) tabNil tabLNil fun x=>by kernel_rfl
abbrev r08_group_sg:List Sg:=[.tree .str]
abbrev r08_group_rs:List Rt:=[.tree (.int .i64)]
def r08_group (n:Nat) (x:SgEl r08_group_sg):Option (RtEl r08_group_rs×OutEl r08_group_sg) :=
  bindN (r03_Parse n x) fun p1 =>
  bif !(ieq p1.1.2.1 (0:Int)) then
   some (p1.1.2,((),()))
  else
  bindN (r03_Text n (p1.1.1,())) fun p2 =>
  bif !(seq p2.1.1 x.1) then
   some (((2:Int),()),((),()))
  else
  some (((0:Int),()),((),()))
abbrev r08_group_ent (n:Nat):Ent:=⟨105,r08_group_sg,r08_group_rs,r08_group n⟩
theorem r08_group_ok (n:Nat):EntOk Tryz.prog (r08_group_ent n):=ent_ok' mixed (T:=[r03_Parse_ent n,r03_Text_ent n]) (tabCons (r03_Parse_ok n) (tabCons (r03_Text_ok n) tabNil)) tabLNil fun x=>by kernel_rfl
abbrev r08_rise_sg:List Sg:=[.tree (.slice tRow)]
abbrev r08_rise_rs:List Rt:=[.tree .bool]
def r08_rise_l0 (n:Nat):Nat→SgEl [.tree (.slice tRow), .tree (.int .i64)]→Option (SgEl [] ⊕ SgEl [.tree .bool])
  | 0,_=>none
  | g+1,s =>
    bif ilt s.2.1 (ilen s.1) then
     bif ile (0:Int) (isub .i64 s.2.1 (1:Int)) then
      bindN (lat s.1 (iN (isub .i64 s.2.1 (1:Int)))) fun v1 =>
      bif ile (0:Int) s.2.1 then
       bindN (lat s.1 (iN s.2.1)) fun v2 =>
       bindN (r08_Before n (v1,v2,())) fun p3 =>
       bif !p3.1.1 then
        some (Sum.inr (false,()))
       else
       bindL (r08_rise_l0 n g (s.1,iadd .i64 s.2.1 (1:Int),())) (fun a4 =>
        some (Sum.inl ())) fun b5 =>
       some (Sum.inr b5)
      else none
     else none
    else
    some (Sum.inl ())
theorem r08_rise_l0_ok (n:Nat):∀ g,LEntOk Tryz.prog 106 (nSl r08_rise_sg) ⟨0,[.tree (.slice tRow), .tree (.int .i64)],0,[],[.tree .bool],r08_rise_l0 n g⟩ g
  | 0=>loop_zero' fun _=>rfl
  | g+1=>loop_step' mixed (T:=[r08_Before_ent n]) (tabCons (r08_Before_ok n) tabNil) tabLNil (r08_rise_l0_ok n g) fun s=>by kernel_rfl
def r08_rise (n:Nat) (x:SgEl r08_rise_sg):Option (RtEl r08_rise_rs×OutEl r08_rise_sg) :=
  bindL (r08_rise_l0 n n (x.1,(1:Int),())) (fun a1 =>
   some ((true,()),((),()))) fun b2 =>
  some (b2,((),()))
abbrev r08_rise_ent (n:Nat):Ent:=⟨106,r08_rise_sg,r08_rise_rs,r08_rise n⟩
theorem r08_rise_ok (n:Nat):EntOk Tryz.prog (r08_rise_ent n):=ent_ok' mixed (T:=[r08_Before_ent n]) (tabCons (r08_Before_ok n) tabNil) (tabLCons (r08_rise_l0_ok n n) tabLNil) fun x=>by kernel_rfl
abbrev r08_Right_sg:List Sg:=[.tree (.slice tRow)]
abbrev r08_Right_rs:List Rt:=[.tree .bool]
def r08_Right_l0 (n:Nat):Nat→SgEl [.tree (.slice tRow), .tree (.int .i64)]→Option (SgEl [.tree (.slice tRow)] ⊕ SgEl [.tree .bool])
  | 0,_=>none
  | g+1,s =>
    bif ilt s.2.1 (ilen s.1) then
     bif ile (0:Int) s.2.1 then
      bindN (lat s.1 (iN s.2.1)) fun v1 =>
      bindN (r08_group n (v1.2.1,())) fun p2 =>
      bif !(ieq p2.1.1 (0:Int)) then
       some (Sum.inr (false,()))
      else
      bindL (r08_Right_l0 n g (s.1,iadd .i64 s.2.1 (1:Int),())) (fun a3 =>
       some (Sum.inl a3)) fun b4 =>
      some (Sum.inr b4)
     else none
    else
    some (Sum.inl (s.1,()))
theorem r08_Right_l0_ok (n:Nat):∀ g,LEntOk Tryz.prog 53 (nSl r08_Right_sg) ⟨0,[.tree (.slice tRow), .tree (.int .i64)],0,[.tree (.slice tRow)],[.tree .bool],r08_Right_l0 n g⟩ g
  | 0=>loop_zero' fun _=>rfl
  | g+1=>loop_step' mixed (T:=[r08_group_ent n,r08_rise_ent n]) (tabCons (r08_group_ok n) (tabCons (r08_rise_ok n) tabNil)) tabLNil (r08_Right_l0_ok n g) fun s=>by kernel_rfl
def r08_Right (n:Nat) (x:SgEl r08_Right_sg):Option (RtEl r08_Right_rs×OutEl r08_Right_sg) :=
  bindL (r08_Right_l0 n n (x.1,(0:Int),())) (fun a1 =>
   bindN (r08_rise n a1) fun p3 =>
   some (p3.1,((),()))) fun b2 =>
  some (b2,((),()))
abbrev r08_Right_ent (n:Nat):Ent:=⟨53,r08_Right_sg,r08_Right_rs,r08_Right n⟩
theorem r08_Right_ok (n:Nat):EntOk Tryz.prog (r08_Right_ent n):=ent_ok' mixed (T:=[r08_group_ent n,r08_rise_ent n]) (tabCons (r08_group_ok n) (tabCons (r08_rise_ok n) tabNil)) (tabLCons (r08_Right_l0_ok n n) tabLNil) fun x=>by kernel_rfl
abbrev r08_Text_sg:List Sg:=[.tree (.slice tRow)]
abbrev r08_Text_rs:List Rt:=[.tree .str]
def r08_Text_l0 (n:Nat):Nat→SgEl [.tree (.slice tRow), .own .str, .tree (.int .i64)]→Option (SgEl [.own .str] ⊕ SgEl [])
  | 0,_=>none
  | g+1,s =>
    bif ilt s.2.2.1 (ilen s.1) then
     bif ile (0:Int) s.2.2.1 then
      bindN (lat s.1 (iN s.2.2.1)) fun v1 =>
      bindN (r01_Number n (v1.1,())) fun p2 =>
      bif sfits p2.1.1 (⟨#[124]⟩:ByteArray) then
       bif ile (0:Int) s.2.2.1 then
        bindN (lat s.1 (iN s.2.2.1)) fun v3 =>
        bif sfits (scat p2.1.1 (⟨#[124]⟩:ByteArray)) v3.2.1 then
         bif sfits (scat (scat p2.1.1 (⟨#[124]⟩:ByteArray)) v3.2.1) (⟨#[124]⟩:ByteArray) then
          bif ile (0:Int) s.2.2.1 then
           bindN (lat s.1 (iN s.2.2.1)) fun v4 =>
           bindN (r01_Text n v4.2.2) fun p5 =>
           bif sfits (scat (scat (scat p2.1.1 (⟨#[124]⟩:ByteArray)) v3.2.1) (⟨#[124]⟩:ByteArray)) p5.1.1 then
            bif roomA s.2.1 [scat (scat (scat (scat p2.1.1 (⟨#[124]⟩:ByteArray)) v3.2.1) (⟨#[124]⟩:ByteArray)) p5.1.1] 16 then
             bindL (r08_Text_l0 n g (s.1,app s.2.1 [scat (scat (scat (scat p2.1.1 (⟨#[124]⟩:ByteArray)) v3.2.1) (⟨#[124]⟩:ByteArray)) p5.1.1],iadd .i64 s.2.2.1 (1:Int),())) (fun a6 =>
              some (Sum.inl a6)) fun b7 =>
             some (Sum.inr ())
            else none
           else none
          else none
         else none
        else none
       else none
      else none
     else none
    else
    some (Sum.inl (s.2.1,()))
theorem r08_Text_l0_ok (n:Nat):∀ g,LEntOk Tryz.prog 55 (nSl r08_Text_sg) ⟨0,[.tree (.slice tRow), .own .str, .tree (.int .i64)],0,[.own .str],[],r08_Text_l0 n g⟩ g
  | 0=>loop_zero' fun _=>rfl
  | g+1=>loop_step' mixed (T:=[r01_Number_ent n,r01_Text_ent n,r02_Join_ent n]) (tabCons (r01_Number_ok n) (tabCons (r01_Text_ok n) (tabCons (r02_Join_ok n) tabNil))) tabLNil (r08_Text_l0_ok n g) fun s=>by kernel_rfl
def r08_Text (n:Nat) (x:SgEl r08_Text_sg):Option (RtEl r08_Text_rs×OutEl r08_Text_sg) :=
  bif ieq (ilen x.1) (0:Int) then
   some (((⟨#[45]⟩:ByteArray),()),((),()))
  else
  bindL (r08_Text_l0 n n (x.1,[],(0:Int),())) (fun a1 =>
   bindN (r02_Join n ((⟨#[59]⟩:ByteArray),a1)) fun p3 =>
   some (p3.1,((),()))) fun b2 =>
  none
abbrev r08_Text_ent (n:Nat):Ent:=⟨55,r08_Text_sg,r08_Text_rs,r08_Text n⟩
theorem r08_Text_ok (n:Nat):EntOk Tryz.prog (r08_Text_ent n):=ent_ok' mixed (T:=[r01_Number_ent n,r01_Text_ent n,r02_Join_ent n]) (tabCons (r01_Number_ok n) (tabCons (r01_Text_ok n) (tabCons (r02_Join_ok n) tabNil))) (tabLCons (r08_Text_l0_ok n n) tabLNil) fun x=>by kernel_rfl
abbrev r08_one_sg:List Sg:=[.tree .str]
abbrev r08_one_rs:List Rt:=[.tree tRow, .tree (.int .i64)]
def r08_one (n:Nat) (x:SgEl r08_one_sg):Option (RtEl r08_one_rs×OutEl r08_one_sg) :=
  bindN (r02_Split n (x.1,(124:Int),())) fun p1 =>
  bif !(ieq (ilen p1.1.1) (3:Int)) then
   some ((((0:Int),(⟨#[]⟩:ByteArray),((0:Int),false,()),()),(2:Int),()),((),()))
  else
  bif ile (0:Int) (0:Int) then
   bindN (lat p1.1.1 (iN (0:Int))) fun v2 =>
   bindN (r01_Read n (v2,())) fun p3 =>
   bif !(ieq p3.1.2.1 (0:Int)) then
    some ((((0:Int),(⟨#[]⟩:ByteArray),((0:Int),false,()),()),p3.1.2),((),()))
   else
   bif ile (0:Int) (1:Int) then
    bindN (lat p1.1.1 (iN (1:Int))) fun v4 =>
    bindN (r08_group n (v4,())) fun p5 =>
    bif !(ieq p5.1.1 (0:Int)) then
     some ((((0:Int),(⟨#[]⟩:ByteArray),((0:Int),false,()),()),p5.1),((),()))
    else
    bif ile (0:Int) (2:Int) then
     bindN (lat p1.1.1 (iN (2:Int))) fun v6 =>
     bindN (r01_Parse n (v6,())) fun p7 =>
     bif !(ieq p7.1.2.1 (0:Int)) then
      some ((((0:Int),(⟨#[]⟩:ByteArray),((0:Int),false,()),()),p7.1.2),((),()))
     else
     bif ile (0:Int) (1:Int) then
      bindN (lat p1.1.1 (iN (1:Int))) fun v8 =>
      some (((p3.1.1,v8,p7.1.1,()),(0:Int),()),((),()))
     else none
    else none
   else none
  else none
abbrev r08_one_ent (n:Nat):Ent:=⟨114,r08_one_sg,r08_one_rs,r08_one n⟩
theorem r08_one_ok (n:Nat):EntOk Tryz.prog (r08_one_ent n):=ent_ok' mixed (T:=[r02_Split_ent n,r01_Read_ent n,r08_group_ent n,r01_Parse_ent n]) (tabCons (r02_Split_ok n) (tabCons (r01_Read_ok n) (tabCons (r08_group_ok n) (tabCons (r01_Parse_ok n) tabNil)))) tabLNil fun x=>by kernel_rfl
abbrev r08_Parse_sg:List Sg:=[.tree .str]
abbrev r08_Parse_rs:List Rt:=[.tree (.slice tRow), .tree (.int .i64)]
def r08_Parse_l0 (n:Nat):Nat→SgEl [.own tRow, .tree (.slice .str), .tree (.int .i64)]→Option (SgEl [.own tRow] ⊕ SgEl [.tree (.slice tRow), .tree (.int .i64)])
  | 0,_=>none
  | g+1,s =>
    bif ilt s.2.2.1 (ilen s.2.1) then
     bif ile (0:Int) s.2.2.1 then
      bindN (lat s.2.1 (iN s.2.2.1)) fun v1 =>
      bindN (r08_one n (v1,())) fun p2 =>
      bif !(ieq p2.1.2.1 (0:Int)) then
       some (Sum.inr ([],p2.1.2))
      else
      bif roomA s.1 [p2.1.1] 40 then
       bindL (r08_Parse_l0 n g (app s.1 [p2.1.1],s.2.1,iadd .i64 s.2.2.1 (1:Int),())) (fun a3 =>
        some (Sum.inl a3)) fun b4 =>
       some (Sum.inr b4)
      else none
     else none
    else
    some (Sum.inl (s.1,()))
theorem r08_Parse_l0_ok (n:Nat):∀ g,LEntOk Tryz.prog 58 (nSl r08_Parse_sg) ⟨0,[.own tRow, .tree (.slice .str), .tree (.int .i64)],0,[.own tRow],[.tree (.slice tRow), .tree (.int .i64)],r08_Parse_l0 n g⟩ g
  | 0=>loop_zero' fun _=>rfl
  | g+1=>loop_step' mixed (T:=[r02_Split_ent n,r08_one_ent n,r08_rise_ent n]) (tabCons (r02_Split_ok n) (tabCons (r08_one_ok n) (tabCons (r08_rise_ok n) tabNil))) tabLNil (r08_Parse_l0_ok n g) fun s=>by kernel_rfl
def r08_Parse (n:Nat) (x:SgEl r08_Parse_sg):Option (RtEl r08_Parse_rs×OutEl r08_Parse_sg) :=
  bif seq x.1 (⟨#[45]⟩:ByteArray) then
   some (([],(0:Int),()),((),()))
  else
  bindN (r02_Split n (x.1,(59:Int),())) fun p1 =>
  bindL (r08_Parse_l0 n n ([],p1.1.1,(0:Int),())) (fun a2 =>
   bindN (r08_rise n a2) fun p4 =>
   bif !p4.1.1 then
    some (([],(9:Int),()),((),()))
   else
   some ((a2.1,(0:Int),()),((),()))) fun b3 =>
  some (b3,((),()))
abbrev r08_Parse_ent (n:Nat):Ent:=⟨58,r08_Parse_sg,r08_Parse_rs,r08_Parse n⟩
theorem r08_Parse_ok (n:Nat):EntOk Tryz.prog (r08_Parse_ent n):=ent_ok' mixed (T:=[r02_Split_ent n,r08_one_ent n,r08_rise_ent n]) (tabCons (r02_Split_ok n) (tabCons (r08_one_ok n) (tabCons (r08_rise_ok n) tabNil))) (tabLCons (r08_Parse_l0_ok n n) tabLNil) fun x=>by kernel_rfl
abbrev r08_Same_sg:List Sg:=[.tree (.slice tRow), .tree (.slice tRow)]
abbrev r08_Same_rs:List Rt:=[.tree .bool]
def r08_Same_l0 (n:Nat):Nat→SgEl [.tree (.slice tRow), .tree (.slice tRow), .tree (.int .i64)]→Option (SgEl [] ⊕ SgEl [.tree .bool])
  | 0,_=>none
  | g+1,s =>
    bif ilt s.2.2.1 (ilen s.1) then
     bif ile (0:Int) s.2.2.1 then
      bindN (lat s.1 (iN s.2.2.1)) fun v1 =>
      bif ile (0:Int) s.2.2.1 then
       bindN (lat s.2.1 (iN s.2.2.1)) fun v2 =>
       bif !(ieq v1.1 v2.1 && (seq v1.2.1 v2.2.1 && (ieq v1.2.2.1.1 v2.2.2.1.1 && (beqB v1.2.2.1.2.1 v2.2.2.1.2.1 && true)))) then
        some (Sum.inr (false,()))
       else
       bindL (r08_Same_l0 n g (s.1,s.2.1,iadd .i64 s.2.2.1 (1:Int),())) (fun a3 =>
        some (Sum.inl ())) fun b4 =>
       some (Sum.inr b4)
      else none
     else none
    else
    some (Sum.inl ())
theorem r08_Same_l0_ok (n:Nat):∀ g,LEntOk Tryz.prog 32 (nSl r08_Same_sg) ⟨0,[.tree (.slice tRow), .tree (.slice tRow), .tree (.int .i64)],0,[],[.tree .bool],r08_Same_l0 n g⟩ g
  | 0=>loop_zero' fun _=>rfl
  | g+1=>loop_step' mixed (T:=[]) tabNil tabLNil (r08_Same_l0_ok n g) fun s=>by kernel_rfl
def r08_Same (n:Nat) (x:SgEl r08_Same_sg):Option (RtEl r08_Same_rs×OutEl r08_Same_sg) :=
  bif !(ieq (ilen x.1) (ilen x.2.1)) then
   some ((false,()),((),(),()))
  else
  bindL (r08_Same_l0 n n (x.1,x.2.1,(0:Int),())) (fun a1 =>
   some ((true,()),((),(),()))) fun b2 =>
  some (b2,((),(),()))
abbrev r08_Same_ent (n:Nat):Ent:=⟨32,r08_Same_sg,r08_Same_rs,r08_Same n⟩
theorem r08_Same_ok (n:Nat):EntOk Tryz.prog (r08_Same_ent n):=ent_ok' mixed (T:=[]) tabNil (tabLCons (r08_Same_l0_ok n n) tabLNil) fun x=>by kernel_rfl
abbrev r08_Great_sg:List Sg:=[.tree (.slice tRow)]
abbrev r08_Great_rs:List Rt:=[.tree .bool]
def r08_Great_l0 (n:Nat):Nat→SgEl [.tree (.slice tRow), .tree (.int .i64)]→Option (SgEl [] ⊕ SgEl [.tree .bool])
  | 0,_=>none
  | g+1,s =>
    bif ilt s.2.1 (ilen s.1) then
     bif ile (0:Int) s.2.1 then
      bindN (lat s.1 (iN s.2.1)) fun v1 =>
      bif ilt (300:Int) (ssize v1.2.1) then
       some (Sum.inr (true,()))
      else
      bindL (r08_Great_l0 n g (s.1,iadd .i64 s.2.1 (1:Int),())) (fun a2 =>
       some (Sum.inl ())) fun b3 =>
      some (Sum.inr b3)
     else none
    else
    some (Sum.inl ())
theorem r08_Great_l0_ok (n:Nat):∀ g,LEntOk Tryz.prog 49 (nSl r08_Great_sg) ⟨0,[.tree (.slice tRow), .tree (.int .i64)],0,[],[.tree .bool],r08_Great_l0 n g⟩ g
  | 0=>loop_zero' fun _=>rfl
  | g+1=>loop_step' mixed (T:=[]) tabNil tabLNil (r08_Great_l0_ok n g) fun s=>by kernel_rfl
def r08_Great (n:Nat) (x:SgEl r08_Great_sg):Option (RtEl r08_Great_rs×OutEl r08_Great_sg) :=
  bif ilt (100:Int) (ilen x.1) then
   some ((true,()),((),()))
  else
  bindL (r08_Great_l0 n n (x.1,(0:Int),())) (fun a1 =>
   some ((false,()),((),()))) fun b2 =>
  some (b2,((),()))
abbrev r08_Great_ent (n:Nat):Ent:=⟨49,r08_Great_sg,r08_Great_rs,r08_Great n⟩
theorem r08_Great_ok (n:Nat):EntOk Tryz.prog (r08_Great_ent n):=ent_ok' mixed (T:=[]) tabNil (tabLCons (r08_Great_l0_ok n n) tabLNil) fun x=>by kernel_rfl
end Go.Proofs.YtdcphpbimeoioaaGreatDoorE
end
section
set_option linter.unusedSectionVars false
namespace Go.Proofs.YtdcphpbimeoioaaGreatDoorE
open Go
set_option linter.unusedVariables false
set_option maxRecDepth 100000
abbrev tRow_place:Ty := .pair (.int .i64) (.pair .str .unit)
abbrev cmp_isNaN_sg:List Sg:=[.tree (.int .i64)]
abbrev cmp_isNaN_rs:List Rt:=[.tree .bool]
def cmp_isNaN (n:Nat) (x:SgEl cmp_isNaN_sg):Option (RtEl cmp_isNaN_rs×OutEl cmp_isNaN_sg) :=
  some ((!(ieq x.1 x.1),()),((),()))
abbrev cmp_isNaN_ent (n:Nat):Ent:=⟨216,cmp_isNaN_sg,cmp_isNaN_rs,cmp_isNaN n⟩
theorem cmp_isNaN_ok [Dm] (n:Nat):EntOk Tryz.prog (cmp_isNaN_ent n):=ent_ok' mixed (T:=[]) tabNil tabLNil fun x=>by kernel_rfl
abbrev cmp_Compare_sg:List Sg:=[.tree (.int .i64), .tree (.int .i64)]
abbrev cmp_Compare_rs:List Rt:=[.tree (.int .i64)]
def cmp_Compare (n:Nat) (x:SgEl cmp_Compare_sg):Option (RtEl cmp_Compare_rs×OutEl cmp_Compare_sg) :=
  bindN (cmp_isNaN n (x.1,())) fun p1 =>
  bindN (cmp_isNaN n x.2) fun p2 =>
  bif p1.1.1 then
   bif p2.1.1 then
    some (((0:Int),()),((),(),()))
   else
   some (((-1:Int),()),((),(),()))
  else
  bif p2.1.1 then
   some (((1:Int),()),((),(),()))
  else
  bif ilt x.1 x.2.1 then
   some (((-1:Int),()),((),(),()))
  else
  bif ilt x.2.1 x.1 then
   some (((1:Int),()),((),(),()))
  else
  some (((0:Int),()),((),(),()))
abbrev cmp_Compare_ent (n:Nat):Ent:=⟨167,cmp_Compare_sg,cmp_Compare_rs,cmp_Compare n⟩
theorem cmp_Compare_ok [Dm] (n:Nat):EntOk Tryz.prog (cmp_Compare_ent n):=ent_ok' mixed (T:=[cmp_isNaN_ent n]) (tabCons (cmp_isNaN_ok n) tabNil) tabLNil fun x=>by kernel_rfl
abbrev cmp_Or_sg:List Sg:=[.tree (.slice (.int .i64))]
abbrev cmp_Or_rs:List Rt:=[.tree (.int .i64)]
def cmp_Or_l0 (n:Nat):Nat→SgEl [.tree (.int .i64), .tree (.slice (.int .i64)), .tree (.int .i64), .tree (.int .i64)]→Option (SgEl [.tree (.int .i64)] ⊕ SgEl [.tree (.int .i64)])
  | 0,_=>none
  | g+1,s =>
    bif ilt s.2.2.2.1 s.2.2.1 then
     bif ile (0:Int) s.2.2.2.1 then
      bindN (lat s.2.1 (iN s.2.2.2.1)) fun v1 =>
      bif !(ieq v1 s.1) then
       some (Sum.inr (v1,()))
      else
      bindL (cmp_Or_l0 n g (s.1,s.2.1,s.2.2.1,iadd .i64 s.2.2.2.1 (1:Int),())) (fun a2 =>
       some (Sum.inl a2)) fun b3 =>
      some (Sum.inr b3)
     else none
    else
    some (Sum.inl (s.1,()))
theorem cmp_Or_l0_ok [Dm] (n:Nat):∀ g,LEntOk Tryz.prog 166 (nSl cmp_Or_sg) ⟨0,[.tree (.int .i64), .tree (.slice (.int .i64)), .tree (.int .i64), .tree (.int .i64)],0,[.tree (.int .i64)],[.tree (.int .i64)],cmp_Or_l0 n g⟩ g
  | 0=>loop_zero' fun _=>rfl
  | g+1=>loop_step' mixed (T:=[]) tabNil tabLNil (cmp_Or_l0_ok n g) fun s=>by kernel_rfl
def cmp_Or (n:Nat) (x:SgEl cmp_Or_sg):Option (RtEl cmp_Or_rs×OutEl cmp_Or_sg) :=
  bindL (cmp_Or_l0 n n ((0:Int),x.1,ilen x.1,(0:Int),())) (fun a1 =>
   some (a1,((),()))) fun b2 =>
  some (b2,((),()))
abbrev cmp_Or_ent (n:Nat):Ent:=⟨166,cmp_Or_sg,cmp_Or_rs,cmp_Or n⟩
theorem cmp_Or_ok [Dm] (n:Nat):EntOk Tryz.prog (cmp_Or_ent n):=ent_ok' mixed (T:=[]) tabNil (tabLCons (cmp_Or_l0_ok n n) tabLNil) fun x=>by kernel_rfl
abbrev row_of_sg:List Sg:=[.tree tRow]
abbrev row_of_rs:List Rt:=[.tree tRow_place]
def row_of (n:Nat) (x:SgEl row_of_sg):Option (RtEl row_of_rs×OutEl row_of_sg) :=
  some (((x.1.1,x.1.2.1,()),()),((),()))
abbrev row_of_ent (n:Nat):Ent:=⟨100,row_of_sg,row_of_rs,row_of n⟩
theorem row_of_ok [Dm] (n:Nat):EntOk Tryz.prog (row_of_ent n):=ent_ok' mixed (T:=[]) tabNil tabLNil fun x=>by kernel_rfl
abbrev row_order_sg:List Sg:=[.tree tRow_place, .tree tRow_place]
abbrev row_order_rs:List Rt:=[.tree (.int .i64)]
def row_order (n:Nat) (x:SgEl row_order_sg):Option (RtEl row_order_rs×OutEl row_order_sg) :=
  bindN (cmp_Compare n (x.1.1,x.2.1.1,())) fun p1 =>
  bindN (s_Compare n (x.1.2.1,x.2.1.2)) fun p2 =>
  bindN (cmp_Or n ([p1.1.1,p2.1.1],())) fun p3 =>
  some (p3.1,((),(),()))
abbrev row_order_ent (n:Nat):Ent:=⟨99,row_order_sg,row_order_rs,row_order n⟩
theorem row_order_ok [Dm] (n:Nat):EntOk Tryz.prog (row_order_ent n):=ent_ok' mixed (T:=[cmp_Compare_ent n,s_Compare_ent n,cmp_Or_ent n]) (tabCons (cmp_Compare_ok n) (tabCons (s_Compare_ok n) (tabCons (cmp_Or_ok n) tabNil))) tabLNil fun x=>by kernel_rfl
abbrev row_Answer2_sg:List Sg:=[.tree tRow, .tree tRow]
abbrev row_Answer2_rs:List Rt:=[.tree (.int .i64)]
def row_Answer2 (n:Nat) (x:SgEl row_Answer2_sg):Option (RtEl row_Answer2_rs×OutEl row_Answer2_sg) :=
  bindN (row_of n (x.1,())) fun p1 =>
  bindN (row_of n x.2) fun p2 =>
  bindN (row_order n (p1.1.1,p2.1)) fun p3 =>
  some (p3.1,((),(),()))
abbrev row_Answer2_ent (n:Nat):Ent:=⟨126,row_Answer2_sg,row_Answer2_rs,row_Answer2 n⟩
theorem row_Answer2_ok [Dm] (n:Nat):EntOk Tryz.prog (row_Answer2_ent n):=ent_ok' mixed (T:=[row_of_ent n,row_order_ent n]) (tabCons (row_of_ok n) (tabCons (row_order_ok n) tabNil)) tabLNil fun x=>by kernel_rfl
end Go.Proofs.YtdcphpbimeoioaaGreatDoorE
end
section
set_option linter.unusedSectionVars false
namespace Go.Proofs.YtdcphpbimeoioaaGreatDoorE
open Go Go.RowKit Go.Shelf
open Go.Sort (HoldsK flatK get_flatK size_flatK putCells)
set_option linter.unusedVariables false
set_option linter.unusedSimpArgs false
section
variable {P:Program} {S:Nat→SL} {F:Nat→Prop} {w w':World} {H:Heap}
theorem below_rel (hr:Rel S F w H) (bel:BelD w w'):Rel S F w' H∧Adv S F w H S F w' H:=by
  have hlive:∀ b k,blkOf (S b)=some k→k<w.heap.size:=by
    intro b k hb
    cases hg:hget H b with
    | unused=>rw [unused_S hr hg] at hb;cases hb
    | dead =>
      have:=hr.slots b;rw [hg] at this
      cases hs:S b<;>rw [hs] at this hb<;>simp only [SlotOk] at this
      cases hb
    | live y=>exact blkOf_lt hr hg hb
  exact ⟨⟨fun b=>(hr.slots b).mono (fun _ h=>h) (fun k hk=>bel.block k (hr.fsz k hk)) (fun _ _ => .inl rfl) (fun k hk=>bel.block k (hlive b k hk)) (fun _ _ h=>h),hr.inj,fun k hk=>Nat.lt_of_lt_of_le (hr.fsz k hk) bel.size,hr.gl.mono (fun _ h=>h) fun k hk=>bel.block k (hr.fsz k hk)⟩,
    ⟨fun _ h=>h,fun _ _ => .inl rfl,bel.size,fun k hk _=>bel.block k hk,fun k hk => .inl hk,fun k h => .inl h,bel.os,bel.tape,bel.output,bel.drawn⟩⟩
theorem app_copy {t:Ty} {xs:List (El t)} {v:Value} {tS e ty:TypeId} {z:List PV} {bytes:Nat} (hr:Rel S F w []) (hv:Val S F w (.lst t xs) v) (ht:P.underlying tS=some (.slice e)) (hz:zeroPV P e=some z) (hs:szOf P e=some t.size) (hby:0<bytes) (hbe:P.bytesOf e=bytes)
    (hroom:room xs.length bytes=true) (a:Option Addr) :
    ∃ u' w' S' F',(Builtin.append_ #[tS,tS] ty #[.slice a 0 0,v]).run P w = .ok u' w'∧Rel S' F' w' [.live (.arr t xs true)]∧Val S' F' w' (.own 0) u'∧Adv S F w [] S' F' w' [.live (.arr t xs true)]:=by
  have h:appendV 0 [] t.size bytes (.emp t) (.lst t xs) (fun p H=>some (p,H))=some (.own 0,[.live (.arr t xs true)]):=by
    simp [appendV,elsOf,castL,optK,hroom,fresh,fH_eq,hset,hget]
  obtain ⟨u',w',h1,p,H',S',F',h2,h3,h4,h5⟩:=ok_appendE (nb:=0) (ty:=ty) hr (.emp t a) hv ht hz hs hby hbe (.inl ⟨e,ht⟩) (by simp [ht]) h
  simp only [Option.some.injEq,Prod.mk.injEq] at h2
  obtain ⟨rfl,rfl⟩:=h2
  exact ⟨u',w',S',F',h1,h3,h4,h5⟩
theorem own_none (hr:Rel S F w []) (bel:BelD w w') (t:Ty) (a:Option Addr) :
    ∃ S' F',Rel S' F' w' [.live (.arr t [] true)]∧Val S' F' w' (.own 0) (.slice a 0 0)∧Adv S F w [] S' F' w' [.live (.arr t [] true)]:=by
  obtain ⟨h1,h2⟩:=below_rel hr bel
  obtain ⟨S',n1,n2,n3⟩:=new_none (nb:=0) h1 (by simp [hget]) t a
  exact ⟨S',F,n1,n3,h2.trans' n2⟩
def pvVal:PV→Value
  | .int k n => .int k n
  | .bool b => .bool b
  | .str s => .string s
  | _=>undef
def flatY:Ty→Bool
  | .int _|.bool|.str|.unit=>true
  | .pair a b=>flatY a && flatY b
  | _=>false
def encT (t:Ty) (x:El t):List Value:=(cellsOf t x).map pvVal
theorem flat_pv:∀ (t:Ty),flatY t=true→∀ (x:El t) (p:PV),p∈cellsOf t x→(pvVal p).oneCell=true∧∀ (S:Nat→SL) (F:Nat→Prop) (w:World),Val S F w p (pvVal p)∧∀ v,Val S F w p v→v=pvVal p
  | .int k,_,n,p,h=>by simp [cellsOf] at h;subst h;exact ⟨rfl,fun S F w=>⟨.int _ _,fun v hv=>val_int hv⟩⟩
  | .bool,_,b,p,h=>by simp [cellsOf] at h;subst h;exact ⟨rfl,fun S F w=>⟨.bool _,fun v hv=>val_bool hv⟩⟩
  | .str,_,s,p,h=>by simp [cellsOf] at h;subst h;exact ⟨rfl,fun S F w=>⟨.str _,fun v hv=>val_str hv⟩⟩
  | .unit,_,_,p,h=>by simp [cellsOf] at h
  | .slice t,h,_,_,_=>by cases h
  | .none,h,_,_,_=>by cases h
  | .pair a b,hf,x,p,h=>by
    simp only [flatY,Bool.and_eq_true] at hf
    simp only [cellsOf,List.mem_append] at h
    rcases h with h|h
    · exact flat_pv a hf.1 _ p h
    · exact flat_pv b hf.2 _ p h
theorem encT_len (t:Ty) (x:El t):(encT t x).length=t.size:=by simp [encT,cellsOf_size]
theorem encT_one {t:Ty} (h:flatY t=true) (x:El t):∀ v∈encT t x,v.oneCell'=true:=by
  intro v hv
  obtain ⟨p,hp,rfl⟩:=List.mem_map.1 hv
  exact one' (flat_pv t h x p hp).1
theorem place_lt {j i k n:Nat} (hj:j<n) (hi:i<k):j * k+i<n * k:=by
  have h1:(j+1) * k≤n * k:=Nat.mul_le_mul_right k hj
  rw [Nat.succ_mul] at h1;omega
theorem place_div {j i k:Nat} (hi:i<k):(j * k+i) / k=j:=by
  rw [Nat.mul_comm,Nat.mul_add_div (by omega),Nat.div_eq_of_lt hi,Nat.add_zero]
theorem place_mod {j i k:Nat} (hi:i<k):(j * k+i) % k=i:=by
  rw [Nat.mul_comm,Nat.mul_add_mod,Nat.mod_eq_of_lt hi]
theorem flat_get {t:Ty} [Inhabited (El t)] {r:List (El t)} {i j:Nat} {x:El t} {p:PV} (hx:r[i]?=some x) (hp:(cellsOf t x)[j]?=some p) :
    i * t.size+j<(flatK (encT t) t.size r.toArray).size∧(flatK (encT t) t.size r.toArray)[i * t.size+j]! = pvVal p:=by
  have hi:=(List.getElem?_eq_some_iff.1 hx).1
  have hj:j<t.size:=by have:=(List.getElem?_eq_some_iff.1 hp).1;rwa [cellsOf_size] at this
  have hT:i * t.size+j<r.toArray.size * t.size:=by simpa using place_lt hi hj
  refine ⟨by rw [size_flatK];exact hT,?_⟩
  rw [get_flatK _ _ _ _ hT,place_div hj,place_mod hj]
  have e1:r.toArray[i]! = x:=by rw [getElem!_pos r.toArray i (by simpa using hi)];simpa using (List.getElem?_eq_some_iff.1 hx).2
  rw [e1,getElem!_pos (encT t x) j (by rw [encT_len];exact hj)]
  simp only [encT,List.getElem_map]
  rw [(List.getElem?_eq_some_iff.1 hp).2]
theorem sortW_holds {α:Type} [Inhabited α] {enc:α→List Value} {k:Nat} {w:World} {blk off m:Nat} {dk:Array α} {os:Array Obj} (hg:gHolds w) (hne:∀ j∈gBlocks,j≠blk):gHolds (sortWorldK enc k w blk off m dk os):=by
  refine gHolds_same (fun j hj=>?_) hg
  have hlt:=gHolds_lt hg j hj
  show ((w.heap.modify blk _)++os)[j]?=w.heap[j]?
  rw [Array.getElem?_append_left (by simpa using hlt),Array.getElem?_modify,if_neg (fun e=>hne j hj e.symm)]
theorem enc_val {S:Nat→SL} {F:Nat→Prop} {w:World} {a b:Ty} (hfl:flatY (.pair a b)=true) (x:El (.pair a b)):Val S F w (valPV (.pair a b) x) (.agg (encT (.pair a b) x).toArray):=by
  refine .agg _ _ (by simp [encT]) (fun i p v hp hv=>?_) (fun i v hv=>?_)
  · simp only [encT,List.getElem?_toArray,List.getElem?_map,hp,Option.map_some,Option.some.injEq] at hv
    rw [← hv]
    exact ((flat_pv _ hfl x p (List.mem_of_getElem? hp)).2 S F w).1
  · simp only [encT,List.getElem?_toArray,List.getElem?_map] at hv
    cases hp:(cellsOf (.pair a b) x)[i]? with
    | none=>rw [hp] at hv;cases hv
    | some p =>
      rw [hp] at hv
      cases hv
      exact (flat_pv _ hfl x p (List.mem_of_getElem? hp)).1
theorem drew_grow {w w':World} (h1:w'.os=w.os) (h2:w'.tape=w.tape) (h3:w'.output=w.output) (h4:w.drawn≤w'.drawn) (h5:w.heap.size≤w'.heap.size) (h6:∀ k,k<w.heap.size→w'.heap[k]?=w.heap[k]?):∃ q os,w'=Go.Sort.grow (w.drewN q) os:=by
  refine ⟨w'.drawn - w.drawn,w'.heap.extract w.heap.size w'.heap.size,?_⟩
  have e:w'.heap=w.heap++w'.heap.extract w.heap.size w'.heap.size:=by
    apply Array.ext_getElem?
    intro i
    rw [Array.getElem?_append]
    split
    · rename_i hi;exact h6 i hi
    · rename_i hi
      rw [Array.getElem?_extract]
      split
      · congr 1;omega
      · exact Array.getElem?_eq_none (by omega)
  obtain ⟨hp,tp,dr,o,out⟩:=w'
  simp only at *
  subst h1;subst h2;subst h3
  show (⟨hp,w.tape,dr,w.os,w.output⟩:World)=⟨w.heap++_,w.tape,w.drawn+(dr - w.drawn),w.os,w.output⟩
  rw [show w.drawn+(dr - w.drawn)=dr by omega,← e]
theorem order_of {f:FuncId} {a b:Ty} (hfl:flatY (.pair a b)=true) {G:SgEl [.tree (.pair a b), .tree (.pair a b)]→Option (RtEl [.tree (.int .i64)]×OutEl [.tree (.pair a b), .tree (.pair a b)])} (h:@EntOk ⟨true⟩ P ⟨f,[.tree (.pair a b), .tree (.pair a b)],[.tree (.int .i64)],G⟩)
    {x y:El (.pair a b)} {c:Int} (hG:G (x,y,())=some ((c,()),((),(),()))) {W:World} (hg:gHolds W) :
    Calls P f #[.agg (encT (.pair a b) x).toArray, .agg (encT (.pair a b) y).toArray] W fun e w'=>e = .returned (.int .i64 c)∧∃ q os',w'=Go.Sort.grow (W.drewN q) os':=by
  obtain ⟨_,h2⟩:=h (x,y,()) _ hG
  have hR:Rel (fun _ => .unused) (fun k=>k∈gBlocks) W (heapOf [.tree (.pair a b), .tree (.pair a b)] (x,y,())):=by
    show Rel (fun _=>SL.unused) (fun k=>k∈gBlocks) W []
    exact ⟨fun b=>by simp [hget,SlotOk],fun b b' k h1=>(by simp [blkOf] at h1),fun k hk=>gHolds_lt hg k hk,⟨fun k hk=>hk,hg⟩⟩
  have hA:Args (fun _=>SL.unused) (fun k=>k∈gBlocks) W (argsOf [.tree (.pair a b), .tree (.pair a b)] (x,y,()) 0) #[.agg (encT (.pair a b) x).toArray, .agg (encT (.pair a b) y).toArray]:=by
    refine ⟨rfl,fun i p v hp hv=>?_⟩
    match i,hp,hv with
    | 0,hp,hv=>cases hp;cases hv;exact enc_val hfl x
    | 1,hp,hv=>cases hp;cases hv;exact enc_val hfl y
    | i+2,hp,hv=>simp at hv
  refine (h2 _ _ W _ hR hA).mono ?_
  rintro e w' ⟨v,S',F',rfl,_,hv,hAd⟩
  have e1:v = .int .i64 c:=val_int hv
  refine ⟨by rw [e1],drew_grow (@Adv.st ⟨true⟩ _ _ _ _ _ _ _ _ hAd).1 (@Adv.st ⟨true⟩ _ _ _ _ _ _ _ _ hAd).2.1 (@Adv.st ⟨true⟩ _ _ _ _ _ _ _ _ hAd).2.2.1 ((@Adv.st ⟨true⟩ _ _ _ _ _ _ _ _ hAd).2.2.2 rfl) (@Adv.sz ⟨true⟩ _ _ _ _ _ _ _ _ hAd) fun k hk=>@Adv.same ⟨true⟩ _ _ _ _ _ _ _ _ hAd k hk ?_⟩
  rintro ⟨b',z,hz,hw,_⟩
  have hz:hget ([]:Heap) b' = .live z:=hz
  simp [hget] at hz
theorem ent_sort {f g:FuncId} {t:Ty} [Inhabited (El t)] (hfl:flatY t=true) (hE:Enters P f) (sorted:List (El t)→List (El t)) (hlen:∀ l,(sorted l).length=l.length)
    (hcell:∀ (l:List (El t)) (blk off cap:Nat) (w:World),HoldsK (encT t) t.size w blk off l.toArray→blk<w.heap.size→l.length<4611686018427387904→gHolds w→(∀ k∈gBlocks,k≠blk) →
      Calls P f #[.slice (some ⟨blk,off,none⟩) l.length cap, .func (.func g) #[] #[]] w fun e w'=>e = .returned (.tuple #[])∧∃ n os,w'=sortWorldK (encT t) t.size w blk off n (sorted l).toArray os)
    (hnone:∀ A c w,Calls P f #[.slice A 0 c, .func (.func g) #[] #[]] w fun e w'=>e = .returned (.tuple #[])∧w'=w) :
    EntOk P ⟨f,[.own t, .fnv g []],[],fun x=>bif Nat.blt x.1.length 4611686018427387904 then some ((),(sorted x.1,((),()))) else none⟩:=by
  intro x y hy
  obtain ⟨l,cs,u⟩:=x
  obtain ⟨h0,hy⟩:=cond_some hy
  simp only [Option.some.injEq] at hy
  subst hy
  refine ⟨hE,?_⟩
  intro S F w vs hr hA
  have hlt:l.length<4611686018427387904:=Nat.le_of_ble_eq_true h0
  have hsz:vs.size=2:=hA.1
  obtain ⟨v0,v1,rfl⟩:∃ v0 v1,vs=#[v0,v1]:=by
    obtain ⟨q⟩:=vs
    match q,hsz with
    | [a,b],_=>exact ⟨a,b,rfl⟩
  have a0:Val S F w (.own 0) v0:=hA.2 0 _ v0 rfl rfl
  have a1:Val S F w (.fn g [] []) v1:=hA.2 1 _ v1 rfl rfl
  obtain rfl:v1 = .func (.func g) #[] #[]:=by
    cases a1 with
    | fn _ _ _ va vb la lb _ _=>rw [Array.eq_empty_of_size_eq_zero la,Array.eq_empty_of_size_eq_zero lb]
  have hH:heapOf [.own t, .fnv g []] (l,cs,u)=[.live (.arr t l true)]:=rfl
  rw [hH] at hr
  have hb:hget [Slot.live (.arr t l true)] 0 = .live (.arr t l true):=rfl
  have hres:encOut [.own t, .fnv g []] [] (l,cs,u) ((),(sorted l,((),())))=(.tup [],[.live (.arr t (sorted l) true)]):=rfl
  rw [hres]
  show Calls P f #[v0, .func (.func g) #[] #[]] w fun e w'=>∃ v S' F',e = .returned v∧Rel S' F' w' [.live (.arr t (sorted l) true)]∧Val S' F' w' (.tup []) v∧Adv S F w (heapOf [.own t, .fnv g []] (l,cs,u)) S' F' w' [.live (.arr t (sorted l) true)]
  rw [hH]
  have hT:∀ (S:Nat→SL) (F:Nat→Prop) (w:World),Val S F w (.tup []) (.tuple #[]):=fun S F w => .tup _ _ rfl fun i p v hp=>by simp at hp
  obtain ⟨a,cap,hS,hcap,hor,hsp⟩:=hget_arr hr hb
  obtain rfl:v0 = .slice a l.length cap:=by
    cases a0 with
    | own _ _ _ _ _ h=>rw [hS] at h;cases h;rfl
    | ownd _ _ h _=>rw [hS] at h;cases h
  by_cases hl:l=[]
  · subst hl
    have:sorted []=[]:=List.length_eq_zero_iff.1 (hlen [])
    rw [this]
    refine (hnone a cap w).mono ?_
    rintro e w' ⟨rfl,rfl⟩
    exact ⟨_,S,F,rfl,hr,hT _ _ _,Adv.refl _ _ _ _⟩
  · have hpos:0<l.length:=List.length_pos_iff.2 hl
    rcases hor with h0|⟨ad,rfl,hAr,hF1,hF2⟩
    · omega
    obtain ⟨g0,c,tt,fr,g1,g2,g3,g4,g5⟩:=hAr
    obtain ⟨blk,off,sp⟩:=ad
    simp only at g0 g1 g2 g5 hF1
    subst g0
    have hbk:blk<w.heap.size:=(Array.getElem?_eq_some_iff.1 g1).1
    have hcapk:l.length * t.size≤cap * t.size:=Nat.mul_le_mul_right _ hcap
    have hHo:HoldsK (encT t) t.size w blk off l.toArray:=by
      intro T hT'
      have hT2:T<l.length * t.size:=by simpa [size_flatK] using hT'
      obtain ⟨e1,e2,e3⟩:=split_lt hT2
      have hx:=List.getElem?_eq_getElem e1
      have hl2:T % t.size<(cellsOf t l[T / t.size]).length:=by rw [cellsOf_size];exact e2
      have hp:=List.getElem?_eq_getElem hl2
      obtain ⟨v,k1,k2⟩:=g5 _ _ _ _ hx hp
      obtain ⟨k3,k4⟩:=flat_get (t:=t) hx hp
      rw [e3] at k4
      have k5:=((flat_pv t hfl _ _ (List.mem_of_getElem? hp)).2 S F w).2 v k2
      have e4:off+T / t.size * t.size+T % t.size=off+T:=by omega
      rw [e4] at k1
      refine ⟨?_,?_⟩
      · show w.cell? ⟨blk,off+T,none⟩=some (id (flatK (encT t) t.size l.toArray)[T]!)
        rw [k4]
        simp [World.cell?,g1,k1,k5]
      · have:=g3 (off+T)
        simp only [World.frozen?,g1]
        have q0:off+T<c.size:=by omega
        have q3:=this q0
        by_cases q1:fr.1≤off+T
        · have q2:¬ off+T<fr.2:=fun h=>q3 ⟨q1,h⟩
          simp [q1,q2]
        · simp [q1]
    refine (hcell l blk off cap w hHo hbk hlt hr.gl.2 fun k hk e=>hF1 trivial (e ▸ hr.gl.1 k hk)).mono ?_
    rintro e w' ⟨rfl,n,os,rfl⟩
    generalize hr':sorted l=r
    have hrl:r.length=l.length:=hr' ▸ hlen l
    let c':Array Value:=putCells id off (flatK (encT t) t.size r.toArray) c
    let w1:World:=Go.Sort.putRowK (encT t) t.size (Go.Sort.ahead w n) blk off r.toArray
    have hw1:∀ k,w1.heap[k]?=if blk=k then some (.cells c' tt fr) else w.heap[k]?:=by
      intro k
      show (w.heap.modify blk _)[k]?=_
      rw [Array.getElem?_modify]
      by_cases hk:blk=k
      · subst hk
        rw [if_pos rfl,if_pos rfl,g1];rfl
      · rw [if_neg hk,if_neg hk]
    have hs1:w1.heap.size=w.heap.size:=by show (w.heap.modify blk _).size=_;simp
    have hc's:c'.size=c.size:=by simp [c',putCells]
    have hfs:(flatK (encT t) t.size r.toArray).size=l.length * t.size:=by rw [size_flatK];simp [hrl]
    have hbo:blkOf (S 0)=some blk:=by rw [hS];simp [blkOf];omega
    have hx1:Blk.wr (.arr t l true)=true:=rfl
    have hin:∀ i x j p,r[i]?=some x→(cellsOf t x)[j]?=some p→c'[off+i * t.size+j]?=some (pvVal p):=by
      intro i x j p hx hp
      obtain ⟨k3,k4⟩:=flat_get (t:=t) hx hp
      rw [hfs] at k3
      simp only [c',putCells,Array.getElem?_mapIdx]
      rw [Array.getElem?_eq_getElem (by omega:off+i * t.size+j<c.size),Option.map_some,if_pos ⟨by omega,by rw [hfs];omega⟩]
      rw [show off+i * t.size+j - off=i * t.size+j by omega,k4];rfl
    have hok:SlotOk S F w1 (.live (.arr t r true)) (S 0):=by
      rw [hS]
      simp only [SlotOk]
      refine ⟨by rw [hrl],trivial,hcap,fun _ ad h=>by cases h;rfl, .inr ⟨_,rfl,⟨rfl,c',tt,fr,by rw [hw1,if_pos rfl],by rw [hc's];exact g2,by rw [hc's];exact g3,fun j v hv=>?_,fun i x j p hx hp=>⟨_,hin i x j p hx hp,((flat_pv t hfl _ _ (List.mem_of_getElem? hp)).2 S F w1).1⟩⟩,hF1,hF2⟩⟩
      simp only [c',putCells,Array.getElem?_mapIdx] at hv
      cases hcj:c[j]? with
      | none=>rw [hcj] at hv;cases hv
      | some q =>
        rw [hcj] at hv
        simp only [Option.map_some,Option.some.injEq] at hv
        split at hv
        · subst hv
          rename_i hj
          have hT2:j - off<r.length * t.size:=by rw [hrl];rw [hfs] at hj;omega
          obtain ⟨e1,e2,e3⟩:=split_lt hT2
          have hx:=List.getElem?_eq_getElem e1
          have hl2:(j - off) % t.size<(cellsOf t r[(j - off) / t.size]).length:=by rw [cellsOf_size];exact e2
          have hp:=List.getElem?_eq_getElem hl2
          obtain ⟨_,k4⟩:=flat_get (t:=t) hx hp
          rw [e3] at k4
          rw [k4]
          exact (flat_pv t hfl _ _ (List.mem_of_getElem? hp)).1
        · subst hv;exact g4 j _ hcj
    obtain ⟨q1,q2⟩:=upd_rel (w':=w1) (y := .arr t r true) hr hb hx1 rfl hbo hs1 (fun k' hk'=>by rw [hw1,if_neg (fun h=>hk' h.symm)]) ⟨rfl,rfl,rfl,fun d=>Bool.noConfusion d⟩ hok
    have bel:BelD w1 (sortWorldK (encT t) t.size w blk off n r.toArray os):=by
      refine ⟨⟨rfl,rfl,rfl,?_,fun k hk=>?_⟩,fun d=>Bool.noConfusion d⟩
      · show w1.heap.size≤(w1.heap++os).size
        rw [Array.size_append];omega
      · show (w1.heap++os)[k]?=_
        rw [Array.getElem?_append_left hk]
    obtain ⟨q3,q4⟩:=below_rel q1 bel
    exact ⟨_,S,F,rfl,q3,hT _ _ _,q2.trans' q4⟩
end
end Go.Proofs.YtdcphpbimeoioaaGreatDoorE
end
section
set_option linter.unusedSectionVars false
namespace Go.Proofs.YtdcphpbimeoioaaGreatDoorE
open Go
set_option linter.unusedVariables false
section
variable {α β ω:Type}
@[simp] theorem ilt_eq (a b:Int):ilt a b=decide (a<b):=by unfold ilt;rfl
@[simp] theorem ile_eq (a b:Int):ile a b=decide (a≤b):=by unfold ile;rfl
@[simp] theorem ieq_eq (a b:Int):ieq a b=decide (a=b):=by unfold ieq;by_cases h:a=b<;>simp [h]
@[simp] theorem seq_eq (a b:ByteArray):seq a b=decide (a=b):=by
  unfold seq
  rw [ByteArray.toList_eq,ByteArray.toList_eq]
  by_cases h:a=b
  · subst h;simp
  · have:¬ a.data.toList=b.data.toList:=fun e=>h (ByteArray.ext (Array.ext' e))
    rw [decide_eq_false h];exact beq_eq_false_iff_ne.2 this
@[simp] theorem slt_eq (a b:ByteArray):slt a b=Op.bytesLess a.data.toList b.data.toList:=by unfold slt;rw [ByteArray.toList_eq,ByteArray.toList_eq]
@[simp] theorem ssize_eq (a:ByteArray):ssize a=(a.size:Int):=by unfold ssize;rfl
@[simp] theorem bindN_s (x:α) (K:α→Option β):bindN (some x) K=K x:=by unfold bindN;rfl
@[simp] theorem bindN_n (K:α→Option β):bindN none K=none:=by unfold bindN;rfl
@[simp] theorem bindL_inl (x:α) (K:α→Option β) (R:ω→Option β):bindL (some (.inl x)) K R=K x:=by unfold bindL;rfl
@[simp] theorem bindL_inr (x:ω) (K:α→Option β) (R:ω→Option β):bindL (some (.inr x)) K R=R x:=by unfold bindL;rfl
@[simp] theorem bindL_none (K:α→Option β) (R:ω→Option β):bindL none K R=none:=by unfold bindL;rfl
@[simp] theorem beqB_eq (a b:Bool):beqB a b=decide (a=b):=by cases a<;>cases b<;>rfl
theorem nth_get:∀ (xs:List α) (i:Nat),nth xs i=xs[i]?
  | [],_=>by simp [nth]
  | x ::r,0=>by simp [nth]
  | x ::r,n+1=>by simp [nth,nth_get r n]
@[simp] theorem lat_eq (xs:List α) (i:Nat):lat xs i=xs[i]?:=by unfold lat;exact nth_get xs i
@[simp] theorem win_eq (xs:List α) (i n:Nat):win xs i n=(xs.drop i).take n:=by unfold win;rfl
theorem wrap64 {n:Int} (h1 : -9223372036854775808≤n) (h2:n≤9223372036854775807):IntKind.i64.wrap n=n:=by
  simp [IntKind.wrap,IntKind.bits,IntKind.signed];omega
theorem iadd64 {a b:Int} (h1 : -9223372036854775808≤a+b) (h2:a+b≤9223372036854775807):iadd .i64 a b=a+b:=by unfold iadd;exact wrap64 h1 h2
theorem isub64 {a b:Int} (h1 : -9223372036854775808≤a - b) (h2:a - b≤9223372036854775807):isub .i64 a b=a - b:=by unfold isub;exact wrap64 h1 h2
theorem iadd1 {i:Nat} (h:i<4611686018427387904):iadd .i64 (i:Int) 1=((i+1:Nat):Int):=by rw [iadd64 (by omega) (by omega)];rfl
@[simp] theorem bindL_id (X:Option (Unit ⊕ ω)):bindL X (fun _=>some (Sum.inl ())) (fun b=>some (Sum.inr b))=X:=by
  rcases X with _|⟨⟨⟩|_⟩<;>simp
@[simp] theorem bindL_id1 (X:Option (α ⊕ ω)):bindL X (fun a=>some (Sum.inl a)) (fun b=>some (Sum.inr b))=X:=by
  rcases X with _|_|_<;>simp
@[simp] theorem bindL_id2 (X:Option (α ⊕ Unit)):bindL X (fun a=>some (Sum.inl a)) (fun _=>some (Sum.inr ()))=X:=by
  rcases X with _|_|⟨⟨⟩⟩<;>simp
theorem room_of {n bytes:Nat} (h:n * bytes≤70368744177664):room n bytes=true:=by unfold room;simpa using h
noncomputable def eqb (a b:α):Bool:=@decide (a=b) (Classical.propDecidable _)
@[simp] theorem eqb_refl (a:α):eqb a a=true:=by unfold eqb;exact @decide_eq_true _ (Classical.propDecidable _) rfl
theorem eqb_f {a b:α} (h:¬ a=b):eqb a b=false:=by unfold eqb;exact @decide_eq_false _ (Classical.propDecidable _) h
def Big (n:Nat):Prop:=1000000000000000≤n
@[reducible] def Lim (xs:List α):Prop:=xs.length≤140737488355328
theorem up_loop {ρ:Type} {m:Nat} {L:Nat→Int→Option ρ} {spec:Nat→ρ} (hend:∀ g,L (g+1) (m:Int)=some (spec m))
    (hstep:∀ g i,i<m→L g ((i+1:Nat):Int)=some (spec (i+1))→L (g+1) (i:Int)=some (spec i)):∀ k i g,i+k=m→k<g→L g (i:Int)=some (spec i)
  | 0,i,g,h,hg=>by
    obtain ⟨g,rfl⟩:∃ g',g=g'+1:=⟨g - 1,by omega⟩
    have:i=m:=by omega
    rw [this];exact hend g
  | k+1,i,g,h,hg=>by
    obtain ⟨g,rfl⟩:∃ g',g=g'+1:=⟨g - 1,by omega⟩
    exact hstep g i (by omega) (up_loop hend hstep k (i+1) g (by omega) (by omega))
theorem drop_eq {xs:List α} {i:Nat} (h:i<xs.length):xs.drop i=xs[i] ::xs.drop (i+1):=List.drop_eq_getElem_cons h
theorem drops_eq {a b:List α} {i:Nat} (h1:i<a.length) (h2:i<b.length):(a.drop i=b.drop i)↔(a[i]=b[i]∧a.drop (i+1)=b.drop (i+1)):=by rw [drop_eq h1,drop_eq h2,List.cons.injEq]
theorem any_drop {a:List α} {i:Nat} (p:α→Bool) (h1:i<a.length):(a.drop i).any p=(p a[i] || (a.drop (i+1)).any p):=by rw [drop_eq h1,List.any_cons]
theorem eq_loop [DecidableEq α] {a b:List α} (h:a.length=b.length) {L:Nat→Int→Option (Unit ⊕ (Bool×Unit))} (hend:∀ g,L (g+1) (a.length:Int)=some (.inl ()))
    (hstep:∀ g i (h1:i<a.length) (h2:i<b.length),L (g+1) (i:Int)=if a[i]=b[i] then L g ((i+1:Nat):Int) else some (.inr (false,()))) {g:Nat} (hg:a.length<g) :
    L g (0:Int)=some (if a=b then .inl () else .inr (false,())):=by
  have:=up_loop (L:=L) (m:=a.length) (spec:=fun i=>if a.drop i=b.drop i then .inl () else .inr (false,())) (fun g=>by
    rw [hend g]
    have e:b.drop a.length=[]:=by rw [h];exact List.drop_length
    simp [e]) (fun g i hi ih=>by
    rw [hstep g i hi (by omega),ih]
    simp only [drops_eq hi (b:=b) (by omega)]
    by_cases e:a[i]=b[i]<;>simp [e]) a.length 0 g (by omega) hg
  simpa using this
theorem any_loop {a:List α} (p:α→Bool) (c:Bool) {L:Nat→Int→Option (Unit ⊕ (Bool×Unit))} (hend:∀ g,L (g+1) (a.length:Int)=some (.inl ()))
    (hstep:∀ g i (h1:i<a.length),L (g+1) (i:Int)=bif p a[i] then some (.inr (c,())) else L g ((i+1:Nat):Int)) {g:Nat} (hg:a.length<g) :
    L g (0:Int)=some (bif a.any p then .inr (c,()) else .inl ()):=by
  have:=up_loop (L:=L) (m:=a.length) (spec:=fun i=>bif (a.drop i).any p then .inr (c,()) else .inl ()) (fun g=>by
    rw [hend g];simp) (fun g i hi ih=>by
    rw [hstep g i hi,ih,any_drop p hi]
    cases p a[i]<;>simp) a.length 0 g (by omega) hg
  simpa using this
theorem any_loop' {E R:Type} {a:List α} (p:α→Bool) (e:E) (r:R) {L:Nat→Int→Option (E ⊕ R)} (hend:∀ g,L (g+1) (a.length:Int)=some (.inl e))
    (hstep:∀ g i (h1:i<a.length),L (g+1) (i:Int)=bif p a[i] then some (.inr r) else L g ((i+1:Nat):Int)) {g:Nat} (hg:a.length<g) :
    L g (0:Int)=some (bif a.any p then .inr r else .inl e):=by
  have:=up_loop (L:=L) (m:=a.length) (spec:=fun i=>bif (a.drop i).any p then .inr r else .inl e) (fun g=>by
    rw [hend g];simp) (fun g i hi ih=>by
    rw [hstep g i hi,ih,any_drop p hi]
    cases p a[i]<;>simp) a.length 0 g (by omega) hg
  simpa using this
end
end Go.Proofs.YtdcphpbimeoioaaGreatDoorE
end
section
set_option linter.unusedSectionVars false
namespace Go.Proofs.YtdcphpbimeoioaaGreatDoorE
open Go Go.Proofs
set_option linter.unusedVariables false
set_option linter.unusedSimpArgs false
def cfRow (x y:El tRow):Int:=if x.1<y.1 then -1 else if y.1<x.1 then 1 else Lib.compareBytes x.2.1.data.toList y.2.1.data.toList
theorem ltRow (x y:El tRow):ltOf cfRow x y=(decide (x.1<y.1) || (decide (x.1=y.1) && Op.bytesLess x.2.1.data.toList y.2.1.data.toList)):=by
  have h:=ltOf_text (fun x:El tRow=>x.2.1.data.toList) x y
  unfold ltOf at h ⊢
  unfold cfRow
  by_cases h1:x.1<y.1
  · simp [h1]
  · by_cases h2:y.1<x.1
    · have h3:¬ x.1=y.1:=fun e=>Int.lt_irrefl y.1 (by rw [e] at h2;exact h2)
      simp [h1,h2,h3]
    · have h3:x.1=y.1:=Int.le_antisymm (Int.not_lt.1 h2) (Int.not_lt.1 h1)
      rw [if_neg h1,if_neg h2,h]
      simp [h1,h3]
theorem swoRow:Go.Sort.SWO (ltOf cfRow) where
  irrefl x:=by rw [ltRow,bl_irrefl];simp
  trans x y z h1 h2:=by
    rw [ltRow] at *
    simp only [Bool.or_eq_true,Bool.and_eq_true,decide_eq_true_eq] at *
    rcases h1 with h1|⟨h1,g1⟩
    · rcases h2 with h2|⟨h2,g2⟩
      · exact .inl (Int.lt_trans h1 h2)
      · exact .inl (h2 ▸ h1)
    · rcases h2 with h2|⟨h2,g2⟩
      · exact .inl (h1 ▸ h2)
      · exact .inr ⟨h1.trans h2,bl_trans _ _ _ g1 g2⟩
  ntrans x y z h1 h2:=by
    rw [ltRow] at *
    simp only [Bool.or_eq_false_iff,Bool.and_eq_false_iff,decide_eq_false_iff_not] at *
    obtain ⟨a1,b1⟩:=h1
    obtain ⟨a2,b2⟩:=h2
    have a3:¬ x.1<z.1:=Int.not_lt.2 (Int.le_trans (Int.not_lt.1 a2) (Int.not_lt.1 a1))
    refine ⟨a3,?_⟩
    by_cases e:x.1=z.1
    · right
      have e1:x.1=y.1:=Int.le_antisymm (by rw [e];exact Int.not_lt.1 a2) (Int.not_lt.1 a1)
      have e2:y.1=z.1:=e1.symm.trans e
      have c1:=b1.resolve_left (fun h=>h e1)
      have c2:=b2.resolve_left (fun h=>h e2)
      by_cases q1:x.2.1.data.toList=y.2.1.data.toList
      · rw [q1];exact c2
      · by_cases q2:y.2.1.data.toList=z.2.1.data.toList
        · rw [← q2];exact c1
        · have g1:=(bl_total _ _ q1).resolve_left (by rw [c1];simp)
          have g2:=(bl_total _ _ q2).resolve_left (by rw [c2];simp)
          exact bl_asymm _ _ (bl_trans _ _ _ g2 g1)
    · exact .inl e
theorem or2 (a b:Int):cmp_Or 10 ([a,b],())=some ((if a=0 then b else a,()),((),())):=by
  show cmp_Or (7+1+1+1) ([a,b],())=_
  have e1:iadd .i64 (0:Int) 1=1:=by rw [iadd64 (by omega) (by omega)];rfl
  have e2:iadd .i64 (1:Int) 1=2:=by rw [iadd64 (by omega) (by omega)];rfl
  by_cases h:a=0
  · by_cases h':b=0<;>simp [cmp_Or,cmp_Or_l0,ilen,e1,e2,h,h']
  · simp [cmp_Or,cmp_Or_l0,ilen,e1,e2,h]
theorem cmp2 (n:Nat) (a b:Int):cmp_Compare n (a,b,())=some ((if a<b then -1 else if b<a then 1 else 0,()),((),(),())):=by
  have e:∀ k:Int,cmp_isNaN n (k,())=some ((false,()),((),())):=fun k=>by simp [cmp_isNaN]
  unfold cmp_Compare
  rw [e a,e b]
  by_cases h:a<b
  · simp [h]
  · by_cases h':b<a<;>simp [h,h']
theorem row_Answer2_cf (x y:El tRow):row_Answer2 10 (x,y,())=some ((cfRow x y,()),((),(),())):=by
  have h1:=cmp2 10 x.1 y.1
  have h2:=or2 (if x.1<y.1 then -1 else if y.1<x.1 then 1 else 0) (Lib.compareBytes x.2.1.data.toList y.2.1.data.toList)
  simp only [row_Answer2,row_of,row_order,bindN_s,h1,s_Compare,h2]
  unfold cfRow
  by_cases p:x.1<y.1
  · simp [p]
  · by_cases q:y.1<x.1
    · simp [p,q]
    · simp [p,q]
end Go.Proofs.YtdcphpbimeoioaaGreatDoorE
end
section
set_option linter.unusedSectionVars false
namespace Go.Proofs.YtdcphpbimeoioaaGreatDoorE
open Go Go.RowKit Go.Shelf Go.Proofs
set_option linter.unusedVariables false
set_option linter.unusedSimpArgs false
theorem wpList_app {P:Program} {w:World} {ops:Array Oper} {rest:List Oper} {o:Oper} {a:Act} {Q:Exit→Act→World→Prop} (hgd:o.guard=none) (s x:Operand) (t t':TypeId) (ho:o.op = .call { callee := .builtin .append,args:=#[s,x],argTypes:=#[t,t'] })
    (v y u:Value) (w':World) (hs:a.eval s=v) (hx:a.eval x=y) (hr:(Builtin.append_ #[t,t'] o.type #[v,y]).run P w = .ok u w') (h:wpList P ops Q rest (a.put o.dst u) w'):wpList P ops Q (o ::rest) a w:=by
  refine wpList_plain hgd fun K hK=>?_
  unfold Oper.wp execOp
  simp only [ho,resolve,invoke,builtin,Sem.run_bind,Sem.run_pure,Result.andThen_ok,List.map_toArray,List.map_cons,List.map_nil,hs,hx,hr]
  exact hK _ _ h
theorem ent_clone {P:Program} {f:FuncId} {t:Ty} {tS e:TypeId} {z:List PV} {bytes:Nat} (ht:P.underlying tS=some (.slice e)) (hz:zeroPV P e=some z) (hs:szOf P e=some t.size) (hby:0<bytes) (hbe:P.bytesOf e=bytes) (hE:Enters P f)
    (hnone:∀ c w,Calls P f #[.slice none 0 c] w fun e w'=>e = .returned (.slice none 0 0)∧w'=w)
    (hsome:∀ ad n c w u w',(Builtin.append_ #[tS,tS] tS #[.slice (some ⟨w.heap.size,0,none⟩) 0 0, .slice (some ad) n c]).run P (w.alloc (.cells #[] e)) = .ok u w'→Calls P f #[.slice (some ad) n c] w fun e W=>e = .returned u∧W=w') :
    EntOk P ⟨f,[.tree (.slice t)],[.own t],fun x=>bif room x.1.length bytes then some ((x.1,()),((),())) else none⟩:=by
  intro x y hy
  obtain ⟨xs,u⟩:=x
  obtain ⟨h0,hy⟩:=cond_some hy
  simp only [Option.some.injEq] at hy
  subst hy
  refine ⟨hE,?_⟩
  intro S F w vs hr hA
  have hsz:vs.size=1:=hA.1
  obtain ⟨v0,rfl⟩:∃ v0,vs=#[v0]:=by
    obtain ⟨q⟩:=vs
    match q,hsz with
    | [a],_=>exact ⟨a,rfl⟩
  have a0:Val S F w (.lst t xs) v0:=hA.2 0 _ v0 rfl rfl
  have hr':Rel S F w []:=hr
  show Calls P f #[v0] w fun e w'=>∃ v S' F',e = .returned v∧Rel S' F' w' [.live (.arr t xs true)]∧Val S' F' w' (.own 0) v∧Adv S F w [] S' F' w' [.live (.arr t xs true)]
  have a0':=a0
  cases a0 with
  | lst _ _ a cap vf hc ha hsp hcell hv =>
    cases a with
    | none =>
      have:xs=[]:=by
        cases xs with
        | nil=>rfl
        | cons x r=>obtain ⟨_,h⟩:=ha (by simp);cases h
      subst this
      refine (hnone cap w).mono ?_
      rintro e w' ⟨rfl,rfl⟩
      obtain ⟨S',F',n1,n2,n3⟩:=own_none hr' (BelD.refl _) t none
      exact ⟨_,S',F',rfl,n1,n2,n3⟩
    | some ad =>
      have bel:BelD w (w.alloc (.cells #[] e)):=⟨(Below.refl _ w).alloc (Nat.le_refl _) _,fun _=>Nat.le_refl _⟩
      obtain ⟨g1,g2⟩:=below_rel hr' bel
      obtain ⟨u',w',S',F',k1,k2,k3,k4⟩:=app_copy (ty:=tS) g1 (a0'.adv hr' g2) ht hz hs hby hbe h0 (some ⟨w.heap.size,0,none⟩)
      refine (hsome ad _ _ w u' w' k1).mono ?_
      rintro e w'' ⟨rfl,rfl⟩
      exact ⟨_,S',F',rfl,k2,k3,g2.trans' k4⟩
abbrev sl_SortTag_sg:List Sg:=[.own tTag, .fnv 254 []]
abbrev sl_SortTag_rs:List Rt:=[]
def sl_SortTag_cf (x y:El tTag):Int:=Lib.compareBytes x.1.data.toList y.1.data.toList
instance sl_SortTag_inh:Inhabited (El tTag):=by unfold tTag;infer_instance
theorem sl_SortTag_swo:Go.Sort.SWO (ltOf sl_SortTag_cf):=swo_text (fun x:El tTag=>x.1.data.toList)
def sl_SortTag_sorted (l:List (El tTag)):List (El tTag):=(Go.Sort.pdq (ltOf sl_SortTag_cf) l.toArray 0 l.toArray.size (Lib.bitLen l.toArray.size) true true).toList
def sl_SortTag (n:Nat) (x:SgEl sl_SortTag_sg):Option (RtEl sl_SortTag_rs×OutEl sl_SortTag_sg):=bif Nat.blt x.1.length 4611686018427387904 then some ((),(sl_SortTag_sorted x.1,((),()))) else none
abbrev sl_SortTag_ent (n:Nat):Ent:=⟨253,sl_SortTag_sg,sl_SortTag_rs,sl_SortTag n⟩
theorem sl_SortTag_len (l:List (El tTag)):(sl_SortTag_sorted l).length=l.length:=by
  have h:=Go.Sort.pdq_sorts (ltOf sl_SortTag_cf) sl_SortTag_swo l.toArray 0 l.toArray.size (Lib.bitLen l.toArray.size) true true (Nat.zero_le _) (Nat.le_refl _) (Or.inl rfl)
  have:=h.1.1
  unfold sl_SortTag_sorted
  rw [Array.length_toList,this];simp
set_option maxHeartbeats 1000000 in
theorem sl_SortTag_order (x y:El tTag) (W:World) (hg:gHolds W):Calls Tryz.prog 254 #[.agg #[.string x.1, .string x.2.1], .agg #[.string y.1, .string y.2.1]] W fun e w'=>e = .returned (.int .i64 (sl_SortTag_cf x y))∧∃ q os',w'=Go.Sort.grow (W.drewN q) os':=by
  have hcon:=fun W'=>Tryz.strings_Compare x.1 y.1 W'
  unfold sl_SortTag_cf
  generalize Lib.compareBytes x.1.data.toList y.1.data.toList=r at hcon ⊢
  go_enter Tryz.func254,Tryz.ntmps254
  go_wp2_with (go_at_call 118;refine (hcon _).mono ?_;rintro e w' ⟨rfl,rfl⟩)
  go_ret
  exact ⟨rfl,0,_,by rw [Go.Sort.alloc_eq_grow,Go.Sort.alloc_eq_grow,Go.Sort.grow_grow];rfl⟩
theorem sl_SortTag_ok (n:Nat):EntOk Tryz.prog (sl_SortTag_ent n) :=
  ent_sort rfl (enters Tryz.func253 (by kernel_rfl) (by kernel_rfl)) sl_SortTag_sorted sl_SortTag_len (fun l blk off cap w hH hblk hlt hg hne=>by
    have eg:∀ args w,(callFunc 254 args).run Tryz.prog w = .ok (.enter 254 args) w:=enters_of Tryz.func254 (by kernel_rfl) rfl
    have e:l.toArray.size=l.length:=by simp
    have hcon:=AnyQ.slices_SortFunc_eq Tryz.sort253 (Ty.size tTag) Tryz.isAgg187 Tryz.sizeOf187 (encT tTag) (encT_len tTag) (encT_one rfl) sl_SortTag_cf sl_SortTag_swo 254 #[] blk off cap l.toArray w eg (fun _ _ _ _ x y=>sl_SortTag_order x y _ (sortW_holds hg hne)) hH hblk (by rw [e];exact hlt)
    rw [e] at hcon
    refine hcon.mono ?_
    rintro e' w' ⟨rfl,n,os,rfl⟩
    exact ⟨rfl,n,os,by unfold sl_SortTag_sorted;rw [Array.toArray_toList,e]⟩) fun A c w=>AnyF.slices_SortFunc_none Tryz.sort253 A c _ w
abbrev sl_CloneTag_sg:List Sg:=[.tree (.slice tTag)]
abbrev sl_CloneTag_rs:List Rt:=[.own tTag]
def sl_CloneTag (n:Nat) (x:SgEl sl_CloneTag_sg):Option (RtEl sl_CloneTag_rs×OutEl sl_CloneTag_sg):=bif room x.1.length 32 then some ((x.1,()),((),())) else none
abbrev sl_CloneTag_ent (n:Nat):Ent:=⟨252,sl_CloneTag_sg,sl_CloneTag_rs,sl_CloneTag n⟩
theorem sl_CloneTag_none (c:Nat) (w:World):Calls Tryz.prog 252 #[.slice none 0 c] w fun e w'=>e = .returned (.slice none 0 0)∧w'=w:=by
  have hnil:=fun (W:World)=>Go.Lib.run_eql_slice_nil (P:=Tryz.prog) W 69 187 none 0 c 0 0 Tryz.underlying69
  simp only [Option.isNone_none] at hnil
  go_enter Tryz.func252,Tryz.ntmps252
  go_wp2
  go_ret
  exact ⟨rfl,rfl⟩
theorem sl_CloneTag_some (ad:Addr) (n c:Nat) (w:World) (u:Value) (w':World) (h:(Builtin.append_ #[69,69] 69 #[.slice (some ⟨w.heap.size,0,none⟩) 0 0, .slice (some ad) n c]).run Tryz.prog (w.alloc (.cells #[] 187)) = .ok u w') :
    Calls Tryz.prog 252 #[.slice (some ad) n c] w fun e W=>e = .returned u∧W=w':=by
  have hnil:=fun (W:World)=>Go.Lib.run_eql_slice_nil (P:=Tryz.prog) W 69 187 (some ad) n c 0 0 Tryz.underlying69
  simp only [Option.isNone_some] at hnil
  have A:Aside ((Builtin.append_ #[69,69] 69 #[.slice (some ⟨w.heap.size,0,none⟩) 0 0, .slice (some ad) n c]).run Tryz.prog (w.alloc (.cells #[] 187)) = .ok u w'):=h
  clear h
  go_enter Tryz.func252,Tryz.ntmps252
  go_wp2_with (at_builtin;refine wpList_app rfl _ _ _ _ rfl _ _ _ _ rfl rfl A.out ?_)
  go_wp2
  go_ret
  exact ⟨rfl,rfl⟩
theorem sl_CloneTag_ok (n:Nat):EntOk Tryz.prog (sl_CloneTag_ent n) :=
  ent_clone (t:=tTag) (z:=(zeroPV Tryz.prog 187).getD []) Tryz.underlying69 (by kernel_rfl) (by kernel_rfl) (by decide) (by kernel_rfl) (enters Tryz.func252 (by kernel_rfl) (by kernel_rfl)) sl_CloneTag_none sl_CloneTag_some
abbrev sl_SortRow_sg:List Sg:=[.own tRow, .fnv 126 []]
abbrev sl_SortRow_rs:List Rt:=[]
def sl_SortRow_cf (x y:El tRow):Int:=cfRow x y
instance sl_SortRow_inh:Inhabited (El tRow):=by unfold tRow;infer_instance
theorem sl_SortRow_swo:Go.Sort.SWO (ltOf sl_SortRow_cf):=swoRow
def sl_SortRow_sorted (l:List (El tRow)):List (El tRow):=(Go.Sort.pdq (ltOf sl_SortRow_cf) l.toArray 0 l.toArray.size (Lib.bitLen l.toArray.size) true true).toList
def sl_SortRow (n:Nat) (x:SgEl sl_SortRow_sg):Option (RtEl sl_SortRow_rs×OutEl sl_SortRow_sg):=bif Nat.blt x.1.length 4611686018427387904 then some ((),(sl_SortRow_sorted x.1,((),()))) else none
abbrev sl_SortRow_ent (n:Nat):Ent:=⟨125,sl_SortRow_sg,sl_SortRow_rs,sl_SortRow n⟩
theorem sl_SortRow_len (l:List (El tRow)):(sl_SortRow_sorted l).length=l.length:=by
  have h:=Go.Sort.pdq_sorts (ltOf sl_SortRow_cf) sl_SortRow_swo l.toArray 0 l.toArray.size (Lib.bitLen l.toArray.size) true true (Nat.zero_le _) (Nat.le_refl _) (Or.inl rfl)
  have:=h.1.1
  unfold sl_SortRow_sorted
  rw [Array.length_toList,this];simp
set_option maxHeartbeats 1000000 in
theorem sl_SortRow_order (x y:El tRow) (W:World) (hg:gHolds W):Calls Tryz.prog 126 #[.agg #[.int .i64 x.1, .string x.2.1, .int .i64 x.2.2.1.1, .bool x.2.2.1.2.1], .agg #[.int .i64 y.1, .string y.2.1, .int .i64 y.2.2.1.1, .bool y.2.2.1.2.1]] W fun e w'=>e = .returned (.int .i64 (sl_SortRow_cf x y))∧∃ q os',w'=Go.Sort.grow (W.drewN q) os':=by
  exact order_of rfl (@row_Answer2_ok ⟨true⟩ 10) (row_Answer2_cf x y) hg
theorem sl_SortRow_ok (n:Nat):EntOk Tryz.prog (sl_SortRow_ent n) :=
  ent_sort rfl (enters Tryz.func125 (by kernel_rfl) (by kernel_rfl)) sl_SortRow_sorted sl_SortRow_len (fun l blk off cap w hH hblk hlt hg hne=>by
    have eg:∀ args w,(callFunc 126 args).run Tryz.prog w = .ok (.enter 126 args) w:=enters_of Tryz.func126 (by kernel_rfl) rfl
    have e:l.toArray.size=l.length:=by simp
    have hcon:=AnyQ.slices_SortFunc_eq Tryz.sort125 (Ty.size tRow) Tryz.isAgg86 Tryz.sizeOf86 (encT tRow) (encT_len tRow) (encT_one rfl) sl_SortRow_cf sl_SortRow_swo 126 #[] blk off cap l.toArray w eg (fun _ _ _ _ x y=>sl_SortRow_order x y _ (sortW_holds hg hne)) hH hblk (by rw [e];exact hlt)
    rw [e] at hcon
    refine hcon.mono ?_
    rintro e' w' ⟨rfl,n,os,rfl⟩
    exact ⟨rfl,n,os,by unfold sl_SortRow_sorted;rw [Array.toArray_toList,e]⟩) fun A c w=>AnyF.slices_SortFunc_none Tryz.sort125 A c _ w
abbrev sl_CloneItem_sg:List Sg:=[.tree (.slice tItem)]
abbrev sl_CloneItem_rs:List Rt:=[.own tItem]
def sl_CloneItem (n:Nat) (x:SgEl sl_CloneItem_sg):Option (RtEl sl_CloneItem_rs×OutEl sl_CloneItem_sg):=bif room x.1.length 64 then some ((x.1,()),((),())) else none
abbrev sl_CloneItem_ent (n:Nat):Ent:=⟨115,sl_CloneItem_sg,sl_CloneItem_rs,sl_CloneItem n⟩
theorem sl_CloneItem_none (c:Nat) (w:World):Calls Tryz.prog 115 #[.slice none 0 c] w fun e w'=>e = .returned (.slice none 0 0)∧w'=w:=by
  have hnil:=fun (W:World)=>Go.Lib.run_eql_slice_nil (P:=Tryz.prog) W 26 96 none 0 c 0 0 Tryz.underlying26
  simp only [Option.isNone_none] at hnil
  go_enter Tryz.func115,Tryz.ntmps115
  go_wp2
  go_ret
  exact ⟨rfl,rfl⟩
theorem sl_CloneItem_some (ad:Addr) (n c:Nat) (w:World) (u:Value) (w':World) (h:(Builtin.append_ #[26,26] 26 #[.slice (some ⟨w.heap.size,0,none⟩) 0 0, .slice (some ad) n c]).run Tryz.prog (w.alloc (.cells #[] 96)) = .ok u w') :
    Calls Tryz.prog 115 #[.slice (some ad) n c] w fun e W=>e = .returned u∧W=w':=by
  have hnil:=fun (W:World)=>Go.Lib.run_eql_slice_nil (P:=Tryz.prog) W 26 96 (some ad) n c 0 0 Tryz.underlying26
  simp only [Option.isNone_some] at hnil
  have A:Aside ((Builtin.append_ #[26,26] 26 #[.slice (some ⟨w.heap.size,0,none⟩) 0 0, .slice (some ad) n c]).run Tryz.prog (w.alloc (.cells #[] 96)) = .ok u w'):=h
  clear h
  go_enter Tryz.func115,Tryz.ntmps115
  go_wp2_with (at_builtin;refine wpList_app rfl _ _ _ _ rfl _ _ _ _ rfl rfl A.out ?_)
  go_wp2
  go_ret
  exact ⟨rfl,rfl⟩
theorem sl_CloneItem_ok (n:Nat):EntOk Tryz.prog (sl_CloneItem_ent n) :=
  ent_clone (t:=tItem) (z:=(zeroPV Tryz.prog 96).getD []) Tryz.underlying26 (by kernel_rfl) (by kernel_rfl) (by decide) (by kernel_rfl) (enters Tryz.func115 (by kernel_rfl) (by kernel_rfl)) sl_CloneItem_none sl_CloneItem_some
end Go.Proofs.YtdcphpbimeoioaaGreatDoorE
end
section
set_option linter.unusedSectionVars false
namespace Go.Proofs.YtdcphpbimeoioaaGreatDoorE
open Go Go.Proofs
set_option linter.unusedVariables false
set_option linter.unusedSimpArgs false
abbrev TG:=El tTag
theorem drop_cons {α:Type} (l:List α) (i:Nat) (h:i<l.length):l.drop i=l[i] ::l.drop (i+1):=List.drop_eq_getElem_cons h
def bl (s:ByteArray):List UInt8:=s.data.toList
theorem bl_inj {a b:ByteArray} (h:bl a=bl b):a=b:=by cases a;cases b;simpa [bl] using h
theorem bl_mk (l:List UInt8):bl ⟨l.toArray⟩=l:=rfl
theorem mk_bl (s:ByteArray):(⟨(bl s).toArray⟩:ByteArray)=s:=rfl
theorem size_bl (s:ByteArray):(bl s).length=s.size:=by show s.data.toList.length=s.data.size;exact Array.length_toList
theorem bl_append (a b:ByteArray):bl (a++b)=bl a++bl b:=by simp [bl,ByteArray.data_append]
theorem bl_extract (s:ByteArray) (i j:Nat):bl (s.extract i j)=((bl s).take j).drop i:=by
  simp [bl,ByteArray.data_extract,Array.toList_extract,List.extract_eq_take_drop,List.drop_take]
theorem u8_int (a b:UInt8):((a.toNat:Int)=(b.toNat:Int))↔a=b:=by
  constructor
  · intro h;exact UInt8.toNat_inj.1 (by omega)
  · rintro rfl;rfl
theorem empty_bl:bl (⟨#[]⟩:ByteArray)=[]:=rfl
theorem idx_cons (b c:UInt8) (l:List UInt8):Lib.indexByte (b ::l) c=if b=c then 0 else if Lib.indexByte l c = -1 then -1 else Lib.indexByte l c+1:=by
  simp [Lib.indexByte]
theorem idx_lt:∀ (l:List UInt8) (c:UInt8),Lib.indexByte l c<(l.length:Int) ∧ -1≤Lib.indexByte l c
  | [],c=>by simp [Lib.indexByte]
  | b ::l,c=>by
    have:=idx_lt l c
    rw [idx_cons,List.length_cons]
    split
    · omega
    · split<;>omega
def splitL (c:UInt8):List UInt8→List (List UInt8)
  | []=>[[]]
  | b ::l=>if b=c then [] ::splitL c l else match splitL c l with
    | []=>[[b]]
    | h ::t=>(b ::h) ::t
theorem splitL_ne (c:UInt8):∀ l,splitL c l≠[]
  | []=>by simp [splitL]
  | b ::l=>by
    unfold splitL
    split
    · simp
    · split<;>simp
theorem splitL_len (c:UInt8):∀ l,(splitL c l).length≤l.length+1
  | []=>by simp [splitL]
  | b ::l=>by
    have:=splitL_len c l
    unfold splitL
    split
    · simp;omega
    · split
      · simp
      · rename_i h t e
        rw [e] at this
        simp at *;omega
theorem splitL_idx (c:UInt8):∀ l,splitL c l=if Lib.indexByte l c<0 then [l] else l.take (Lib.indexByte l c).toNat ::splitL c (l.drop ((Lib.indexByte l c).toNat+1))
  | []=>by simp [splitL,Lib.indexByte]
  | b ::l=>by
    have ih:=splitL_idx c l
    have h2:=idx_lt l c
    rw [splitL,idx_cons]
    by_cases hb:b=c
    · simp [hb]
    · rw [if_neg hb,if_neg hb]
      by_cases h:Lib.indexByte l c = -1
      · rw [h] at ih
        simp at ih
        rw [if_pos h,ih]
        simp
      · rw [if_neg h]
        rw [if_neg (by omega)] at ih
        rw [if_neg (by omega),ih]
        obtain ⟨m,hm⟩:=Int.eq_ofNat_of_zero_le (show 0≤Lib.indexByte l c by omega)
        rw [hm]
        simp [show ((m:Int)+1).toNat=m+1 by omega]
def splitB (c:UInt8) (s:ByteArray):List ByteArray:=(splitL c (bl s)).map fun l=>⟨l.toArray⟩
theorem ext_take (s:ByteArray) (i:Nat):s.extract 0 i=⟨((bl s).take i).toArray⟩:=bl_inj (by rw [bl_extract,bl_mk ((bl s).take i)];simp)
theorem ext_drop (s:ByteArray) (i:Nat):s.extract i s.size=⟨((bl s).drop i).toArray⟩:=bl_inj (by rw [bl_extract,bl_mk ((bl s).drop i),List.take_of_length_le (by rw [size_bl];exact Nat.le_refl _)])
theorem ext_mid (s:ByteArray) (i j:Nat):s.extract i j=⟨(((bl s).take j).drop i).toArray⟩:=bl_inj (by rw [bl_extract,bl_mk (((bl s).take j).drop i)])
def glue (a:List UInt8):List (List UInt8)→List (List UInt8)
  | []=>[a]
  | h ::t=>(a++h) ::t
def smallB (b:UInt8):Bool:=decide (97≤b.toNat) && decide (b.toNat≤122)
def digitB (b:UInt8):Bool:=decide (48≤b.toNat) && decide (b.toNat≤57)
def inNameB (b:UInt8):Bool:=smallB b || digitB b || decide (b.toNat=95)
def inValB (b:UInt8):Bool:=smallB b || digitB b || decide (b.toNat=95) || decide (b.toNat=45) || decide (b.toNat=46)
def nameL (l:List UInt8):Bool:=decide (1≤l.length) && decide (l.length≤12) && smallB (l.headD 0) && l.all inNameB
def valueL (l:List UInt8):Bool:=decide (1≤l.length) && decide (l.length≤12) && l.all inValB
theorem all_u8 {p:UInt8→Bool} (h:∀ n:Fin 256,p (UInt8.ofNat n.val)=true) (b:UInt8):p b=true:=by
  have:=h ⟨b.toNat,b.toNat_lt⟩
  simpa using this
theorem in_name (b:UInt8):([97,98,99,100,101,102,103,104,105,106,107,108,109,110,111,112,113,114,115,116,117,118,119,120,121,122,48,49,50,51,52,53,54,55,56,57,95]:List UInt8).contains b=inNameB b:=by
  have:=all_u8 (p:=fun b=>([97,98,99,100,101,102,103,104,105,106,107,108,109,110,111,112,113,114,115,116,117,118,119,120,121,122,48,49,50,51,52,53,54,55,56,57,95]:List UInt8).contains b ==inNameB b) (by decide+kernel) b
  simpa using this
theorem in_val (b:UInt8):([97,98,99,100,101,102,103,104,105,106,107,108,109,110,111,112,113,114,115,116,117,118,119,120,121,122,48,49,50,51,52,53,54,55,56,57,95,45,46]:List UInt8).contains b=inValB b:=by
  have:=all_u8 (p:=fun b=>([97,98,99,100,101,102,103,104,105,106,107,108,109,110,111,112,113,114,115,116,117,118,119,120,121,122,48,49,50,51,52,53,54,55,56,57,95,45,46]:List UInt8).contains b ==inValB b) (by decide+kernel) b
  simpa using this
theorem in_small (b:UInt8):decide (0≤Lib.indexByte ([97,98,99,100,101,102,103,104,105,106,107,108,109,110,111,112,113,114,115,116,117,118,119,120,121,122]:List UInt8) b)=smallB b:=by
  have:=all_u8 (p:=fun b=>decide (0≤Lib.indexByte ([97,98,99,100,101,102,103,104,105,106,107,108,109,110,111,112,113,114,115,116,117,118,119,120,121,122]:List UInt8) b) ==smallB b) (by decide+kernel) b
  simpa using this
theorem dw_nil (p:UInt8→Bool):∀ l:List UInt8,l.dropWhile p=[]↔∀ x∈l,p x=true
  | []=>by simp
  | a ::l=>by
    rw [List.dropWhile_cons]
    cases h:p a with
    | true=>simp [dw_nil p l,h]
    | false=>simp [h]
theorem dw_head (p:UInt8→Bool) (a:UInt8) (t:List UInt8):∀ l:List UInt8,l.dropWhile p=a ::t→p a=false
  | [],h=>by simp at h
  | b ::l,h=>by
    rw [List.dropWhile_cons] at h
    cases hb:p b with
    | true=>rw [if_pos hb] at h;exact dw_head p a t l h
    | false=>rw [if_neg (by simp [hb])] at h;cases h;exact hb
theorem trim_nil (l cs:List UInt8):Lib.trimS l cs=[]↔l.all (fun b=>cs.contains b)=true:=by
  unfold Lib.trimS Lib.trimLeftS Lib.trimRightS
  rw [List.all_eq_true]
  constructor
  · intro h
    rw [dw_nil] at h
    have e:l.reverse.dropWhile (cs.contains ·)=[]:=by
      cases hh:l.reverse.dropWhile (cs.contains ·) with
      | nil=>rfl
      | cons a t =>
        have h1:=h a (by rw [hh];simp)
        have h2:=dw_head _ _ _ _ hh
        rw [h2] at h1;cases h1
    rw [dw_nil] at e
    intro x hx
    exact e x (by simpa using hx)
  · intro h
    have e:l.reverse.dropWhile (cs.contains ·)=[]:=by
      rw [dw_nil]
      intro x hx;exact h x (by simpa using hx)
    rw [e];rfl
def joinB (sep:ByteArray) (l:List ByteArray):ByteArray:=⟨(Lib.join (l.map bl) (bl sep)).toArray⟩
def nm (t:TG):List UInt8:=bl t.1
def mayT (t:TG):Bool:=nameL (bl t.1) && valueL (bl t.2.1)
def lessT (a b:TG):Bool:=Op.bytesLess (nm a) (nm b)
def insT (t:TG):List TG→Option (List TG)
  | []=>some [t]
  | u ::r=>if lessT u t=true then (insT t r).map (u ::·) else if nm u=nm t then none else some (t ::u ::r)
def insAll:List TG→List TG→Option (List TG)
  | acc,[]=>some acc
  | acc,t ::l=>(insT t acc).bind fun a=>insAll a l
def canonT (l:List TG):List TG×Int :=
  if l.all mayT=true then (if 4<l.length then ([],4) else match insAll [] l with|some o=>(o,0)|none=>([],5)) else ([],2)
def Strict (l:List TG):Prop:=l.Pairwise (fun a b=>lessT a b=true)
theorem less_trans {a b c:TG} (h1:lessT a b=true) (h2:lessT b c=true):lessT a c=true:=bl_trans _ _ _ h1 h2
theorem less_asymm {a b:TG} (h:lessT a b=true):lessT b a=false:=bl_asymm _ _ h
theorem less_total {a b:TG} (h:nm a≠nm b):lessT a b=true∨lessT b a=true:=bl_total _ _ h
theorem less_ne {a b:TG} (h:lessT a b=true):nm a≠nm b:=by
  intro e
  unfold lessT at h
  rw [e,bl_irrefl] at h;cases h
theorem strict_nodup {l:List TG} (h:Strict l):(l.map nm).Nodup:=by
  unfold Strict at h
  rw [List.Nodup,List.pairwise_map]
  exact h.imp (fun h=>less_ne h)
theorem insT_some (t:TG):∀ (l o:List TG),insT t l=some o→Strict l→Strict o∧o.Perm (t ::l)
  | [],o,h,_=>by
    simp [insT] at h;subst h
    exact ⟨List.pairwise_singleton _ _,List.Perm.refl _⟩
  | u ::r,o,h,hs=>by
    rw [insT] at h
    rw [Strict,List.pairwise_cons] at hs
    split at h
    · rename_i hu
      cases hr:insT t r with
      | none=>rw [hr] at h;cases h
      | some q =>
        rw [hr] at h
        simp at h;subst h
        obtain ⟨h1,h2⟩:=insT_some t r q hr hs.2
        refine ⟨?_,(List.Perm.cons u h2).trans (List.Perm.swap t u r)⟩
        rw [Strict,List.pairwise_cons]
        refine ⟨fun x hx=>?_,h1⟩
        rcases List.mem_cons.1 (h2.mem_iff.1 hx) with rfl|hx
        · exact hu
        · exact hs.1 x hx
    · rename_i hu
      split at h
      · cases h
      · rename_i hn
        simp at h;subst h
        have htu:lessT t u=true:=by
          rcases less_total (fun e=>hn e.symm) with h1|h1
          · exact h1
          · exact absurd h1 hu
        refine ⟨?_,List.Perm.refl _⟩
        rw [Strict,List.pairwise_cons]
        refine ⟨fun x hx=>?_,by rw [List.pairwise_cons];exact hs⟩
        rcases List.mem_cons.1 hx with rfl|hx
        · exact htu
        · exact less_trans htu (hs.1 x hx)
theorem insT_none (t:TG):∀ (l:List TG),insT t l=none→nm t∈l.map nm
  | [],h=>by simp [insT] at h
  | u ::r,h=>by
    rw [insT] at h
    split at h
    · cases hr:insT t r with
      | none=>exact List.mem_cons_of_mem _ (insT_none t r hr)
      | some q=>rw [hr] at h;cases h
    · split at h
      · rename_i hn;rw [List.map_cons,hn];exact List.mem_cons_self
      · cases h
theorem insAll_some:∀ (l acc o:List TG),insAll acc l=some o→Strict acc→Strict o∧o.Perm (acc++l)
  | [],acc,o,h,hs=>by
    simp [insAll] at h;subst h
    exact ⟨hs,by simp⟩
  | t ::l,acc,o,h,hs=>by
    rw [insAll] at h
    cases hr:insT t acc with
    | none=>rw [hr] at h;cases h
    | some q =>
      rw [hr] at h
      obtain ⟨h1,h2⟩:=insT_some t acc q hr hs
      obtain ⟨h3,h4⟩:=insAll_some l q o h h1
      refine ⟨h3,h4.trans ((h2.append_right l).trans ?_)⟩
      exact (List.perm_middle).symm
theorem insAll_none:∀ (l acc:List TG),insAll acc l=none→Strict acc→¬ ((acc++l).map nm).Nodup
  | [],acc,h,hs=>by simp [insAll] at h
  | t ::l,acc,h,hs=>by
    rw [insAll] at h
    cases hr:insT t acc with
    | none =>
      have hm:=insT_none t acc hr
      intro hn
      rw [List.map_append,List.map_cons,List.nodup_append] at hn
      exact hn.2.2 _ hm _ List.mem_cons_self rfl
    | some q =>
      rw [hr] at h
      obtain ⟨h1,h2⟩:=insT_some t acc q hr hs
      have h3:=insAll_none l q h h1
      intro hn
      refine h3 ?_
      have hp:(q++l).Perm (acc++t ::l):=(h2.append_right l).trans (List.perm_middle).symm
      exact ((hp.map nm).nodup_iff).2 hn
theorem strict_unique:∀ {a b:List TG},Strict a→Strict b→a.Perm b→a=b
  | [],b,_,_,hp=>by rw [List.nil_perm.1 hp]
  | x ::a,[],_,_,hp=>by have:=hp.length_eq;simp at this
  | x ::a,y ::b,ha,hb,hp=>by
    rw [Strict,List.pairwise_cons] at ha hb
    have hxy:x=y:=by
      rcases List.mem_cons.1 (hp.mem_iff.1 List.mem_cons_self) with h|h
      · exact h
      · rcases List.mem_cons.1 (hp.mem_iff.2 (List.mem_cons_self (a:=y))) with h2|h2
        · exact h2.symm
        · have h3:=hb.1 x h
          have h4:=ha.1 y h2
          rw [less_asymm h3] at h4;cases h4
    subst hxy
    rw [strict_unique ha.2 hb.2 (List.Perm.cons_inv hp)]
abbrev srt (l:List TG):List TG:=sl_SortTag_sorted l
theorem cf_lt (x y:TG):Go.Proofs.ltOf sl_SortTag_cf x y=lessT x y:=ltOf_text (fun t:TG=>bl t.1) x y
theorem srt_spec (l:List TG):(srt l).Perm l∧(srt l).Pairwise (fun a b=>lessT b a=false):=by
  have h:=Go.Sort.pdq_sorts (Go.Proofs.ltOf sl_SortTag_cf) sl_SortTag_swo l.toArray 0 l.toArray.size (Lib.bitLen l.toArray.size) true true (Nat.zero_le _) (Nat.le_refl _) (.inl rfl)
  unfold srt sl_SortTag_sorted
  generalize Go.Sort.pdq (Go.Proofs.ltOf sl_SortTag_cf) l.toArray 0 l.toArray.size (Lib.bitLen l.toArray.size) true true=q at h
  obtain ⟨⟨h1,h2,h3⟩,h4⟩:=h
  constructor
  · have e1:q.extract 0 l.toArray.size=q:=by rw [← h1];simp
    have e2:l.toArray.extract 0 l.toArray.size=l.toArray:=by simp
    rw [e1,e2] at h3;simpa using h3
  · rw [List.pairwise_iff_getElem]
    intro i j hi hj hij
    have hi':i<q.size:=by simpa using hi
    have hj':j<q.size:=by simpa using hj
    have:=h4 i j (Nat.zero_le _) hij (by rw [← h1];exact hj')
    rw [getElem!_pos q j hj',getElem!_pos q i hi',cf_lt] at this
    simpa using this
def adj:List TG→Bool
  | a ::b ::r=>decide (nm a=nm b) || adj (b ::r)
  | _=>false
theorem adj_strict:∀ l:List TG,l.Pairwise (fun a b=>lessT b a=false)→adj l=false→Strict l
  | [],_,_=>List.Pairwise.nil
  | [a],_,_=>List.pairwise_singleton _ _
  | a ::b ::r,h,ha=>by
    rw [adj,Bool.or_eq_false_iff] at ha
    rw [List.pairwise_cons] at h
    have ih:=adj_strict (b ::r) h.2 ha.2
    have hne:nm a≠nm b:=by simpa using ha.1
    have hab:lessT a b=true:=by
      rcases less_total hne with h1|h1
      · exact h1
      · rw [h.1 b List.mem_cons_self] at h1;cases h1
    rw [Strict,List.pairwise_cons]
    refine ⟨fun x hx=>?_,ih⟩
    rcases List.mem_cons.1 hx with rfl|hx
    · exact hab
    · rw [Strict,List.pairwise_cons] at ih
      exact less_trans hab (ih.1 x hx)
theorem adj_dup:∀ l:List TG,adj l=true→¬ (l.map nm).Nodup
  | [],h=>by simp [adj] at h
  | [a],h=>by simp [adj] at h
  | a ::b ::r,h=>by
    rw [adj,Bool.or_eq_true] at h
    intro hn
    rw [List.map_cons,List.nodup_cons] at hn
    rcases h with h|h
    · exact hn.1 (by rw [of_decide_eq_true h];simp)
    · exact adj_dup (b ::r) h hn.2
theorem canon_scan (l:List TG):(if adj (srt l)=true then (([]:List TG),(5:Int)) else (srt l,0))=(match insAll [] l with|some o=>(o,0)|none=>([],5)):=by
  obtain ⟨hp,hs⟩:=srt_spec l
  cases h:insAll [] l with
  | some o =>
    obtain ⟨h1,h2⟩:=insAll_some l [] o h List.Pairwise.nil
    rw [List.nil_append] at h2
    cases ha:adj (srt l) with
    | true =>
      exact absurd (((hp.trans h2.symm).map nm).nodup_iff.2 (strict_nodup h1)) (adj_dup _ ha)
    | false =>
      rw [if_neg (by simp),strict_unique (adj_strict _ hs ha) h1 (hp.trans h2.symm)]
  | none =>
    have hn:=insAll_none l [] h List.Pairwise.nil
    rw [List.nil_append] at hn
    cases ha:adj (srt l) with
    | true=>rw [if_pos rfl]
    | false=>exact absurd ((hp.map nm).nodup_iff.1 (strict_nodup (adj_strict _ hs ha))) hn
theorem adj_drop (l:List TG) (i:Nat) (h:i+1<l.length):adj (l.drop i)=(decide (nm l[i]=nm l[i+1]) || adj (l.drop (i+1))):=by
  rw [drop_cons l i (by omega),drop_cons l (i+1) h,adj]
def mkB (l:List UInt8):ByteArray:=⟨l.toArray⟩
theorem bl_mkB (l:List UInt8):bl (mkB l)=l:=rfl
theorem mkB_bl (s:ByteArray):mkB (bl s)=s:=rfl
theorem size_mkB (l:List UInt8):(mkB l).size=l.length:=by rw [← size_bl,bl_mkB]
abbrev tl (sep:List UInt8) (l:List (List UInt8)):List UInt8:=Lib.joinTail sep l
theorem tl_cons (sep x:List UInt8) (l:List (List UInt8)):tl sep (x ::l)=sep++x++tl sep l:=by simp [Lib.joinTail]
theorem joinB_nil (sep:ByteArray):joinB sep []=⟨#[]⟩:=rfl
theorem joinB_cons (sep x:ByteArray) (l:List ByteArray):bl (joinB sep (x ::l))=bl x++tl (bl sep) (l.map bl):=by
  unfold joinB;rw [bl_mk,List.map_cons,Lib.join_cons]
theorem tl_len (sep:List UInt8) (B:Nat):∀ l:List (List UInt8),(∀ x∈l,x.length≤B)→(tl sep l).length≤l.length * (sep.length+B)
  | [],_=>by simp [Lib.joinTail]
  | x ::l,h=>by
    have ih:=tl_len sep B l (fun y hy=>h y (List.mem_cons_of_mem _ hy))
    have h0:=h x List.mem_cons_self
    rw [tl_cons,List.length_append,List.length_append,List.length_cons,Nat.add_mul];omega
theorem joinB_len (sep:ByteArray) (B:Nat) (l:List ByteArray) (h:∀ x∈l,(bl x).length≤B):(bl (joinB sep l)).length≤l.length * ((bl sep).length+B):=by
  cases l with
  | nil=>simp [joinB_nil,empty_bl]
  | cons x l =>
    have ih:=tl_len (bl sep) B (l.map bl) (by
      intro y hy
      obtain ⟨z,hz,rfl⟩:=List.mem_map.1 hy
      exact h z (List.mem_cons_of_mem _ hz))
    have h0:=h x List.mem_cons_self
    rw [joinB_cons,List.length_append,List.length_cons,Nat.add_mul]
    rw [List.length_map] at ih;omega
theorem join_split (c:UInt8):∀ l:List UInt8,Lib.join (splitL c l) [c]=l
  | []=>rfl
  | b ::l=>by
    have ih:=join_split c l
    rw [splitL]
    cases h:splitL c l with
    | nil=>exact absurd h (splitL_ne c l)
    | cons x t =>
      rw [h,Lib.join_cons] at ih
      by_cases hb:b=c
      · subst hb
        rw [if_pos rfl,Lib.join_cons]
        show []++tl [b] (x ::t)=_
        rw [tl_cons,List.append_assoc,ih];rfl
      · rw [if_neg hb,Lib.join_cons,List.cons_append,ih]
theorem joinB_split (c:UInt8) (s:ByteArray):joinB (mkB [c]) (splitB c s)=s:=by
  apply bl_inj
  unfold joinB splitB
  rw [bl_mk,bl_mkB,List.map_map]
  have:(bl ∘ fun l:List UInt8=>(⟨l.toArray⟩:ByteArray))=id:=by funext l;rfl
  rw [this,List.map_id,join_split]
def cutB (c:UInt8) (s:ByteArray):ByteArray×ByteArray×Bool :=
  if Lib.indexByte (bl s) c<0 then (s,⟨#[]⟩,false) else (s.extract 0 (Lib.indexByte (bl s) c).toNat,s.extract ((Lib.indexByte (bl s) c).toNat+1) s.size,true)
theorem split_cut (c:UInt8) (s:ByteArray):splitB c s=if (cutB c s).2.2=true then (cutB c s).1 ::splitB c (cutB c s).2.1 else [s]:=by
  have e:=splitL_idx c (bl s)
  unfold splitB cutB
  rw [e]
  by_cases h0:Lib.indexByte (bl s) c<0
  · rw [if_pos h0,if_pos h0];rfl
  · rw [if_neg h0,if_neg h0,if_pos rfl,ext_take,ext_drop,bl_mk ((bl s).drop ((Lib.indexByte (bl s) c).toNat+1))];rfl
theorem cut_size (c:UInt8) (s:ByteArray):(cutB c s).1.size≤s.size∧(cutB c s).2.1.size≤s.size:=by
  unfold cutB
  split
  · exact ⟨Nat.le_refl _,Nat.zero_le _⟩
  · constructor
    · rw [← size_bl,bl_extract,← size_bl s];simp;omega
    · rw [← size_bl,bl_extract,← size_bl s];simp
theorem splitB_size (c:UInt8) (s:ByteArray):∀ x∈splitB c s,x.size≤s.size:=by
  suffices h:∀ (l:List UInt8),∀ x∈splitL c l,x.length≤l.length by
    intro x hx
    unfold splitB at hx
    obtain ⟨y,hy,rfl⟩:=List.mem_map.1 hx
    have:=h _ _ hy
    rw [size_bl] at this
    rw [← size_bl,bl_mk];exact this
  intro l
  induction l with
  | nil=>intro x hx;simp [splitL] at hx;subst hx;simp
  | cons b l ih =>
    intro x hx
    rw [splitL] at hx
    split at hx
    · rcases List.mem_cons.1 hx with rfl|hx
      · simp
      · have:=ih x hx;simp;omega
    · split at hx
      · simp at hx;subst hx;simp
      · rename_i h t e
        rw [e] at ih
        rcases List.mem_cons.1 hx with rfl|hx
        · have:=ih h List.mem_cons_self;simp;omega
        · have:=ih x (List.mem_cons_of_mem _ hx);simp;omega
theorem splitB_len (c:UInt8) (s:ByteArray):(splitB c s).length≤s.size+1:=by
  unfold splitB
  rw [List.length_map,← size_bl];exact splitL_len c _
def pairB (t:TG):ByteArray:=joinB (mkB [61]) [t.1,t.2.1]
theorem bl_pairB (t:TG):bl (pairB t)=bl t.1++[61]++bl t.2.1:=by
  unfold pairB;rw [joinB_cons];simp [Lib.joinTail,bl_mkB]
def textT (l:List TG):ByteArray:=joinB (mkB [44]) (l.map pairB)
def Fit (l:List TG):Prop:=l.length≤1000∧∀ t∈l,t.1.size≤1000000∧t.2.1.size≤1000000
theorem fit_pair {l:List TG} (h:Fit l) (t:TG) (ht:t∈l):(bl (pairB t)).length≤2000001:=by
  have:=h.2 t ht
  rw [bl_pairB];simp [size_bl];omega
theorem fit_text {l:List TG} (h:Fit l):(bl (textT l)).length≤100000000000:=by
  have:=joinB_len (mkB [44]) 2000001 (l.map pairB) (by
    intro x hx
    obtain ⟨t,ht,rfl⟩:=List.mem_map.1 hx
    exact fit_pair h t ht)
  rw [List.length_map] at this
  refine Nat.le_trans this (Nat.le_trans (Nat.mul_le_mul_right _ h.1) ?_)
  rw [bl_mkB];simp
def pairsT:List ByteArray→Option (List TG)
  | []=>some []
  | x ::r=>if (cutB 61 x).2.2=true then (pairsT r).map ((((cutB 61 x).1,(cutB 61 x).2.1,()):TG) ::·) else none
def readT (acc:List TG) (o:Option (List TG)):List TG×Int:=o.elim ([],2) fun ps=>canonT (acc++ps)
def parseT (s:ByteArray):List TG×Int:=if bl s=[] then ([],0) else readT [] (pairsT (splitB 44 s))
def chainT:List TG→Bool
  | a ::b ::r=>lessT a b && chainT (b ::r)
  | _=>true
def rightT (l:List TG):Bool:=l.all mayT && (chainT l && decide (l.length≤4))
theorem chain_strict:∀ l:List TG,chainT l=true↔Strict l
  | []=>⟨fun _=>List.Pairwise.nil,fun _=>rfl⟩
  | [a]=>⟨fun _=>List.pairwise_singleton _ _,fun _=>rfl⟩
  | a ::b ::r=>by
    have ih:=chain_strict (b ::r)
    rw [chainT,Bool.and_eq_true,ih,Strict,Strict,List.pairwise_cons (a:=a)]
    constructor
    · rintro ⟨h1,h2⟩
      refine ⟨fun x hx=>?_,h2⟩
      rcases List.mem_cons.1 hx with rfl|hx
      · exact h1
      · rw [List.pairwise_cons] at h2
        exact less_trans h1 (h2.1 x hx)
    · rintro ⟨h1,h2⟩
      exact ⟨h1 b List.mem_cons_self,h2⟩
theorem right_iff (l:List TG):rightT l=true↔(l.all mayT=true∧Strict l∧l.length≤4):=by
  unfold rightT
  rw [Bool.and_eq_true,Bool.and_eq_true,chain_strict,decide_eq_true_eq]
theorem canonT_eq (l:List TG):canonT l=if l.all mayT=true then (if 4<l.length then ([],4) else (insAll [] l).elim ([],5) fun o=>(o,0)) else ([],2):=by
  unfold canonT
  cases insAll [] l<;>rfl
theorem canon_out (l:List TG):((canonT l).2=0∧rightT (canonT l).1=true∧(canonT l).1.Perm l)∨((canonT l).2≠0∧(canonT l).1=[]):=by
  rw [canonT_eq]
  by_cases h1:l.all mayT=true
  · rw [if_pos h1]
    by_cases h4:4<l.length
    · rw [if_pos h4];exact .inr ⟨by decide,rfl⟩
    · rw [if_neg h4]
      cases hh:insAll [] l with
      | none=>exact .inr ⟨by decide,rfl⟩
      | some o =>
        obtain ⟨h2,h3⟩:=insAll_some l [] o hh List.Pairwise.nil
        rw [List.nil_append] at h3
        refine .inl ⟨rfl,(right_iff o).2 ⟨?_,h2,?_⟩,h3⟩
        · rw [List.all_eq_true] at h1 ⊢
          exact fun x hx=>h1 x (h3.mem_iff.1 hx)
        · have:=h3.length_eq;omega
  · rw [if_neg h1];exact .inr ⟨by decide,rfl⟩
theorem name_no (l:List UInt8) (h:nameL l=true) (c:UInt8) (hc:inNameB c=false):c ∉ l:=by
  unfold nameL at h
  rw [Bool.and_eq_true,List.all_eq_true] at h
  intro hm
  have:=h.2 c hm
  rw [hc] at this;cases this
theorem value_no (l:List UInt8) (h:valueL l=true) (c:UInt8) (hc:inValB c=false):c ∉ l:=by
  unfold valueL at h
  rw [Bool.and_eq_true,List.all_eq_true] at h
  intro hm
  have:=h.2 c hm
  rw [hc] at this;cases this
theorem name_len (l:List UInt8) (h:nameL l=true):1≤l.length∧l.length≤12:=by
  unfold nameL at h
  simp only [Bool.and_eq_true,decide_eq_true_eq] at h
  exact ⟨h.1.1.1,h.1.1.2⟩
theorem value_len (l:List UInt8) (h:valueL l=true):1≤l.length∧l.length≤12:=by
  unfold valueL at h
  simp only [Bool.and_eq_true,decide_eq_true_eq] at h
  exact ⟨h.1.1,h.1.2⟩
theorem split_none (c:UInt8):∀ l:List UInt8,c ∉ l→splitL c l=[l]
  | [],_=>rfl
  | b ::l,h=>by
    have hb:b≠c:=fun e=>h (by rw [e];simp)
    rw [splitL,if_neg hb,split_none c l (fun k=>h (List.mem_cons_of_mem _ k))]
theorem split_app (c:UInt8) (y:List UInt8):∀ x:List UInt8,c ∉ x→splitL c (x++c ::y)=x ::splitL c y
  | [],_=>by rw [List.nil_append,splitL,if_pos rfl]
  | b ::x,h=>by
    have hb:b≠c:=fun e=>h (by rw [e];simp)
    rw [List.cons_append,splitL,if_neg hb,split_app c y x (fun k=>h (List.mem_cons_of_mem _ k))]
theorem split_join (c:UInt8):∀ (l:List (List UInt8)) (x:List UInt8),(∀ y∈x ::l,c ∉ y)→splitL c (Lib.join (x ::l) [c])=x ::l
  | [],x,h=>by
    rw [Lib.join_one];exact split_none c x (h x List.mem_cons_self)
  | z ::l,x,h=>by
    have ih:=split_join c l z (fun y hy=>h y (List.mem_cons_of_mem _ hy))
    rw [Lib.join_cons]
    show splitL c (x++tl [c] (z ::l))=_
    rw [tl_cons,List.append_assoc,show [c]++(z++tl [c] l)=c ::(z++tl [c] l) from rfl,split_app c _ x (h x List.mem_cons_self)]
    rw [Lib.join_cons] at ih
    rw [ih]
theorem may_parts {t:TG} (h:mayT t=true):nameL (bl t.1)=true∧valueL (bl t.2.1)=true:=by
  unfold mayT at h;rwa [Bool.and_eq_true] at h
theorem parse_out (s:ByteArray):((parseT s).2=0∧rightT (parseT s).1=true)∨((parseT s).2≠0∧(parseT s).1=[]):=by
  unfold parseT
  split
  · exact .inl ⟨rfl,rfl⟩
  · cases h:pairsT (splitB 44 s) with
    | none=>exact .inr ⟨by decide,rfl⟩
    | some ps =>
      show (canonT ([]++ps)).2=0∧_∨_
      rcases canon_out ([]++ps) with ⟨h1,h2,_⟩|h1
      · exact .inl ⟨h1,h2⟩
      · exact .inr h1
theorem right_fit {l:List TG} (h:rightT l=true):Fit l∧(bl (textT l)).length≤1000:=by
  obtain ⟨h1,h2,h3⟩:=(right_iff l).1 h
  rw [List.all_eq_true] at h1
  have hs:∀ t∈l,(bl t.1).length≤12∧(bl t.2.1).length≤12:=fun t ht=>⟨(name_len _ (may_parts (h1 t ht)).1).2,(value_len _ (may_parts (h1 t ht)).2).2⟩
  refine ⟨⟨by omega,fun t ht=>?_⟩,?_⟩
  · have:=hs t ht
    rw [size_bl,size_bl] at this;omega
  · have:=joinB_len (mkB [44]) 25 (l.map pairB) (by
      intro x hx
      obtain ⟨t,ht,rfl⟩:=List.mem_map.1 hx
      have:=hs t ht
      rw [bl_pairB];simp;omega)
    rw [List.length_map,bl_mkB] at this
    have h5:l.length * ([44]:List UInt8).length+l.length * 25≤1000:=by simp;omega
    rw [Nat.mul_add] at this
    exact Nat.le_trans this h5
end Go.Proofs.YtdcphpbimeoioaaGreatDoorE
end
