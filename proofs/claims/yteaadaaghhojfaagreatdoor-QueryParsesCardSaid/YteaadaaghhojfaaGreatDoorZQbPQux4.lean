import Derived.Test.YteaadaaghhojfaaGreatDoorZQbPQux0
import Derived.Test.YteaadaaghhojfaaGreatDoorZQbPQux2
import Derived.Test.YteaadaaghhojfaaGreatDoorZQbPQux3
namespace Go.Proofs.YteaadaaghhojfaaGreatDoor.PQu
open Go.RowKit Go.Proofs.YteaadaaghhojfaaGreatDoorW.PrintWords Go.Proofs.YteaadaaghhojfaaGreatDoorW.PrintLast Go.Proofs.YteaadaaghhojfaaGreatDoorW.PrintMore
attribute [local go_sem] max2_int min2_int max_two min_two max_three min_three max_four min_four
set_option linter.unusedVariables false
set_option linter.unusedSimpArgs false
set_option maxHeartbeats 8000000
set_option maxRecDepth 100000
def query_names.texts (l0:List ByteArray):List (List UInt8):=l0.map (·.data.toList)
def query_names.f (k:Nat) (l0:List ByteArray):Option Int:=if l0.length≤1000000000 then ((slices_ContainsFunc_string_by_query_names_1.f k l0).bind fun b=>(if b=true then some 2 else (if (l0.length:Int)>4 then some 4 else (if (Lib.compact (Go.Proofs.YteaadaaghhojfaaGreatDoorW.SV.sortedT (query_names.texts l0))).length<l0.length then some 5 else some 0)))) else none
theorem query_names.mono:∀ a0 k,LeO (query_names.f k a0) (query_names.f (k+1) a0):=by
 intro a0 k
 unfold query_names.f
 exact LeO.ite (LeO.bind (slices_ContainsFunc_string_by_query_names_1.mono a0 k) (fun _=>LeO.refl _)) (LeO.refl _)
theorem query_names.hold (l0:List ByteArray) (A0:Option Addr) (c0:Nat) (w:World) (hr0:Kd.C Kd.string w A0 l0.length l0):Go.Proofs.YteaadaaghhojfaaGreatDoorW.SV.Texts w.heap.size w (.slice A0 l0.length c0) (query_names.texts l0):=by
 by_cases h0:l0=[]
 ·subst h0
  exact .inl ⟨rfl,A0,c0,rfl⟩
 obtain ⟨bk,o,rfl,hcell,hbk⟩:=Go.Proofs.YteaadaaghhojfaaGreatDoorW.XW.C_strings hr0 h0
 refine .inr ⟨bk,o,c0,by simp [query_names.texts],hbk,fun j hj=>?_⟩
 have hj':j<l0.length:=by simpa [query_names.texts] using hj
 rw [hcell j _ (List.getElem?_eq_getElem hj')]
 simp [query_names.texts,Go.Proofs.encStr,hj']
theorem query_names.sorted (l0:List ByteArray) (A0:Option Addr) (c0:Nat) (w:World) (hr0:Kd.C Kd.string w A0 l0.length l0) (hl:l0.length≤1000000000) :
  Calls Tryz.prog 104 #[.func (.func 140) #[] #[.pointer (some ⟨w.heap.size,0,none⟩)]] (w.alloc (.cells #[.slice A0 l0.length c0] 23)) fun e W'=>∃ As ns cs,e = .returned (.slice As ns cs)∧Below w.heap.size w W' ∧
   ((l0=[]∧ns=0)∨(ns=(Go.Proofs.YteaadaaghhojfaaGreatDoorW.SV.sortedT (query_names.texts l0)).length∧ns≤cs∧∃ g,As=some ⟨g,0,none⟩∧w.heap.size≤g∧Go.Sort.Holds Go.Proofs.encStr W' g 0 (Go.Proofs.YteaadaaghhojfaaGreatDoorW.SV.sortedT (query_names.texts l0)).toArray)):=by
 have hB0:Below w.heap.size w (w.alloc (.cells #[.slice A0 l0.length c0] 23)):=below_alloc (Below.refl _ _) _
 have hsz:w.heap.size<(w.alloc (.cells #[.slice A0 l0.length c0] 23)).heap.size:=by show _<(w.heap.push _).size;simp
 have hI:=(query_names.hold l0 A0 c0 w hr0).below hB0
 have hI2:Go.Proofs.YteaadaaghhojfaaGreatDoorW.SV.Texts (w.alloc (.cells #[.slice A0 l0.length c0] 23)).heap.size (w.alloc (.cells #[.slice A0 l0.length c0] 23)) (.slice A0 l0.length c0) (query_names.texts l0):=by
  rcases hI with h|⟨b,o,cap,e,hb,hc⟩
  ·exact .inl h
  ·exact .inr ⟨b,o,cap,e,by omega,hc⟩
 refine (Go.Proofs.YteaadaaghhojfaaGreatDoorW.SV.sorted_calls w.heap.size _ (query_names.texts l0) (by simp [query_names.texts];omega) _ hsz ((blk_cell (blk_new w _) 0).trans rfl) hI2).mono ?_
 rintro e W' ⟨h,hb⟩
 have hb2:Below w.heap.size w W':=below_then hB0 hB0.size hb
 rcases h with ⟨hz,A,c,rfl⟩|⟨g,cap,rfl,hcap,hg,_,hH⟩
 ·exact ⟨A,0,c,rfl,hb2, .inl ⟨by simpa [query_names.texts] using hz,rfl⟩⟩
 ·exact ⟨_,_,_,rfl,hb2, .inr ⟨rfl,hcap,g,rfl,by omega,hH⟩⟩
theorem query_names.compact (l0:List ByteArray) (w W:World) (As:Option Addr) (ns cs:Nat) (hB:Below w.heap.size w W) (hl:l0.length≤1000000000) (hs:(l0=[]∧ns=0)∨(ns=(Go.Proofs.YteaadaaghhojfaaGreatDoorW.SV.sortedT (query_names.texts l0)).length∧ns≤cs∧∃ g,As=some ⟨g,0,none⟩∧w.heap.size≤g∧Go.Sort.Holds Go.Proofs.encStr W g 0 (Go.Proofs.YteaadaaghhojfaaGreatDoorW.SV.sortedT (query_names.texts l0)).toArray)) :
  Calls Tryz.prog 108 #[.slice As ns cs] W fun e W'=>∃ Ac cc,e = .returned (.slice Ac (Lib.compact (Go.Proofs.YteaadaaghhojfaaGreatDoorW.SV.sortedT (query_names.texts l0))).length cc)∧Below w.heap.size w W':=by
 rcases hs with ⟨rfl,rfl⟩|⟨rfl,hcs,g,rfl,hg,hH⟩
 ·refine (Tryz.slices_Compact_string_empty As cs W).mono ?_
  rintro e W' ⟨rfl,rfl⟩
  have h0:Go.Proofs.YteaadaaghhojfaaGreatDoorW.SV.sortedT (query_names.texts [])=[]:=List.length_eq_zero_iff.1 (by rw [Go.Proofs.YteaadaaghhojfaaGreatDoorW.SV.sortedT_len];rfl)
  rw [h0]
  exact ⟨As,cs,rfl,hB⟩
 ·refine (Tryz.slices_Compact_string g 0 cs _ W hH (by rw [Go.Proofs.YteaadaaghhojfaaGreatDoorW.SV.sortedT_len];simp [query_names.texts];omega) hcs).mono ?_
  rintro e W' ⟨rfl,q,rfl⟩
  have hgr:=Go.grownBy_sorted (w:=W) (g:=g) (n:=q) (os:=#[]) (Lib.compact (Go.Proofs.YteaadaaghhojfaaGreatDoorW.SV.sortedT (query_names.texts l0))++List.replicate ((Go.Proofs.YteaadaaghhojfaaGreatDoorW.SV.sortedT (query_names.texts l0)).length - (Lib.compact (Go.Proofs.YteaadaaghhojfaaGreatDoorW.SV.sortedT (query_names.texts l0))).length) []).toArray
  rw [Go.Sort.grow_empty] at hgr
  exact ⟨_,_,rfl,hB.grown hgr hB.size (fun j hj=>by cases hj;exact hg)⟩
theorem query_names.later {l0:List ByteArray} {n:Nat} {W W2:World} {As:Option Addr} {ns cs:Nat} (hs:(l0=[]∧ns=0)∨(ns=(Go.Proofs.YteaadaaghhojfaaGreatDoorW.SV.sortedT (query_names.texts l0)).length∧ns≤cs∧∃ g,As=some ⟨g,0,none⟩∧n≤g∧Go.Sort.Holds Go.Proofs.encStr W g 0 (Go.Proofs.YteaadaaghhojfaaGreatDoorW.SV.sortedT (query_names.texts l0)).toArray)) (hB:Below W.heap.size W W2) :
  (l0=[]∧ns=0)∨(ns=(Go.Proofs.YteaadaaghhojfaaGreatDoorW.SV.sortedT (query_names.texts l0)).length∧ns≤cs∧∃ g,As=some ⟨g,0,none⟩∧n≤g∧Go.Sort.Holds Go.Proofs.encStr W2 g 0 (Go.Proofs.YteaadaaghhojfaaGreatDoorW.SV.sortedT (query_names.texts l0)).toArray):=by
 rcases hs with h|⟨h1,h2,g,h3,h4,h5⟩
 ·exact .inl h
 ·refine .inr ⟨h1,h2,g,h3,h4,fun j hj=>?_⟩
  have h6:=h5 j hj
  have hlt:=World.block_lt_of_cell? W _ h6.1
  exact ⟨(hB.cell hlt).trans h6.1,(hB.frozen hlt).trans h6.2⟩
theorem query_names.calls (k:Nat) (A0:Option Addr) (c0:Nat) (l0:List ByteArray) (r:Int) (w:World) (hr0:Kd.C Kd.string w A0 l0.length l0) (hc0:l0.length≤c0) (h:query_names.f k l0=some r) :
  Calls Tryz.prog 53 #[.slice A0 l0.length c0] w fun e w'=>e = .returned (.int .i64 r)∧Below w.heap.size w w':=by
 unfold query_names.f at h
 split at h
 case isFalse=>cases h
 rename_i hl
 obtain ⟨b,hb,h⟩:=Option.bind_eq_some_iff.mp h
 have HR0:=Aside0.mk hr0
 have HC0:=Aside0.mk hc0
 have HL:=Aside0.mk hl
 have HF:=Aside0.mk hb
 have hV:∀ W:World,Calls Tryz.prog 105 #[.slice A0 l0.length c0] W fun e w'=>e = .returned (.func (.func 140) #[] #[.pointer (some ⟨W.heap.size,0,none⟩)])∧w'=W.alloc (.cells #[.slice A0 l0.length c0] 23):=fun W=>(callsIn_wide (n:=6)).1 (Go.Proofs.YteaadaaghhojfaaGreatDoorW.SV.values_in Fence.wide 6 trivial rfl A0 l0.length c0 W)
 have HV:=Aside0.mk hV
 clear hr0 hc0 hl hb hV
 by_cases hbt:b=true
 ·subst hbt
  rw [if_pos rfl] at h
  obtain rfl:=Option.some.inj h
  go_enter Tryz.func53,Tryz.ntmps53
  go_wp2_with (first|(go_at_call 105;refine (HV.out _).mono ?_;rintro e w' ⟨rfl,rfl⟩)|(go_at_call 104;refine (query_names.sorted l0 A0 c0 w HR0.out HL.out).mono ?_;rintro e W' ⟨As,ns,cs,rfl,hB,hS⟩;have HB:=Aside0.mk hB;clear hB hS)|(go_at_call 106;refine (slices_ContainsFunc_string_by_query_names_1.calls k A0 c0 l0 true _ (Kd.C_below HR0.out HB.out) HC0.out HF.out).mono ?_;rintro e W2 ⟨rfl,hB2⟩;have HB2:=Aside0.mk (below_then HB.out HB.out.size hB2);clear hB2))
  go_ret
  exact ⟨rfl,HB2.out⟩
 rw [if_neg hbt] at h
 have hbf:b=false:=by simpa using hbt
 subst hbf
 clear hbt
 by_cases h4:(l0.length:Int)>4
 ·rw [if_pos h4] at h
  obtain rfl:=Option.some.inj h
  have h4b:decide ((4:Int)<(l0.length:Int))=true:=decide_eq_true h4
  have h4c:decide (4<l0.length)=true:=decide_eq_true (by omega)
  clear h4
  go_enter Tryz.func53,Tryz.ntmps53
  go_wp2_with (first|(go_at_call 105;refine (HV.out _).mono ?_;rintro e w' ⟨rfl,rfl⟩)|(go_at_call 104;refine (query_names.sorted l0 A0 c0 w HR0.out HL.out).mono ?_;rintro e W' ⟨As,ns,cs,rfl,hB,hS⟩;have HB:=Aside0.mk hB;clear hB hS)|(go_at_call 106;refine (slices_ContainsFunc_string_by_query_names_1.calls k A0 c0 l0 false _ (Kd.C_below HR0.out HB.out) HC0.out HF.out).mono ?_;rintro e W2 ⟨rfl,hB2⟩;have HB2:=Aside0.mk (below_then HB.out HB.out.size hB2);clear hB2))
  go_ret
  exact ⟨rfl,HB2.out⟩
 rw [if_neg h4] at h
 have h4b:decide ((4:Int)<(l0.length:Int))=false:=decide_eq_false h4
 have h4c:decide (4<l0.length)=false:=decide_eq_false (by omega)
 clear h4
 by_cases h5:(Lib.compact (Go.Proofs.YteaadaaghhojfaaGreatDoorW.SV.sortedT (query_names.texts l0))).length<l0.length
 ·rw [if_pos h5] at h
  obtain rfl:=Option.some.inj h
  have h5b:decide (((Lib.compact (Go.Proofs.YteaadaaghhojfaaGreatDoorW.SV.sortedT (query_names.texts l0))).length:Int)<(l0.length:Int))=true:=decide_eq_true (by omega)
  have h5c:decide ((Lib.compact (Go.Proofs.YteaadaaghhojfaaGreatDoorW.SV.sortedT (query_names.texts l0))).length<l0.length)=true:=decide_eq_true h5
  clear h5
  generalize hLC:Lib.compact (Go.Proofs.YteaadaaghhojfaaGreatDoorW.SV.sortedT (query_names.texts l0))=LC at h5b h5c
  have HLC:=Aside0.mk hLC
  clear hLC
  go_enter Tryz.func53,Tryz.ntmps53
  go_wp2_with (first|(go_at_call 105;refine (HV.out _).mono ?_;rintro e w' ⟨rfl,rfl⟩)|(go_at_call 104;refine (query_names.sorted l0 A0 c0 w HR0.out HL.out).mono ?_;rintro e W' ⟨As,ns,cs,rfl,hB,hS⟩;have HB:=Aside0.mk hB;have HS:=Aside0.mk hS;clear hB hS)|(go_at_call 106;refine (slices_ContainsFunc_string_by_query_names_1.calls k A0 c0 l0 false _ (Kd.C_below HR0.out HB.out) HC0.out HF.out).mono ?_;rintro e W2 ⟨rfl,hB2⟩;have HB2:=Aside0.mk (below_then HB.out HB.out.size hB2);have HS2:=Aside0.mk (query_names.later HS.out hB2);clear hB2)|(go_at_call 108;refine (query_names.compact l0 w _ As ns cs HB2.out HL.out HS2.out).mono ?_;rintro e W3 ⟨Ac,cc,rfl,hB3⟩;rw [HLC.out];have HB3:=Aside0.mk hB3;clear hB3))
  go_ret
  exact ⟨rfl,HB3.out⟩
 rw [if_neg h5] at h
 obtain rfl:=Option.some.inj h
 have h5b:decide (((Lib.compact (Go.Proofs.YteaadaaghhojfaaGreatDoorW.SV.sortedT (query_names.texts l0))).length:Int)<(l0.length:Int))=false:=decide_eq_false (by omega)
 have h5c:decide ((Lib.compact (Go.Proofs.YteaadaaghhojfaaGreatDoorW.SV.sortedT (query_names.texts l0))).length<l0.length)=false:=decide_eq_false h5
 clear h5
 generalize hLC:Lib.compact (Go.Proofs.YteaadaaghhojfaaGreatDoorW.SV.sortedT (query_names.texts l0))=LC at h5b h5c
 have HLC:=Aside0.mk hLC
 clear hLC
 go_enter Tryz.func53,Tryz.ntmps53
 go_wp2_with (first|(go_at_call 105;refine (HV.out _).mono ?_;rintro e w' ⟨rfl,rfl⟩)|(go_at_call 104;refine (query_names.sorted l0 A0 c0 w HR0.out HL.out).mono ?_;rintro e W' ⟨As,ns,cs,rfl,hB,hS⟩;have HB:=Aside0.mk hB;have HS:=Aside0.mk hS;clear hB hS)|(go_at_call 106;refine (slices_ContainsFunc_string_by_query_names_1.calls k A0 c0 l0 false _ (Kd.C_below HR0.out HB.out) HC0.out HF.out).mono ?_;rintro e W2 ⟨rfl,hB2⟩;have HB2:=Aside0.mk (below_then HB.out HB.out.size hB2);have HS2:=Aside0.mk (query_names.later HS.out hB2);clear hB2)|(go_at_call 108;refine (query_names.compact l0 w _ As ns cs HB2.out HL.out HS2.out).mono ?_;rintro e W3 ⟨Ac,cc,rfl,hB3⟩;rw [HLC.out];have HB3:=Aside0.mk hB3;clear hB3))
 go_ret
 exact ⟨rfl,HB3.out⟩
def query_Parse.sn (k:Nat) (hd inn:ByteArray):Option (Int×ByteArray×List S127):=(word_Name.f hd).bind fun ok=>if ok=true then (pick_Parse.f k inn).bind fun r=>some (r.2,hd,r.1) else some (2,⟨#[]⟩,[])
def query_Parse.sr (k:Nat) (s:ByteArray):Option (Int×ByteArray×List S127):=(strings_Cut.f s (⟨#[123]⟩:ByteArray)).bind fun b=>if b.2.2=true then (strings_CutSuffix.f b.2.1 (⟨#[125]⟩:ByteArray)).bind fun c=>if c.2=true then (if c.1.toList=([]:List UInt8) then some (2,⟨#[]⟩,[]) else query_Parse.sn k b.1 c.1) else some (2,⟨#[]⟩,[]) else query_Parse.sn k b.1 b.2.1
theorem query_Parse.sn_mono:∀ hd inn k,LeO (query_Parse.sn k hd inn) (query_Parse.sn (k+1) hd inn):=fun hd inn k=>LeO.bind (LeO.refl _) (fun _=>LeO.ite (LeO.bind (pick_Parse.mono inn k) (fun _=>LeO.refl _)) (LeO.refl _))
theorem query_Parse.sr_mono:∀ s k,LeO (query_Parse.sr k s) (query_Parse.sr (k+1) s):=fun s k=>LeO.bind (LeO.refl _) (fun _=>LeO.ite (LeO.bind (LeO.refl _) (fun _=>LeO.ite (LeO.ite (LeO.refl _) (query_Parse.sn_mono _ _ k)) (LeO.refl _))) (query_Parse.sn_mono _ _ k))
def query_Parse.Kept (g:Nat) (W W':World):Prop:=Below g W W'∧KeepBut W W' g none
theorem query_Parse.kept_below {g:Nat} {W W':World} (h:Below W.heap.size W W') (hg:g≤W.heap.size):query_Parse.Kept g W W':=⟨h.mono hg,KeepBut.of_below h g none⟩
theorem query_Parse.Kept.trans {g:Nat} {W W1 W2:World} (h:query_Parse.Kept g W W1) (k:query_Parse.Kept g W1 W2):query_Parse.Kept g W W2:=⟨h.1.trans k.1,h.2.trans k.2 (.inl rfl)⟩
theorem query_Parse.Kept.set {g:Nat} {W W1:World} (h:query_Parse.Kept g W W1) (j:Nat) (u:Value):query_Parse.Kept g W (W1.setCell ⟨g,j,none⟩ u):=⟨h.1.setCell (Nat.le_refl _) u,h.2.set_ j u⟩
theorem query_Parse.series_a (k:Nat) (s hd inn:ByteArray) (g:Nat) (W:World) (hG:GInt W) (ag:Int) (nm0:ByteArray) (vM0 vB:Value) (hb:W.heap[g]?=some (.cells #[.int .i64 ag, .string nm0,vM0,vB] 84 (0,0))) (bare:ByteArray) (h1:strings_Cut.f s (⟨#[123]⟩:ByteArray)=some (hd,inn,true)) (h2:strings_CutSuffix.f inn (⟨#[125]⟩:ByteArray)=some (bare,false)) :
  Calls Tryz.prog 115 #[.pointer (some ⟨g,0,none⟩), .string s] W fun x W'=>x = .returned (.int .i64 2)∧Below W.heap.size W W':=by
 have HG:=Aside0.mk hG
 have H1:=Aside0.mk h1
 have H2:=Aside0.mk h2
 clear h1 h2 hb hG
 go_enter Tryz.func115,Tryz.ntmps115
 go_wp2_with (first|((with_reducible refine gate_callee (f:=146) rfl ?_);refine goesL_ (some 12) rfl rfl Tryz.func146 qK rfl #[.string s, .string (⟨#[123]⟩:ByteArray)] rfl qG ?_;(refine (strings_Cut.calls s (⟨#[123]⟩:ByteArray) hd inn true _ qM H1.out).mono ?_);rintro e w' ⟨rfl,⟨nd,rfl⟩⟩;refine ⟨_,rfl,?_⟩)|((with_reducible refine gate_callee (f:=147) rfl ?_);refine goesL_ (some 19) rfl rfl Tryz.func147 qK rfl #[.string inn, .string (⟨#[125]⟩:ByteArray)] rfl qG ?_;(refine (strings_CutSuffix.calls inn (⟨#[125]⟩:ByteArray) bare false _ H2.out).mono ?_);rintro e w' ⟨rfl,⟨nd2,rfl⟩⟩;refine ⟨_,rfl,?_⟩))
 go_ret
 exact ⟨rfl,below_drewN (Below.refl _ _) _⟩
theorem query_Parse.series_b (k:Nat) (s hd inn:ByteArray) (g:Nat) (W:World) (hG:GInt W) (ag:Int) (nm0:ByteArray) (vM0 vB:Value) (hb:W.heap[g]?=some (.cells #[.int .i64 ag, .string nm0,vM0,vB] 84 (0,0))) (bare:ByteArray) (h1:strings_Cut.f s (⟨#[123]⟩:ByteArray)=some (hd,inn,true)) (h2:strings_CutSuffix.f inn (⟨#[125]⟩:ByteArray)=some (bare,true)) (h3:bare.toList=([]:List UInt8)) :
  Calls Tryz.prog 115 #[.pointer (some ⟨g,0,none⟩), .string s] W fun x W'=>x = .returned (.int .i64 2)∧Below W.heap.size W W':=by
 have HG:=Aside0.mk hG
 have H1:=Aside0.mk h1
 have H2:=Aside0.mk h2
 have c3b0:(bare.toList ==([]:List UInt8))=true:=beq_iff_eq.mpr h3
 have c3b1:(bare.toList != ([]:List UInt8))=false:=bne_eq_false_iff_eq.mpr h3
 clear h3
 clear h1 h2 hb hG
 go_enter Tryz.func115,Tryz.ntmps115
 go_wp2_with (first|((with_reducible refine gate_callee (f:=146) rfl ?_);refine goesL_ (some 12) rfl rfl Tryz.func146 qK rfl #[.string s, .string (⟨#[123]⟩:ByteArray)] rfl qG ?_;(refine (strings_Cut.calls s (⟨#[123]⟩:ByteArray) hd inn true _ qM H1.out).mono ?_);rintro e w' ⟨rfl,⟨nd,rfl⟩⟩;refine ⟨_,rfl,?_⟩)|((with_reducible refine gate_callee (f:=147) rfl ?_);refine goesL_ (some 19) rfl rfl Tryz.func147 qK rfl #[.string inn, .string (⟨#[125]⟩:ByteArray)] rfl qG ?_;(refine (strings_CutSuffix.calls inn (⟨#[125]⟩:ByteArray) bare true _ H2.out).mono ?_);rintro e w' ⟨rfl,⟨nd2,rfl⟩⟩;refine ⟨_,rfl,?_⟩))
 go_ret
 exact ⟨rfl,below_drewN (Below.refl _ _) _⟩
theorem query_Parse.series_c (k:Nat) (s hd inn:ByteArray) (g:Nat) (W:World) (hG:GInt W) (ag:Int) (nm0:ByteArray) (vM0 vB:Value) (hb:W.heap[g]?=some (.cells #[.int .i64 ag, .string nm0,vM0,vB] 84 (0,0))) (bare:ByteArray) (h1:strings_Cut.f s (⟨#[123]⟩:ByteArray)=some (hd,inn,true)) (h2:strings_CutSuffix.f inn (⟨#[125]⟩:ByteArray)=some (bare,true)) (h3:¬ bare.toList=([]:List UInt8)) (h4:word_Name.f hd=some false) :
  Calls Tryz.prog 115 #[.pointer (some ⟨g,0,none⟩), .string s] W fun x W'=>x = .returned (.int .i64 2)∧Below W.heap.size W W':=by
 have HG:=Aside0.mk hG
 have H1:=Aside0.mk h1
 have H2:=Aside0.mk h2
 have c3b0:(bare.toList ==([]:List UInt8))=false:=beq_eq_false_iff_ne.mpr h3
 have c3b1:(bare.toList != ([]:List UInt8))=true:=bne_iff_ne.mpr h3
 clear h3
 have H4:=Aside0.mk h4
 have HBK:=Aside0.mk hb
 have hu1:=Tryz.underlying84
 have hu2:=Tryz.underlying25
 have HLT:=Aside0.mk (blk_lt hb)
 clear hG h1 h4 hb h2
 go_enter Tryz.func115,Tryz.ntmps115
 go_wp2_with (first|((with_reducible refine gate_callee (f:=146) rfl ?_);refine goesL_ (some 12) rfl rfl Tryz.func146 qK rfl #[.string s, .string (⟨#[123]⟩:ByteArray)] rfl qG ?_;(refine (strings_Cut.calls s (⟨#[123]⟩:ByteArray) hd inn true _ qM H1.out).mono ?_);rintro e w' ⟨rfl,⟨nd,rfl⟩⟩;refine ⟨_,rfl,?_⟩)|((with_reducible refine gate_callee (f:=147) rfl ?_);refine goesL_ (some 19) rfl rfl Tryz.func147 qK rfl #[.string inn, .string (⟨#[125]⟩:ByteArray)] rfl qG ?_;(refine (strings_CutSuffix.calls inn (⟨#[125]⟩:ByteArray) bare true _ H2.out).mono ?_);rintro e w' ⟨rfl,⟨nd2,rfl⟩⟩;refine ⟨_,rfl,?_⟩)|((with_reducible refine gate_callee (f:=51) rfl ?_);refine goesL_ (some 30) rfl rfl Tryz.func51 qK rfl #[.string hd] rfl qG ?_;(refine (word_Name.calls hd false _ H4.out).mono ?_);rintro e w1 ⟨rfl,hb1⟩;refine ⟨_,rfl,?_⟩;have HB1:Aside0 (Below W.heap.size W w1):=⟨below_step (below_drewN (Below.refl _ _) _) hb1⟩;have hc1:=blk_below HBK.out HB1.out;have hf1:=blk_frozen hc1 1;have hx1:w1.cell? ⟨g,1,none⟩=some (.string nm0):=(blk_cell hc1 1).trans rfl;have HC1:=Aside0.mk hc1;clear hb1 hc1))
 go_ret
 exact ⟨rfl,HB1.out⟩
theorem query_Parse.series_d (k:Nat) (s hd inn:ByteArray) (g:Nat) (W:World) (hG:GInt W) (ag:Int) (nm0:ByteArray) (vM0 vB:Value) (hb:W.heap[g]?=some (.cells #[.int .i64 ag, .string nm0,vM0,vB] 84 (0,0))) (bare:ByteArray) (h1:strings_Cut.f s (⟨#[123]⟩:ByteArray)=some (hd,inn,true)) (h2:strings_CutSuffix.f inn (⟨#[125]⟩:ByteArray)=some (bare,true)) (h3:¬ bare.toList=([]:List UInt8)) (h4:word_Name.f hd=some true) (ms:List S127) (e0:Int) (h5:pick_Parse.f k bare=some (ms,e0)) :
  Calls Tryz.prog 115 #[.pointer (some ⟨g,0,none⟩), .string s] W fun x W'=>x = .returned (.int .i64 e0)∧query_Parse.Kept g W W'∧∃ vM,W'.heap[g]?=some (.cells #[.int .i64 ag, .string hd,vM,vB] 84 (0,0))∧Kd.R k127 127 W' W.heap.size (fun _=>True) vM ms:=by
 have HG:=Aside0.mk hG
 have H1:=Aside0.mk h1
 have H2:=Aside0.mk h2
 have c3b0:(bare.toList ==([]:List UInt8))=false:=beq_eq_false_iff_ne.mpr h3
 have c3b1:(bare.toList != ([]:List UInt8))=true:=bne_iff_ne.mpr h3
 clear h3
 have H4:=Aside0.mk h4
 have HBK:=Aside0.mk hb
 have hu1:=Tryz.underlying84
 have hu2:=Tryz.underlying25
 have HLT:=Aside0.mk (blk_lt hb)
 have H5:=Aside0.mk h5
 clear hG h1 h4 h5 hb h2
 go_enter Tryz.func115,Tryz.ntmps115
 go_wp2_with (first|((with_reducible refine gate_callee (f:=146) rfl ?_);refine goesL_ (some 12) rfl rfl Tryz.func146 qK rfl #[.string s, .string (⟨#[123]⟩:ByteArray)] rfl qG ?_;(refine (strings_Cut.calls s (⟨#[123]⟩:ByteArray) hd inn true _ qM H1.out).mono ?_);rintro e w' ⟨rfl,⟨nd,rfl⟩⟩;refine ⟨_,rfl,?_⟩)|((with_reducible refine gate_callee (f:=147) rfl ?_);refine goesL_ (some 19) rfl rfl Tryz.func147 qK rfl #[.string inn, .string (⟨#[125]⟩:ByteArray)] rfl qG ?_;(refine (strings_CutSuffix.calls inn (⟨#[125]⟩:ByteArray) bare true _ H2.out).mono ?_);rintro e w' ⟨rfl,⟨nd2,rfl⟩⟩;refine ⟨_,rfl,?_⟩)|((with_reducible refine gate_callee (f:=51) rfl ?_);refine goesL_ (some 30) rfl rfl Tryz.func51 qK rfl #[.string hd] rfl qG ?_;(refine (word_Name.calls hd true _ H4.out).mono ?_);rintro e w1 ⟨rfl,hb1⟩;refine ⟨_,rfl,?_⟩;have HB1:Aside0 (Below W.heap.size W w1):=⟨below_step (below_drewN (Below.refl _ _) _) hb1⟩;have hc1:=blk_below HBK.out HB1.out;have hf1:=blk_frozen hc1 1;have hx1:w1.cell? ⟨g,1,none⟩=some (.string nm0):=(blk_cell hc1 1).trans rfl;have HC1:=Aside0.mk hc1;clear hb1 hc1)|((with_reducible refine gate_callee (f:=148) rfl ?_);refine goesL_ (some 40) rfl rfl Tryz.func148 qK rfl #[.string bare] rfl qG ?_;(refine (pick_Parse.calls k bare ms e0 _ (gint_off (gint_at HG.out HB1.out) (by decide)) H5.out).mono ?_);rintro e w2 ⟨vM,rfl,ho,hb2⟩;refine ⟨_,rfl,?_⟩;obtain ⟨Am,cm,rfl⟩:=Kd.R_slice ho;have HO:=Aside0.mk ho;have HB2:=Aside0.mk hb2;have hc2:=blk_below (blk_put HC1.out 1 (.string hd) rfl) hb2;have hf2:=blk_frozen hc2 2;have hx2:w2.cell? ⟨g,2,none⟩=some vM0:=(blk_cell hc2 2).trans rfl;have HC2:=Aside0.mk hc2;clear ho hb2 hc2))
 go_ret
 have hgw:g≤W.heap.size:=Nat.le_of_lt HLT.out
 have hk1:query_Parse.Kept g W (w1.setCell ⟨g,1,none⟩ (.string hd)):=(query_Parse.kept_below HB1.out hgw).set 1 _
 have hk2:query_Parse.Kept g W w2:=hk1.trans (query_Parse.kept_below HB2.out (Nat.le_trans hgw hk1.2.1))
 refine ⟨rfl,hk2.set 2 _,_,blk_put HC2.out 2 _ rfl,?_⟩
 refine Kd.R_mono (Kd.R_far (Kd.R_lower (Kd.R_newB HO.out (blk_put HC1.out 1 (.string hd) rfl)) hk1.2.1) (fun _ hk=>hk.2) _) (fun _ _=>trivial)
theorem query_Parse.series_e (k:Nat) (s hd inn:ByteArray) (g:Nat) (W:World) (hG:GInt W) (ag:Int) (nm0:ByteArray) (vM0 vB:Value) (hb:W.heap[g]?=some (.cells #[.int .i64 ag, .string nm0,vM0,vB] 84 (0,0))) (h1:strings_Cut.f s (⟨#[123]⟩:ByteArray)=some (hd,inn,false)) (h4:word_Name.f hd=some false) :
  Calls Tryz.prog 115 #[.pointer (some ⟨g,0,none⟩), .string s] W fun x W'=>x = .returned (.int .i64 2)∧Below W.heap.size W W':=by
 have HG:=Aside0.mk hG
 have H1:=Aside0.mk h1
 have H4:=Aside0.mk h4
 have HBK:=Aside0.mk hb
 have hu1:=Tryz.underlying84
 have hu2:=Tryz.underlying25
 have HLT:=Aside0.mk (blk_lt hb)
 clear hG h1 h4 hb
 go_enter Tryz.func115,Tryz.ntmps115
 go_wp2_with (first|((with_reducible refine gate_callee (f:=146) rfl ?_);refine goesL_ (some 12) rfl rfl Tryz.func146 qK rfl #[.string s, .string (⟨#[123]⟩:ByteArray)] rfl qG ?_;(refine (strings_Cut.calls s (⟨#[123]⟩:ByteArray) hd inn false _ qM H1.out).mono ?_);rintro e w' ⟨rfl,⟨nd,rfl⟩⟩;refine ⟨_,rfl,?_⟩)|((with_reducible refine gate_callee (f:=51) rfl ?_);refine goesL_ (some 30) rfl rfl Tryz.func51 qK rfl #[.string hd] rfl qG ?_;(refine (word_Name.calls hd false _ H4.out).mono ?_);rintro e w1 ⟨rfl,hb1⟩;refine ⟨_,rfl,?_⟩;have HB1:Aside0 (Below W.heap.size W w1):=⟨below_step (below_drewN (Below.refl _ _) _) hb1⟩;have hc1:=blk_below HBK.out HB1.out;have hf1:=blk_frozen hc1 1;have hx1:w1.cell? ⟨g,1,none⟩=some (.string nm0):=(blk_cell hc1 1).trans rfl;have HC1:=Aside0.mk hc1;clear hb1 hc1))
 go_ret
 exact ⟨rfl,HB1.out⟩
theorem query_Parse.series_f (k:Nat) (s hd inn:ByteArray) (g:Nat) (W:World) (hG:GInt W) (ag:Int) (nm0:ByteArray) (vM0 vB:Value) (hb:W.heap[g]?=some (.cells #[.int .i64 ag, .string nm0,vM0,vB] 84 (0,0))) (h1:strings_Cut.f s (⟨#[123]⟩:ByteArray)=some (hd,inn,false)) (h4:word_Name.f hd=some true) (ms:List S127) (e0:Int) (h5:pick_Parse.f k inn=some (ms,e0)) :
  Calls Tryz.prog 115 #[.pointer (some ⟨g,0,none⟩), .string s] W fun x W'=>x = .returned (.int .i64 e0)∧query_Parse.Kept g W W'∧∃ vM,W'.heap[g]?=some (.cells #[.int .i64 ag, .string hd,vM,vB] 84 (0,0))∧Kd.R k127 127 W' W.heap.size (fun _=>True) vM ms:=by
 have HG:=Aside0.mk hG
 have H1:=Aside0.mk h1
 have H4:=Aside0.mk h4
 have HBK:=Aside0.mk hb
 have hu1:=Tryz.underlying84
 have hu2:=Tryz.underlying25
 have HLT:=Aside0.mk (blk_lt hb)
 have H5:=Aside0.mk h5
 clear hG h1 h4 h5 hb
 go_enter Tryz.func115,Tryz.ntmps115
 go_wp2_with (first|((with_reducible refine gate_callee (f:=146) rfl ?_);refine goesL_ (some 12) rfl rfl Tryz.func146 qK rfl #[.string s, .string (⟨#[123]⟩:ByteArray)] rfl qG ?_;(refine (strings_Cut.calls s (⟨#[123]⟩:ByteArray) hd inn false _ qM H1.out).mono ?_);rintro e w' ⟨rfl,⟨nd,rfl⟩⟩;refine ⟨_,rfl,?_⟩)|((with_reducible refine gate_callee (f:=51) rfl ?_);refine goesL_ (some 30) rfl rfl Tryz.func51 qK rfl #[.string hd] rfl qG ?_;(refine (word_Name.calls hd true _ H4.out).mono ?_);rintro e w1 ⟨rfl,hb1⟩;refine ⟨_,rfl,?_⟩;have HB1:Aside0 (Below W.heap.size W w1):=⟨below_step (below_drewN (Below.refl _ _) _) hb1⟩;have hc1:=blk_below HBK.out HB1.out;have hf1:=blk_frozen hc1 1;have hx1:w1.cell? ⟨g,1,none⟩=some (.string nm0):=(blk_cell hc1 1).trans rfl;have HC1:=Aside0.mk hc1;clear hb1 hc1)|((with_reducible refine gate_callee (f:=148) rfl ?_);refine goesL_ (some 40) rfl rfl Tryz.func148 qK rfl #[.string inn] rfl qG ?_;(refine (pick_Parse.calls k inn ms e0 _ (gint_off (gint_at HG.out HB1.out) (by decide)) H5.out).mono ?_);rintro e w2 ⟨vM,rfl,ho,hb2⟩;refine ⟨_,rfl,?_⟩;obtain ⟨Am,cm,rfl⟩:=Kd.R_slice ho;have HO:=Aside0.mk ho;have HB2:=Aside0.mk hb2;have hc2:=blk_below (blk_put HC1.out 1 (.string hd) rfl) hb2;have hf2:=blk_frozen hc2 2;have hx2:w2.cell? ⟨g,2,none⟩=some vM0:=(blk_cell hc2 2).trans rfl;have HC2:=Aside0.mk hc2;clear ho hb2 hc2))
 go_ret
 have hgw:g≤W.heap.size:=Nat.le_of_lt HLT.out
 have hk1:query_Parse.Kept g W (w1.setCell ⟨g,1,none⟩ (.string hd)):=(query_Parse.kept_below HB1.out hgw).set 1 _
 have hk2:query_Parse.Kept g W w2:=hk1.trans (query_Parse.kept_below HB2.out (Nat.le_trans hgw hk1.2.1))
 refine ⟨rfl,hk2.set 2 _,_,blk_put HC2.out 2 _ rfl,?_⟩
 refine Kd.R_mono (Kd.R_far (Kd.R_lower (Kd.R_newB HO.out (blk_put HC1.out 1 (.string hd) rfl)) hk1.2.1) (fun _ hk=>hk.2) _) (fun _ _=>trivial)
theorem query_Parse.series (k:Nat) (s:ByteArray) (g:Nat) (W:World) (hG:GInt W) (ag:Int) (nm0:ByteArray) (vM0 vB:Value) (e0:Int) (nm:ByteArray) (ms:List S127) (hb:W.heap[g]?=some (.cells #[.int .i64 ag, .string nm0,vM0,vB] 84 (0,0))) (h:query_Parse.sr k s=some (e0,nm,ms)) :
  Calls Tryz.prog 115 #[.pointer (some ⟨g,0,none⟩), .string s] W fun x W'=>x = .returned (.int .i64 e0)∧query_Parse.Kept g W W'∧(e0=0→∃ vM,W'.heap[g]?=some (.cells #[.int .i64 ag, .string nm,vM,vB] 84 (0,0))∧Kd.R k127 127 W' W.heap.size (fun _=>True) vM ms):=by
 have hg:g≤W.heap.size:=Nat.le_of_lt (blk_lt hb)
 have bad:∀ {x:Ending} {W':World},x = .returned (.int .i64 2)∧Below W.heap.size W W'→(2,⟨#[]⟩,[])=(e0,nm,ms)→x = .returned (.int .i64 e0)∧query_Parse.Kept g W W'∧(e0=0→∃ vM,W'.heap[g]?=some (.cells #[.int .i64 ag, .string nm,vM,vB] 84 (0,0))∧Kd.R k127 127 W' W.heap.size (fun _=>True) vM ms):=by
  rintro x W' ⟨rfl,h1⟩ h2
  simp only [Prod.mk.injEq] at h2
  obtain ⟨rfl,rfl,rfl⟩:=h2
  exact ⟨rfl,query_Parse.kept_below h1 hg,fun h=>absurd h (by decide)⟩
 obtain ⟨⟨hd,inn,b⟩,h1,h⟩:=Option.bind_eq_some_iff.mp h
 cases b with
 | true =>
  replace h:=(if_pos rfl).symm.trans h
  obtain ⟨⟨bare,b2⟩,h2,h⟩:=Option.bind_eq_some_iff.mp h
  cases b2 with
  | false =>
   replace h:=(if_neg (show ¬ (false=true) by decide)).symm.trans h
   exact (query_Parse.series_a k s hd inn g W hG ag nm0 vM0 vB hb bare h1 h2).mono (fun _ _ hx=>bad hx (Option.some.inj h))
  | true =>
   replace h:=(if_pos rfl).symm.trans h
   by_cases h3:bare.toList=([]:List UInt8)
   ·replace h:=(if_pos h3).symm.trans h
    exact (query_Parse.series_b k s hd inn g W hG ag nm0 vM0 vB hb bare h1 h2 h3).mono (fun _ _ hx=>bad hx (Option.some.inj h))
   replace h:=(if_neg h3).symm.trans h
   obtain ⟨b4,h4,h⟩:=Option.bind_eq_some_iff.mp h
   cases b4 with
   | false =>
    replace h:=(if_neg (show ¬ (false=true) by decide)).symm.trans h
    exact (query_Parse.series_c k s hd inn g W hG ag nm0 vM0 vB hb bare h1 h2 h3 h4).mono (fun _ _ hx=>bad hx (Option.some.inj h))
   | true =>
    replace h:=(if_pos rfl).symm.trans h
    obtain ⟨⟨ms',e1⟩,h5,h⟩:=Option.bind_eq_some_iff.mp h
    simp only [Option.some.injEq,Prod.mk.injEq] at h
    obtain ⟨rfl,rfl,rfl⟩:=h
    exact (query_Parse.series_d k s hd inn g W hG ag nm0 vM0 vB hb bare h1 h2 h3 h4 ms' e1 h5).mono (fun _ _ hx=>⟨hx.1,hx.2.1,fun _=>hx.2.2⟩)
 | false =>
  replace h:=(if_neg (show ¬ (false=true) by decide)).symm.trans h
  obtain ⟨b4,h4,h⟩:=Option.bind_eq_some_iff.mp h
  cases b4 with
  | false =>
   replace h:=(if_neg (show ¬ (false=true) by decide)).symm.trans h
   exact (query_Parse.series_e k s hd inn g W hG ag nm0 vM0 vB hb h1 h4).mono (fun _ _ hx=>bad hx (Option.some.inj h))
  | true =>
   replace h:=(if_pos rfl).symm.trans h
   obtain ⟨⟨ms',e1⟩,h5,h⟩:=Option.bind_eq_some_iff.mp h
   simp only [Option.some.injEq,Prod.mk.injEq] at h
   obtain ⟨rfl,rfl,rfl⟩:=h
   exact (query_Parse.series_f k s hd inn g W hG ag nm0 vM0 vB hb h1 h4 ms' e1 h5).mono (fun _ _ hx=>⟨hx.1,hx.2.1,fun _=>hx.2.2⟩)
theorem query_Parse.kept_cell {g:Nat} {W W':World} {p:Addr} {v:Value} (h:query_Parse.Kept g W W') (hc:W.cell? p=some v) (hp:p.block≠g):W'.cell? p=some v:=(World.cell?_of_block (w:=W) (h.2.2 p.block (World.block_lt_of_cell? W _ hc) hp (by simp))).trans hc
theorem query_Parse.add_block (p:Addr) (i:Nat):(p.add i).block=p.block:=by unfold Addr.add;split<;>rfl
def query_Parse.parts (k:Nat):Option ByteArray→Option (List ByteArray)
 | none=>some []
 | some x=>word_Split.f k x 44
def query_Parse.rd1 (k:Nat) (x0 x1:ByteArray) (o:Option ByteArray):Option (Int×Int×ByteArray×List S127×List ByteArray):=(query_agg.f x0).bind fun a=>if a=0 then some (2,0,⟨#[]⟩,[],[]) else (query_Parse.sr k x1).bind fun r=>if r.1=0 then (query_Parse.parts k o).bind fun p=>(query_names.f k p).bind fun e=>some (e,a,r.2.1,r.2.2,p) else some (r.1,0,⟨#[]⟩,[],[])
def query_Parse.rd (k:Nat):List ByteArray→Option (Int×Int×ByteArray×List S127×List ByteArray)
 | [x0,x1]=>query_Parse.rd1 k x0 x1 none
 | [x0,x1,x2,x3]=>if x2.toList=([98,121]:List UInt8) then query_Parse.rd1 k x0 x1 (some x3) else some (2,0,⟨#[]⟩,[],[])
 | _=>some (2,0,⟨#[]⟩,[],[])
def query_Parse.f (k:Nat) (a0:ByteArray):Option (Int×ByteArray×List S127×List ByteArray×Int):=(word_Fields.f k a0).bind fun l=>(query_Parse.rd k l).bind fun r=>if r.1=0 then some (r.2.1,r.2.2.1,r.2.2.2.1,r.2.2.2.2,0) else some (0,⟨#[]⟩,[],[],r.1)
theorem query_Parse.parts_mono:∀ o k,LeO (query_Parse.parts k o) (query_Parse.parts (k+1) o)
 | none,_=>LeO.refl _
 | some x,k=>word_Split.mono x 44 k
theorem query_Parse.rd1_mono:∀ x0 x1 o k,LeO (query_Parse.rd1 k x0 x1 o) (query_Parse.rd1 (k+1) x0 x1 o):=fun x0 x1 o k=>LeO.bind (LeO.refl _) (fun _=>LeO.ite (LeO.refl _) (LeO.bind (query_Parse.sr_mono x1 k) (fun _=>LeO.ite (LeO.bind (query_Parse.parts_mono o k) (fun p=>LeO.bind (query_names.mono p k) (fun _=>LeO.refl _))) (LeO.refl _))))
theorem query_Parse.rd_mono (l:List ByteArray) (k:Nat):LeO (query_Parse.rd k l) (query_Parse.rd (k+1) l):=by
 unfold query_Parse.rd
 split
 ·exact query_Parse.rd1_mono _ _ _ k
 ·exact LeO.ite (query_Parse.rd1_mono _ _ _ k) (LeO.refl _)
 ·exact LeO.refl _
theorem query_Parse.mono:∀ a0 k,LeO (query_Parse.f k a0) (query_Parse.f (k+1) a0):=fun a0 k=>LeO.bind (word_Fields.mono a0 k) (fun l=>LeO.bind (query_Parse.rd_mono l k) (fun _=>LeO.refl _))
theorem query_Parse.read_a (k:Nat) (g:Nat) (W:World) (hb:W.heap[g]?=some (.cells #[.int .i64 0, .string ⟨#[]⟩, .slice none 0 0, .slice none 0 0] 84 (0,0))) (A:Option Addr) (n c:Nat) (h2:n≠2) (h4:n≠4) :
  Calls Tryz.prog 66 #[.pointer (some ⟨g,0,none⟩), .slice A n c] W fun x W'=>x = .returned (.int .i64 2)∧query_Parse.Kept g W W':=by
 have d2:decide ((n:Int)=2)=false:=decide_eq_false (by omega)
 have d4:decide ((n:Int)=4)=false:=decide_eq_false (by omega)
 have e2:((n:Int) != 2)=true:=bne_iff_ne.mpr (by omega)
 have e4:((n:Int) != 4)=true:=bne_iff_ne.mpr (by omega)
 have f2:((n:Int) ==2)=false:=beq_eq_false_iff_ne.mpr (by omega)
 have f4:((n:Int) ==4)=false:=beq_eq_false_iff_ne.mpr (by omega)
 have HLT:=Aside0.mk (blk_lt hb)
 clear hb
 go_enter Tryz.func66,Tryz.ntmps66
 go_wp2
 go_ret
 exact ⟨rfl,query_Parse.kept_below (Below.refl _ _) (Nat.le_of_lt HLT.out)⟩
theorem query_Parse.read_b (k:Nat) (g:Nat) (W:World) (hb:W.heap[g]?=some (.cells #[.int .i64 0, .string ⟨#[]⟩, .slice none 0 0, .slice none 0 0] 84 (0,0))) (bk o c:Nat) (x0 x1 x2 x3:ByteArray) (hx0:W.cell? ⟨bk,o,none⟩=some (.string x0)) (hx1:W.cell? ⟨bk,o+1,none⟩=some (.string x1)) (hx2:W.cell? ⟨bk,o+2,none⟩=some (.string x2)) (hx3:W.cell? ⟨bk,o+3,none⟩=some (.string x3)) (hne:bk≠g) (hby:¬ x2.toList=([98,121]:List UInt8)) :
  Calls Tryz.prog 66 #[.pointer (some ⟨g,0,none⟩), .slice (some ⟨bk,o,none⟩) 4 c] W fun x W'=>x = .returned (.int .i64 2)∧query_Parse.Kept g W W':=by
 have c3b0:(x2.toList ==([98,121]:List UInt8))=false:=beq_eq_false_iff_ne.mpr hby
 have c3b1:(x2.toList != ([98,121]:List UInt8))=true:=bne_iff_ne.mpr hby
 have HLT:=Aside0.mk (blk_lt hb)
 clear hb hby
 go_enter Tryz.func66,Tryz.ntmps66
 go_wp2
 go_ret
 exact ⟨rfl,query_Parse.kept_below (Below.refl _ _) (Nat.le_of_lt HLT.out)⟩
theorem query_Parse.read_n2 (k:Nat) (g:Nat) (W:World) (hb:W.heap[g]?=some (.cells #[.int .i64 0, .string ⟨#[]⟩, .slice none 0 0, .slice none 0 0] 84 (0,0))) (bk o c:Nat) (x0 x1:ByteArray) (hx0:W.cell? ⟨bk,o,none⟩=some (.string x0)) (hx1:W.cell? ⟨bk,o+1,none⟩=some (.string x1)) (hne:bk≠g) (h1:query_agg.f x0=some 0) :
  Calls Tryz.prog 66 #[.pointer (some ⟨g,0,none⟩), .slice (some ⟨bk,o,none⟩) 2 c] W fun x W'=>x = .returned (.int .i64 2)∧query_Parse.Kept g W W':=by
 have H1:=Aside0.mk h1
 have HBK:=Aside0.mk hb
 have hz0:W.cell? ⟨g,0,none⟩=some (.int .i64 0):=(blk_cell hb 0).trans rfl
 have hf0:=blk_frozen hb 0
 have hu1:=Tryz.underlying84
 have hu2:=Tryz.underlying25
 have HLT:=Aside0.mk (blk_lt hb)
 clear hb h1
 go_enter Tryz.func66,Tryz.ntmps66
 go_wp2_with (first|((with_reducible refine gate_callee (f:=98) rfl ?_);refine goesL_ (some 24) rfl rfl Tryz.func98 qK rfl #[.string x0] rfl qG ?_;(refine (query_agg.calls x0 0 _ H1.out).mono ?_);rintro e w' ⟨rfl,⟨nd,rfl⟩⟩;refine ⟨_,rfl,?_⟩;have hf1:(W.drewN nd).frozen? ⟨g,0,none⟩=_:=hf0;have hz1:(W.drewN nd).cell? ⟨g,0,none⟩=some (.int .i64 0):=hz0;have hs1:((W.drewN nd).setCell ⟨g,0,none⟩ (.int .i64 0)).cell? ⟨bk,o+1,none⟩=some (.string x1):=(World.cell?_setCell_other _ _ _ _ (fun e=>hne (congrArg Addr.block e).symm)).trans hx1;have HBS:=Aside0.mk (blk_put (blk_drewN HBK.out nd) 0 (.int .i64 0) rfl)))
 go_ret
 exact ⟨rfl,(query_Parse.kept_below (below_drewN (Below.refl _ _) _) (Nat.le_of_lt HLT.out)).set 0 _⟩
theorem query_Parse.read_n4 (k:Nat) (g:Nat) (W:World) (hb:W.heap[g]?=some (.cells #[.int .i64 0, .string ⟨#[]⟩, .slice none 0 0, .slice none 0 0] 84 (0,0))) (bk o c:Nat) (x0 x1 x2 x3:ByteArray) (hx0:W.cell? ⟨bk,o,none⟩=some (.string x0)) (hx1:W.cell? ⟨bk,o+1,none⟩=some (.string x1)) (hx2:W.cell? ⟨bk,o+2,none⟩=some (.string x2)) (hx3:W.cell? ⟨bk,o+3,none⟩=some (.string x3)) (hne:bk≠g) (hby:x2.toList=([98,121]:List UInt8)) (h1:query_agg.f x0=some 0) :
  Calls Tryz.prog 66 #[.pointer (some ⟨g,0,none⟩), .slice (some ⟨bk,o,none⟩) 4 c] W fun x W'=>x = .returned (.int .i64 2)∧query_Parse.Kept g W W':=by
 have H1:=Aside0.mk h1
 have HBK:=Aside0.mk hb
 have hz0:W.cell? ⟨g,0,none⟩=some (.int .i64 0):=(blk_cell hb 0).trans rfl
 have hf0:=blk_frozen hb 0
 have hu1:=Tryz.underlying84
 have hu2:=Tryz.underlying25
 have HLT:=Aside0.mk (blk_lt hb)
 have c3b0:(x2.toList ==([98,121]:List UInt8))=true:=beq_iff_eq.mpr hby
 have c3b1:(x2.toList != ([98,121]:List UInt8))=false:=bne_eq_false_iff_eq.mpr hby
 clear hb h1 hby
 go_enter Tryz.func66,Tryz.ntmps66
 go_wp2_with (first|((with_reducible refine gate_callee (f:=98) rfl ?_);refine goesL_ (some 24) rfl rfl Tryz.func98 qK rfl #[.string x0] rfl qG ?_;(refine (query_agg.calls x0 0 _ H1.out).mono ?_);rintro e w' ⟨rfl,⟨nd,rfl⟩⟩;refine ⟨_,rfl,?_⟩;have hf1:(W.drewN nd).frozen? ⟨g,0,none⟩=_:=hf0;have hz1:(W.drewN nd).cell? ⟨g,0,none⟩=some (.int .i64 0):=hz0;have hs1:((W.drewN nd).setCell ⟨g,0,none⟩ (.int .i64 0)).cell? ⟨bk,o+1,none⟩=some (.string x1):=(World.cell?_setCell_other _ _ _ _ (fun e=>hne (congrArg Addr.block e).symm)).trans hx1;have HBS:=Aside0.mk (blk_put (blk_drewN HBK.out nd) 0 (.int .i64 0) rfl)))
 go_ret
 exact ⟨rfl,(query_Parse.kept_below (below_drewN (Below.refl _ _) _) (Nat.le_of_lt HLT.out)).set 0 _⟩
theorem query_Parse.read_s2 (k:Nat) (g:Nat) (W:World) (hb:W.heap[g]?=some (.cells #[.int .i64 0, .string ⟨#[]⟩, .slice none 0 0, .slice none 0 0] 84 (0,0))) (hG:GInt W) (bk o c:Nat) (x0 x1:ByteArray) (hx0:W.cell? ⟨bk,o,none⟩=some (.string x0)) (hx1:W.cell? ⟨bk,o+1,none⟩=some (.string x1)) (hne:bk≠g) (a:Int) (hn:¬ a=0) (h1:query_agg.f x0=some a) (e0:Int) (nm:ByteArray) (ms:List S127) (h2:query_Parse.sr k x1=some (e0,nm,ms)) (he:¬ e0=0) :
  Calls Tryz.prog 66 #[.pointer (some ⟨g,0,none⟩), .slice (some ⟨bk,o,none⟩) 2 c] W fun x W'=>x = .returned (.int .i64 e0)∧query_Parse.Kept g W W':=by
 have H1:=Aside0.mk h1
 have HBK:=Aside0.mk hb
 have hz0:W.cell? ⟨g,0,none⟩=some (.int .i64 0):=(blk_cell hb 0).trans rfl
 have hf0:=blk_frozen hb 0
 have hu1:=Tryz.underlying84
 have hu2:=Tryz.underlying25
 have HLT:=Aside0.mk (blk_lt hb)
 have HG:=Aside0.mk hG
 clear hG
 have H2:=Aside0.mk h2
 have na0:(a ==0)=false:=beq_eq_false_iff_ne.mpr hn
 have na1:(a != 0)=true:=bne_iff_ne.mpr hn
 have na2:decide (a=0)=false:=decide_eq_false hn
 have nb0:(e0 ==0)=false:=beq_eq_false_iff_ne.mpr he
 have nb1:(e0 != 0)=true:=bne_iff_ne.mpr he
 clear hb h1 h2 hn he
 go_enter Tryz.func66,Tryz.ntmps66
 go_wp2_with (first|((with_reducible refine gate_callee (f:=98) rfl ?_);refine goesL_ (some 24) rfl rfl Tryz.func98 qK rfl #[.string x0] rfl qG ?_;(refine (query_agg.calls x0 a _ H1.out).mono ?_);rintro e w' ⟨rfl,⟨nd,rfl⟩⟩;refine ⟨_,rfl,?_⟩;have hf1:(W.drewN nd).frozen? ⟨g,0,none⟩=_:=hf0;have hz1:(W.drewN nd).cell? ⟨g,0,none⟩=some (.int .i64 0):=hz0;have hs1:((W.drewN nd).setCell ⟨g,0,none⟩ (.int .i64 a)).cell? ⟨bk,o+1,none⟩=some (.string x1):=(World.cell?_setCell_other _ _ _ _ (fun e=>hne (congrArg Addr.block e).symm)).trans hx1;have HBS:=Aside0.mk (blk_put (blk_drewN HBK.out nd) 0 (.int .i64 a) rfl))|((with_reducible refine gate_callee (f:=115) rfl ?_);refine goesL_ (some 38) rfl rfl Tryz.func115 qK rfl #[.pointer (some ⟨g,0,none⟩), .string x1] rfl qG ?_;(refine (query_Parse.series k x1 g _ (gint_int (gint_at HG.out (below_drewN (Below.refl _ _) nd))) a _ _ _ e0 nm ms HBS.out H2.out).mono ?_);rintro e w2 ⟨rfl,hk2,hz2⟩;refine ⟨_,rfl,?_⟩;have HK2:=Aside0.mk hk2;have HZ2:=Aside0.mk hz2;clear hk2 hz2))
 go_ret
 exact ⟨rfl,((query_Parse.kept_below (below_drewN (Below.refl _ _) nd) (Nat.le_of_lt HLT.out)).set 0 (.int .i64 a)).trans HK2.out⟩
theorem query_Parse.read_s4 (k:Nat) (g:Nat) (W:World) (hb:W.heap[g]?=some (.cells #[.int .i64 0, .string ⟨#[]⟩, .slice none 0 0, .slice none 0 0] 84 (0,0))) (hG:GInt W) (bk o c:Nat) (x0 x1 x2 x3:ByteArray) (hx0:W.cell? ⟨bk,o,none⟩=some (.string x0)) (hx1:W.cell? ⟨bk,o+1,none⟩=some (.string x1)) (hx2:W.cell? ⟨bk,o+2,none⟩=some (.string x2)) (hx3:W.cell? ⟨bk,o+3,none⟩=some (.string x3)) (hne:bk≠g) (hby:x2.toList=([98,121]:List UInt8)) (a:Int) (hn:¬ a=0) (h1:query_agg.f x0=some a) (e0:Int) (nm:ByteArray) (ms:List S127) (h2:query_Parse.sr k x1=some (e0,nm,ms)) (he:¬ e0=0) :
  Calls Tryz.prog 66 #[.pointer (some ⟨g,0,none⟩), .slice (some ⟨bk,o,none⟩) 4 c] W fun x W'=>x = .returned (.int .i64 e0)∧query_Parse.Kept g W W':=by
 have H1:=Aside0.mk h1
 have HBK:=Aside0.mk hb
 have hz0:W.cell? ⟨g,0,none⟩=some (.int .i64 0):=(blk_cell hb 0).trans rfl
 have hf0:=blk_frozen hb 0
 have hu1:=Tryz.underlying84
 have hu2:=Tryz.underlying25
 have HLT:=Aside0.mk (blk_lt hb)
 have HG:=Aside0.mk hG
 clear hG
 have H2:=Aside0.mk h2
 have c3b0:(x2.toList ==([98,121]:List UInt8))=true:=beq_iff_eq.mpr hby
 have c3b1:(x2.toList != ([98,121]:List UInt8))=false:=bne_eq_false_iff_eq.mpr hby
 have na0:(a ==0)=false:=beq_eq_false_iff_ne.mpr hn
 have na1:(a != 0)=true:=bne_iff_ne.mpr hn
 have na2:decide (a=0)=false:=decide_eq_false hn
 have nb0:(e0 ==0)=false:=beq_eq_false_iff_ne.mpr he
 have nb1:(e0 != 0)=true:=bne_iff_ne.mpr he
 clear hb h1 h2 hn he hby
 go_enter Tryz.func66,Tryz.ntmps66
 go_wp2_with (first|((with_reducible refine gate_callee (f:=98) rfl ?_);refine goesL_ (some 24) rfl rfl Tryz.func98 qK rfl #[.string x0] rfl qG ?_;(refine (query_agg.calls x0 a _ H1.out).mono ?_);rintro e w' ⟨rfl,⟨nd,rfl⟩⟩;refine ⟨_,rfl,?_⟩;have hf1:(W.drewN nd).frozen? ⟨g,0,none⟩=_:=hf0;have hz1:(W.drewN nd).cell? ⟨g,0,none⟩=some (.int .i64 0):=hz0;have hs1:((W.drewN nd).setCell ⟨g,0,none⟩ (.int .i64 a)).cell? ⟨bk,o+1,none⟩=some (.string x1):=(World.cell?_setCell_other _ _ _ _ (fun e=>hne (congrArg Addr.block e).symm)).trans hx1;have HBS:=Aside0.mk (blk_put (blk_drewN HBK.out nd) 0 (.int .i64 a) rfl))|((with_reducible refine gate_callee (f:=115) rfl ?_);refine goesL_ (some 38) rfl rfl Tryz.func115 qK rfl #[.pointer (some ⟨g,0,none⟩), .string x1] rfl qG ?_;(refine (query_Parse.series k x1 g _ (gint_int (gint_at HG.out (below_drewN (Below.refl _ _) nd))) a _ _ _ e0 nm ms HBS.out H2.out).mono ?_);rintro e w2 ⟨rfl,hk2,hz2⟩;refine ⟨_,rfl,?_⟩;have HK2:=Aside0.mk hk2;have HZ2:=Aside0.mk hz2;clear hk2 hz2))
 go_ret
 exact ⟨rfl,((query_Parse.kept_below (below_drewN (Below.refl _ _) nd) (Nat.le_of_lt HLT.out)).set 0 (.int .i64 a)).trans HK2.out⟩
theorem query_Parse.read_g2 (k:Nat) (g:Nat) (W:World) (hb:W.heap[g]?=some (.cells #[.int .i64 0, .string ⟨#[]⟩, .slice none 0 0, .slice none 0 0] 84 (0,0))) (hG:GInt W) (bk o c:Nat) (x0 x1:ByteArray) (hx0:W.cell? ⟨bk,o,none⟩=some (.string x0)) (hx1:W.cell? ⟨bk,o+1,none⟩=some (.string x1)) (hne:bk≠g) (a:Int) (hn:¬ a=0) (h1:query_agg.f x0=some a) (nm:ByteArray) (ms:List S127) (h2:query_Parse.sr k x1=some (0,nm,ms)) (p:List ByteArray) (hp:p=[]) (e1:Int) (h3:query_names.f k p=some e1) :
  Calls Tryz.prog 66 #[.pointer (some ⟨g,0,none⟩), .slice (some ⟨bk,o,none⟩) 2 c] W fun x W'=>x = .returned (.int .i64 e1)∧query_Parse.Kept g W W'∧∃ vM vB,W'.heap[g]?=some (.cells #[.int .i64 a, .string nm,vM,vB] 84 (0,0))∧Kd.R k127 127 W' W.heap.size (fun _=>True) vM ms∧Kd.R Kd.string 9 W' W.heap.size (fun _=>True) vB p:=by
 have H1:=Aside0.mk h1
 have HBK:=Aside0.mk hb
 have hz0:W.cell? ⟨g,0,none⟩=some (.int .i64 0):=(blk_cell hb 0).trans rfl
 have hf0:=blk_frozen hb 0
 have hu1:=Tryz.underlying84
 have hu2:=Tryz.underlying25
 have HLT:=Aside0.mk (blk_lt hb)
 have HG:=Aside0.mk hG
 clear hG
 subst hp
 have H2:=Aside0.mk h2
 have H3:=Aside0.mk h3
 have na0:(a ==0)=false:=beq_eq_false_iff_ne.mpr hn
 have na1:(a != 0)=true:=bne_iff_ne.mpr hn
 have na2:decide (a=0)=false:=decide_eq_false hn
 clear hb h1 h2 h3 hn
 go_enter Tryz.func66,Tryz.ntmps66
 go_wp2_with (first|((with_reducible refine gate_callee (f:=98) rfl ?_);refine goesL_ (some 24) rfl rfl Tryz.func98 qK rfl #[.string x0] rfl qG ?_;(refine (query_agg.calls x0 a _ H1.out).mono ?_);rintro e w' ⟨rfl,⟨nd,rfl⟩⟩;refine ⟨_,rfl,?_⟩;have hf1:(W.drewN nd).frozen? ⟨g,0,none⟩=_:=hf0;have hz1:(W.drewN nd).cell? ⟨g,0,none⟩=some (.int .i64 0):=hz0;have hs1:((W.drewN nd).setCell ⟨g,0,none⟩ (.int .i64 a)).cell? ⟨bk,o+1,none⟩=some (.string x1):=(World.cell?_setCell_other _ _ _ _ (fun e=>hne (congrArg Addr.block e).symm)).trans hx1;have HBS:=Aside0.mk (blk_put (blk_drewN HBK.out nd) 0 (.int .i64 a) rfl))|((with_reducible refine gate_callee (f:=115) rfl ?_);refine goesL_ (some 38) rfl rfl Tryz.func115 qK rfl #[.pointer (some ⟨g,0,none⟩), .string x1] rfl qG ?_;(refine (query_Parse.series k x1 g _ (gint_int (gint_at HG.out (below_drewN (Below.refl _ _) nd))) a _ _ _ 0 nm ms HBS.out H2.out).mono ?_);rintro e w2 ⟨rfl,hk2,hz2⟩;refine ⟨_,rfl,?_⟩;obtain ⟨vM,hbk2,hR2⟩:=hz2 rfl;have HK2:=Aside0.mk (((query_Parse.kept_below (below_drewN (Below.refl _ _) nd) (Nat.le_of_lt HLT.out)).set 0 (.int .i64 a)).trans hk2);have HZ2:=Aside0.mk hbk2;have HR2:=Aside0.mk (Kd.R_lower hR2 ((query_Parse.kept_below (below_drewN (Below.refl _ _) nd) (Nat.le_of_lt HLT.out)).set 0 (.int .i64 a)).2.1);have hl2:w2.cell? ⟨g,3,none⟩=some (.slice none 0 0):=(blk_cell hbk2 3).trans rfl;have hf3:=blk_frozen hbk2 3;clear hk2 hz2 hbk2 hR2)|((with_reducible refine gate_callee (f:=53) rfl ?_);refine goesL_ (some 58) rfl rfl Tryz.func53 qK rfl #[.slice none 0 0] rfl qG ?_;(refine (query_names.calls k none 0 [] e1 _ (Kd.C_nil _ _) (Nat.le_refl 0) H3.out).mono ?_);rintro e w5 ⟨rfl,hb5⟩;refine ⟨_,rfl,?_⟩;have HB5:=Aside0.mk hb5;clear hb5))
 go_ret
 exact ⟨rfl,HK2.out.trans (query_Parse.kept_below HB5.out (Nat.le_of_lt (blk_lt HZ2.out))),vM,_,blk_below HZ2.out HB5.out,Kd.R_below HR2.out HB5.out,Kd.R_nil _ _ _ _ _⟩
theorem query_Parse.read_g4 (k:Nat) (g:Nat) (W:World) (hb:W.heap[g]?=some (.cells #[.int .i64 0, .string ⟨#[]⟩, .slice none 0 0, .slice none 0 0] 84 (0,0))) (hG:GInt W) (bk o c:Nat) (x0 x1 x2 x3:ByteArray) (hx0:W.cell? ⟨bk,o,none⟩=some (.string x0)) (hx1:W.cell? ⟨bk,o+1,none⟩=some (.string x1)) (hx2:W.cell? ⟨bk,o+2,none⟩=some (.string x2)) (hx3:W.cell? ⟨bk,o+3,none⟩=some (.string x3)) (hne:bk≠g) (hby:x2.toList=([98,121]:List UInt8)) (a:Int) (hn:¬ a=0) (h1:query_agg.f x0=some a) (nm:ByteArray) (ms:List S127) (h2:query_Parse.sr k x1=some (0,nm,ms)) (p:List ByteArray) (hp:word_Split.f k x3 44=some p) (e1:Int) (h3:query_names.f k p=some e1) :
  Calls Tryz.prog 66 #[.pointer (some ⟨g,0,none⟩), .slice (some ⟨bk,o,none⟩) 4 c] W fun x W'=>x = .returned (.int .i64 e1)∧query_Parse.Kept g W W'∧∃ vM vB,W'.heap[g]?=some (.cells #[.int .i64 a, .string nm,vM,vB] 84 (0,0))∧Kd.R k127 127 W' W.heap.size (fun _=>True) vM ms∧Kd.R Kd.string 9 W' W.heap.size (fun _=>True) vB p:=by
 have H1:=Aside0.mk h1
 have HBK:=Aside0.mk hb
 have hz0:W.cell? ⟨g,0,none⟩=some (.int .i64 0):=(blk_cell hb 0).trans rfl
 have hf0:=blk_frozen hb 0
 have hu1:=Tryz.underlying84
 have hu2:=Tryz.underlying25
 have HLT:=Aside0.mk (blk_lt hb)
 have HG:=Aside0.mk hG
 clear hG
 have HP:=Aside0.mk hp
 have H2:=Aside0.mk h2
 have H3:=Aside0.mk h3
 have HX3:=Aside0.mk hx3
 have c3b0:(x2.toList ==([98,121]:List UInt8))=true:=beq_iff_eq.mpr hby
 have c3b1:(x2.toList != ([98,121]:List UInt8))=false:=bne_eq_false_iff_eq.mpr hby
 have na0:(a ==0)=false:=beq_eq_false_iff_ne.mpr hn
 have na1:(a != 0)=true:=bne_iff_ne.mpr hn
 have na2:decide (a=0)=false:=decide_eq_false hn
 clear hb h1 h2 h3 hn hp hby hx3
 go_enter Tryz.func66,Tryz.ntmps66
 go_wp2_with (first|((with_reducible refine gate_callee (f:=98) rfl ?_);refine goesL_ (some 24) rfl rfl Tryz.func98 qK rfl #[.string x0] rfl qG ?_;(refine (query_agg.calls x0 a _ H1.out).mono ?_);rintro e w' ⟨rfl,⟨nd,rfl⟩⟩;refine ⟨_,rfl,?_⟩;have hf1:(W.drewN nd).frozen? ⟨g,0,none⟩=_:=hf0;have hz1:(W.drewN nd).cell? ⟨g,0,none⟩=some (.int .i64 0):=hz0;have hs1:((W.drewN nd).setCell ⟨g,0,none⟩ (.int .i64 a)).cell? ⟨bk,o+1,none⟩=some (.string x1):=(World.cell?_setCell_other _ _ _ _ (fun e=>hne (congrArg Addr.block e).symm)).trans hx1;have HBS:=Aside0.mk (blk_put (blk_drewN HBK.out nd) 0 (.int .i64 a) rfl))|((with_reducible refine gate_callee (f:=115) rfl ?_);refine goesL_ (some 38) rfl rfl Tryz.func115 qK rfl #[.pointer (some ⟨g,0,none⟩), .string x1] rfl qG ?_;(refine (query_Parse.series k x1 g _ (gint_int (gint_at HG.out (below_drewN (Below.refl _ _) nd))) a _ _ _ 0 nm ms HBS.out H2.out).mono ?_);rintro e w2 ⟨rfl,hk2,hz2⟩;refine ⟨_,rfl,?_⟩;obtain ⟨vM,hbk2,hR2⟩:=hz2 rfl;have HK2:=Aside0.mk (((query_Parse.kept_below (below_drewN (Below.refl _ _) nd) (Nat.le_of_lt HLT.out)).set 0 (.int .i64 a)).trans hk2);have HZ2:=Aside0.mk hbk2;have HR2:=Aside0.mk (Kd.R_lower hR2 ((query_Parse.kept_below (below_drewN (Below.refl _ _) nd) (Nat.le_of_lt HLT.out)).set 0 (.int .i64 a)).2.1);have hl2:w2.cell? ⟨g,3,none⟩=some (.slice none 0 0):=(blk_cell hbk2 3).trans rfl;have hf3:=blk_frozen hbk2 3;have hs3:w2.cell? ⟨bk,o+3,none⟩=some (.string x3):=query_Parse.kept_cell HK2.out HX3.out hne;clear hk2 hz2 hbk2 hR2)|((with_reducible refine gate_callee (f:=116) rfl ?_);refine goesL_ (some 49) rfl rfl Tryz.func116 qK rfl #[.string x3, .int .u8 44] rfl qG ?_;(refine (word_Split.calls k x3 44 p _ HP.out).mono ?_);rintro e w3 ⟨vP,rfl,ho,hb3⟩;refine ⟨_,rfl,?_⟩;obtain ⟨Ap,cp,rfl⟩:=Kd.R_slice ho;have HO:=Aside0.mk ho;have HB3:=Aside0.mk hb3;have hbk3:=blk_below HZ2.out hb3;have hl3:w3.cell? ⟨g,3,none⟩=some (.slice none 0 0):=(blk_cell hbk3 3).trans rfl;have hf3':=blk_frozen hbk3 3;have HZ3:=Aside0.mk (blk_put hbk3 3 (.slice Ap p.length cp) rfl);clear ho hb3 hbk3)|((with_reducible refine gate_callee (f:=53) rfl ?_);refine goesL_ (some 58) rfl rfl Tryz.func53 qK rfl #[.slice Ap p.length cp] rfl qG ?_;(refine (query_names.calls k Ap cp p e1 _ (Kd.R_reads' (Kd.R_far (Kd.R_newB HO.out HZ2.out) (fun _ hk=>hk.2) _)).2.2 (Kd.R_reads' HO.out).2.1 H3.out).mono ?_);rintro e w5 ⟨rfl,hb5⟩;refine ⟨_,rfl,?_⟩;have HB5:=Aside0.mk hb5;clear hb5))
 go_ret
 have hs2:W.heap.size≤w2.heap.size:=HK2.out.2.1
 have hk3:query_Parse.Kept g W w3:=HK2.out.trans (query_Parse.kept_below HB3.out (Nat.le_of_lt (blk_lt HZ2.out)))
 refine ⟨rfl,(hk3.set 3 (.slice Ap p.length cp)).trans (query_Parse.kept_below HB5.out (Nat.le_of_lt (blk_lt HZ3.out))),vM,_,blk_below HZ3.out HB5.out,?_,?_⟩
 ·exact Kd.R_mono (Kd.R_below (Kd.R_far (Kd.R_below (Kd.R_newB HR2.out HBK.out) HB3.out) (fun _ hk=>hk.2) _) HB5.out) (fun _ _=>trivial)
 ·exact Kd.R_mono (Kd.R_below (Kd.R_far (Kd.R_lower (Kd.R_newB HO.out HZ2.out) hs2) (fun _ hk=>hk.2) _) HB5.out) (fun _ _=>trivial)
theorem query_Parse.read_t2 (k:Nat) (g:Nat) (W:World) (hb:W.heap[g]?=some (.cells #[.int .i64 0, .string ⟨#[]⟩, .slice none 0 0, .slice none 0 0] 84 (0,0))) (hG:GInt W) (bk o c:Nat) (x0 x1:ByteArray) (hx0:W.cell? ⟨bk,o,none⟩=some (.string x0)) (hx1:W.cell? ⟨bk,o+1,none⟩=some (.string x1)) (hne:bk≠g) (e1 a:Int) (nm:ByteArray) (ms:List S127) (p:List ByteArray) (h:query_Parse.rd1 k x0 x1 none=some (e1,a,nm,ms,p)) :
  Calls Tryz.prog 66 #[.pointer (some ⟨g,0,none⟩), .slice (some ⟨bk,o,none⟩) 2 c] W fun x W'=>x = .returned (.int .i64 e1)∧query_Parse.Kept g W W'∧(e1=0→∃ vM vB,W'.heap[g]?=some (.cells #[.int .i64 a, .string nm,vM,vB] 84 (0,0))∧Kd.R k127 127 W' W.heap.size (fun _=>True) vM ms∧Kd.R Kd.string 9 W' W.heap.size (fun _=>True) vB p):=by
 have bad:∀ {x:Ending} {W':World} {e:Int},¬ e=0→x = .returned (.int .i64 e)∧query_Parse.Kept g W W'→(e,0,⟨#[]⟩,[],[])=(e1,a,nm,ms,p)→x = .returned (.int .i64 e1)∧query_Parse.Kept g W W'∧(e1=0→∃ vM vB,W'.heap[g]?=some (.cells #[.int .i64 a, .string nm,vM,vB] 84 (0,0))∧Kd.R k127 127 W' W.heap.size (fun _=>True) vM ms∧Kd.R Kd.string 9 W' W.heap.size (fun _=>True) vB p):=by
  rintro x W' e he ⟨rfl,h1⟩ h2
  simp only [Prod.mk.injEq] at h2
  obtain ⟨rfl,rfl,rfl,rfl,rfl⟩:=h2
  exact ⟨rfl,h1,fun h=>absurd h he⟩
 obtain ⟨a',h1,h⟩:=Option.bind_eq_some_iff.mp h
 by_cases ha:a'=0
 ·replace h:=(if_pos ha).symm.trans h
  subst ha
  exact (query_Parse.read_n2 k g W hb bk o c x0 x1 hx0 hx1 hne h1).mono (fun _ _ hx=>bad (by decide) hx (Option.some.inj h))
 replace h:=(if_neg ha).symm.trans h
 obtain ⟨⟨e0,nm',ms'⟩,h2,h⟩:=Option.bind_eq_some_iff.mp h
 by_cases he:e0=0
 rotate_left
 ·replace h:=(if_neg he).symm.trans h
  exact (query_Parse.read_s2 k g W hb hG bk o c x0 x1 hx0 hx1 hne a' ha h1 e0 nm' ms' h2 he).mono (fun _ _ hx=>bad he hx (Option.some.inj h))
 replace h:=(if_pos he).symm.trans h
 subst he
 obtain ⟨p',hp,h⟩:=Option.bind_eq_some_iff.mp h
 obtain ⟨e',h3,h⟩:=Option.bind_eq_some_iff.mp h
 simp only [Option.some.injEq,Prod.mk.injEq] at h
 obtain ⟨rfl,rfl,rfl,rfl,rfl⟩:=h
 exact (query_Parse.read_g2 k g W hb hG bk o c x0 x1 hx0 hx1 hne a' ha h1 nm' ms' h2 p' (Option.some.inj hp).symm e' h3).mono (fun _ _ hx=>⟨hx.1,hx.2.1,fun _=>hx.2.2⟩)
theorem query_Parse.read_t4 (k:Nat) (g:Nat) (W:World) (hb:W.heap[g]?=some (.cells #[.int .i64 0, .string ⟨#[]⟩, .slice none 0 0, .slice none 0 0] 84 (0,0))) (hG:GInt W) (bk o c:Nat) (x0 x1 x2 x3:ByteArray) (hx0:W.cell? ⟨bk,o,none⟩=some (.string x0)) (hx1:W.cell? ⟨bk,o+1,none⟩=some (.string x1)) (hx2:W.cell? ⟨bk,o+2,none⟩=some (.string x2)) (hx3:W.cell? ⟨bk,o+3,none⟩=some (.string x3)) (hne:bk≠g) (hby:x2.toList=([98,121]:List UInt8)) (e1 a:Int) (nm:ByteArray) (ms:List S127) (p:List ByteArray) (h:query_Parse.rd1 k x0 x1 (some x3)=some (e1,a,nm,ms,p)) :
  Calls Tryz.prog 66 #[.pointer (some ⟨g,0,none⟩), .slice (some ⟨bk,o,none⟩) 4 c] W fun x W'=>x = .returned (.int .i64 e1)∧query_Parse.Kept g W W'∧(e1=0→∃ vM vB,W'.heap[g]?=some (.cells #[.int .i64 a, .string nm,vM,vB] 84 (0,0))∧Kd.R k127 127 W' W.heap.size (fun _=>True) vM ms∧Kd.R Kd.string 9 W' W.heap.size (fun _=>True) vB p):=by
 have bad:∀ {x:Ending} {W':World} {e:Int},¬ e=0→x = .returned (.int .i64 e)∧query_Parse.Kept g W W'→(e,0,⟨#[]⟩,[],[])=(e1,a,nm,ms,p)→x = .returned (.int .i64 e1)∧query_Parse.Kept g W W'∧(e1=0→∃ vM vB,W'.heap[g]?=some (.cells #[.int .i64 a, .string nm,vM,vB] 84 (0,0))∧Kd.R k127 127 W' W.heap.size (fun _=>True) vM ms∧Kd.R Kd.string 9 W' W.heap.size (fun _=>True) vB p):=by
  rintro x W' e he ⟨rfl,h1⟩ h2
  simp only [Prod.mk.injEq] at h2
  obtain ⟨rfl,rfl,rfl,rfl,rfl⟩:=h2
  exact ⟨rfl,h1,fun h=>absurd h he⟩
 obtain ⟨a',h1,h⟩:=Option.bind_eq_some_iff.mp h
 by_cases ha:a'=0
 ·replace h:=(if_pos ha).symm.trans h
  subst ha
  exact (query_Parse.read_n4 k g W hb bk o c x0 x1 x2 x3 hx0 hx1 hx2 hx3 hne hby h1).mono (fun _ _ hx=>bad (by decide) hx (Option.some.inj h))
 replace h:=(if_neg ha).symm.trans h
 obtain ⟨⟨e0,nm',ms'⟩,h2,h⟩:=Option.bind_eq_some_iff.mp h
 by_cases he:e0=0
 rotate_left
 ·replace h:=(if_neg he).symm.trans h
  exact (query_Parse.read_s4 k g W hb hG bk o c x0 x1 x2 x3 hx0 hx1 hx2 hx3 hne hby a' ha h1 e0 nm' ms' h2 he).mono (fun _ _ hx=>bad he hx (Option.some.inj h))
 replace h:=(if_pos he).symm.trans h
 subst he
 obtain ⟨p',hp,h⟩:=Option.bind_eq_some_iff.mp h
 obtain ⟨e',h3,h⟩:=Option.bind_eq_some_iff.mp h
 simp only [Option.some.injEq,Prod.mk.injEq] at h
 obtain ⟨rfl,rfl,rfl,rfl,rfl⟩:=h
 exact (query_Parse.read_g4 k g W hb hG bk o c x0 x1 x2 x3 hx0 hx1 hx2 hx3 hne hby a' ha h1 nm' ms' h2 p' hp e' h3).mono (fun _ _ hx=>⟨hx.1,hx.2.1,fun _=>hx.2.2⟩)
theorem query_Parse.read (k:Nat) (g:Nat) (W:World) (hb:W.heap[g]?=some (.cells #[.int .i64 0, .string ⟨#[]⟩, .slice none 0 0, .slice none 0 0] 84 (0,0))) (hG:GInt W) (A:Option Addr) (c:Nat) (l:List ByteArray) (hr:Kd.C Kd.string W A l.length l) (hA:∀ ad,A=some ad→ad.block≠g) (e1 a:Int) (nm:ByteArray) (ms:List S127) (p:List ByteArray) (h:query_Parse.rd k l=some (e1,a,nm,ms,p)) :
  Calls Tryz.prog 66 #[.pointer (some ⟨g,0,none⟩), .slice A l.length c] W fun x W'=>x = .returned (.int .i64 e1)∧query_Parse.Kept g W W'∧(e1=0→∃ vM vB,W'.heap[g]?=some (.cells #[.int .i64 a, .string nm,vM,vB] 84 (0,0))∧Kd.R k127 127 W' W.heap.size (fun _=>True) vM ms∧Kd.R Kd.string 9 W' W.heap.size (fun _=>True) vB p):=by
 have bad:∀ {x:Ending} {W':World} {e:Int},¬ e=0→x = .returned (.int .i64 e)∧query_Parse.Kept g W W'→(e,0,⟨#[]⟩,[],[])=(e1,a,nm,ms,p)→x = .returned (.int .i64 e1)∧query_Parse.Kept g W W'∧(e1=0→∃ vM vB,W'.heap[g]?=some (.cells #[.int .i64 a, .string nm,vM,vB] 84 (0,0))∧Kd.R k127 127 W' W.heap.size (fun _=>True) vM ms∧Kd.R Kd.string 9 W' W.heap.size (fun _=>True) vB p):=by
  rintro x W' e he ⟨rfl,h1⟩ h2
  simp only [Prod.mk.injEq] at h2
  obtain ⟨rfl,rfl,rfl,rfl,rfl⟩:=h2
  exact ⟨rfl,h1,fun h=>absurd h he⟩
 have len:l.length≠2→l.length≠4→(2,0,⟨#[]⟩,[],[])=(e1,a,nm,ms,p)→Calls Tryz.prog 66 #[.pointer (some ⟨g,0,none⟩), .slice A l.length c] W fun x W'=>x = .returned (.int .i64 e1)∧query_Parse.Kept g W W'∧(e1=0→∃ vM vB,W'.heap[g]?=some (.cells #[.int .i64 a, .string nm,vM,vB] 84 (0,0))∧Kd.R k127 127 W' W.heap.size (fun _=>True) vM ms∧Kd.R Kd.string 9 W' W.heap.size (fun _=>True) vB p):=fun h2 h4 h=>(query_Parse.read_a k g W hb A l.length c h2 h4).mono (fun _ _ hx=>bad (by decide) hx h)
 match l,h with
 | [x0,x1],h =>
  obtain ⟨bk,o,rfl,hc,_⟩:=Go.Proofs.YteaadaaghhojfaaGreatDoorW.XW.C_strings hr (by simp)
  exact query_Parse.read_t2 k g W hb hG bk o c x0 x1 (hc 0 x0 rfl) (hc 1 x1 rfl) (hA _ rfl) e1 a nm ms p h
 | [x0,x1,x2,x3],h =>
  obtain ⟨bk,o,rfl,hc,_⟩:=Go.Proofs.YteaadaaghhojfaaGreatDoorW.XW.C_strings hr (by simp)
  by_cases hby:x2.toList=([98,121]:List UInt8)
  ·replace h:=(if_pos hby).symm.trans h
   exact query_Parse.read_t4 k g W hb hG bk o c x0 x1 x2 x3 (hc 0 x0 rfl) (hc 1 x1 rfl) (hc 2 x2 rfl) (hc 3 x3 rfl) (hA _ rfl) hby e1 a nm ms p h
  replace h:=(if_neg hby).symm.trans h
  exact (query_Parse.read_b k g W hb bk o c x0 x1 x2 x3 (hc 0 x0 rfl) (hc 1 x1 rfl) (hc 2 x2 rfl) (hc 3 x3 rfl) (hA _ rfl) hby).mono (fun _ _ hx=>bad (by decide) hx (Option.some.inj h))
 | [],h=>exact len (by simp) (by simp) (Option.some.inj h)
 | [_],h=>exact len (by simp) (by simp) (Option.some.inj h)
 | [_,_,_],h=>exact len (by simp) (by simp) (Option.some.inj h)
 | _ ::_ ::_ ::_ ::_ ::_,h=>exact len (by simp) (by simp) (Option.some.inj h)
theorem query_Parse.parse_e (k:Nat) (a0:ByteArray) (l:List ByteArray) (hf:word_Fields.f k a0=some l) (a:Int) (nm:ByteArray) (ms:List S127) (p:List ByteArray) (e0:Int) (hne:¬ e0=0) (hrd:query_Parse.rd k l=some (e0,a,nm,ms,p)) (w:World) (hG:GInt w) :
  Calls Tryz.prog 20 #[.string a0] w fun e w'=>∃ v1_ v2_:Value,e = .returned (.tuple #[.agg #[.int .i64 0, .string ⟨#[]⟩,v1_,v2_], .int .i64 e0])∧Kd.R k127 127 w' w.heap.size (fun _=>True) v1_ []∧Kd.R Kd.string 9 w' w.heap.size (fun _=>True) v2_ []∧Below w.heap.size w w':=by
 have HG:=Aside0.mk hG
 clear hG
 have HF:=Aside0.mk hf
 have HRD:=Aside0.mk hrd
 have hu1:=Tryz.underlying84
 have hu2:=Tryz.underlying25
 have nb0:(e0 ==0)=false:=beq_eq_false_iff_ne.mpr hne
 have nb1:(e0 != 0)=true:=bne_iff_ne.mpr hne
 clear hf hrd hne
 go_enter Tryz.func20,Tryz.ntmps20
 go_wp2_with (first|((with_reducible refine gate_dst (N:=2) rfl ?_);refine box_event ?hg (N:=2) ?hd (cs:=#[.int .i64 0, .string ⟨#[]⟩, .slice none 0 0, .slice none 0 0]) (t:=25) ?hr ?_;(case hd=>rfl);(case hg=>rfl);(case hr=>first|(go_simp;done)|(go_simp;rfl));intro gr hgr w1 hbox hb;have HB1:=Aside0.mk hb;have GR:=Aside0.mk (show w.heap.size≤gr by rw [hgr];exact Nat.le_refl _);have BR:=Aside0.mk hbox;clear hbox hb hgr)|((with_reducible refine gate_dst (N:=4) rfl ?_);refine box_event ?hg (N:=4) ?hd (cs:=#[.int .i64 0, .string ⟨#[]⟩, .slice none 0 0, .slice none 0 0]) (t:=84) ?hr ?_;(case hd=>rfl);(case hg=>rfl);(case hr=>first|(go_simp;done)|(go_simp;rfl));intro g hg w2 hbox hb;have HB2:=Aside0.mk (below_step HB1.out hb);have LT2:=Aside0.mk (show gr<g by rw [hg];exact blk_lt BR.out);have BR2:=Aside0.mk (blk_below BR.out hb);have BG2:=Aside0.mk hbox;have LTG:=LT2;have GG:=Aside0.mk (show w.heap.size≤g by have:=GR.out;have:=LTG.out;omega);clear hbox hb hg)|((with_reducible refine gate_callee (f:=67) rfl ?_);refine goesL_ (some 7) rfl rfl Tryz.func67 qK rfl #[.string a0] rfl qG ?_;(refine (word_Fields.calls k a0 l _ HF.out).mono ?_);rintro e w3 ⟨vL,rfl,ho,hb3⟩;refine ⟨_,rfl,?_⟩;obtain ⟨AL,cL,rfl⟩:=Kd.R_slice ho;have HO:=Aside0.mk ho;have HB3:=Aside0.mk (below_step HB2.out hb3);have BR3:=Aside0.mk (blk_below BR2.out hb3);have BG3:=Aside0.mk (blk_below BG2.out hb3);have HA:=Aside0.mk (show ∀ ad,AL=some ad→ad.block≠g from fun ad e=>by subst e;have h1:=Kd.R_base ho ad.block rfl;have h2:=blk_lt BG2.out;omega);clear ho hb3)|((with_reducible refine gate_callee (f:=66) rfl ?_);refine goesL_ (some 8) rfl rfl Tryz.func66 qK rfl #[.pointer (some ⟨g,0,none⟩), .slice AL l.length cL] rfl qG ?_;(refine (query_Parse.read k g _ BG3.out (gint_at HG.out HB3.out) AL cL l (Kd.R_reads' HO.out).2.2 HA.out e0 a nm ms p HRD.out).mono ?_);rintro e w4 ⟨rfl,hk4,hz4⟩;refine ⟨_,rfl,?_⟩;have HK4:=Aside0.mk hk4;have hbr4:=(hk4.1.block gr LT2.out).trans BR3.out;have BR4:=Aside0.mk hbr4;have hf40:=blk_frozen hbr4 0;have hf41:=blk_frozen hbr4 1;have hf42:=blk_frozen hbr4 2;have hf43:=blk_frozen hbr4 3;have hr40:w4.cell? ⟨gr,0,none⟩=some (.int .i64 0):=(blk_cell hbr4 0).trans rfl;have hr41:w4.cell? ⟨gr,1,none⟩=some (.string ⟨#[]⟩):=(blk_cell hbr4 1).trans rfl;have hr42:w4.cell? ⟨gr,2,none⟩=some (.slice none 0 0):=(blk_cell hbr4 2).trans rfl;have hr43:w4.cell? ⟨gr,3,none⟩=some (.slice none 0 0):=(blk_cell hbr4 3).trans rfl;clear hk4 hbr4;clear hz4))
 refine bodyPost_ret (results_ct rfl _ _ gr 25 #[.int .i64 0, .string ⟨#[]⟩, .slice none 0 0, .slice none 0 0] (0,0) _ rfl (blk_put (blk_put (blk_put (blk_put (BR4.out) 0 (Value.int .i64 0) rfl) 1 (Value.string ⟨#[]⟩) rfl) 2 (Value.slice none 0 0) rfl) 3 (Value.slice none 0 0) rfl) Tryz.underlying25 rfl qK) rfl ?_
 exact ⟨_,_,rfl,Kd.R_nil _ _ _ _ _,Kd.R_nil _ _ _ _ _,((((HB3.out.trans (HK4.out.1.mono GG.out)).setCell GR.out _).setCell GR.out _).setCell GR.out _).setCell GR.out _⟩
theorem query_Parse.parse_g (k:Nat) (a0:ByteArray) (l:List ByteArray) (hf:word_Fields.f k a0=some l) (a:Int) (nm:ByteArray) (ms:List S127) (p:List ByteArray) (hrd:query_Parse.rd k l=some (0,a,nm,ms,p)) (w:World) (hG:GInt w) :
  Calls Tryz.prog 20 #[.string a0] w fun e w'=>∃ v1_ v2_:Value,e = .returned (.tuple #[.agg #[.int .i64 a, .string nm,v1_,v2_], .int .i64 0])∧Kd.R k127 127 w' w.heap.size (fun _=>True) v1_ ms∧Kd.R Kd.string 9 w' w.heap.size (fun _=>True) v2_ p∧Below w.heap.size w w':=by
 have HG:=Aside0.mk hG
 clear hG
 have HF:=Aside0.mk hf
 have HRD:=Aside0.mk hrd
 have hu1:=Tryz.underlying84
 have hu2:=Tryz.underlying25
 clear hf hrd
 go_enter Tryz.func20,Tryz.ntmps20
 go_wp2_with (first|((with_reducible refine gate_dst (N:=2) rfl ?_);refine box_event ?hg (N:=2) ?hd (cs:=#[.int .i64 0, .string ⟨#[]⟩, .slice none 0 0, .slice none 0 0]) (t:=25) ?hr ?_;(case hd=>rfl);(case hg=>rfl);(case hr=>first|(go_simp;done)|(go_simp;rfl));intro gr hgr w1 hbox hb;have HB1:=Aside0.mk hb;have GR:=Aside0.mk (show w.heap.size≤gr by rw [hgr];exact Nat.le_refl _);have BR:=Aside0.mk hbox;clear hbox hb hgr)|((with_reducible refine gate_dst (N:=4) rfl ?_);refine box_event ?hg (N:=4) ?hd (cs:=#[.int .i64 0, .string ⟨#[]⟩, .slice none 0 0, .slice none 0 0]) (t:=84) ?hr ?_;(case hd=>rfl);(case hg=>rfl);(case hr=>first|(go_simp;done)|(go_simp;rfl));intro g hg w2 hbox hb;have HB2:=Aside0.mk (below_step HB1.out hb);have LT2:=Aside0.mk (show gr<g by rw [hg];exact blk_lt BR.out);have BR2:=Aside0.mk (blk_below BR.out hb);have BG2:=Aside0.mk hbox;have LTG:=LT2;have GG:=Aside0.mk (show w.heap.size≤g by have:=GR.out;have:=LTG.out;omega);clear hbox hb hg)|((with_reducible refine gate_callee (f:=67) rfl ?_);refine goesL_ (some 7) rfl rfl Tryz.func67 qK rfl #[.string a0] rfl qG ?_;(refine (word_Fields.calls k a0 l _ HF.out).mono ?_);rintro e w3 ⟨vL,rfl,ho,hb3⟩;refine ⟨_,rfl,?_⟩;obtain ⟨AL,cL,rfl⟩:=Kd.R_slice ho;have HO:=Aside0.mk ho;have HB3:=Aside0.mk (below_step HB2.out hb3);have BR3:=Aside0.mk (blk_below BR2.out hb3);have BG3:=Aside0.mk (blk_below BG2.out hb3);have HA:=Aside0.mk (show ∀ ad,AL=some ad→ad.block≠g from fun ad e=>by subst e;have h1:=Kd.R_base ho ad.block rfl;have h2:=blk_lt BG2.out;omega);clear ho hb3)|((with_reducible refine gate_callee (f:=66) rfl ?_);refine goesL_ (some 8) rfl rfl Tryz.func66 qK rfl #[.pointer (some ⟨g,0,none⟩), .slice AL l.length cL] rfl qG ?_;(refine (query_Parse.read k g _ BG3.out (gint_at HG.out HB3.out) AL cL l (Kd.R_reads' HO.out).2.2 HA.out 0 a nm ms p HRD.out).mono ?_);rintro e w4 ⟨rfl,hk4,hz4⟩;refine ⟨_,rfl,?_⟩;have HK4:=Aside0.mk hk4;have hbr4:=(hk4.1.block gr LT2.out).trans BR3.out;have BR4:=Aside0.mk hbr4;have hf40:=blk_frozen hbr4 0;have hf41:=blk_frozen hbr4 1;have hf42:=blk_frozen hbr4 2;have hf43:=blk_frozen hbr4 3;have hr40:w4.cell? ⟨gr,0,none⟩=some (.int .i64 0):=(blk_cell hbr4 0).trans rfl;have hr41:w4.cell? ⟨gr,1,none⟩=some (.string ⟨#[]⟩):=(blk_cell hbr4 1).trans rfl;have hr42:w4.cell? ⟨gr,2,none⟩=some (.slice none 0 0):=(blk_cell hbr4 2).trans rfl;have hr43:w4.cell? ⟨gr,3,none⟩=some (.slice none 0 0):=(blk_cell hbr4 3).trans rfl;clear hk4 hbr4;obtain ⟨vM,vB,hbk,hM,hS⟩:=hz4 rfl;obtain ⟨Am,cm,rfl⟩:=Kd.R_slice hM;obtain ⟨As,cs,rfl⟩:=Kd.R_slice hS;have HM:=Aside0.mk hM;have HS:=Aside0.mk hS;have BG4:=Aside0.mk hbk;have hg0:w4.cell? ⟨g,0,none⟩=some (.int .i64 a):=(blk_cell hbk 0).trans rfl;have hg1:w4.cell? ⟨g,1,none⟩=some (.string nm):=(blk_cell hbk 1).trans rfl;have hg2:w4.cell? ⟨g,2,none⟩=some (.slice Am ms.length cm):=(blk_cell hbk 2).trans rfl;have hg3:w4.cell? ⟨g,3,none⟩=some (.slice As p.length cs):=(blk_cell hbk 3).trans rfl;clear hz4 hbk hM hS))
 refine bodyPost_ret (results_ct rfl _ _ gr 25 #[.int .i64 a, .string nm, .slice Am ms.length cm, .slice As p.length cs] (0,0) _ rfl (blk_put (blk_put (blk_put (blk_put (BR4.out) 0 (Value.int .i64 a) rfl) 1 (Value.string nm) rfl) 2 (Value.slice Am ms.length cm) rfl) 3 (Value.slice As p.length cs) rfl) Tryz.underlying25 rfl qK) rfl ?_
 exact ⟨_,_,rfl,Kd.R_mono (Kd.R_far (Kd.R_far (Kd.R_far (Kd.R_far (Kd.R_lower (Kd.R_newB HM.out BR3.out) HB3.out.size) (fun _ hk=>hk.2) _) (fun _ hk=>hk.2) _) (fun _ hk=>hk.2) _) (fun _ hk=>hk.2) _) (fun _ _=>trivial),Kd.R_mono (Kd.R_far (Kd.R_far (Kd.R_far (Kd.R_far (Kd.R_lower (Kd.R_newB HS.out BR3.out) HB3.out.size) (fun _ hk=>hk.2) _) (fun _ hk=>hk.2) _) (fun _ hk=>hk.2) _) (fun _ hk=>hk.2) _) (fun _ _=>trivial),((((HB3.out.trans (HK4.out.1.mono GG.out)).setCell GR.out _).setCell GR.out _).setCell GR.out _).setCell GR.out _⟩
theorem query_Parse.calls (k:Nat) (a0:ByteArray) (r1:Int) (r2:ByteArray) (r3:List S127) (r4:List ByteArray) (r5:Int) (w:World) (hG:GInt w) (h:query_Parse.f k a0=some (r1,r2,r3,r4,r5)) :
  Calls Tryz.prog 20 #[.string a0] w fun e w'=>∃ v2_ v3_:Value,e = .returned (.tuple #[.agg #[.int .i64 r1, .string r2,v2_,v3_], .int .i64 r5])∧Kd.R k127 127 w' w.heap.size (fun _=>True) v2_ r3∧Kd.R Kd.string 9 w' w.heap.size (fun _=>True) v3_ r4∧Below w.heap.size w w':=by
 obtain ⟨l,hf,h⟩:=Option.bind_eq_some_iff.mp h
 obtain ⟨⟨e0,a,nm,ms,p⟩,hrd,h⟩:=Option.bind_eq_some_iff.mp h
 by_cases he:e0=0
 rotate_left
 ·replace h:=(if_neg he).symm.trans h
  simp only [Option.some.injEq,Prod.mk.injEq] at h
  obtain ⟨rfl,rfl,rfl,rfl,rfl⟩:=h
  exact query_Parse.parse_e k a0 l hf a nm ms p _ he hrd w hG
 replace h:=(if_pos he).symm.trans h
 subst he
 simp only [Option.some.injEq,Prod.mk.injEq] at h
 obtain ⟨rfl,rfl,rfl,rfl,rfl⟩:=h
 exact query_Parse.parse_g k a0 l hf _ _ _ _ hrd w hG
mutual
def ebbtideref04_Cut.j1:Nat→ByteArray→Int→Option (ByteArray×ByteArray×Bool)
 | 0,_,_=>none
 | k+1,x0,x5=>if x5=(x0.size:Int) then (some (x0,(⟨#[]⟩:ByteArray),true)) else (if 0≤(wrap64 ((x0.size:Int) - 1)) then (if (wrap64 ((x0.size:Int) - 1))<(x0.size:Int) then (if (bt x0 (wrap64 ((x0.size:Int) - 1)))=125 then (if (wrap64 (x5+1))=(wrap64 ((x0.size:Int) - 1)) then (some ((⟨#[]⟩:ByteArray),(⟨#[]⟩:ByteArray),false)) else (if 0≤x5 then (if x5≤(x0.size:Int) then (if 0≤(wrap64 (x5+1)) then (if (wrap64 (x5+1))≤(wrap64 ((x0.size:Int) - 1)) then (if (wrap64 ((x0.size:Int) - 1))≤(x0.size:Int) then (some (x0.extract 0 (x5:Int).toNat,x0.extract ((wrap64 (x5+1)):Int).toNat ((wrap64 ((x0.size:Int) - 1)):Int).toNat,true)) else (none)) else (none)) else (none)) else (none)) else (none))) else (some ((⟨#[]⟩:ByteArray),(⟨#[]⟩:ByteArray),false))) else (none)) else (none))
def ebbtideref04_Cut.l0:Nat→ByteArray→Int→Option (ByteArray×ByteArray×Bool)
 | 0,_,_=>none
 | k+1,x0,x5=>if x5<(x0.size:Int) then (if 0≤x5 then (if (bt x0 x5)=123 then (ebbtideref04_Cut.j1 k x0 x5) else (ebbtideref04_Cut.l0 k x0 (wrap64 (x5+1)))) else (none)) else (ebbtideref04_Cut.j1 k x0 x5)
end
def ebbtideref04_Cut.f (k:Nat) (a0:ByteArray):Option (ByteArray×ByteArray×Bool):=ebbtideref04_Cut.l0 k a0 0
theorem ebbtideref04_Cut.mono_l:∀ k,(∀ y0 y1,LeO (ebbtideref04_Cut.j1 k y0 y1) (ebbtideref04_Cut.j1 (k+1) y0 y1))∧(∀ y0 y1,LeO (ebbtideref04_Cut.l0 k y0 y1) (ebbtideref04_Cut.l0 (k+1) y0 y1))
 | 0=>⟨fun _ _ r h=>by simp [ebbtideref04_Cut.j1] at h,fun _ _ r h=>by simp [ebbtideref04_Cut.l0] at h⟩
 | k+1=>by
  obtain ⟨ih0,ih1⟩:=ebbtideref04_Cut.mono_l k
  refine ⟨?_,?_⟩
  ·intro y0 y1
   unfold ebbtideref04_Cut.j1
   repeat' first
   | (with_reducible exact ih0 _ _)
   | (with_reducible exact ih1 _ _)
   | (with_reducible exact LeO.refl _)
   | (with_reducible exact LeO.none _)
   | (with_reducible refine LeO.ite ?_ ?_)
   | (with_reducible refine LeO.bind ?_ (fun _=>?_))
   | exact ih0 _ _
   | exact ih1 _ _
   | exact LeO.none _
   | refine LeO.ite ?_ ?_
   | refine LeO.bind ?_ (fun _=>?_)
  ·intro y0 y1
   unfold ebbtideref04_Cut.l0
   repeat' first
   | (with_reducible exact ih0 _ _)
   | (with_reducible exact ih1 _ _)
   | (with_reducible exact LeO.refl _)
   | (with_reducible exact LeO.none _)
   | (with_reducible refine LeO.ite ?_ ?_)
   | (with_reducible refine LeO.bind ?_ (fun _=>?_))
   | exact ih0 _ _
   | exact ih1 _ _
   | exact LeO.none _
   | refine LeO.ite ?_ ?_
   | refine LeO.bind ?_ (fun _=>?_)
theorem ebbtideref04_Cut.mono:∀ a0 k,LeO (ebbtideref04_Cut.f k a0) (ebbtideref04_Cut.f (k+1) a0):=by
 intro a0 k
 obtain ⟨ih0,ih1⟩:=ebbtideref04_Cut.mono_l k
 unfold ebbtideref04_Cut.f
 repeat' first
   | (with_reducible exact ih0 _ _)
   | (with_reducible exact ih1 _ _)
   | (with_reducible exact LeO.refl _)
   | (with_reducible exact LeO.none _)
   | (with_reducible refine LeO.ite ?_ ?_)
   | (with_reducible refine LeO.bind ?_ (fun _=>?_))
   | exact ih0 _ _
   | exact ih1 _ _
   | exact LeO.none _
   | refine LeO.ite ?_ ?_
   | refine LeO.bind ?_ (fun _=>?_)
theorem ebbtideref04_Cut.calls (k:Nat) (a0:ByteArray) (r1:ByteArray) (r2:ByteArray) (r3:Bool) (w:World) (h:ebbtideref04_Cut.f k a0=some (r1,r2,r3)) :
  Calls Tryz.prog 70 #[.string a0] w fun e w'=>e = .returned (.tuple #[.string r1, .string r2, .bool r3])∧Drawn0 w w':=by
 have H:(ebbtideref04_Cut.l0 k a0 0)=some (r1,r2,r3):=h
 clear h
 have HC2:=Aside0.mk H
 clear H
 go_enter Tryz.func70,Tryz.ntmps70
 go_upto_block 0 with (fail)
 repeat (go_quiet (fail);go_upto_block 0 with (fail))
 go_cut [5] (fun v5 wc=>∃ (kq:Nat) (x5_1:Int),v5 = .int .i64 x5_1∧Aside0 (ebbtideref04_Cut.j1 kq a0 x5_1=some (r1,r2,r3))∧Aside0 (kq≤k)∧Drawn0 w wc)
 case first =>
  have H:=HC2.out
  clear HC2
  have H':=Aside0.mk H
  clear H
  go_wp2
  repeat (go_quiet (fail);try go_wp2)
  go_loopg [5] k (fun kq v5 w'=>∃ (x5_1:Int),v5 = .int .i64 x5_1∧Aside0 (ebbtideref04_Cut.l0 kq a0 x5_1=some (r1,r2,r3))∧Aside0 (kq≤k)∧Drawn0 w w')
  case atStart=>exact ⟨(0),qS,H',⟨Nat.le_refl _⟩,qD⟩
  case round =>
   clear H'
   obtain ⟨x5_1,rfl,HA,HK1,⟨m1,rfl⟩⟩:=hrel
   cases gk with
   | zero=>exact absurd HA.out (by simp [ebbtideref04_Cut.l0])
   | succ k1 =>
    have H:=HA.out
    clear HA
    simp only [ebbtideref04_Cut.l0] at H
    by_cases c3:x5_1<(a0.size:Int)
    rotate_left
    ·rw [if_neg c3] at H
     have c3b0:decide (x5_1<(a0.size:Int))=false:=decide_eq_false c3
     clear c3
     (first|rw [c3b0]|(simp only [i64_w,i32_w];rw [c3b0])|rw [c3b1]|skip)
     have H':=Aside0.mk H
     clear H
     go_wp2
     repeat (go_quiet (fail);try go_wp2)
     go_meet
     case rel=>exact ⟨_,(x5_1),qS,H',⟨by have:=HK1.out;first|omega|exact Nat.le_refl _⟩,qD⟩
    rw [if_pos c3] at H
    have c3b0:decide (x5_1<(a0.size:Int))=true:=decide_eq_true c3
    clear c3
    (first|rw [c3b0]|(simp only [i64_w,i32_w];rw [c3b0])|rw [c3b1]|skip)
    by_cases c4:0≤x5_1
    rotate_left
    ·rw [if_neg c4] at H
     exact absurd H (by simp)
    rw [if_pos c4] at H
    have c4b0:decide (0≤x5_1)=true:=decide_eq_true c4
    clear c4
    by_cases c6:(bt a0 x5_1)=123
    ·rw [if_pos c6] at H
     have c6b0:((bt a0 x5_1) ==123)=true:=beq_iff_eq.mpr c6
     have c6b1:((bt a0 x5_1) != 123)=false:=bne_eq_false_iff_eq.mpr c6
     clear c6
     have H':=Aside0.mk H
     clear H
     have p5:0≤(x5_1:Int):=of_decide_eq_true qA
     have q5:x5_1<(a0.size:Int):=of_decide_eq_true qA
     have hx5:=bt_at a0 x5_1
     replace p5:=eq_true p5
     replace q5:=eq_true q5
     go_wp2
     repeat (go_quiet (fail);try go_wp2)
     go_meet
     case rel=>exact ⟨_,(x5_1),qS,H',⟨by have:=HK1.out;first|omega|exact Nat.le_refl _⟩,qD⟩
    rw [if_neg c6] at H
    have c6b0:((bt a0 x5_1) ==123)=false:=beq_eq_false_iff_ne.mpr c6
    have c6b1:((bt a0 x5_1) != 123)=true:=bne_iff_ne.mpr c6
    have H':=Aside0.mk H
    clear H
    have p5:0≤(x5_1:Int):=of_decide_eq_true qA
    have q5:x5_1<(a0.size:Int):=of_decide_eq_true qA
    have hx5:=bt_at a0 x5_1
    replace p5:=eq_true p5
    replace q5:=eq_true q5
    go_wp2
    repeat (go_quiet (fail);try go_wp2)
    go_roundg k1
    case measure=>have:=HK1.out;omega
    case rel=>exact ⟨(wrap64 (x5_1+1)),qS,H',⟨by have:=HK1.out;omega⟩,qD⟩
 case rest =>
  clear HC2
  obtain ⟨kq,x5_1,rfl,HA,HJ1,⟨mc1,rfl⟩⟩:=hcut
  cases kq with
  | zero=>exact absurd HA.out (by simp [ebbtideref04_Cut.j1])
  | succ kj1 =>
   have H:=HA.out
   clear HA
   simp only [ebbtideref04_Cut.j1] at H
   by_cases c7:x5_1=(a0.size:Int)
   ·rw [if_pos c7] at H
    have c7b0:(x5_1 ==(a0.size:Int))=true:=beq_iff_eq.mpr c7
    have c7b1:(x5_1 != (a0.size:Int))=false:=bne_eq_false_iff_eq.mpr c7
    clear c7
    simp only [Option.some.injEq,Prod.mk.injEq] at H
    obtain ⟨rfl,rfl,rfl⟩:=H
    go_wp2
    repeat (go_quiet (fail);try go_wp2)
    go_ret3
    exact ⟨qS,qD⟩
   rw [if_neg c7] at H
   have c7b0:(x5_1 ==(a0.size:Int))=false:=beq_eq_false_iff_ne.mpr c7
   have c7b1:(x5_1 != (a0.size:Int))=true:=bne_iff_ne.mpr c7
   obtain ⟨ji8,hji8⟩:∃ j_:Int,(wrap64 ((a0.size:Int) - 1))=j_:=⟨_,rfl⟩
   replace H:(if 0≤(ji8) then (if (ji8)<(a0.size:Int) then (if (bt a0 (ji8))=125 then (if (wrap64 (x5_1+1))=(ji8) then (some ((⟨#[]⟩:ByteArray),(⟨#[]⟩:ByteArray),false)) else (if 0≤x5_1 then (if x5_1≤(a0.size:Int) then (if 0≤(wrap64 (x5_1+1)) then (if (wrap64 (x5_1+1))≤(ji8) then (if (ji8)≤(a0.size:Int) then (some (a0.extract 0 (x5_1:Int).toNat,a0.extract ((wrap64 (x5_1+1)):Int).toNat ((ji8):Int).toNat,true)) else (none)) else (none)) else (none)) else (none)) else (none))) else (some ((⟨#[]⟩:ByteArray),(⟨#[]⟩:ByteArray),false))) else (none)) else (none))=some (r1,r2,r3):=by first|(rw [hji8] at H;exact H)|(simp only [hji8] at H ⊢;exact H)
   have hji8w:(IntKind.i64.wrap ((a0.size:Int) - 1))=ji8:=(i64_w _).trans hji8
   by_cases c9:0≤(ji8)
   rotate_left
   ·rw [if_neg c9] at H
    exact absurd H (by simp)
   rw [if_pos c9] at H
   have c9b0:decide (0≤(ji8))=true:=decide_eq_true c9
   clear c9
   by_cases c10:(ji8)<(a0.size:Int)
   rotate_left
   ·rw [if_neg c10] at H
    exact absurd H (by simp)
   rw [if_pos c10] at H
   have c10b0:decide ((ji8)<(a0.size:Int))=true:=decide_eq_true c10
   clear c10
   by_cases c12:(bt a0 (ji8))=125
   rotate_left
   ·rw [if_neg c12] at H
    have c12b0:((bt a0 (ji8)) ==125)=false:=beq_eq_false_iff_ne.mpr c12
    have c12b1:((bt a0 (ji8)) != 125)=true:=bne_iff_ne.mpr c12
    simp only [Option.some.injEq,Prod.mk.injEq] at H
    obtain ⟨rfl,rfl,rfl⟩:=H
    have p11:0≤((ji8):Int):=of_decide_eq_true qA
    have q11:(ji8)<(a0.size:Int):=of_decide_eq_true qA
    have hx11:=bt_at a0 (ji8)
    replace p11:=eq_true p11
    replace q11:=eq_true q11
    go_wp2
    repeat (go_quiet (fail);try go_wp2)
    go_ret3
    exact ⟨by first|rfl|(simp;done)|(simp only [← hji8]<;>(first|rfl|simp))|(simp [*];done),qD⟩
   rw [if_pos c12] at H
   have c12b0:((bt a0 (ji8)) ==125)=true:=beq_iff_eq.mpr c12
   have c12b1:((bt a0 (ji8)) != 125)=false:=bne_eq_false_iff_eq.mpr c12
   clear c12
   by_cases c13:(wrap64 (x5_1+1))=(ji8)
   ·rw [if_pos c13] at H
    have c13b0:((wrap64 (x5_1+1)) ==(ji8))=true:=beq_iff_eq.mpr c13
    have c13b1:((wrap64 (x5_1+1)) != (ji8))=false:=bne_eq_false_iff_eq.mpr c13
    clear c13
    simp only [Option.some.injEq,Prod.mk.injEq] at H
    obtain ⟨rfl,rfl,rfl⟩:=H
    have p11:0≤((ji8):Int):=of_decide_eq_true qA
    have q11:(ji8)<(a0.size:Int):=of_decide_eq_true qA
    have hx11:=bt_at a0 (ji8)
    replace p11:=eq_true p11
    replace q11:=eq_true q11
    go_wp2
    repeat (go_quiet (fail);try go_wp2)
    go_ret3
    exact ⟨by first|rfl|(simp;done)|(simp only [← hji8]<;>(first|rfl|simp))|(simp [*];done),qD⟩
   rw [if_neg c13] at H
   have c13b0:((wrap64 (x5_1+1)) ==(ji8))=false:=beq_eq_false_iff_ne.mpr c13
   have c13b1:((wrap64 (x5_1+1)) != (ji8))=true:=bne_iff_ne.mpr c13
   by_cases c14:0≤x5_1
   rotate_left
   ·rw [if_neg c14] at H
    exact absurd H (by simp)
   rw [if_pos c14] at H
   have c14b0:=eq_true c14
   have c14b1:decide (0≤x5_1)=true:=decide_eq_true c14
   clear c14
   by_cases c15:x5_1≤(a0.size:Int)
   rotate_left
   ·rw [if_neg c15] at H
    exact absurd H (by simp)
   rw [if_pos c15] at H
   have c15b0:=eq_true c15
   have c15b1:decide (x5_1≤(a0.size:Int))=true:=decide_eq_true c15
   clear c15
   obtain ⟨ji16,hji16⟩:∃ j_:Int,(wrap64 (x5_1+1))=j_:=⟨_,rfl⟩
   replace H:(if 0≤(ji16) then (if (ji16)≤(ji8) then (if (ji8)≤(a0.size:Int) then (some (a0.extract 0 (x5_1:Int).toNat,a0.extract ((ji16):Int).toNat ((ji8):Int).toNat,true)) else (none)) else (none)) else (none))=some (r1,r2,r3):=by first|(rw [hji16] at H;exact H)|(simp only [hji16] at H ⊢;exact H)
   (try rw [hji16] at c13b0)
   (try rw [hji16] at c13b1)
   have hji16w:(IntKind.i64.wrap (x5_1+1))=ji16:=(i64_w _).trans hji16
   by_cases c17:0≤(ji16)
   rotate_left
   ·rw [if_neg c17] at H
    exact absurd H (by simp)
   rw [if_pos c17] at H
   have c17b0:=eq_true c17
   have c17b1:decide (0≤(ji16))=true:=decide_eq_true c17
   clear c17
   by_cases c18:(ji16)≤(ji8)
   rotate_left
   ·rw [if_neg c18] at H
    exact absurd H (by simp)
   rw [if_pos c18] at H
   have c18b0:=eq_true c18
   have c18b1:decide ((ji16)≤(ji8))=true:=decide_eq_true c18
   clear c18
   by_cases c19:(ji8)≤(a0.size:Int)
   rotate_left
   ·rw [if_neg c19] at H
    exact absurd H (by simp)
   rw [if_pos c19] at H
   have c19b0:=eq_true c19
   have c19b1:decide ((ji8)≤(a0.size:Int))=true:=decide_eq_true c19
   clear c19
   simp only [Option.some.injEq,Prod.mk.injEq] at H
   obtain ⟨rfl,rfl,rfl⟩:=H
   have p11:0≤((ji8):Int):=of_decide_eq_true qA
   have q11:(ji8)<(a0.size:Int):=of_decide_eq_true qA
   have hx11:=bt_at a0 (ji8)
   replace p11:=eq_true p11
   replace q11:=eq_true q11
   go_wp2
   repeat (go_quiet (fail);try go_wp2)
   go_ret3
   exact ⟨by first|rfl|(simp;done)|(simp only [← hji8,← hji16]<;>(first|rfl|simp))|(simp [*];done),qD⟩
end Go.Proofs.YteaadaaghhojfaaGreatDoor.PQu
