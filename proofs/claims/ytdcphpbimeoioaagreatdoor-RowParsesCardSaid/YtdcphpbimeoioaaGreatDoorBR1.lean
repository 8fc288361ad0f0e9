/- A part of the proof: ZRaEN, ZRaEO, ZRaEP, ZRaEQ, ZRaER, ZRaES, ZRaET, ZRaEU, ZRaEV, ZRaEW, ZRaEX, ZRaEY, ZRaEZ, ZRaFA, ZRaFB, ZRaFC, ZRaFD, ZRaFE, ZRaFF. No condition. -/
import Derived.Test.YtdcphpbimeoioaaGreatDoorBR0
import Derived.LoopN
section
set_option linter.unusedSectionVars false
namespace Go.Proofs.YtdcphpbimeoioaaGreatDoorE
open Go
set_option linter.unusedVariables false
set_option linter.unusedSimpArgs false
variable [Dm]
section
variable {β:Type} {P:Program} {S S':Nat→SL} {F F':Nat→Prop} {w w':World} {H H':Heap} {E:Env} {ρ:Operand→Value} {O:Orc} {nb:Nat} {r:β}
def Elems (S:Nat→SL) (F:Nat→Prop) (w:World) (t:Ty) (xs:List (El t)) (cs:List Value):Prop :=
  cs.length=xs.length * t.size∧(∀ u∈cs,u.oneCell=true)∧∀ (i:Nat) (x:El t) (j:Nat) (p:PV),xs[i]?=some x→(cellsOf t x)[j]?=some p→∃ v,cs[i * t.size+j]?=some v∧Val S F w p v
theorem one' {u:Value} (h:u.oneCell=true):u.oneCell'=true:=by cases u<;>simp_all [Value.oneCell,Value.oneCell']
def rowFrom (w:World) (ad:Addr) (n:Nat):List Value:=(List.range n).map fun k=>(w.cell? ⟨ad.block,ad.off+k,none⟩).getD undef
theorem split_lt {k n sz:Nat} (h:k<n * sz):k / sz<n∧k % sz<sz∧k / sz * sz+k % sz=k:=by
  have hs:0<sz:=by cases sz with
    | zero=>simp at h
    | succ s=>omega
  exact ⟨Nat.div_lt_of_lt_mul (by rw [Nat.mul_comm];exact h),Nat.mod_lt _ hs,by rw [Nat.mul_comm];exact Nat.div_add_mod k sz⟩
theorem elems_from {t:Ty} {xs:List (El t)} {ad:Addr} (h:∀ (i:Nat) (x:El t) (j:Nat) (p:PV),xs[i]?=some x→(cellsOf t x)[j]?=some p→∃ v,w.cell? ⟨ad.block,ad.off+i * t.size+j,none⟩=some v∧Val S F w p v) :
    Elems S F w t xs (rowFrom w ad (xs.length * t.size))∧∀ k u,(rowFrom w ad (xs.length * t.size))[k]?=some u→w.cell? ⟨ad.block,ad.off+k,none⟩=some u:=by
  have hk:∀ k,k<xs.length * t.size→∃ p v,w.cell? ⟨ad.block,ad.off+k,none⟩=some v∧Val S F w p v∧okC p=true:=by
    intro k hk
    obtain ⟨h1,h2,h3⟩:=split_lt hk
    have hx:=List.getElem?_eq_getElem h1
    have hl:k % t.size<(cellsOf t xs[k / t.size]).length:=by rw [cellsOf_size];exact h2
    have hp:=List.getElem?_eq_getElem hl
    obtain ⟨v,e1,e2⟩:=h _ _ _ _ hx hp
    refine ⟨_,v,?_,e2,cellsOf_okC _ _ _ _ hp⟩
    rwa [show ad.off+k / t.size * t.size+k % t.size=ad.off+k by omega] at e1
  refine ⟨⟨by simp [rowFrom],fun u hu=>?_,fun i x j p hx hp=>?_⟩,fun k u hu=>?_⟩
  · simp only [rowFrom,List.mem_map,List.mem_range] at hu
    obtain ⟨k,h1,rfl⟩:=hu
    obtain ⟨p,v,e1,e2,e3⟩:=hk k h1
    rw [e1];exact okC_one e2 e3
  · obtain ⟨v,e1,e2⟩:=h i x j p hx hp
    have hi:i<xs.length:=(List.getElem?_eq_some_iff.1 hx).1
    have hj:j<t.size:=by have:=(List.getElem?_eq_some_iff.1 hp).1;rwa [cellsOf_size] at this
    have:i * t.size+j<xs.length * t.size:=by
      have:(i+1) * t.size≤xs.length * t.size:=Nat.mul_le_mul_right _ (by omega)
      rw [Nat.add_mul,Nat.one_mul] at this;omega
    refine ⟨v,?_,e2⟩
    simp only [rowFrom,List.getElem?_map,List.getElem?_range this,Option.map_some]
    rw [show ad.off+(i * t.size+j)=ad.off+i * t.size+j by omega,e1];rfl
  · simp only [rowFrom,List.getElem?_map] at hu
    by_cases h1:k<xs.length * t.size
    · rw [List.getElem?_range h1] at hu
      obtain ⟨p,v,e1,_⟩:=hk k h1
      simp [e1] at hu;subst hu;exact e1
    · rw [List.getElem?_eq_none (by simpa using h1)] at hu;cases hu
theorem elems_nil (t:Ty):Elems S F w t [] []:=⟨by simp,(fun u h=>by cases h),(fun i x j p h=>by simp at h)⟩
theorem win_get {α:Type} {xs:List α} {lo k i:Nat} {x:α} (h:(win xs lo k)[i]?=some x):xs[lo+i]?=some x∧i<k:=by
  simp only [win,List.getElem?_take,List.getElem?_drop] at h
  split at h
  · exact ⟨h,by assumption⟩
  · cases h
theorem view_facts {b lo k:Nat} {t:Ty} {xs:List (El t)} {wr:Bool} {u:Value} (hr:Rel S F w H) (hb:hget H b = .live (.arr t xs wr)) (hv:Val S F w (.view b lo k) u) :
    lo+k≤xs.length∧(win xs lo k).length=k∧∃ a cap,u = .slice a k cap∧k≤cap∧(win xs lo k≠[]→∃ ad,a=some ad)∧(win xs lo k≠[]→∀ ad,a=some ad→ad.spot=none) ∧
      (∀ (ad:Addr) (i:Nat) (x:El t) (j:Nat) (p:PV),a=some ad→(win xs lo k)[i]?=some x→(cellsOf t x)[j]?=some p→∃ v,w.cell? ⟨ad.block,ad.off+i * t.size+j,none⟩=some v∧Val S F w p v):=by
  obtain ⟨a,cap,hS,hcap,hor,hsp⟩:=hget_arr hr hb
  have hvv:u = .slice (if cap=lo then a else a.map (·.add (lo * t.size))) k (cap - lo)∧lo+k≤xs.length:=by
    cases hv with
    | view _ _ _ _ _ _ _ h hl=>rw [hS] at h;cases h;exact ⟨rfl,hl⟩
    | viewd _ _ _ _ h _=>rw [hS] at h;cases h
  obtain ⟨rfl,hl⟩:=hvv
  have hwl:(win xs lo k).length=k:=by unfold win;simp;omega
  have hk:win xs lo k≠[]→0<k:=fun hne=>by have:=List.length_pos_iff.2 hne;omega
  refine ⟨hl,hwl,_,_,rfl,by omega,fun hne=>?_,fun hne ad he=>?_,fun ad i x j p he hx hp=>?_⟩
  · have:=hk hne
    rcases hor with h0|⟨ad,rfl,_⟩
    · omega
    · split
      · exact ⟨ad,rfl⟩
      · exact ⟨_,rfl⟩
  · have:=hk hne
    rw [if_neg (by omega)] at he
    cases a with
    | none=>cases he
    | some ad0 =>
      simp at he;subst he
      unfold Addr.add;split
      · exact hsp (by omega) ad0 rfl
      · rfl
  · obtain ⟨hx',hi⟩:=win_get hx
    rw [if_neg (by omega)] at he
    rcases hor with h0|⟨ad',rfl,hA,_⟩
    · omega
    · simp at he;subst he
      obtain ⟨v,e1,e2,_⟩:=hA.cellsAt hx' j p hp
      have h0:=hA.1
      obtain ⟨blk,off,sp⟩:=ad'
      simp only at h0;subst h0
      rw [add_addr]
      refine ⟨v,?_,e2⟩
      rw [← e1]
      simp only [Nat.add_mul]
      congr 2
      omega
theorem src_of {t:Ty} {y:PV} {v:Value} {tx:TypeId} {K:List (El t)→Option β} (hr:Rel S F w H) (hv:Val S F w y v) (hk:(∃ e',P.underlying tx=some (.slice e'))∨P.underlying tx=some .string) (hks:P.underlying tx=some .string↔∃ s,y = .str s)
    (h:elsOf H t y K=some r):∃ more news,K more=some r∧Src P t.size tx v more.length news w∧Elems S F w t more news:=by
  have hsl:(∀ s,y ≠ .str s)→∃ e',P.underlying tx=some (.slice e'):=fun hn=>by
    rcases hk with hk|hk
    · exact hk
    · obtain ⟨s,hs⟩:=hks.1 hk;exact absurd hs (hn s)
  have arr:∀ (xs:List (El t)) (a:Option Addr) (cap:Nat),(∃ e',P.underlying tx=some (.slice e'))→(xs≠[]→∃ ad,a=some ad)→(xs≠[]→∀ ad,a=some ad→ad.spot=none) →
      (∀ (ad:Addr) (i:Nat) (x:El t) (j:Nat) (p:PV),a=some ad→xs[i]?=some x→(cellsOf t x)[j]?=some p→∃ v,w.cell? ⟨ad.block,ad.off+i * t.size+j,none⟩=some v∧Val S F w p v) →
      ∃ news,Src P t.size tx (.slice a xs.length cap) xs.length news w∧Elems S F w t xs news:=by
    intro xs a cap ⟨e',he⟩ ha hs hc
    cases a with
    | none =>
      have:xs=[]:=by cases xs with
        | nil=>rfl
        | cons x r=>obtain ⟨ad,h⟩:=ha (by simp);cases h
      subst this
      exact ⟨[],Src.ofNil w he cap,elems_nil t⟩
    | some ad =>
      by_cases hx0:xs=[]
      · subst hx0
        exact ⟨[],Src.ofSlice w he ad 0 cap [] (by simp) (fun j u h=>by simp at h) (fun _ h=>by cases h),elems_nil t⟩
      have hs:=hs hx0
      obtain ⟨h1,h2⟩:=elems_from (ad:=ad) (fun i x j p a b=>hc ad i x j p rfl a b)
      have h0:=hs ad rfl
      obtain ⟨blk,off,sp⟩:=ad
      simp only at h0;subst h0
      exact ⟨_,Src.ofSlice w he _ _ _ _ h1.1 (fun j u hu=>by rw [add_addr];exact h2 j u hu) (fun u hu=>one' (h1.2.1 u hu)),h1⟩
  unfold elsOf at h
  split at h
  · rename_i t'
    obtain ⟨ys,hc,h⟩:=optK_some h
    obtain ⟨e,rfl⟩:=castL_some hc
    subst e
    cases hv
    obtain ⟨news,g1,g2⟩:=arr [] none 0 (hsl (fun s h=>by cases h)) (fun h=>absurd rfl h) (fun _ ad h=>by cases h) (fun ad i x j p _ h=>by simp at h)
    exact ⟨_,news,h,g1,g2⟩
  · rename_i t' xs
    obtain ⟨ys,hc,h⟩:=optK_some h
    obtain ⟨e,rfl⟩:=castL_some hc
    subst e
    cases hv with
    | lst _ _ a cap vf hcap ha hsp hcell hv' =>
      obtain ⟨news,g1,g2⟩:=arr xs a cap (hsl (fun s h=>by cases h)) ha hsp (fun ad i x j p e a b=>⟨_,(hcell ad i x j p e a b).2,hv' i x j p a b⟩)
      exact ⟨_,news,h,g1,g2⟩
  · rename_i b
    obtain ⟨x,hb,h⟩:=live_some h
    cases x with
    | box _ _=>cases h
    | arr t' xs wr =>
      obtain ⟨ys,hc,h⟩:=optK_some h
      obtain ⟨e,rfl⟩:=castL_some hc
      subst e
      obtain ⟨a,cap,hS,hcap,hor,hsp⟩:=hget_arr hr hb
      have hu:v = .slice a xs.length cap:=by
        cases hv with
        | own _ _ _ _ _ h=>rw [hS] at h;cases h;rfl
        | ownd _ _ h _=>rw [hS] at h;cases h
      subst hu
      obtain ⟨news,g1,g2⟩:=arr xs a cap (hsl (fun s h=>by cases h)) (fun hne=>by
          rcases hor with h0|⟨ad,rfl,_⟩
          · subst h0;exact absurd (List.length_eq_zero_iff.1 (by omega)) hne
          · exact ⟨ad,rfl⟩) (fun hne=>hsp (by have:=List.length_pos_iff.2 hne;omega)) (fun ad i x j p e hx hp=>by
          subst e
          rcases hor with h0|⟨ad',e',hA,_⟩
          · subst h0;have:=(List.getElem?_eq_some_iff.1 hx).1;omega
          · cases e'
            obtain ⟨v,e1,e2,_⟩:=hA.cellsAt hx j p hp
            exact ⟨v,by simpa [Nat.add_assoc] using e1,e2⟩)
      exact ⟨_,news,h,g1,g2⟩
  · rename_i b lo k
    obtain ⟨x,hb,h⟩:=live_some h
    cases x with
    | box _ _=>cases h
    | arr t' xs wr =>
      obtain ⟨ys,hc,h⟩:=optK_some h
      obtain ⟨e,rfl⟩:=castL_some hc
      subst e
      obtain ⟨_,hwl,a,cap,rfl,_,ha,hs,hcell⟩:=view_facts hr hb hv
      obtain ⟨news,g1,g2⟩:=arr _ a cap (hsl (fun s h=>by cases h)) ha hs hcell
      rw [hwl] at g1
      exact ⟨_,news,h,by rw [hwl];exact g1,g2⟩
  · rename_i s
    obtain ⟨ys,hc,h⟩:=optK_some h
    obtain ⟨e,rfl⟩:=castL_some hc
    subst e
    cases val_str hv
    have hu:=hks.2 ⟨s,rfl⟩
    have hl:(sbytes s).length=s.size:=by simp [sbytes,ByteArray.toList_eq]
    refine ⟨_,byteCells s,h,?_,?_⟩
    · have:=Src.ofString (P:=P) w hu s
      have e:(show List (El (.int .u8)) from sbytes s).length=s.size:=hl
      simpa [Ty.size,hl] using this
    · refine ⟨by simp [byteCells_length,Ty.size,hl],fun u hu=>?_,fun i x j p hx hp=>?_⟩
      · obtain ⟨_,_,rfl⟩:=List.mem_map.1 hu;rfl
      · cases j with
        | succ j=>simp [cellsOf] at hp
        | zero =>
          simp only [cellsOf,List.getElem?_cons_zero,Option.some.injEq] at hp
          subst hp
          refine ⟨.int .u8 x,?_, .int _ _⟩
          simp only [sbytes,ByteArray.toList_eq,List.getElem?_map] at hx
          simp only [byteCells,Ty.size,Nat.mul_one,Nat.add_zero,List.getElem?_map]
          cases hq:s.data.toList[i]? with
          | none=>rw [hq] at hx;cases hx
          | some q=>rw [hq] at hx;simp at hx;subst hx;rfl
  · cases h
theorem move_rel (hr:Rel S F w H) {b:Nat} (hne:nb≠b) (hu:hget H nb = .unused) {t:Ty} {xs xs':List (El t)} (hb:hget H b = .live (.arr t xs true)) {a:Option Addr} {cap:Nat} (hS:S b = .arr a xs.length cap t.size)
    (hok:SlotOk S F w (.live (.arr t xs' true)) (.arr a xs'.length cap t.size)) :
    ∃ S',Rel S' F w (hset (hset H b .dead) nb (.live (.arr t xs' true)))∧Adv S F w H S' F w (hset (hset H b .dead) nb (.live (.arr t xs' true)))∧Val S' F w (.own nb) (.slice a xs'.length cap):=by
  let S':Nat→SL:=upS (upS S b .dead) nb (.arr a xs'.length cap t.size)
  have e1:S' nb = .arr a xs'.length cap t.size:=by simp [S',upS]
  have e2:S' b = .dead:=by simp [S',upS,Ne.symm hne]
  have e3:∀ c,c≠b→c≠nb→S' c=S c:=by intro c h1 h2;simp [S',upS,h1,h2]
  have hSS:∀ c,S c ≠ .unused→S' c=S c∨S' c = .dead:=by
    intro c hc
    by_cases h1:c=nb
    · subst h1;exact absurd (unused_S hr hu) hc
    · by_cases h2:c=b
      · subst h2;exact .inr e2
      · exact .inl (e3 c h2 h1)
  have hblk:∀ (n:Nat) (k:Nat),blkOf (.arr a n cap t.size)=some k→blkOf (S b)=some k:=by
    intro n k h;rw [hS];cases a<;>simp [blkOf] at h ⊢;exact h
  refine ⟨S',⟨fun c=>?_,fun c c' k h1 h2=>?_,hr.fsz,hr.gl⟩,⟨fun _ h=>h,hSS,Nat.le_refl _,fun _ _ _=>rfl,fun k hk=>?_,fun k h => .inl h,rfl,rfl,rfl,(fun _=>Nat.le_refl _)⟩, .own nb _ _ _ _ e1⟩
  · by_cases h1:c=nb
    · subst h1
      rw [hget_hset_same,e1]
      exact hok.mono (fun _ h=>h) (fun _ _=>rfl) hSS (fun _ _=>rfl) (fun _ _ h=>h)
    · rw [hget_hset_ne _ _ _ _ h1]
      by_cases h2:c=b
      · subst h2;rw [hget_hset_same,e2];simp only [SlotOk]
      · rw [hget_hset_ne _ _ _ _ h2,e3 c h2 h1]
        exact (hr.slots c).mono (fun _ h=>h) (fun _ _=>rfl) hSS (fun _ _=>rfl) (fun _ _ h=>h)
  · have key:∀ c,blkOf (S' c)=some k→c≠b∧blkOf (S (if c=nb then b else c))=some k:=by
      intro c hc
      by_cases h3:c=nb
      · subst h3;rw [e1] at hc;rw [if_pos rfl];exact ⟨hne,hblk _ _ hc⟩
      · by_cases h4:c=b
        · subst h4;rw [e2] at hc;cases hc
        · rw [e3 c h4 h3] at hc;rw [if_neg h3];exact ⟨h4,hc⟩
    obtain ⟨k1,k2⟩:=key c h1
    obtain ⟨k3,k4⟩:=key c' h2
    have:=hr.inj _ _ _ k2 k4
    split at this<;>split at this<;>simp_all
  · obtain ⟨c,x,hx,hw,hc⟩:=hk
    left
    by_cases h1:c=nb
    · subst h1
      rw [e1] at hc
      exact ⟨b,_,hb,rfl,hblk _ _ hc⟩
    · rw [hget_hset_ne _ _ _ _ h1] at hx
      by_cases h2:c=b
      · subst h2;rw [hget_hset_same] at hx;cases hx
      · rw [hget_hset_ne _ _ _ _ h2] at hx
        rw [e3 c h2 h1] at hc
        exact ⟨c,x,hx,hw,hc⟩
theorem kill_rel (hr:Rel S F w H) {b:Nat} {x:Blk} (hb:hget H b = .live x):Rel (upS S b .dead) F w (hset H b .dead)∧Adv S F w H (upS S b .dead) F w (hset H b .dead):=by
  have hSS:∀ c,S c ≠ .unused→upS S b .dead c=S c∨upS S b .dead c = .dead:=by
    intro c hc;unfold upS;split
    · exact .inr rfl
    · exact .inl rfl
  have hbk:∀ c k,blkOf (upS S b .dead c)=some k→c≠b∧blkOf (S c)=some k:=by
    intro c k h;unfold upS at h;split at h
    · cases h
    · exact ⟨by assumption,h⟩
  refine ⟨⟨fun c=>?_,fun c c' k h1 h2=>hr.inj _ _ _ (hbk _ _ h1).2 (hbk _ _ h2).2,hr.fsz,hr.gl⟩,⟨fun _ h=>h,hSS,Nat.le_refl _,fun _ _ _=>rfl,fun k hk=>?_,fun k h => .inl h,rfl,rfl,rfl,(fun _=>Nat.le_refl _)⟩⟩
  · by_cases h1:c=b
    · subst h1;rw [hget_hset_same];simp [upS,SlotOk]
    · rw [hget_hset_ne _ _ _ _ h1]
      have:upS S b .dead c=S c:=if_neg h1
      rw [this]
      exact (hr.slots c).mono (fun _ h=>h) (fun _ _=>rfl) hSS (fun _ _=>rfl) (fun _ _ h=>h)
  · obtain ⟨c,y,hy,hw,hc⟩:=hk
    obtain ⟨h1,h2⟩:=hbk _ _ hc
    rw [hget_hset_ne _ _ _ _ h1] at hy
    exact .inl ⟨c,y,hy,hw,h2⟩
theorem elems_append {t:Ty} {xs ys:List (El t)} {cs ds:List Value} (h:Elems S F w t xs cs) (h':Elems S F w t ys ds):Elems S F w t (xs++ys) (cs++ds):=by
  refine ⟨by simp [h.1,h'.1,Nat.add_mul],fun u hu=>?_,fun i x j p hx hp=>?_⟩
  · rcases List.mem_append.1 hu with hu|hu
    · exact h.2.1 u hu
    · exact h'.2.1 u hu
  · have hj:j<t.size:=by have:=(List.getElem?_eq_some_iff.1 hp).1;rwa [cellsOf_size] at this
    by_cases hi:i<xs.length
    · rw [List.getElem?_append_left hi] at hx
      obtain ⟨v,e1,e2⟩:=h.2.2 i x j p hx hp
      exact ⟨v,by rw [List.getElem?_append_left (List.getElem?_eq_some_iff.1 e1).1];exact e1,e2⟩
    · rw [List.getElem?_append_right (by omega)] at hx
      obtain ⟨v,e1,e2⟩:=h'.2.2 _ x j p hx hp
      refine ⟨v,?_,e2⟩
      have:xs.length * t.size≤i * t.size:=Nat.mul_le_mul_right _ (by omega)
      rw [List.getElem?_append_right (by rw [h.1];omega),h.1,show i * t.size+j - xs.length * t.size=(i - xs.length) * t.size+j by rw [Nat.sub_mul];omega]
      exact e1
theorem own_new {w':World} (hr:Rel S F w H) {b blk:Nat} {x y:Blk} (hx:hget H b = .live x) (hw:x.wr=true) (hbk:blkOf (S b)=some blk) (hne:nb≠b) (hu:hget H nb = .unused) (hsz:w'.heap.size=w.heap.size) (ho:∀ k',k'≠blk→w'.heap[k']?=w.heap[k']?) (hst:Str w w')
    {l:SL} (hl:blkOf l=some blk) (hok:SlotOk (upS (upS S b .dead) nb l) F w' (.live y) l) :
    Rel (upS (upS S b .dead) nb l) F w' (hset (hset H b .dead) nb (.live y))∧Adv S F w H (upS (upS S b .dead) nb l) F w' (hset (hset H b .dead) nb (.live y)):=by
  have hWR:WR S H blk:=⟨b,x,hx,hw,hbk⟩
  have hnF:¬ F blk:=fun h=>hr.not_wr h hWR
  have e1:upS (upS S b .dead) nb l nb=l:=by simp [upS]
  have e2:upS (upS S b .dead) nb l b = .dead:=by simp [upS,Ne.symm hne]
  have e3:∀ c,c≠b→c≠nb→upS (upS S b .dead) nb l c=S c:=by intro c h1 h2;simp [upS,h1,h2]
  generalize upS (upS S b .dead) nb l=S' at *
  have hSS:∀ c,S c ≠ .unused→S' c=S c∨S' c = .dead:=by
    intro c hc
    by_cases h1:c=nb
    · subst h1;exact absurd (unused_S hr hu) hc
    · by_cases h2:c=b
      · subst h2;exact .inr e2
      · exact .inl (e3 c h2 h1)
  constructor
  · refine ⟨fun c=>?_,fun c c' k h1 h2=>?_,fun k hk=>by rw [hsz];exact hr.fsz k hk,hr.gl.mono (fun _ h=>h) fun k' hk'=>ho k' fun e'=>hnF (e' ▸ hk')⟩
    · by_cases h1:c=nb
      · subst h1;rw [hget_hset_same,e1];exact hok
      · rw [hget_hset_ne _ _ _ _ h1]
        by_cases h2:c=b
        · subst h2;rw [hget_hset_same,e2];simp [SlotOk]
        · rw [hget_hset_ne _ _ _ _ h2,e3 c h2 h1]
          exact (hr.slots c).mono (fun _ h=>h) (fun k hk=>ho k fun e=>hnF (e ▸ hk)) hSS (fun k hk=>ho k fun e=>h2 (hr.inj c b k hk (e ▸ hbk))) (fun _ _ h=>h)
    · have key:∀ c k,blkOf (S' c)=some k→(c=nb∧k=blk)∨(c≠nb∧c≠b∧blkOf (S c)=some k):=by
        intro c k h
        by_cases h1:c=nb
        · subst h1;rw [e1,hl] at h;cases h;exact .inl ⟨rfl,rfl⟩
        · by_cases h2:c=b
          · subst h2;rw [e2] at h;cases h
          · rw [e3 c h2 h1] at h;exact .inr ⟨h1,h2,h⟩
      rcases key _ _ h1 with ⟨a1,a2⟩|⟨a1,a2,a3⟩<;>rcases key _ _ h2 with ⟨b1,b2⟩|⟨b1,b2,b3⟩
      · rw [a1,b1]
      · subst a2;exact absurd (hr.inj _ _ _ b3 hbk) b2
      · subst b2;exact absurd (hr.inj _ _ _ a3 hbk) a2
      · exact hr.inj _ _ _ a3 b3
  · refine ⟨fun _ h=>h,hSS,by rw [hsz];exact Nat.le_refl _,fun k hk hn=>ho k fun e=>hn (e ▸ hWR),fun k hk => .inl ?_,fun _ h => .inl h,hst⟩
    obtain ⟨c,z,hz,hzw,hzb⟩:=hk
    by_cases h1:c=nb
    · subst h1;rw [e1,hl] at hzb;cases hzb;exact hWR
    · rw [hget_hset_ne _ _ _ _ h1] at hz
      by_cases h2:c=b
      · subst h2;rw [hget_hset_same] at hz;cases hz
      · rw [hget_hset_ne _ _ _ _ h2] at hz
        rw [e3 c h2 h1] at hzb
        exact ⟨c,z,hz,hzw,hzb⟩
end
end Go.Proofs.YtdcphpbimeoioaaGreatDoorE
end
section
set_option linter.unusedSectionVars false
namespace Go.Proofs.YtdcphpbimeoioaaGreatDoorE
open Go
set_option linter.unusedVariables false
set_option linter.unusedSimpArgs false
variable [Dm]
section
variable {β:Type} {P:Program} {S S':Nat→SL} {F F':Nat→Prop} {w w':World} {H H':Heap} {E:Env} {ρ:Operand→Value} {O:Orc} {nb:Nat} {r:β}
theorem zeroCells_get {z:Array Value} {n:Nat} {i:Nat} {v:Value} (ho:∀ (i:Nat) (v:Value),z[i]?=some v→v.oneCell=true) (h:(Builtin.zeroCells z n)[i]?=some v):v.oneCell=true:=by
  simp only [Builtin.zeroCells] at h
  rw [Array.getElem?_map] at h
  by_cases hi:i<n * z.size
  · rw [Array.getElem?_range,if_pos hi] at h
    simp only [Option.map_some,Option.some.injEq] at h
    subst h
    have hz:0<z.size:=by cases hs:z.size with
      | zero=>rw [hs] at hi;simp at hi
      | succ s=>omega
    have:i % z.size<z.size:=Nat.mod_lt _ hz
    rw [getElem!_pos z (i % z.size) this]
    exact ho _ _ (Array.getElem?_eq_getElem this)
  · rw [Array.getElem?_range,if_neg hi] at h;cases h
theorem room_ok {n bytes:Nat} (h:room n bytes=true):n * bytes≤140737488355328:=by
  simp only [room,decide_eq_true_eq] at h;omega
theorem ok_grow {sz bytes:Nat} {v:Value} {t tx e ty:TypeId} {z:List PV} {i:TypeInfo} {zv:Value} (ht:P.underlying t=some (.slice e)) (hi:P.info? e=some i) (hzv:i.zero=some zv) (hzs:zv.cells.size=i.size) (hzf:∀ (S:Nat→SL) (F:Nat→Prop) (w:World),FillRel S F w z zv.cells)
    (hisz:i.size=sz) (hib:i.bytes=bytes) (hby:0<bytes):∀ {S1:Nat→SL} {H1:Heap} (t':Ty) (xs more:List (El t')) (base:Option Addr) (cap:Nat) (olds news:List Value),t'.size=sz→Rel S1 F w H1→hget H1 nb = .unused→Elems S1 F w t' xs olds→Elems S1 F w t' more news →
      (Builtin.firstCells i.size xs.length (.slice base xs.length cap)).run P w.drew = .ok olds.toArray w.drew→Src P i.size tx v more.length news w→cap<xs.length+more.length→room (xs.length+more.length) bytes=true→xs.length≤cap →
      ∃ u' w' S',(Builtin.append_ #[t,tx] ty #[.slice base xs.length cap,v]).run P w = .ok u' w'∧Rel S' F w' (hset H1 nb (.live (.arr t' (xs++more) true)))∧Adv S1 F w H1 S' F w' (hset H1 nb (.live (.arr t' (xs++more) true)))∧Val S' F w' (.own nb) u':=by
  intro S1 H1 t' xs more base cap olds news hsz hr1 hu1 ho hn hf hsrc hlt hroom hle
  have hb:=room_ok hroom
  have h63:(((xs.length+more.length:Nat)):Int)≤9223372036854775807:=by
    have:xs.length+more.length≤(xs.length+more.length) * bytes:=Nat.le_mul_of_pos_right _ hby
    omega
  have hrun:=run_append_grow_src (P:=P) w t tx ty e i zv ht hi hzv base xs.length cap olds hf v more.length news hsrc hlt h63 (growslice_fits hlt (by rw [hib];exact hb))
  have he:=elems_append ho hn
  have hge:=grownCap_ge w (xs.length+more.length) cap e
  have hdr:(w.drew).heap=w.heap:=rfl
  have hr2:Rel S1 F w.drew H1:=hr1.heap hdr
  obtain ⟨S',n1,n2,n3⟩:=new_arr (nb:=nb) (t:=t') (xs:=xs++more) (c:=(olds++news).toArray++Builtin.zeroCells zv.cells (grownCap w (xs.length+more.length) cap e - (xs.length+more.length))) (e:=e) (cap:=grownCap w (xs.length+more.length) cap e) (fr:=(0,0)) hr2 hu1
    (by simpa using hge) (by
      have h1:=he.1
      simp only [Array.size_append,List.size_toArray,size_zeroCells,h1,hzs,hisz,hsz,List.length_append]
      rw [← Nat.add_mul];exact Nat.mul_le_mul_right _ (by omega)) (fun k _ hh=>by simp at hh)
    (fun i' x j p a b=>by
      obtain ⟨vv,e1,e2⟩:=he.2.2 i' x j p a b
      exact ⟨vv,by rw [Array.getElem?_append_left (by simpa using (List.getElem?_eq_some_iff.1 e1).1)];simpa using e1,e2.heap hdr⟩)
    (fun j vv hvv=>by
      rw [Array.getElem?_append] at hvv
      split at hvv
      · exact he.2.1 vv (List.mem_of_getElem? (by simpa using hvv))
      · exact zeroCells_get (hzf S1 F w).2.2 hvv)
  have n3':Val S' F (w.drew.alloc (.cells ((olds++news).toArray++Builtin.zeroCells zv.cells (grownCap w (xs.length+more.length) cap e - (xs.length+more.length))) e)) (.own nb) (.slice (some ⟨w.heap.size,0,none⟩) (xs.length+more.length) (grownCap w (xs.length+more.length) cap e)):=by
    have hl:(xs++more).length=xs.length+more.length:=List.length_append
    rw [hl] at n3
    exact n3
  refine ⟨_,_,S',hrun,n1,?_,n3'⟩
  have:=(Adv.heap hdr ⟨rfl,rfl,rfl,(fun _=>Nat.le_succ _)⟩ S1 F H1).trans' n2
  exact this
theorem ok_appendV0 {sz bytes:Nat} {b lo n:Nat} {y:PV} {u v:Value} {t tx e ty:TypeId} {z:List PV} {K:PV→Heap→Option β} (hr:Rel S F w H) (hx:Val S F w (.view b lo n) u) (hy:Val S F w y v) (ht:P.underlying t=some (.slice e)) (hz:zeroPV P e=some z) (hs:szOf P e=some sz)
    (hby:0<bytes) (hbe:P.bytesOf e=bytes) (hk:(∃ e',P.underlying tx=some (.slice e'))∨P.underlying tx=some .string) (hks:P.underlying tx=some .string↔∃ s,y = .str s) (h:appendV nb H sz bytes (.view b lo n) y K=some r) :
    ∃ u' w',(Builtin.append_ #[t,tx] ty #[u,v]).run P w = .ok u' w'∧Aft S F w H K r u' w':=by
  obtain ⟨i,zv,hi,hzv,hzs,hzf⟩:=zeroPV_spec hz
  have hisz:i.size=sz:=by unfold szOf at hs;rw [hi] at hs;simpa using hs
  have hib:i.bytes=bytes:=by unfold Program.bytesOf at hbe;rw [hi] at hbe;simpa using hbe
  unfold appendV at h
  simp only at h
  obtain ⟨x,hb,h⟩:=live_some h
  split at h
  · rename_i t' xs
    obtain ⟨more,news,h,hsrc,hel⟩:=src_of hr hy hk hks h
    obtain ⟨h1,h⟩:=cond_some h
    obtain ⟨h2,h⟩:=cond_some h
    obtain ⟨hu,h⟩:=fresh_some h
    rw [fH_eq] at h
    have hK:=h
    simp only [Bool.and_eq_true] at h1
    have hsz:t'.size=sz:=Nat.eq_of_beq_eq_true h1.1
    have hlo:lo=0:=Nat.eq_of_beq_eq_true h1.2
    subst hlo
    obtain ⟨hln,hwl,_⟩:=view_facts hr hb hx
    have hwx:∀ (i:Nat) (x:El t'),(win xs 0 n)[i]?=some x→xs[i]?=some x:=fun i x hi=>by have:=(win_get hi).1;rwa [Nat.zero_add] at this
    obtain ⟨a,cap,hS,hcap,hor,hsp⟩:=hget_arr hr hb
    have hue:u = .slice a n cap:=by
      cases hx with
      | view _ _ _ _ _ _ _ h hl =>
        rw [hS] at h;cases h
        have:(if cap=0 then a else a.map (·.add (0 * t'.size)))=a:=by
          split
          · rfl
          · cases a<;>simp [Addr.add]
        rw [this,Nat.sub_zero]
      | viewd _ _ _ _ h _=>rw [hS] at h;cases h
    rw [← hwl] at hue
    have hcap0:(win xs 0 n).length≤cap:=by omega
    clear hx
    generalize win xs 0 n=xs0 at *
    subst hue
    have hne:nb≠b:=by intro e;subst e;rw [hu] at hb;cases hb
    have hsrc':Src P i.size tx v more.length news w:=by rw [hisz,← hsz];exact hsrc
    by_cases hc0:cap=0
    · have hxs:xs0=[]:=List.length_eq_zero_iff.1 (by omega)
      subst hxs
      by_cases hm:more=[]
      · subst hm
        have hn0:news=[]:=by have:=hel.1;simpa using this
        subst hn0
        obtain ⟨k1,k2⟩:=kill_rel hr hb
        obtain ⟨S',n1,n2,n3⟩:=new_none (nb:=nb) k1 (by rw [hget_hset_ne _ _ _ _ hne];exact hu) t' a
        have hrun:(Builtin.append_ #[t,tx] ty #[.slice a 0 cap,v]).run P w = .ok (.slice a 0 cap) w:=by
          rcases hsrc'.kind with ⟨e',hk⟩|hk<;>cases a<;>simp [Builtin.append_,run_underlying ht,run_underlying hk,sizeOf,typeInfo,hi,hsrc'.len]<;>(have:=hsrc'.cells;simp at this;simp [this,storeCells])
        exact ⟨_,_,hrun, .own nb,_,S',F,hK,by simpa using n1,by subst hc0;exact n3,by simpa using k2.trans' n2⟩
      · have hpos:0<more.length:=List.length_pos_iff.2 hm
        obtain ⟨k1,k2⟩:=kill_rel hr hb
        have hel':Elems (upS S b .dead) F w t' more news:=⟨hel.1,hel.2.1,fun i x j p a b=>by
          obtain ⟨vv,e1,e2⟩:=hel.2.2 i x j p a b
          exact ⟨vv,e1,e2.adv hr k2⟩⟩
        obtain ⟨u',w',S',g1,g2,g3,g4⟩:=ok_grow (tx:=tx) (ty:=ty) ht hi hzv hzs hzf hisz hib hby t' [] more a cap [] news hsz k1 (by rw [hget_hset_ne _ _ _ _ hne];exact hu) (elems_nil t') hel' (by cases a<;>simp [Builtin.firstCells,loadCells,loadCellsFrom]) hsrc' (by simp;omega) h2 (by simp)
        exact ⟨u',w',g1, .own nb,_,S',F,hK,g2,g4,k2.trans' g3⟩
    · rcases hor with h0|⟨ad,rfl,hA,hA1,hA2⟩
      · exact absurd h0 hc0
      · obtain ⟨a0,c,tt,fr,a1,a2,a3,a4,a5⟩:=hA
        obtain ⟨blk,off,sp⟩:=ad
        simp only at a0 a1 a2 a3;subst a0
        have hbk:blkOf (S b)=some blk:=by rw [hS];simp [blkOf,hc0]
        by_cases hroom:xs0.length+more.length≤cap
        · have hnl:news.length=more.length * t'.size:=hel.1
          have hfit:xs0.length * t'.size+news.length≤cap * t'.size:=by rw [hnl,← Nat.add_mul];exact Nat.mul_le_mul_right _ hroom
          have hrun:=run_append_room_src (P:=P) w t tx ty e i ht hi blk off xs0.length cap v more.length news hsrc' hroom
            (fun j hj=>by rw [hisz,← hsz];simp [World.cell?,a1];omega)
            (fun j hj=>by
              rw [hisz,← hsz]
              have:=a3 (off+xs0.length * t'.size+j) (by omega)
              simp only [World.frozen?,a1]
              cases h1:decide (fr.1≤off+xs0.length * t'.size+j)<;>simp_all)
          rw [hisz,← hsz] at hrun
          obtain ⟨c',s1,s2,s3,s4,s5,s6⟩:=setCells_spec news blk (off+xs0.length * t'.size) w c tt fr a1
          have hSS:∀ c,S c ≠ .unused→upS (upS S b .dead) nb (.arr (some ⟨blk,off,none⟩) (xs0++more).length cap t'.size) c=S c∨upS (upS S b .dead) nb (.arr (some ⟨blk,off,none⟩) (xs0++more).length cap t'.size) c = .dead:=by
            intro c hc
            by_cases h1:c=nb
            · subst h1;exact absurd (unused_S hr hu) hc
            · by_cases h2:c=b
              · subst h2;exact .inr (by simp [upS,Ne.symm hne])
              · exact .inl (by simp [upS,h1,h2])
          obtain ⟨m1,m2⟩:=own_new (nb:=nb) (y := .arr t' (xs0++more) true) (l := .arr (some ⟨blk,off,none⟩) (xs0++more).length cap t'.size) hr hb rfl hbk hne hu s6 s5 (setCells_str _ _ _ _) (by simp [blkOf,hc0]) (by
            simp only [SlotOk]
            refine ⟨trivial,trivial,by simpa using hroom,hsp, .inr ⟨_,rfl,⟨rfl,c',tt,fr,s1,by simpa [s2] using a2,by simpa [s2] using a3,fun jj vv hvv=>?_,fun i' x' j' p' hx' hp'=>?_⟩,fun _=>hA1 rfl,fun h=>by cases h⟩⟩
            · by_cases hin:jj<off+xs0.length * t'.size∨off+xs0.length * t'.size+news.length≤jj
              · rw [s3 jj hin] at hvv;exact a4 _ _ hvv
              · have:=s4 (jj - (off+xs0.length * t'.size)) (by omega) (by omega)
                rw [show off+xs0.length * t'.size+(jj - (off+xs0.length * t'.size))=jj by omega,hvv] at this
                exact hel.2.1 _ (List.mem_of_getElem? this.symm)
            · have hj':j'<t'.size:=by have:=(List.getElem?_eq_some_iff.1 hp').1;rwa [cellsOf_size] at this
              simp only
              by_cases hi':i'<xs0.length
              · rw [List.getElem?_append_left hi'] at hx'
                obtain ⟨vv,e1,e2⟩:=a5 i' x' j' p' (hwx _ _ hx') hp'
                have:(i'+1) * t'.size≤xs0.length * t'.size:=Nat.mul_le_mul_right _ (by omega)
                rw [Nat.add_mul,Nat.one_mul] at this
                exact ⟨vv,by rw [s3 _ (by omega)];exact e1,(e2.upd hr hb rfl hbk s5).mono (fun _ h=>h) (fun _ _=>rfl) hSS⟩
              · rw [List.getElem?_append_right (by omega)] at hx'
                obtain ⟨vv,e1,e2⟩:=hel.2.2 _ x' j' p' hx' hp'
                have hlt:=(List.getElem?_eq_some_iff.1 e1).1
                have hge:xs0.length * t'.size≤i' * t'.size:=Nat.mul_le_mul_right _ (by omega)
                have:=s4 ((i' - xs0.length) * t'.size+j') hlt (by omega)
                refine ⟨vv,?_,(e2.upd hr hb rfl hbk s5).mono (fun _ h=>h) (fun _ _=>rfl) hSS⟩
                rw [← e1,← this];congr 1;rw [Nat.sub_mul];omega)
          have hlen:(xs0++more).length=xs0.length+more.length:=List.length_append
          exact ⟨_,_,hrun, .own nb,_,_,F,hK,m1,by rw [← hlen];exact .own nb _ _ _ t'.size (by simp [upS]),m2⟩
        · obtain ⟨k1,k2⟩:=kill_rel hr hb
          have hnb:hget (hset H b .dead) nb = .unused:=by rw [hget_hset_ne _ _ _ _ hne];exact hu
          have hel':Elems (upS S b .dead) F w t' more news:=⟨hel.1,hel.2.1,fun i x j p a b=>by
            obtain ⟨vv,e1,e2⟩:=hel.2.2 i x j p a b
            exact ⟨vv,e1,e2.adv hr k2⟩⟩
          obtain ⟨q1,q2⟩:=elems_from (S:=S) (F:=F) (w:=w) (t:=t') (xs:=xs0) (ad:=⟨blk,off,none⟩) (fun i x j p hx hp=>by
            obtain ⟨vv,e1,e2⟩:=a5 i x j p (hwx _ _ hx) hp
            exact ⟨vv,by simp [World.cell?,a1,e1],e2⟩)
          have q1':Elems (upS S b .dead) F w t' xs0 (rowFrom w ⟨blk,off,none⟩ (xs0.length * t'.size)):=⟨q1.1,q1.2.1,fun i x j p a b=>by
            obtain ⟨vv,e1,e2⟩:=q1.2.2 i x j p a b
            exact ⟨vv,e1,e2.adv hr k2⟩⟩
          have hfc:(Builtin.firstCells i.size xs0.length (.slice (some ⟨blk,off,none⟩) xs0.length cap)).run P w.drew = .ok (rowFrom w ⟨blk,off,none⟩ (xs0.length * t'.size)).toArray w.drew :=
            run_firstCells_some w.drew i.size xs0.length ⟨blk,off,none⟩ xs0.length cap _ (by rw [hisz,← hsz];exact q1.1) (fun j vv hv'=>by rw [add_addr];exact q2 j vv hv')
          obtain ⟨u',w',S',g1,g2,g3,g4⟩:=ok_grow (tx:=tx) (ty:=ty) ht hi hzv hzs hzf hisz hib hby t' xs0 more (some ⟨blk,off,none⟩) cap _ news hsz k1 hnb q1' hel' hfc hsrc' (by omega) h2 hcap0
          exact ⟨u',w',g1, .own nb,_,S',F,hK,g2,g4,k2.trans' g3⟩
  · cases h
theorem ok_appendE {sz bytes:Nat} {t':Ty} {y:PV} {u v:Value} {t tx e ty:TypeId} {z:List PV} {K:PV→Heap→Option β} (hr:Rel S F w H) (hx:Val S F w (.emp t') u) (hy:Val S F w y v) (ht:P.underlying t=some (.slice e)) (hz:zeroPV P e=some z) (hs:szOf P e=some sz)
    (hby:0<bytes) (hbe:P.bytesOf e=bytes) (hk:(∃ e',P.underlying tx=some (.slice e'))∨P.underlying tx=some .string) (hks:P.underlying tx=some .string↔∃ s,y = .str s) (h:appendV nb H sz bytes (.emp t') y K=some r) :
    ∃ u' w',(Builtin.append_ #[t,tx] ty #[u,v]).run P w = .ok u' w'∧Aft S F w H K r u' w':=by
  obtain ⟨i,zv,hi,hzv,hzs,hzf⟩:=zeroPV_spec hz
  have hisz:i.size=sz:=by unfold szOf at hs;rw [hi] at hs;simpa using hs
  have hib:i.bytes=bytes:=by unfold Program.bytesOf at hbe;rw [hi] at hbe;simpa using hbe
  unfold appendV at h
  simp only at h
  obtain ⟨more,news,h,hsrc,hel⟩:=src_of hr hy hk hks h
  obtain ⟨h1,h⟩:=cond_some h
  obtain ⟨h2,h⟩:=cond_some h
  obtain ⟨hu,h⟩:=fresh_some h
  rw [fH_eq] at h
  have hsz:t'.size=sz:=Nat.eq_of_beq_eq_true h1
  have hsrc':Src P i.size tx v more.length news w:=by rw [hisz,← hsz];exact hsrc
  cases hx with
  | emp _ a =>
    by_cases hm:more=[]
    · subst hm
      obtain ⟨S',n1,n2,n3⟩:=new_none hr hu t' a
      have hn0:news=[]:=by have:=hel.1;simpa using this
      subst hn0
      have hrun:(Builtin.append_ #[t,tx] ty #[.slice a 0 0,v]).run P w = .ok (.slice a 0 0) w:=by
        rcases hsrc'.kind with ⟨e',hk⟩|hk<;>cases a<;>simp [Builtin.append_,run_underlying ht,run_underlying hk,sizeOf,typeInfo,hi,hsrc'.len]<;>(have:=hsrc'.cells;simp at this;simp [this,storeCells])
      exact ⟨_,_,hrun, .own nb,_,S',F,h,n1,n3,n2⟩
    · have hpos:0<more.length:=List.length_pos_iff.2 hm
      obtain ⟨u',w',S',g1,g2,g3,g4⟩:=ok_grow (tx:=tx) (ty:=ty) ht hi hzv hzs hzf hisz hib hby t' [] more a 0 [] news hsz hr hu (elems_nil t') hel (by cases a<;>simp [Builtin.firstCells,loadCells,loadCellsFrom]) hsrc' (by simpa using hpos) (by simpa using h2) (Nat.le_refl _)
      exact ⟨u',w',by simpa using g1, .own nb,_,S',F,h,by simpa using g2,g4,by simpa using g3⟩
theorem ok_append {sz bytes:Nat} {x y:PV} {u v:Value} {t tx e ty:TypeId} {z:List PV} {K:PV→Heap→Option β} (hr:Rel S F w H) (hx:Val S F w x u) (hy:Val S F w y v) (ht:P.underlying t=some (.slice e)) (hz:zeroPV P e=some z) (hs:szOf P e=some sz)
    (hby:0<bytes) (hbe:P.bytesOf e=bytes) (hk:(∃ e',P.underlying tx=some (.slice e'))∨P.underlying tx=some .string) (hks:P.underlying tx=some .string↔∃ s,y = .str s) (h:appendV nb H sz bytes x y K=some r) :
    ∃ u' w',(Builtin.append_ #[t,tx] ty #[u,v]).run P w = .ok u' w'∧Aft S F w H K r u' w':=by
  obtain ⟨i,zv,hi,hzv,hzs,hzf⟩:=zeroPV_spec hz
  have hisz:i.size=sz:=by unfold szOf at hs;rw [hi] at hs;simpa using hs
  have hib:i.bytes=bytes:=by unfold Program.bytesOf at hbe;rw [hi] at hbe;simpa using hbe
  by_cases hem:∃ t',x = .emp t'
  · obtain ⟨t',rfl⟩:=hem
    exact ok_appendE hr hx hy ht hz hs hby hbe hk hks h
  by_cases hvw:∃ b lo n,x = .view b lo n
  · obtain ⟨b,lo,n,rfl⟩:=hvw
    exact ok_appendV0 hr hx hy ht hz hs hby hbe hk hks h
  replace h:appendK nb H sz bytes x y K=some r:=by
    unfold appendV at h
    split at h
    · exact absurd ⟨_,_,_,rfl⟩ hvw
    · exact absurd ⟨_,rfl⟩ hem
    · exact h
  unfold appendK at h
  split at h
  · rename_i t'
    obtain ⟨more,news,h,hsrc,hel⟩:=src_of hr hy hk hks h
    obtain ⟨h1,h⟩:=cond_some h
    obtain ⟨h2,h⟩:=cond_some h
    obtain ⟨hu,h⟩:=fresh_some h
    rw [fH_eq] at h
    have hsz:t'.size=sz:=Nat.eq_of_beq_eq_true h1
    cases hx
    by_cases hm:more=[]
    · subst hm
      obtain ⟨S',n1,n2,n3⟩:=new_none hr hu t' none
      have hn0:news=[]:=by have:=hel.1;simpa using this
      subst hn0
      have hrun:(Builtin.append_ #[t,tx] ty #[.slice none 0 0,v]).run P w = .ok (.slice none 0 0) w:=by
        rcases hsrc.kind with ⟨e',hk⟩|hk<;>simp [Builtin.append_,run_underlying ht,run_underlying hk,sizeOf,typeInfo,hi,hsrc.len]<;>(have:=hsrc.cells;rw [hsz,← hisz] at this;simp at this;simp [this])
      exact ⟨_,_,hrun, .own nb,_,S',F,h,n1,n3,n2⟩
    · have hpos:0<more.length:=List.length_pos_iff.2 hm
      obtain ⟨u',w',S',g1,g2,g3,g4⟩:=ok_grow (tx:=tx) (ty:=ty) ht hi hzv hzs hzf hisz hib hby t' [] more none 0 [] news hsz hr hu (elems_nil t') hel (by simp [Builtin.firstCells]) (by rw [hisz,← hsz];exact hsrc) (by simpa using hpos) (by simpa using h2) (Nat.le_refl _)
      exact ⟨u',w',by simpa using g1, .own nb,_,S',F,h,by simpa using g2,g4,by simpa using g3⟩
  · rename_i b
    obtain ⟨x,hb,h⟩:=live_some h
    split at h
    · rename_i t' xs
      obtain ⟨more,news,h,hsrc,hel⟩:=src_of hr hy hk hks h
      obtain ⟨h1,h⟩:=cond_some h
      obtain ⟨h2,h⟩:=cond_some h
      obtain ⟨hu,h⟩:=fresh_some h
      rw [fH_eq] at h
      have hsz:t'.size=sz:=Nat.eq_of_beq_eq_true h1
      obtain ⟨a,cap,hS,hcap,hor,hsp⟩:=hget_arr hr hb
      have hue:u = .slice a xs.length cap:=by
        cases hx with
        | own _ _ _ _ _ h=>rw [hS] at h;cases h;rfl
        | ownd _ _ h _=>rw [hS] at h;cases h
      subst hue
      have hne:nb≠b:=by intro e;subst e;rw [hu] at hb;cases hb
      have hsrc':Src P i.size tx v more.length news w:=by rw [hisz,← hsz];exact hsrc
      by_cases hc0:cap=0
      · have hxs:xs=[]:=List.length_eq_zero_iff.1 (by omega)
        subst hxs
        by_cases hm:more=[]
        · subst hm
          have hn0:news=[]:=by have:=hel.1;simpa using this
          subst hn0
          obtain ⟨k1,k2⟩:=kill_rel hr hb
          obtain ⟨S',n1,n2,n3⟩:=new_none (nb:=nb) k1 (by rw [hget_hset_ne _ _ _ _ hne];exact hu) t' a
          have hrun:(Builtin.append_ #[t,tx] ty #[.slice a 0 cap,v]).run P w = .ok (.slice a 0 cap) w:=by
            rcases hsrc'.kind with ⟨e',hk⟩|hk<;>cases a<;>simp [Builtin.append_,run_underlying ht,run_underlying hk,sizeOf,typeInfo,hi,hsrc'.len]<;>(have:=hsrc'.cells;simp at this;simp [this,storeCells])
          exact ⟨_,_,hrun, .own nb,_,S',F,h,by simpa using n1,by subst hc0;exact n3,by simpa using k2.trans' n2⟩
        · have hpos:0<more.length:=List.length_pos_iff.2 hm
          obtain ⟨k1,k2⟩:=kill_rel hr hb
          have hel':Elems (upS S b .dead) F w t' more news:=⟨hel.1,hel.2.1,fun i x j p a b=>by
            obtain ⟨vv,e1,e2⟩:=hel.2.2 i x j p a b
            exact ⟨vv,e1,e2.adv hr k2⟩⟩
          obtain ⟨u',w',S',g1,g2,g3,g4⟩:=ok_grow (tx:=tx) (ty:=ty) ht hi hzv hzs hzf hisz hib hby t' [] more a cap [] news hsz k1 (by rw [hget_hset_ne _ _ _ _ hne];exact hu) (elems_nil t') hel' (by cases a<;>simp [Builtin.firstCells,loadCells,loadCellsFrom]) hsrc' (by simp;omega) h2 (by simp)
          exact ⟨u',w',g1, .own nb,_,S',F,h,g2,g4,k2.trans' g3⟩
      · rcases hor with h0|⟨ad,rfl,hA,hA1,hA2⟩
        · exact absurd h0 hc0
        · have hA':=hA
          obtain ⟨a0,c,tt,fr,a1,a2,a3,a4,a5⟩:=hA
          obtain ⟨blk,off,sp⟩:=ad
          simp only at a0 a1 a2 a3;subst a0
          have hbk:blkOf (S b)=some blk:=by rw [hS];simp [blkOf,hc0]
          by_cases hroom:xs.length+more.length≤cap
          ·
            have hnl:news.length=more.length * t'.size:=hel.1
            have hfit:xs.length * t'.size+news.length≤cap * t'.size:=by rw [hnl,← Nat.add_mul];exact Nat.mul_le_mul_right _ hroom
            have hrun:=run_append_room_src (P:=P) w t tx ty e i ht hi blk off xs.length cap v more.length news hsrc' hroom
              (fun j hj=>by rw [hisz,← hsz];simp [World.cell?,a1];omega)
              (fun j hj=>by
                rw [hisz,← hsz]
                have:=a3 (off+xs.length * t'.size+j) (by omega)
                simp only [World.frozen?,a1]
                cases h1:decide (fr.1≤off+xs.length * t'.size+j)<;>simp_all)
            rw [hisz,← hsz] at hrun
            obtain ⟨c',s1,s2,s3,s4,s5,s6⟩:=setCells_spec news blk (off+xs.length * t'.size) w c tt fr a1
            have hup:=upd_rel (y := .arr t' xs true) hr hb rfl rfl hbk s6 s5 (setCells_str _ _ _ _) (by
              rw [hS]
              simp only [SlotOk]
              refine ⟨trivial,trivial,hcap,hsp, .inr ⟨_,rfl,⟨rfl,c',tt,fr,s1,by simpa [s2] using a2,by simpa [s2] using a3,fun jj vv hvv=>?_,fun i' x' j' p' hx' hp'=>?_⟩,fun _=>hA1 rfl,fun h=>by cases h⟩⟩
              · by_cases hin:jj<off+xs.length * t'.size∨off+xs.length * t'.size+news.length≤jj
                · rw [s3 jj hin] at hvv;exact a4 _ _ hvv
                · have:=s4 (jj - (off+xs.length * t'.size)) (by omega) (by omega)
                  rw [show off+xs.length * t'.size+(jj - (off+xs.length * t'.size))=jj by omega,hvv] at this
                  exact hel.2.1 _ (List.mem_of_getElem? this.symm)
              · obtain ⟨vv,e1,e2⟩:=a5 i' x' j' p' hx' hp'
                have hi':i'<xs.length:=(List.getElem?_eq_some_iff.1 hx').1
                have hj':j'<t'.size:=by have:=(List.getElem?_eq_some_iff.1 hp').1;rwa [cellsOf_size] at this
                have:(i'+1) * t'.size≤xs.length * t'.size:=Nat.mul_le_mul_right _ (by omega)
                rw [Nat.add_mul,Nat.one_mul] at this
                exact ⟨vv,by simp only;rw [s3 _ (by omega)];exact e1,e2.upd hr hb rfl hbk s5⟩)
            obtain ⟨r1,r2⟩:=hup
            have hb':hget (hset H b (.live (.arr t' xs true))) b = .live (.arr t' xs true):=hget_hset_same _ _ _
            obtain ⟨S',m1,m2,m3⟩:=move_rel (nb:=nb) (xs':=xs++more) r1 hne (by rw [hget_hset_ne _ _ _ _ hne];exact hu) hb' hS (by
              simp only [SlotOk]
              refine ⟨trivial,trivial,by simpa using hroom,hsp, .inr ⟨_,rfl,⟨rfl,c',tt,fr,s1,by simpa [s2] using a2,by simpa [s2] using a3,fun jj vv hvv=>?_,fun i' x' j' p' hx' hp'=>?_⟩,fun _=>hA1 rfl,fun h=>by cases h⟩⟩
              · by_cases hin:jj<off+xs.length * t'.size∨off+xs.length * t'.size+news.length≤jj
                · rw [s3 jj hin] at hvv;exact a4 _ _ hvv
                · have:=s4 (jj - (off+xs.length * t'.size)) (by omega) (by omega)
                  rw [show off+xs.length * t'.size+(jj - (off+xs.length * t'.size))=jj by omega,hvv] at this
                  exact hel.2.1 _ (List.mem_of_getElem? this.symm)
              · have hj':j'<t'.size:=by have:=(List.getElem?_eq_some_iff.1 hp').1;rwa [cellsOf_size] at this
                simp only
                by_cases hi':i'<xs.length
                · rw [List.getElem?_append_left hi'] at hx'
                  obtain ⟨vv,e1,e2⟩:=a5 i' x' j' p' hx' hp'
                  have:(i'+1) * t'.size≤xs.length * t'.size:=Nat.mul_le_mul_right _ (by omega)
                  rw [Nat.add_mul,Nat.one_mul] at this
                  exact ⟨vv,by rw [s3 _ (by omega)];exact e1,e2.upd hr hb rfl hbk s5⟩
                · rw [List.getElem?_append_right (by omega)] at hx'
                  obtain ⟨vv,e1,e2⟩:=hel.2.2 _ x' j' p' hx' hp'
                  have hlt:=(List.getElem?_eq_some_iff.1 e1).1
                  have hge:xs.length * t'.size≤i' * t'.size:=Nat.mul_le_mul_right _ (by omega)
                  have:=s4 ((i' - xs.length) * t'.size+j') hlt (by omega)
                  refine ⟨vv,?_,e2.upd hr hb rfl hbk s5⟩
                  rw [← e1,← this];congr 1;rw [Nat.sub_mul];omega)
            have hcg:∀ c,hget (hset (hset H b .dead) nb (.live (.arr t' (xs++more) true))) c=hget (hset (hset (hset H b (.live (.arr t' xs true))) b .dead) nb (.live (.arr t' (xs++more) true))) c:=by
              intro c
              by_cases h1:c=nb
              · subst h1;rw [hget_hset_same,hget_hset_same]
              · rw [hget_hset_ne _ _ _ _ h1,hget_hset_ne _ _ _ _ h1]
                by_cases h2:c=b
                · subst h2;rw [hget_hset_same,hget_hset_same]
                · rw [hget_hset_ne _ _ _ _ h2,hget_hset_ne _ _ _ _ h2,hget_hset_ne _ _ _ _ h2]
            exact ⟨_,_,hrun, .own nb,_,S',F,h,m1.congr hcg,by simpa using m3,(r2.trans' m2).congr hcg⟩
          · obtain ⟨k1,k2⟩:=kill_rel hr hb
            have hnb:hget (hset H b .dead) nb = .unused:=by rw [hget_hset_ne _ _ _ _ hne];exact hu
            have hel':Elems (upS S b .dead) F w t' more news:=⟨hel.1,hel.2.1,fun i x j p a b=>by
              obtain ⟨vv,e1,e2⟩:=hel.2.2 i x j p a b
              exact ⟨vv,e1,e2.adv hr k2⟩⟩
            obtain ⟨q1,q2⟩:=elems_from (S:=S) (F:=F) (w:=w) (t:=t') (xs:=xs) (ad:=⟨blk,off,none⟩) (fun i x j p hx hp=>by
              obtain ⟨vv,e1,e2⟩:=a5 i x j p hx hp
              exact ⟨vv,by simp [World.cell?,a1,e1],e2⟩)
            have q1':Elems (upS S b .dead) F w t' xs (rowFrom w ⟨blk,off,none⟩ (xs.length * t'.size)):=⟨q1.1,q1.2.1,fun i x j p a b=>by
              obtain ⟨vv,e1,e2⟩:=q1.2.2 i x j p a b
              exact ⟨vv,e1,e2.adv hr k2⟩⟩
            have hfc:(Builtin.firstCells i.size xs.length (.slice (some ⟨blk,off,none⟩) xs.length cap)).run P w.drew = .ok (rowFrom w ⟨blk,off,none⟩ (xs.length * t'.size)).toArray w.drew :=
              run_firstCells_some w.drew i.size xs.length ⟨blk,off,none⟩ xs.length cap _ (by rw [hisz,← hsz];exact q1.1) (fun j vv hv'=>by rw [add_addr];exact q2 j vv hv')
            obtain ⟨u',w',S',g1,g2,g3,g4⟩:=ok_grow (tx:=tx) (ty:=ty) ht hi hzv hzs hzf hisz hib hby t' xs more (some ⟨blk,off,none⟩) cap _ news hsz k1 hnb q1' hel' hfc hsrc' (by omega) h2 hcap
            exact ⟨u',w',g1, .own nb,_,S',F,h,g2,g4,k2.trans' g3⟩
    · cases h
  · cases h
end
end Go.Proofs.YtdcphpbimeoioaaGreatDoorE
end
section
set_option linter.unusedSectionVars false
namespace Go.Proofs.YtdcphpbimeoioaaGreatDoorE
open Go
set_option linter.unusedVariables false
set_option linter.unusedSimpArgs false
variable [Dm]
section
variable {β:Type} {P:Program} {S S':Nat→SL} {F F':Nat→Prop} {w w':World} {H H':Heap} {E:Env} {ρ:Operand→Value} {O:Orc} {nb:Nat} {r:β}
theorem lset_spec {α:Type}:∀ (l:List α) (i:Nat) (z:α),(lset l i z).length=l.length∧∀ k q,(lset l i z)[k]?=some q→(k=i∧q=z)∨(k≠i∧l[k]?=some q)
  | [],i,z=>⟨rfl,fun k q h=>by simp [lset] at h⟩
  | a ::l,0,z=>⟨by simp [lset],fun k q h=>by
    cases k with
    | zero=>simp [lset] at h;exact .inl ⟨rfl,h.symm⟩
    | succ k=>simp [lset] at h;exact .inr ⟨by omega,by simpa using h⟩⟩
  | a ::l,i+1,z=>by
    obtain ⟨h1,h2⟩:=lset_spec l i z
    refine ⟨by simp [lset,h1],fun k q h=>?_⟩
    cases k with
    | zero=>simp [lset] at h;exact .inr ⟨by omega,by simpa using h⟩
    | succ k =>
      simp [lset] at h
      rcases h2 _ _ h with ⟨rfl,rfl⟩|⟨h3,h4⟩
      · exact .inl ⟨rfl,rfl⟩
      · exact .inr ⟨by omega,by simpa using h4⟩
def ElArr (S:Nat→SL) (F:Nat→Prop) (w:World) (t:Ty) (xs:List (El t)) (arr:Array Value):Prop:=Elems S F w t xs arr.toList
theorem els_ok {t:Ty}:∀ (ps:List (Nat×PV)) (vs:List (Nat×Value)) (xs:List (El t)) (arr:Array Value) (K:List (El t)→Option β),(∀ (i:Nat) (p:Nat×PV) (v:Nat×Value),ps[i]?=some p→vs[i]?=some v→p.1=v.1∧Val S F' w (snapV H p.2) v.2)→vs.length=ps.length →
    ElArr S F' w t xs arr→elsFill H t xs ps K=some r→∃ xs' arr',K xs'=some r∧Instr.fill (fun i=>some (i * t.size,t.size)) arr vs=some arr'∧ElArr S F' w t xs' arr'∧xs'.length=xs.length
  | [],vs,xs,arr,K,_,hl,ha,h=>by
    have:vs=[]:=by simpa using hl
    subst this
    exact ⟨xs,arr,h,rfl,ha,rfl⟩
  | (i,p) ::ps,vs,xs,arr,K,hp,hl,ha,h=>by
    cases vs with
    | nil=>simp at hl
    | cons v vs =>
      obtain ⟨h1,h2⟩:=hp 0 _ _ rfl rfl
      simp only at h1 h2
      subst h1
      simp only [elsFill] at h
      obtain ⟨cs,h,hsz,hcv,hco⟩:=cells_val h h2
      obtain ⟨y,rest,h,hcs⟩:=decK_some h
      have hrest:rest=[]:=by cases rest<;>simp at h ⊢
      subst hrest
      simp only [List.append_nil] at hcs
      obtain ⟨hlt,h⟩:=cond_some h
      have hlt:v.1<xs.length:=by
        have:=Nat.le_of_ble_eq_true hlt;omega
      have hcl:v.2.cells.size=t.size:=by rw [hsz,hcs,cellsOf_size]
      obtain ⟨f1,f2⟩:=foldl_put (v.1 * t.size) v.2.cells.toList 0 arr
      obtain ⟨l1,l2⟩:=lset_spec xs v.1 y
      have hmul:v.1 * t.size+t.size≤xs.length * t.size:=by
        have:(v.1+1) * t.size≤xs.length * t.size:=Nat.mul_le_mul_right _ (by omega)
        rwa [Nat.add_mul,Nat.one_mul] at this
      have has:arr.size=xs.length * t.size:=by simpa using ha.1
      have e:v.2.cells.zipIdx.foldl (fun cs (c,j)=>cs.setIfInBounds (v.1 * t.size+j) c) arr=(v.2.cells.toList.zipIdx 0).foldl (fun (cs:Array Value) (x:Value×Nat)=>cs.setIfInBounds (v.1 * t.size+x.2) x.1) arr:=by
        rw [← Array.foldl_toList,Array.toList_zipIdx]
      have ha':ElArr S F' w t (lset xs v.1 y) (v.2.cells.zipIdx.foldl (fun cs (c,j)=>cs.setIfInBounds (v.1 * t.size+j) c) arr):=by
        rw [e]
        refine ⟨by simp [f1,l1,has],fun u hu=>?_,fun k q j pp hq hpp=>?_⟩
        · obtain ⟨j,hj⟩:=List.getElem?_of_mem hu
          rw [Array.getElem?_toList,f2] at hj
          split at hj
          · exact hco _ _ (by simpa using hj)
          · exact ha.2.1 u (List.mem_of_getElem? (by rw [Array.getElem?_toList];exact hj))
        · have hj:j<t.size:=by have:=(List.getElem?_eq_some_iff.1 hpp).1;rwa [cellsOf_size] at this
          rw [Array.getElem?_toList,f2]
          simp only [Nat.add_zero,Array.length_toList,hcl]
          rcases l2 k q hq with ⟨rfl,rfl⟩|⟨hne,hq'⟩
          · rw [if_pos ⟨by omega,by omega,by omega⟩]
            have hjl:j<v.2.cells.size:=by omega
            refine ⟨v.2.cells[j],by rw [show v.1 * t.size+j - v.1 * t.size=j by omega];simp [hjl],hcv j pp _ (by rw [hcs];exact hpp) (Array.getElem?_eq_getElem hjl)⟩
          · have hk:k<xs.length:=(List.getElem?_eq_some_iff.1 hq').1
            rw [if_neg (by
              rintro ⟨b1,b2,_⟩
              rcases Nat.lt_or_gt_of_ne hne with hlt|hgt
              · have:(k+1) * t.size≤v.1 * t.size:=Nat.mul_le_mul_right _ (by omega)
                rw [Nat.add_mul,Nat.one_mul] at this;omega
              · have:(v.1+1) * t.size≤k * t.size:=Nat.mul_le_mul_right _ (by omega)
                rw [Nat.add_mul,Nat.one_mul] at this;omega)]
            obtain ⟨vv,e1,e2⟩:=ha.2.2 k q j pp hq' hpp
            exact ⟨vv,by rw [Array.getElem?_toList] at e1;exact e1,e2⟩
      obtain ⟨xs',arr',g1,g2,g3,g4⟩:=els_ok ps vs _ _ K (fun i p v a b=>hp (i+1) p v (by simpa using a) (by simpa using b)) (by simpa using hl) ha' h
      refine ⟨xs',arr',g1,?_,g3,by rw [g4,l1]⟩
      obtain ⟨vi,vv⟩:=v
      simp only [Instr.fill]
      rw [if_neg (by simp at hcl has hmul ⊢;rw [hcl,has];simp;omega)]
      exact g2
theorem zeros_arr {t:Ty} {z:List PV} {zt:El t} {zv:Value} {n:Nat} (hf:∀ (S:Nat→SL) (F:Nat→Prop) (w:World),FillRel S F w z zv.cells) (hz:z.map (cell1 [])=cellsOf t zt) (hp:0<t.size) :
    ElArr S F w t (List.replicate n zt) ((Array.range (n * t.size)).map (zv.cells[· % zv.cells.size]!)):=by
  have hlen:zv.cells.size=t.size:=by rw [(hf S F w).1,← cellsOf_size t zt,← hz];simp
  have hget:∀ j,j<t.size→zv.cells[j % t.size]! = zv.cells[j]! :=fun j hj=>by rw [Nat.mod_eq_of_lt hj]
  refine ⟨by simp,fun u hu=>?_,fun i x j p hx hp'=>?_⟩
  · simp only [Array.toList_map,List.mem_map] at hu
    obtain ⟨k,_,rfl⟩:=hu
    have:k % zv.cells.size<zv.cells.size:=Nat.mod_lt _ (by omega)
    rw [getElem!_pos zv.cells _ this]
    exact (hf S F w).2.2 _ _ (Array.getElem?_eq_getElem this)
  · have hi:i<n:=by have:=(List.getElem?_eq_some_iff.1 hx).1;simpa using this
    have hx':x=zt:=by rw [List.getElem?_replicate,if_pos hi] at hx;simpa using hx.symm
    subst hx'
    have hj:j<t.size:=by have:=(List.getElem?_eq_some_iff.1 hp').1;rwa [cellsOf_size] at this
    have hlt:i * t.size+j<n * t.size:=by
      have:(i+1) * t.size≤n * t.size:=Nat.mul_le_mul_right _ (by omega)
      rw [Nat.add_mul,Nat.one_mul] at this;omega
    have hmod:(i * t.size+j) % zv.cells.size=j:=by rw [hlen,Nat.mul_comm,Nat.mul_add_mod,Nat.mod_eq_of_lt hj]
    have hjl:j<zv.cells.size:=by omega
    refine ⟨zv.cells[j],?_,?_⟩
    · rw [Array.getElem?_toList,Array.getElem?_map,Array.getElem?_range,if_pos hlt]
      simp only [Option.map_some,hmod]
      rw [getElem!_pos zv.cells j hjl]
    · rw [← hz,List.getElem?_map] at hp'
      cases hzj:z[j]? with
      | none=>rw [hzj] at hp';cases hp'
      | some q =>
        rw [hzj] at hp'
        simp only [Option.map_some,Option.some.injEq] at hp'
        subst hp'
        have hv:=(hf S F w).2.1 j q _ hzj (Array.getElem?_eq_getElem hjl)
        unfold cell1
        split
        · rename_i b
          simp only [hget_nil]
          exact .junk _
        · exact nil_lst hv
        · exact hv
theorem ok_bslice {t e:TypeId} {ty:Ty} {z:List PV} {n k:Nat} {parts:Array (Nat×Operand)} {K:PV→Heap→Option β} (hr:Rel S F w H) (hd:Opd S F w E ρ) (hu:P.underlying t=some (.slice e)) (hz:zeroPV P e=some z) (hs:szOf P e=some k) (hk:k=ty.size) (hk0:0<k) (hn:n * k≤1000)
    (h:decK ty (z.map (cell1 [])) (fun z rest=>match rest with
      | _ ::_=>none
      | []=>elsFill H ty (List.replicate n z) (((parts.toList.map fun (x:Nat×Operand)=>(x.1,argOf P e x.2)):List (Nat×Arg)).map fun x=>(x.1,x.2.ev E)) fun xs =>
        fresh H nb (cond (memN nb (vOwn E (((parts.toList.map fun (x:Nat×Operand)=>(x.1,argOf P e x.2)):List (Nat×Arg)).map (·.2)))) none (fH (frz (hset H nb (.live (.arr ty xs true))) (vOwn E (((parts.toList.map fun (x:Nat×Operand)=>(x.1,argOf P e x.2)):List (Nat×Arg)).map (·.2)))) fun H=>K (.own nb) H)))=some r) :
    ∃ u' w',(Instr.buildSlice t n (parts.map fun (i,x)=>(i,ρ x))).run P w = .ok u' w'∧Aft S F w H K r u' w':=by
  generalize hids:vOwn E (((parts.toList.map fun (x:Nat×Operand)=>(x.1,argOf P e x.2)):List (Nat×Arg)).map (·.2))=ids at h
  obtain ⟨zt,rest,h,hzc⟩:=decK_some h
  have hrest:rest=[]:=by cases rest<;>simp at h ⊢
  subst hrest
  simp only [List.append_nil] at hzc
  obtain ⟨i,zv,hi,hzv,hzs,hzf⟩:=zeroPV_spec hz
  obtain ⟨r1,r2⟩:=frz_rel hr ids
  have h0:ElArr S (FZ S F H ids) w ty (List.replicate n zt) ((Array.range (n * ty.size)).map (zv.cells[· % zv.cells.size]!)):=zeros_arr hzf hzc (by omega)
  obtain ⟨xs,arr,h,hfill,hel,hxl⟩:=els_ok (S:=S) (F':=FZ S F H ids) (w:=w) _ (parts.toList.map fun (x:Nat×Operand)=>(x.1,ρ x.2)) _ _ _ (fun j p v a b=>by
      simp only [List.getElem?_map] at a b
      cases hq:parts.toList[j]? with
      | none=>rw [hq] at a;cases a
      | some q =>
        rw [hq] at a b
        simp only [Option.map_some,Option.some.injEq] at a b
        subst a b
        refine ⟨rfl,snapV_val hr (argOf_val hd e q.2) (fun k hk => .inl hk) (fun b k hb ⟨x,hx⟩ hk => .inr ⟨b,x,?_,hx,hk⟩)⟩
        rw [← hids]
        simp only [vOwn,List.mem_flatMap,List.mem_map]
        exact ⟨argOf P e q.2,⟨_,⟨q,List.mem_of_getElem? hq,rfl⟩,rfl⟩,hb⟩) (by simp) h0 h
  obtain ⟨hun,h⟩:=fresh_some h
  obtain ⟨hm,h⟩:=cond_none h
  rw [fH_eq] at h
  have hun':hget (frz H ids) nb = .unused:=by rw [hget_frz,hun];rfl
  obtain ⟨S',n1,n2,n3⟩:=new_arr (nb:=nb) (t:=ty) (xs:=xs) (c:=arr) (e:=e) (cap:=n) (fr:=(0,0)) r1 hun' (by rw [hxl];simp) (by have:=hel.1;rw [hxl] at this;simp at this;omega) (fun k _ hh=>by simp at hh)
    (fun i x j p a b=>by obtain ⟨vv,e1,e2⟩:=hel.2.2 i x j p a b;exact ⟨vv,by simpa using e1,e2⟩) (fun j vv hvv=>hel.2.1 vv (List.mem_of_getElem? (by simpa using hvv)))
  have hcg:∀ c,hget (frz (hset H nb (.live (.arr ty xs true))) ids) c=hget (hset (frz H ids) nb (.live (.arr ty xs true))) c:=by
    intro c
    rw [hget_frz]
    by_cases e:c=nb
    · subst e;rw [hget_hset_same,hget_hset_same,hm];rfl
    · rw [hget_hset_ne _ _ _ _ e,hget_hset_ne _ _ _ _ e,hget_frz]
  have hnl:xs.length=n:=by rw [hxl];simp
  refine ⟨_,_,?_, .own nb,_,S',_,h,n1.congr hcg,by rw [hnl] at n3;exact n3,(r2.trans' n2).congr hcg⟩
  have hle:¬ (n * k>2 ^ 24):=by omega
  have hpk:(parts.map fun (x:Nat×Operand)=>(x.1,ρ x.2)).toList=parts.toList.map fun (x:Nat×Operand)=>(x.1,ρ x.2):=by simp
  simp only [Instr.buildSlice,Sem.run_bind,underlying,run_program,Result.andThen_ok,hu,Sem.run_pure,run_sizeOf hs,Sem.run_ite,if_neg hle]
  by_cases hnk:n * k=0
  · have hn0:n=0:=by
      rcases Nat.mul_eq_zero.1 hnk with h|h
      · exact h
      · omega
    subst hn0
    have hps:(fun (i:Nat)=>some (i * k,k))=fun i=>some (i * ty.size,ty.size):=by rw [hk]
    simp only [Nat.zero_mul,if_true,Sem.run_pure,Result.andThen_ok,hpk,hps]
    have hz0:((Array.range (0 * ty.size)).map (zv.cells[· % zv.cells.size]!))=(#[]:Array Value):=by simp
    rw [hz0] at hfill
    have hz1:Array.map (fun x:Nat=>(default:Value)) (Array.range 0)=#[]:=by apply Array.ext';simp
    simp [hz1,hfill,newRow]
  · rw [if_neg hnk]
    have hps:(fun (i:Nat)=>some (i * k,k))=fun i=>some (i * ty.size,ty.size):=by rw [hk]
    simp only [Sem.run_bind,zeroPV_run hi hzv,Result.andThen_ok,Sem.run_pure,hpk,hps]
    rw [hk]
    simp [hfill,newRow]
end
end Go.Proofs.YtdcphpbimeoioaaGreatDoorE
end
section
set_option linter.unusedSectionVars false
namespace Go.Proofs.YtdcphpbimeoioaaGreatDoorE
open Go
set_option linter.unusedVariables false
set_option linter.unusedSimpArgs false
variable [Dm]
section
variable {β:Type} {P:Program} {S S':Nat→SL} {F F':Nat→Prop} {w w':World} {H H':Heap} {E:Env} {ρ:Operand→Value} {O:Orc} {nb:Nat} {r:β}
theorem wrap_small {n:Int} (h0:0≤n) (h:n≤9223372036854775807):IntKind.i64.wrap n=n:=by
  have e1:IntKind.i64.wrap n=(if (true && decide (n % (18446744073709551616:Int)≥(9223372036854775808:Int)))=true then n % 18446744073709551616 - 18446744073709551616 else n % 18446744073709551616):=rfl
  rw [e1,Int.emod_eq_of_lt h0 (by omega)]
  have h2:¬ (n≥(9223372036854775808:Int)):=by omega
  simp [h2]
theorem ok_mks {t e:TypeId} {ty:Ty} {z:List PV} {k bytes:Nat} {kl kc:IntKind} {l c:Int} {K:PV→Heap→Option β} (hr:Rel S F w H) (hu:P.underlying t=some (.slice e)) (hz:zeroPV P e=some z) (hs:szOf P e=some k) (hk:k=ty.size) (hk0:0<k) (hby:0<bytes) (hbe:P.bytesOf e=bytes)
    (h:cond (ile 0 l) (cond (ile l c) (cond (room c.toNat bytes) (decK ty (z.map (cell1 [])) fun z rest=>match rest with
      | _ ::_=>none
      | []=>fresh H nb (fH (hset H nb (.live (.arr ty (List.replicate l.toNat z) true))) fun H=>K (.own nb) H)) none) none) none=some r) :
    ∃ u' w',(Instr.makeSlice t (.int kl l) (.int kc c)).run P w = .ok u' w'∧Aft S F w H K r u' w':=by
  obtain ⟨h1,h⟩:=cond_some h
  obtain ⟨h2,h⟩:=cond_some h
  obtain ⟨h3,h⟩:=cond_some h
  simp only [ile,decide_eq_true_eq] at h1 h2
  simp only [room,decide_eq_true_eq] at h3
  obtain ⟨zt,rest,h,hzc⟩:=decK_some h
  have hrest:rest=[]:=by cases rest<;>simp at h ⊢
  subst hrest
  simp only [List.append_nil] at hzc
  obtain ⟨hun,h⟩:=fresh_some h
  rw [fH_eq] at h
  obtain ⟨i,zv,hi,hzv,hzs,hzf⟩:=zeroPV_spec hz
  have hib:i.bytes=bytes:=by unfold Program.bytesOf at hbe;rw [hi] at hbe;simpa using hbe
  have h0:ElArr S F w ty (List.replicate c.toNat zt) ((Array.range (c.toNat * ty.size)).map (zv.cells[· % zv.cells.size]!)):=zeros_arr hzf hzc (by omega)
  have hlc:l.toNat≤c.toNat:=by omega
  obtain ⟨S',n1,n2,n3⟩:=new_arr (nb:=nb) (t:=ty) (xs:=List.replicate l.toNat zt) (c:=(Array.range (c.toNat * ty.size)).map (zv.cells[· % zv.cells.size]!)) (e:=e) (cap:=c.toNat) (fr:=(0,0)) hr hun (by simpa using hlc) (by simp) (fun k _ hh=>by simp at hh)
    (fun i x j p a b=>by
      have hi:i<l.toNat:=by have:=(List.getElem?_eq_some_iff.1 a).1;simpa using this
      rw [List.getElem?_replicate,if_pos hi] at a
      obtain ⟨vv,e1,e2⟩:=h0.2.2 i x j p (by rw [List.getElem?_replicate,if_pos (by omega)];exact a) b
      exact ⟨vv,by rw [Array.getElem?_toList] at e1;exact e1,e2⟩) (fun j vv hvv=>h0.2.1 vv (List.mem_of_getElem? (by rw [Array.getElem?_toList];exact hvv)))
  rw [List.length_replicate] at n3
  refine ⟨_,_,?_, .own nb,_,S',F,h,n1,n3,n2⟩
  have hcb:c.toNat≤c.toNat * bytes:=Nat.le_mul_of_pos_right _ hby
  have hc46:c≤70368744177664:=by omega
  have w1:=wrap_small h1 (by omega:l≤9223372036854775807)
  have w2:=wrap_small (by omega:(0:Int)≤c) (by omega:c≤9223372036854775807)
  have hprod:((bytes:Int) * c)≤70368744177664:=by
    have:((c.toNat * bytes:Nat):Int)≤70368744177664:=by omega
    rw [Int.natCast_mul,Int.toNat_of_nonneg (by omega)] at this
    rw [Int.mul_comm];exact this
  have b1:¬ (c<0):=by omega
  have b2:¬ (l<0):=by omega
  have b3:¬ (l>c):=by omega
  have b4:¬ ((bytes:Int) * c>(281474976710656:Int)):=by omega
  have hint:∀ (k:IntKind) (n:Int) (w:World),(Go.asInt (.int k n)).run P w = .ok n w:=fun k n w=>by simp [Go.asInt,asIntOf]
  have c1:¬ (((c<0∨281474976710656<(bytes:Int) * c)∨l<0)∨c<l):=by omega
  simp only [Instr.makeSlice,Sem.run_bind,underlying,run_program,Result.andThen_ok,hu,Sem.run_pure,hint,typeInfo,hi,hib]
  simp only [w1,w2]
  have c2:(((decide (c<0) || decide ((bytes:Int) * c>2 ^ 48)) || decide (l<0)) || decide (l>c))=false:=by
    have:decide ((bytes:Int) * c>2 ^ 48)=false:=by
      rw [decide_eq_false_iff_not]
      intro hh
      have:(2 ^ 48:Int)=281474976710656:=by decide
      omega
    have hle:(bytes:Int) * c≤281474976710656:=by omega
    simp [b1,b2,b3,hle]
  rw [if_neg (by rw [c2];simp)]
  simp only [pure_bind,Sem.run_bind,run_askRoom,Result.andThen_ok,run_sizeOf hs]
  rw [hk]
  by_cases hn:c.toNat * ty.size=0
  · have hz0:(Array.range (c.toNat * ty.size)).map (zv.cells[· % zv.cells.size]!)=#[]:=by rw [hn];apply Array.ext';simp
    have hz1:Array.map (fun x:Nat=>(default:Value)) (Array.range 0)=#[]:=by apply Array.ext';simp
    rw [if_pos hn]
    rw [hn] at hz0
    have hz2:(Array.map (fun x=>zv.cells[x % zv.cells.size]!) (Array.range 0))=#[]:=by apply Array.ext';simp
    rw [hn]
    simp only [hz1,hz2,if_true,Sem.run_pure,Result.andThen_ok,Sem.run_bind,newRow,run_newObj,hz0]
    have hz3:Array.map (fun x=>(#[]:Array Value)[x % (#[]:Array Value).size]!) (Array.range 0)=#[]:=by apply Array.ext';simp
    rw [hz3]
  · rw [if_neg hn]
    simp [zeroPV_run hi hzv,newRow]
theorem ok_s2b {s:ByteArray} {e:TypeId} {K:PV→Heap→Option β} (hr:Rel S F w H) (h:fresh H nb (fH (hset H nb (.live (.arr (.int .u8) (sbytes s) true))) fun H=>K (.own nb) H)=some r) :
    ∃ u' w',(Conv.stringToBytes e s).run P w = .ok u' w'∧Aft S F w H K r u' w':=by
  obtain ⟨hun,h⟩:=fresh_some h
  rw [fH_eq] at h
  have hsz:s.data.size=s.size:=rfl
  let cap:=(Question.appendCap s.size 0 e).cut (w.tape w.drawn (.appendCap s.size 0 e))
  have hcap:s.size≤cap:=by show s.size≤s.size+_;omega
  let cells:Array Value:=(s.data.map fun b=>Value.int .u8 b.toNat)++Array.replicate (cap - s.size) (.int .u8 0)
  have hcs:cells.size=cap:=by simp [cells];omega
  have hdr:w.drew.heap=w.heap:=rfl
  have hr2:Rel S F w.drew H:=hr.heap hdr
  have hl:(show List (El (.int .u8)) from sbytes s).length=s.size:=by simp [sbytes,ByteArray.toList_eq]
  have hone:∀ (j:Nat) (vv:Value),cells[j]?=some vv→vv.oneCell=true:=by
    intro j vv hvv
    simp only [cells,Array.getElem?_append] at hvv
    split at hvv
    · simp at hvv;obtain ⟨_,_,rfl⟩:=hvv;rfl
    · rw [Array.getElem?_replicate] at hvv;split at hvv
      · cases hvv;rfl
      · cases hvv
  obtain ⟨S',n1,n2,n3⟩:=new_arr (nb:=nb) (t := .int .u8) (xs:=sbytes s) (c:=cells) (e:=e) (cap:=cap) (fr:=(cells.size,cells.size+1)) hr2 hun (by rw [hl];exact hcap) (by simp [Ty.size,hcs]) (fun k hk hh=>by simp at hh;omega)
    (fun i x j p hx hp=>by
      cases j with
      | succ j=>simp [cellsOf] at hp
      | zero =>
        simp only [cellsOf,List.getElem?_cons_zero,Option.some.injEq] at hp
        subst hp
        refine ⟨.int .u8 x,?_, .int _ _⟩
        simp only [sbytes,ByteArray.toList_eq,List.getElem?_map] at hx
        have hi:i<s.data.size:=by
          cases hq:s.data.toList[i]? with
          | none=>rw [hq] at hx;cases hx
          | some q=>have:=(List.getElem?_eq_some_iff.1 hq).1;simpa using this
        simp only [Ty.size,Nat.mul_one,Nat.add_zero,cells]
        rw [Array.getElem?_append_left (by simpa using hi)]
        cases hq:s.data.toList[i]? with
        | none=>rw [hq] at hx;cases hx
        | some q =>
          rw [hq] at hx
          simp at hx;subst hx
          rw [Array.getElem?_toList] at hq
          simp [hq])
    hone
  refine ⟨_,_,?_, .own nb,_,S',F,h,n1,by rw [hl] at n3;exact n3,(Adv.heap hdr ⟨rfl,rfl,rfl,(fun _=>Nat.le_succ _)⟩ S F H).trans' n2⟩
  have hfz:({ w.drew with heap:=w.drew.heap.push (.cells cells e) }:World).freeze ⟨w.heap.size,cells.size,none⟩ 1={ w.drew with heap:=w.drew.heap.push (.cells cells e (cells.size,cells.size+1)) }:=by
    simp only [World.freeze]
    rw [if_neg (by decide)]
    have hheap:∀ (a b:Array Obj),a=b→({ w.drew with heap:=a }:World)={ w.drew with heap:=b }:=fun a b h=>by rw [h]
    refine hheap _ _ (Array.ext_getElem? fun k=>?_)
    rw [Array.getElem?_modify,hdr]
    by_cases hk:w.heap.size=k
    · subst hk
      rw [if_pos rfl,Array.getElem?_push_size,Array.getElem?_push_size]
      rfl
    · have hk':¬ k=w.heap.size:=fun e=>hk e.symm
      rw [if_neg hk,Array.getElem?_push,Array.getElem?_push,if_neg hk',if_neg hk']
  simp only [Conv.stringToBytes,Sem.run_bind,run_choose,Question.forced,Bool.false_eq_true,if_false,Result.andThen_ok,newRow,run_newObj,Sem.run_pure,markStringish,run_shape,World.shape?]
  simp only [Array.getElem?_push_size,run_freeze,Result.andThen_ok,Sem.run_pure]
  exact congrArg (fun w'=>Result.ok (Value.slice (some ⟨w.heap.size,0,none⟩) s.size cap) w') hfz
theorem push_fold:∀ (ns:List Int) (s:ByteArray),(ns.foldl (fun r n=>r.push (UInt8.ofNat n.toNat)) s)=⟨s.data++(ns.map fun n=>UInt8.ofNat n.toNat).toArray⟩
  | [],s=>by simp
  | n ::ns,s=>by
    rw [List.foldl_cons,push_fold ns]
    congr 1
    apply Array.ext'
    simp [ByteArray.push]
theorem ok_b2s {x:PV} {u:Value} {K:PV→Heap→Option β} (hr:Rel S F w H) (hx:Val S F w x u) (hns:∀ s,x ≠ .str s) (h:elsOf H (.int .u8) x (fun l=>K (.str (ofBytes l)) H)=some r):Out P S F w (Conv.bytesToString u) (fun v=>K v H) r:=by
  have main:∀ (xs:List Int) (a:Option Addr) (cap:Nat),(xs≠[]→∃ ad,a=some ad)→(xs≠[]→∀ ad,a=some ad→ad.spot=none) →
      (∀ (ad:Addr) (i:Nat) (x:Int),a=some ad→xs[i]?=some x→w.cell? ⟨ad.block,ad.off+i,none⟩=some (.int .u8 x))→(Conv.bytesToString (.slice a xs.length cap)).run P w = .ok (.string (ofBytes xs)) w:=by
    intro xs a cap ha hs hc
    have hof:ofBytes xs=(xs.foldl (fun r n=>r.push (UInt8.ofNat n.toNat)) ByteArray.empty):=by
      rw [push_fold];unfold ofBytes
      have:ByteArray.empty.data=#[]:=rfl
      rw [this];simp
    cases a with
    | none =>
      have:xs=[]:=by cases xs with
        | nil=>rfl
        | cons x r=>obtain ⟨ad,h⟩:=ha (by simp);cases h
      subst this
      rw [hof]
      simp [Conv.bytesToString]
    | some ad =>
      by_cases hx0:xs=[]
      · subst hx0
        rw [run_bytesToString w ad ([]:List Int).length cap [] ?_,hof]
        exact run_loadCells_list (P:=P) w ad [] (fun j v hv=>by simp at hv)
      have h0:=hs hx0 ad rfl
      obtain ⟨blk,off,sp⟩:=ad
      simp only at h0;subst h0
      rw [run_bytesToString w ⟨blk,off,none⟩ xs.length cap xs ?_,hof]
      have:=run_loadCells_list (P:=P) w ⟨blk,off,none⟩ (xs.map (Value.int .u8)) (fun j v hv=>by
        rw [List.getElem?_map] at hv
        cases hq:xs[j]? with
        | none=>rw [hq] at hv;cases hv
        | some q=>rw [hq] at hv;cases hv;rw [add_addr];exact hc _ j q rfl hq)
      rwa [List.length_map] at this
  unfold elsOf at h
  split at h
  · rename_i t'
    obtain ⟨ys,hc,h⟩:=optK_some h
    obtain ⟨e,rfl⟩:=castL_some hc
    subst e
    cases hx
    exact ⟨_,_,h, .str _,main [] none 0 (fun h=>absurd rfl h) (fun _ _ h=>by cases h) (fun _ i x _ h=>by simp at h)⟩
  · rename_i t' xs
    obtain ⟨ys,hc,h⟩:=optK_some h
    obtain ⟨e,rfl⟩:=castL_some hc
    subst e
    cases hx with
    | lst _ _ a cap vf hcap ha hsp hcell hv' =>
      refine ⟨_,_,h, .str _,main xs a cap ha hsp (fun ad i x e hx=>?_)⟩
      have h1:=hcell ad i x 0 (.int .u8 x) e hx rfl
      have h2:=val_int (hv' i x 0 (.int .u8 x) hx rfl)
      rw [h2] at h1
      simpa [Ty.size] using h1.2
  · rename_i b
    obtain ⟨x,hb,h⟩:=live_some h
    cases x with
    | box _ _=>cases h
    | arr t' xs wr =>
      obtain ⟨ys,hc,h⟩:=optK_some h
      obtain ⟨e,rfl⟩:=castL_some hc
      subst e
      obtain ⟨a,cap,hS,hcap,hor,hsp⟩:=hget_arr hr hb
      have hu:u = .slice a (List.length xs) cap:=by
        cases hx with
        | own _ _ _ _ _ h=>rw [hS] at h;cases h;rfl
        | ownd _ _ h _=>rw [hS] at h;cases h
      subst hu
      refine ⟨_,_,h, .str _,main xs a cap (fun hne=>?_) (fun hne=>hsp (by have:=List.length_pos_iff.2 hne;have:=hcap;omega)) (fun ad i x e hxx=>?_)⟩
      · rcases hor with h0|⟨ad,rfl,_⟩
        · subst h0;exact absurd (List.length_eq_zero_iff.1 (Nat.le_zero.1 hcap)) hne
        · exact ⟨ad,rfl⟩
      · subst e
        rcases hor with h0|⟨ad',e',hA,_⟩
        · subst h0
          have h1:=(List.getElem?_eq_some_iff.1 hxx).1
          have h2:List.length xs≤0:=hcap
          omega
        · cases e'
          obtain ⟨v,e1,e2,_⟩:=hA.cellsAt hxx 0 (.int .u8 x) rfl
          rw [val_int e2] at e1
          simpa [Ty.size] using e1
  · rename_i b lo k
    obtain ⟨x,hb,h⟩:=live_some h
    cases x with
    | box _ _=>cases h
    | arr t' xs wr =>
      obtain ⟨ys,hc,h⟩:=optK_some h
      obtain ⟨e,rfl⟩:=castL_some hc
      subst e
      obtain ⟨_,hwl,a,cap,rfl,_,ha,hs,hcell⟩:=view_facts hr hb hx
      have hm:=main (win xs lo k) a cap ha hs (fun ad i x e hxx=>by
        obtain ⟨v,e1,e2⟩:=hcell ad i x 0 (.int .u8 x) e hxx rfl
        rw [val_int e2] at e1
        simpa [Ty.size] using e1)
      have hwl':List.length (win xs lo k)=k:=hwl
      rw [hwl'] at hm
      exact ⟨_,_,h, .str _,hm⟩
  · exact absurd rfl (hns _)
  · cases h
end
end Go.Proofs.YtdcphpbimeoioaaGreatDoorE
end
section
set_option linter.unusedSectionVars false
namespace Go.Proofs.YtdcphpbimeoioaaGreatDoorE
open Go
set_option linter.unusedVariables false
set_option linter.unusedSimpArgs false
variable [Dm]
section
variable {β:Type} {P:Program} {S S' S1:Nat→SL} {F F' F1:Nat→Prop} {w w':World} {H H' H1:Heap} {E:Env} {ρ:Operand→Value} {O:Orc} {nb:Nat} {r:β}
def Args (S:Nat→SL) (F:Nat→Prop) (w:World) (ags:List PV) (vs:Array Value):Prop:=vs.size=ags.length∧∀ (i:Nat) (p:PV) (v:Value),ags[i]?=some p→vs[i]?=some v→Val S F w p v
def CallOk (P:Program) (f:FuncId) (ags:List PV) (H:Heap) (p:PV×Heap):Prop :=
  ∀ (S:Nat→SL) (F:Nat→Prop) (w:World) (vs:Array Value),Rel S F w H→Args S F w ags vs →
    Calls P f vs w fun e w'=>∃ v S' F',e = .returned v∧Rel S' F' w' p.2∧Val S' F' w' p.1 v∧Adv S F w H S' F' w' p.2
def Enters (P:Program) (f:FuncId):Prop:=∃ fn,P.funcs[f]?=some fn∧fn.body.isSome=true∧(fn.name == "runtime.NumGoroutine")=false
def OrcOk (P:Program) (O:Orc):Prop:=∀ f ags H,match O.call f ags H with
  | ⟨_,x,enc,keeps⟩=>∀ p,x=some p→Enters P f∧CallOk P f ags H (enc p)∧(keeps=true→(enc p).2=H)
theorem cellsOf_pure:∀ (t:Ty) (x:El t) (j:Nat) (p:PV),(cellsOf t x)[j]?=some p→pureC p=true
  | .int k,n,j,p,h=>by cases j<;>simp [cellsOf] at h;subst h;rfl
  | .bool,b,j,p,h=>by cases j<;>simp [cellsOf] at h;subst h;rfl
  | .str,s,j,p,h=>by cases j<;>simp [cellsOf] at h;subst h;rfl
  | .slice t,xs,j,p,h=>by cases j<;>simp [cellsOf] at h;subst h;rfl
  | .unit,_,j,p,h=>by simp [cellsOf] at h
  | .none,x,_,_,_=>nomatch x
  | .pair a b,x,j,p,h=>by
    simp only [cellsOf] at h
    by_cases hj:j<(cellsOf a x.1).length
    · rw [List.getElem?_append_left hj] at h;exact cellsOf_pure a _ j p h
    · rw [List.getElem?_append_right (by omega)] at h;exact cellsOf_pure b _ _ p h
theorem Val.pure (hF:∀ k,F k→F' k) (hw:∀ k,F k→w'.heap[k]?=w.heap[k]?) {p:PV} {v:Value} (h:Val S F w p v):pureC p=true→Val S' F' w' p v:=by
  induction h with
  | junk v=>exact fun _ => .junk v
  | raw v=>exact fun _ => .raw v
  | int k n=>exact fun _ => .int k n
  | bool b=>exact fun _ => .bool b
  | str s=>exact fun _ => .str s
  | agg=>exact fun h=>by simp [pureC] at h
  | tup=>exact fun h=>by simp [pureC] at h
  | nil t=>exact fun _ => .nil t
  | lst t xs a cap vf hc ha hs hcell hv ih =>
    exact fun _ => .lst t xs a cap vf hc ha hs (fun ad i x j p e1 e2 e3=>⟨hF _ (hcell ad i x j p e1 e2 e3).1,(cell_of_heap (hw _ (hcell ad i x j p e1 e2 e3).1) _).trans (hcell ad i x j p e1 e2 e3).2⟩) (fun i x j p a b=>ih i x j p a b (cellsOf_pure _ _ _ _ b))
  | own=>exact fun h=>by simp [pureC] at h
  | ownd=>exact fun h=>by simp [pureC] at h
  | nilp=>exact fun _ => .nilp
  | ptr=>exact fun h=>by simp [pureC] at h
  | ptra=>exact fun h=>by simp [pureC] at h
  | ptrd=>exact fun h=>by simp [pureC] at h
  | view=>exact fun h=>by simp [pureC] at h
  | viewd=>exact fun h=>by simp [pureC] at h
  | emp=>exact fun h=>by simp [pureC] at h
  | ref=>exact fun h=>by simp [pureC] at h
  | fn=>exact fun h=>by simp [pureC] at h
theorem Val.pref (hF:∀ k,F k→F' k) (hw:∀ k,F k→w'.heap[k]?=w.heap[k]?) {cs:List PV} {v:Value} (h:Val S F w (.ref cs) v) (hp:cs.all pureC=true):Val S' F' w' (.ref cs) v:=by
  cases h with
  | ref _ ad vf hs hcell ho hv =>
    exact .ref cs ad vf hs (fun j p e=>⟨hF _ (hcell j p e).1,(cell_of_heap (hw _ (hcell j p e).1) _).trans (hcell j p e).2⟩) ho (fun j p e=>(hv j p e).pure hF hw (List.all_eq_true.1 hp p (List.mem_of_getElem? e)))
theorem posN_some {b:Nat}:∀ {ids:List Nat} {i:Nat},posN b ids=some i→ids[i]?=some b
  | [],i,h=>by simp [posN] at h
  | c ::r,i,h=>by
    simp only [posN] at h
    by_cases hb:Nat.beq b c=true
    · rw [hb] at h;simp only [cond_true,Option.some.injEq] at h;subst h
      simp [Nat.eq_of_beq_eq_true hb]
    · simp only [Bool.not_eq_true] at hb
      rw [hb] at h
      simp only [cond_false] at h
      cases hp:posN b r with
      | none=>rw [hp] at h;cases h
      | some k=>rw [hp] at h;simp only [Option.some.injEq] at h;subst h;simpa using posN_some hp
theorem posN_none {b:Nat}:∀ {ids:List Nat},posN b ids=none→b ∉ ids
  | [],h=>by simp
  | c ::r,h=>by
    simp only [posN] at h
    by_cases hb:Nat.beq b c=true
    · rw [hb] at h;simp at h
    · simp only [Bool.not_eq_true] at hb
      rw [hb] at h
      simp only [cond_false] at h
      cases hp:posN b r with
      | none =>
        simp only [List.mem_cons,not_or]
        exact ⟨(fun e=>by subst e;rw [show Nat.beq b b=true from Nat.beq_refl b] at hb;cases hb),posN_none hp⟩
      | some k=>rw [hp] at h;cases h
theorem posN_get {ids:List Nat} (hd:ids.Nodup) {i b:Nat} (h:ids[i]?=some b):posN b ids=some i:=by
  cases hp:posN b ids with
  | none=>exact absurd (List.mem_of_getElem? h) (posN_none hp)
  | some k =>
    have h2:=posN_some hp
    obtain ⟨l1,e1⟩:=List.getElem?_eq_some_iff.1 h
    obtain ⟨l2,e2⟩:=List.getElem?_eq_some_iff.1 h2
    have hpw:=List.pairwise_iff_getElem.1 hd
    rcases Nat.lt_trichotomy i k with h3|h3|h3
    · exact absurd (e1.trans e2.symm) (hpw i k l1 l2 h3)
    · rw [h3]
    · exact absurd (e2.trans e1.symm) (hpw k i l2 l1 h3)
theorem reach_nodup:∀ (n:Nat) (H:Heap) (todo seen:List Nat),seen.Nodup→(reach H n todo seen).Nodup
  | 0,_,_,_,h=>h
  | _+1,_,[],_,h=>h
  | n+1,H,b ::r,seen,h=>by
    simp only [reach]
    cases hm:memN b seen with
    | true=>exact reach_nodup n H r seen h
    | false =>
      simp only [cond_false]
      refine reach_nodup n H _ _ ?_
      rw [List.nodup_append]
      refine ⟨h,by simp,fun a ha b' hb' e=>?_⟩
      simp at hb';subst hb';subst e
      have:=memN_iff.2 ha
      rw [hm] at this;cases this
theorem renC_val {ids:List Nat} (hF:∀ k,F k→F' k) (hw:∀ k,F k→w'.heap[k]?=w.heap[k]?) (hS:∀ b i,posN b ids=some i→S b ≠ .unused→S' i=S b) {c:PV} {v:Value} (h:Val S F w c v):Val S' F' w' (renC ids c) v:=by
  cases h with
  | view b lo k a n cap sz hb hl=>simp only [renC,pureC,cond_false];exact .junk _
  | viewd b lo k v hb ho=>simp only [renC,pureC,cond_false];exact .junk _
  | emp t a=>simp only [renC,pureC,cond_false];exact .junk _
  | own b a n cap sz hb =>
    simp only [renC]
    cases hp:posN b ids with
    | none=>exact .junk _
    | some i=>exact .own i a n cap sz ((hS b i hp (by rw [hb];simp)).trans hb)
  | ownd b v hb ho =>
    simp only [renC]
    cases hp:posN b ids with
    | none=>exact .junk _
    | some i=>exact .ownd i v ((hS b i hp (by rw [hb];simp)).trans hb) ho
  | ptr b blk j hb =>
    simp only [renC]
    cases hp:posN b ids with
    | none=>exact .junk _
    | some i=>exact .ptr i blk j ((hS b i hp (by rw [hb];simp)).trans hb)
  | ptra b a n cap sz i j hb hi =>
    simp only [renC]
    cases hp:posN b ids with
    | none=>exact .junk _
    | some k=>exact .ptra k a n cap sz i j ((hS b k hp (by rw [hb];simp)).trans hb) hi
  | ptrd b i j v hb ho =>
    simp only [renC]
    cases hp:posN b ids with
    | none=>exact .junk _
    | some k=>exact .ptrd k i j v ((hS b k hp (by rw [hb];simp)).trans hb) ho
  | ref cs ad vf hs hcell ho hv =>
    simp only [renC]
    cases hp:cs.all pureC with
    | false=>exact .junk _
    | true=>exact (Val.ref cs ad vf hs hcell ho hv).pref hF hw hp
  | agg=>simp only [renC,pureC];exact .junk _
  | tup=>simp only [renC,pureC];exact .junk _
  | fn=>simp only [renC,pureC];exact .junk _
  | junk v=>exact .junk v
  | raw v=>exact .raw v
  | int k n=>exact .int k n
  | bool b=>exact .bool b
  | str s=>exact .str s
  | nil t=>exact .nil t
  | nilp=>exact .nilp
  | lst t xs a cap vf hc ha hs hcell hv=>exact (Val.lst t xs a cap vf hc ha hs hcell hv).pure hF hw rfl
theorem map_val {A B:PV→Value→Prop} {g:PV→PV} (hg:∀ c v,A c v→B (g c) v) {cs:List PV} {vs:Array Value} (h:∀ (i:Nat) (p:PV) (v:Value),cs[i]?=some p→vs[i]?=some v→A p v) :
    ∀ (i:Nat) (p:PV) (v:Value),(cs.map g)[i]?=some p→vs[i]?=some v→B p v:=by
  intro i p v hp hv
  rw [List.getElem?_map] at hp
  cases hc:cs[i]? with
  | none=>rw [hc] at hp;cases hp
  | some c=>rw [hc] at hp;cases hp;exact hg _ _ (h i c v hc hv)
theorem elem_val {A B:PV→Value→Prop} {g e:PV→PV} (hA:∀ p v,A p v→Val S F w p v) (hB:∀ p v,Val S' F' w' p v→B p v) (hg:∀ c v,Val S F w c v→Val S' F' w' (g c) v) (he:∀ c,e c=match c with|.agg cs => .agg (cs.map g)|v=>g v) {c:PV} {v:Value} (h:A c v):B (e c) v:=by
  rw [he]
  have h:=hA c v h
  refine hB _ _ ?_
  clear hA hB he
  split
  · cases h with
    | agg _ vs hl hv ho=>exact .agg _ vs (by simp [hl]) (map_val hg hv) ho
  · exact hg _ _ h
theorem whole_val {g e t:PV→PV} (hg:∀ c v,Val S F w c v→Val S' F' w' (g c) v) (he:∀ c,e c=match c with|.agg cs => .agg (cs.map g)|v=>g v) (ht:∀ c,t c=match c with|.tup vs => .tup (vs.map e)|.fn f a b => .fn f (a.map g) (b.map g)|v=>e v) {c:PV} {v:Value} (h:Val S F w c v):Val S' F' w' (t c) v:=by
  have hee:∀ c v,Val S F w c v→Val S' F' w' (e c) v:=fun c v h=>elem_val (A:=Val S F w) (B:=Val S' F' w') (fun _ _ h=>h) (fun _ _ h=>h) hg he h
  rw [ht]
  split
  · cases h with
    | tup _ vs hl hv=>exact .tup _ vs (by simp [hl]) (map_val hee hv)
  · cases h with
    | fn _ _ _ va vb la lb ha hb=>exact .fn _ _ _ va vb (by simp [la]) (by simp [lb]) (map_val hg ha) (map_val hg hb)
  · exact hee _ _ h
theorem renV_val {ids:List Nat} (hF:∀ k,F k→F' k) (hw:∀ k,F k→w'.heap[k]?=w.heap[k]?) (hS:∀ b i,posN b ids=some i→S b ≠ .unused→S' i=S b) {c:PV} {v:Value} (h:Val S F w c v):Val S' F' w' (renV ids c) v :=
  whole_val (g:=renC ids) (e:=renE ids) (fun c v h=>renC_val hF hw hS h) (fun c=>by cases c<;>rfl) (fun c=>by cases c<;>rfl) h
theorem bakC_val {ids:List Nat} {nb:Nat} (hF:∀ k,F k→F' k) (hS:∀ i,S i ≠ .unused→S' (bakN ids nb i)=S i) {c:PV} {v:Value} (h:Val S F w c v):Val S' F' w (bakC ids nb c) v:=by
  have hw:∀ k,F k→w.heap[k]?=w.heap[k]?:=fun _ _=>rfl
  cases h with
  | view b lo k a n cap sz hb hl=>simp only [bakC,pureC,cond_false];exact .junk _
  | viewd b lo k v hb ho=>simp only [bakC,pureC,cond_false];exact .junk _
  | emp t a=>simp only [bakC,pureC,cond_false];exact .junk _
  | own b a n cap sz hb=>exact .own _ a n cap sz ((hS b (by rw [hb];simp)).trans hb)
  | ownd b v hb ho=>exact .ownd _ v ((hS b (by rw [hb];simp)).trans hb) ho
  | ptr b blk j hb=>exact .ptr _ blk j ((hS b (by rw [hb];simp)).trans hb)
  | ptra b a n cap sz i j hb hi=>exact .ptra _ a n cap sz i j ((hS b (by rw [hb];simp)).trans hb) hi
  | ptrd b i j v hb ho=>exact .ptrd _ i j v ((hS b (by rw [hb];simp)).trans hb) ho
  | ref cs ad vf hs hcell ho hv =>
    simp only [bakC]
    cases hp:cs.all pureC with
    | false=>exact .junk _
    | true=>exact (Val.ref cs ad vf hs hcell ho hv).pref hF hw hp
  | agg=>simp only [bakC,pureC];exact .junk _
  | tup=>simp only [bakC,pureC];exact .junk _
  | fn=>simp only [bakC,pureC];exact .junk _
  | junk v=>exact .junk v
  | raw v=>exact .raw v
  | int k n=>exact .int k n
  | bool b=>exact .bool b
  | str s=>exact .str s
  | nil t=>exact .nil t
  | nilp=>exact .nilp
  | lst t xs a cap vf hc ha hs hcell hv=>exact (Val.lst t xs a cap vf hc ha hs hcell hv).pure hF hw rfl
theorem flatC_val {ids:List Nat} {nb:Nat} {c:PV} {v:Value} (hf:flatC c=true) (h:Val S F w c v):Val S' F' w' (bakC ids nb c) v:=by
  cases h<;>simp [flatC] at hf<;>simp only [bakC,pureC,cond_true]<;>first|exact .junk _|exact .int _ _|exact .bool _|exact .str _|exact .nilp
theorem mapV_val {ids:List Nat} {nb:Nat} (hc:∀ c v,Val S F w c v→Val S' F' w' (bakC ids nb c) v) {c:PV} {v:Value} (h:Val S F w c v):Val S' F' w' (bakV ids nb c) v :=
  whole_val (g:=bakC ids nb) (e:=bakE ids nb) hc (fun c=>by cases c<;>rfl) (fun c=>by cases c<;>rfl) h
theorem flatE_val {ids:List Nat} {nb:Nat} {c:PV} {v:Value} (hf:flatE c=true) (h:Val S F w c v):Val S' F' w' (bakE ids nb c) v:=by
  by_cases ha:∃ cs,c = .agg cs
  · obtain ⟨cs,rfl⟩:=ha
    cases h with
    | agg _ vs hl hv ho =>
      refine .agg _ vs (by simp [hl]) (fun i p v hp hvv=>?_) ho
      rw [List.getElem?_map] at hp
      cases hc:cs[i]? with
      | none=>rw [hc] at hp;cases hp
      | some c=>rw [hc] at hp;cases hp;exact flatC_val (List.all_eq_true.1 (show cs.all flatC=true from hf) c (List.mem_of_getElem? hc)) (hv i c v hc hvv)
  · have h1:flatC c=true:=by cases c<;>first|exact hf|exact absurd ⟨_,rfl⟩ ha
    have:=flatC_val (S':=S') (F':=F') (w':=w') (ids:=ids) (nb:=nb) h1 h
    cases c<;>first|exact this|exact absurd ⟨_,rfl⟩ ha
theorem flatV_val {ids:List Nat} {nb:Nat} {c:PV} {v:Value} (hf:flatV c=true) (h:Val S F w c v):Val S' F' w' (bakV ids nb c) v:=by
  by_cases ht:∃ ps,c = .tup ps
  · obtain ⟨ps,rfl⟩:=ht
    cases h with
    | tup _ vs hl hv =>
      refine .tup _ vs (by simp [hl]) (fun i p v hp hvv=>?_)
      rw [List.getElem?_map] at hp
      cases hc:ps[i]? with
      | none=>rw [hc] at hp;cases hp
      | some c =>
        rw [hc] at hp
        simp only [Option.map_some,Option.some.injEq] at hp
        subst hp
        exact flatE_val (List.all_eq_true.1 (show ps.all flatE=true from hf) c (List.mem_of_getElem? hc)) (hv i c v hc hvv)
  · have hfe:flatE c=true:=by cases c<;>first|exact hf|exact absurd ⟨_,rfl⟩ ht
    have:=flatE_val (S':=S') (F':=F') (w':=w') (ids:=ids) (nb:=nb) hfe h
    cases c<;>first|exact this|exact absurd ⟨_,rfl⟩ ht|(simp [flatE,flatC] at hfe)
end
end Go.Proofs.YtdcphpbimeoioaaGreatDoorE
end
section
set_option linter.unusedSectionVars false
namespace Go.Proofs.YtdcphpbimeoioaaGreatDoorE
open Go
set_option linter.unusedVariables false
set_option linter.unusedSimpArgs false
variable [Dm]
section
variable {β:Type} {P:Program} {S S' S1 S2:Nat→SL} {F F' F1 F2:Nat→Prop} {w w':World} {H H' H1:Heap} {E:Env} {ρ:Operand→Value} {O:Orc} {nb:Nat} {r:β}
theorem nth_eq {α:Type}:∀ (l:List α) (i:Nat),nth l i=l[i]?
  | [],_=>by simp [nth]
  | x ::r,0=>by simp [nth]
  | x ::r,i+1=>by simp [nth,nth_eq r i]
theorem hget_get (H:Heap) (b:Nat):hget H b=(H[b]?).getD .unused:=by simp [hget,List.getD]
theorem hget_puts:∀ (l:List Nat) (ss:List Slot) (H:Heap) (c:Nat),l.Nodup→hget (puts H l ss) c=match posN c l with|some i=>(ss[i]?).getD (hget H c)|none=>hget H c
  | [],ss,H,c,_=>by simp [puts,posN]
  | b ::l,[],H,c,_=>by
    simp only [puts]
    split<;>simp
  | b ::l,s ::ss,H,c,hd=>by
    simp only [List.nodup_cons] at hd
    simp only [puts]
    rw [hget_puts l ss _ c hd.2]
    simp only [posN]
    by_cases h:c=b
    · subst h
      rw [show Nat.beq c c=true from Nat.beq_refl c]
      cases hp:posN c l with
      | some i=>exact absurd (List.mem_of_getElem? (posN_some hp)) hd.1
      | none=>simp [hget_hset_same]
    · have:Nat.beq c b=false:=by cases hh:Nat.beq c b with
        | true=>exact absurd (Nat.eq_of_beq_eq_true hh) h
        | false=>rfl
      rw [this]
      simp only [cond_false]
      cases hp:posN c l with
      | some i=>simp [hget_hset_ne _ _ _ _ h]
      | none=>simp [hget_hset_ne _ _ _ _ h]
theorem lenOk_spec:∀ {ids:List Nat} {H:Heap},lenOk ids H=true→ids.length≤H.length∧H.length≤ids.length+1∧wrS (hget H ids.length)=true
  | [],[],_=>⟨Nat.le_refl _,by simp,rfl⟩
  | [],[s],h=>⟨by simp,by simp,h⟩
  | [],_ ::_ ::_,h=>by simp [lenOk] at h
  | b ::ids,[],h=>by simp [lenOk] at h
  | b ::ids,s ::H,h=>by
    obtain ⟨h1,h2,h3⟩:=lenOk_spec (ids:=ids) (H:=H) (by simpa [lenOk] using h)
    exact ⟨by simp;omega,by simp;omega,by simpa [hget] using h3⟩
theorem flat_any {p:PV} {v:Value} (hf:flatC p=true) (h:Val S F w p v):Val S' F' w' p v:=by
  cases h<;>simp [flatC] at hf<;>first|exact .junk _|exact .int _ _|exact .bool _|exact .str _|exact .nilp
theorem cellsOf_flat:∀ (t:Ty) (x:El t) (j:Nat) (p:PV),flatT t=true→(cellsOf t x)[j]?=some p→flatC p=true
  | .int k,n,j,p,_,h=>by cases j<;>simp [cellsOf] at h;subst h;rfl
  | .bool,b,j,p,_,h=>by cases j<;>simp [cellsOf] at h;subst h;rfl
  | .str,s,j,p,_,h=>by cases j<;>simp [cellsOf] at h;subst h;rfl
  | .slice t,xs,j,p,hf,h=>by simp [flatT] at hf
  | .unit,_,j,p,_,h=>by simp [cellsOf] at h
  | .none,x,_,_,_,_=>nomatch x
  | .pair a b,x,j,p,hf,h=>by
    simp only [flatT,Bool.and_eq_true] at hf
    simp only [cellsOf] at h
    by_cases hj:j<(cellsOf a x.1).length
    · rw [List.getElem?_append_left hj] at h;exact cellsOf_flat a _ j p hf.1 h
    · rw [List.getElem?_append_right (by omega)] at h;exact cellsOf_flat b _ _ p hf.2 h
def mapS (g:PV→PV) (s:Slot):Slot :=
  match s with
  | .live (.box cs wr) => .live (.box (cs.map g) wr)
  | s=>s
theorem slot_re {g:PV→PV} {s s':Slot} {l:SL} (h:SlotOk S F w s l) (hs:s'=mapS g s) (hg:∀ cs wr,s = .live (.box cs wr)→∀ c v,c∈cs→Val S F w c v→Val S' F' w (g c) v)
    (ha:∀ (t:Ty) (xs:List (El t)) (wr:Bool),s = .live (.arr t xs wr)→∀ (x:El t) (j:Nat) (p:PV) (v:Value),(cellsOf t x)[j]?=some p→Val S F w p v→Val S' F' w p v) (h1:∀ k,blkOf l=some k→¬ F k→¬ F' k) (h2:∀ k,blkOf l=some k→wrS s=false→F k→F' k):SlotOk S' F' w s' l:=by
  subst hs
  cases s with
  | unused=>cases l<;>simp only [SlotOk,mapS] at h ⊢
  | dead=>cases l<;>simp only [SlotOk,mapS] at h ⊢
  | live x =>
    cases x with
    | box cs wr =>
      cases l<;>simp only [SlotOk,mapS] at h ⊢
      obtain ⟨⟨c,t,g1,g2,g3,g4⟩,g5,g6⟩:=h
      refine ⟨⟨c,t,g1,by simp [g2],fun j p v hp hv=>?_,g4⟩,fun hw=>h1 _ rfl (g5 hw),fun hw=>h2 _ rfl hw (g6 hw)⟩
      rw [List.getElem?_map] at hp
      cases hc:cs[j]? with
      | none=>rw [hc] at hp;cases hp
      | some q=>rw [hc] at hp;cases hp;exact hg cs wr rfl q v (List.mem_of_getElem? hc) (g3 j q v hc hv)
    | arr t xs wr =>
      cases l<;>simp only [SlotOk,mapS] at h ⊢
      rename_i a n cap sz
      obtain ⟨g1,g2,g3,g4,g5⟩:=h
      refine ⟨g1,g2,g3,g4,?_⟩
      rcases g5 with g5|⟨ad,rfl,⟨q0,c,tt,fr,q1,q2,q3,q4,q5⟩,q6,q7⟩
      · exact .inl g5
      · by_cases hc:cap=0
        · exact .inl hc
        have hbk:blkOf (.arr (some ad) n cap sz)=some ad.block:=by simp [blkOf,hc]
        refine .inr ⟨ad,rfl,⟨q0,c,tt,fr,q1,q2,q3,q4,fun i x j p hx hp=>?_⟩,fun hw=>h1 _ hbk (q6 hw),fun hw=>h2 _ hbk hw (q7 hw)⟩
        obtain ⟨v,e1,e2⟩:=q5 i x j p hx hp
        exact ⟨v,e1,ha t xs wr rfl x j p v hp e2⟩
theorem slot_live {b:Nat} {k:Nat} (hr:Rel S F w H) (h:blkOf (S b)=some k):∃ x,hget H b = .live x:=by
  have:=hr.slots b
  cases hg:hget H b with
  | live x=>exact ⟨x,rfl⟩
  | unused=>rw [hg] at this;cases hs:S b<;>rw [hs] at this h<;>simp only [SlotOk] at this;cases h
  | dead=>rw [hg] at this;cases hs:S b<;>rw [hs] at this h<;>simp only [SlotOk] at this;cases h
theorem callK_ok (hO:OrcOk P O) (hr:Rel S F w H) {f:FuncId} {args:List (Bool×PV)} {vs:Array Value} {K:PV→Heap→Option β} (hl:vs.size=args.length) (hv:∀ (i:Nat) (p:Bool×PV) (v:Value),args[i]?=some p→vs[i]?=some v→Val S F w p.2 v)
    (h:callK O nb H f args K=some r):Enters P f∧Calls P f vs w fun e w'=>∃ v,e = .returned v∧Aft S F w H K r v w':=by
  unfold callK at h
  obtain ⟨hun,h⟩:=fresh_some h
  obtain ⟨hchk,h⟩:=cond_some h
  simp only [Bool.and_eq_true,Bool.not_eq_true'] at hchk
  obtain ⟨⟨⟨c1,c2⟩,c3⟩,c4⟩:=hchk
  rw [fAs_eq,fH_eq] at h
  generalize hids:callIds H args=ids at *
  generalize hfro:callFrozen H args=frozen at *
  have hnd:ids.Nodup:=by rw [← hids];exact reach_nodup _ _ _ _ (by simp)
  have hdis:∀ b,b∈frozen→b ∉ ids:=fun b hb hi=>by
    have:=List.all_eq_true.1 c1 b hb
    rw [memN_iff.2 hi] at this;cases this
  have hnf:nb ∉ frozen:=fun hb=>by rw [memN_iff.2 hb] at c2;cases c2
  have hni:nb ∉ ids:=fun hb=>by rw [memN_iff.2 hb] at c3;cases c3
  have hlive:∀ b,b∈ids→∃ x,hget H b = .live x:=fun b hb=>by
    have:=List.all_eq_true.1 c4 b hb
    unfold isLive at this;split at this
    · exact ⟨_,by assumption⟩
    · cases this
  obtain ⟨z1,z2⟩:=frz_rel hr frozen
  have hfb:∀ b cs wr c,b∈ids→hget H b = .live (.box cs wr)→c∈cs→∀ b',b'∈ownC c→b'∈frozen:=by
    intro b cs wr c hb hg hc b' hb'
    rw [← hfro]
    unfold callFrozen
    rw [hids]
    refine List.mem_append_right _ (List.mem_flatMap.2 ⟨b,hb,?_⟩)
    rw [hg]
    exact List.mem_flatMap.2 ⟨c,hc,hb'⟩
  let S0:Nat→SL:=fun i=>match ids[i]? with|some b=>S b|none => .unused
  have hS0:∀ b i,posN b ids=some i→S b ≠ .unused→S0 i=S b:=fun b i hp _=>by show (match ids[i]? with|some b=>S b|none=>SL.unused)=S b;rw [posN_some hp]
  have hH0:∀ i,hget (ids.map fun b=>renS ids (snapS H (hget H b))) i=match ids[i]? with|some b=>renS ids (snapS H (hget H b))|none => .unused:=by
    intro i;rw [hget_get,List.getElem?_map];cases ids[i]?<;>rfl
  have rel0:Rel S0 (FZ S F H frozen) w (ids.map fun b=>renS ids (snapS H (hget H b))):=by
    refine ⟨fun i=>?_,fun i j k h1 h2=>?_,z1.fsz,z1.gl⟩
    · rw [hH0]
      show SlotOk S0 _ w _ (match ids[i]? with|some b=>S b|none=>SL.unused)
      cases hi:ids[i]? with
      | none=>simp [SlotOk]
      | some b =>
        have hb:=List.mem_of_getElem? hi
        refine slot_re (g:=fun c=>renC ids (cell1 H c)) (hr.slots b) (by
          simp only
          generalize hget H b=s
          cases s with
          | live x=>cases x<;>simp [snapS,snapB,renS,renB,mapS]
          | _=>rfl) (fun cs wr hg c v hc hvv=>?_) (fun t xs wr hg x j p v hp hvv=>hvv.pure (fun k hk => .inl hk) (fun _ _=>rfl) (cellsOf_pure _ _ _ _ hp)) (fun k hk hn=>?_) (fun k hk _ hF => .inl hF)
        · have h1:Val S (FZ S F H frozen) w (cell1 H c) v:=cell1_val hr hvv (fun k hk => .inl hk) (fun b' k hb' ⟨x,hx⟩ hk => .inr ⟨b',x,hfb b cs wr c hb hg hc b' hb',hx,hk⟩)
          exact renC_val (fun _ h=>h) (fun _ _=>rfl) hS0 h1
        · rintro (hF|⟨b',x,hb',hx,hk'⟩)
          · exact hn hF
          · have:=hr.inj _ _ _ hk' hk
            subst this
            exact hdis _ hb' hb
    · have e:∀ i k,blkOf (S0 i)=some k→∃ b,ids[i]?=some b∧blkOf (S b)=some k:=by
        intro i k hk
        have hk:blkOf (match ids[i]? with|some b=>S b|none=>SL.unused)=some k:=hk
        cases hi:ids[i]? with
        | none=>rw [hi] at hk;cases hk
        | some b=>rw [hi] at hk;exact ⟨b,rfl,hk⟩
      obtain ⟨b,e1,e2⟩:=e _ _ h1
      obtain ⟨b',e3,e4⟩:=e _ _ h2
      have:=hr.inj _ _ _ e2 e4
      subst this
      have p1:=posN_get hnd e1
      have p2:=posN_get hnd e3
      rw [p1] at p2;cases p2;rfl
  have args0:Args S0 (FZ S F H frozen) w ((callArgs H args).map (renV ids)) vs:=by
    refine ⟨by simp [callArgs,hl],fun i p v hp hvv=>?_⟩
    simp only [callArgs,List.map_map,List.getElem?_map] at hp
    cases ha:args[i]? with
    | none=>rw [ha] at hp;cases hp
    | some q =>
      rw [ha] at hp
      simp only [Option.map_some,Option.some.injEq,Function.comp] at hp
      subst hp
      obtain ⟨o,a⟩:=q
      have hva:=hv i (o,a) v ha hvv
      refine renV_val (S:=S) (F:=FZ S F H frozen) (w:=w) (fun _ h=>h) (fun _ _=>rfl) hS0 ?_
      cases o with
      | true=>exact hva.mono (fun k hk => .inl hk) (fun _ _=>rfl) (fun _ _ => .inl rfl)
      | false =>
        refine snapV_val hr hva (fun k hk => .inl hk) (fun b k hb ⟨x,hx⟩ hk => .inr ⟨b,x,?_,hx,hk⟩)
        rw [← hfro]
        unfold callFrozen
        exact List.mem_append_left _ (List.mem_flatMap.2 ⟨(false,a),List.mem_of_getElem? ha,hb⟩)
  have ho:=hO f ((callArgs H args).map (renV ids)) (ids.map fun b=>renS ids (snapS H (hget H b)))
  generalize hcall:O.call f ((callArgs H args).map (renV ids)) (ids.map fun b=>renS ids (snapS H (hget H b)))=su at ho h
  obtain ⟨α,x,enc,keeps⟩:=su
  simp only at ho h
  obtain ⟨p,hp,h⟩:=bindN_some h
  obtain ⟨hent,hcok,_⟩:=ho p hp
  refine ⟨hent,?_⟩
  refine (hcok S0 _ w vs rel0 args0).mono ?_
  rintro e w' ⟨v,S1,F1,rfl,rel1,val1,adv1⟩
  refine ⟨v,rfl,?_⟩
  generalize enc p=q at rel1 val1 adv1 h
  obtain ⟨r1,H1⟩:=q
  simp only at rel1 val1 adv1
  unfold back at h
  simp only [fH_eq] at h
  obtain ⟨hlen,h⟩:=cond_some h
  obtain ⟨l1,l2,l3⟩:=lenOk_spec hlen
  let S2:Nat→SL:=fun c=>match posN c ids with|some i=>S1 i|none=>if c=nb then S1 ids.length else S c
  have s2i:∀ c i,posN c ids=some i→S2 c=S1 i:=fun c i hp=>by show (match posN c ids with|some i=>S1 i|none=>if c=nb then S1 ids.length else S c)=_;rw [hp]
  have pnb:posN nb ids=none:=by cases hp:posN nb ids with
    | none=>rfl
    | some i=>exact absurd (List.mem_of_getElem? (posN_some hp)) hni
  have s2n:S2 nb=S1 ids.length:=by show (match posN nb ids with|some i=>S1 i|none=>if nb=nb then S1 ids.length else S nb)=_;rw [pnb];simp
  have s2o:∀ c,c ∉ ids→c≠nb→S2 c=S c:=fun c h1 h2=>by
    have:posN c ids=none:=by cases hp:posN c ids with
      | none=>rfl
      | some i=>exact absurd (List.mem_of_getElem? (posN_some hp)) h1
    show (match posN c ids with|some i=>S1 i|none=>if c=nb then S1 ids.length else S c)=_
    rw [this];simp [h2]
  have far:∀ i,ids.length<i→S1 i = .unused:=fun i hi=>unused_S rel1 (by rw [hget_get,List.getElem?_eq_none (by omega)];rfl)
  have hbak:∀ i,S1 i ≠ .unused→S2 (bakN ids nb i)=S1 i:=by
    intro i hi
    unfold bakN
    rw [nth_eq]
    cases hg:ids[i]? with
    | some b=>exact s2i b i (posN_get hnd hg)
    | none =>
      have:ids.length≤i:=List.getElem?_eq_none_iff.1 hg
      rcases Nat.lt_or_ge ids.length i with h1|h1
      · exact absurd (far i h1) hi
      · have:i=ids.length:=by omega
        subst this;exact s2n
  have hnd2:(ids++[nb]).Nodup:=by
    rw [List.nodup_append];exact ⟨hnd,by simp,fun a ha b hb e=>by simp at hb;subst hb;subst e;exact hni ha⟩
  have pos2:∀ c,posN c (ids++[nb])=match posN c ids with|some i=>some i|none=>if c=nb then some ids.length else none:=by
    intro c
    cases hp:posN c ids with
    | some i =>
      have h1:=posN_some hp
      exact posN_get hnd2 (by rw [List.getElem?_append_left (List.getElem?_eq_some_iff.1 h1).1];exact h1)
    | none =>
      by_cases hc:c=nb
      · subst hc
        simp only [if_true]
        exact posN_get hnd2 (by simp)
      · simp only [if_neg hc]
        cases hq:posN c (ids++[nb]) with
        | none=>rfl
        | some i =>
          have h1:=List.mem_of_getElem? (posN_some hq)
          simp at h1
          rcases h1 with h1|h1
          · exact absurd h1 (posN_none hp)
          · exact absurd h1 hc
  have hP:∀ c,hget (puts H (ids++[nb]) (H1.map (bakS ids nb))) c=match posN c ids with|some i=>bakS ids nb (hget H1 i)|none=>if c=nb then bakS ids nb (hget H1 ids.length) else hget H c:=by
    intro c
    rw [hget_puts _ _ _ _ hnd2,pos2 c]
    cases hp:posN c ids with
    | some i =>
      simp only
      have hi:=(List.getElem?_eq_some_iff.1 (posN_some hp)).1
      rw [List.getElem?_map,hget_get H1 i,List.getElem?_eq_getElem (by omega)];rfl
    | none =>
      by_cases hc:c=nb
      · subst hc
        simp only [if_true]
        rw [List.getElem?_map,hget_get H1]
        cases hq:H1[ids.length]? with
        | some s=>rfl
        | none=>simp [hun];rfl
      · simp [hc]
  have s0ne:∀ b i,posN b ids=some i→S0 i=S b∧S b ≠ .unused∧S b ≠ .dead:=by
    intro b i hp
    obtain ⟨x,hx⟩:=hlive b (List.mem_of_getElem? (posN_some hp))
    obtain ⟨q1,q2⟩:=live_not_dead hr hx
    exact ⟨hS0 b i hp q2,q2,q1⟩
  have wr0:∀ k,WR S0 (ids.map fun b=>renS ids (snapS H (hget H b))) k→∃ b x,b∈ids∧hget H b = .live x∧x.wr=true∧blkOf (S b)=some k:=by
    rintro k ⟨i,x,hx,hw,hk⟩
    rw [hH0] at hx
    have hk:blkOf (match ids[i]? with|some b=>S b|none=>SL.unused)=some k:=hk
    cases hi:ids[i]? with
    | none=>rw [hi] at hx;cases hx
    | some b =>
      rw [hi] at hx hk
      simp only at hx hk
      refine ⟨b,?_⟩
      cases hg:hget H b with
      | live y =>
        rw [hg] at hx
        refine ⟨y,List.mem_of_getElem? hi,rfl,?_,hk⟩
        cases y<;>simp [snapS,snapB,renS,renB] at hx<;>subst hx<;>exact hw
      | unused=>rw [hg] at hx;simp [snapS,renS] at hx
      | dead=>rw [hg] at hx;simp [snapS,renS] at hx
  have off0:∀ b k,b ∉ ids→blkOf (S b)=some k→¬ WR S0 (ids.map fun b=>renS ids (snapS H (hget H b))) k:=by
    intro b k hb hk hW
    obtain ⟨b',x,h1,_,_,h4⟩:=wr0 k hW
    have:=hr.inj _ _ _ hk h4
    subst this;exact hb h1
  have lt0:∀ b k,blkOf (S b)=some k→k<w.heap.size:=fun b k hk=>by obtain ⟨x,hx⟩:=slot_live hr hk;exact blkOf_lt hr hx hk
  have hFw:∀ k,F k→w'.heap[k]?=w.heap[k]?:=fun k hk=>adv1.same k (hr.fsz k hk) (rel0.not_wr (.inl hk))
  have hF0w:∀ k,FZ S F H frozen k→w'.heap[k]?=w.heap[k]?:=fun k hk=>adv1.same k (z1.fsz k hk) (rel0.not_wr hk)
  have hSS:∀ b,S b ≠ .unused→S2 b=S b∨S2 b = .dead:=by
    intro b hb
    cases hp:posN b ids with
    | some i =>
      obtain ⟨q1,q2,q3⟩:=s0ne b i hp
      rw [s2i b i hp]
      rcases adv1.ss i (by rw [q1];exact q2) with e|e
      · exact .inl (e.trans q1)
      · exact .inr e
    | none =>
      by_cases hc:b=nb
      · subst hc;exact absurd (unused_S hr hun) hb
      · exact .inl (s2o b (posN_none hp) hc)
  have old1:∀ b k,b ∉ ids→blkOf (S b)=some k→F1 k→FZ S F H frozen k:=by
    intro b k hb hk hF1
    rcases adv1.fn k hF1 with h1|h1|h1
    · exact h1
    · exact absurd h1 (off0 b k hb hk)
    · have:=lt0 b k hk;omega
  have hinj:∀ b b' k,blkOf (S2 b)=some k→blkOf (S2 b')=some k→b=b':=by
    have mixed:∀ i c k,i≤ids.length→blkOf (S1 i)=some k→c ∉ ids→c≠nb→blkOf (S c)=some k→False:=by
      intro i c k hi h1 hc hcn h2
      rcases Nat.lt_or_ge i ids.length with hlt|hge
      · have hg:=List.getElem?_eq_getElem hlt
        obtain ⟨q1,q2,q3⟩:=s0ne _ i (posN_get hnd hg)
        rcases adv1.ss i (by rw [q1];exact q2) with e|e
        · rw [e,q1] at h1
          have:=hr.inj _ _ _ h1 h2
          subst this;exact hc (List.mem_of_getElem? hg)
        · rw [e] at h1;cases h1
      · have:i=ids.length:=by omega
        subst this
        obtain ⟨x,hx⟩:=slot_live rel1 h1
        have hxw:x.wr=true:=by rw [hx] at l3;cases x<;>exact l3
        rcases adv1.wr k ⟨_,x,hx,hxw,h1⟩ with hW|hW
        · exact off0 c k hc h2 hW
        · have:=lt0 c k h2;omega
    have code:∀ b,(∃ i,i≤ids.length∧S2 b=S1 i∧bakN ids nb i=b)∨(b ∉ ids∧b≠nb∧S2 b=S b):=by
      intro b
      cases hp:posN b ids with
      | some i =>
        have hg:=posN_some hp
        exact .inl ⟨i,by have:=(List.getElem?_eq_some_iff.1 hg).1;omega,s2i b i hp,by unfold bakN;rw [nth_eq,hg]⟩
      | none =>
        by_cases hc:b=nb
        · subst hc;exact .inl ⟨ids.length,Nat.le_refl _,s2n,by unfold bakN;rw [nth_eq,List.getElem?_eq_none (Nat.le_refl _)]⟩
        · exact .inr ⟨posN_none hp,hc,s2o b (posN_none hp) hc⟩
    intro b b' k h1 h2
    rcases code b with ⟨i,hi,e1,e2⟩|⟨hb,hbn,e1⟩<;>rcases code b' with ⟨j,hj,e3,e4⟩|⟨hb',hbn',e3⟩
    · rw [e1] at h1;rw [e3] at h2
      have:=rel1.inj _ _ _ h1 h2
      subst this;rw [← e2,← e4]
    · rw [e1] at h1;rw [e3] at h2;exact (mixed i b' k hi h1 hb' hbn' h2).elim
    · rw [e1] at h1;rw [e3] at h2;exact (mixed j b k hj h2 hb hbn h1).elim
    · rw [e1] at h1;rw [e3] at h2;exact hr.inj _ _ _ h1 h2
  have hWR:∀ k,WR S0 (ids.map fun b=>renS ids (snapS H (hget H b))) k→WR S H k:=fun k hk=>by
    obtain ⟨b,x,_,h2,h3,h4⟩:=wr0 k hk;exact ⟨b,x,h2,h3,h4⟩
  have advOf:∀ (F2:Nat→Prop) (H2:Heap),(∀ k,F k→F2 k)→(∀ k,F2 k→F1 k)→(∀ c,hget H2 c=hget (puts H (ids++[nb]) (H1.map (bakS ids nb))) c∨hget H2 c=frzS false (hget (puts H (ids++[nb]) (H1.map (bakS ids nb))) c))→Adv S F w H S2 F2 w' H2:=by
    intro F2 H2 a1 a2 a3
    refine ⟨a1,hSS,adv1.sz,fun k hk hn=>adv1.same k hk (fun hW=>hn (hWR k hW)),fun k hk=>?_,fun k hk=>?_,adv1.st⟩
    · obtain ⟨c,x,hx,hw,hc⟩:=hk
      have hx':∃ y,hget (puts H (ids++[nb]) (H1.map (bakS ids nb))) c = .live y∧y.wr=true:=by
        rcases a3 c with e|e
        · exact ⟨x,e ▸ hx,hw⟩
        · rw [e] at hx
          cases hg:hget (puts H (ids++[nb]) (H1.map (bakS ids nb))) c with
          | live y=>rw [hg] at hx;cases y<;>simp [frzS] at hx<;>subst hx<;>simp [Blk.wr] at hw
          | unused=>rw [hg] at hx;cases hx
          | dead=>rw [hg] at hx;cases hx
      obtain ⟨y,hy,hyw⟩:=hx'
      rw [hP] at hy
      have new:∀ i,bakS ids nb (hget H1 i) = .live y→blkOf (S1 i)=some k→WR S H k∨w.heap.size≤k:=by
        intro i he hb
        cases hg:hget H1 i with
        | live z =>
          rw [hg] at he
          have hzw:z.wr=true:=by cases z<;>simp [bakS] at he<;>subst he<;>exact hyw
          rcases adv1.wr k ⟨i,z,hg,hzw,hb⟩ with h1|h1
          · exact .inl (hWR k h1)
          · exact .inr h1
        | unused=>rw [hg] at he;cases he
        | dead=>rw [hg] at he;cases he
      cases hp:posN c ids with
      | some i=>rw [hp] at hy;rw [s2i c i hp] at hc;exact new i hy hc
      | none =>
        rw [hp] at hy
        by_cases hcn:c=nb
        · subst hcn;simp only [if_true] at hy;rw [s2n] at hc;exact new _ hy hc
        · simp only [if_neg hcn] at hy
          rw [s2o c (posN_none hp) hcn] at hc
          exact .inl ⟨c,y,hy,hyw,hc⟩
    · rcases adv1.fn k (a2 k hk) with h1|h1|h1
      · rcases z2.fn k h1 with h2|h2|h2
        · exact .inl h2
        · exact .inr (.inl h2)
        · exact .inr (.inr h2)
      · exact .inr (.inl (hWR k h1))
      · exact .inr (.inr h1)
  cases hflat:(flatV r1 && H1.all flatS) with
  | true =>
    rw [hflat] at h
    simp only [cond_true] at h
    simp only [Bool.and_eq_true] at hflat
    let F2:Nat→Prop:=fun k=>F1 k∧(F k∨¬ ∃ b x,b∈frozen∧hget H b = .live x∧blkOf (S b)=some k)
    have p1:∀ k,F k→F2 k:=fun k hk=>⟨adv1.ff k (.inl hk), .inl hk⟩
    have p2:∀ k,F2 k→F1 k:=fun k hk=>hk.1
    have newslot:∀ i,i≤ids.length→SlotOk S2 F2 w' (bakS ids nb (hget H1 i)) (S1 i):=by
      intro i hi
      have hfs:flatS (hget H1 i)=true:=by
        rw [hget_get]
        cases hg:H1[i]? with
        | none=>rfl
        | some s=>exact List.all_eq_true.1 hflat.2 s (List.mem_of_getElem? hg)
      refine slot_re (g:=bakC ids nb) (rel1.slots i) (by
        generalize hget H1 i=s
        cases s with
        | live x=>cases x<;>rfl
        | _=>rfl) (fun cs wr hg c v hc hvv=>?_) (fun t xs wr hg x j p v hp hvv=>?_) (fun k _ hn hk=>hn hk.1) (fun k hk hw hF=>⟨hF,?_⟩)
      · rw [hg] at hfs
        exact flatC_val (List.all_eq_true.1 hfs c hc) hvv
      · rw [hg] at hfs
        exact flat_any (cellsOf_flat t x j p hfs hp) hvv
      · right
        rintro ⟨b,x,hb,hx,hbk⟩
        rcases Nat.lt_or_ge i ids.length with hlt|hge
        · have hg:=List.getElem?_eq_getElem hlt
          obtain ⟨q1,q2,q3⟩:=s0ne _ i (posN_get hnd hg)
          rcases adv1.ss i (by rw [q1];exact q2) with e|e
          · rw [e,q1] at hk
            have:=hr.inj _ _ _ hk hbk
            subst this;exact hdis _ hb (List.mem_of_getElem? hg)
          · rw [e] at hk;cases hk
        · have:i=ids.length:=by omega
          subst this
          rw [l3] at hw;cases hw
    refine ⟨_,_,S2,F2,h,⟨fun c=>?_,hinj,fun k hk=>rel1.fsz k hk.1,fun k hk=>p1 k (hr.gl.1 k hk),rel1.gl.2⟩,flatV_val hflat.1 val1,advOf F2 _ p1 p2 (fun c => .inl rfl)⟩
    rw [hP]
    cases hp:posN c ids with
    | some i=>simp only;rw [s2i c i hp];exact newslot i (by have:=(List.getElem?_eq_some_iff.1 (posN_some hp)).1;omega)
    | none =>
      by_cases hcn:c=nb
      · subst hcn;simp only [if_true];rw [s2n];exact newslot _ (Nat.le_refl _)
      · simp only [if_neg hcn]
        rw [s2o c (posN_none hp) hcn]
        refine (hr.slots c).mono p1 hFw hSS (fun k hk=>adv1.same k (lt0 c k hk) (off0 c k (posN_none hp) hk)) (fun k hk hF2=>?_)
        rcases old1 c k (posN_none hp) hk hF2.1 with h1|h1
        · exact h1
        · rcases hF2.2 with h2|h2
          · exact h2
          · exact absurd h1 h2
  | false =>
    rw [hflat] at h
    simp only [cond_false] at h
    have p1:∀ k,F k→F1 k:=fun k hk=>adv1.ff k (.inl hk)
    have newslot:∀ i,SlotOk S2 F1 w' (bakS ids nb (hget H1 i)) (S1 i):=by
      intro i
      refine slot_re (g:=bakC ids nb) (rel1.slots i) (by
        generalize hget H1 i=s
        cases s with
        | live x=>cases x<;>rfl
        | _=>rfl) (fun cs wr hg c v hc hvv=>bakC_val (fun _ h=>h) hbak hvv) (fun t xs wr hg x j p v hp hvv=>hvv.pure (fun _ h=>h) (fun _ _=>rfl) (cellsOf_pure _ _ _ _ hp)) (fun k _ hn=>hn) (fun k _ _ hF=>hF)
    refine ⟨_,_,S2,F1,h,⟨fun c=>?_,hinj,rel1.fsz,rel1.gl⟩,mapV_val (fun c v hvv=>bakC_val (fun _ h=>h) hbak hvv) val1,advOf F1 _ p1 (fun _ h=>h) (fun c=>?_)⟩
    · rw [hget_frz,hP]
      have nofro:∀ c,c ∉ frozen→(!memN c frozen)=true:=fun c hc=>by
        cases hm:memN c frozen with
        | true=>exact absurd (memN_iff.1 hm) hc
        | false=>rfl
      cases hp:posN c ids with
      | some i =>
        simp only
        rw [nofro c (fun hc=>hdis c hc (List.mem_of_getElem? (posN_some hp))),frzS_true,s2i c i hp]
        exact newslot i
      | none =>
        by_cases hcn:c=nb
        · subst hcn;simp only [if_true];rw [nofro c hnf,frzS_true,s2n];exact newslot _
        · simp only [if_neg hcn]
          rw [s2o c (posN_none hp) hcn]
          have:=z1.slots c
          rw [hget_frz] at this
          exact this.mono (fun k hk=>adv1.ff k hk) hF0w hSS (fun k hk=>adv1.same k (lt0 c k hk) (off0 c k (posN_none hp) hk)) (fun k hk hF1=>old1 c k (posN_none hp) hk hF1)
    · rw [hget_frz]
      cases memN c frozen with
      | true=>exact .inr rfl
      | false=>exact .inl (frzS_true _)
end
end Go.Proofs.YtdcphpbimeoioaaGreatDoorE
end
section
set_option linter.unusedSectionVars false
namespace Go.Proofs.YtdcphpbimeoioaaGreatDoorE
open Go
set_option linter.unusedVariables false
set_option linter.unusedSimpArgs false
variable [Dm]
section
variable {β:Type} {P:Program} {S S' S1 S2:Nat→SL} {F F' F1 F2:Nat→Prop} {w w':World} {H H' H1:Heap} {E:Env} {ρ:Operand→Value} {O:Orc} {nb:Nat} {r:β} {K:PV→Heap→Option β}
theorem runs_skip {m:Sem Unit} {R:Value→World→Prop} (h:∃ w',m.run P w = .ok () w'∧R undef w'):Runs P (do m;pure Next.skip) w R:=by
  obtain ⟨w',h1,h2⟩:=h
  unfold Runs
  simp [h1,h2]
theorem runs_call {f:FuncId} {vs:Array Value} {R:Value→World→Prop} (he:Enters P f) (h:Calls P f vs w fun e w'=>∃ v,e = .returned v∧R v w') {m:Sem Next} (hm:m.run P w=(callFunc f vs).run P w):Runs P m w R:=by
  obtain ⟨fn,h1,h2,h3⟩:=he
  unfold Runs
  have:(callFunc f vs).run P w = .ok (.enter f vs) w:=by
    obtain ⟨c,hc⟩:=Option.isSome_iff_exists.1 h2
    simp [callFunc,h1,h3,hc]
    intro hh
    rw [hh] at h3;simp at h3
  rw [hm,this]
  exact h
theorem isStr_iff {v:PV}:isStr v=true↔∃ s,v = .str s:=by cases v<;>simp [isStr]
theorem conv_arm (s d:TypeId) (x:Operand) (dst:Option Tmp) (ty:TypeId) (pos:String) (after:Array Edge) (g:Option (Nat×Bool)) (hr:Rel S F w H) (hd:Opd S F w E ρ) (h:act O nb E H (actOf P ⟨dst, .convert s d x,ty,pos,after,g⟩) K=some r) :
    Runs P (do pure (Next.value (← Go.convert s d (ρ x)))) w (Aft S F w H K r):=by
  have hv:=argOf_val (P:=P) hd s x
  simp only [actOf] at h
  split at h
  · rename_i k' k h1 h2
    obtain ⟨k0,n,e,h⟩:=asInt_some h
    rw [e] at hv
    rw [val_int hv]
    exact runs_tells ⟨_,w,by simp [Go.convert,run_underlying h1,run_underlying h2,Conv.intToInt]<;>rfl,aft_mk hr h (by simp only [iconv];exact .int _ _)⟩
  · rename_i h1 h2
    obtain ⟨s',e,h⟩:=asStr_some h
    rw [e] at hv
    rw [val_str hv]
    exact runs_tells ⟨_,w,by simp [Go.convert,run_underlying h1,run_underlying h2]<;>rfl,aft_mk hr h (.str _)⟩
  · rename_i e h1 h2
    split at h
    · rename_i h3
      obtain ⟨s',e',h⟩:=asStr_some h
      rw [e'] at hv
      rw [val_str hv]
      obtain ⟨u',w',g1,g2⟩:=ok_s2b (P:=P) (e:=e) hr h
      exact runs_tells ⟨u',w',by simp [Go.convert,run_underlying h1,run_underlying h2,run_underlying h3,g1],g2⟩
    · cases h
  · rename_i e h1 h2
    split at h
    · rename_i h3
      obtain ⟨hns,h⟩:=cond_none h
      have hns:∀ s',(argOf P s x).ev E ≠ .str s':=fun s' e'=>by rw [isStr_iff.2 ⟨s',e'⟩] at hns;cases hns
      obtain ⟨pv,u',g1,g2,g3⟩:=ok_b2s (P:=P) hr hv hns h
      refine runs_tells ⟨u',w,?_,aft_mk hr g1 g2⟩
      have hsl:∃ a l c,ρ x = .slice a l c:=by
        generalize (argOf P s x).ev E=p at h hv hns
        generalize ρ x=u at hv ⊢
        unfold elsOf at h
        cases hv<;>first|exact ⟨_,_,_,rfl⟩|(simp at h;done)|(exact absurd rfl (hns _))|skip
        all_goals
          rename_i hb ho
          obtain ⟨y,hy,_⟩:=live_some h
          exact absurd hb (live_not_dead hr hy).1
      obtain ⟨a,l,c,e'⟩:=hsl
      rw [e'] at g3 ⊢
      rw [run_convert_bytes_string w s d e a l c h1 h3 h2,g3]
    · cases h
  · cases h
theorem slice_arm (t:TypeId) (x:Operand) (lo hi:Option Operand) (dst:Option Tmp) (ty:TypeId) (pos:String) (after:Array Edge) (g:Option (Nat×Bool)) (hr:Rel S F w H) (hd:Opd S F w E ρ) (h:act O nb E H (actOf P ⟨dst, .slice t x lo hi none,ty,pos,after,g⟩) K=some r) :
    Runs P (do pure (Next.value (← Instr.sliceAt t (ρ x) (lo.map ρ) (hi.map ρ) none))) w (Aft S F w H K r):=by
  have hv:=argOf_val (P:=P) hd t x
  have hbd:∀ (S:Nat→SL) (F:Nat→Prop),Opd S F w E ρ→∀ (o:Option Operand),Bd S F w (optEv E (o.map (argOf P 2))) (o.map ρ):=by
    intro S F hd o
    cases o with
    | none=>trivial
    | some o=>exact argOf_val (P:=P) hd 2 o
  have go:∀ (st:Bool) (sz:Nat),((∃ e,P.underlying t=some (.slice e)∧szOf P e=some sz)∨P.underlying t=some .string)→(P.underlying t=some .string↔st=true)→act O nb E H (.slice st sz (argOf P t x) (lo.map (argOf P 2)) (hi.map (argOf P 2))) K=some r →
      Runs P (do pure (Next.value (← Instr.sliceAt t (ρ x) (lo.map ρ) (hi.map ρ) none))) w (Aft S F w H K r):=by
    intro st sz ht hst h
    simp only [act] at h
    obtain ⟨hs,h⟩:=cond_some h
    have hs:isStr ((argOf P t x).ev E)=st:=by simpa using hs
    generalize (argOf P t x).ev E=p at h hv hs
    unfold sliceK at h
    split at h
    · rename_i b
      obtain ⟨z1,z2⟩:=frz_rel hr [b]
      simp only [fH_eq] at h
      have hopd:Opd S (FZ S F H [b]) w E ρ:=⟨fun n=>(hd.tmp n).adv hr z2,hd.const,hd.func⟩
      have hx:Val S (FZ S F H [b]) w (cell1 H (.own b)) (ρ x):=cell1_val hr hv (fun k hk => .inl hk) (fun b' k hb' ⟨y,hy⟩ hk => .inr ⟨b',y,by simpa [ownC] using hb',hy,hk⟩)
      have hnst:P.underlying t=some .string↔∃ s,cell1 H (.own b) = .str s:=by
        constructor
        · intro hh;have:=hst.1 hh;rw [← hs] at this;cases this
        · rintro ⟨s,e⟩;unfold cell1 at e;simp only at e;split at e<;>cases e
      obtain ⟨pv,u',g1,g2,g3⟩:=ok_slice (K:=fun v=>K v (frz H [b])) hx (hbd _ _ hopd lo) (hbd _ _ hopd hi) ht hnst h
      exact runs_tells ⟨u',w,g3,pv,_,S,_,g1,z1,g2,z2⟩
    · rename_i t'
      have hnst:P.underlying t=some .string↔∃ s,PV.lst t' [] = .str s:=by
        constructor
        · intro hh;have:=hst.1 hh;rw [← hs] at this;cases this
        · rintro ⟨s,e⟩;cases e
      obtain ⟨pv,u',g1,g2,g3⟩:=ok_slice (K:=fun v=>K v H) (nil_lst hv) (hbd _ _ hd lo) (hbd _ _ hd hi) ht hnst h
      exact runs_tells ⟨u',w,g3,aft_mk hr g1 g2⟩
    · have hnst:P.underlying t=some .string↔∃ s,p = .str s:=by rw [← isStr_iff,hs];exact hst
      obtain ⟨pv,u',g1,g2,g3⟩:=ok_slice (K:=fun v=>K v H) hv (hbd _ _ hd lo) (hbd _ _ hd hi) ht hnst h
      exact runs_tells ⟨u',w,g3,aft_mk hr g1 g2⟩
  simp only [actOf] at h
  split at h
  · rename_i e hu
    split at h
    · rename_i n hz
      exact go false n (.inl ⟨e,hu,hz⟩) (by rw [hu];simp) h
    · cases h
  · rename_i hu
    exact go true 0 (.inr hu) (by rw [hu];simp) h
  · cases h
theorem ok_sliceW {b:Nat} {u:Value} {lo hi:Option PV} {lv hv:Option Value} {sz:Nat} {t e:TypeId} (hr:Rel S F w H) (hx:Val S F w (.own b) u) (h1:Bd S F w lo lv) (h2:Bd S F w hi hv) (hu:P.underlying t=some (.slice e)) (hz:szOf P e=some sz)
    (h:sliceW H sz (.own b) lo hi K=some r):∃ pv u',K pv H=some r∧Val S F w pv u'∧(Instr.sliceAt t u lv hv none).run P w = .ok u' w:=by
  have hsz:(sizeOf e).run P w = .ok sz w:=run_sizeOf hz w
  unfold sliceW at h
  obtain ⟨x,hb,h⟩:=live_some h
  cases x with
  | box _ _=>cases h
  | arr ty xs wr =>
    obtain ⟨hs,h⟩:=cond_some h
    have hs:ty.size=sz:=Nat.eq_of_beq_eq_true hs
    obtain ⟨a,cap,hS,hcap,_,_⟩:=hget_arr hr hb
    have hue:u = .slice a xs.length cap:=by
      cases hx with
      | own _ _ _ _ _ h=>rw [hS] at h;cases h;rfl
      | ownd _ _ h _=>rw [hS] at h;cases h
    subst hue
    have main:∀ (l hh:Int),0≤l→l≤hh→hh≤(xs.length:Int)→(Instr.sliceBounds true xs.length cap lv hv none).run P w = .ok (l.toNat,hh.toNat,cap) w→K (.view b l.toNat (hh.toNat - l.toNat)) H=some r →
        ∃ pv u',K pv H=some r∧Val S F w pv u'∧(Instr.sliceAt t (.slice a xs.length cap) lv hv none).run P w = .ok u' w:=by
      intro l hh a0 a1 a2 hb hK
      refine ⟨_,_,hK, .view b l.toNat (hh.toNat - l.toNat) a xs.length cap ty.size hS (by omega),?_⟩
      rw [hs]
      simp [Instr.sliceAt,underlying,hu,Instr.slice,hb,hsz]
    rcases bound_some h with ⟨e1,h⟩|⟨k1,n1,e1,h⟩<;>rcases bound_some h with ⟨e2,h⟩|⟨k2,n2,e2,h⟩<;>
      (obtain ⟨a0,h⟩:=cond_some h
       obtain ⟨a1,h⟩:=cond_some h
       obtain ⟨a2,h⟩:=cond_some h
       simp only [ile,decide_eq_true_eq] at a0 a1 a2
       exact main _ _ a0 a1 a2 (bd_run (P:=P) (sl:=true) (len:=(xs.length:Int)) (cap:=(cap:Int)) h1 h2 (by first|exact .inl ⟨e1,rfl⟩|exact .inr ⟨_,e1⟩) (by first|exact .inl ⟨e2,rfl⟩|exact .inr ⟨_,e2⟩) xs.length cap rfl rfl hcap a0 a1 a2) h)
theorem sliceV_arm (t:TypeId) (x:Operand) (lo hi:Option Operand) (dst:Option Tmp) (ty:TypeId) (pos:String) (after:Array Edge) (g:Option (Nat×Bool)) (v:Bool) (hr:Rel S F w H) (hd:Opd S F w E ρ) (h:act O nb E H (vwOf v (actOf P ⟨dst, .slice t x lo hi none,ty,pos,after,g⟩)) K=some r) :
    Runs P (do pure (Next.value (← Instr.sliceAt t (ρ x) (lo.map ρ) (hi.map ρ) none))) w (Aft S F w H K r):=by
  by_cases hp:∃ b,(argOf P t x).ev E = .own b∧v=true∧∃ e n,P.underlying t=some (.slice e)∧szOf P e=some n
  · obtain ⟨b,hp,rfl,e,n,hu,hz⟩:=hp
    have ha:actOf P ⟨dst, .slice t x lo hi none,ty,pos,after,g⟩ = .slice false n (argOf P t x) (lo.map (argOf P 2)) (hi.map (argOf P 2)):=by simp only [actOf,hu,hz]
    rw [ha] at h
    simp only [vwOf,cond_true,act] at h
    obtain ⟨_,h⟩:=cond_none h
    have hv:=argOf_val (P:=P) hd t x
    have hbd:∀ (o:Option Operand),Bd S F w (optEv E (o.map (argOf P 2))) (o.map ρ):=by
      intro o
      cases o with
      | none=>trivial
      | some o=>exact argOf_val (P:=P) hd 2 o
    rw [hp] at h hv
    obtain ⟨pv,u',g1,g2,g3⟩:=ok_sliceW hr hv (hbd lo) (hbd hi) hu hz h
    exact runs_tells ⟨u',w,g3,aft_mk hr g1 g2⟩
  · refine slice_arm (O:=O) (nb:=nb) t x lo hi dst ty pos after g hr hd ?_
    rw [← h]
    unfold vwOf
    split
    · rename_i sz x' lo' hi' ha
      cases v with
      | false=>rw [ha];rfl
      | true =>
        simp only [actOf] at ha
        split at ha
        · rename_i e hu
          split at ha
          · rename_i n hz
            cases ha
            simp only [actOf,hu,hz,cond_true,act]
            have hno:∀ b,(argOf P t x).ev E ≠ .own b:=fun b hb=>hp ⟨b,hb,rfl,e,_,hu,hz⟩
            generalize (argOf P t x).ev E=p at hno ⊢
            cases p<;>first|rfl|exact absurd rfl (hno _)
          · cases ha
        · cases ha
        · cases ha
    · rfl
theorem isZ_spec {x:Operand} (h:isZ x=true):x = .const (.int .i64 0):=by
  unfold isZ at h
  split at h
  · simp only [decide_eq_true_eq] at h;subst h;rfl
  · cases h
theorem sliceZ_arm (t:TypeId) (x:Operand) (lo hi:Option Operand) (m:Operand) (dst:Option Tmp) (ty:TypeId) (pos:String) (after:Array Edge) (g:Option (Nat×Bool)) (hr:Rel S F w H) (hd:Opd S F w E ρ) (h:act O nb E H (actOf P ⟨dst, .slice t x lo hi (some m),ty,pos,after,g⟩) K=some r) :
    Runs P (do pure (Next.value (← Instr.sliceAt t (ρ x) (lo.map ρ) (hi.map ρ) ((some m).map ρ)))) w (Aft S F w H K r):=by
  have hv:=argOf_val (P:=P) hd t x
  cases hi with
  | none=>simp only [actOf] at h;cases h
  | some hi =>
    simp only [actOf] at h
    split at h
    · rename_i e hu
      cases hc:(isZo lo && isZ hi && isZ m && (szOf P e).isSome) with
      | false=>rw [hc] at h;cases h
      | true =>
        rw [hc] at h
        simp only [Bool.and_eq_true] at hc
        obtain ⟨⟨⟨h1,h2⟩,h3⟩,h4⟩:=hc
        obtain ⟨n,hn⟩:=Option.isSome_iff_exists.1 h4
        have hsz:=run_sizeOf (P:=P) hn w
        have e2:=isZ_spec h2
        have e3:=isZ_spec h3
        subst e2;subst e3
        have hl:lo.map ρ=none∨lo.map ρ=some (.int .i64 0):=by
          cases lo with
          | none=>exact .inl rfl
          | some l=>have:=isZ_spec (x:=l) h1;subst this;exact .inr (by simp [hd.const])
        have hrun:∀ (a:Option Addr) (len cap:Nat),(Instr.sliceAt t (.slice a len cap) (lo.map ρ) ((some (Operand.const (.int .i64 0))).map ρ) ((some (Operand.const (.int .i64 0))).map ρ)).run P w = .ok (.slice a 0 0) w:=by
          intro a len cap
          rcases hl with hl|hl<;>rw [hl]<;>simp [Instr.sliceAt,underlying,hu,Instr.slice,Instr.sliceBounds,Instr.sliceBound,asIntOf,hd.const,hsz]
        simp only [cond_true,act] at h
        generalize (argOf P t x).ev E=p at h hv
        split at h
        · obtain ⟨_,h⟩:=cond_some h
          generalize ρ x=u at hv ⊢
          cases hv with
          | lst _ _ a cap vf hc ha hsp hcell hv'=>exact runs_tells ⟨_,w,hrun _ _ _,aft_mk hr h (.emp _ a)⟩
        · obtain ⟨_,h⟩:=cond_some h
          generalize ρ x=u at hv ⊢
          cases hv with
          | nil _=>exact runs_tells ⟨_,w,hrun _ _ _,aft_mk hr h (.emp _ none)⟩
        · cases h
    · cases h
end
end Go.Proofs.YtdcphpbimeoioaaGreatDoorE
end
section
set_option linter.unusedSectionVars false
namespace Go.Proofs.YtdcphpbimeoioaaGreatDoorE
open Go
set_option linter.unusedVariables false
set_option linter.unusedSimpArgs false
variable [Dm]
section
variable {β:Type} {P:Program} {S S' S1 S2:Nat→SL} {F F' F1 F2:Nat→Prop} {w w':World} {H H' H1:Heap} {E:Env} {ρ:Operand→Value} {O:Orc} {nb:Nat} {r:β} {K:PV→Heap→Option β}
theorem args_vals (hd:Opd S F w E ρ) {xs:Array Operand} {ts:Array TypeId} (hl:xs.size=ts.size) (g:Operand×TypeId→Bool) :
    (xs.map ρ).size=(callPs E ((xs.toList.zip ts.toList).map fun x=>(g x,argOf P x.2 x.1))).length ∧
    ∀ (i:Nat) (p:Bool×PV) (v:Value),(callPs E ((xs.toList.zip ts.toList).map fun x=>(g x,argOf P x.2 x.1)))[i]?=some p→(xs.map ρ)[i]?=some v→Val S F w p.2 v:=by
  refine ⟨by simp [callPs,hl],fun i p v hp hv=>?_⟩
  simp only [callPs,List.map_map,List.getElem?_map] at hp
  cases hz:(xs.toList.zip ts.toList)[i]? with
  | none=>rw [hz] at hp;cases hp
  | some q =>
    rw [hz] at hp
    simp only [Option.map_some,Option.some.injEq,Function.comp] at hp
    subst hp
    obtain ⟨x,t⟩:=q
    rw [List.getElem?_zip_eq_some] at hz
    have hx:xs[i]?=some x:=by simpa using hz.1
    simp [hx] at hv
    subst hv
    exact argOf_val hd t x
theorem list_vals (hd:Opd S F w E ρ) {xs:List Operand} {ts:List TypeId} (hl:xs.length=ts.length):∀ (i:Nat) (p:PV) (v:Value),(((xs.zip ts).map fun x=>argOf P x.2 x.1).map (Arg.ev E))[i]?=some p→(xs.map ρ)[i]?=some v→Val S F w p v:=by
  intro i p v hp hv
  simp only [List.map_map,List.getElem?_map] at hp hv
  cases hz:(xs.zip ts)[i]? with
  | none=>rw [hz] at hp;cases hp
  | some q =>
    rw [hz] at hp
    simp only [Option.map_some,Option.some.injEq,Function.comp] at hp
    subst hp
    obtain ⟨x,t⟩:=q
    rw [List.getElem?_zip_eq_some] at hz
    rw [hz.1] at hv
    simp at hv;subst hv
    exact argOf_val hd t x
theorem builtin_arm (hr:Rel S F w H) (hd:Opd S F w E ρ) (b:Builtin) (args:Array Operand) (ts:Array TypeId) (ty:TypeId) (consts:Array Bool) (h:act O nb E H (builtinOf P b ts args) K=some r) :
    Runs P (Go.builtin b ts ty consts (args.map ρ)) w (Aft S F w H K r):=by
  obtain ⟨args⟩:=args
  obtain ⟨ts⟩:=ts
  unfold builtinOf at h
  simp only at h
  split at h
  ·
    rename_i x t
    have hv:=argOf_val (P:=P) hd t x
    have go:∀ st,act O nb E H (.len st (argOf P t x)) K=some r→(((∃ e,P.underlying t=some (.slice e))∧st=false)∨(P.underlying t=some .string∧st=true))→Runs P (Go.builtin .len #[t] ty consts #[ρ x]) w (Aft S F w H K r):=by
      intro st h hu
      simp only [act] at h
      obtain ⟨hs,h⟩:=cond_some h
      have hs:isStr ((argOf P t x).ev E)=st:=by simpa using hs
      obtain ⟨n,g1,g2⟩:=ok_len (P:=P) (ty:=ty) hr hv h (by
        rcases hu with ⟨h1,h2⟩|⟨h1,h2⟩
        · exact .inl ⟨h1,fun s e=>by rw [e,h2] at hs;cases hs⟩
        · exact .inr ⟨h1,by rw [h2] at hs;exact isStr_iff.1 hs⟩)
      exact runs_tells ⟨_,w,g2,aft_mk hr g1 (.int _ _)⟩
    split at h
    · rename_i e hu;have:=go false h (.inl ⟨⟨e,hu⟩,rfl⟩);simpa using this
    · rename_i hu;have:=go true h (.inr ⟨hu,rfl⟩);simpa using this
    · cases h
  ·
    rename_i x y t u
    have hx:=argOf_val (P:=P) hd t x
    have hy:=argOf_val (P:=P) hd u y
    have go:∀ (st:Bool) (e:TypeId) (z:List PV) (n:Nat),P.underlying t=some (.slice e)→zeroPV P e=some z→szOf P e=some n→((∃ e',P.underlying u=some (.slice e'))∧st=false)∨(P.underlying u=some .string∧st=true)→act O nb E H (bif Nat.blt 0 (P.bytesOf e) then .append st n (P.bytesOf e) (argOf P t x) (argOf P u y) else .bad) K=some r →
        Runs P (Go.builtin .append #[t,u] ty consts #[ρ x,ρ y]) w (Aft S F w H K r):=by
      intro st e z n hu hz hs hk h
      cases hb:Nat.blt 0 (P.bytesOf e) with
      | false=>rw [hb] at h;cases h
      | true =>
        rw [hb] at h
        simp only [cond_true,act] at h
        obtain ⟨hst,h⟩:=cond_some h
        have hst:isStr ((argOf P u y).ev E)=st:=by simpa using hst
        have hbp:0<P.bytesOf e:=Nat.lt_of_lt_of_le (Nat.zero_lt_succ 0) (Nat.le_of_ble_eq_true hb)
        obtain ⟨u',w',g1,g2⟩:=ok_append (P:=P) (ty:=ty) (tx:=u) hr hx hy hu hz hs hbp rfl (by rcases hk with ⟨h1,_⟩|⟨h1,_⟩;exact .inl h1;exact .inr h1) (by
          rw [← isStr_iff,hst]
          rcases hk with ⟨⟨e',h1⟩,h2⟩|⟨h1,h2⟩
          · rw [h1,h2];simp
          · rw [h1,h2];simp) h
        exact runs_tells ⟨u',w',g1,g2⟩
    split at h
    · rename_i e e' h1 h2
      split at h
      · rename_i z n hz hs;have:=go false e _ _ h1 hz hs (.inl ⟨⟨e',h2⟩,rfl⟩) h;simpa using this
      · cases h
    · rename_i e h1 h2
      split at h
      · rename_i z n hz hs;have:=go true e _ _ h1 hz hs (.inr ⟨h2,rfl⟩) h;simpa using this
      · cases h
    · cases h
  · split at h<;>cases h
  · split at h<;>cases h
  ·
    cases hl:Nat.beq args.length ts.length with
    | false=>rw [hl] at h;cases h
    | true =>
      rw [hl] at h
      have hl:=Nat.eq_of_beq_eq_true hl
      simp only [cond_true,act] at h
      have hvs:=list_vals (P:=P) hd hl
      split at h
      · rename_i p l hpl
        cases args with
        | nil=>simp at hpl
        | cons a args =>
          rw [hpl] at hvs
          have hll:args.length=l.length:=by have:=congrArg List.length hpl;simp at this hl;omega
          obtain ⟨pv,u',g1,g2,g3⟩:=ok_folds (P:=P) (lt:=true) (u:=ρ a) (us:=args.map ρ) (hvs 0 p _ rfl rfl) (by simpa using hll) (fun i q v e1 e2=>hvs (i+1) q v (by simpa using e1) (by simpa using e2)) h
          refine runs_tells (m:=Builtin.min_ ts.toArray ty ((a ::args).toArray.map ρ)) ⟨u',w,?_,aft_mk hr g1 g2⟩
          simpa [Builtin.min_] using g3
      · cases h
  ·
    cases hl:Nat.beq args.length ts.length with
    | false=>rw [hl] at h;cases h
    | true =>
      rw [hl] at h
      have hl:=Nat.eq_of_beq_eq_true hl
      simp only [cond_true,act] at h
      have hvs:=list_vals (P:=P) hd hl
      split at h
      · rename_i p l hpl
        cases args with
        | nil=>simp at hpl
        | cons a args =>
          rw [hpl] at hvs
          have hll:args.length=l.length:=by have:=congrArg List.length hpl;simp at this hl;omega
          obtain ⟨pv,u',g1,g2,g3⟩:=ok_folds (P:=P) (lt:=false) (u:=ρ a) (us:=args.map ρ) (hvs 0 p _ rfl rfl) (by simpa using hll) (fun i q v e1 e2=>hvs (i+1) q v (by simpa using e1) (by simpa using e2)) h
          refine runs_tells (m:=Builtin.max_ ts.toArray ty ((a ::args).toArray.map ρ)) ⟨u',w,?_,aft_mk hr g1 g2⟩
          simpa [Builtin.max_] using g3
      · cases h
  · cases h
theorem call_arm (hO:OrcOk P O) (hr:Rel S F w H) (hd:Opd S F w E ρ) (c:Call) (dst:Option Tmp) (ty:TypeId) (pos:String) (after:Array Edge) (g:Option (Nat×Bool)) (h:act O nb E H (actOf P ⟨dst, .call c,ty,pos,after,g⟩) K=some r) :
    Runs P (do let d ← resolve ρ c ty;invoke d.target d.args) w (Aft S F w H K r):=by
  obtain ⟨callee,args,ts⟩:=c
  simp only [actOf] at h
  split at h
  · rename_i b
    have:=fun cs=>builtin_arm hr hd b args ts ty cs h
    unfold Runs at this ⊢
    simp only [resolve,invoke,pure_bind]
    exact this _
  · rename_i f
    cases hl:Nat.beq args.size ts.size with
    | false=>rw [hl] at h;cases h
    | true =>
      rw [hl] at h
      have hl:=Nat.eq_of_beq_eq_true hl
      simp only [cond_true,act] at h
      obtain ⟨a1,a2⟩:=args_vals (P:=P) hd hl (fun x=>inPlaceT P (nameOf P f) x.2)
      obtain ⟨he,hc⟩:=callK_ok (vs:=args.map ρ) hO hr a1 a2 h
      exact runs_call he hc (by simp [resolve,hd.func,Deferred.ofValue,invoke])
  · rename_i x hx
    cases hl:Nat.beq args.size ts.size with
    | false=>rw [hl] at h;cases h
    | true =>
      rw [hl] at h
      have hl:=Nat.eq_of_beq_eq_true hl
      simp only [cond_true,act] at h
      have hv:=argOf_val (P:=P) hd 0 x
      generalize (argOf P 0 x).ev E=p at h hv
      split at h
      · rename_i f a b
        generalize hxv:ρ x=u at hv
        cases hv with
        | fn _ _ _ va vb la lb ha hb =>
          obtain ⟨a1,a2⟩:=args_vals (P:=P) hd hl (fun _=>false)
          have e0:callVs E a ((args.toList.zip ts.toList).map fun x=>argOf P x.2 x.1) b=(a.map fun v=>(false,v))++callPs E ((args.toList.zip ts.toList).map fun x=>(false,argOf P x.2 x.1))++b.map fun v=>(false,v):=by
            simp [callVs,callPs]
          rw [e0] at h
          obtain ⟨he,hc⟩:=callK_ok (vs:=va++args.map ρ++vb) hO hr (by simp [la,lb];simpa using a1) (fun i q v e1 e2=>by
            rw [List.getElem?_append] at e1
            rw [Array.getElem?_append] at e2
            have hla:(va++args.map ρ).size=((a.map fun v=>(false,v))++callPs E ((args.toList.zip ts.toList).map fun x=>(false,argOf P x.2 x.1))).length:=by simp [la];simpa using a1
            by_cases h1:i<(va++args.map ρ).size
            · rw [if_pos h1] at e2
              rw [if_pos (by rw [← hla];exact h1)] at e1
              rw [List.getElem?_append] at e1
              rw [Array.getElem?_append] at e2
              by_cases h2:i<va.size
              · rw [if_pos h2] at e2
                rw [if_pos (by simpa [la] using h2),List.getElem?_map] at e1
                cases hq:a[i]? with
                | none=>rw [hq] at e1;cases e1
                | some q'=>rw [hq] at e1;cases e1;exact ha i q' v hq e2
              · rw [if_neg h2] at e2
                rw [if_neg (by simpa [la] using h2)] at e1
                rw [List.length_map,← la] at e1
                exact a2 _ q v e1 e2
            · rw [if_neg h1] at e2
              rw [if_neg (by rw [← hla];exact h1),← hla,List.getElem?_map] at e1
              cases hq:b[i - (va++args.map ρ).size]? with
              | none=>rw [hq] at e1;cases e1
              | some q'=>rw [hq] at e1;cases e1;exact hb _ q' v hq e2) h
          exact runs_call he hc (by simp [resolve,hxv,Deferred.ofValue,invoke,Array.append_assoc])
      · cases h
  · cases h
theorem bin_arm (op:BinOp) (t:TypeId) (x y:Operand) (u:TypeId) (dst:Option Tmp) (ty:TypeId) (pos:String) (after:Array Edge) (g:Option (Nat×Bool)) (hr:Rel S F w H) (hd:Opd S F w E ρ) (h0:act O nb E H (actOf P ⟨dst, .binOp op t x y u,ty,pos,after,g⟩) K=some r) :
    Runs P (do pure (Next.value (← (do eqGuard op t x y (ρ x) (ρ y);Go.binOp op t (ρ x) (ρ y))))) w (Aft S F w H K r):=by
  have hx:=argOf_val (P:=P) hd t x
  have hy:=argOf_val (P:=P) hd u y
  have gbin:act O nb E H (.bin op (argOf P t x) (argOf P u y)) K=some r→Runs P (do pure (Next.value (← (do eqGuard op t x y (ρ x) (ρ y);Go.binOp op t (ρ x) (ρ y))))) w (Aft S F w H K r):=by
    intro h
    simp only [act] at h
    exact out_runs hr (ok_bin (P:=P) h hx hy t x y)
  have gbeq:∀ (neg:Bool),op=(if neg then .neq else .eql)→P.underlying t=some .bool→act O nb E H (.beq neg (argOf P t x) (argOf P u y)) K=some r→Runs P (do pure (Next.value (← (do eqGuard op t x y (ρ x) (ρ y);Go.binOp op t (ρ x) (ρ y))))) w (Aft S F w H K r):=by
    intro neg ho hu h
    subst ho
    simp only [act] at h
    obtain ⟨a,ea,h⟩:=asBool_some h
    obtain ⟨b,eb,h⟩:=asBool_some h
    rw [ea] at hx;rw [eb] at hy
    rw [val_bool hx,val_bool hy]
    exact runs_tells ⟨_,w,ok_beq (P:=P) hu x y,aft_mk hr h (.bool _)⟩
  have gaeq:∀ (neg:Bool) (fs:Array Field),op=(if neg then .neq else .eql)→P.underlying t=some (.struct fs)→act O nb E H (bif eqOk P 20 t && !P.eqGuardType P.depth t then .aeq neg (leafs P 20 t) (argOf P t x) (argOf P u y) else .bad) K=some r →
      Runs P (do pure (Next.value (← (do eqGuard op t x y (ρ x) (ρ y);Go.binOp op t (ρ x) (ρ y))))) w (Aft S F w H K r):=by
    intro neg fs ho hu h
    subst ho
    cases hc:(eqOk P 20 t && !P.eqGuardType P.depth t) with
    | false=>rw [hc] at h;cases h
    | true =>
      rw [hc] at h
      simp only [Bool.and_eq_true,Bool.not_eq_true'] at hc
      simp only [cond_true,act] at h
      generalize (argOf P t x).ev E=p at h hx
      generalize (argOf P u y).ev E=q at h hy
      split at h
      · rename_i a b
        obtain ⟨hk,h⟩:=cond_some h
        obtain ⟨vs,ex⟩:∃ vs,ρ x = .agg vs:=by generalize ρ x=z at hx;cases hx;exact ⟨_,rfl⟩
        obtain ⟨us,ey⟩:∃ vs,ρ y = .agg vs:=by generalize ρ y=z at hy;cases hy;exact ⟨_,rfl⟩
        rw [ex] at hx ⊢;rw [ey] at hy ⊢
        exact out_runs hr (ok_aeq (P:=P) (K:=fun v=>K v H) h hk hc.1 hc.2 fs hu hx hy x y)
      · cases h
  simp only [actOf] at h0
  split at h0
  · exact gbin h0
  · exact gbin h0
  · rename_i hu;exact gbeq false rfl hu h0
  · rename_i hu;exact gbeq true rfl hu h0
  · rename_i fs hu;exact gaeq false fs rfl hu h0
  · rename_i fs hu;exact gaeq true fs rfl hu h0
  · cases h0
end
end Go.Proofs.YtdcphpbimeoioaaGreatDoorE
end
section
set_option linter.unusedSectionVars false
namespace Go.Proofs.YtdcphpbimeoioaaGreatDoorE
open Go
set_option linter.unusedVariables false
set_option linter.unusedSimpArgs false
variable [Dm]
section
variable {β:Type} {P:Program} {S S' S1 S2:Nat→SL} {F F' F1 F2:Nat→Prop} {w w':World} {H H' H1:Heap} {E:Env} {ρ:Operand→Value} {O:Orc} {nb:Nat} {r:β} {K:PV→Heap→Option β}
theorem act_ok (hO:OrcOk P O) (hr:Rel S F w H) (hd:Opd S F w E ρ) (o:Oper) (h:act O nb E H (actOf P o) K=some r):Runs P (execOp ρ o) w (Aft S F w H K r):=by
  obtain ⟨dst,op,ty,pos,after,g⟩:=o
  cases op with
  | move x=>exact runs_val rfl (aft_mk hr h (argOf_val (P:=P) hd ty x))
  | assign x=>exact runs_val rfl (aft_mk hr h (argOf_val (P:=P) hd ty x))
  | pick c a b =>
    simp only [actOf,act] at h
    have hc:=argOf_val (P:=P) hd ty c
    have ha:=argOf_val (P:=P) hd ty a
    have hb:=argOf_val (P:=P) hd ty b
    obtain ⟨t,e,h⟩:=asBool_some h
    rw [e] at hc
    have hc:=val_bool hc
    cases t with
    | true=>exact runs_val (by simp [execOp,hc,Go.asBool]) (aft_mk hr h ha)
    | false=>exact runs_val (by simp [execOp,hc,Go.asBool]) (aft_mk hr h hb)
  | alloc e =>
    simp only [actOf] at h
    split at h
    · rename_i z hz
      obtain ⟨u,w',g1,g2⟩:=ok_alloc (P:=P) hr hz h
      exact runs_tells ⟨u,w',g1,g2⟩
    · cases h
  | box e x =>
    obtain ⟨u,w',g1,g2⟩:=ok_box (P:=P) (e:=e) hr (argOf_val (P:=P) hd e x) h
    exact runs_tells ⟨u,w',g1,g2⟩
  | build t parts =>
    simp only [actOf] at h
    split at h
    · rename_i fs z hu hz
      split at h
      · rename_i ps hps hfs
        exact out_runs hr (ok_build (P:=P) hd hu hz hps hfs h)
      · cases h
    · cases h
  | buildSlice t n parts =>
    simp only [actOf] at h
    split at h
    · rename_i e hu
      split at h
      · rename_i k z hs hz
        cases hc:(Nat.beq k (tyOf P 20 e).size && Nat.ble (n * k) 1000 && Nat.blt 0 k) with
        | false=>rw [hc] at h;cases h
        | true =>
          rw [hc] at h
          simp only [Bool.and_eq_true] at hc
          simp only [cond_true,act] at h
          obtain ⟨u',w',g1,g2⟩:=ok_bslice (P:=P) hr hd hu hz hs (Nat.eq_of_beq_eq_true hc.1.1) (by have:=Nat.le_of_ble_eq_true hc.2;omega) (Nat.le_of_ble_eq_true hc.1.2) h
          exact runs_tells ⟨u',w',g1,g2⟩
      · cases h
    · cases h
  | load t a =>
    simp only [actOf] at h
    split at h
    · rename_i k hk
      exact out_runs hr (ok_load (P:=P) hr (argOf_val (P:=P) hd 0 a) hk h)
    · cases h
  | store t a x =>
    simp only [actOf] at h
    split at h
    · rename_i n hz
      simp only [act] at h
      have hx:=argOf_val (P:=P) hd t x
      have ha:=argOf_val (P:=P) hd 0 a
      generalize (argOf P 0 a).ev E=p at h ha
      split at h
      · exact runs_skip (ok_store (P:=P) hr ha hx hz h)
      · cases h
    · cases h
  | nilCheck x =>
    simp only [actOf,act] at h
    have hx:=argOf_val (P:=P) hd 0 x
    obtain ⟨hK,hu⟩:=ok_nilck hr hx h
    have:∃ v,(execOp ρ ⟨dst, .nilCheck x,ty,pos,after,g⟩).run P w = .ok (.value v) w∧v=ρ x:=by
      rcases hu with ⟨a,e⟩|⟨f,a,b,e⟩
      · exact ⟨_,by simp [execOp,e],e.symm⟩
      · exact ⟨_,by simp [execOp,e],e.symm⟩
    obtain ⟨v,e1,e2⟩:=this
    subst e2
    exact runs_val e1 (aft_mk hr hK hx)
  | binOp op t x y u=>exact bin_arm op t x y u dst ty pos after g hr hd h
  | unOp op t x =>
    simp only [actOf,act] at h
    exact out_runs hr (ok_un (P:=P) h (argOf_val (P:=P) hd t x))
  | convert s d x=>exact conv_arm s d x dst ty pos after g hr hd h
  | makeSlice t l c =>
    simp only [actOf] at h
    split at h
    · rename_i e hu
      split at h
      · rename_i k z hs hz
        cases hc:(Nat.beq k (tyOf P 20 e).size && Nat.blt 0 (P.bytesOf e) && Nat.blt 0 k) with
        | false=>rw [hc] at h;cases h
        | true =>
          rw [hc] at h
          simp only [Bool.and_eq_true] at hc
          simp only [cond_true,act] at h
          have hl:=argOf_val (P:=P) hd 2 l
          have hcv:=argOf_val (P:=P) hd 2 c
          obtain ⟨k1,n1,e1,h⟩:=asInt_some h
          obtain ⟨k2,n2,e2,h⟩:=asInt_some h
          rw [e1] at hl;rw [e2] at hcv
          obtain ⟨u',w',g1,g2⟩:=ok_mks (P:=P) (kl:=k1) (kc:=k2) hr hu hz hs (Nat.eq_of_beq_eq_true hc.1.1) (by have:=Nat.le_of_ble_eq_true hc.2;omega) (by have:=Nat.le_of_ble_eq_true hc.1.2;omega) rfl h
          exact runs_tells (m:=Instr.makeSlice t (ρ l) (ρ c)) ⟨u',w',by rw [val_int hl,val_int hcv];exact g1,g2⟩
      · cases h
    · cases h
  | slice t x lo hi mx =>
    cases mx with
    | none=>exact slice_arm t x lo hi dst ty pos after g hr hd h
    | some m=>exact sliceZ_arm t x lo hi m dst ty pos after g hr hd h
  | fieldAddr t x i =>
    simp only [actOf] at h
    split at h
    · rename_i f hf
      split at h
      · rename_i n hz
        exact out_runs hr (ok_fadr (P:=P) hr (argOf_val (P:=P) hd 0 x) hf hz h)
      · cases h
    · cases h
  | field t x i =>
    simp only [actOf] at h
    split at h
    · rename_i f hf
      split at h
      · rename_i k hk
        simp only [act] at h
        have hx:=argOf_val (P:=P) hd t x
        generalize (argOf P t x).ev E=p at h hx
        split at h
        · rename_i cs
          obtain ⟨vs,ex⟩:∃ vs,ρ x = .agg vs:=by generalize ρ x=z at hx;cases hx;exact ⟨_,rfl⟩
          rw [ex] at hx
          obtain ⟨pv,u',g1,g2,g3⟩:=ok_fld (P:=P) (K:=fun v=>K v H) hx hf hk h
          exact runs_tells (m:=Instr.field t (ρ x) i) ⟨u',w,by rw [ex];exact g3,aft_mk hr g1 g2⟩
        · cases h
      · cases h
    · cases h
  | indexAddr t x i =>
    simp only [actOf] at h
    split at h
    · rename_i e hu
      split at h
      · rename_i n hz
        simp only [act] at h
        have hi:=argOf_val (P:=P) hd 2 i
        obtain ⟨k,m,e',h⟩:=asInt_some h
        rw [e'] at hi
        obtain ⟨pv,u',g1,g2,g3⟩:=ok_iadr (P:=P) (k:=k) (v:=undef) hr (argOf_val (P:=P) hd t x) hu hz h
        exact runs_tells (m:=Instr.indexAt t (ρ x) (ρ i)) ⟨u',w,by rw [val_int hi];exact g3,aft_mk hr g1 g2⟩
      · cases h
    · cases h
  | index t x i =>
    simp only [actOf] at h
    split at h
    · rename_i hu
      simp only [act] at h
      have hx:=argOf_val (P:=P) hd t x
      have hi:=argOf_val (P:=P) hd 2 i
      obtain ⟨s,e1,h⟩:=asStr_some h
      obtain ⟨k,m,e2,h⟩:=asInt_some h
      obtain ⟨h1,h⟩:=cond_some h
      obtain ⟨h2,h⟩:=cond_some h
      rw [e1] at hx;rw [e2] at hi
      obtain ⟨pv,u',g1,g2,g3⟩:=ok_idx (P:=P) (S:=S) (F:=F) (w:=w) (k:=k) (K:=fun v=>K v H) hu h1 h2 h
      exact runs_tells (m:=Instr.index t (ρ x) (ρ i)) ⟨u',w,by rw [val_str hx,val_int hi];exact g3,aft_mk hr g1 g2⟩
    · cases h
  | extract x i =>
    simp only [actOf,act] at h
    have hx:=argOf_val (P:=P) hd 0 x
    obtain ⟨vs,e,h⟩:=asTup_some h
    rw [e] at hx
    exact out_runs hr (ok_ext (P:=P) (K:=fun v=>K v H) hx h)
  | call c=>exact call_arm hO hr hd c dst ty pos after g h
  | makeFunc fn first caps =>
    cases fn with
    | func f =>
      simp only [actOf,act] at h
      refine runs_val rfl (aft_mk hr h (.fn f _ _ _ _ (by simp) (by simp) (fun i p v hp hv=>?_) (fun i p v hp hv=>?_)))
      · simp only [List.map_map,List.getElem?_map,Array.getElem?_toList] at hp
        simp only [Array.getElem?_map] at hv
        cases hq:first[i]? with
        | none=>rw [hq] at hp;cases hp
        | some q=>rw [hq] at hp hv;cases hp;cases hv;exact argOf_val hd 0 q
      · simp only [List.map_map,List.getElem?_map,Array.getElem?_toList] at hp
        simp only [Array.getElem?_map] at hv
        cases hq:caps[i]? with
        | none=>rw [hq] at hp;cases hp
        | some q=>rw [hq] at hp hv;cases hp;cases hv;exact argOf_val hd 0 q
    | _=>simp only [actOf] at h;cases h
  | _=>simp only [actOf] at h;cases h
theorem actV_ok (hO:OrcOk P O) (hr:Rel S F w H) (hd:Opd S F w E ρ) (o:Oper) (v:Bool) (h:act O nb E H (actV P v o) K=some r):Runs P (execOp ρ o) w (Aft S F w H K r):=by
  obtain ⟨dst,op,ty,pos,after,g⟩:=o
  cases op with
  | slice t x lo hi mx =>
    cases mx with
    | none=>exact sliceV_arm t x lo hi dst ty pos after g v hr hd h
    | some m=>exact act_ok hO hr hd _ h
  | _=>exact act_ok hO hr hd _ h
end
end Go.Proofs.YtdcphpbimeoioaaGreatDoorE
end
section
set_option linter.unusedSectionVars false
namespace Go.Proofs.YtdcphpbimeoioaaGreatDoorE
open Go
set_option linter.unusedVariables false
set_option linter.unusedSimpArgs false
variable [Dm]
structure At (S:Nat→SL) (F:Nat→Prop) (w:World) (E:Env) (a:Act) (n:Nat):Prop where
  opd:Opd S F w E a.eval
  size:a.tmps.size=n
  defers:a.defers=[]
section
variable {β:Type} {P:Program} {S S':Nat→SL} {F F':Nat→Prop} {w w':World} {H H':Heap} {E E':Env} {O:Orc} {a:Act} {n:Nat} {r:β}
theorem get_cons (t u:Nat) (v:PV) (E:Env):get ((t,v) ::E) u=if t=u then v else get E u:=by
  simp only [get]
  by_cases h:t=u
  · subst h;simp [show Nat.beq t t=true from Nat.beq_refl t]
  · have:Nat.beq t u=false:=by cases hb:Nat.beq t u;rfl;exact absurd (Nat.eq_of_beq_eq_true hb) h
    simp [this,h]
theorem At.adv (h:At S F w E a n) (hr:Rel S F w H) (hA:Adv S F w H S' F' w' H'):At S' F' w' E a n :=
  ⟨⟨fun k=>(h.opd.tmp k).adv hr hA,h.opd.const,h.opd.func⟩,h.size,h.defers⟩
theorem At.put (h:At S F w E a n) {v:PV} {u:Value} (hv:Val S F w v u) {dst:Option Nat} (hd:∀ d,dst=some d→d<n):At S F w (putD dst v E) (a.put dst u) n:=by
  cases dst with
  | none=>exact h
  | some d =>
    have hlt:=hd d rfl
    refine ⟨⟨fun k=>?_,fun v=>rfl,fun f=>rfl⟩,by simp [Act.put,h.size],h.defers⟩
    simp only [putD,get_cons]
    split
    · rename_i e
      subst e
      have:(a.put (some d) u).eval (.tmp d)=u:=by simp [Act.eval,Act.put,h.size,hlt]
      rw [this]
      exact hv
    · rename_i e
      rw [Act.eval_put (fun d' hd' e'=>by cases hd';cases e';exact e rfl)]
      exact h.opd.tmp k
theorem At.know (h:At S F w E a n) {t:Nat} {b:PV} (hb:get E t=b):At S F w ((t,b) ::E) a n:=by
  refine ⟨⟨fun k=>?_,h.opd.const,h.opd.func⟩,h.size,h.defers⟩
  rw [get_cons]
  split
  · rename_i e;subst e;rw [← hb];exact h.opd.tmp t
  · exact h.opd.tmp k
theorem At.yield (h:At S F w E a n) {os:Array Oper} {t j:Nat} {b:Bool} (hb:get E t = .bool b) (ht:(os[j]?).bind (·.dst)=some t):yielded os a.tmps j=some b:=by
  have h1:=h.opd.tmp t
  rw [hb] at h1
  have h2:=val_bool h1
  simp only [Act.eval] at h2
  have h3:a.tmps[t]?=some (.bool b):=by
    cases e:a.tmps[t]? with
    | none=>simp [e,undef] at h2
    | some v=>simpa [e] using h2
  simp [yielded,ht,h3]
theorem At.yieldNo (h:At S F w E a n) {os:Array Oper} {t j:Nat} (hb:get E t = .tup []) (ht:(os[j]?).bind (·.dst)=some t):yielded os a.tmps j=none:=by
  have h1:=h.opd.tmp t
  rw [hb] at h1
  have h2:a.eval (.tmp t)=undef:=by
    generalize a.eval (.tmp t)=u at h1
    cases h1 with
    | tup cs vs hl hv=>have:vs=#[]:=Array.size_eq_zero_iff.1 (by simpa using hl);subst this;rfl
  have h3:a.tmps[t]?=none∨a.tmps[t]?=some undef:=by
    cases e:a.tmps[t]? with
    | none=>exact .inl rfl
    | some v=>simp [Act.eval,e] at h2;exact .inr (by rw [h2])
  rcases h3 with h3|h3<;>simp [yielded,ht,h3,undef]
theorem At.wantNo (h:At S F w E a n) {os:Array Oper} {o:Oper} {t j:Nat} {b:Bool} (hg:o.guard=some (j,b)) (hb:get E t = .bool (!b)∨get E t = .tup []) (ht:(os[j]?).bind (·.dst)=some t):Region.wanted o (yielded os a.tmps)=false:=by
  rcases hb with hb|hb
  · simp only [Region.wanted,hg,h.yield hb ht];cases b<;>rfl
  · simp only [Region.wanted,hg,h.yieldNo hb ht];cases b<;>rfl
theorem At.skip (h:At S F w E a n) {dst:Option Nat} (hd:∀ d,dst=some d→d<n):At S F w (putD dst (.tup []) E) (a.put dst undef) n :=
  h.put (.tup [] #[] rfl (fun i p v hp=>by simp at hp)) hd
def IsOp (P:Program) (os:Array Oper) (n:Nat) (x:Nat×POp):Prop:=∃ o,os[x.1]?=some o∧x.2=opOf P os o∧dstIn n x.2=true
theorem dstIn_spec {P:Program} {os:Array Oper} {o:Oper} (h:dstIn n (opOf P os o)=true):(∀ d,o.dst=some d→d<n)∧∀ j b,o.guard=some (j,b)→∃ t,(opOf P os o).guard=some (t,b)∧(os[j]?).bind (·.dst)=some t:=by
  unfold dstIn at h
  simp only [Bool.and_eq_true] at h
  refine ⟨fun d hd=>?_,fun j b hg=>?_⟩
  · have h1:=h.1
    simp only [opOf,hd] at h1
    exact Nat.le_of_ble_eq_true h1
  · have h2:=h.2
    simp only [opOf,hg] at h2 ⊢
    refine ⟨_,rfl,?_⟩
    cases e:(os[j]?).bind (·.dst) with
    | none=>rw [e] at h2;exact absurd h2 (by decide)
    | some t=>rfl
theorem ops_ok {os:Array Oper} {Q:Exit→Act→World→Prop} {base:Nat} {K:Env→Heap→Option β} (hO:OrcOk P O):∀ (L:List (Nat×POp)) {S:Nat→SL} {F:Nat→Prop} {w:World} {H:Heap} {E:Env} {a:Act},
    (∀ x∈L,IsOp P os n x)→Rel S F w H→At S F w E a n→ops O base L E H K=some r →
    (∀ S' F' w' H' E' a',K E' H'=some r→Rel S' F' w' H'→At S' F' w' E' a' n→Adv S F w H S' F' w' H'→Q .normal a' w')→wpOps P os Q (L.map (·.1)) a w
  | [],S,F,w,H,E,a,_,hr,ha,h,hQ=>hQ _ _ _ _ _ _ h hr ha (Adv.refl _ _ _ _)
  | (i,o) ::L,S,F,w,H,E,a,hL,hr,ha,h,hQ=>by
    obtain ⟨oo,ho,he,hd⟩:=hL _ (List.mem_cons_self ..)
    simp only at ho he hd
    subst he
    obtain ⟨hd1,hd2⟩:=dstIn_spec hd
    have hL':∀ x∈L,IsOp P os n x:=fun x hx=>hL x (List.mem_cons_of_mem _ hx)
    simp only [List.map_cons,wpOps,ho]
    have step:∀ E1,At S F w E1 a n→act O (base+i) E1 H (actV P (appUses os oo.dst) oo) (fun v H=>fV v fun v=>ops O base L (putD oo.dst v E1) H K)=some r→oo.wp P a w (wpOps P os Q (L.map (·.1))) Q:=by
      intro E1 ha1 h1
      refine wp_of_runs (actV_ok hO hr ha1.opd oo _ h1) fun v w' hv=>?_
      obtain ⟨pv,H',S',F',hK,hr',hv',hA⟩:=hv
      simp only [fV_eq] at hK
      exact ops_ok hO L hL' hr' ((ha1.adv hr hA).put hv' hd1) hK fun S2 F2 w2 H2 E2 a2 k1 k2 k3 k4=>hQ _ _ _ _ _ _ k1 k2 k3 (hA.trans' k4)
    cases hg:oo.guard with
    | none =>
      have hw:Region.wanted oo (yielded os a.tmps)=true:=by simp [Region.wanted,hg]
      simp only [hw,if_true]
      have hgo:(opOf P os oo).guard=none:=by simp [opOf,hg]
      simp only [ops,hgo] at h
      exact .inl (step E ha h)
    | some g =>
      obtain ⟨j,b⟩:=g
      obtain ⟨t,hgo,ht⟩:=hd2 j b hg
      simp only [ops,hgo] at h
      rcases asGuard_some h with ⟨hb,h⟩|⟨hb,h⟩
      · have hw:Region.wanted oo (yielded os a.tmps)=true:=by simp only [Region.wanted,hg,ha.yield hb ht];cases b<;>rfl
        simp only [hw,if_true]
        exact .inl (step _ (ha.know hb) h)
      · have hw:=ha.wantNo hg hb ht
        simp only [hw,Bool.false_eq_true,if_false]
        exact ops_ok hO L hL' hr ((ha.know rfl).skip hd1) h fun S2 F2 w2 H2 E2 a2 k1 k2 k3 k4=>hQ _ _ _ _ _ _ k1 k2 k3 k4
theorem number_fst:∀ (k:Nat) (l:List POp),(number k l).map (·.1)=List.range' k l.length
  | _,[]=>rfl
  | k,_ ::l=>by simp [number,number_fst (k+1) l,List.range'_succ]
theorem number_mem:∀ (k:Nat) (l:List POp) (x:Nat×POp),x∈number k l→k≤x.1∧l[x.1 - k]?=some x.2
  | _,[],_,h=>by simp [number] at h
  | k,o ::l,x,h=>by
    simp only [number,List.mem_cons] at h
    rcases h with rfl|h
    · simp
    · obtain ⟨h1,h2⟩:=number_mem (k+1) l x h
      refine ⟨by omega,?_⟩
      rw [show x.1 - k=(x.1 - (k+1))+1 by omega]
      simpa using h2
theorem region_isOp {os:Array Oper} (h:(os.toList.map (opOf P os)).all (dstIn n)=true):∀ x∈number 0 (os.toList.map (opOf P os)),IsOp P os n x:=fun x hx=>by
  obtain ⟨_,h2⟩:=number_mem _ _ _ hx
  simp only [Nat.sub_zero,List.getElem?_map,Array.getElem?_toList] at h2
  cases e:os[x.1]? with
  | none=>rw [e] at h2;cases h2
  | some o =>
    rw [e] at h2
    have h3:x.2=opOf P os o:=by simpa using h2.symm
    refine ⟨o,e,h3,?_⟩
    rw [h3]
    exact List.all_eq_true.1 h _ (List.mem_map.2 ⟨o,by simpa using Array.mem_of_getElem? e,rfl⟩)
theorem region_ok {os:Array Oper} {Q:Exit→Act→World→Prop} {base id:Nat} {K:Env→Heap→Option β} (hO:OrcOk P O) (hd:(os.toList.map (opOf P os)).all (dstIn n)=true) (hr:Rel S F w H) (ha:At S F w E a n)
    (h:ops O base (number 0 (os.toList.map (opOf P os))) E H K=some r)
    (hQ:∀ S' F' w' H' E' a',K E' H'=some r→Rel S' F' w' H'→At S' F' w' E' a' n→Adv S F w H S' F' w' H'→Q .normal a' w'):(Code.region id os false).wp P Q a w:=by
  refine wp_region ?_
  have:=ops_ok hO _ (region_isOp hd) hr ha h hQ
  rw [number_fst] at this
  simpa [List.range_eq_range'] using this
end
end Go.Proofs.YtdcphpbimeoioaaGreatDoorE
end
section
set_option linter.unusedSectionVars false
namespace Go.Proofs.YtdcphpbimeoioaaGreatDoorE
open Go
set_option linter.unusedVariables false
set_option linter.unusedSimpArgs false
variable [Dm]
structure AdvM (m:Nat) (S:Nat→SL) (F:Nat→Prop) (w:World) (H:Heap) (S':Nat→SL) (F':Nat→Prop) (w':World) (H':Heap):Prop where
  ff:∀ k,F k→F' k
  ss:∀ b,b<m→S b ≠ .unused→S' b=S b∨S' b = .dead
  sz:w.heap.size≤w'.heap.size
  same:∀ k,k<w.heap.size→¬ WR S H k→w'.heap[k]?=w.heap[k]?
  wr:∀ k,WR S' H' k→WR S H k∨w.heap.size≤k
  fn:∀ k,F' k→F k∨WR S H k∨w.heap.size≤k
  st:Str w w'
section
variable {β:Type} {P:Program} {S S' S2:Nat→SL} {F F' F2:Nat→Prop} {w w' w2:World} {H H' H2:Heap} {E E':Env} {O:Orc} {a:Act} {n m:Nat} {r:β} {ρ:Operand→Value}
theorem Adv.toM (h:Adv S F w H S' F' w' H'):AdvM m S F w H S' F' w' H':=⟨h.ff,fun b _=>h.ss b,h.sz,h.same,h.wr,h.fn,h.st⟩
theorem AdvM.trans (h:AdvM m S F w H S' F' w' H') (h':AdvM m S' F' w' H' S2 F2 w2 H2):AdvM m S F w H S2 F2 w2 H2 where
  ff k hk:=h'.ff k (h.ff k hk)
  ss b hm hb:=by
    rcases h.ss b hm hb with e|e
    · rcases h'.ss b hm (by rw [e];exact hb) with e'|e'
      · exact .inl (e'.trans e)
      · exact .inr e'
    · rcases h'.ss b hm (by rw [e];simp) with e'|e'
      · exact .inr (e'.trans e)
      · exact .inr e'
  sz:=Nat.le_trans h.sz h'.sz
  same k hk hn:=by
    have e1:=h.same k hk hn
    rw [← e1]
    refine h'.same k (Nat.lt_of_lt_of_le hk h.sz) fun hw=>?_
    rcases h.wr k hw with h1|h1
    · exact hn h1
    · omega
  wr k hk:=by
    rcases h'.wr k hk with h1|h1
    · exact h.wr k h1
    · exact .inr (Nat.le_trans h.sz h1)
  fn k hk:=by
    rcases h'.fn k hk with h1|h1|h1
    · exact h.fn k h1
    · rcases h.wr k h1 with h2|h2
      · exact .inr (.inl h2)
      · exact .inr (.inr h2)
    · exact .inr (.inr (Nat.le_trans h.sz h1))
  st:=h.st.trans h'.st
theorem hget_len (H:Heap) (b:Nat) (h:H.length≤b):hget H b = .unused:=by rw [hget_get,List.getElem?_eq_none h];rfl
def Outs (S:Nat→SL) (F:Nat→Prop) (w:World) (ts:List Nat) (vs:List PV) (ρ:Operand→Value):Prop:=∀ (j t:Nat) (p:PV),ts[j]?=some t→vs[j]?=some p→Val S F w p (ρ (.tmp t))
theorem outs_zip {ts:List Nat} {vs:List PV} (h:Outs S F w ts vs ρ) (k:Nat):Val S F w (get (ts.zip vs) k) (ρ (.tmp k)):=by
  induction ts generalizing vs with
  | nil=>simp only [List.zip_nil_left,get];exact .junk _
  | cons t ts ih =>
    cases vs with
    | nil=>simp only [List.zip_nil_right,get];exact .junk _
    | cons v vs =>
      simp only [List.zip_cons_cons,get_cons]
      split
      · rename_i e;subst e;exact h 0 t v rfl rfl
      · exact ih (fun j t p h1 h2=>h (j+1) t p (by simpa using h1) (by simpa using h2))
theorem Outs.at {ts:List Nat} {vs:List PV} (h:Outs S F w ts vs a.eval) (hs:a.tmps.size=n) (hd:a.defers=[]):At S F w (ts.zip vs) a n :=
  ⟨⟨fun k=>outs_zip h k,fun _=>rfl,fun _=>rfl⟩,hs,hd⟩
theorem keep_some:∀ {out:List Nat} {A:Env} {K:Env→Option β},keep out E A K=some r→∃ A',K A'=some r∧∀ t,get A' t=get E t∨get A' t=get A t
  | [],A,K,h=>⟨A,h,fun _ => .inr rfl⟩
  | t ::out,A,K,h=>by
    simp only [keep,fA_eq] at h
    obtain ⟨A',h1,h2⟩:=keep_some h
    refine ⟨A',h1,fun u=>?_⟩
    rcases h2 u with e|e
    · exact .inl e
    · rw [get_cons] at e
      split at e
      · rename_i e';subst e';exact .inl e
      · exact .inr e
theorem at_keep {out:List Nat} {K:Env→Option β} (h:At S F w E a n) (hk:Go.Proofs.YtdcphpbimeoioaaGreatDoorE.keep out E [] K=some r):∃ A',K A'=some r∧At S F w A' a n:=by
  obtain ⟨A',h1,h2⟩:=keep_some hk
  refine ⟨A',h1,⟨fun k=>?_,h.opd.const,h.opd.func⟩,h.size,h.defers⟩
  rcases h2 k with e|e
  · rw [e];exact h.opd.tmp k
  · rw [e];exact .junk _
theorem head1_ok (hr:Rel S F w H) {ap fz:List Nat} {t:Nat} {v:PV} {u:Value} (hv:Val S F w v u) :
    ∃ S' F',Rel S' F' w (head1 ap fz t v H).2∧Adv S F w H S' F' w (head1 ap fz t v H).2∧Val S' F' w (head1 ap fz t v H).1 u:=by
  unfold head1
  split
  · rename_i y
    cases hm:memN t ap with
    | true =>
      obtain ⟨S',h1,h2,h3⟩:=new_none hr (hget_len H _ (Nat.le_refl _)) y none
      cases hv
      exact ⟨S',F,h1,h2,h3⟩
    | false=>exact ⟨S,F,hr,Adv.refl _ _ _ _,nil_lst hv⟩
  · rename_i b
    cases hm:(memN t fz || isFrz H b) with
    | true =>
      obtain ⟨h1,h2⟩:=frz_rel hr [b]
      refine ⟨S,_,h1,h2,?_⟩
      refine cell1_val hr hv (fun k hk => .inl hk) fun b' k hb' ⟨x,hx⟩ hk => .inr ⟨b',x,?_,hx,hk⟩
      simpa [ownC] using hb'
    | false=>exact ⟨S,F,hr,Adv.refl _ _ _ _,hv⟩
  · rename_i cs
    obtain ⟨h1,h2⟩:=frz_rel hr (ownIds (.agg cs))
    exact ⟨S,_,h1,h2,snapV_val hr hv (fun k hk => .inl hk) fun b' k hb' ⟨x,hx⟩ hk => .inr ⟨b',x,hb',hx,hk⟩⟩
  · exact ⟨S,F,hr,Adv.refl _ _ _ _,hv⟩
theorem heads_ok {ap fz:List Nat}:∀ (lv:List Nat) {S:Nat→SL} {F:Nat→Prop} {H:Heap},Rel S F w H→(∀ t,Val S F w (get E t) (ρ (.tmp t))) →
    ∃ S' F',Rel S' F' w (heads ap fz E lv H).2∧Adv S F w H S' F' w (heads ap fz E lv H).2∧Outs S' F' w lv (heads ap fz E lv H).1 ρ
  | [],S,F,H,hr,hv=>⟨S,F,hr,Adv.refl _ _ _ _,fun j t p h=>by simp at h⟩
  | t ::lv,S,F,H,hr,hv=>by
    obtain ⟨S1,F1,h1,h2,h3⟩:=head1_ok (ap:=ap) (fz:=fz) (t:=t) hr (hv t)
    obtain ⟨S2,F2,g1,g2,g3⟩:=heads_ok lv h1 fun t=>(hv t).adv hr h2
    refine ⟨S2,F2,by simpa [heads] using g1,by simpa [heads] using h2.trans' g2,?_⟩
    intro j t' p hj hp
    simp only [heads] at hp
    cases j with
    | zero =>
      simp only [List.getElem?_cons_zero,Option.some.injEq] at hj hp
      subst hj;subst hp
      exact h3.adv h1 g2
    | succ j=>exact g3 j t' p (by simpa using hj) (by simpa using hp)
theorem Outs.adv {ts:List Nat} {vs:List PV} (h:Outs S F w ts vs ρ) (hr:Rel S F w H) (hA:Adv S F w H S' F' w' H'):Outs S' F' w' ts vs ρ:=fun j t p h1 h2=>(h j t p h1 h2).adv hr hA
theorem hset_len:∀ (H:Heap) (s:Slot),(hset H H.length s).length=H.length+1
  | [],s=>rfl
  | x ::r,s=>by simpa [hset] using hset_len r s
theorem unnils_ok:∀ (cs:List PV) {S:Nat→SL} {H:Heap},Rel S F w H →
    ∃ S',Rel S' F w (unnils cs H).2∧Adv S F w H S' F w (unnils cs H).2∧(unnils cs H).1.length=cs.length∧(∀ b,b<H.length→hget (unnils cs H).2 b=hget H b)∧H.length≤(unnils cs H).2.length ∧
      ∀ (j:Nat) (p q:PV) (v:Value),(unnils cs H).1[j]?=some p→cs[j]?=some q→Val S F w q v→Val S' F w p v
  | [],S,H,hr=>⟨S,hr,Adv.refl _ _ _ _,rfl,fun _ _=>rfl,Nat.le_refl _,fun j p q v h=>by simp [unnils] at h⟩
  | c ::cs,S,H,hr=>by
    by_cases hc:∃ u,c = .nil u
    · obtain ⟨u,rfl⟩:=hc
      have hu:=hget_len H _ (Nat.le_refl _)
      obtain ⟨S1,h1,h2,h3⟩:=new_none hr hu u none
      obtain ⟨S2,g1,g2,g3,g4,g5,g6⟩:=unnils_ok cs h1
      have hlen:(hset H H.length (.live (.arr u [] true))).length=H.length+1:=hset_len H _
      simp only [unnils]
      refine ⟨S2,g1,h2.trans' g2,by simp [g3],fun b hb=>?_,by omega,fun j p q v hp hq hv=>?_⟩
      · rw [g4 b (by omega),hget_hset_ne _ _ _ _ (by omega)]
      · cases j with
        | zero =>
          simp only [List.getElem?_cons_zero,Option.some.injEq] at hp hq
          subst hp;subst hq
          cases hv
          exact h3.adv h1 g2
        | succ j=>exact g6 j p q v (by simpa using hp) (by simpa using hq) (hv.adv hr h2)
    · have he:unnils (c ::cs) H=(c ::(unnils cs H).1,(unnils cs H).2):=by
        cases c<;>first|rfl|exact absurd ⟨_,rfl⟩ hc
      obtain ⟨S2,g1,g2,g3,g4,g5,g6⟩:=unnils_ok cs hr
      rw [he]
      refine ⟨S2,g1,g2,by simp [g3],g4,g5,fun j p q v hp hq hv=>?_⟩
      cases j with
      | zero =>
        simp only [List.getElem?_cons_zero,Option.some.injEq] at hp hq
        subst hp;subst hq
        exact hv.adv hr g2
      | succ j=>exact g6 j p q v (by simpa using hp) (by simpa using hq) hv
theorem unnilB_ok:∀ (k b:Nat) {S:Nat→SL} {H:Heap},Rel S F w H→∃ S',Rel S' F w (unnilB k b H)∧Adv S F w H S' F w (unnilB k b H)
  | 0,b,S,H,hr=>⟨S,hr,Adv.refl _ _ _ _⟩
  | k+1,b,S,H,hr=>by
    simp only [unnilB]
    split
    · rename_i cs hb
      obtain ⟨S1,g1,g2,g3,g4,g5,g6⟩:=unnils_ok cs hr
      have hlt:b<H.length:=Nat.lt_of_not_le fun h=>by rw [hget_len H b h] at hb;cases hb
      have hb1:=(g4 b hlt).trans hb
      have hs:=g1.slots b
      have hs0:=hr.slots b
      rw [hb1] at hs
      rw [hb] at hs0
      cases hl:S1 b<;>rw [hl] at hs<;>simp only [SlotOk] at hs
      rename_i kk
      cases hl0:S b<;>rw [hl0] at hs0<;>simp only [SlotOk] at hs0
      rename_i k0
      have hk:kk=k0:=by
        rcases g2.ss b (by rw [hl0];simp) with e|e
        · rw [hl,hl0] at e;cases e;rfl
        · rw [hl] at e;cases e
      subst hk
      obtain ⟨⟨c,t,q1,q2,q3,q4⟩,q5,q6⟩:=hs0
      obtain ⟨u1,u2⟩:=upd_rel (w':=w) (y := .box (unnils cs H).1 true) g1 hb1 rfl rfl (show blkOf (S1 b)=some kk by rw [hl];rfl) rfl (fun _ _=>rfl) ⟨rfl,rfl,rfl,(fun _=>Nat.le_refl _)⟩ (by
        rw [hl]
        simp only [SlotOk]
        refine ⟨⟨c,t,q1,by rw [q2,g3],fun j p v hp hv=>?_,q4⟩,hs.2.1,fun h=>by cases h⟩
        cases hq:cs[j]? with
        | none=>have:=(List.getElem?_eq_some_iff.1 hp).1;rw [g3] at this;rw [List.getElem?_eq_getElem this] at hq;cases hq
        | some q=>exact g6 j p q v hp hq (q3 j q v hq hv))
      obtain ⟨S3,r1,r2⟩:=unnilB_ok k (b+1) u1
      exact ⟨S3,r1,(g2.trans' u2).trans' r2⟩
    · exact unnilB_ok k (b+1) hr
theorem pre_spec:∀ (m i:Nat) (ids:List Nat),pre i m ids=true→∀ b,b<m→ids[b]?=some (i+b)
  | 0,i,ids,_,b,hb=>by omega
  | m+1,i,[],h,b,hb=>by simp [pre] at h
  | m+1,i,c ::ids,h,b,hb=>by
    simp only [pre] at h
    obtain ⟨h1,h2⟩:Nat.beq c i=true∧pre (i+1) m ids=true:=by cases hc:Nat.beq c i<;>rw [hc] at h<;>simp at h ⊢;exact h
    cases b with
    | zero=>simp [Nat.eq_of_beq_eq_true h1]
    | succ b =>
      have:=pre_spec m (i+1) ids h2 b (by omega)
      simp only [List.getElem?_cons_succ,this,Option.some.injEq]
      omega
theorem norm_ok {K:List PV→Heap→Option β} {ts:List Nat} {vs:List PV} (hr:Rel S F w H) (hv:Outs S F w ts vs ρ) (h:norm m vs H K=some r) :
    ∃ vs' H' S',K vs' H'=some r∧Rel S' F w H'∧AdvM m S F w H S' F w H'∧Outs S' F w ts vs' ρ:=by
  unfold norm at h
  obtain ⟨hp,h⟩:=cond_some h
  have hnd:(reach H 100 (vs.flatMap idsV) []).Nodup:=reach_nodup _ _ _ _ (by simp)
  generalize reach H 100 (vs.flatMap idsV) []=ids at *
  let S0:Nat→SL:=fun i=>match ids[i]? with|some b=>S b|none => .unused
  have hS0:∀ b i,posN b ids=some i→S b ≠ .unused→S0 i=S b:=fun b i hp _=>by show (match ids[i]? with|some b=>S b|none=>SL.unused)=S b;rw [posN_some hp]
  have hH0:∀ i,hget (ids.map fun b=>renS ids (hget H b)) i=match ids[i]? with|some b=>renS ids (hget H b)|none => .unused:=by
    intro i;rw [hget_get,List.getElem?_map];cases ids[i]?<;>rfl
  have e:∀ i k,blkOf (S0 i)=some k→∃ b,ids[i]?=some b∧blkOf (S b)=some k:=by
    intro i k hk
    have hk:blkOf (match ids[i]? with|some b=>S b|none=>SL.unused)=some k:=hk
    cases hi:ids[i]? with
    | none=>rw [hi] at hk;cases hk
    | some b=>rw [hi] at hk;exact ⟨b,rfl,hk⟩
  refine ⟨_,_,S0,h,⟨fun i=>?_,fun i j k h1 h2=>?_,hr.fsz,hr.gl⟩,⟨fun _ h=>h,fun b hb hu=>?_,Nat.le_refl _,fun _ _ _=>rfl,fun k hk=>?_,fun _ h => .inl h,rfl,rfl,rfl,(fun _=>Nat.le_refl _)⟩,fun j t p hj hpj=>?_⟩
  · rw [hH0]
    show SlotOk S0 F w _ (match ids[i]? with|some b=>S b|none=>SL.unused)
    cases hi:ids[i]? with
    | none=>simp [SlotOk]
    | some b =>
      refine slot_re (g:=renC ids) (hr.slots b) (by
        simp only
        generalize hget H b=s
        cases s with
        | live x=>cases x<;>simp [renS,renB,mapS]
        | _=>rfl) (fun cs wr hg c v hc hvv=>renC_val (fun _ h=>h) (fun _ _=>rfl) hS0 hvv) (fun t xs wr hg x j p v hp hvv=>hvv.pure (fun k hk=>hk) (fun _ _=>rfl) (cellsOf_pure _ _ _ _ hp)) (fun k hk hn=>hn) (fun k hk _ hF=>hF)
  · obtain ⟨b,e1,e2⟩:=e _ _ h1
    obtain ⟨b',e3,e4⟩:=e _ _ h2
    have:=hr.inj _ _ _ e2 e4
    subst this
    have p1:=posN_get hnd e1
    have p2:=posN_get hnd e3
    rw [p1] at p2;cases p2;rfl
  · have:=pre_spec m 0 ids hp b hb
    rw [Nat.zero_add] at this
    exact .inl (hS0 b b (posN_get hnd this) hu)
  · obtain ⟨i,x,hx,hw,hk⟩:=hk
    rw [hH0] at hx
    obtain ⟨b,e1,e2⟩:=e _ _ hk
    rw [e1] at hx
    simp only at hx
    refine .inl ⟨b,?_⟩
    cases hg:hget H b with
    | live y =>
      rw [hg] at hx
      refine ⟨y,rfl,?_,e2⟩
      cases y<;>simp [renS,renB] at hx<;>subst hx<;>exact hw
    | unused=>rw [hg] at hx;simp [renS] at hx
    | dead=>rw [hg] at hx;simp [renS] at hx
  · rw [List.getElem?_map] at hpj
    cases hc:vs[j]? with
    | none=>rw [hc] at hpj;cases hpj
    | some q=>rw [hc] at hpj;cases hpj;exact renV_val (fun _ h=>h) (fun _ _=>rfl) hS0 (hv j t q hj hc)
theorem unlC_val {v:PV} {u:Value} (h:Val S F w v u):Val S F w (unlC v) u:=by
  unfold unlC;split
  · exact nil_lst h
  · exact h
theorem hget_nilS (H:Heap) (b:Nat):hget (H.map nilS) b=nilS (hget H b):=by
  rw [hget_get,hget_get,List.getElem?_map]
  cases H[b]?<;>rfl
theorem nilS_rel (hr:Rel S F w H):Rel S F w (H.map nilS)∧Adv S F w H S F w (H.map nilS):=by
  constructor
  · refine ⟨fun b=>?_,hr.inj,hr.fsz,hr.gl⟩
    rw [hget_nilS]
    have hs:=hr.slots b
    generalize hget H b=s at hs ⊢
    unfold nilS
    split
    · rename_i cs
      generalize S b=l at hs ⊢
      cases l with
      | box k =>
        simp only [SlotOk] at hs ⊢
        obtain ⟨⟨c,t,h1,h2,h3,h4⟩,h5⟩:=hs
        refine ⟨⟨c,t,h1,by simpa using h2,fun j p v hp hv=>?_,h4⟩,h5⟩
        rw [List.getElem?_map] at hp
        cases hq:cs[j]? with
        | none=>rw [hq] at hp;cases hp
        | some q=>rw [hq] at hp;cases hp;exact unlC_val (h3 j q v hq hv)
      | _=>simp only [SlotOk] at hs
    · exact hs
  · refine ⟨fun _ h=>h,fun _ _ => .inl rfl,Nat.le_refl _,fun _ _ _=>rfl,fun k hk => .inl ?_,fun _ h => .inl h,rfl,rfl,rfl,(fun _=>Nat.le_refl _)⟩
    obtain ⟨b,x,hx,hw,hb⟩:=hk
    rw [hget_nilS] at hx
    generalize hh:hget H b=s at hx
    unfold nilS at hx
    split at hx
    · cases hx;exact ⟨b,_,hh,rfl,hb⟩
    · subst hx;exact ⟨b,x,hh,hw,hb⟩
theorem enter_ok {K:List PV→Heap→Option β} {lv ap fz:List Nat} {nb:Bool} (hr:Rel S F w H) (hv:∀ t,Val S F w (get E t) (ρ (.tmp t))) (h:enter m lv ap fz nb E H K=some r) :
    ∃ vs' H' S' F',K vs' H'=some r∧Rel S' F' w H'∧AdvM m S F w H S' F' w H'∧Outs S' F' w lv vs' ρ:=by
  unfold enter at h
  obtain ⟨S1,F1,h1,h2,h3⟩:=heads_ok (ap:=ap) (fz:=fz) lv hr hv
  generalize heads ap fz E lv H=q at *
  obtain ⟨vs,H1⟩:=q
  simp only at h h1 h2 h3
  cases nb with
  | false =>
    obtain ⟨u1,u2⟩:=nilS_rel h1
    obtain ⟨vs',H',S',g1,g2,g3,g4⟩:=norm_ok u1 (h3.adv h1 u2) h
    exact ⟨vs',H',S',F1,g1,g2,((h2.trans' u2).toM).trans g3,g4⟩
  | true =>
    obtain ⟨S2,u1,u2⟩:=unnilB_ok H1.length 0 h1
    obtain ⟨vs',H',S',g1,g2,g3,g4⟩:=norm_ok u1 (h3.adv h1 u2) h
    exact ⟨vs',H',S',F1,g1,g2,((h2.trans' u2).toM).trans g3,g4⟩
end
end Go.Proofs.YtdcphpbimeoioaaGreatDoorE
end
section
set_option linter.unusedSectionVars false
namespace Go.Proofs.YtdcphpbimeoioaaGreatDoorE
open Go
set_option linter.unusedVariables false
set_option linter.unusedSimpArgs false
variable [Dm]
inductive Mt (P:Program) (n:Nat):Code→PCode→Prop
  | bad (c:Code):Mt P n c .bad
  | skip:Mt P n .skip .skip
  | ret:Mt P n .ret .ret
  | exit (id:Nat):Mt P n (.exit id) (.exit id)
  | region (id:Nat) (os:Array Oper) (d:Bool) (out:List Nat) (h:(os.toList.map (opOf P os)).all (dstIn n)=true):Mt P n (.region id os d) (.region (os.toList.map (opOf P os)) d out)
  | seq {a b:Code} {a' b':PCode} (ha:Mt P n a a') (hb:Mt P n b b'):Mt P n (.seq a b) (.seq a' b')
  | cond (c:Operand) {a b:Code} {a' b':PCode} (ha:Mt P n a a') (hb:Mt P n b b'):Mt P n (.cond c a b) (.cond (argOf P 4 c) a' b')
  | block (id:Nat) {c:Code} {c':PCode} (h:Mt P n c c'):Mt P n (.block id c) (.block id c')
  | loop (i:Nat) (lv:List Nat) (lx:List (Nat×List Nat)) (ap fz:List Nat) (nb:Bool) {c:Code} {c':PCode} (h:Mt P n c c'):Mt P n (.loop c) (.loop i lv lx ap fz nb c')
def subs:PCode→List PCode
  | .loop i lv lx ap fz nb c => .loop i lv lx ap fz nb c ::subs c
  | .seq a b=>subs a++subs b
  | .cond _ a b=>subs a++subs b
  | .block _ c=>subs c
  | _=>[]
def exOf:Ex→Exit
  | .normal => .normal
  | .exit id => .exit id
  | .ret => .ret
section
variable {β:Type} {P:Program} {S S' S2:Nat→SL} {F F' F2:Nat→Prop} {w w' w2:World} {H H' H2:Heap} {E E':Env} {O:Orc} {a:Act} {n m:Nat} {r:β} {ρ:Operand→Value}
def LPost (n m:Nat) (lx:List (Nat×List Nat)) (S:Nat→SL) (F:Nat→Prop) (w:World) (H:Heap) (y:(Nat×List PV×Heap) ⊕ (List PV×Heap)) (e:Exit) (a':Act) (w':World):Prop :=
  match y with
  | .inl (j,outs,H')=>e = .exit j∧∃ S' F',Rel S' F' w' H'∧AdvM m S F w H S' F' w' H'∧Outs S' F' w' (liveAt lx j) outs a'.eval∧a'.tmps.size=n∧a'.defers=[]
  | .inr (outs,H')=>e = .ret∧∃ S' F',Rel S' F' w' H'∧AdvM m S F w H S' F' w' H'∧Outs S' F' w' (liveAt lx 1000000) outs a'.eval∧a'.tmps.size=n∧a'.defers=[]
def LoopOk (P:Program) (n m g:Nat) (lv:List Nat) (lx:List (Nat×List Nat)) (c:Code) (vs:List PV) (H:Heap) (y:(Nat×List PV×Heap) ⊕ (List PV×Heap)):Prop :=
  ∀ S F w a,Rel S F w H→Outs S F w lv vs a.eval→a.tmps.size=n→a.defers=[]→Code.rounds P c (LPost n m lx S F w H y) g a w
def LOk (P:Program) (n m g:Nat) (O:Orc) (f:FuncId) (i:Nat) (lv:List Nat) (lx:List (Nat×List Nat)) (c:Code):Prop :=
  ∀ vs H,match O.loop f i vs H with
    | ⟨_,_,x,encE,encR⟩=>∀ y,x=some y→LoopOk P n m g lv lx c vs H (match y with|.inl a => .inl (encE a)|.inr b => .inr (encR b))
def LoopsOk (P:Program) (n m:Nat) (O:Orc) (f:FuncId) (l:List PCode):Prop :=
  ∀ i lv lx ap fz nb pc c,PCode.loop i lv lx ap fz nb pc∈l→Mt P n c pc→∃ g,LOk P n m g O f i lv lx c
def Goes (n m:Nat) (S:Nat→SL) (F:Nat→Prop) (w:World) (H:Heap) (K:Ex→Env→Heap→Option β) (r:β) (Q:Exit→Act→World→Prop):Prop :=
  ∀ x E' H' S' F' w' a',K x E' H'=some r→Rel S' F' w' H'→At S' F' w' E' a' n→AdvM m S F w H S' F' w' H'→Q (exOf x) a' w'
theorem rounds_mono {c:Code} {Q Q':Exit→Act→World→Prop} (h:∀ e a w,Q e a w→Q' e a w):∀ {g:Nat} {a:Act} {w:World},Code.rounds P c Q g a w→Code.rounds P c Q' g a w
  | 0,_,_,h'=>h'
  | g+1,a,w,h'=>wp_mono h' fun e a w hq=>by
    cases e with
    | normal=>exact rounds_mono h hq
    | _=>exact h _ _ _ hq
theorem bindL_some {α ω:Type} {x:Option (α ⊕ ω)} {K:α→Option β} {R:ω→Option β} (h:bindL x K R=some r):∃ y,x=some y∧(match y with|.inl a=>K a|.inr b=>R b)=some r:=by
  unfold bindL at h
  cases x with
  | none=>simp at h
  | some y=>exact ⟨y,rfl,by cases y<;>simpa using h⟩
def DrawnOk (P:Program) (O:Orc):Prop :=
  ∀ {β:Type} {n id:Nat} {os:Array Oper} {S:Nat→SL} {F:Nat→Prop} {w:World} {H:Heap} {E:Env} {a:Act} {r:β} {Q:Exit→Act→World→Prop} {base:Nat} {out:List Nat} {K:Env→Heap→Option β},
    (os.toList.map (opOf P os)).all (dstIn n)=true→Rel S F w H→At S F w E a n →
    opsD O base [] (number 0 (os.toList.map (opOf P os))) E H (fun E H=>keep out E [] fun E=>K E H)=some r →
    (∀ S' F' w' H' E' a',K E' H'=some r→Rel S' F' w' H'→At S' F' w' E' a' n→AdvM 0 S F w H S' F' w' H'→(∀ m,AdvM m S F w H S' F' w' H')→Q .normal a' w')→(Code.region id os true).wp P Q a w
theorem code_ok {f:FuncId} {l:List PCode} (hO:OrcOk P O) (hD:DrawnOk P O) (hL:LoopsOk P n m O f l) {c:Code} {pc:PCode} (hm:Mt P n c pc):∀ {β:Type} {S:Nat→SL} {F:Nat→Prop} {w:World} {H:Heap} {E:Env} {a:Act} {r:β} {K:Ex→Env→Heap→Option β} {Q:Exit→Act→World→Prop},
    (∀ x∈subs pc,x∈l)→Rel S F w H→At S F w E a n→code O f m pc E H K=some r→Goes n m S F w H K r Q→c.wp P Q a w:=by
  obtain ⟨oc,ol⟩:=O
  induction hm with
  | bad c=>intro β S F w H E a r K Q hs hr ha h hQ;cases h
  | skip=>intro β S F w H E a r K Q hs hr ha h hQ;exact wp_skip (hQ _ _ _ _ _ _ _ h hr ha (Adv.refl _ _ _ _).toM)
  | ret=>intro β S F w H E a r K Q hs hr ha h hQ;exact wp_ret (hQ _ _ _ _ _ _ _ h hr ha (Adv.refl _ _ _ _).toM)
  | exit id=>intro β S F w H E a r K Q hs hr ha h hQ;exact wp_exit (hQ (.exit id) _ _ _ _ _ _ h hr ha (Adv.refl _ _ _ _).toM)
  | region id os d out hd =>
    intro β S F w H E a r K Q hs hr ha h hQ
    simp only [code] at h
    cases d with
    | false =>
      refine region_ok hO hd hr ha h fun S' F' w' H' E' a' hK hr' ha' hA=>?_
      obtain ⟨A',h1,h2⟩:=at_keep ha' hK
      exact hQ _ _ _ _ _ _ _ h1 hr' h2 hA.toM
    | true =>
      exact hD (K:=fun E H=>K .normal E H) hd hr ha h fun S' F' w' H' E' a' hK hr' ha' _ hA=>hQ _ _ _ _ _ _ _ hK hr' ha' (hA m)
  | @seq a b a' b' h1 h2 ih1 ih2 =>
    intro β S F w H E ac r K Q hs hr ha h hQ
    simp only [code] at h
    refine wp_seq (ih1 (fun x hx=>hs x (List.mem_append_left _ hx)) hr ha h fun x E1 H1 S1 F1 w1 a1 hK hr1 ha1 hA=>?_)
    cases x with
    | normal=>exact ih2 (fun x hx=>hs x (List.mem_append_right _ hx)) hr1 ha1 hK fun x E2 H2 S2 F2 w2 a2 k1 k2 k3 k4=>hQ _ _ _ _ _ _ _ k1 k2 k3 (hA.trans k4)
    | exit id=>exact hQ (.exit id) _ _ _ _ _ _ hK hr1 ha1 hA
    | ret=>exact hQ .ret _ _ _ _ _ _ hK hr1 ha1 hA
  | @cond c a b a' b' h1 h2 ih1 ih2 =>
    intro β S F w H E ac r K Q hs hr ha h hQ
    simp only [code] at h
    obtain ⟨t,ht,h⟩:=asBool_some h
    have hv:=argOf_val (P:=P) ha.opd 4 c
    rw [ht] at hv
    have hc:=val_bool hv
    have hset:At S F w (setC (argOf P 4 c) t E) ac n:=by
      cases e:argOf P 4 c with
      | t k=>rw [e] at ht;exact ha.know ht
      | c v=>exact ha
    refine wp_cond hc ?_
    cases t with
    | true=>exact ih1 (fun x hx=>hs x (List.mem_append_left _ hx)) hr hset h hQ
    | false=>exact ih2 (fun x hx=>hs x (List.mem_append_right _ hx)) hr hset h hQ
  | @block id c c' h1 ih =>
    intro β S F w H E ac r K Q hs hr ha h hQ
    simp only [code] at h
    refine wp_block (ih hs hr ha h fun x E1 H1 S1 F1 w1 a1 hK hr1 ha1 hA=>?_)
    cases x with
    | normal=>exact hQ .normal _ _ _ _ _ _ hK hr1 ha1 hA
    | ret=>exact hQ .ret _ _ _ _ _ _ hK hr1 ha1 hA
    | exit j =>
      simp only [exOf,Exit.inBlock]
      cases hj:Nat.beq j id with
      | true =>
        rw [if_pos (Nat.eq_of_beq_eq_true hj)]
        simp only [hj,cond_true] at hK
        exact hQ .normal _ _ _ _ _ _ hK hr1 ha1 hA
      | false =>
        rw [if_neg (fun e=>by subst e;rw [show Nat.beq j j=true from Nat.beq_refl j] at hj;cases hj)]
        simp only [hj,cond_false] at hK
        exact hQ (.exit j) _ _ _ _ _ _ hK hr1 ha1 hA
  | @loop i lv lx ap fz nb c c' h1 ih =>
    intro β S F w H E ac r K Q hs hr ha h hQ
    simp only [code] at h
    obtain ⟨vs,H1,S1,F1,hK,hr1,hA1,ho1⟩:=enter_ok hr ha.opd.tmp h
    simp only [fAs_eq,fH_eq] at hK
    obtain ⟨g,hg⟩:=hL i lv lx ap fz nb c' c (hs _ (by simp [subs])) h1
    have hg:=hg vs H1
    dsimp only at hg hK
    generalize ol f i vs H1=su at hg hK
    obtain ⟨α,ω,x,encE,encR⟩:=su
    simp only at hg hK
    obtain ⟨y,hy,hK⟩:=bindL_some hK
    refine wp_loop_rounds g (rounds_mono ?_ (hg y hy S1 F1 w ac hr1 ho1 ha.size ha.defers))
    intro e a' w' hp
    cases y with
    | inl p =>
      simp only at hp hK
      generalize encE p=q at hp hK
      obtain ⟨j,outs,H3⟩:=q
      simp only [LPost] at hp
      obtain ⟨rfl,S',F',g1,g2,g3,g4,g5⟩:=hp
      simp only [fAs_eq,fH_eq] at hK
      exact hQ (.exit j) _ _ _ _ _ _ hK g1 (g3.at g4 g5) (hA1.trans g2)
    | inr p =>
      simp only at hp hK
      generalize encR p=q at hp hK
      obtain ⟨outs,H3⟩:=q
      simp only [LPost] at hp
      obtain ⟨rfl,S',F',g1,g2,g3,g4,g5⟩:=hp
      simp only [fAs_eq,fH_eq] at hK
      exact hQ .ret _ _ _ _ _ _ hK g1 (g3.at g4 g5) (hA1.trans g2)
end
end Go.Proofs.YtdcphpbimeoioaaGreatDoorE
end
section
set_option linter.unusedSectionVars false
namespace Go.Proofs.YtdcphpbimeoioaaGreatDoorE
open Go
set_option linter.unusedVariables false
set_option linter.unusedSimpArgs false
variable [Dm]
section
variable {β:Type} {P:Program} {S S' S2:Nat→SL} {F F' F2:Nat→Prop} {w w' w2:World} {H H' H2:Heap} {E E':Env} {O:Orc} {a:Act} {n m:Nat} {r:β} {ρ:Operand→Value}
def pick (S:Nat→SL) (ids:List Nat) (i:Nat):SL:=match ids[i]? with|some b=>S b|none => .unused
theorem pick_pos {ids:List Nat} {b i:Nat} (hp:posN b ids=some i):pick S ids i=S b:=by unfold pick;rw [posN_some hp]
theorem snap_rel (hr:Rel S F w H) {ids frozen:List Nat} (hnd:ids.Nodup) (hdis:∀ b,b∈frozen→b ∉ ids)
    (hfb:∀ b cs wr c,b∈ids→hget H b = .live (.box cs wr)→c∈cs→∀ b',b'∈ownC c→b'∈frozen) :
    Rel (pick S ids) (FZ S F H frozen) w (ids.map fun b=>renS ids (snapS H (hget H b)))∧∀ k,WR (pick S ids) (ids.map fun b=>renS ids (snapS H (hget H b))) k→WR S H k:=by
  obtain ⟨z1,z2⟩:=frz_rel hr frozen
  have hH0:∀ i,hget (ids.map fun b=>renS ids (snapS H (hget H b))) i=match ids[i]? with|some b=>renS ids (snapS H (hget H b))|none => .unused:=by
    intro i;rw [hget_get,List.getElem?_map];cases ids[i]?<;>rfl
  have e:∀ i k,blkOf (pick S ids i)=some k→∃ b,ids[i]?=some b∧blkOf (S b)=some k:=by
    intro i k hk
    unfold pick at hk
    cases hi:ids[i]? with
    | none=>rw [hi] at hk;cases hk
    | some b=>rw [hi] at hk;exact ⟨b,rfl,hk⟩
  refine ⟨⟨fun i=>?_,fun i j k h1 h2=>?_,z1.fsz,z1.gl⟩,?_⟩
  · rw [hH0]
    unfold pick
    cases hi:ids[i]? with
    | none=>simp [SlotOk]
    | some b =>
      have hb:=List.mem_of_getElem? hi
      refine slot_re (g:=fun c=>renC ids (cell1 H c)) (hr.slots b) (by
        simp only
        generalize hget H b=s
        cases s with
        | live x=>cases x<;>simp [snapS,snapB,renS,renB,mapS]
        | _=>rfl) (fun cs wr hg c v hc hvv=>?_) (fun t xs wr hg x j p v hp hvv=>hvv.pure (fun k hk => .inl hk) (fun _ _=>rfl) (cellsOf_pure _ _ _ _ hp)) (fun k hk hn=>?_) (fun k hk _ hF => .inl hF)
      · have h1:Val S (FZ S F H frozen) w (cell1 H c) v:=cell1_val hr hvv (fun k hk => .inl hk) (fun b' k hb' ⟨x,hx⟩ hk => .inr ⟨b',x,hfb b cs wr c hb hg hc b' hb',hx,hk⟩)
        exact renC_val (fun _ h=>h) (fun _ _=>rfl) (fun b i hp _=>pick_pos hp) h1
      · rintro (hF|⟨b',x,hb',hx,hk'⟩)
        · exact hn hF
        · have:=hr.inj _ _ _ hk' hk
          subst this
          exact hdis _ hb' hb
  · obtain ⟨b,e1,e2⟩:=e _ _ h1
    obtain ⟨b',e3,e4⟩:=e _ _ h2
    have:=hr.inj _ _ _ e2 e4
    subst this
    have p1:=posN_get hnd e1
    have p2:=posN_get hnd e3
    rw [p1] at p2;cases p2;rfl
  · rintro k ⟨i,x,hx,hw,hk⟩
    rw [hH0] at hx
    obtain ⟨b,e1,e2⟩:=e _ _ hk
    rw [e1] at hx
    simp only at hx
    refine ⟨b,?_⟩
    cases hg:hget H b with
    | live y =>
      rw [hg] at hx
      refine ⟨y,rfl,?_,e2⟩
      cases y<;>simp [snapS,snapB,renS,renB] at hx<;>subst hx<;>exact hw
    | unused=>rw [hg] at hx;simp [snapS,renS] at hx
    | dead=>rw [hg] at hx;simp [snapS,renS] at hx
theorem upto_range:∀ m,upto m=List.range m
  | 0=>rfl
  | m+1=>by rw [upto,upto_range m,List.range_succ]
theorem finIds_nodup (ro:Bool) (p:PV):(finIds m ro p).Nodup:=by
  unfold finIds
  rw [upto_range]
  have h1:∀ b,Nat.ble m b=true→(List.range m++[b]).Nodup:=fun b hb=>by
    rw [List.nodup_append]
    refine ⟨List.nodup_range,by simp,fun x hx y hy e=>?_⟩
    simp at hx hy
    have:=Nat.le_of_ble_eq_true hb
    omega
  have h0:(List.range m++[]).Nodup:=by simpa using List.nodup_range
  split
  · rename_i b
    cases hb:(ro && Nat.ble m b) with
    | false=>exact h0
    | true=>simp only [Bool.and_eq_true] at hb;exact h1 b hb.2
  · rename_i b _ _
    cases hb:Nat.ble m b with
    | false=>exact h0
    | true=>exact h1 b hb
  · exact h0
theorem finIds_get (ro:Bool) (p:PV) {b:Nat} (hb:b<m):(finIds m ro p)[b]?=some b:=by
  unfold finIds
  rw [upto_range,List.getElem?_append_left (by simpa using hb)]
  simp [hb]
theorem finOut_ok {K:PV→Heap→Option β} {ro:Bool} {p:PV} {v:Value} (hr:Rel S F w H) (hv:Val S F w p v) (h:finOut m ro p H K=some r) :
    ∃ p' H' S' F',K p' H'=some r∧Rel S' F' w H'∧Val S' F' w p' v∧AdvM m S F w H S' F' w H':=by
  unfold finOut at h
  obtain ⟨hc,hK⟩:=cond_some h
  clear h
  have hnd:=finIds_nodup (m:=m) ro p
  have hgt:∀ b,b<m→(finIds m ro p)[b]?=some b:=fun b hb=>finIds_get ro p hb
  have hdis:∀ b,b∈finFrozen H m ro p→b ∉ finIds m ro p:=fun b hb hi=>by
    have:=List.all_eq_true.1 hc b hb
    rw [memN_iff.2 hi] at this;cases this
  have hfb:∀ b cs wr c,b∈finIds m ro p→hget H b = .live (.box cs wr)→c∈cs→∀ b',b'∈ownC c→b'∈finFrozen H m ro p:=by
    intro b cs wr c hb hg hcc b' hb'
    unfold finFrozen
    refine List.mem_append_right _ (List.mem_flatMap.2 ⟨b,hb,?_⟩)
    rw [hg]
    exact List.mem_flatMap.2 ⟨c,hcc,hb'⟩
  have hown:handOwn ro p=false→∀ b,b∈ownIds p→b∈finFrozen H m ro p:=fun e b hb=>by
    unfold finFrozen;rw [e];exact List.mem_append_left _ hb
  generalize finFrozen H m ro p=frozen at *
  generalize finIds m ro p=ids at *
  obtain ⟨z1,z2⟩:=frz_rel hr frozen
  obtain ⟨g1,g2⟩:=snap_rel hr hnd hdis hfb
  refine ⟨_,_,_,_,hK,g1,?_,⟨z2.ff,fun b hb hu => .inl (pick_pos (posN_get hnd (hgt b hb))),Nat.le_refl _,fun _ _ _=>rfl,fun k hk => .inl (g2 k hk),z2.fn,z2.st⟩⟩
  refine renV_val (S:=S) (F:=FZ S F H frozen) (w:=w) (fun _ h=>h) (fun _ _=>rfl) (fun b i hp _=>pick_pos hp) ?_
  cases ho:handOwn ro p with
  | true=>exact hv.mono (fun k hk => .inl hk) (fun _ _=>rfl) (fun _ _ => .inl rfl)
  | false=>exact snapV_val hr hv (fun k hk => .inl hk) (fun b k hb ⟨x,hx⟩ hk => .inr ⟨b,x,hown ho b hb,hx,hk⟩)
theorem fin_ok {K:PV→Heap→Option β} {ro:Bool} {p:PV} {v:Value} (hr:Rel S F w H) (hv:Val S F w p v) (h:fin m ro p H K=some r) :
    ∃ p' H' S' F',K p' H'=some r∧Rel S' F' w H'∧Val S' F' w p' v∧AdvM m S F w H S' F' w H':=by
  unfold fin at h
  split at h
  · rename_i t
    cases ro with
    | false=>exact finOut_ok hr hv h
    | true =>
      obtain ⟨S1,h1,h2,h3⟩:=new_none hr (hget_len H _ (Nat.le_refl _)) t none
      cases hv
      obtain ⟨p',H',S',F',g1,g2,g3,g4⟩:=finOut_ok h1 h3 h
      exact ⟨p',H',S',F',g1,g2,g3,h2.toM.trans g4⟩
  · rename_i b
    cases hc:(ro && Nat.blt b m) with
    | false=>rw [hc] at h;exact finOut_ok hr hv h
    | true =>
      rw [hc] at h
      simp only [cond_true] at h
      split at h
      · rename_i t xs hb
        obtain ⟨a,cap,hS,_⟩:=hget_arr hr hb
        have hok:=hr.slots b
        rw [hb,hS] at hok
        have hlt:b<H.length:=Nat.lt_of_not_le fun hle=>by rw [hget_len H b hle] at hb;cases hb
        obtain ⟨S1,h1,h2,h3⟩:=move_rel hr (by omega) (hget_len H _ (Nat.le_refl _)) hb hS hok
        cases hv with
        | own _ a' n' cap' sz' hS' =>
          rw [hS] at hS'
          cases hS'
          obtain ⟨p',H',S',F',g1,g2,g3,g4⟩:=finOut_ok h1 h3 h
          exact ⟨p',H',S',F',g1,g2,g3,h2.toM.trans g4⟩
        | ownd _ _ hd _=>rw [hS] at hd;cases hd
      · exact finOut_ok hr hv h
  · exact finOut_ok hr hv h
def oneRes (tmps:Array Value):ResultVar→Sem Value
  | .tmp t=>pure (tmps.getD t undef)
  | .cell a t=>do loadVar t (← asAddr (tmps.getD a undef))
theorem loadVar_of {t:TypeId} {u v:Value} (h:(Instr.loadAt t u).run P w = .ok v w):(do loadVar t (← asAddr u):Sem Value).run P w = .ok v w:=by
  unfold Instr.loadAt at h
  cases u with
  | pointer x =>
    cases x with
    | none=>simp [Instr.sureAddr] at h
    | some ad=>simpa [Instr.sureAddr,asAddr] using h
  | _=>simp [Instr.sureAddr] at h
theorem resVals_ok (hr:Rel S F w H) (hv:∀ t,Val S F w (get E t) (a.tmps.getD t undef)):∀ (rs:List ResultVar) {K:List PV→Option β} {r:β},resVals E H (rs.map (resOf P)) K=some r →
    ∃ ps vs,K ps=some r∧(rs.mapM (oneRes a.tmps)).run P w = .ok vs w∧vs.length=ps.length∧∀ (i:Nat) (p:PV) (v:Value),ps[i]?=some p→vs[i]?=some v→Val S F w p v
  | [],K,r,h=>⟨[],[],h,rfl,rfl,fun i p v h=>by simp at h⟩
  | .tmp t ::rs,K,r,h=>by
    simp only [List.map_cons,resOf,resVals] at h
    obtain ⟨ps,vs,h1,h2,h3,h4⟩:=resVals_ok hr hv rs h
    refine ⟨_,a.tmps.getD t undef ::vs,h1,by simp [List.mapM_cons,oneRes,h2],by simp [h3],fun i p v hp hvv=>?_⟩
    cases i with
    | zero=>simp only [List.getElem?_cons_zero,Option.some.injEq] at hp hvv;subst hp;subst hvv;exact hv t
    | succ i=>exact h4 i p v (by simpa using hp) (by simpa using hvv)
  | .cell t ty ::rs,K,r,h=>by
    simp only [List.map_cons,resOf] at h
    split at h
    · rename_i k hk
      simp only [resVals] at h
      obtain ⟨pv,u,g1,g2,g3⟩:=ok_load (P:=P) (K:=fun v _=>resVals E H (rs.map (resOf P)) fun vs=>K (v ::vs)) hr (hv t) hk h
      obtain ⟨ps,vs,h1,h2,h3,h4⟩:=resVals_ok hr hv rs g1
      have h5:=loadVar_of g3
      have h6:(oneRes a.tmps (.cell t ty)).run P w = .ok u w:=h5
      refine ⟨_,u ::vs,h1,by rw [List.mapM_cons];simp [h6,h2],by simp [h3],fun i p v hp hvv=>?_⟩
      cases i with
      | zero=>simp only [List.getElem?_cons_zero,Option.some.injEq] at hp hvv;subst hp;subst hvv;exact g2
      | succ i=>exact h4 i p v (by simpa using hp) (by simpa using hvv)
    · cases h
theorem results_ok {fn:Func} {K:List PV→Option β} (hr:Rel S F w H) (hv:∀ t,Val S F w (get E t) (a.tmps.getD t undef)) (h:resVals E H (fn.results.toList.map (resOf P)) K=some r) :
    ∃ ps v,K ps=some r∧(results fn a.tmps).run P w = .ok v w∧Val S F w (oneOf ps) v:=by
  obtain ⟨ps,vs,h1,h2,h3,h4⟩:=resVals_ok hr hv _ h
  have e:results fn a.tmps=(do let vs ← fn.results.mapM (oneRes a.tmps);pure (if h:vs.size=1 then vs[0] else .tuple vs)):=by
    unfold results
    congr
  refine ⟨ps,if h:vs.toArray.size=1 then vs.toArray[0] else .tuple vs.toArray,h1,?_,?_⟩
  · rw [e,Array.mapM_eq_mapM_toList]
    simp [h2]
  · unfold oneOf
    split
    · rename_i p
      cases vs with
      | nil=>simp at h3
      | cons v vs =>
        cases vs with
        | nil=>simpa using h4 0 p v rfl rfl
        | cons _ _=>simp at h3
    · rename_i hn
      have:¬ vs.toArray.size=1:=fun e=>by
        simp at e
        rw [h3] at e
        obtain ⟨q,hq⟩:=List.length_eq_one_iff.1 e
        exact hn _ hq
      rw [dif_neg this]
      exact .tup _ _ (by simp [h3]) (fun i p v hp hvv=>h4 i p v hp (by simpa using hvv))
end
end Go.Proofs.YtdcphpbimeoioaaGreatDoorE
end
section
set_option linter.unusedSectionVars false
namespace Go.Proofs.YtdcphpbimeoioaaGreatDoorE
open Go
set_option linter.unusedVariables false
set_option linter.unusedSimpArgs false
variable [Dm]
section
variable {β:Type} {P:Program} {S S' S2:Nat→SL} {F F' F2:Nat→Prop} {w w' w2:World} {H H' H2:Heap} {E E':Env} {O:Orc} {a:Act} {n m:Nat} {r:β} {ρ:Operand→Value}
theorem mt_raw (c:Code):∀ (k:Nat) (ex:List (Nat×List Nat)) (out:List Nat),(opsIn (rawOf P c k).1).all (dstIn n)=true→Mt P n c (ann (rawOf P c k).1 ex out).1:=by
  induction c with
  | skip=>intro k ex out h;exact .skip
  | ret=>intro k ex out h;exact .ret
  | exit id=>intro k ex out h;exact .exit id
  | region id os d=>intro k ex out h;exact .region id os d out h
  | seq a b iha ihb =>
    intro k ex out h
    simp only [rawOf,opsIn,List.all_append,Bool.and_eq_true] at h
    simp only [rawOf,ann]
    exact .seq (iha k _ _ h.1) (ihb _ _ _ h.2)
  | cond c a b iha ihb =>
    intro k ex out h
    simp only [rawOf,opsIn,List.all_append,Bool.and_eq_true] at h
    simp only [rawOf,ann]
    exact .cond c (iha k _ _ h.1) (ihb _ _ _ h.2)
  | block id c ih =>
    intro k ex out h
    simp only [rawOf,opsIn] at h
    simp only [rawOf,ann]
    exact .block id (ih k _ _ h)
  | loop c ih =>
    intro k ex out h
    simp only [rawOf,opsIn] at h
    simp only [rawOf,ann]
    exact .loop _ _ _ _ _ _ (ih _ _ _ h)
  | _=>intros;exact .bad _
def idx:PCode→Nat
  | .loop i _ _ _ _ _ _=>i
  | _=>0
theorem subs_raw (c:Code):∀ (k:Nat),k≤(rawOf P c k).2∧(subs (rawOf P c k).1).map idx=List.range' k ((rawOf P c k).2 - k):=by
  induction c with
  | seq a b iha ihb =>
    intro k
    obtain ⟨h1,h2⟩:=iha k
    obtain ⟨h3,h4⟩:=ihb (rawOf P a k).2
    simp only [rawOf,subs,List.map_append,h2,h4]
    refine ⟨by omega,?_⟩
    have e:(rawOf P b (rawOf P a k).2).2 - k=((rawOf P a k).2 - k)+((rawOf P b (rawOf P a k).2).2 - (rawOf P a k).2):=by omega
    rw [e,← List.range'_append]
    congr 1
    congr 1
    omega
  | cond c a b iha ihb =>
    intro k
    obtain ⟨h1,h2⟩:=iha k
    obtain ⟨h3,h4⟩:=ihb (rawOf P a k).2
    simp only [rawOf,subs,List.map_append,h2,h4]
    refine ⟨by omega,?_⟩
    have e:(rawOf P b (rawOf P a k).2).2 - k=((rawOf P a k).2 - k)+((rawOf P b (rawOf P a k).2).2 - (rawOf P a k).2):=by omega
    rw [e,← List.range'_append]
    congr 1
    congr 1
    omega
  | block id c ih=>intro k;simpa [rawOf,subs] using ih k
  | loop c ih =>
    intro k
    obtain ⟨h1,h2⟩:=ih (k+1)
    simp only [rawOf,subs,List.map_cons,idx,h2]
    refine ⟨by omega,?_⟩
    rw [show (rawOf P c (k+1)).2 - k=((rawOf P c (k+1)).2 - (k+1))+1 by omega,List.range'_succ]
  | _=>intro k;simp [rawOf,subs]
theorem subs_ann (c:PCode):∀ (ex:List (Nat×List Nat)) (out:List Nat),(subs (ann c ex out).1).map idx=(subs c).map idx:=by
  induction c with
  | seq a b iha ihb=>intro ex out;simp [ann,subs,iha,ihb]
  | cond c a b iha ihb=>intro ex out;simp [ann,subs,iha,ihb]
  | block id c ih=>intro ex out;simp [ann,subs,ih]
  | loop i _ _ _ _ _ c ih=>intro ex out;simp [ann,subs,ih,idx]
  | _=>intro ex out;simp [ann,subs]
theorem findLoop_eq (c:PCode) (j:Nat):findLoop c j=(subs c).find? fun x=>Nat.beq (idx x) j:=by
  induction c with
  | seq a b iha ihb=>simp only [findLoop,subs,iha,ihb,List.find?_append];cases (subs a).find? fun x=>Nat.beq (idx x) j<;>rfl
  | cond c a b iha ihb=>simp only [findLoop,subs,iha,ihb,List.find?_append];cases (subs a).find? fun x=>Nat.beq (idx x) j<;>rfl
  | block id c ih=>simp [findLoop,subs,ih]
  | loop i _ _ _ _ _ c ih=>simp only [findLoop,subs,ih,List.find?_cons,idx];cases Nat.beq i j<;>rfl
  | _=>simp [findLoop,subs]
theorem find_of_nodup {l:List PCode} (h:(l.map idx).Nodup) {x:PCode} (hx:x∈l):l.find? (fun y=>Nat.beq (idx y) (idx x))=some x:=by
  induction l with
  | nil=>cases hx
  | cons y l ih =>
    simp only [List.map_cons,List.nodup_cons] at h
    simp only [List.find?_cons]
    simp only [List.mem_cons] at hx
    rcases hx with rfl|hx
    · simp [show Nat.beq (idx x) (idx x)=true from Nat.beq_refl _]
    · have:Nat.beq (idx y) (idx x)=false:=by
        cases hb:Nat.beq (idx y) (idx x) with
        | false=>rfl
        | true=>exact absurd (List.mem_map.2 ⟨x,hx,(Nat.eq_of_beq_eq_true hb).symm⟩) h.1
      rw [this]
      exact ih h.2 hx
theorem findLoop_sub (c:Code) (ex:List (Nat×List Nat)) (out:List Nat) {i:Nat} {lv:List Nat} {lx:List (Nat×List Nat)} {ap fz:List Nat} {nb:Bool} {d:PCode} (h:PCode.loop i lv lx ap fz nb d∈subs (ann (rawOf P c 0).1 ex out).1) :
    findLoop (ann (rawOf P c 0).1 ex out).1 i=some (.loop i lv lx ap fz nb d):=by
  rw [findLoop_eq]
  refine find_of_nodup (x := .loop i lv lx ap fz nb d) ?_ h
  rw [subs_ann,(subs_raw c 0).2]
  exact List.nodup_range'
theorem sub_subs (c:PCode):∀ {i:Nat} {lv:List Nat} {lx:List (Nat×List Nat)} {ap fz:List Nat} {nb:Bool} {d:PCode},PCode.loop i lv lx ap fz nb d∈subs c→∀ x∈subs d,x∈subs c:=by
  induction c with
  | seq a b iha ihb =>
    intro i lv lx ap fz nb d h x hx
    simp only [subs,List.mem_append] at h ⊢
    exact h.imp (fun h=>iha h x hx) (fun h=>ihb h x hx)
  | cond c a b iha ihb =>
    intro i lv lx ap fz nb d h x hx
    simp only [subs,List.mem_append] at h ⊢
    exact h.imp (fun h=>iha h x hx) (fun h=>ihb h x hx)
  | block id c ih=>exact ih
  | loop i lv lx ap fz nb c ih =>
    intro i' lv' lx' ap' fz' nb' d h x hx
    simp only [subs,List.mem_cons] at h ⊢
    rcases h with h|h
    · cases h;exact .inr hx
    · exact .inr (ih h x hx)
  | _=>intro i lv lx ap fz nb d h;simp [subs] at h
def liveX (lx:List (Nat×List Nat)):Ex→List Nat
  | .normal=>[]
  | .exit j=>liveAt lx j
  | .ret=>liveAt lx 1000000
theorem unl_val {v:PV} {u:Value} (h:Val S F w v u):Val S F w (unl v) u:=by
  unfold unl
  split
  · rename_i cs
    cases h with
    | agg _ vs hl hv ho =>
      refine .agg _ vs (by simpa using hl) (fun i p x hp hx=>?_) ho
      rw [List.getElem?_map] at hp
      cases hc:cs[i]? with
      | none=>rw [hc] at hp;cases hp
      | some q=>rw [hc] at hp;cases hp;exact unlC_val (hv i q x hc hx)
  · exact unlC_val h
theorem outs_unl (h:At S F w E a n) (ts:List Nat):Outs S F w ts (ts.map fun t=>unl (get E t)) a.eval:=by
  intro j t p hj hp
  rw [List.getElem?_map,hj] at hp
  simp only [Option.map_some,Option.some.injEq] at hp
  subst hp
  exact unl_val (h.opd.tmp t)
theorem loopBody_ok {f:FuncId} {l:List PCode} (hO:OrcOk P O) (hD:DrawnOk P O) (hL:LoopsOk P n m O f l) {c:Code} {pc:PCode} (hm:Mt P n c pc) (hs:∀ x∈subs pc,x∈l) {g i:Nat} {lv ap fz:List Nat} {lx:List (Nat×List Nat)} {nb:Bool}
    (hg:LOk P n m g O f i lv lx c) {vs:List PV} {K:Ex→List PV→Heap→Option β} (h:loopBody O f m i lv lx ap fz nb pc vs H K=some r) (hr:Rel S F w H) (ho:Outs S F w lv vs a.eval) (hsz:a.tmps.size=n) (hdf:a.defers=[])
    {Q:Exit→Act→World→Prop} (hQ:∀ x outs H' S' F' w' a',x ≠ .normal→K x outs H'=some r→Rel S' F' w' H'→AdvM m S F w H S' F' w' H'→Outs S' F' w' (liveX lx x) outs a'.eval→a'.tmps.size=n→a'.defers=[]→Q (exOf x) a' w') :
    Code.rounds P c Q (g+1) a w:=by
  obtain ⟨oc,ol⟩:=O
  unfold loopBody at h
  simp only [fAs_eq,fH_eq] at h
  refine code_ok hO hD hL hm hs hr (ho.at hsz hdf) h fun x E1 H1 S1 F1 w1 a1 hK hr1 ha1 hA1=>?_
  cases x with
  | normal =>
    simp only at hK
    obtain ⟨vs2,H2,S2,F2,hK,hr2,hA2,ho2⟩:=enter_ok hr1 ha1.opd.tmp hK
    have hg:=hg vs2 H2
    dsimp only at hg hK
    generalize ol f i vs2 H2=su at hg hK
    obtain ⟨α,ω,x,encE,encR⟩:=su
    simp only at hg hK
    obtain ⟨y,hy,hK⟩:=bindL_some hK
    refine rounds_mono ?_ (hg y hy S2 F2 w1 a1 hr2 ho2 ha1.size ha1.defers)
    intro e a' w' hp
    cases y with
    | inl p =>
      simp only at hp hK
      generalize encE p=q at hp hK
      obtain ⟨j,outs,H3⟩:=q
      simp only [LPost] at hp
      obtain ⟨rfl,S',F',g1,g2,g3,g4,g5⟩:=hp
      exact hQ (.exit j) _ _ _ _ _ _ (by simp) hK g1 ((hA1.trans hA2).trans g2) g3 g4 g5
    | inr p =>
      simp only at hp hK
      generalize encR p=q at hp hK
      obtain ⟨outs,H3⟩:=q
      simp only [LPost] at hp
      obtain ⟨rfl,S',F',g1,g2,g3,g4,g5⟩:=hp
      exact hQ .ret _ _ _ _ _ _ (by simp) hK g1 ((hA1.trans hA2).trans g2) g3 g4 g5
  | exit j =>
    simp only at hK
    obtain ⟨vs',H',S',g1,g2,g3,g4⟩:=norm_ok hr1 (outs_unl ha1 _) hK
    exact hQ (.exit j) _ _ _ _ _ _ (by simp) g1 g2 (hA1.trans g3) g4 ha1.size ha1.defers
  | ret =>
    simp only at hK
    obtain ⟨vs',H',S',g1,g2,g3,g4⟩:=norm_ok hr1 (outs_unl ha1 _) hK
    exact hQ .ret _ _ _ _ _ _ (by simp) g1 g2 (hA1.trans g3) g4 ha1.size ha1.defers
end
end Go.Proofs.YtdcphpbimeoioaaGreatDoorE
end
section
set_option linter.unusedSectionVars false
namespace Go.Proofs.YtdcphpbimeoioaaGreatDoorE
open Go
set_option linter.unusedVariables false
set_option linter.unusedSimpArgs false
variable [Dm]
section
variable {β:Type} {H:Heap} {r:β}
theorem decV_some {t:Ty} {v:PV} {K:El t→Option β} (h:decV t v K=some r):∃ x,K x=some r∧v=valPV t x:=by
  cases t with
  | int k =>
    cases v<;>simp only [decV,reduceCtorEq] at h
    obtain ⟨h1,h2⟩:=cond_some h
    have:=of_decide_eq_true h1
    subst this
    exact ⟨_,h2,rfl⟩
  | bool=>cases v<;>simp only [decV,reduceCtorEq] at h;exact ⟨_,h,rfl⟩
  | str=>cases v<;>simp only [decV,reduceCtorEq] at h;exact ⟨_,h,rfl⟩
  | slice t =>
    cases v<;>simp only [decV,reduceCtorEq] at h
    obtain ⟨xs,h1,h2⟩:=optK_some h
    obtain ⟨e,e2⟩:=castL_some h1
    subst e
    subst e2
    exact ⟨_,h2,rfl⟩
  | pair a b =>
    cases v<;>simp only [decV,reduceCtorEq] at h
    obtain ⟨x,rest,h1,h2⟩:=decK_some h
    cases rest with
    | nil=>exact ⟨x,h1,by rw [h2];simp [valPV]⟩
    | cons _ _=>cases h1
  | unit =>
    cases v<;>simp only [decV,reduceCtorEq] at h
    split at h
    · exact ⟨(),h,rfl⟩
    · cases h
  | none=>cases v<;>simp only [decV,reduceCtorEq] at h
theorem box?_some {s:Slot} {K:List PV→Option β} (h:box? s K=some r):∃ cs,s = .live (.box cs true)∧K cs=some r:=by
  unfold box? at h;split at h
  · exact ⟨_,rfl,h⟩
  · cases h
theorem arr?_some {t:Ty} {s:Slot} {K:List (El t)→Option β} (h:arr? t s K=some r):∃ xs,s = .live (.arr t xs true)∧K xs=some r:=by
  unfold arr? at h;split at h
  · obtain ⟨xs,h1,h2⟩:=optK_some h
    obtain ⟨e,e2⟩:=castL_some h1
    subst e
    subst e2
    exact ⟨_,rfl,h2⟩
  · cases h
def Seg (H:Heap) (e:Nat) (L:Heap):Prop:=∀ i s,L[i]?=some s→hget H (e+i)=s
theorem Seg.nil {e:Nat}:Seg H e []:=fun i s h=>by simp at h
theorem Seg.cons {e:Nat} {s:Slot} {L:Heap} (h:hget H e=s) (hL:Seg H (e+1) L):Seg H e (s ::L):=fun i s' hi=>by
  cases i with
  | zero=>simp only [List.getElem?_cons_zero,Option.some.injEq] at hi;subst hi;exact h
  | succ i=>have:=hL i s' (by simpa using hi);rwa [show e+1+i=e+(i+1) by omega] at this
theorem Seg.append {e:Nat} {A B:Heap} (hA:Seg H e A) (hB:Seg H (e+A.length) B):Seg H e (A++B):=fun i s hi=>by
  by_cases h:i<A.length
  · rw [List.getElem?_append_left h] at hi;exact hA i s hi
  · rw [List.getElem?_append_right (by omega)] at hi
    have:=hB _ s hi
    rwa [show e+A.length+(i - A.length)=e+i by omega] at this
theorem Seg.all {L:Heap} (h:Seg H 0 L) (hl:H.length=L.length):H=L:=by
  refine List.ext_getElem? fun i=>?_
  by_cases hi:i<L.length
  · have h1:=h i _ (List.getElem?_eq_getElem hi)
    rw [Nat.zero_add,hget_get,List.getElem?_eq_getElem (by omega:i<H.length)] at h1
    rw [List.getElem?_eq_getElem hi,List.getElem?_eq_getElem (by omega:i<H.length)]
    simpa using h1
  · rw [List.getElem?_eq_none (by omega),List.getElem?_eq_none (by omega)]
theorem csExtra_length:∀ (cs:List Cs) (x:CsEl cs),(csExtra cs x).length=nOwn cs
  | [],_=>rfl
  | .tree t ::r,x=>csExtra_length r x.2
  | .own t ::r,x=>by simp [csExtra,nOwn,csExtra_length r x.2]
theorem decBox_some:∀ {cs:List Cs} {l:List PV} {e:Nat} {K:CsEl cs→List PV→Option β},decBox H cs l e K=some r →
    ∃ x rest,K x rest=some r∧l=csCells cs x e++rest∧Seg H e (csExtra cs x)
  | [],l,e,K,h=>⟨(),l,h,rfl, .nil⟩
  | .tree t ::cs,l,e,K,h=>by
    simp only [decBox] at h
    obtain ⟨x,rest,h1,h2⟩:=decK_some h
    obtain ⟨y,rest',g1,g2,g3⟩:=decBox_some h1
    exact ⟨(x,y),rest',g1,by rw [h2,g2];simp [csCells],g3⟩
  | .own t ::cs,[],e,K,h=>by simp [decBox] at h
  | .own t ::cs,c ::l,e,K,h=>by
    cases c<;>simp only [decBox,reduceCtorEq] at h
    obtain ⟨h0,h⟩:=cond_some h
    obtain ⟨xs,e1,h⟩:=arr?_some h
    obtain ⟨y,rest',g1,g2,g3⟩:=decBox_some h
    have:=Nat.eq_of_beq_eq_true h0
    subst this
    exact ⟨(xs,y),rest',g1,by rw [g2];simp [csCells], .cons e1 g3⟩
theorem capsHeap_length:∀ (caps:List Ty) (x:CapsEl caps),(capsHeap caps x).length=caps.length
  | [],_=>rfl
  | t ::r,x=>by simp [capsHeap,capsHeap_length r x.2]
theorem decCaps_some:∀ {caps:List Ty} {l:List PV} {n:Nat} {K:CapsEl caps→Option β},decCaps H caps l n K=some r→∃ x,K x=some r∧l=ptrs n caps∧Seg H n (capsHeap caps x)
  | [],[],n,K,h=>⟨(),h,rfl, .nil⟩
  | [],_ ::_,n,K,h=>by simp [decCaps] at h
  | t ::caps,[],n,K,h=>by simp [decCaps] at h
  | t ::caps,c ::l,n,K,h=>by
    cases c<;>simp only [decCaps,reduceCtorEq] at h
    obtain ⟨h0,h⟩:=cond_some h
    obtain ⟨cs,e1,h⟩:=box?_some h
    obtain ⟨x,rest,h1,h2⟩:=decK_some h
    cases rest with
    | cons _ _=>cases h1
    | nil =>
      obtain ⟨y,g1,g2,g3⟩:=decCaps_some h1
      simp only [Bool.and_eq_true] at h0
      have e2:=Nat.eq_of_beq_eq_true h0.1.1
      have e3:=Nat.eq_of_beq_eq_true h0.1.2
      have e4:=Nat.eq_of_beq_eq_true h0.2
      subst e2;subst e3;subst e4
      exact ⟨(x,y),g1,by rw [g2];rfl, .cons (by rw [e1,h2];simp) g3⟩
theorem mainHeap_length:∀ (sg:List Sg) (x:SgEl sg) (e:Nat),(mainHeap sg x e).length=nIds sg
  | [],_,_=>rfl
  | .tree _ ::r,x,e=>mainHeap_length r x.2 e
  | .box cs ::r,x,e=>by simp [mainHeap,nIds,mainHeap_length r]
  | .boxr t ::r,x,e=>by simp [mainHeap,nIds,mainHeap_length r]
  | .fnv _ caps ::r,x,e=>by simp [mainHeap,nIds,mainHeap_length r,capsHeap_length];omega
  | .fnvr _ caps ::r,x,e=>by simp [mainHeap,nIds,mainHeap_length r,capsHeap_length];omega
  | .own t ::r,x,e=>by simp [mainHeap,nIds,mainHeap_length r]
  | .ownx t ::r,x,e=>by simp [mainHeap,nIds,mainHeap_length r]
  | .nl _ ::r,x,e=>mainHeap_length r x.2 e
  | .al _ ::r,x,e=>mainHeap_length r x.2 e
theorem decArgs_some:∀ {sg:List Sg} {args:List PV} {n e:Nat} {K:SgEl sg→Option β},decArgs H sg args n e K=some r →
    ∃ y,K y=some r∧args=argsOf sg y n∧Seg H n (mainHeap sg y e)∧Seg H e (extraHeap sg y)∧H.length=e+(extraHeap sg y).length
  | [],[],n,e,K,h=>by
    simp only [decArgs] at h
    obtain ⟨h0,h⟩:=cond_some h
    exact ⟨(),h,rfl, .nil, .nil,by rw [← Nat.eq_of_beq_eq_true h0];rfl⟩
  | [],_ ::_,n,e,K,h=>by simp [decArgs] at h
  | s ::sg,[],n,e,K,h=>by cases s<;>simp [decArgs] at h
  | .tree t ::sg,v ::l,n,e,K,h=>by
    simp only [decArgs] at h
    obtain ⟨x,h1,h2⟩:=decV_some h
    obtain ⟨y,g1,g2,g3,g4,g5⟩:=decArgs_some h1
    exact ⟨(x,y),g1,by rw [h2,g2];rfl,g3,g4,g5⟩
  | .box cs ::sg,v ::l,n,e,K,h=>by
    cases v<;>simp only [decArgs,reduceCtorEq] at h
    obtain ⟨h0,h⟩:=cond_some h
    obtain ⟨c,e1,h⟩:=box?_some h
    obtain ⟨x,rest,h1,h2,h3⟩:=decBox_some h
    cases rest with
    | cons _ _=>cases h1
    | nil =>
      obtain ⟨y,g1,g2,g3,g4,g5⟩:=decArgs_some h1
      simp only [Bool.and_eq_true] at h0
      have e2:=Nat.eq_of_beq_eq_true h0.1.1
      have e3:=Nat.eq_of_beq_eq_true h0.1.2
      have e4:=Nat.eq_of_beq_eq_true h0.2
      subst e2;subst e3;subst e4
      refine ⟨(x,y),g1,by rw [g2];rfl, .cons (by rw [e1,h2];simp) g3,?_,by simp [extraHeap,csExtra_length,g5];omega⟩
      exact Seg.append h3 (by rw [csExtra_length];exact g4)
  | .fnv g caps ::sg,v ::l,n,e,K,h=>by
    cases v<;>simp only [decArgs,reduceCtorEq] at h
    obtain ⟨h0,h⟩:=cond_some h
    obtain ⟨x,h1,h2,h3⟩:=decCaps_some h
    obtain ⟨y,g1,g2,g3,g4,g5⟩:=decArgs_some h1
    simp only [Bool.and_eq_true] at h0
    have e2:=Nat.eq_of_beq_eq_true h0.1
    have e3:_=[]:=List.isEmpty_iff.1 h0.2
    subst e2;subst e3
    exact ⟨(x,y),g1,by rw [g2,h2];rfl,Seg.append h3 (by rw [capsHeap_length];exact g3),g4,g5⟩
  | .fnvr g caps ::sg,v ::l,n,e,K,h=>by
    cases v<;>simp only [decArgs,reduceCtorEq] at h
    obtain ⟨h0,h⟩:=cond_some h
    obtain ⟨x,h1,h2,h3⟩:=decCaps_some h
    obtain ⟨y,g1,g2,g3,g4,g5⟩:=decArgs_some h1
    simp only [Bool.and_eq_true] at h0
    have e2:=Nat.eq_of_beq_eq_true h0.1
    have e3:_=[]:=List.isEmpty_iff.1 h0.2
    subst e2;subst e3
    exact ⟨(x,y),g1,by rw [g2,h2];rfl,Seg.append h3 (by rw [capsHeap_length];exact g3),g4,g5⟩
  | .boxr t ::sg,v ::l,n,e,K,h=>by
    cases v<;>simp only [decArgs,reduceCtorEq] at h
    obtain ⟨h0,h⟩:=cond_some h
    obtain ⟨c,e1,h⟩:=box?_some h
    obtain ⟨x,rest,h1,h2⟩:=decK_some h
    cases rest with
    | cons _ _=>cases h1
    | nil =>
      obtain ⟨y,g1,g2,g3,g4,g5⟩:=decArgs_some h1
      simp only [Bool.and_eq_true] at h0
      have e2:=Nat.eq_of_beq_eq_true h0.1.1
      have e3:=Nat.eq_of_beq_eq_true h0.1.2
      have e4:=Nat.eq_of_beq_eq_true h0.2
      subst e2;subst e3;subst e4
      exact ⟨(x,y),g1,by rw [g2];rfl, .cons (by rw [e1,h2];simp) g3,g4,g5⟩
  | .own t ::sg,v ::l,n,e,K,h=>by
    cases v<;>simp only [decArgs,reduceCtorEq] at h
    obtain ⟨h0,h⟩:=cond_some h
    obtain ⟨x,e1,h⟩:=arr?_some h
    obtain ⟨y,g1,g2,g3,g4,g5⟩:=decArgs_some h
    have e2:=Nat.eq_of_beq_eq_true h0
    subst e2
    exact ⟨(x,y),g1,by rw [g2];rfl, .cons e1 g3,g4,g5⟩
  | .ownx t ::sg,v ::l,n,e,K,h=>by
    cases v<;>simp only [decArgs,reduceCtorEq] at h
    obtain ⟨h0,h⟩:=cond_some h
    obtain ⟨x,e1,h⟩:=arr?_some h
    obtain ⟨y,g1,g2,g3,g4,g5⟩:=decArgs_some h
    have e2:=Nat.eq_of_beq_eq_true h0
    subst e2
    exact ⟨(x,y),g1,by rw [g2];rfl, .cons e1 g3,g4,g5⟩
  | .nl t ::sg,v ::l,n,e,K,h=>by
    cases v<;>simp only [decArgs,reduceCtorEq] at h
    obtain ⟨h0,h⟩:=cond_some h
    obtain ⟨y,g1,g2,g3,g4,g5⟩:=decArgs_some h
    have e2:=of_decide_eq_true h0
    subst e2
    exact ⟨((),y),g1,by rw [g2];rfl,g3,g4,g5⟩
  | .al j ::sg,v ::l,n,e,K,h=>by
    cases v<;>simp only [decArgs,reduceCtorEq] at h
    obtain ⟨h0,h⟩:=cond_some h
    obtain ⟨y,g1,g2,g3,g4,g5⟩:=decArgs_some h
    have e2:=Nat.eq_of_beq_eq_true h0
    subst e2
    exact ⟨((),y),g1,by rw [g2];rfl,g3,g4,g5⟩
theorem decIn_some {sg:List Sg} {args:List PV} {a:SgEl sg} (h:decIn sg args H=some a):args=argsOf sg a 0∧H=heapOf sg a:=by
  unfold decIn at h
  obtain ⟨y,h1,h2,h3,h4,h5⟩:=decArgs_some h
  simp only [Option.some.injEq] at h1
  subst h1
  refine ⟨h2,?_⟩
  unfold heapOf
  refine Seg.all (Seg.append h3 (by rw [mainHeap_length,Nat.zero_add];exact h4)) ?_
  simp [mainHeap_length,h5]
theorem decCapsOut_some:∀ {caps:List Ty} {H:Heap} {K:CapsEl caps→Heap→Option β},decCapsOut caps H K=some r→∃ x H',K x H'=some r∧H=capsHeap caps x++H'
  | [],H,K,h=>⟨(),H,h,rfl⟩
  | t ::caps,[],K,h=>by simp [decCapsOut] at h
  | t ::caps,s ::H,K,h=>by
    simp only [decCapsOut] at h
    obtain ⟨cs,e1,h⟩:=box?_some h
    obtain ⟨x,rest,h1,h2⟩:=decK_some h
    cases rest with
    | cons _ _=>cases h1
    | nil =>
      obtain ⟨y,H',g1,g2⟩:=decCapsOut_some h1
      exact ⟨(x,y),H',g1,by rw [g2,e1,h2];simp [capsHeap]⟩
theorem decOut_some:∀ {sg:List Sg} {H:Heap} {K:OutEl sg→Heap→Option β},decOut sg H K=some r→∃ o H',K o H'=some r∧∀ a:SgEl sg,H=outHeap sg a o++H'
  | [],H,K,h=>⟨(),H,h,fun _=>rfl⟩
  | .tree _ ::sg,H,K,h=>by
    simp only [decOut] at h
    obtain ⟨o,H',h1,h2⟩:=decOut_some h
    exact ⟨((),o),H',h1,fun a=>h2 a.2⟩
  | .box cs ::sg,[],K,h=>by simp [decOut] at h
  | .box cs ::sg,s ::H,K,h=>by
    simp only [decOut] at h
    obtain ⟨c,e1,h⟩:=box?_some h
    obtain ⟨x,rest,h1,h2,_⟩:=decBox_some h
    cases rest with
    | cons _ _=>cases h1
    | nil =>
      obtain ⟨o,H',g1,g2⟩:=decOut_some h1
      exact ⟨(x,o),H',g1,fun a=>by rw [e1,h2,g2 a.2];simp [outHeap]⟩
  | .boxr _ ::sg,H,K,h=>by simp [decOut] at h
  | .fnvr _ _ ::sg,H,K,h=>by simp [decOut] at h
  | .fnv _ caps ::sg,H,K,h=>by
    simp only [decOut] at h
    obtain ⟨x,H1,h1,h2⟩:=decCapsOut_some h
    obtain ⟨o,H',g1,g2⟩:=decOut_some h1
    exact ⟨(x,o),H',g1,fun a=>by rw [h2,g2 a.2];simp [outHeap]⟩
  | .own t ::sg,[],K,h=>by simp [decOut] at h
  | .own t ::sg,s ::H,K,h=>by
    simp only [decOut] at h
    obtain ⟨x,e1,h⟩:=arr?_some h
    obtain ⟨o,H',g1,g2⟩:=decOut_some h
    exact ⟨(x,o),H',g1,fun a=>by rw [e1,g2 a.2];simp [outHeap]⟩
  | .ownx t ::sg,[],K,h=>by simp [decOut] at h
  | .ownx t ::sg,s ::H,K,h=>by
    cases s<;>simp only [decOut,reduceCtorEq] at h
    obtain ⟨o,H',g1,g2⟩:=decOut_some h
    exact ⟨((),o),H',g1,fun a=>by rw [g2 a.2];simp [outHeap]⟩
  | .nl _ ::sg,H,K,h=>by
    simp only [decOut] at h
    obtain ⟨o,H',h1,h2⟩:=decOut_some h
    exact ⟨((),o),H',h1,fun a=>h2 a.2⟩
  | .al _ ::sg,H,K,h=>by
    simp only [decOut] at h
    obtain ⟨o,H',h1,h2⟩:=decOut_some h
    exact ⟨((),o),H',h1,fun a=>h2 a.2⟩
theorem decList_some:∀ {rs:List Rt} {l:List PV} {K:RtEl rs→Option β},decList rs l K=some r→∃ y,K y=some r∧l=resList rs y
  | [],[],K,h=>⟨(),h,rfl⟩
  | [],_ ::_,K,h=>by simp [decList] at h
  | .tree t ::rs,[],K,h=>by simp [decList] at h
  | .tree t ::rs,v ::l,K,h=>by
    simp only [decList] at h
    obtain ⟨x,h1,h2⟩:=decV_some h
    obtain ⟨y,g1,g2⟩:=decList_some h1
    exact ⟨(x,y),g1,by rw [h2,g2];rfl⟩
  | .own t ::rs,l,K,h=>by cases l<;>simp [decList] at h
  | .ptr t ::rs,l,K,h=>by cases l<;>simp [decList] at h
theorem decRes_some {rs:List Rt} {m:Nat} {v:PV} {K:RtEl rs→Option β} (h:decRes rs m v H K=some r):∃ y,K y=some r∧(v,H)=resOfT rs y m:=by
  unfold decRes at h
  split at h
  · split at h
    · obtain ⟨x,h1,h2⟩:=decV_some h
      exact ⟨_,h1,by rw [h2];rfl⟩
    · cases h
  · split at h
    · obtain ⟨h0,h⟩:=cond_some h
      obtain ⟨x,e1,h1⟩:=arr?_some h
      exact ⟨_,h1,by rw [e1,Nat.eq_of_beq_eq_true h0];rfl⟩
    · cases h
  · split at h
    · obtain ⟨h0,h⟩:=cond_some h
      obtain ⟨cs,e1,h⟩:=box?_some h
      obtain ⟨x,rest,h1,h2⟩:=decK_some h
      cases rest with
      | cons _ _=>cases h1
      | nil =>
        simp only [Bool.and_eq_true] at h0
        exact ⟨_,h1,by rw [e1,h2,Nat.eq_of_beq_eq_true h0.1.1,Nat.eq_of_beq_eq_true h0.1.2,Nat.eq_of_beq_eq_true h0.2];simp [resOfT]⟩
    · cases h
  · rename_i n1 n2 n3
    split at h
    · obtain ⟨y,h1,h2⟩:=decList_some h
      refine ⟨y,h1,?_⟩
      rw [h2]
      unfold resOfT
      split
      · exact (n1 _ _ rfl HEq.rfl).elim
      · exact (n2 _ _ rfl HEq.rfl).elim
      · exact (n3 _ _ rfl HEq.rfl).elim
      · rfl
    · cases h
end
end Go.Proofs.YtdcphpbimeoioaaGreatDoorE
end
section
set_option linter.unusedSectionVars false
namespace Go.Proofs.YtdcphpbimeoioaaGreatDoorE
open Go
set_option linter.unusedVariables false
set_option linter.unusedSimpArgs false
variable [Dm]
section
variable {β:Type} {P:Program} {S S' S2:Nat→SL} {F F' F2:Nat→Prop} {w w' w2:World} {H H' H2:Heap} {E E':Env} {O:Orc} {a:Act} {n m:Nat} {r:β} {ρ:Operand→Value}
def EntOk (P:Program) (x:Ent):Prop:=∀ a y,x.F a=some y→Enters P x.n∧CallOk P x.n (argsOf x.sg a 0) (heapOf x.sg a) (encOut x.sg x.rs a y)
def TabF (P:Program) (T:List Ent):Prop:=∀ x∈T,EntOk P x
theorem keeps_main:∀ (sg:List Sg),sg.all Sg.keeps=true→∀ (a:SgEl sg) (o:OutEl sg) (e:Nat),outHeap sg a o=mainHeap sg a e∧extraHeap sg a=[]
  | [],_,_,_,_=>⟨rfl,rfl⟩
  | .tree _ ::sg,h,a,o,e=>keeps_main sg (by simpa [Sg.keeps] using h) a.2 o.2 e
  | .nl _ ::sg,h,a,o,e=>keeps_main sg (by simpa [Sg.keeps] using h) a.2 o.2 e
  | .al _ ::sg,h,a,o,e=>keeps_main sg (by simpa [Sg.keeps] using h) a.2 o.2 e
  | .boxr t ::sg,h,a,o,e=>by
    obtain ⟨h1,h2⟩:=keeps_main sg (by simpa [Sg.keeps] using h) a.2 o.2 e
    exact ⟨by simp [outHeap,mainHeap,h1],h2⟩
  | .fnvr _ caps ::sg,h,a,o,e=>by
    obtain ⟨h1,h2⟩:=keeps_main sg (by simpa [Sg.keeps] using h) a.2 o.2 e
    exact ⟨by simp [outHeap,mainHeap,h1],h2⟩
  | .box _ ::sg,h,_,_,_=>by simp [Sg.keeps] at h
  | .fnv _ _ ::sg,h,_,_,_=>by simp [Sg.keeps] at h
  | .own _ ::sg,h,_,_,_=>by simp [Sg.keeps] at h
  | .ownx _ ::sg,h,_,_,_=>by simp [Sg.keeps] at h
theorem keeps_res {rs:List Rt} (h:rs.all Rt.keeps=true) (y:RtEl rs) (m:Nat):(resOfT rs y m).2=[]:=by
  unfold resOfT
  split
  · rfl
  · simp [Rt.keeps] at h
  · simp [Rt.keeps] at h
  · rfl
theorem keeps_heap {sg:List Sg} {rs:List Rt} (h:(sg.all Sg.keeps && rs.all Rt.keeps)=true) (a:SgEl sg) (y:RtEl rs×OutEl sg):(encOut sg rs a y).2=heapOf sg a:=by
  simp only [Bool.and_eq_true] at h
  obtain ⟨h1,h2⟩:=keeps_main sg h.1 a y.2 (nIds sg)
  have h3:=keeps_res h.2 y.1 (nIds sg)
  unfold encOut heapOf
  generalize resOfT rs y.1 (nIds sg)=q at h3
  obtain ⟨q1,q2⟩:=q
  simp only at h3
  rw [h3,h2,h1]
theorem orc_table {T:List Ent} (h:TabF P T) (L:List LEnt):OrcOk P (specO T L):=by
  intro f ags H
  show match callOf T f ags H with|⟨_,x,enc,keeps⟩=>∀ p,x=some p→Enters P f∧CallOk P f ags H (enc p)∧(keeps=true→(enc p).2=H)
  induction T with
  | nil=>intro p hp;cases hp
  | cons x T ih =>
    simp only [callOf]
    cases hb:Nat.beq x.n f with
    | false=>exact ih fun y hy=>h y (List.mem_cons_of_mem _ hy)
    | true =>
      have:=Nat.eq_of_beq_eq_true hb
      subst this
      simp only [cond_true,Ent.call]
      split
      · rename_i a ha
        obtain ⟨rfl,rfl⟩:=decIn_some ha
        intro p hp
        obtain ⟨g1,g2⟩:=h x (List.mem_cons_self ..) a p hp
        exact ⟨g1,g2,fun hk=>keeps_heap hk a p⟩
      · intro p hp;cases hp
def sizeF (P:Program) (f:FuncId):Nat:=match P.funcs[f]? with|some fn=>(fn.params.size+fn.nfree)+(fn.ntmps - (fn.params.size+fn.nfree))|none=>0
theorem dstIn_mono {k:Nat} {o:POp} (h:dstIn k o=true) (hk:k≤n):dstIn n o=true:=by
  unfold dstIn at *
  simp only [Bool.and_eq_true] at *
  refine ⟨?_,h.2⟩
  cases hd:o.dst with
  | none=>rfl
  | some d =>
    rw [hd] at h
    have:=Nat.le_of_ble_eq_true h.1
    exact Nat.ble_eq_true_of_le (by omega)
theorem funcOf_some {f:FuncId} {pf:PFunc} (h:funcOf P f=some pf):∃ fn c ex l,P.funcs[f]?=some fn∧fn.body=some c∧pf.np=fn.params.size+fn.nfree∧pf.res=fn.results.toList.map (resOf P)∧pf.body=(ann (rawOf P c 0).1 ex l).1 ∧
    Mt P (sizeF P f) c pf.body∧Enters P f:=by
  unfold funcOf at h
  split at h
  · rename_i fn hfn
    split at h
    · rename_i c hc
      simp only at h
      obtain ⟨h1,h⟩:=cond_some h
      simp only [Option.some.injEq] at h
      subst h
      simp only [Bool.and_eq_true,Bool.not_eq_true'] at h1
      refine ⟨fn,c,_,_,hfn,hc,rfl,rfl,rfl,mt_raw c 0 _ _ ?_,fn,hfn,by rw [hc];rfl,h1.2⟩
      refine List.all_eq_true.2 fun o ho=>dstIn_mono (List.all_eq_true.1 h1.1 o ho) ?_
      simp only [sizeF,hfn]
      omega
    · cases h
  · cases h
theorem get_params:∀ (vs:List PV) (k t:Nat),get (params k vs) t=if k≤t then (vs[t - k]?).getD .junk else .junk
  | [],k,t=>by simp [params,get]
  | v ::vs,k,t=>by
    simp only [params,get_cons,get_params vs (k+1) t]
    by_cases h:k=t
    · subst h;simp
    · by_cases h2:k+1≤t
      · have:t - k=(t - (k+1))+1:=by omega
        simp [h,h2,show k≤t by omega,this]
      · simp [h,h2,show ¬ k≤t by omega]
theorem run_ok {f:FuncId} {pf:PFunc} (hO:OrcOk P O) (hD:DrawnOk P O) (hf:funcOf P f=some pf) (hL:LoopsOk P (sizeF P f) H.length O f (subs pf.body)) {args:List PV} {K:PV→Heap→Option β} (h:runF P O f args H K=some r)
    {vs:Array Value} (hr:Rel S F w H) (hv:Args S F w args vs) :
    Calls P f vs w fun e w'=>∃ v p' H' S' F',e = .returned v∧K p' H'=some r∧Rel S' F' w' H'∧Val S' F' w' p' v∧Adv S F w H S' F' w' H':=by
  unfold runF at h
  rw [hf] at h
  simp only at h
  obtain ⟨h0,h⟩:=cond_some h
  have h0:=Nat.eq_of_beq_eq_true h0
  obtain ⟨fn,c,ex,l,hfn,hc,e1,e2,e3,hm,hE⟩:=funcOf_some hf
  obtain ⟨hsz,hvv⟩:=hv
  have hS:(vs++Array.replicate (fn.ntmps - vs.size) undef).size=sizeF P f:=by
    simp only [Array.size_append,Array.size_replicate,sizeF,hfn]
    rw [hsz,h0,e1]
  unfold funcBody at h
  simp only [fAs_eq,fH_eq] at h
  have hat:At S F w (params 0 args) { tmps:=vs++Array.replicate (fn.ntmps - vs.size) undef,defers:=[] } (sizeF P f):=by
    refine ⟨⟨fun k=>?_,fun _=>rfl,fun _=>rfl⟩,hS,rfl⟩
    rw [get_params]
    simp only [Nat.zero_le,if_true,Nat.sub_zero]
    cases hk:args[k]? with
    | none=>exact .junk _
    | some p =>
      have hlt:k<vs.size:=by rw [hsz];exact (List.getElem?_eq_some_iff.1 hk).1
      have:Act.eval { tmps:=vs++Array.replicate (fn.ntmps - vs.size) undef,defers:=[] } (.tmp k)=vs[k]:=by
        simp [Act.eval,Array.getElem?_append_left hlt,hlt]
      rw [this]
      exact hvv k p _ hk (Array.getElem?_eq_getElem hlt)
  refine calls_of_wp hfn hc (code_ok hO hD hL hm (fun x hx=>hx) hr hat h fun x E1 H1 S1 F1 w1 a1 hK hr1 ha1 hA=>?_)
  have key:∀ (K':PV→Heap→Option β),(resVals E1 H1 pf.res fun vs=>fin H.length pf.ro (oneOf vs) H1 K')=some r→∃ v,(results fn a1.tmps).run P w1 = .ok v w1∧∃ p' H' S' F',K' p' H'=some r∧Rel S' F' w1 H'∧Val S' F' w1 p' v∧Adv S F w H S' F' w1 H':=by
    intro K' hK
    rw [e2] at hK
    obtain ⟨ps,v,g1,g2,g3⟩:=results_ok (fn:=fn) hr1 (fun t=>ha1.opd.tmp t) hK
    obtain ⟨p',H',S',F',k1,k2,k3,k4⟩:=fin_ok hr1 g3 g1
    have k5:=hA.trans k4
    exact ⟨v,g2,p',H',S',F',k1,k2,k3,⟨k5.ff,fun b hb=>by
      refine k5.ss b (Nat.lt_of_not_le fun hle=>hb (unused_S hr (hget_len H b hle))) hb,k5.sz,k5.same,k5.wr,k5.fn,k5.st⟩⟩
  cases x with
  | exit id=>cases hK
  | normal =>
    obtain ⟨v,g1,p',H',S',F',g2⟩:=key K hK
    exact ⟨ha1.defers,v,g1,v,p',H',S',F',rfl,g2⟩
  | ret =>
    obtain ⟨v,g1,p',H',S',F',g2⟩:=key K hK
    exact ⟨ha1.defers,v,g1,v,p',H',S',F',rfl,g2⟩
def LEnt.enc (x:LEnt) (y:SgEl x.sgE ⊕ SgEl x.sgR):(Nat×List PV×Heap) ⊕ (List PV×Heap) :=
  match y with
  | .inl a => .inl (x.e,argsOf x.sgE a 0,heapOf x.sgE a)
  | .inr b => .inr (argsOf x.sgR b 0,heapOf x.sgR b)
def LEntOk (P:Program) (f:FuncId) (m:Nat) (x:LEnt) (g:Nat):Prop :=
  ∀ pf,funcOf P f=some pf→∀ lv lx ap fz nb pc c,PCode.loop x.i lv lx ap fz nb pc∈subs pf.body→Mt P (sizeF P f) c pc→∀ s y,x.L s=some y→LoopOk P (sizeF P f) m g lv lx c (argsOf x.sg s 0) (heapOf x.sg s) (x.enc y)
def TabL (P:Program) (f:FuncId) (m:Nat) (L:List LEnt):Prop:=∀ x∈L,∃ g,LEntOk P f m x g
theorem lent_susp {f:FuncId} {x:LEnt} {g:Nat} (h:LEntOk P f m x g) {pf:PFunc} (hf:funcOf P f=some pf) {lv:List Nat} {lx:List (Nat×List Nat)} {ap fz:List Nat} {nb:Bool} {pc:PCode} {c:Code} (hs:PCode.loop x.i lv lx ap fz nb pc∈subs pf.body) (hm:Mt P (sizeF P f) c pc)
    (vs:List PV) (H:Heap):match x.loop vs H with
    | ⟨_,_,z,encE,encR⟩=>∀ y,z=some y→LoopOk P (sizeF P f) m g lv lx c vs H (match y with|.inl a => .inl (encE a)|.inr b => .inr (encR b)):=by
  unfold LEnt.loop
  cases hd:decIn x.sg vs H with
  | some s =>
    obtain ⟨rfl,rfl⟩:=decIn_some hd
    intro y hy
    have:=h pf hf lv lx ap fz nb pc c hs hm s y hy
    cases y<;>exact this
  | none=>intro y hy;cases hy
theorem loops_table {f:FuncId} {T:List Ent} {L:List LEnt} (h:TabL P f m L) {pf:PFunc} (hf:funcOf P f=some pf):LoopsOk P (sizeF P f) m (specO T L) f (subs pf.body):=by
  intro i lv lx ap fz nb pc c hs hm
  show ∃ g,∀ vs H,match loopOf L i vs H with
    | ⟨_,_,x,encE,encR⟩=>∀ y,x=some y→LoopOk P (sizeF P f) m g lv lx c vs H (match y with|.inl a => .inl (encE a)|.inr b => .inr (encR b))
  induction L with
  | nil=>exact ⟨0,fun vs H y hy=>by cases hy⟩
  | cons x L ih =>
    cases hb:Nat.beq x.i i with
    | false =>
      obtain ⟨g,hg⟩:=ih fun y hy=>h y (List.mem_cons_of_mem _ hy)
      refine ⟨g,fun vs H=>?_⟩
      rw [show loopOf (x ::L) i vs H=loopOf L i vs H by simp only [loopOf,hb,cond_false]]
      exact hg vs H
    | true =>
      have:=Nat.eq_of_beq_eq_true hb
      subst this
      obtain ⟨g,hg⟩:=h x (List.mem_cons_self ..)
      refine ⟨g,fun vs H=>?_⟩
      rw [show loopOf (x ::L) x.i vs H=x.loop vs H by simp only [loopOf,hb,cond_true]]
      exact lent_susp hg hf hs hm vs H
theorem loop_step {f:FuncId} {T:List Ent} {L:List LEnt} (hD:∀ O,OrcOk P O→DrawnOk P O) (hT:TabF P T) (hL:TabL P f m L) {i e g:Nat} {sg sgE sgR:List Sg} {X X':SgEl sg→Option (SgEl sgE ⊕ SgEl sgR)}
    (hX:LEntOk P f m ⟨i,sg,e,sgE,sgR,X⟩ g) (hs:∀ s,walkL P T (⟨i,sg,e,sgE,sgR,X⟩ ::L) f m ⟨i,sg,e,sgE,sgR,X⟩ s=X' s):LEntOk P f m ⟨i,sg,e,sgE,sgR,X'⟩ (g+1):=by
  intro pf hf lv lx ap fz nb pc c hsub hm s y hy
  have hO:=orc_table hT (⟨i,sg,e,sgE,sgR,X⟩ ::L)
  have hL':TabL P f m (⟨i,sg,e,sgE,sgR,X⟩ ::L):=fun x hx=>by
    rcases List.mem_cons.1 hx with rfl|hx
    · exact ⟨g,hX⟩
    · exact hL x hx
  have h:=(hs s).trans hy
  unfold walkL runL at h
  rw [hf] at h
  obtain ⟨fn,c0,ex,l,hfn,hc,e1,e2,e3,hm0,hE⟩:=funcOf_some hf
  have hfind:findLoop pf.body i=some (.loop i lv lx ap fz nb pc):=by rw [e3] at hsub ⊢;exact findLoop_sub c0 ex l hsub
  simp only [hfind] at h
  obtain ⟨hlen,h⟩:=cond_some h
  intro S F w a hr ho hsz hdf
  have hself:LOk P (sizeF P f) m g (specO T (⟨i,sg,e,sgE,sgR,X⟩ ::L)) f i lv lx c:=by
    intro vs H
    show match loopOf (⟨i,sg,e,sgE,sgR,X⟩ ::L) i vs H with
      | ⟨_,_,x,encE,encR⟩=>∀ y,x=some y→LoopOk P (sizeF P f) m g lv lx c vs H (match y with|.inl a => .inl (encE a)|.inr b => .inr (encR b))
    rw [show loopOf (⟨i,sg,e,sgE,sgR,X⟩ ::L) i vs H=LEnt.loop ⟨i,sg,e,sgE,sgR,X⟩ vs H by simp only [loopOf,show Nat.beq i i=true from Nat.beq_refl i,cond_true]]
    exact lent_susp hX hf hsub hm vs H
  refine loopBody_ok hO (hD _ hO) (loops_table (T:=T) hL' hf) hm (sub_subs pf.body hsub) hself h hr ho hsz hdf fun x outs H' S' F' w' a' hx hK g1 g2 g3 g4 g5=>?_
  cases x with
  | normal=>exact absurd rfl hx
  | exit j =>
    simp only at hK
    obtain ⟨hj,hK⟩:=cond_some hK
    have:=Nat.eq_of_beq_eq_true hj
    subst this
    cases hd:decIn sgE outs H' with
    | none=>rw [hd] at hK;cases hK
    | some b =>
      rw [hd] at hK
      simp only [Option.map_some,Option.some.injEq] at hK
      subst hK
      obtain ⟨rfl,rfl⟩:=decIn_some hd
      exact ⟨rfl,S',F',g1,g2,g3,g4,g5⟩
  | ret =>
    simp only at hK
    cases hd:decIn sgR outs H' with
    | none=>rw [hd] at hK;cases hK
    | some b =>
      rw [hd] at hK
      simp only [Option.map_some,Option.some.injEq] at hK
      subst hK
      obtain ⟨rfl,rfl⟩:=decIn_some hd
      exact ⟨rfl,S',F',g1,g2,g3,g4,g5⟩
def nSl:List Sg→Nat
  | []=>0
  | .tree _ ::r=>nSl r
  | .box cs ::r=>nSl r+1+nOwn cs
  | .fnv _ caps ::r=>nSl r+caps.length
  | .fnvr _ caps ::r=>nSl r+caps.length
  | .nl _ ::r=>nSl r
  | .al _ ::r=>nSl r
  | _ ::r=>nSl r+1
theorem nSl_eq:∀ (sg:List Sg) (a:SgEl sg),(extraHeap sg a).length+nIds sg=nSl sg
  | [],_=>rfl
  | .tree _ ::r,a=>nSl_eq r a.2
  | .nl _ ::r,a=>nSl_eq r a.2
  | .al _ ::r,a=>nSl_eq r a.2
  | .box cs ::r,a=>by have:=nSl_eq r a.2;simp [extraHeap,nIds,nSl,csExtra_length];omega
  | .boxr _ ::r,a=>by have:=nSl_eq r a.2;simp [extraHeap,nIds,nSl];omega
  | .fnv _ caps ::r,a=>by have:=nSl_eq r a.2;simp [extraHeap,nIds,nSl];omega
  | .fnvr _ caps ::r,a=>by have:=nSl_eq r a.2;simp [extraHeap,nIds,nSl];omega
  | .own _ ::r,a=>by have:=nSl_eq r a.2;simp [extraHeap,nIds,nSl];omega
  | .ownx _ ::r,a=>by have:=nSl_eq r a.2;simp [extraHeap,nIds,nSl];omega
theorem heapOf_length (sg:List Sg) (a:SgEl sg):(heapOf sg a).length=nSl sg:=by
  rw [← nSl_eq sg a];simp [heapOf,mainHeap_length];omega
theorem ent_ok {f:FuncId} {T:List Ent} {L:List LEnt} (hD:∀ O,OrcOk P O→DrawnOk P O) (hT:TabF P T) {sg:List Sg} {rs:List Rt} (hL:TabL P f (nSl sg) L) {X:SgEl sg→Option (RtEl rs×OutEl sg)}
    (h:∀ x,walkF P T L f sg rs x=X x):EntOk P ⟨f,sg,rs,X⟩:=by
  intro x yy hy
  obtain ⟨y,o⟩:=yy
  have h:=(h x).trans hy
  have hO:=orc_table hT L
  unfold walkF at h
  have hf:∃ pf,funcOf P f=some pf:=by
    unfold runF at h
    cases e:funcOf P f with
    | none=>rw [e] at h;cases h
    | some pf=>exact ⟨pf,rfl⟩
  obtain ⟨pf,hf⟩:=hf
  obtain ⟨_,_,_,_,_,_,_,_,_,_,hE⟩:=funcOf_some hf
  refine ⟨hE,fun S F w vs hr hv=>(run_ok hO (hD _ hO) hf (loops_table (T:=T) (by rw [heapOf_length];exact hL) hf) h hr hv).mono ?_⟩
  rintro e w' ⟨v,p',H',S',F',rfl,hK,g1,g2,g3⟩
  obtain ⟨o',H2,k1,k2⟩:=decOut_some hK
  obtain ⟨y',k3,k4⟩:=decRes_some k1
  simp only [Option.some.injEq,Prod.mk.injEq] at k3
  obtain ⟨rfl,rfl⟩:=k3
  have e:encOut sg rs x (y',o')=(p',H'):=by
    unfold encOut
    simp only
    rw [← k4]
    simp only
    rw [← k2 x]
  refine ⟨v,S',F',rfl,?_⟩
  rw [show encOut (⟨f,sg,rs,X⟩:Ent).sg (⟨f,sg,rs,X⟩:Ent).rs x (y',o')=(p',H') from e]
  exact ⟨g1,g2,g3⟩
end
end Go.Proofs.YtdcphpbimeoioaaGreatDoorE
end
section
set_option linter.unusedSectionVars false
namespace Go.Proofs.YtdcphpbimeoioaaGreatDoorE
open Go
set_option linter.unusedVariables false
set_option linter.unusedSimpArgs false
variable [Dm]
def upd (H:Heap):List (Nat×Slot)→Heap
  | []=>H
  | (b,s) ::r=>upd (hset H b s) r
def Agr (A:List Nat) (H H':Heap):Prop:=∀ b∈A,hget H' b=hget H b
def Loc (A W:List Nat) (H:Heap) (c:{β:Type}→Heap→(PV→Heap→Option β)→Option β):Prop :=
  ∃ v δ,(∀ x∈δ,x.1∈W)∧∀ H',Agr A H H'→∀ {β:Type} (K:PV→Heap→Option β),c H' K=K v (upd H' δ)
section
variable {β:Type} {P:Program} {H H':Heap} {E E':Env} {O:Orc} {nb:Nat} {r:β} {A W:List Nat}
theorem hget_upd_ne:∀ (δ:List (Nat×Slot)) (H:Heap) (b:Nat),(∀ x∈δ,x.1≠b)→hget (upd H δ) b=hget H b
  | [],H,b,_=>rfl
  | (c,s) ::δ,H,b,h=>by
    rw [upd,hget_upd_ne δ _ b (fun x hx=>h x (List.mem_cons_of_mem _ hx)),hget_hset_ne _ _ _ _ (fun e=>h (c,s) (List.mem_cons_self ..) e.symm)]
theorem upd_append:∀ (δ δ':List (Nat×Slot)) (H:Heap),upd H (δ++δ')=upd (upd H δ) δ'
  | [],δ',H=>rfl
  | (b,s) ::δ,δ',H=>upd_append δ δ' _
theorem upd_hset:∀ (δ:List (Nat×Slot)) (H:Heap) (b:Nat) (s:Slot),(∀ x∈δ,x.1≠b)→upd (hset H b s) δ=hset (upd H δ) b s
  | [],H,b,s,_=>rfl
  | (c,t) ::δ,H,b,s,h=>by
    rw [upd,upd,← upd_hset δ _ b s (fun x hx=>h x (List.mem_cons_of_mem _ hx)),hset_comm _ _ _ _ _ (fun e=>h (c,t) (List.mem_cons_self ..) e.symm)]
theorem upd_comm:∀ (δ δ':List (Nat×Slot)) (H:Heap),(∀ x∈δ,∀ y∈δ',x.1≠y.1)→upd (upd H δ) δ'=upd (upd H δ') δ
  | [],δ',H,_=>rfl
  | (b,s) ::δ,δ',H,h=>by
    rw [upd,upd_comm δ δ' _ (fun x hx=>h x (List.mem_cons_of_mem _ hx)),upd,upd_hset δ' H b s (fun y hy=>(h (b,s) (List.mem_cons_self ..) y hy).symm)]
theorem Agr.mono {A':List Nat} (h:Agr A H H') (hA:∀ b∈A',b∈A):Agr A' H H':=fun b hb=>h b (hA b hb)
theorem Agr.hset (h:Agr A H H') (b:Nat) (s:Slot):Agr A (hset H b s) (hset H' b s):=fun c hc=>by
  by_cases e:c=b
  · subst e;rw [hget_hset_same,hget_hset_same]
  · rw [hget_hset_ne _ _ _ _ e,hget_hset_ne _ _ _ _ e];exact h c hc
theorem frz_upd:∀ (ids:List Nat) (H:Heap),∃ δ,(∀ x∈δ,x.1∈ids)∧∀ H',Agr ids H H'→frz H' ids=upd H' δ
  | [],H=>⟨[],by simp,fun _ _=>rfl⟩
  | b ::ids,H=>by
    have key:∀ s,(∀ H',hget H' b=hget H b→frz H' (b ::ids)=frz (hset H' b s) ids)→∃ δ,(∀ x∈δ,x.1∈b ::ids)∧∀ H',Agr (b ::ids) H H'→frz H' (b ::ids)=upd H' δ:=by
      intro s hs
      obtain ⟨δ,h1,h2⟩:=frz_upd ids (hset H b s)
      refine ⟨(b,s) ::δ,fun y hy=>?_,fun H' hA=>?_⟩
      · rcases List.mem_cons.1 hy with rfl|hy
        · exact List.mem_cons_self ..
        · exact List.mem_cons_of_mem _ (h1 y hy)
      · rw [hs H' (hA b (List.mem_cons_self ..)),upd]
        exact h2 _ ((hA.mono fun c hc=>List.mem_cons_of_mem _ hc).hset b s)
    have skip:(∀ H',hget H' b=hget H b→frz H' (b ::ids)=frz H' ids)→∃ δ,(∀ x∈δ,x.1∈b ::ids)∧∀ H',Agr (b ::ids) H H'→frz H' (b ::ids)=upd H' δ:=by
      intro hs
      obtain ⟨δ,h1,h2⟩:=frz_upd ids H
      exact ⟨δ,fun y hy=>List.mem_cons_of_mem _ (h1 y hy),fun H' hA=>by rw [hs H' (hA b (List.mem_cons_self ..))];exact h2 _ (hA.mono fun c hc=>List.mem_cons_of_mem _ hc)⟩
    cases hg:hget H b with
    | unused=>exact skip fun H' e=>by simp only [frz,e.trans hg]
    | dead=>exact skip fun H' e=>by simp only [frz,e.trans hg]
    | live x =>
      cases x with
      | box cs w=>exact key (.live (.box cs false)) fun H' e=>by simp only [frz,e.trans hg]
      | arr t xs w=>exact key (.live (.arr t xs false)) fun H' e=>by simp only [frz,e.trans hg]
theorem cond_bind {α:Type} (b:Bool) (x:Option α) (K:α→Option β):(cond b x none).bind K=cond b (x.bind K) none:=by cases b<;>rfl
theorem cond_bind' {α:Type} (b:Bool) (x:Option α) (K:α→Option β):(cond b none x).bind K=cond b none (x.bind K):=by cases b<;>rfl
theorem optK_bind {α γ:Type} (x:Option α) (f:α→Option γ) (K:γ→Option β):(optK x f).bind K=optK x fun a=>(f a).bind K:=by cases x<;>rfl
theorem fit_nat (n:Nat) (cs:List PV) (K:List PV→Option β):fit n cs K=(fit n cs some).bind K:=by unfold fit;rw [cond_bind];rfl
theorem cellsK_nat (v:PV) (K:List PV→Option β):cellsK v K=(cellsK v some).bind K:=by
  unfold cellsK
  split
  · rfl
  · rw [cond_bind];rfl
theorem part_nat (k:Option Nat) (j:Nat) (row:List PV) (K:PV→Option β):part k j row K=(part k j row some).bind K:=by
  unfold part
  cases k with
  | none=>simp only;cases nth row j<;>rfl
  | some n=>simp only;rw [fit_nat,fit_nat n _ fun cs=>some (PV.agg cs)];cases fit n ((row.drop j).take n) some<;>rfl
theorem decK_nat:∀ (t:Ty) (cs:List PV) {β:Type} (K:El t→List PV→Option β),decK t cs K=(decK t cs fun x r=>some (x,r)).bind fun p=>K p.1 p.2
  | .int k,cs,β,K=>by
    cases cs with
    | nil=>rfl
    | cons c cs=>cases c<;>first|rfl|(simp only [decK];rw [cond_bind];rfl)
  | .bool,cs,β,K=>by
    cases cs with
    | nil=>rfl
    | cons c cs=>cases c<;>rfl
  | .str,cs,β,K=>by
    cases cs with
    | nil=>rfl
    | cons c cs=>cases c<;>rfl
  | .slice t,cs,β,K=>by
    cases cs with
    | nil=>rfl
    | cons c cs=>cases c<;>first|rfl|(simp only [decK];rw [optK_bind];rfl)
  | .unit,cs,β,K=>by cases cs<;>rfl
  | .none,cs,β,K=>by cases cs<;>rfl
  | .pair a b,cs,β,K=>by
    simp only [decK]
    rw [decK_nat a cs,decK_nat a cs fun x r=>decK b r fun y r'=>some ((x,y),r')]
    cases decK a cs fun x r=>some (x,r) with
    | none=>rfl
    | some p =>
      simp only [Option.bind_some]
      rw [decK_nat b p.2,decK_nat b p.2 fun y r'=>some ((p.1,y),r')]
      cases decK b p.2 fun x r=>some (x,r)<;>rfl
end
end Go.Proofs.YtdcphpbimeoioaaGreatDoorE
end
section
set_option linter.unusedSectionVars false
namespace Go.Proofs.YtdcphpbimeoioaaGreatDoorE
open Go
set_option linter.unusedVariables false
set_option linter.unusedSimpArgs false
variable [Dm]
section
variable {β:Type} {P:Program} {H H':Heap} {E E':Env} {O:Orc} {nb:Nat} {r:β} {A W:List Nat}
theorem bind_some {α γ:Type} {x:Option α} {K:α→Option γ} {r:γ} (h:x.bind K=some r):∃ a,x=some a∧K a=some r:=by
  cases x with
  | none=>cases h
  | some a=>exact ⟨a,rfl,h⟩
theorem intOp_nat (op:BinOp) (k:IntKind) (a b:Int) (K:PV→Option β):intOp op k a b K=(intOp op k a b some).bind K:=by
  cases op<;>simp only [intOp]<;>first|rfl|(rw [cond_bind'];rfl)
theorem strOp_nat (op:BinOp) (a b:ByteArray) (K:PV→Option β):strOp op a b K=(strOp op a b some).bind K:=by
  cases op<;>simp only [strOp]<;>first|rfl|(rw [cond_bind];rfl)
theorem binOp_nat (op:BinOp) (x y:PV) (K:PV→Option β):binOp op x y K=(binOp op x y some).bind K:=by
  unfold binOp
  split
  · split
    · rw [cond_bind'];rfl
    · rw [cond_bind'];rfl
    · rw [cond_bind,intOp_nat]
  · exact strOp_nat _ _ _ _
  · rfl
theorem unOp_nat (op:UnOp) (x:PV) (K:PV→Option β):unOp op x K=(unOp op x some).bind K:=by
  unfold unOp;split<;>rfl
theorem bound_bind {γ:Type} (v:Option PV) (d:Int) (f:Int→Option γ) (K:γ→Option β):(bound v d f).bind K=bound v d fun a=>(f a).bind K:=by
  cases v with
  | none=>rfl
  | some v=>cases v<;>rfl
theorem fit_bind {γ:Type} (n:Nat) (cs:List PV) (f:List PV→Option γ) (K:γ→Option β):(fit n cs f).bind K=fit n cs fun a=>(f a).bind K:=by unfold fit;rw [cond_bind]
theorem cellsK_bind {γ:Type} (v:PV) (f:List PV→Option γ) (K:γ→Option β):(cellsK v f).bind K=cellsK v fun a=>(f a).bind K:=by
  unfold cellsK
  split
  · rfl
  · rw [cond_bind]
theorem eqCells_bind:∀ (x y:List PV) {γ β:Type} (f:Bool→Option γ) (K:γ→Option β),(eqCells x y f).bind K=eqCells x y fun b=>(f b).bind K
  | [],y,γ,β,f,K=>by cases y<;>rfl
  | c ::x,[],γ,β,f,K=>by cases c<;>rfl
  | c ::x,d ::y,γ,β,f,K=>by cases c<;>cases d<;>simp only [eqCells]<;>first|rfl|rw [cond_bind,eqCells_bind x y]|rw [eqCells_bind x y]
theorem fillR_bind:∀ (ps:List (Nat×Nat×PV)) (cs:List PV) {γ β:Type} (f:List PV→Option γ) (K:γ→Option β),(fillR cs ps f).bind K=fillR cs ps fun b=>(f b).bind K
  | [],cs,γ,β,f,K=>rfl
  | (off,n,v) ::ps,cs,γ,β,f,K=>by simp only [fillR,cellsK_bind,fit_bind,cond_bind,fillR_bind ps]
theorem folds_bind (mn:Bool):∀ (l:List PV) (x:PV) {γ β:Type} (f:PV→Option γ) (K:γ→Option β),(folds mn x l f).bind K=folds mn x l fun b=>(f b).bind K
  | [],x,γ,β,f,K=>by cases x<;>rfl
  | y ::l,x,γ,β,f,K=>by cases x<;>cases y<;>simp only [folds]<;>first|rfl|exact folds_bind mn l _ f K
theorem sliceOp_bind {γ:Type} (sz:Nat) (x:PV) (lo hi:Option PV) (f:PV→Option γ) (K:γ→Option β):(sliceOp sz x lo hi f).bind K=sliceOp sz x lo hi fun b=>(f b).bind K:=by
  unfold sliceOp
  split<;>simp only [bound_bind,cond_bind,Option.bind_none]
theorem decK_bind (t:Ty) (cs:List PV) {γ:Type} (f:El t→List PV→Option γ) (K:γ→Option β):(decK t cs f).bind K=decK t cs fun a b=>(f a b).bind K:=by
  rw [decK_nat t cs f,decK_nat t cs fun a b=>(f a b).bind K,Option.bind_assoc]
theorem elsFill_bind:∀ (ps:List (Nat×PV)) (t:Ty) (xs:List (El t)) {γ β:Type} (f:List (El t)→Option γ) (K:γ→Option β),(elsFill H t xs ps f).bind K=elsFill H t xs ps fun b=>(f b).bind K
  | [],t,xs,γ,β,f,K=>rfl
  | (i,v) ::ps,t,xs,γ,β,f,K=>by
    simp only [elsFill,cellsK_bind,decK_bind]
    congr
    funext cs
    congr
    funext y rest
    cases rest with
    | nil=>simp only [cond_bind,elsFill_bind ps]
    | cons _ _=>rfl
theorem loc_val {c:{β:Type}→Heap→(PV→Heap→Option β)→Option β} (v:PV) (h:∀ H',Agr A H H'→∀ {β:Type} (K:PV→Heap→Option β),c H' K=K v H'):Loc A W H c :=
  ⟨v,[],by simp,fun H' hA β K=>h H' hA K⟩
theorem loc_nat {c:{β:Type}→(PV→Option β)→Option β} (hc:∀ {γ β:Type} (f:PV→Option γ) (K:γ→Option β),(c f).bind K=c fun b=>(f b).bind K) {K:PV→Option β} (h:c K=some r):∃ v,∀ {β:Type} (K:PV→Option β),c K=K v:=by
  have h1:=hc some K
  simp only [Option.bind_some] at h1
  rw [h] at h1
  obtain ⟨v,hv,_⟩:=bind_some h1
  refine ⟨v,fun {β} K=>?_⟩
  have h2:=hc some K
  simp only [Option.bind_some] at h2
  rw [← h2,hv];rfl
end
end Go.Proofs.YtdcphpbimeoioaaGreatDoorE
end
section
set_option linter.unusedSectionVars false
namespace Go.Proofs.YtdcphpbimeoioaaGreatDoorE
open Go
set_option linter.unusedVariables false
set_option linter.unusedSimpArgs false
variable [Dm]
section
variable {β:Type} {P:Program} {H H':Heap} {E E':Env} {O:Orc} {nb:Nat} {r:β} {A W:List Nat}
theorem live_eq {b:Nat} {x:Blk} (h:hget H b = .live x) (K:Blk→Option β):live H b K=K x:=by simp [live,h]
theorem fresh_eq (h:hget H nb = .unused) (x:Option β):fresh H nb x=x:=by simp [fresh,h]
theorem cell1_agr {c:PV} (h:∀ b∈ownC c,hget H' b=hget H b):cell1 H' c=cell1 H c:=by
  cases c<;>try rfl
  rename_i b
  simp only [cell1,h b (by simp [ownC])]
theorem snapV_agr {v:PV} (h:∀ b∈ownIds v,hget H' b=hget H b):snapV H' v=snapV H v:=by
  cases v with
  | agg cs =>
    simp only [snapV]
    congr 1
    exact List.map_congr_left fun c hc=>cell1_agr fun b hb=>h b (List.mem_flatMap.2 ⟨c,hc,hb⟩)
  | tup vs =>
    simp only [snapV]
    congr 1
    refine List.map_congr_left fun v hv=>?_
    have hm:∀ b∈(match v with|.agg cs=>cs.flatMap ownC|v=>ownC v),hget H' b=hget H b:=fun b hb=>h b (List.mem_flatMap.2 ⟨v,hv,hb⟩)
    cases v with
    | agg cs =>
      simp only
      congr 1
      exact List.map_congr_left fun c hc=>cell1_agr fun b hb=>hm b (List.mem_flatMap.2 ⟨c,hc,hb⟩)
    | own b=>exact cell1_agr (c := .own b) fun c hc=>hm c hc
    | _=>rfl
  | own b=>exact cell1_agr (c := .own b) fun c hc=>h c hc
  | _=>rfl
theorem elsOf_loc {u:Ty} {x:PV} {K:List (El u)→Option β} (h:elsOf H u x K=some r):∃ xs,K xs=some r∧∀ H',(∀ b∈footV x,hget H' b=hget H b)→∀ {β:Type} (K:List (El u)→Option β),elsOf H' u x K=K xs:=by
  unfold elsOf at h
  split at h
  · obtain ⟨xs,h1,h2⟩:=optK_some h
    exact ⟨xs,h2,fun H' _ β K=>by simp [elsOf,h1,optK]⟩
  · obtain ⟨xs,h1,h2⟩:=optK_some h
    exact ⟨xs,h2,fun H' _ β K=>by simp [elsOf,h1,optK]⟩
  · rename_i b
    obtain ⟨y,h0,h⟩:=live_some h
    cases y with
    | box=>cases h
    | arr t xs w =>
      obtain ⟨xs,h1,h2⟩:=optK_some h
      exact ⟨xs,h2,fun H' hA β K=>by
        have:=(hA b (by simp [footV])).trans h0
        simp [elsOf,live_eq this,h1,optK]⟩
  · rename_i b lo n
    obtain ⟨y,h0,h⟩:=live_some h
    cases y with
    | box=>cases h
    | arr t xs w =>
      obtain ⟨xs,h1,h2⟩:=optK_some h
      exact ⟨xs,h2,fun H' hA β K=>by
        have:=(hA b (by simp [footV])).trans h0
        simp [elsOf,live_eq this,h1,optK]⟩
  · obtain ⟨xs,h1,h2⟩:=optK_some h
    exact ⟨xs,h2,fun H' _ β K=>by simp [elsOf,h1,optK]⟩
  · cases h
theorem lenOf_loc {x:PV} {K:Int→Option β} (h:lenOf H x K=some r):∃ n,K n=some r∧∀ H',(∀ b∈footV x,hget H' b=hget H b)→∀ {β:Type} (K:Int→Option β),lenOf H' x K=K n:=by
  unfold lenOf at h
  split at h
  · exact ⟨_,h,fun H' _ β K=>rfl⟩
  · exact ⟨_,h,fun H' _ β K=>rfl⟩
  · exact ⟨_,h,fun H' _ β K=>rfl⟩
  · rename_i b
    obtain ⟨y,h0,h⟩:=live_some h
    cases y with
    | box=>cases h
    | arr t xs w =>
      exact ⟨_,h,fun H' hA β K=>by
        have:=(hA b (by simp [footV])).trans h0
        simp [lenOf,live_eq this]⟩
  · cases h
theorem elsFill_agr:∀ (ps:List (Nat×PV)) (t:Ty) (xs:List (El t)) {β:Type} (K:List (El t)→Option β),(∀ p∈ps,∀ b∈ownIds p.2,hget H' b=hget H b)→elsFill H' t xs ps K=elsFill H t xs ps K
  | [],t,xs,β,K,h=>rfl
  | (i,v) ::ps,t,xs,β,K,h=>by
    simp only [elsFill,snapV_agr (h (i,v) (List.mem_cons_self ..))]
    congr
    funext cs
    congr
    funext y rest
    cases rest with
    | nil=>simp only;rw [elsFill_agr ps t _ K fun p hp=>h p (List.mem_cons_of_mem _ hp)]
    | cons _ _=>rfl
theorem load_loc {k:Option Nat} {a:PV} {K:PV→Heap→Option β} (h:loadK H k a K=some r) (hA:∀ b∈footV a,b∈A):Loc A W H fun H K=>loadK H k a K:=by
  unfold loadK at h
  split at h
  · rename_i b i j
    obtain ⟨x,hx,h⟩:=live_some h
    cases x with
    | box row w =>
      obtain ⟨h0,h⟩:=cond_some h
      obtain ⟨v,hv⟩:=loc_nat (c:=fun {β} K=>part (β:=β) k j row K) (fun f K=>(by
        rw [part_nat k j row f,part_nat k j row fun b=>(f b).bind K,Option.bind_assoc])) h
      exact loc_val v fun H' hH β K=>by
        have:=(hH b (hA b (by simp [footV]))).trans hx
        simp only [loadK,live_eq this,h0,cond_true]
        exact hv fun v=>K v H'
    | arr t xs w =>
      obtain ⟨x,hx2,h⟩:=bindN_some h
      obtain ⟨v,hv⟩:=loc_nat (c:=fun {β} K=>part (β:=β) k j (cellsOf t x) K) (fun f K=>(by
        rw [part_nat k j _ f,part_nat k j _ fun b=>(f b).bind K,Option.bind_assoc])) h
      exact loc_val v fun H' hH β K=>by
        have:=(hH b (hA b (by simp [footV]))).trans hx
        simp only [loadK,live_eq this,hx2,bindN,Option.bind_some]
        exact hv fun v=>K v H'
  · rename_i cs
    obtain ⟨v,hv⟩:=loc_nat (c:=fun {β} K=>part (β:=β) k 0 cs K) (fun f K=>(by
      rw [part_nat k 0 cs f,part_nat k 0 cs fun b=>(f b).bind K,Option.bind_assoc])) h
    exact loc_val v fun H' hH β K=>hv fun v=>K v H'
  · cases h
theorem fadr_loc {off:Nat} {a:PV} {K:PV→Heap→Option β} (h:fadrK H off a K=some r) (hA:∀ b∈footV a,b∈A):Loc A W H fun H K=>fadrK H off a K:=by
  unfold fadrK at h
  split at h
  · rename_i b i j
    obtain ⟨x,hx,h⟩:=live_some h
    exact loc_val _ fun H' hH β K=>by
      have:=(hH b (hA b (by simp [footV]))).trans hx
      simp only [fadrK,live_eq this];rfl
  · exact loc_val _ fun H' hH β K=>rfl
  · cases h
theorem nilck_loc {a:PV} {K:PV→Heap→Option β} (h:nilckK H a K=some r) (hA:∀ b∈footV a,b∈A):Loc A W H fun H K=>nilckK H a K:=by
  unfold nilckK at h
  split at h
  · rename_i b i j
    obtain ⟨x,hx,h⟩:=live_some h
    exact loc_val _ fun H' hH β K=>by
      have:=(hH b (hA b (by simp [footV]))).trans hx
      simp only [nilckK,live_eq this];rfl
  · exact loc_val _ fun H' hH β K=>rfl
  · exact loc_val _ fun H' hH β K=>rfl
  · cases h
theorem iadr_loc {sz:Nat} {a:PV} {i:Int} {K:PV→Heap→Option β} (h:iadrK H sz a i K=some r) (hA:∀ b∈footV a,b∈A):Loc A W H fun H K=>iadrK H sz a i K:=by
  unfold iadrK at h
  split at h
  · obtain ⟨h0,h⟩:=cond_some h
    obtain ⟨h1,h⟩:=cond_some h
    obtain ⟨x,h2,h⟩:=bindN_some h
    exact loc_val _ fun H' hH β K=>by simp only [iadrK,h0,h1,h2,bindN,cond_true,Option.bind_some];rfl
  · rename_i b
    obtain ⟨x,hx,h⟩:=live_some h
    cases x with
    | box=>cases h
    | arr t xs w =>
      obtain ⟨h0,h⟩:=cond_some h
      obtain ⟨h1,h⟩:=cond_some h
      obtain ⟨x,h2,h⟩:=bindN_some h
      exact loc_val _ fun H' hH β K=>by
        have:=(hH b (hA b (by simp [footV]))).trans hx
        simp only [iadrK,live_eq this,h0,h1,h2,bindN,cond_true,Option.bind_some];rfl
  · cases h
theorem slice_loc {sz:Nat} {x:PV} {lo hi:Option PV} {K:PV→Heap→Option β} (h:sliceK H sz x lo hi K=some r) (hA:∀ b∈footV x,b∈A) (hW:∀ b∈footV x,b∈W):Loc A W H fun H K=>sliceK H sz x lo hi K:=by
  unfold sliceK at h
  split at h
  · rename_i b
    obtain ⟨v,hv⟩:=loc_nat (c:=fun {β} K=>sliceOp (β:=β) sz (cell1 H (.own b)) lo hi K) (fun f K=>sliceOp_bind _ _ _ _ f K) h
    obtain ⟨δ,h1,h2⟩:=frz_upd [b] H
    refine ⟨v,δ,fun x hx=>hW _ (by have:=h1 x hx;simpa [footV] using this),fun H' hH β K=>?_⟩
    have e:cell1 H' (.own b)=cell1 H (.own b):=cell1_agr fun c hc=>hH c (hA c (by simpa [ownC,footV] using hc))
    simp only [sliceK,e,fH_eq]
    rw [hv fun v=>K v (frz H' [b])]
    rw [h2 H' (hH.mono fun c hc=>hA c (by simpa [footV] using hc))]
  · rename_i t
    obtain ⟨v,hv⟩:=loc_nat (c:=fun {β} K=>sliceOp (β:=β) sz (.lst t []) lo hi K) (fun f K=>sliceOp_bind _ _ _ _ f K) h
    exact loc_val v fun H' hH β K=>hv fun v=>K v H'
  · rename_i n1 n2
    obtain ⟨v,hv⟩:=loc_nat (c:=fun {β} K=>sliceOp (β:=β) sz x lo hi K) (fun f K=>sliceOp_bind _ _ _ _ f K) h
    exact loc_val v fun H' hH β K=>by
      unfold sliceK
      split
      · exact absurd rfl (n1 _)
      · exact absurd rfl (n2 _)
      · exact hv fun v=>K v H'
theorem sliceW_loc {sz:Nat} {x:PV} {lo hi:Option PV} {K:PV→Heap→Option β} (h:sliceW H sz x lo hi K=some r) (hA:∀ b∈footV x,b∈A):Loc A W H fun H K=>sliceW H sz x lo hi K:=by
  by_cases ho:∃ b,x = .own b
  · obtain ⟨b,rfl⟩:=ho
    unfold sliceW at h
    obtain ⟨y,hy,h⟩:=live_some h
    cases y with
    | box=>cases h
    | arr t xs w =>
      obtain ⟨v,hv⟩:=loc_nat (c:=fun {β} (K:PV→Option β)=>cond (Nat.beq t.size sz) (bound lo 0 fun l=>bound hi xs.length fun h=>cond (ile 0 l) (cond (ile l h) (cond (ile h xs.length) (K (.view b l.toNat (h.toNat - l.toNat))) none) none) none) none)
        (fun f K=>by simp only [bound_bind,cond_bind,Option.bind_none]) (K:=fun v=>K v H) h
      exact loc_val v fun H' hH β K=>by
        have:=(hH b (hA b (by simp [footV]))).trans hy
        unfold sliceW
        simp only
        rw [live_eq this]
        exact hv fun v=>K v H'
  · have e:∀ (H:Heap) {β:Type} (K:PV→Heap→Option β),sliceW H sz x lo hi K=sliceK H sz x lo hi K:=by
      intro H β K
      unfold sliceW
      split
      · exact absurd ⟨_,rfl⟩ ho
      · rfl
    rw [e] at h
    have hW:∀ b∈footV x,b∈W:=by
      intro b hb
      cases x with
      | own b'=>exact absurd ⟨_,rfl⟩ ho
      | ptr b' i j=>simp [sliceK,sliceOp] at h
      | view b' l n=>simp [sliceK,sliceOp] at h
      | _=>simp [footV] at hb
    have:=slice_loc h hA hW
    simpa only [e] using this
end
end Go.Proofs.YtdcphpbimeoioaaGreatDoorE
end
