/- A part of the proof: ZXGC, ZXGL, ZXShelf, ZXGL2, ZXGX, ZXGE1, ZXGE2, ZXHD, ZXGE3, ZXGT, ZXGP1, ZXHE4, ZXGQ1, ZXGE7. No condition. -/
import Derived.Test.YtdcphpbimeoioaaGreatDoorBQ1
import Derived.Test.YtdcphpbimeoioaaGreatDoorProg
import Derived.Deep.DeepHandedRow
import Derived.Lib.LaidTab
import Derived.SevenTiedAt
import Derived.Shelf.Strings.Builder1
import Derived.Shelf.Strings.Builder2
import Derived.Shelf.Strings.OnBuilder
import Derived.Shelf.Strings.Trim
import Derived.Shelf.Small.Utf8
import Derived.Shelf.Small.Bits
import Derived.Shelf.Small.Strs
import Derived.Shelf.Small.Wraps
import Derived.Shelf.Strconv.Itoa0
import Derived.Shelf.Strconv.Itoa1
import Derived.Shelf.LaysM
import Derived.Shelf.Strconv.Itoa2
import Derived.Shelf.Strconv.Itoa3
import Derived.Shelf.Strconv.Itoa4
import Derived.Shelf.Strconv.ParseIntEmpty
import Derived.Shelf.Strconv.Clone
import Derived.Shelf.Strconv.SyntaxError
import Derived.Shelf.LaysC
import Derived.Shelf.Strconv.ToError
import Derived.Shelf.Strconv.Lower
import Derived.Shelf.Strconv.ParseUint10
import Derived.Shelf.Strconv.ParseUint10Empty
import Derived.Shelf.Strconv.ParseUint10Any
import Derived.Shelf.Strconv.ParseInt10
import Derived.Shelf.Strconv.RangeError
import Derived.Shelf.Strconv.ToErrorRange
import Derived.Shelf.Strconv.ParseUintEmpty
import Derived.Shelf.Strconv.ParseUint10b64
import Derived.Shelf.Strconv.ParseUint10b32
import Derived.Shelf.Strconv.ParseUint10b16
import Derived.Shelf.Strconv.ParseUint10b8
import Derived.Shelf.Strconv.ParseUint10At
import Derived.Shelf.Strconv.ParseInt10At64
import Derived.Shelf.Strconv.ParseInt10At32
import Derived.Shelf.Strconv.ParseInt10At16
import Derived.Shelf.Strconv.ParseInt10At8
import Derived.Shelf.Strconv.ParseInt10All
import Derived.Shelf.Strconv.ParseIntPublic10
import Derived.Shelf.Strings.Search1
import Derived.Shelf.Strings.Search2
import Derived.Shelf.Strings.Cut
import Derived.Shelf.Strings.Shaped
import Derived.Shelf.Sort.Plain
import Derived.Shelf.Strings.Prefix
import Derived.Shelf.Unicode.Decode
import Derived.Shelf.Strings.Runes
import Derived.Shelf.Strings.AsciiSet
import Derived.Shelf.Unicode.DecodeSlow
import Derived.Shelf.Unicode.DecodeAny
import Derived.Shelf.Unicode.DecodeLast
import Derived.Shelf.Slices.CompactS
import Derived.Shelf.Slices.Cells
import Derived.Shelf.Slices.In.SortNone
import Derived.Shelf.SlSortCmp.WholeK
import Derived.Shelf.SlSortCmp.NoneTotal
import Derived.Ground.SlsfProg
import Derived.Shelf.Spec.SlicesGrow
import Derived.Ground.Names8Prog
import Derived.Shelf.Strings.SlTrimAscii
import Derived.Test.YtdcphpbimeoioaaGreatDoorRows
import Derived.LaidLaws
import Derived.Stop.LaidErr
import Derived.MakeChecks
import Derived.RowKit
import Derived.RowKit3
import Derived.WalkKit
import Derived.Shelf.GgSortFunc.InsertionK
import Derived.Lib.Bytealg
import Derived.Sort.Statements
import Derived.Shelf.SlSortCmp.InsertionK
import Derived.Maps.AppendAt
import Derived.Lib.SliceRun
import Derived.Lib.Walk
import Derived.Deep.LoopGhost
import Derived.Lib.SlTrimSet
import Derived.Lib.Join
import Derived.Sort.AssemblyPlain
section
set_option linter.unusedSectionVars false
namespace Go.Proofs.YtdcphpbimeoioaaGreatDoorE
open Go
set_option linter.unusedVariables false
@[reducible] def bsx (l:List Nat):ByteArray:=⟨(l.map UInt8.ofNat).toArray⟩
@[reducible] def beqB (a b:Bool):Bool:=a ==b
@[reducible] def ilen {α:Type} (xs:List α):Int:=(xs.length:Int)
@[reducible] def iN (i:Int):Nat:=i.toNat
@[reducible] def winI {α:Type} (xs:List α) (l h:Int):List α:=win xs l.toNat (h.toNat - l.toNat)
@[reducible] def roomL {α:Type} (xs:List α) (b:Nat):Bool:=room xs.length b
@[reducible] def roomA {α:Type} (xs ys:List α) (b:Nat):Bool:=room (xs.length+ys.length) b
@[reducible] def app {α:Type} (xs ys:List α):List α:=xs++ys
@[reducible] def repl {α:Type} (n:Int) (x:α):List α:=List.replicate n.toNat x
section
variable [Dm] {P:Program} {f:FuncId} {m:Nat}
theorem tabNil:TabF P []:=fun _ h=>by cases h
theorem tabCons {x:Ent} {T:List Ent} (h:EntOk P x) (hT:TabF P T):TabF P (x ::T):=fun y hy=>by
 rcases List.mem_cons.1 hy with rfl|hy
 ·exact h
 ·exact hT y hy
theorem tabLNil:TabL P f m []:=fun _ h=>by cases h
theorem tabLCons {x:LEnt} {g:Nat} {L:List LEnt} (h:LEntOk P f m x g) (hL:TabL P f m L):TabL P f m (x ::L):=fun y hy=>by
 rcases List.mem_cons.1 hy with rfl|hy
 ·exact ⟨g,h⟩
 ·exact hL y hy
theorem loop_zero' {i e:Nat} {sg sgE sgR:List Sg} {X:SgEl sg→Option (SgEl sgE ⊕ SgEl sgR)} (h:∀ s,X s=none):LEntOk P f m ⟨i,sg,e,sgE,sgR,X⟩ 0:=fun pf hf lv lx ap fz nb pc c hs hm s y hy=>by
 have:=(h s).symm.trans hy;cases this
theorem loop_step' {T:List Ent} {L:List LEnt} (hM:P.follows .mixedOrders=true) (hT:TabF P T) (hL:TabL P f m L) {i e g:Nat} {sg sgE sgR:List Sg} {X X':SgEl sg→Option (SgEl sgE ⊕ SgEl sgR)}
  (hX:LEntOk P f m ⟨i,sg,e,sgE,sgR,X⟩ g) (hs:∀ s,walkL P T (⟨i,sg,e,sgE,sgR,X⟩ ::L) f m ⟨i,sg,e,sgE,sgR,X⟩ s=X' s):LEntOk P f m ⟨i,sg,e,sgE,sgR,X'⟩ (g+1) :=
 loop_step (fun _ h=>drawn_ok hM h) hT hL hX hs
theorem ent_ok' {T:List Ent} {L:List LEnt} (hM:P.follows .mixedOrders=true) {sg:List Sg} {rs:List Rt} (hT:TabF P T) (hL:TabL P f (nSl sg) L) {X:SgEl sg→Option (RtEl rs×OutEl sg)}
  (h:∀ x,walkF P T L f sg rs x=X x):EntOk P ⟨f,sg,rs,X⟩:=ent_ok (fun _ h=>drawn_ok hM h) hT hL h
end
instance:Dm:=⟨false⟩
theorem mixed:Tryz.prog.follows .mixedOrders=true:=by kernel_rfl
end Go.Proofs.YtdcphpbimeoioaaGreatDoorE
end
section
set_option linter.unusedSectionVars false
namespace Go.Proofs.YtdcphpbimeoioaaGreatDoorE
open Go Go.ChangeShapes Go.WideShapes Go.ChangeAt Go.RowKit
set_option linter.unusedVariables false
def cells_of:DataW Unit→List Value
 | .lit (.int k n)=>[.int k n]
 | .agg l=>go l
 | _=>[]
where go:List (DataW Unit)→List Value
 | []=>[]
 | d ::r=>cells_of d++go r
theorem law_walk {X:Type} {enc:TypeId×Value→X} {P:Program} {f:FuncId} {tys:List Ty} {F:SgEl (tys.map Sg.tree)→Option (RtEl [.tree .bool]×OutEl (tys.map Sg.tree))} (hl:laidOutB P=true) {params:Array TypeId}
  (hp:params.toList.all (fun t=>P.readableRec t && decide (t<P.types.size))=true) (hg:params.toList.all (tyGood P 20)=true) (htys:params.toList.map (tyOf P 20)=tys) (hE:EntOk P ⟨f,tys.map Sg.tree,[.tree .bool],F⟩)
  (hX:∀ x,okArgs tys x→∃ o,F x=some ((true,()),o)) {W:World} (hG:gHolds W) {base:Nat} {args:Array Value} {ds gs:List (DataW X)} {before:List MemPlace} (hval:∀ (j:Nat) t v,params[j]?=some t→args[j]?=some v→Value.okWide P W .any base t v)
  (hW:DataW.Whole enc P params.toList [] false W args.toList ds gs before) (hsz:(DataW.weightsEach P (params.toList++[]) (ds++gs)).all (·≤reachBytes)=true) :
  gs=[]∧ds.length=params.toList.length∧Calls P f args W fun e W'=>e = .returned (.bool true)∧Below W.heap.size W W'∧DataW.TrodAll enc P W' 0 (fun b=>decide (b<W.heap.size)) true params.toList args.toList ds before:=by
 subst htys
 obtain ⟨p,q,hA,hV,rfl,hfz,hnd⟩:=hW
 obtain ⟨rfl,rfl⟩:=trodVars_none hV
 obtain ⟨l1,l2⟩:=trodAll_len hA
 refine ⟨rfl,l2,?_⟩
 obtain ⟨x,hx,hlen,hv⟩:=args_open (r := .any) (b0:=base) params.toList args.toList ds p hg hA (fun j t v a b=>hval j t v (by simpa using a) (by simpa using b)) (weights_each (us:=[]) (gs:=[]) l2 hsz)
 obtain ⟨o,ho⟩:=hX x hx
 refine (law_calls hE ho hG hlen hv).mono ?_
 rintro e W' ⟨rfl,bel⟩
 refine ⟨rfl,bel,?_⟩
 rw [List.append_nil]
 exact trodAll_below hl bel hp hA
end Go.Proofs.YtdcphpbimeoioaaGreatDoorE
end
section
set_option linter.unusedSectionVars false
namespace Go.Proofs
open Go.Shelf
def Tryz.lays156_ren:Go.Shelf.Ren:=⟨fun|156=>151|165=>207|166=>208|169=>209|240=>261|241=>262|276=>296|277=>297|n=>n,fun|31=>23|9=>9|3=>3|4=>4|0=>0|20=>20|72=>236|76=>240|70=>234|37=>193|75=>239|127=>276|164=>303|5=>5|80=>242|n=>n,fun|n=>n⟩
theorem Tryz.lays156:Go.Proofs.Lays.n156 Tryz.prog Tryz.lays156_ren:={
 mixed:=by kernel_rfl
 f156:=Tryz.func151.trans (congrArg some (by kernel_rfl))
 f165:=Tryz.func207.trans (congrArg some (by kernel_rfl))
 f166:=Tryz.func208.trans (congrArg some (by kernel_rfl))
 f169:=Tryz.func209.trans (congrArg some (by kernel_rfl))
 f240:=Tryz.func261.trans (congrArg some (by kernel_rfl))
 f241:=Tryz.func262.trans (congrArg some (by kernel_rfl))
 f276:=Tryz.func296.trans (congrArg some (by kernel_rfl))
 f277:=Tryz.func297.trans (congrArg some (by kernel_rfl))
 t0:=Tryz.underlying0
 a0:=Tryz.isAgg0
 z0:=Tryz.sizeOf0
 v0:=Tryz.zeroValue0
 t3:=Tryz.underlying3
 a3:=Tryz.isAgg3
 z3:=Tryz.sizeOf3
 v3:=Tryz.zeroValue3
 t4:=Tryz.underlying4
 a4:=Tryz.isAgg4
 z4:=Tryz.sizeOf4
 v4:=Tryz.zeroValue4
 t9:=Tryz.underlying9
 a9:=Tryz.isAgg9
 z9:=Tryz.sizeOf9
 v9:=Tryz.zeroValue9
 t20:=Tryz.underlying20
 a20:=Tryz.isAgg20
 z20:=Tryz.sizeOf20
 v20:=Tryz.zeroValue20
 t31:=Tryz.underlying23
 a31:=Tryz.isAgg23
 z31:=Tryz.sizeOf23
 v31:=Tryz.zeroValue23
 t37:=Tryz.underlying193
 a37:=Tryz.isAgg193
 z37:=Tryz.sizeOf193
 v37:=Tryz.zeroValue193
 t70:=Tryz.underlying234
 a70:=Tryz.isAgg234
 z70:=Tryz.sizeOf234
 v70:=Tryz.zeroValue234
 t72:=Tryz.underlying236
 a72:=Tryz.isAgg236
 z72:=Tryz.sizeOf236
 v72:=Tryz.zeroValue236
 t75:=Tryz.underlying239
 a75:=Tryz.isAgg239
 z75:=Tryz.sizeOf239
 v75:=Tryz.zeroValue239
 t76:=Tryz.underlying240
 a76:=Tryz.isAgg240
 z76:=Tryz.sizeOf240
 v76:=Tryz.zeroValue240
 t127:=Tryz.underlying276
 a127:=Tryz.isAgg276
 z127:=Tryz.sizeOf276
 v127:=Tryz.zeroValue276
 t164:=Tryz.underlying303
 a164:=Tryz.isAgg303
 z164:=Tryz.sizeOf303
 v164:=Tryz.zeroValue303 }
theorem Tryz.Builder_Extra_156:Builder.Extra Tryz.prog Tryz.lays156_ren:={
 sizeBuilder:=by kernel_rfl
 liesBuilder:=by kernel_rfl
 t5:=Tryz.underlying5
 a5:=Tryz.isAgg5
 z5:=Tryz.sizeOf5
 v5:=Tryz.zeroValue5
 infoByte:=by kernel_rfl
 cellsByte:=by kernel_rfl
 sizeByte:=by kernel_rfl
 neB5:=by decide }
open Go.RowKit in
theorem Tryz.strings_Join_none (a:Option Addr) (c:Nat) (sep:ByteArray) (w:World) :
  Calls Tryz.prog 151 #[.slice a 0 c, .string sep] w fun e w'=>e = .returned (.string ⟨#[]⟩)∧w'=w:=Any.strings_Join_none Tryz.lays156 Tryz.Builder_Extra_156 a c sep w
open Go.RowKit in
theorem Tryz.strings_Join (bk o c:Nat) (xs:List ByteArray) (sep:ByteArray) (w:World) (hcells:∀ (j:Nat) x,xs[j]?=some x→w.cell? ⟨bk,o+j,none⟩=some (.string x)) (hbk:bk<w.heap.size) (hN:xs.length≤140737488355328) (hcap:xs.length≤c) (hlen:(Lib.join (xs.map (·.data.toList)) sep.data.toList).length≤140737488355328) :
  Calls Tryz.prog 151 #[.slice (some ⟨bk,o,none⟩) xs.length c, .string sep] w fun e w'=>e = .returned (.string ⟨(Lib.join (xs.map (·.data.toList)) sep.data.toList).toArray⟩)∧Below w.heap.size w w':=Any.strings_Join Tryz.lays156 Tryz.Builder_Extra_156 bk o c xs sep w hcells hbk hN hcap hlen
def Tryz.lays160_ren:Go.Shelf.Ren:=⟨fun|160=>248|232=>286|231=>285|227=>287|234=>289|233=>288|236=>291|235=>290|228=>313|271=>316|151=>315|197=>314|120=>347|152=>346|260=>345|137=>171|119=>358|224=>338|225=>337|217=>219|266=>269|n=>n,fun|9=>9|4=>4|3=>3|5=>5|117=>295|116=>294|0=>0|124=>298|21=>21|105=>321|46=>212|119=>351|139=>354|138=>353|n=>n,fun|3=>6|4=>7|n=>n⟩
theorem Tryz.lays160:Go.Proofs.Lays.n160 Tryz.prog Tryz.lays160_ren:={
 mixed:=by kernel_rfl
 f119:=Tryz.func358.trans (congrArg some (by kernel_rfl))
 f120:=Tryz.func347.trans (congrArg some (by kernel_rfl))
 f137:=Tryz.func171.trans (congrArg some (by kernel_rfl))
 f151:=Tryz.func315.trans (congrArg some (by kernel_rfl))
 f152:=Tryz.func346.trans (congrArg some (by kernel_rfl))
 f160:=Tryz.func248.trans (congrArg some (by kernel_rfl))
 f197:=Tryz.func314.trans (congrArg some (by kernel_rfl))
 f217:=Tryz.func219.trans (congrArg some (by kernel_rfl))
 f224:=Tryz.func338.trans (congrArg some (by kernel_rfl))
 f225:=Tryz.func337.trans (congrArg some (by kernel_rfl))
 f227:=Tryz.func287.trans (congrArg some (by kernel_rfl))
 f228:=Tryz.func313.trans (congrArg some (by kernel_rfl))
 f231:=Tryz.func285.trans (congrArg some (by kernel_rfl))
 f232:=Tryz.func286.trans (congrArg some (by kernel_rfl))
 f233:=Tryz.func288.trans (congrArg some (by kernel_rfl))
 f234:=Tryz.func289.trans (congrArg some (by kernel_rfl))
 f235:=Tryz.func290.trans (congrArg some (by kernel_rfl))
 f236:=Tryz.func291.trans (congrArg some (by kernel_rfl))
 f260:=Tryz.func345.trans (congrArg some (by kernel_rfl))
 f266:=Tryz.func269.trans (congrArg some (by kernel_rfl))
 f271:=Tryz.func316.trans (congrArg some (by kernel_rfl))
 t0:=Tryz.underlying0
 a0:=Tryz.isAgg0
 z0:=Tryz.sizeOf0
 v0:=Tryz.zeroValue0
 t3:=Tryz.underlying3
 a3:=Tryz.isAgg3
 z3:=Tryz.sizeOf3
 v3:=Tryz.zeroValue3
 t4:=Tryz.underlying4
 a4:=Tryz.isAgg4
 z4:=Tryz.sizeOf4
 v4:=Tryz.zeroValue4
 t5:=Tryz.underlying5
 a5:=Tryz.isAgg5
 z5:=Tryz.sizeOf5
 v5:=Tryz.zeroValue5
 t9:=Tryz.underlying9
 a9:=Tryz.isAgg9
 z9:=Tryz.sizeOf9
 v9:=Tryz.zeroValue9
 t21:=Tryz.underlying21
 a21:=Tryz.isAgg21
 z21:=Tryz.sizeOf21
 v21:=Tryz.zeroValue21
 t46:=Tryz.underlying212
 a46:=Tryz.isAgg212
 z46:=Tryz.sizeOf212
 v46:=Tryz.zeroValue212
 t105:=Tryz.underlying321
 a105:=Tryz.isAgg321
 z105:=Tryz.sizeOf321
 v105:=Tryz.zeroValue321
 t116:=Tryz.underlying294
 a116:=Tryz.isAgg294
 z116:=Tryz.sizeOf294
 t117:=Tryz.underlying295
 a117:=Tryz.isAgg295
 z117:=Tryz.sizeOf295
 v117:=Tryz.zeroValue295
 t119:=Tryz.underlying351
 a119:=Tryz.isAgg351
 z119:=Tryz.sizeOf351
 t124:=Tryz.underlying298
 a124:=Tryz.isAgg298
 z124:=Tryz.sizeOf298
 v124:=Tryz.zeroValue298
 t138:=Tryz.underlying353
 a138:=Tryz.isAgg353
 z138:=Tryz.sizeOf353
 v138:=Tryz.zeroValue353
 t139:=Tryz.underlying354
 a139:=Tryz.isAgg354
 z139:=Tryz.sizeOf354
 v139:=Tryz.zeroValue354
 g3:=by kernel_rfl
 g4:=by kernel_rfl }
open Go.RowKit in
def Tryz.lays106_ren:Go.Shelf.Ren:=⟨fun|106=>118|213=>176|265=>226|n=>n,fun|9=>9|3=>3|n=>n,fun|n=>n⟩
theorem Tryz.lays106:Go.Proofs.Lays.n106 Tryz.prog Tryz.lays106_ren:={
 mixed:=by kernel_rfl
 f106:=Tryz.func118.trans (congrArg some (by kernel_rfl))
 f213:=Tryz.func176.trans (congrArg some (by kernel_rfl))
 f265:=Tryz.func226.trans (congrArg some (by kernel_rfl))
 t3:=Tryz.underlying3
 a3:=Tryz.isAgg3
 z3:=Tryz.sizeOf3
 v3:=Tryz.zeroValue3
 t9:=Tryz.underlying9
 a9:=Tryz.isAgg9
 z9:=Tryz.sizeOf9
 v9:=Tryz.zeroValue9 }
open Go.RowKit in
theorem Tryz.strings_Compare (a b:ByteArray) (w:World) :
  Calls Tryz.prog 118 #[.string a, .string b] w fun e w'=>e = .returned (.int .i64 (Lib.compareBytes a.data.toList b.data.toList))∧w'=w:=Any.strings_Compare Tryz.lays106 a b w
def Tryz.lays137_ren:Go.Shelf.Ren:=⟨fun|137=>171|217=>219|266=>269|n=>n,fun|9=>9|5=>5|3=>3|n=>n,fun|n=>n⟩
theorem Tryz.lays137:Go.Proofs.Lays.n137 Tryz.prog Tryz.lays137_ren:={
 mixed:=by kernel_rfl
 f137:=Tryz.func171.trans (congrArg some (by kernel_rfl))
 f217:=Tryz.func219.trans (congrArg some (by kernel_rfl))
 f266:=Tryz.func269.trans (congrArg some (by kernel_rfl))
 t3:=Tryz.underlying3
 a3:=Tryz.isAgg3
 z3:=Tryz.sizeOf3
 v3:=Tryz.zeroValue3
 t5:=Tryz.underlying5
 a5:=Tryz.isAgg5
 z5:=Tryz.sizeOf5
 v5:=Tryz.zeroValue5
 t9:=Tryz.underlying9
 a9:=Tryz.isAgg9
 z9:=Tryz.sizeOf9
 v9:=Tryz.zeroValue9 }
open Go.RowKit in
theorem Tryz.strings_IndexByte (s:ByteArray) (c:Int) (w:World) :
  Calls Tryz.prog 171 #[.string s, .int .u8 c] w fun e w'=>e = .returned (.int .i64 (Lib.indexByte s.data.toList c.toNat.toUInt8))∧w'=w:=Any.strings_IndexByte Tryz.lays137 s c w
open Go.RowKit in
open Go.RowKit in
def Tryz.laysM173_ren:Go.Shelf.Ren:=⟨fun|173=>153|246=>210|283=>263|284=>264|285=>265|286=>266|129=>242|317=>298|318=>299|319=>300|320=>301|337=>334|338=>335|n=>n,fun|2=>2|3=>3|9=>9|4=>4|171=>277|0=>0|53=>266|37=>193|5=>5|173=>279|212=>308|51=>264|20=>20|213=>309|46=>212|232=>344|233=>345|n=>n,fun|17=>1|18=>4|19=>5|n=>n⟩
theorem Tryz.laysM173:Go.Proofs.LaysM.n173 Tryz.prog Tryz.laysM173_ren:={
 mixed:=by kernel_rfl
 f129:=Tryz.func242.trans (congrArg some (by kernel_rfl))
 f173:=Tryz.func153.trans (congrArg some (by kernel_rfl))
 f246:=Tryz.func210.trans (congrArg some (by kernel_rfl))
 f283:=Tryz.func263.trans (congrArg some (by kernel_rfl))
 f284:=Tryz.func264.trans (congrArg some (by kernel_rfl))
 f285:=Tryz.func265.trans (congrArg some (by kernel_rfl))
 f286:=Tryz.func266.trans (congrArg some (by kernel_rfl))
 f317:=Tryz.func298.trans (congrArg some (by kernel_rfl))
 f318:=Tryz.func299.trans (congrArg some (by kernel_rfl))
 f319:=Tryz.func300.trans (congrArg some (by kernel_rfl))
 f320:=Tryz.func301.trans (congrArg some (by kernel_rfl))
 f337:=Tryz.func334.trans (congrArg some (by kernel_rfl))
 f338:=Tryz.func335.trans (congrArg some (by kernel_rfl))
 t0:=Tryz.underlying0
 a0:=Tryz.isAgg0
 z0:=Tryz.sizeOf0
 v0:=Tryz.zeroValue0
 t2:=Tryz.underlying2
 a2:=Tryz.isAgg2
 z2:=Tryz.sizeOf2
 v2:=Tryz.zeroValue2
 t3:=Tryz.underlying3
 a3:=Tryz.isAgg3
 z3:=Tryz.sizeOf3
 v3:=Tryz.zeroValue3
 t4:=Tryz.underlying4
 a4:=Tryz.isAgg4
 z4:=Tryz.sizeOf4
 v4:=Tryz.zeroValue4
 t5:=Tryz.underlying5
 a5:=Tryz.isAgg5
 z5:=Tryz.sizeOf5
 v5:=Tryz.zeroValue5
 t9:=Tryz.underlying9
 a9:=Tryz.isAgg9
 z9:=Tryz.sizeOf9
 v9:=Tryz.zeroValue9
 t20:=Tryz.underlying20
 a20:=Tryz.isAgg20
 z20:=Tryz.sizeOf20
 v20:=Tryz.zeroValue20
 t37:=Tryz.underlying193
 a37:=Tryz.isAgg193
 z37:=Tryz.sizeOf193
 v37:=Tryz.zeroValue193
 t46:=Tryz.underlying212
 a46:=Tryz.isAgg212
 z46:=Tryz.sizeOf212
 v46:=Tryz.zeroValue212
 t51:=Tryz.underlying264
 a51:=Tryz.isAgg264
 z51:=Tryz.sizeOf264
 v51:=Tryz.zeroValue264
 t53:=Tryz.underlying266
 a53:=Tryz.isAgg266
 z53:=Tryz.sizeOf266
 v53:=Tryz.zeroValue266
 t171:=Tryz.underlying277
 a171:=Tryz.isAgg277
 z171:=Tryz.sizeOf277
 v171:=Tryz.zeroValue277
 t173:=Tryz.underlying279
 a173:=Tryz.isAgg279
 z173:=Tryz.sizeOf279
 v173:=Tryz.zeroValue279
 t212:=Tryz.underlying308
 a212:=Tryz.isAgg308
 z212:=Tryz.sizeOf308
 v212:=Tryz.zeroValue308
 t213:=Tryz.underlying309
 a213:=Tryz.isAgg309
 z213:=Tryz.sizeOf309
 t232:=Tryz.underlying344
 a232:=Tryz.isAgg344
 z232:=Tryz.sizeOf344
 v232:=Tryz.zeroValue344
 t233:=Tryz.underlying345
 a233:=Tryz.isAgg345
 z233:=Tryz.sizeOf345
 v233:=Tryz.zeroValue345
 g17:=by kernel_rfl
 g18:=by kernel_rfl
 g19:=by kernel_rfl
 i0:=by kernel_rfl
 i2:=by kernel_rfl
 i3:=by kernel_rfl
 i4:=by kernel_rfl
 i5:=by kernel_rfl
 i9:=by kernel_rfl
 i20:=by kernel_rfl
 i37:=by kernel_rfl
 i46:=by kernel_rfl
 i51:=by kernel_rfl
 i53:=by kernel_rfl
 i171:=by kernel_rfl
 i173:=by kernel_rfl
 i212:=by kernel_rfl
 i232:=by kernel_rfl
 i233:=by kernel_rfl
 m17:=by kernel_rfl
 m18:=by kernel_rfl
 m19:=by kernel_rfl }
open Go.RowKit Go.Sort Go.Lib in
theorem Tryz.strconv_FormatInt_10 (n:Int) (h0 : -9223372036854775808≤n) (h1:n≤9223372036854775807) (w:World) (htab:Lib.TabIs Tryz.prog w "internal/strconv.uint64pow10" .u64 Lib.pow10Tab) :
  Calls Tryz.prog 153 #[.int .i64 n, .int .i64 10] w fun e w'=>e = .returned (.string ⟨(Lib.itoa n).toArray⟩)∧∃ k os,w'=grow (w.drewN k) os:=Any.strconv_FormatInt_10 Tryz.laysM173 n h0 h1 w htab
def Tryz.laysC174_ren:Go.Shelf.Ren:=⟨fun|174=>222|247=>271|245=>272|287=>305|279=>306|280=>307|281=>308|282=>309|321=>340|322=>341|316=>342|171=>344|205=>343|243=>357|246=>210|283=>263|284=>264|285=>265|286=>266|129=>242|317=>298|318=>299|319=>300|320=>301|337=>334|338=>335|n=>n,fun|9=>9|3=>3|2=>2|75=>239|85=>247|4=>4|167=>312|5=>5|53=>266|175=>313|46=>212|168=>315|37=>193|0=>0|210=>337|21=>21|127=>276|145=>350|143=>348|171=>277|173=>279|212=>308|51=>264|20=>20|213=>309|232=>344|233=>345|80=>242|n=>n,fun|15=>2|16=>3|17=>1|18=>4|19=>5|n=>n⟩
theorem Tryz.laysC174:Go.Proofs.LaysC.n174 Tryz.prog Tryz.laysC174_ren:={
 mixed:=by kernel_rfl
 f129:=Tryz.func242.trans (congrArg some (by kernel_rfl))
 f171:=Tryz.func344.trans (congrArg some (by kernel_rfl))
 f174:=Tryz.func222.trans (congrArg some (by kernel_rfl))
 f205:=Tryz.func343.trans (congrArg some (by kernel_rfl))
 f243:=Tryz.func357.trans (congrArg some (by kernel_rfl))
 f245:=Tryz.func272.trans (congrArg some (by kernel_rfl))
 f246:=Tryz.func210.trans (congrArg some (by kernel_rfl))
 f247:=Tryz.func271.trans (congrArg some (by kernel_rfl))
 f279:=Tryz.func306.trans (congrArg some (by kernel_rfl))
 f280:=Tryz.func307.trans (congrArg some (by kernel_rfl))
 f281:=Tryz.func308.trans (congrArg some (by kernel_rfl))
 f282:=Tryz.func309.trans (congrArg some (by kernel_rfl))
 f283:=Tryz.func263.trans (congrArg some (by kernel_rfl))
 f284:=Tryz.func264.trans (congrArg some (by kernel_rfl))
 f285:=Tryz.func265.trans (congrArg some (by kernel_rfl))
 f286:=Tryz.func266.trans (congrArg some (by kernel_rfl))
 f287:=Tryz.func305.trans (congrArg some (by kernel_rfl))
 f316:=Tryz.func342.trans (congrArg some (by kernel_rfl))
 f317:=Tryz.func298.trans (congrArg some (by kernel_rfl))
 f318:=Tryz.func299.trans (congrArg some (by kernel_rfl))
 f319:=Tryz.func300.trans (congrArg some (by kernel_rfl))
 f320:=Tryz.func301.trans (congrArg some (by kernel_rfl))
 f321:=Tryz.func340.trans (congrArg some (by kernel_rfl))
 f322:=Tryz.func341.trans (congrArg some (by kernel_rfl))
 f337:=Tryz.func334.trans (congrArg some (by kernel_rfl))
 f338:=Tryz.func335.trans (congrArg some (by kernel_rfl))
 t0:=Tryz.underlying0
 a0:=Tryz.isAgg0
 z0:=Tryz.sizeOf0
 v0:=Tryz.zeroValue0
 t2:=Tryz.underlying2
 a2:=Tryz.isAgg2
 z2:=Tryz.sizeOf2
 v2:=Tryz.zeroValue2
 t3:=Tryz.underlying3
 a3:=Tryz.isAgg3
 z3:=Tryz.sizeOf3
 v3:=Tryz.zeroValue3
 t4:=Tryz.underlying4
 a4:=Tryz.isAgg4
 z4:=Tryz.sizeOf4
 v4:=Tryz.zeroValue4
 t5:=Tryz.underlying5
 a5:=Tryz.isAgg5
 z5:=Tryz.sizeOf5
 v5:=Tryz.zeroValue5
 t9:=Tryz.underlying9
 a9:=Tryz.isAgg9
 z9:=Tryz.sizeOf9
 v9:=Tryz.zeroValue9
 t20:=Tryz.underlying20
 a20:=Tryz.isAgg20
 z20:=Tryz.sizeOf20
 v20:=Tryz.zeroValue20
 t21:=Tryz.underlying21
 a21:=Tryz.isAgg21
 z21:=Tryz.sizeOf21
 v21:=Tryz.zeroValue21
 t37:=Tryz.underlying193
 a37:=Tryz.isAgg193
 z37:=Tryz.sizeOf193
 v37:=Tryz.zeroValue193
 t46:=Tryz.underlying212
 a46:=Tryz.isAgg212
 z46:=Tryz.sizeOf212
 v46:=Tryz.zeroValue212
 t51:=Tryz.underlying264
 a51:=Tryz.isAgg264
 z51:=Tryz.sizeOf264
 v51:=Tryz.zeroValue264
 t53:=Tryz.underlying266
 a53:=Tryz.isAgg266
 z53:=Tryz.sizeOf266
 v53:=Tryz.zeroValue266
 t75:=Tryz.underlying239
 a75:=Tryz.isAgg239
 z75:=Tryz.sizeOf239
 v75:=Tryz.zeroValue239
 t85:=Tryz.underlying247
 a85:=Tryz.isAgg247
 z85:=Tryz.sizeOf247
 v85:=Tryz.zeroValue247
 t127:=Tryz.underlying276
 a127:=Tryz.isAgg276
 z127:=Tryz.sizeOf276
 v127:=Tryz.zeroValue276
 t143:=Tryz.underlying348
 a143:=Tryz.isAgg348
 z143:=Tryz.sizeOf348
 v143:=Tryz.zeroValue348
 t145:=Tryz.underlying350
 a145:=Tryz.isAgg350
 z145:=Tryz.sizeOf350
 v145:=Tryz.zeroValue350
 t167:=Tryz.underlying312
 a167:=Tryz.isAgg312
 z167:=Tryz.sizeOf312
 v167:=Tryz.zeroValue312
 t168:=Tryz.underlying315
 a168:=Tryz.isAgg315
 z168:=Tryz.sizeOf315
 v168:=Tryz.zeroValue315
 t171:=Tryz.underlying277
 a171:=Tryz.isAgg277
 z171:=Tryz.sizeOf277
 v171:=Tryz.zeroValue277
 t173:=Tryz.underlying279
 a173:=Tryz.isAgg279
 z173:=Tryz.sizeOf279
 v173:=Tryz.zeroValue279
 t175:=Tryz.underlying313
 a175:=Tryz.isAgg313
 z175:=Tryz.sizeOf313
 v175:=Tryz.zeroValue313
 t210:=Tryz.underlying337
 a210:=Tryz.isAgg337
 z210:=Tryz.sizeOf337
 v210:=Tryz.zeroValue337
 t212:=Tryz.underlying308
 a212:=Tryz.isAgg308
 z212:=Tryz.sizeOf308
 v212:=Tryz.zeroValue308
 t213:=Tryz.underlying309
 a213:=Tryz.isAgg309
 z213:=Tryz.sizeOf309
 t232:=Tryz.underlying344
 a232:=Tryz.isAgg344
 z232:=Tryz.sizeOf344
 v232:=Tryz.zeroValue344
 t233:=Tryz.underlying345
 a233:=Tryz.isAgg345
 z233:=Tryz.sizeOf345
 v233:=Tryz.zeroValue345
 g15:=by kernel_rfl
 g16:=by kernel_rfl
 g17:=by kernel_rfl
 g18:=by kernel_rfl
 g19:=by kernel_rfl
 t80:=Tryz.underlying242
 a80:=Tryz.isAgg242
 z80:=Tryz.sizeOf242
 v80:=Tryz.zeroValue242
 i0:=by kernel_rfl
 i2:=by kernel_rfl
 i3:=by kernel_rfl
 i4:=by kernel_rfl
 i5:=by kernel_rfl
 i9:=by kernel_rfl
 i20:=by kernel_rfl
 i21:=by kernel_rfl
 i37:=by kernel_rfl
 i46:=by kernel_rfl
 i51:=by kernel_rfl
 i53:=by kernel_rfl
 i75:=by kernel_rfl
 i80:=by kernel_rfl
 i85:=by kernel_rfl
 i127:=by kernel_rfl
 i143:=by kernel_rfl
 i145:=by kernel_rfl
 i167:=by kernel_rfl
 i168:=by kernel_rfl
 i171:=by kernel_rfl
 i173:=by kernel_rfl
 i175:=by kernel_rfl
 i210:=by kernel_rfl
 i212:=by kernel_rfl
 i232:=by kernel_rfl
 i233:=by kernel_rfl
 m15:=by kernel_rfl
 m16:=by kernel_rfl
 m17:=by kernel_rfl
 m18:=by kernel_rfl
 m19:=by kernel_rfl
 c0:=by kernel_rfl
 c2:=by kernel_rfl
 c3:=by kernel_rfl
 c4:=by kernel_rfl
 c5:=by kernel_rfl
 c9:=by kernel_rfl
 c20:=by kernel_rfl
 c21:=by kernel_rfl
 c37:=by kernel_rfl
 c46:=by kernel_rfl
 c51:=by kernel_rfl
 c53:=by kernel_rfl
 c75:=by kernel_rfl
 c80:=by kernel_rfl
 c85:=by kernel_rfl
 c127:=by kernel_rfl
 c143:=by kernel_rfl
 c145:=by kernel_rfl
 c167:=by kernel_rfl
 c168:=by kernel_rfl
 c171:=by kernel_rfl
 c173:=by kernel_rfl
 c175:=by kernel_rfl
 c210:=by kernel_rfl
 c212:=by kernel_rfl
 c213:=by kernel_rfl
 c232:=by kernel_rfl
 c233:=by kernel_rfl }
open Go.RowKit in
theorem Tryz.strconv_ParseInt_10_at64_ok (s:ByteArray) (hmax:s.size≤9223372036854775806) (v:Int) (h:Lib.parseIntB 64 s.data.toList = .ok v) (w:World) :
  Calls Tryz.prog 222 #[.string s, .int .i64 10, .int .i64 64] w fun e w'=>e = .returned (.tuple #[.int .i64 v, .nilIface])∧(w'=w∨∃ t,w'=Lib.bytesWorld w 5 t):=Any.strconv_ParseInt_10_at64_ok Tryz.laysC174 s hmax v h w
open Go.RowKit in
theorem Tryz.strconv_ParseInt_10_at64_range (s:ByteArray) (hlim:s.size≤281474976710656) (h:Lib.parseIntB 64 s.data.toList = .range) (ev:Value) (w:World) (hv:w.cell? ⟨3,0,none⟩=some ev) (hev:ev = .nilIface∨∃ te pe,ev = .iface te pe) :
  Calls Tryz.prog 222 #[.string s, .int .i64 10, .int .i64 64] w fun e w'=>∃ N,e = .returned (.tuple #[.int .i64 (Lib.intSat 64 s.data.toList), .iface 315 (.pointer (some ⟨N,0,none⟩))])∧w.heap.size≤N∧w'.heap[N]?=some (.cells #[.string ⟨#[80,97,114,115,101,73,110,116]⟩, .string s,ev] 337 (0,0))∧Below w.heap.size w w':=Any.strconv_ParseInt_10_at64_range Tryz.laysC174 s hlim h ev w hv hev
open Go.RowKit Go.Lib in
def Tryz.lays219_ren:Go.Shelf.Ren:=⟨fun|219=>303|217=>219|225=>337|224=>338|267=>339|266=>269|314=>356|n=>n,fun|9=>9|3=>3|4=>4|5=>5|46=>212|146=>346|51=>264|n=>n,fun|1=>0|n=>n⟩
theorem Tryz.lays219:Go.Proofs.Lays.n219 Tryz.prog Tryz.lays219_ren:={
 mixed:=by kernel_rfl
 f217:=Tryz.func219.trans (congrArg some (by kernel_rfl))
 f219:=Tryz.func303.trans (congrArg some (by kernel_rfl))
 f224:=Tryz.func338.trans (congrArg some (by kernel_rfl))
 f225:=Tryz.func337.trans (congrArg some (by kernel_rfl))
 f266:=Tryz.func269.trans (congrArg some (by kernel_rfl))
 f267:=Tryz.func339.trans (congrArg some (by kernel_rfl))
 f314:=Tryz.func356.trans (congrArg some (by kernel_rfl))
 t3:=Tryz.underlying3
 a3:=Tryz.isAgg3
 z3:=Tryz.sizeOf3
 v3:=Tryz.zeroValue3
 t4:=Tryz.underlying4
 a4:=Tryz.isAgg4
 z4:=Tryz.sizeOf4
 v4:=Tryz.zeroValue4
 t5:=Tryz.underlying5
 a5:=Tryz.isAgg5
 z5:=Tryz.sizeOf5
 v5:=Tryz.zeroValue5
 t9:=Tryz.underlying9
 a9:=Tryz.isAgg9
 z9:=Tryz.sizeOf9
 v9:=Tryz.zeroValue9
 t46:=Tryz.underlying212
 a46:=Tryz.isAgg212
 z46:=Tryz.sizeOf212
 v46:=Tryz.zeroValue212
 t51:=Tryz.underlying264
 a51:=Tryz.isAgg264
 z51:=Tryz.sizeOf264
 v51:=Tryz.zeroValue264
 t146:=Tryz.underlying346
 a146:=Tryz.isAgg346
 z146:=Tryz.sizeOf346
 v146:=Tryz.zeroValue346
 g1:=by kernel_rfl }
open Go.RowKit Go.Lib in
theorem Tryz.stringslite_Index_one (s:ByteArray) (c:UInt8) (w:World) :
  Calls Tryz.prog 303 #[.string s, .string ⟨#[c]⟩] w fun e w'=>e = .returned (.int .i64 (Lib.indexByte s.data.toList c))∧w'=w:=Any.stringslite_Index_one Tryz.lays219 s c w
open Go.RowKit Go.Lib in
theorem Tryz.stringslite_Index (s sub:ByteArray) (m:Int) (w:World) (hs:s.size<4294967281) (hm:w.cell? ⟨0,0,none⟩=some (.int .i64 m)) :
  Calls Tryz.prog 303 #[.string s, .string sub] w fun e w'=>e = .returned (.int .i64 (Lib.index s.data.toList sub.data.toList))∧w'=w:=Any.stringslite_Index Tryz.lays219 s sub m w hs hm
def Tryz.laysM219_ren:Go.Shelf.Ren:=⟨fun|219=>303|217=>219|225=>337|224=>338|267=>339|266=>269|314=>356|n=>n,fun|9=>9|3=>3|4=>4|5=>5|46=>212|146=>346|51=>264|n=>n,fun|1=>0|n=>n⟩
theorem Tryz.laysM219:Go.Proofs.LaysM.n219 Tryz.prog Tryz.laysM219_ren:={
 mixed:=by kernel_rfl
 f217:=Tryz.func219.trans (congrArg some (by kernel_rfl))
 f219:=Tryz.func303.trans (congrArg some (by kernel_rfl))
 f224:=Tryz.func338.trans (congrArg some (by kernel_rfl))
 f225:=Tryz.func337.trans (congrArg some (by kernel_rfl))
 f266:=Tryz.func269.trans (congrArg some (by kernel_rfl))
 f267:=Tryz.func339.trans (congrArg some (by kernel_rfl))
 f314:=Tryz.func356.trans (congrArg some (by kernel_rfl))
 t3:=Tryz.underlying3
 a3:=Tryz.isAgg3
 z3:=Tryz.sizeOf3
 v3:=Tryz.zeroValue3
 t4:=Tryz.underlying4
 a4:=Tryz.isAgg4
 z4:=Tryz.sizeOf4
 v4:=Tryz.zeroValue4
 t5:=Tryz.underlying5
 a5:=Tryz.isAgg5
 z5:=Tryz.sizeOf5
 v5:=Tryz.zeroValue5
 t9:=Tryz.underlying9
 a9:=Tryz.isAgg9
 z9:=Tryz.sizeOf9
 v9:=Tryz.zeroValue9
 t46:=Tryz.underlying212
 a46:=Tryz.isAgg212
 z46:=Tryz.sizeOf212
 v46:=Tryz.zeroValue212
 t51:=Tryz.underlying264
 a51:=Tryz.isAgg264
 z51:=Tryz.sizeOf264
 v51:=Tryz.zeroValue264
 t146:=Tryz.underlying346
 a146:=Tryz.isAgg346
 z146:=Tryz.sizeOf346
 v146:=Tryz.zeroValue346
 g1:=by kernel_rfl
 i3:=by kernel_rfl
 i4:=by kernel_rfl
 i5:=by kernel_rfl
 i9:=by kernel_rfl
 i46:=by kernel_rfl
 i51:=by kernel_rfl
 i146:=by kernel_rfl
 m1:=by kernel_rfl
 s1_3:=fun w h=>Go.Proofs.cell_of_shapedOpen_int (zero:=#[.int .i64 0]) (t:=3) h (of_decide_eq_true (by kernel_rfl)) (by kernel_rfl) rfl (by kernel_rfl) (by kernel_rfl) Tryz.underlying3 }
open Go.RowKit Go.Lib in
def Tryz.lays190_ren:Go.Shelf.Ren:=⟨fun|190=>258|125=>183|258=>295|128=>241|129=>242|302=>325|303=>326|304=>327|305=>328|306=>329|307=>330|308=>331|309=>332|310=>333|333=>351|329=>280|330=>281|334=>352|335=>353|336=>354|344=>360|n=>n,fun|31=>23|9=>9|3=>3|46=>212|0=>0|51=>264|53=>266|4=>4|183=>257|182=>256|131=>261|5=>5|218=>286|222=>290|228=>318|229=>319|n=>n,fun|n=>n⟩
theorem Tryz.lays190:Go.Proofs.Lays.n190 Tryz.prog Tryz.lays190_ren:={
 mixed:=by kernel_rfl
 f125:=Tryz.func183.trans (congrArg some (by kernel_rfl))
 f128:=Tryz.func241.trans (congrArg some (by kernel_rfl))
 f129:=Tryz.func242.trans (congrArg some (by kernel_rfl))
 f190:=Tryz.func258.trans (congrArg some (by kernel_rfl))
 f258:=Tryz.func295.trans (congrArg some (by kernel_rfl))
 f302:=Tryz.func325.trans (congrArg some (by kernel_rfl))
 f303:=Tryz.func326.trans (congrArg some (by kernel_rfl))
 f304:=Tryz.func327.trans (congrArg some (by kernel_rfl))
 f305:=Tryz.func328.trans (congrArg some (by kernel_rfl))
 f306:=Tryz.func329.trans (congrArg some (by kernel_rfl))
 f307:=Tryz.func330.trans (congrArg some (by kernel_rfl))
 f308:=Tryz.func331.trans (congrArg some (by kernel_rfl))
 f309:=Tryz.func332.trans (congrArg some (by kernel_rfl))
 f310:=Tryz.func333.trans (congrArg some (by kernel_rfl))
 f329:=Tryz.func280.trans (congrArg some (by kernel_rfl))
 f330:=Tryz.func281.trans (congrArg some (by kernel_rfl))
 f333:=Tryz.func351.trans (congrArg some (by kernel_rfl))
 f334:=Tryz.func352.trans (congrArg some (by kernel_rfl))
 f335:=Tryz.func353.trans (congrArg some (by kernel_rfl))
 f336:=Tryz.func354.trans (congrArg some (by kernel_rfl))
 f344:=Tryz.func360.trans (congrArg some (by kernel_rfl))
 t0:=Tryz.underlying0
 a0:=Tryz.isAgg0
 z0:=Tryz.sizeOf0
 v0:=Tryz.zeroValue0
 t3:=Tryz.underlying3
 a3:=Tryz.isAgg3
 z3:=Tryz.sizeOf3
 v3:=Tryz.zeroValue3
 t4:=Tryz.underlying4
 a4:=Tryz.isAgg4
 z4:=Tryz.sizeOf4
 v4:=Tryz.zeroValue4
 t5:=Tryz.underlying5
 a5:=Tryz.isAgg5
 z5:=Tryz.sizeOf5
 v5:=Tryz.zeroValue5
 t9:=Tryz.underlying9
 a9:=Tryz.isAgg9
 z9:=Tryz.sizeOf9
 v9:=Tryz.zeroValue9
 t31:=Tryz.underlying23
 a31:=Tryz.isAgg23
 z31:=Tryz.sizeOf23
 v31:=Tryz.zeroValue23
 t46:=Tryz.underlying212
 a46:=Tryz.isAgg212
 z46:=Tryz.sizeOf212
 v46:=Tryz.zeroValue212
 t51:=Tryz.underlying264
 a51:=Tryz.isAgg264
 z51:=Tryz.sizeOf264
 v51:=Tryz.zeroValue264
 t53:=Tryz.underlying266
 a53:=Tryz.isAgg266
 z53:=Tryz.sizeOf266
 v53:=Tryz.zeroValue266
 t131:=Tryz.underlying261
 a131:=Tryz.isAgg261
 z131:=Tryz.sizeOf261
 v131:=Tryz.zeroValue261
 t182:=Tryz.underlying256
 a182:=Tryz.isAgg256
 z182:=Tryz.sizeOf256
 v182:=Tryz.zeroValue256
 t183:=Tryz.underlying257
 a183:=Tryz.isAgg257
 z183:=Tryz.sizeOf257
 v183:=Tryz.zeroValue257
 t218:=Tryz.underlying286
 a218:=Tryz.isAgg286
 z218:=Tryz.sizeOf286
 v218:=Tryz.zeroValue286
 t222:=Tryz.underlying290
 a222:=Tryz.isAgg290
 z222:=Tryz.sizeOf290
 v222:=Tryz.zeroValue290
 t228:=Tryz.underlying318
 a228:=Tryz.isAgg318
 z228:=Tryz.sizeOf318
 v228:=Tryz.zeroValue318
 t229:=Tryz.underlying319
 a229:=Tryz.isAgg319
 z229:=Tryz.sizeOf319
 v229:=Tryz.zeroValue319 }
open Go.Sort Go.RowKit in
theorem Tryz.slices_Sort_string (blk off cap:Nat) (ss:List (List UInt8)) (w:World) (hH:Holds encStr w blk off ss.toArray) (hblk:blk<w.heap.size) (hsz:ss.length<4611686018427387904) :
  Calls Tryz.prog 258 #[.slice (some ⟨blk,off,none⟩) ss.length cap] w fun e w' =>
   e = .returned (.tuple #[])∧∃ n os,w'=grow (putRow encStr (Sort.ahead w n) blk off (ss.mergeSort fun x y=>decide (x≤y)).toArray) os:=Any.slices_Sort_string Tryz.lays190 blk off cap ss w hH hblk hsz
open Go.RowKit Go.Lib in
open Go.RowKit Go.Lib in
open Go.RowKit Go.Lib in
open Go.RowKit Go.Lib in
open Go.RowKit Go.Lib in
open Go.RowKit Go.Lib in
def Tryz.lays194_ren:Go.Shelf.Ren:=⟨fun|194=>205|n=>n,fun|31=>23|9=>9|3=>3|4=>4|0=>0|n=>n,fun|n=>n⟩
theorem Tryz.lays194:Go.Proofs.Lays.n194 Tryz.prog Tryz.lays194_ren:={
 mixed:=by kernel_rfl
 f194:=Tryz.func205.trans (congrArg some (by kernel_rfl))
 t0:=Tryz.underlying0
 a0:=Tryz.isAgg0
 z0:=Tryz.sizeOf0
 v0:=Tryz.zeroValue0
 t3:=Tryz.underlying3
 a3:=Tryz.isAgg3
 z3:=Tryz.sizeOf3
 v3:=Tryz.zeroValue3
 t4:=Tryz.underlying4
 a4:=Tryz.isAgg4
 z4:=Tryz.sizeOf4
 v4:=Tryz.zeroValue4
 t9:=Tryz.underlying9
 a9:=Tryz.isAgg9
 z9:=Tryz.sizeOf9
 v9:=Tryz.zeroValue9
 t31:=Tryz.underlying23
 a31:=Tryz.isAgg23
 z31:=Tryz.sizeOf23
 v31:=Tryz.zeroValue23 }
open Go.RowKit Go.Lib Go.Sort in
theorem Tryz.slices_Compact_string (blk off cap:Nat) (zs:List (List UInt8)) (w:World) (hH:Holds encStr w blk off zs.toArray) (hsz:zs.length≤9223372036854775807) (hcap:zs.length≤cap) :
  Calls Tryz.prog 205 #[.slice (some ⟨blk,off,none⟩) zs.length cap] w fun e w'=>e = .returned (.slice (some ⟨blk,off,none⟩) (Lib.compact zs).length cap)∧∃ q,w'=putRow encStr (Sort.ahead w q) blk off (Lib.compact zs++List.replicate (zs.length - (Lib.compact zs).length) []).toArray:=Any.slices_Compact_string Tryz.lays194 blk off cap zs w hH hsz hcap
open Go.RowKit Go.Lib Go.Sort in
theorem Tryz.slices_Compact_string_empty (a:Option Addr) (cap:Nat) (w:World) :
  Calls Tryz.prog 205 #[.slice a 0 cap] w fun e w'=>e = .returned (.slice a 0 cap)∧w'=w:=Any.slices_Compact_string_empty Tryz.lays194 a cap w
open Go.RowKit Go.Sort in
theorem Tryz.slices_Sort_string_none (p:Option Addr) (cap:Nat) (w:World) :
  Calls Tryz.prog 258 #[.slice p 0 cap] w fun e w'=>e = .returned (.tuple #[])∧w'=w:=Any.slices_Sort_string_none Tryz.lays190 p cap w
def Tryz.sort253_ren:Go.Shelf.Ren:=⟨fun|6=>253|15=>183|14=>293|28=>241|29=>242|20=>317|21=>318|22=>319|23=>320|24=>321|25=>322|26=>323|27=>324|46=>348|47=>280|48=>281|49=>349|50=>350|57=>359|n=>n,fun|22=>69|24=>187|25=>272|3=>3|39=>212|0=>0|53=>264|55=>266|4=>4|46=>257|45=>256|50=>261|5=>5|9=>9|66=>286|70=>290|76=>318|77=>319|n=>n,fun|n=>n⟩
theorem Tryz.sort253:Go.Proofs.SlLaysF0.n6 Tryz.prog Tryz.sort253_ren:={
 mixed:=by kernel_rfl
 f6:=⟨Tryz.f253.name,by decide,Tryz.func253.trans (congrArg some (by kernel_rfl))⟩
 f14:=⟨Tryz.f293.name,by decide,Tryz.func293.trans (congrArg some (by kernel_rfl))⟩
 f15:=Tryz.func183.trans (congrArg some (by kernel_rfl))
 f20:=⟨Tryz.f317.name,by decide,Tryz.func317.trans (congrArg some (by kernel_rfl))⟩
 f21:=⟨Tryz.f318.name,by decide,Tryz.func318.trans (congrArg some (by kernel_rfl))⟩
 f22:=⟨Tryz.f319.name,by decide,Tryz.func319.trans (congrArg some (by kernel_rfl))⟩
 f23:=⟨Tryz.f320.name,by decide,Tryz.func320.trans (congrArg some (by kernel_rfl))⟩
 f24:=⟨Tryz.f321.name,by decide,Tryz.func321.trans (congrArg some (by kernel_rfl))⟩
 f25:=⟨Tryz.f322.name,by decide,Tryz.func322.trans (congrArg some (by kernel_rfl))⟩
 f26:=⟨Tryz.f323.name,by decide,Tryz.func323.trans (congrArg some (by kernel_rfl))⟩
 f27:=⟨Tryz.f324.name,by decide,Tryz.func324.trans (congrArg some (by kernel_rfl))⟩
 f28:=Tryz.func241.trans (congrArg some (by kernel_rfl))
 f29:=Tryz.func242.trans (congrArg some (by kernel_rfl))
 f46:=⟨Tryz.f348.name,by decide,Tryz.func348.trans (congrArg some (by kernel_rfl))⟩
 f47:=Tryz.func280.trans (congrArg some (by kernel_rfl))
 f48:=Tryz.func281.trans (congrArg some (by kernel_rfl))
 f49:=⟨Tryz.f349.name,by decide,Tryz.func349.trans (congrArg some (by kernel_rfl))⟩
 f50:=⟨Tryz.f350.name,by decide,Tryz.func350.trans (congrArg some (by kernel_rfl))⟩
 f57:=⟨Tryz.f359.name,by decide,Tryz.func359.trans (congrArg some (by kernel_rfl))⟩
 t0:=Tryz.underlying0
 a0:=Tryz.isAgg0
 z0:=Tryz.sizeOf0
 v0:=Tryz.zeroValue0
 t3:=Tryz.underlying3
 a3:=Tryz.isAgg3
 z3:=Tryz.sizeOf3
 v3:=Tryz.zeroValue3
 t4:=Tryz.underlying4
 a4:=Tryz.isAgg4
 z4:=Tryz.sizeOf4
 v4:=Tryz.zeroValue4
 t5:=Tryz.underlying5
 a5:=Tryz.isAgg5
 z5:=Tryz.sizeOf5
 v5:=Tryz.zeroValue5
 t9:=Tryz.underlying9
 a9:=Tryz.isAgg9
 z9:=Tryz.sizeOf9
 v9:=Tryz.zeroValue9
 t22:=Tryz.underlying69
 a22:=Tryz.isAgg69
 z22:=Tryz.sizeOf69
 v22:=Tryz.zeroValue69
 t25:=Tryz.underlying272
 a25:=Tryz.isAgg272
 z25:=Tryz.sizeOf272
 v25:=Tryz.zeroValue272
 t39:=Tryz.underlying212
 a39:=Tryz.isAgg212
 z39:=Tryz.sizeOf212
 v39:=Tryz.zeroValue212
 t45:=Tryz.underlying256
 a45:=Tryz.isAgg256
 z45:=Tryz.sizeOf256
 v45:=Tryz.zeroValue256
 t46:=Tryz.underlying257
 a46:=Tryz.isAgg257
 z46:=Tryz.sizeOf257
 v46:=Tryz.zeroValue257
 t50:=Tryz.underlying261
 a50:=Tryz.isAgg261
 z50:=Tryz.sizeOf261
 v50:=Tryz.zeroValue261
 t53:=Tryz.underlying264
 a53:=Tryz.isAgg264
 z53:=Tryz.sizeOf264
 v53:=Tryz.zeroValue264
 t55:=Tryz.underlying266
 a55:=Tryz.isAgg266
 z55:=Tryz.sizeOf266
 v55:=Tryz.zeroValue266
 t66:=Tryz.underlying286
 a66:=Tryz.isAgg286
 z66:=Tryz.sizeOf286
 v66:=Tryz.zeroValue286
 t70:=Tryz.underlying290
 a70:=Tryz.isAgg290
 z70:=Tryz.sizeOf290
 v70:=Tryz.zeroValue290
 t76:=Tryz.underlying318
 a76:=Tryz.isAgg318
 z76:=Tryz.sizeOf318
 v76:=Tryz.zeroValue318
 t77:=Tryz.underlying319
 a77:=Tryz.isAgg319
 z77:=Tryz.sizeOf319
 v77:=Tryz.zeroValue319 }
end Go.Proofs
end
section
set_option linter.unusedSectionVars false
namespace Go.Proofs.YtdcphpbimeoioaaGreatDoorE
open Go Go.ChangeShapes Go.WideShapes Go.ChangeAt Go.RowKit Go.Shelf Go.Proofs.YtdcphpbimeoioaaGreatDoor
set_option linter.unusedVariables false
set_option maxRecDepth 100000
abbrev synS:ByteArray:={ data:=#[105,110,118,97,108,105,100,32,115,121,110,116,97,120] }
abbrev rngS:ByteArray:={ data:=#[118,97,108,117,101,32,111,117,116,32,111,102,32,114,97,110,103,101] }
noncomputable def lowB:Nat:=(World.holding Tryz.prog default ⟨#[],#[],[]⟩).heap.size
def setCells (vs:Array Value):Obj→Obj
 | .cells _ t frozen => .cells vs t frozen
 | o=>o
noncomputable def laidWorld (os:Os):World :=
 let w0:=World.holding Tryz.prog os ⟨#[.cells #[.string synS] 350, .cells #[.string rngS] 350],#[],[]⟩
 { w0 with heap:=((((((w0.heap.modify 7 (setCells (cells_of Rows.laid_unicode_utf8_acceptRanges).toArray)).modify 6 (setCells (cells_of Rows.laid_unicode_utf8_first).toArray)).modify 5 (setCells (cells_of Rows.laid_math_bits_deBruijn64tab).toArray)).modify 4 (setCells (cells_of Rows.laid_math_bits_deBruijn32tab).toArray)).modify 1 (setCells (cells_of Rows.laid_internal_strconv_uint64pow10).toArray)).modify 2 (setCells #[.iface 348 (.pointer (some ⟨lowB,0,none⟩))])).modify 3 (setCells #[.iface 348 (.pointer (some ⟨lowB+1,0,none⟩))]) }
theorem star_eq:("*" ++ "errors.errorString") = "*errors.errorString":=by decide+kernel
theorem row_err (u:TypeId) (h:Tryz.prog.typeName? 3 u=some "*errors.errorString"):u=348 :=
 typeName_ptr_named (nm := "errors.errorString") (by rw [star_eq];kernel_rfl) (by kernel_rfl) (by decide) u (by rw [star_eq];exact h)
noncomputable def fE:Field:=match Tryz.prog.underlying 350 with
 | some (.struct fs)=>(match fs.toList with|[f]=>f|_=>Field.mk "" 0 0 false "" "" 0)
 | _=>Field.mk "" 0 0 false "" "" 0
theorem fE_eq:Tryz.prog.underlying 350=some (.struct #[fE]):=by kernel_rfl
theorem fE_type:fE.type=9:=by kernel_rfl
theorem fE_off:fE.offset=0:=by kernel_rfl
theorem g1:Tryz.prog.globalNamed "internal/strconv.uint64pow10"=some 1:=by kernel_rfl
theorem gHolds_of {W:World} (hL:laidMetH Tryz.prog Rows.rowTellsRow.laid W) (hsh:W.ShapedOpen Tryz.prog):gHolds W:=by
 rw [Go.MakeChecks.laidMetH_plain _ _ _ (by rfl)] at hL
 have h1:laidMet Tryz.prog (("internal/strconv.uint64pow10",Lib.tabData .u64 Lib.pow10Tab) ::_) W:=hL.tail.tail
 refine ⟨Tryz.laysM219.s1_3 W hsh,?_,?_⟩
 ·exact Lib.tabIs_of_head (g:=1) (t:=308) (e:=266) (n:=20) g1 (by kernel_rfl) (by kernel_rfl) (by kernel_rfl) (by kernel_rfl) (by kernel_rfl) h1
 ·have h4:=hL.tail.tail.tail.tail
  obtain ⟨a1,s1,hv1, -, -, -⟩:=laid_sentinel h4 (g:=3) (ti:=239) (ms:=Tryz.prog.methodsAt 239) (te:=350) (ts:=9) (by kernel_rfl) (by kernel_rfl) (by kernel_rfl) row_err (by kernel_rfl) fE_eq fE_type fE_off (by kernel_rfl) (by kernel_rfl) (by kernel_rfl)
  refine ⟨.iface 348 (.pointer (some a1)),?_, .inr ⟨_,_,rfl⟩⟩
  have h0:=World.var?_cell (show Tryz.prog.globalNamed "strconv.ErrRange"=some 3 by kernel_rfl) hv1 0
  simpa using h0
end Go.Proofs.YtdcphpbimeoioaaGreatDoorE
end
section
set_option linter.unusedSectionVars false
namespace Go.Proofs.YtdcphpbimeoioaaGreatDoorE
open Go Go.RowKit
set_option linter.unusedVariables false
set_option linter.unusedSimpArgs false
variable [Dm]
structure BelD (w w':World):Prop extends Below w.heap.size w w' where
 drawn:Dm.dm=true→w.drawn≤w'.drawn
theorem BelD.refl (w:World):BelD w w:=⟨Below.refl _ _,fun _=>Nat.le_refl _⟩
def flatTy:Ty→Bool
 | .int _|.bool|.str=>true
 | _=>false
def scal:(t:Ty)→El t→Value
 | .int k,n => .int k n
 | .bool,b => .bool b
 | .str,s => .string s
 | _,_=>undef
def scals:(tys:List Ty)→SgEl (tys.map Sg.tree)→List Value
 | [],_=>[]
 | t ::r,x=>scal t x.1 ::scals r x.2
def scalr:(rs:List Ty)→RtEl (rs.map Rt.tree)→List Value
 | [],_=>[]
 | t ::r,x=>scal t x.1 ::scalr r x.2
def resV (rs:List Ty) (y:RtEl (rs.map Rt.tree)):Value :=
 match rs,y with
 | [t],y=>scal t y.1
 | rs,y => .tuple (scalr rs y).toArray
section
variable {P:Program} {S:Nat→SL} {F:Nat→Prop} {w:World}
theorem scal_val {t:Ty} (h:flatTy t=true) (x:El t):Val S F w (valPV t x) (scal t x):=by
 cases t with
 | int k=>exact .int _ _
 | bool=>exact .bool _
 | str=>exact .str _
 | _=>cases h
theorem scal_of {t:Ty} (h:flatTy t=true) {x:El t} {v:Value} (hv:Val S F w (valPV t x) v):v=scal t x:=by
 cases t with
 | int k=>exact val_int hv
 | bool=>exact val_bool hv
 | str=>exact val_str hv
 | _=>cases h
theorem scals_of:∀ (tys:List Ty),tys.all flatTy=true→∀ (x:SgEl (tys.map Sg.tree)) (vs:List Value) (n:Nat),vs.length=(argsOf (tys.map Sg.tree) x n).length→(∀ (i:Nat) (p:PV) (v:Value),(argsOf (tys.map Sg.tree) x n)[i]?=some p→vs[i]?=some v→Val S F w p v)→vs=scals tys x
 | [],_,_,vs,n,hl,_=>by
  have:vs.length=0:=hl
  exact List.length_eq_zero_iff.1 this
 | t ::tys,h,x,vs,n,hl,hv=>by
  simp only [List.all_cons,Bool.and_eq_true] at h
  cases vs with
  | nil=>have:(0:Nat)=(argsOf (tys.map Sg.tree) x.2 n).length+1:=hl;omega
  | cons v vs =>
   have h1:=scal_of h.1 (hv 0 (valPV t x.1) v rfl rfl)
   have h2:=scals_of tys h.2 x.2 vs n (by have:vs.length+1=(argsOf (tys.map Sg.tree) x.2 n).length+1:=hl;omega) fun i p u hp hu=>hv (i+1) p u hp hu
   rw [h1,h2];rfl
theorem scalr_val:∀ (rs:List Ty),rs.all flatTy=true→∀ (y:RtEl (rs.map Rt.tree)) (i:Nat) (p:PV) (v:Value),(resList (rs.map Rt.tree) y)[i]?=some p→(scalr rs y)[i]?=some v→Val S F w p v
 | [],_,_,i,p,v,hp,_=>by have hp:([]:List PV)[i]?=some p:=hp;simp at hp
 | t ::rs,h,y,i,p,v,hp,hv=>by
  simp only [List.all_cons,Bool.and_eq_true] at h
  have hp:(valPV t y.1 ::resList (rs.map Rt.tree) y.2)[i]?=some p:=hp
  have hv:(scal t y.1 ::scalr rs y.2)[i]?=some v:=hv
  cases i with
  | zero=>simp at hp hv;subst hp;subst hv;exact scal_val h.1 _
  | succ i=>exact scalr_val rs h.2 y.2 i p v (by simpa using hp) (by simpa using hv)
theorem scalr_len:∀ (rs:List Ty) (y:RtEl (rs.map Rt.tree)),(scalr rs y).length=(resList (rs.map Rt.tree) y).length
 | [],_=>rfl
 | t ::rs,y=>congrArg (·+1) (scalr_len rs y.2)
theorem res_val {rs:List Ty} (h:rs.all flatTy=true) (y:RtEl (rs.map Rt.tree)) (m:Nat):Val S F w (resOfT (rs.map Rt.tree) y m).1 (resV rs y)∧(resOfT (rs.map Rt.tree) y m).2=[]:=by
 match rs,y,h with
 | [],y,h=>exact ⟨.tup _ _ rfl (fun i p v hp=>by have hp:([]:List PV)[i]?=some p:=hp;simp at hp),rfl⟩
 | [t],y,h =>
  simp only [List.all_cons,List.all_nil,Bool.and_true] at h
  exact ⟨scal_val h _,rfl⟩
 | t ::t2 ::r,y,h=>exact ⟨.tup _ _ (by rw [List.size_toArray];exact scalr_len (t ::t2 ::r) y) (fun i p v hp hv=>scalr_val (t ::t2 ::r) h y i p v hp (by simpa using hv)),rfl⟩
theorem ent_scalg {f:FuncId} {tys rs:List Ty} (ht:tys.all flatTy=true) (hr:rs.all flatTy=true) (hE:Enters P f) {G:SgEl (tys.map Sg.tree)→Option (RtEl (rs.map Rt.tree)×OutEl (tys.map Sg.tree))}
  (h:∀ x y,G x=some y→∀ w,gHolds w→Calls P f (scals tys x).toArray w fun e w'=>e = .returned (resV rs y.1)∧BelD w w'):EntOk P ⟨f,tys.map Sg.tree,rs.map Rt.tree,G⟩:=by
 intro x y hy
 refine ⟨hE,?_⟩
 intro S F w vs hR hA
 have hv:vs.toList=scals tys x:=scals_of tys ht x vs.toList 0 (by simpa using hA.1) fun i p v hp hu=>hA.2 i p v hp (by simpa using hu)
 have hv':vs=(scals tys x).toArray:=by rw [← hv]
 rw [hv']
 refine (h x y hy w hR.gl.2).mono ?_
 rintro e w' ⟨rfl,bel⟩
 have hh:=heap_trees tys x
 rw [hh] at hR
 obtain ⟨g1,g2⟩:=res_val (S:=S) (F:=F) (w:=w') hr y.1 (nIds (tys.map Sg.tree))
 have e2:(encOut (tys.map Sg.tree) (rs.map Rt.tree) x y).2=[]:=by
  unfold encOut
  generalize resOfT (rs.map Rt.tree) y.1 (nIds (tys.map Sg.tree))=q at g2
  obtain ⟨q1,q2⟩:=q
  simp only at g2 ⊢
  rw [g2,outHeap_trees];rfl
 have e1:(encOut (tys.map Sg.tree) (rs.map Rt.tree) x y).1=(resOfT (rs.map Rt.tree) y.1 (nIds (tys.map Sg.tree))).1:=by
  unfold encOut
  generalize resOfT (rs.map Rt.tree) y.1 (nIds (tys.map Sg.tree))=q
  rfl
 have hS:∀ b,S b = .unused:=fun b=>unused_S hR (by simp [hget])
 have hno:∀ k,¬ WR S ([]:Heap) k:=by rintro k ⟨b,z,hz,_⟩;simp [hget] at hz
 refine ⟨_,S,F,rfl,?_,by rw [e1];exact g1,?_⟩
 ·rw [e2]
  exact ⟨fun b=>by rw [hS];simp [hget,SlotOk],fun b b' k h1=>(by rw [hS] at h1;simp [blkOf] at h1),fun k hk=>Nat.lt_of_lt_of_le (hR.fsz k hk) bel.size,hR.gl.mono (fun _ h=>h) fun k hk=>bel.block k (hR.fsz k hk)⟩
 ·rw [e2,hh]
  exact ⟨fun _ h=>h,fun b hb=>absurd (hS b) hb,bel.size,fun k hk _=>bel.block k hk,fun k hk=>absurd hk (hno k),fun _ h => .inl h,bel.os,bel.tape,bel.output,bel.drawn⟩
theorem ent_scal {f:FuncId} {tys rs:List Ty} (ht:tys.all flatTy=true) (hr:rs.all flatTy=true) (hE:Enters P f) {G:SgEl (tys.map Sg.tree)→Option (RtEl (rs.map Rt.tree)×OutEl (tys.map Sg.tree))}
  (h:∀ x y,G x=some y→∀ w,Calls P f (scals tys x).toArray w fun e w'=>e = .returned (resV rs y.1)∧BelD w w'):EntOk P ⟨f,tys.map Sg.tree,rs.map Rt.tree,G⟩:=ent_scalg ht hr hE fun x y hy w _=>h x y hy w
end
theorem enters {P:Program} {f:FuncId} {fn:Func} (h:P.funcs[f]?=some fn) (h1:fn.body.isSome=true) (h2:(fn.name == "runtime.NumGoroutine")=false):Enters P f:=⟨fn,h,h1,h2⟩
theorem kept {P:Program} {f:FuncId} {vs:Array Value} {w:World} {v:Value} (h:Calls P f vs w fun e w'=>e = .returned v∧w'=w):Calls P f vs w fun e w'=>e = .returned v∧BelD w w' :=
 h.mono fun e w' hh=>⟨hh.1,hh.2 ▸ BelD.refl _⟩
end Go.Proofs.YtdcphpbimeoioaaGreatDoorE
end
section
set_option linter.unusedSectionVars false
namespace Go.Proofs.YtdcphpbimeoioaaGreatDoorE
open Go Go.RowKit Go.Shelf
set_option linter.unusedVariables false
theorem belOff {w w':World} (h:Below w.heap.size w w'):BelD w w':=⟨h,fun d=>Bool.noConfusion d⟩
theorem grown {P:Program} {f:FuncId} {vs:Array Value} {w:World} {v:Value} (h:Calls P f vs w fun e w'=>e = .returned v∧Below w.heap.size w w'):Calls P f vs w fun e w'=>e = .returned v∧BelD w w':=h.mono fun e w' hh=>⟨hh.1,belOff hh.2⟩
abbrev s_IndexByte_sg:List Sg:=[.tree .str, .tree (.int .u8)]
abbrev s_IndexByte_rs:List Rt:=[.tree (.int .i64)]
def s_IndexByte (n:Nat) (x:SgEl s_IndexByte_sg):Option (RtEl s_IndexByte_rs×OutEl s_IndexByte_sg):=some ((Lib.indexByte x.1.data.toList x.2.1.toNat.toUInt8,()),((),(),()))
abbrev s_IndexByte_ent (n:Nat):Ent:=⟨171,s_IndexByte_sg,s_IndexByte_rs,s_IndexByte n⟩
theorem s_IndexByte_ok (n:Nat):EntOk Tryz.prog (s_IndexByte_ent n) :=
 ent_scal (tys:=[.str, .int .u8]) (rs:=[.int .i64]) rfl rfl (enters Tryz.func171 (by kernel_rfl) (by kernel_rfl)) fun x y h w=>by
  cases h;exact kept (Tryz.strings_IndexByte x.1 x.2.1 w)
abbrev s_Compare_sg:List Sg:=[.tree .str, .tree .str]
abbrev s_Compare_rs:List Rt:=[.tree (.int .i64)]
def s_Compare (n:Nat) (x:SgEl s_Compare_sg):Option (RtEl s_Compare_rs×OutEl s_Compare_sg):=some ((Lib.compareBytes x.1.data.toList x.2.1.data.toList,()),((),(),()))
abbrev s_Compare_ent (n:Nat):Ent:=⟨118,s_Compare_sg,s_Compare_rs,s_Compare n⟩
theorem s_Compare_ok [Dm] (n:Nat):EntOk Tryz.prog (s_Compare_ent n) :=
 ent_scal (tys:=[.str, .str]) (rs:=[.int .i64]) rfl rfl (enters Tryz.func118 (by kernel_rfl) (by kernel_rfl)) fun x y h w=>by
  cases h;exact kept (Tryz.strings_Compare x.1 x.2.1 w)
abbrev s_Index1_sg:List Sg:=[.tree .str, .tree .str]
abbrev s_Index1_rs:List Rt:=[.tree (.int .i64)]
def s_Index1 (n:Nat) (x:SgEl s_Index1_sg):Option (RtEl s_Index1_rs×OutEl s_Index1_sg) :=
 match x.2.1.data.toList with
 | [c]=>some ((Lib.indexByte x.1.data.toList c,()),((),(),()))
 | l=>bif Nat.blt x.1.size 4294967281 then some ((Lib.index x.1.data.toList l,()),((),(),())) else none
theorem gMax {w:World} (hg:gHolds w):∃ m,w.cell? ⟨0,0,none⟩=some (.int .i64 m):=hg.1
abbrev s_Index1_ent (n:Nat):Ent:=⟨303,s_Index1_sg,s_Index1_rs,s_Index1 n⟩
theorem s_Index1_ok (n:Nat):EntOk Tryz.prog (s_Index1_ent n) :=
 ent_scalg (tys:=[.str, .str]) (rs:=[.int .i64]) rfl rfl (enters Tryz.func303 (by kernel_rfl) (by kernel_rfl)) fun x y h w hg=>by
  obtain ⟨s,⟨⟨l⟩⟩,u⟩:=x
  unfold s_Index1 at h
  split at h
  ·rename_i c hc
   simp only at hc
   subst hc
   cases h;exact kept (Tryz.stringslite_Index_one s c w)
  ·obtain ⟨h0,h⟩:=cond_some h
   cases h
   obtain ⟨m,hm⟩:=gMax hg
   exact kept (Tryz.stringslite_Index s ⟨⟨l⟩⟩ m w (Nat.le_of_ble_eq_true h0) hm)
abbrev s_Trim_sg:List Sg:=[.tree .str, .tree .str]
abbrev s_Trim_rs:List Rt:=[.tree .str]
def s_Trim (n:Nat) (x:SgEl s_Trim_sg):Option (RtEl s_Trim_rs×OutEl s_Trim_sg) :=
 bif Nat.ble x.1.size 9223372036854775807 && Nat.blt x.2.1.size 4294967281 && x.2.1.data.toList.all (fun b=>decide (b.toNat<128)) then some ((⟨(Lib.trimS x.1.data.toList x.2.1.data.toList).toArray⟩,()),((),(),())) else none
abbrev s_Trim_ent (n:Nat):Ent:=⟨248,s_Trim_sg,s_Trim_rs,s_Trim n⟩
theorem s_Trim_ok (n:Nat):EntOk Tryz.prog (s_Trim_ent n) :=
 ent_scal (tys:=[.str, .str]) (rs:=[.str]) rfl rfl (enters Tryz.func248 (by kernel_rfl) (by kernel_rfl)) fun x y h w=>by
  obtain ⟨h0,h⟩:=cond_some h
  simp only [Bool.and_eq_true] at h0
  cases h
  exact grown (Any.strings_Trim_laid Tryz.lays160 (by kernel_rfl) x.1 x.2.1 w (Nat.le_of_ble_eq_true h0.1.1) (Nat.le_of_ble_eq_true h0.1.2) (ascii_of_all h0.2))
end Go.Proofs.YtdcphpbimeoioaaGreatDoorE
end
section
set_option linter.unusedSectionVars false
namespace Go.Proofs.YtdcphpbimeoioaaGreatDoorE
open Go Go.RowKit Go.Shelf
set_option linter.unusedVariables false
set_option linter.unusedSimpArgs false
theorem ent_flat {P:Program} {f:FuncId} {tys rs:List Ty} (hr:rs.all flatTy=true) (hE:Enters P f) {G:SgEl (tys.map Sg.tree)→Option (RtEl (rs.map Rt.tree)×OutEl (tys.map Sg.tree))}
  (h:∀ x y,G x=some y→∀ (S:Nat→SL) (F:Nat→Prop) (w:World) (vs:Array Value),(∀ k,F k→k<w.heap.size)→Args S F w (argsOf (tys.map Sg.tree) x 0) vs→Calls P f vs w fun e w'=>e = .returned (resV rs y.1)∧BelD w w'):EntOk P ⟨f,tys.map Sg.tree,rs.map Rt.tree,G⟩:=by
 intro x y hy
 refine ⟨hE,?_⟩
 intro S F w vs hR hA
 refine (h x y hy S F w vs hR.fsz hA).mono ?_
 rintro e w' ⟨rfl,bel⟩
 have hh:=heap_trees tys x
 rw [hh] at hR
 obtain ⟨g1,g2⟩:=res_val (S:=S) (F:=F) (w:=w') hr y.1 (nIds (tys.map Sg.tree))
 have e2:(encOut (tys.map Sg.tree) (rs.map Rt.tree) x y).2=[]:=by
  unfold encOut
  generalize resOfT (rs.map Rt.tree) y.1 (nIds (tys.map Sg.tree))=q at g2
  obtain ⟨q1,q2⟩:=q
  simp only at g2 ⊢
  rw [g2,outHeap_trees];rfl
 have e1:(encOut (tys.map Sg.tree) (rs.map Rt.tree) x y).1=(resOfT (rs.map Rt.tree) y.1 (nIds (tys.map Sg.tree))).1:=by
  unfold encOut
  generalize resOfT (rs.map Rt.tree) y.1 (nIds (tys.map Sg.tree))=q
  rfl
 have hS:∀ b,S b = .unused:=fun b=>unused_S hR (by simp [hget])
 have hno:∀ k,¬ WR S ([]:Heap) k:=by rintro k ⟨b,z,hz,_⟩;simp [hget] at hz
 refine ⟨_,S,F,rfl,?_,by rw [e1];exact g1,?_⟩
 ·rw [e2]
  exact ⟨fun b=>by rw [hS];simp [hget,SlotOk],fun b b' k h1=>(by rw [hS] at h1;simp [blkOf] at h1),fun k hk=>Nat.lt_of_lt_of_le (hR.fsz k hk) bel.size,hR.gl.mono (fun _ h=>h) fun k hk=>bel.block k (hR.fsz k hk)⟩
 ·rw [e2,hh]
  exact ⟨fun _ h=>h,fun b hb=>absurd (hS b) hb,bel.size,fun k hk _=>bel.block k hk,fun k hk=>absurd hk (hno k),fun _ h => .inl h,bel.os,bel.tape,bel.output,bel.drawn⟩
abbrev s_Join_sg:List Sg:=[.tree (.slice .str), .tree .str]
abbrev s_Join_rs:List Rt:=[.tree .str]
def joinX (xs:List ByteArray) (sep:ByteArray):ByteArray:=⟨(Lib.join (xs.map (·.data.toList)) sep.data.toList).toArray⟩
def s_Join (n:Nat) (x:SgEl s_Join_sg):Option (RtEl s_Join_rs×OutEl s_Join_sg) :=
 bif Nat.ble x.1.length 140737488355328 && Nat.ble (Lib.join (x.1.map (·.data.toList)) x.2.1.data.toList).length 140737488355328 then some ((joinX x.1 x.2.1,()),((),(),())) else none
abbrev s_Join_ent (n:Nat):Ent:=⟨151,s_Join_sg,s_Join_rs,s_Join n⟩
theorem s_Join_ok (n:Nat):EntOk Tryz.prog (s_Join_ent n) :=
 ent_flat (tys:=[.slice .str, .str]) (rs:=[.str]) rfl (enters Tryz.func151 (by kernel_rfl) (by kernel_rfl)) fun x y h S F w vs hF hA=>by
  obtain ⟨xs,sep,u⟩:=x
  obtain ⟨h0,h⟩:=cond_some h
  simp only [Bool.and_eq_true] at h0
  cases h
  have hn:=Nat.le_of_ble_eq_true h0.1
  have hl:=Nat.le_of_ble_eq_true h0.2
  have hlen:vs.size=2:=hA.1
  obtain ⟨v0,v1,rfl⟩:∃ v0 v1,vs=#[v0,v1]:=by
   obtain ⟨l⟩:=vs
   match l,hlen with
   | [a,b],_=>exact ⟨a,b,rfl⟩
  have a0:Val S F w (.lst .str xs) v0:=hA.2 0 _ v0 rfl rfl
  have a1:Val S F w (.str sep) v1:=hA.2 1 _ v1 rfl rfl
  have e1:=val_str a1
  subst e1
  cases a0 with
  | lst _ _ a cap vf hc ha hs hcell hv =>
   by_cases hx:xs=[]
   ·subst hx
    exact (Tryz.strings_Join_none a cap sep w).mono fun e w' hh=>⟨hh.1,hh.2 ▸ BelD.refl _⟩
   ·obtain ⟨ad,rfl⟩:=ha hx
    have hsp:=hs hx ad rfl
    obtain ⟨bk,o,sp⟩:=ad
    simp only at hsp
    subst hsp
    have hcs:∀ (j:Nat) (x:ByteArray),xs[j]?=some x→w.cell? ⟨bk,o+j,none⟩=some (.string x):=by
     intro j x hj
     have h1:=(hcell _ j x 0 (.str x) rfl hj rfl).2
     have h2:=val_str (hv j x 0 (.str x) hj rfl)
     rw [h2] at h1
     simpa [Ty.size] using h1
    have hbk:bk<w.heap.size:=by
     cases xs with
     | nil=>exact absurd rfl hx
     | cons x r=>exact hF _ (hcell _ 0 x 0 (.str x) rfl rfl rfl).1
    exact grown (Tryz.strings_Join bk o cap xs sep w hcs hbk hn hc hl)
end Go.Proofs.YtdcphpbimeoioaaGreatDoorE
end
section
set_option linter.unusedSectionVars false
namespace Go.Proofs.YtdcphpbimeoioaaGreatDoorE
open Go
set_option linter.unusedVariables false
set_option maxRecDepth 100000
abbrev tSum:Ty := .pair (.int .i64) (.pair .bool .unit)
abbrev tTag:Ty := .pair .str (.pair .str .unit)
abbrev tKey:Ty := .pair .str (.pair (.slice tTag) .unit)
abbrev tMatch:Ty := .pair (.int .i64) tTag
abbrev tQuery:Ty := .pair (.int .i64) (.pair .str (.pair (.slice tMatch) (.pair (.slice .str) .unit)))
abbrev tRow:Ty := .pair (.int .i64) (.pair .str (.pair tSum .unit))
abbrev tCommand:Ty := .pair (.int .i64) (.pair tKey (.pair (.int .i64) (.pair (.int .i64) (.pair tQuery (.pair (.int .i64) .unit)))))
abbrev r01_Number_sg:List Sg:=[.tree (.int .i64)]
abbrev r01_Number_rs:List Rt:=[.tree .str]
def r01_Number_l0 (n:Nat):Nat→SgEl [.tree (.int .i64), .tree (.int .i64), .tree .str]→Option (SgEl [.tree (.int .i64), .tree .str] ⊕ SgEl [])
  | 0,_=>none
  | g+1,s =>
    bif ieq (10:Int) (0:Int) then
     none
    else
    bif sfits (ofBytes [iconv .u8 (iadd .i64 (48:Int) (isub .i64 (0:Int) (irem s.2.1 (10:Int))))]) s.2.2.1 then
     bif ieq (10:Int) (0:Int) then
      none
     else
     bif ieq (iquo .i64 s.2.1 (10:Int)) (0:Int) then
      some (Sum.inl (s.1,scat (ofBytes [iconv .u8 (iadd .i64 (48:Int) (isub .i64 (0:Int) (irem s.2.1 (10:Int))))]) s.2.2.1,()))
     else
     bindL (r01_Number_l0 n g (s.1,iquo .i64 s.2.1 (10:Int),scat (ofBytes [iconv .u8 (iadd .i64 (48:Int) (isub .i64 (0:Int) (irem s.2.1 (10:Int))))]) s.2.2.1,())) (fun a1 =>
      some (Sum.inl a1)) fun b2 =>
     some (Sum.inr ())
    else none
theorem r01_Number_l0_ok (n:Nat):∀ g,LEntOk Tryz.prog 87 (nSl r01_Number_sg) ⟨0,[.tree (.int .i64), .tree (.int .i64), .tree .str],0,[.tree (.int .i64), .tree .str],[],r01_Number_l0 n g⟩ g
  | 0=>loop_zero' fun _=>rfl
  | g+1=>loop_step' mixed (T:=[]) tabNil tabLNil (r01_Number_l0_ok n g) fun s=>by kernel_rfl
def r01_Number (n:Nat) (x:SgEl r01_Number_sg):Option (RtEl r01_Number_rs×OutEl r01_Number_sg) :=
  bif ilt (0:Int) x.1 then
   bindL (r01_Number_l0 n n (x.1,isub .i64 (0:Int) x.1,(⟨#[]⟩:ByteArray),())) (fun a1 =>
    bif ilt a1.1 (0:Int) then
     bif sfits (⟨#[45]⟩:ByteArray) a1.2.1 then
      some ((scat (⟨#[45]⟩:ByteArray) a1.2.1,()),((),()))
     else none
    else
    some (a1.2,((),()))) fun b2 =>
   none
  else
  bindL (r01_Number_l0 n n (x.1,x.1,(⟨#[]⟩:ByteArray),())) (fun a3 =>
   bif ilt a3.1 (0:Int) then
    bif sfits (⟨#[45]⟩:ByteArray) a3.2.1 then
     some ((scat (⟨#[45]⟩:ByteArray) a3.2.1,()),((),()))
    else none
   else
   some (a3.2,((),()))) fun b4 =>
  none
abbrev r01_Number_ent (n:Nat):Ent:=⟨87,r01_Number_sg,r01_Number_rs,r01_Number n⟩
theorem r01_Number_ok (n:Nat):EntOk Tryz.prog (r01_Number_ent n):=ent_ok' mixed (T:=[]) tabNil (tabLCons (r01_Number_l0_ok n n) tabLNil) fun x=>by kernel_rfl
abbrev r01_Read_sg:List Sg:=[.tree .str]
abbrev r01_Read_rs:List Rt:=[.tree (.int .i64), .tree (.int .i64)]
def r01_Read_l1 (n:Nat):Nat→SgEl [.tree .str, .tree .str, .tree (.int .i64), .tree (.int .i64)]→Option (SgEl [.tree .str, .tree .str, .tree (.int .i64)] ⊕ SgEl [.tree (.int .i64), .tree (.int .i64)])
  | 0,_=>none
  | g+1,s =>
    bif ilt s.2.2.2.1 (ssize s.2.1) then
     bif ile (0:Int) s.2.2.2.1 then
      bif ilt s.2.2.2.1 (ssize s.2.1) then
       bif ieq (10:Int) (0:Int) then
        none
       else
       bif ilt s.2.2.1 (iquo .i64 (iadd .i64 (-9223372036854775808:Int) (iconv .i64 (isub .u8 (sat s.2.1 s.2.2.2.1) (48:Int)))) (10:Int)) then
        some (Sum.inr ((0:Int),(3:Int),()))
       else
       bindL (r01_Read_l1 n g (s.1,s.2.1,isub .i64 (imul .i64 (10:Int) s.2.2.1) (iconv .i64 (isub .u8 (sat s.2.1 s.2.2.2.1) (48:Int))),iadd .i64 s.2.2.2.1 (1:Int),())) (fun a1 =>
        some (Sum.inl a1)) fun b2 =>
       some (Sum.inr b2)
      else none
     else none
    else
    some (Sum.inl (s.1,s.2.1,s.2.2.1,()))
theorem r01_Read_l1_ok (n:Nat):∀ g,LEntOk Tryz.prog 97 (nSl r01_Read_sg) ⟨1,[.tree .str, .tree .str, .tree (.int .i64), .tree (.int .i64)],2,[.tree .str, .tree .str, .tree (.int .i64)],[.tree (.int .i64), .tree (.int .i64)],r01_Read_l1 n g⟩ g
  | 0=>loop_zero' fun _=>rfl
  | g+1=>loop_step' mixed (T:=[]) tabNil tabLNil (r01_Read_l1_ok n g) fun s=>by kernel_rfl
def r01_Read_l0 (n:Nat):Nat→SgEl [.tree .str, .tree .str, .tree (.int .i64)]→Option (SgEl [.tree .str, .tree .str] ⊕ SgEl [.tree (.int .i64), .tree (.int .i64)])
  | 0,_=>none
  | g+1,s =>
    bif ilt s.2.2.1 (ssize s.2.1) then
     bif ile (0:Int) s.2.2.1 then
      bif ilt s.2.2.1 (ssize s.2.1) then
       bif ilt (sat s.2.1 s.2.2.1) (48:Int) then
        some (Sum.inr ((0:Int),(2:Int),()))
       else
       bif ile (0:Int) s.2.2.1 then
        bif ilt s.2.2.1 (ssize s.2.1) then
         bif ilt (57:Int) (sat s.2.1 s.2.2.1) then
          some (Sum.inr ((0:Int),(2:Int),()))
         else
         bindL (r01_Read_l0 n g (s.1,s.2.1,iadd .i64 s.2.2.1 (1:Int),())) (fun a1 =>
          some (Sum.inl a1)) fun b2 =>
         some (Sum.inr b2)
        else none
       else none
      else none
     else none
    else
    some (Sum.inl (s.1,s.2.1,()))
theorem r01_Read_l0_ok (n:Nat):∀ g,LEntOk Tryz.prog 97 (nSl r01_Read_sg) ⟨0,[.tree .str, .tree .str, .tree (.int .i64)],0,[.tree .str, .tree .str],[.tree (.int .i64), .tree (.int .i64)],r01_Read_l0 n g⟩ g
  | 0=>loop_zero' fun _=>rfl
  | g+1=>loop_step' mixed (T:=[]) tabNil (tabLCons (r01_Read_l1_ok n n) tabLNil) (r01_Read_l0_ok n g) fun s=>by kernel_rfl
def r01_Read (n:Nat) (x:SgEl r01_Read_sg):Option (RtEl r01_Read_rs×OutEl r01_Read_sg) :=
  bif ilt (1:Int) (ssize x.1) then
   bif ile (0:Int) (0:Int) then
    bif ilt (0:Int) (ssize x.1) then
     bif ieq (sat x.1 (0:Int)) (45:Int) then
      bif ile (0:Int) (1:Int) then
       bif ile (1:Int) (ssize x.1) then
        bif ile (ssize x.1) (ssize x.1) then
         bif ieq (ssize (sext x.1 (1:Int) (ssize x.1))) (0:Int) then
          some (((0:Int),(2:Int),()),((),()))
         else
         bif ile (0:Int) (0:Int) then
          bif ilt (0:Int) (ssize (sext x.1 (1:Int) (ssize x.1))) then
           bif ieq (sat (sext x.1 (1:Int) (ssize x.1)) (0:Int)) (48:Int) then
            bif ilt (1:Int) (ssize x.1) then
             some (((0:Int),(2:Int),()),((),()))
            else
            bindL (r01_Read_l0 n n (x.1,sext x.1 (1:Int) (ssize x.1),(0:Int),())) (fun a1 =>
             bindL (r01_Read_l1 n n (a1.1,a1.2.1,(0:Int),(0:Int),())) (fun a3 =>
              bif ilt (ssize a3.2.1) (ssize a3.1) then
               some ((a3.2.2.1,(0:Int),()),((),()))
              else
              bif ieq a3.2.2.1 (-9223372036854775808:Int) then
               some (((0:Int),(3:Int),()),((),()))
              else
              some ((isub .i64 (0:Int) a3.2.2.1,(0:Int),()),((),()))) fun b4 =>
             some (b4,((),()))) fun b2 =>
            some (b2,((),()))
           else
           bindL (r01_Read_l0 n n (x.1,sext x.1 (1:Int) (ssize x.1),(0:Int),())) (fun a5 =>
            bindL (r01_Read_l1 n n (a5.1,a5.2.1,(0:Int),(0:Int),())) (fun a7 =>
             bif ilt (ssize a7.2.1) (ssize a7.1) then
              some ((a7.2.2.1,(0:Int),()),((),()))
             else
             bif ieq a7.2.2.1 (-9223372036854775808:Int) then
              some (((0:Int),(3:Int),()),((),()))
             else
             some ((isub .i64 (0:Int) a7.2.2.1,(0:Int),()),((),()))) fun b8 =>
            some (b8,((),()))) fun b6 =>
           some (b6,((),()))
          else none
         else none
        else none
       else none
      else none
     else
     bif ieq (ssize x.1) (0:Int) then
      some (((0:Int),(2:Int),()),((),()))
     else
     bif ile (0:Int) (0:Int) then
      bif ilt (0:Int) (ssize x.1) then
       bif ieq (sat x.1 (0:Int)) (48:Int) then
        bif ilt (1:Int) (ssize x.1) then
         some (((0:Int),(2:Int),()),((),()))
        else
        bindL (r01_Read_l0 n n (x.1,x.1,(0:Int),())) (fun a9 =>
         bindL (r01_Read_l1 n n (a9.1,a9.2.1,(0:Int),(0:Int),())) (fun a11 =>
          bif ilt (ssize a11.2.1) (ssize a11.1) then
           some ((a11.2.2.1,(0:Int),()),((),()))
          else
          bif ieq a11.2.2.1 (-9223372036854775808:Int) then
           some (((0:Int),(3:Int),()),((),()))
          else
          some ((isub .i64 (0:Int) a11.2.2.1,(0:Int),()),((),()))) fun b12 =>
         some (b12,((),()))) fun b10 =>
        some (b10,((),()))
       else
       bindL (r01_Read_l0 n n (x.1,x.1,(0:Int),())) (fun a13 =>
        bindL (r01_Read_l1 n n (a13.1,a13.2.1,(0:Int),(0:Int),())) (fun a15 =>
         bif ilt (ssize a15.2.1) (ssize a15.1) then
          some ((a15.2.2.1,(0:Int),()),((),()))
         else
         bif ieq a15.2.2.1 (-9223372036854775808:Int) then
          some (((0:Int),(3:Int),()),((),()))
         else
         some ((isub .i64 (0:Int) a15.2.2.1,(0:Int),()),((),()))) fun b16 =>
        some (b16,((),()))) fun b14 =>
       some (b14,((),()))
      else none
     else none
    else none
   else none
  else
  bif ieq (ssize x.1) (0:Int) then
   some (((0:Int),(2:Int),()),((),()))
  else
  bif ile (0:Int) (0:Int) then
   bif ilt (0:Int) (ssize x.1) then
    bif ieq (sat x.1 (0:Int)) (48:Int) then
     bif ilt (1:Int) (ssize x.1) then
      some (((0:Int),(2:Int),()),((),()))
     else
     bindL (r01_Read_l0 n n (x.1,x.1,(0:Int),())) (fun a17 =>
      bindL (r01_Read_l1 n n (a17.1,a17.2.1,(0:Int),(0:Int),())) (fun a19 =>
       bif ilt (ssize a19.2.1) (ssize a19.1) then
        some ((a19.2.2.1,(0:Int),()),((),()))
       else
       bif ieq a19.2.2.1 (-9223372036854775808:Int) then
        some (((0:Int),(3:Int),()),((),()))
       else
       some ((isub .i64 (0:Int) a19.2.2.1,(0:Int),()),((),()))) fun b20 =>
      some (b20,((),()))) fun b18 =>
     some (b18,((),()))
    else
    bindL (r01_Read_l0 n n (x.1,x.1,(0:Int),())) (fun a21 =>
     bindL (r01_Read_l1 n n (a21.1,a21.2.1,(0:Int),(0:Int),())) (fun a23 =>
      bif ilt (ssize a23.2.1) (ssize a23.1) then
       some ((a23.2.2.1,(0:Int),()),((),()))
      else
      bif ieq a23.2.2.1 (-9223372036854775808:Int) then
       some (((0:Int),(3:Int),()),((),()))
      else
      some ((isub .i64 (0:Int) a23.2.2.1,(0:Int),()),((),()))) fun b24 =>
     some (b24,((),()))) fun b22 =>
    some (b22,((),()))
   else none
  else none
abbrev r01_Read_ent (n:Nat):Ent:=⟨97,r01_Read_sg,r01_Read_rs,r01_Read n⟩
theorem r01_Read_ok (n:Nat):EntOk Tryz.prog (r01_Read_ent n):=ent_ok' mixed (T:=[]) tabNil (tabLCons (r01_Read_l0_ok n n) (tabLCons (r01_Read_l1_ok n n) tabLNil)) fun x=>by kernel_rfl
abbrev r02_small_sg:List Sg:=[.tree (.int .u8)]
abbrev r02_small_rs:List Rt:=[.tree .bool]
def r02_small (n:Nat) (x:SgEl r02_small_sg):Option (RtEl r02_small_rs×OutEl r02_small_sg) :=
  bif ile (97:Int) x.1 then
   some ((ile x.1 (122:Int),()),((),()))
  else
  some ((false,()),((),()))
abbrev r02_small_ent (n:Nat):Ent:=⟨187,r02_small_sg,r02_small_rs,r02_small n⟩
theorem r02_small_ok (n:Nat):EntOk Tryz.prog (r02_small_ent n):=ent_ok' mixed (T:=[]) tabNil tabLNil fun x=>by kernel_rfl
abbrev r02_digit_sg:List Sg:=[.tree (.int .u8)]
abbrev r02_digit_rs:List Rt:=[.tree .bool]
def r02_digit (n:Nat) (x:SgEl r02_digit_sg):Option (RtEl r02_digit_rs×OutEl r02_digit_sg) :=
  bif ile (48:Int) x.1 then
   some ((ile x.1 (57:Int),()),((),()))
  else
  some ((false,()),((),()))
abbrev r02_digit_ent (n:Nat):Ent:=⟨188,r02_digit_sg,r02_digit_rs,r02_digit n⟩
theorem r02_digit_ok (n:Nat):EntOk Tryz.prog (r02_digit_ent n):=ent_ok' mixed (T:=[]) tabNil tabLNil fun x=>by kernel_rfl
abbrev r02_Name_sg:List Sg:=[.tree .str]
abbrev r02_Name_rs:List Rt:=[.tree .bool]
def r02_Name_l0 (n:Nat):Nat→SgEl [.tree .str, .tree (.int .i64)]→Option (SgEl [] ⊕ SgEl [.tree .bool])
  | 0,_=>none
  | g+1,s =>
    bif ilt s.2.1 (ssize s.1) then
     bif ile (0:Int) s.2.1 then
      bif ilt s.2.1 (ssize s.1) then
       bindN (r02_small n (sat s.1 s.2.1,())) fun p1 =>
       bif !p1.1.1 then
        bif ile (0:Int) s.2.1 then
         bif ilt s.2.1 (ssize s.1) then
          bindN (r02_digit n (sat s.1 s.2.1,())) fun p2 =>
          bif !p2.1.1 then
           bif ile (0:Int) s.2.1 then
            bif ilt s.2.1 (ssize s.1) then
             bif !(ieq (sat s.1 s.2.1) (95:Int)) then
              some (Sum.inr (false,()))
             else
             bindL (r02_Name_l0 n g (s.1,iadd .i64 s.2.1 (1:Int),())) (fun a3 =>
              some (Sum.inl ())) fun b4 =>
             some (Sum.inr b4)
            else none
           else none
          else
          bindL (r02_Name_l0 n g (s.1,iadd .i64 s.2.1 (1:Int),())) (fun a5 =>
           some (Sum.inl ())) fun b6 =>
          some (Sum.inr b6)
         else none
        else none
       else
       bindL (r02_Name_l0 n g (s.1,iadd .i64 s.2.1 (1:Int),())) (fun a7 =>
        some (Sum.inl ())) fun b8 =>
       some (Sum.inr b8)
      else none
     else none
    else
    some (Sum.inl ())
theorem r02_Name_l0_ok (n:Nat):∀ g,LEntOk Tryz.prog 135 (nSl r02_Name_sg) ⟨0,[.tree .str, .tree (.int .i64)],0,[],[.tree .bool],r02_Name_l0 n g⟩ g
  | 0=>loop_zero' fun _=>rfl
  | g+1=>loop_step' mixed (T:=[r02_small_ent n,r02_digit_ent n]) (tabCons (r02_small_ok n) (tabCons (r02_digit_ok n) tabNil)) tabLNil (r02_Name_l0_ok n g) fun s=>by kernel_rfl
def r02_Name (n:Nat) (x:SgEl r02_Name_sg):Option (RtEl r02_Name_rs×OutEl r02_Name_sg) :=
  bif ilt (ssize x.1) (1:Int) then
   some ((false,()),((),()))
  else
  bif ilt (12:Int) (ssize x.1) then
   some ((false,()),((),()))
  else
  bif ile (0:Int) (0:Int) then
   bif ilt (0:Int) (ssize x.1) then
    bindN (r02_small n (sat x.1 (0:Int),())) fun p1 =>
    bif !p1.1.1 then
     some ((false,()),((),()))
    else
    bindL (r02_Name_l0 n n (x.1,(0:Int),())) (fun a2 =>
     some ((true,()),((),()))) fun b3 =>
    some (b3,((),()))
   else none
  else none
abbrev r02_Name_ent (n:Nat):Ent:=⟨135,r02_Name_sg,r02_Name_rs,r02_Name n⟩
theorem r02_Name_ok (n:Nat):EntOk Tryz.prog (r02_Name_ent n):=ent_ok' mixed (T:=[r02_small_ent n,r02_digit_ent n]) (tabCons (r02_small_ok n) (tabCons (r02_digit_ok n) tabNil)) (tabLCons (r02_Name_l0_ok n n) tabLNil) fun x=>by kernel_rfl
abbrev r02_Value_sg:List Sg:=[.tree .str]
abbrev r02_Value_rs:List Rt:=[.tree .bool]
def r02_Value_l0 (n:Nat):Nat→SgEl [.tree .str, .tree (.int .i64)]→Option (SgEl [] ⊕ SgEl [.tree .bool])
  | 0,_=>none
  | g+1,s =>
    bif ilt s.2.1 (ssize s.1) then
     bif ile (0:Int) s.2.1 then
      bif ilt s.2.1 (ssize s.1) then
       bindN (r02_small n (sat s.1 s.2.1,())) fun p1 =>
       bif !p1.1.1 then
        bif ile (0:Int) s.2.1 then
         bif ilt s.2.1 (ssize s.1) then
          bindN (r02_digit n (sat s.1 s.2.1,())) fun p2 =>
          bif !p2.1.1 then
           bif ile (0:Int) s.2.1 then
            bif ilt s.2.1 (ssize s.1) then
             bif !(ieq (sat s.1 s.2.1) (95:Int)) then
              bif ile (0:Int) s.2.1 then
               bif ilt s.2.1 (ssize s.1) then
                bif !(ieq (sat s.1 s.2.1) (45:Int)) then
                 bif ile (0:Int) s.2.1 then
                  bif ilt s.2.1 (ssize s.1) then
                   bif !(ieq (sat s.1 s.2.1) (46:Int)) then
                    some (Sum.inr (false,()))
                   else
                   bindL (r02_Value_l0 n g (s.1,iadd .i64 s.2.1 (1:Int),())) (fun a3 =>
                    some (Sum.inl ())) fun b4 =>
                   some (Sum.inr b4)
                  else none
                 else none
                else
                bindL (r02_Value_l0 n g (s.1,iadd .i64 s.2.1 (1:Int),())) (fun a5 =>
                 some (Sum.inl ())) fun b6 =>
                some (Sum.inr b6)
               else none
              else none
             else
             bindL (r02_Value_l0 n g (s.1,iadd .i64 s.2.1 (1:Int),())) (fun a7 =>
              some (Sum.inl ())) fun b8 =>
             some (Sum.inr b8)
            else none
           else none
          else
          bindL (r02_Value_l0 n g (s.1,iadd .i64 s.2.1 (1:Int),())) (fun a9 =>
           some (Sum.inl ())) fun b10 =>
          some (Sum.inr b10)
         else none
        else none
       else
       bindL (r02_Value_l0 n g (s.1,iadd .i64 s.2.1 (1:Int),())) (fun a11 =>
        some (Sum.inl ())) fun b12 =>
       some (Sum.inr b12)
      else none
     else none
    else
    some (Sum.inl ())
theorem r02_Value_l0_ok (n:Nat):∀ g,LEntOk Tryz.prog 246 (nSl r02_Value_sg) ⟨0,[.tree .str, .tree (.int .i64)],0,[],[.tree .bool],r02_Value_l0 n g⟩ g
  | 0=>loop_zero' fun _=>rfl
  | g+1=>loop_step' mixed (T:=[r02_small_ent n,r02_digit_ent n]) (tabCons (r02_small_ok n) (tabCons (r02_digit_ok n) tabNil)) tabLNil (r02_Value_l0_ok n g) fun s=>by kernel_rfl
def r02_Value (n:Nat) (x:SgEl r02_Value_sg):Option (RtEl r02_Value_rs×OutEl r02_Value_sg) :=
  bif ilt (ssize x.1) (1:Int) then
   some ((false,()),((),()))
  else
  bif ilt (12:Int) (ssize x.1) then
   some ((false,()),((),()))
  else
  bindL (r02_Value_l0 n n (x.1,(0:Int),())) (fun a1 =>
   some ((true,()),((),()))) fun b2 =>
  some (b2,((),()))
abbrev r02_Value_ent (n:Nat):Ent:=⟨246,r02_Value_sg,r02_Value_rs,r02_Value n⟩
theorem r02_Value_ok (n:Nat):EntOk Tryz.prog (r02_Value_ent n):=ent_ok' mixed (T:=[r02_small_ent n,r02_digit_ent n]) (tabCons (r02_small_ok n) (tabCons (r02_digit_ok n) tabNil)) (tabLCons (r02_Value_l0_ok n n) tabLNil) fun x=>by kernel_rfl
abbrev r02_Split_sg:List Sg:=[.tree .str, .tree (.int .u8)]
abbrev r02_Split_rs:List Rt:=[.tree (.slice .str)]
def r02_Split_l0 (n:Nat):Nat→SgEl [.tree .str, .tree (.int .u8), .own .str, .tree (.int .i64), .tree (.int .i64)]→Option (SgEl [.tree .str, .own .str, .tree (.int .i64)] ⊕ SgEl [])
  | 0,_=>none
  | g+1,s =>
    bif ilt s.2.2.2.2.1 (ssize s.1) then
     bif ile (0:Int) s.2.2.2.2.1 then
      bif ilt s.2.2.2.2.1 (ssize s.1) then
       bif ieq (sat s.1 s.2.2.2.2.1) s.2.1 then
        bif ile (0:Int) s.2.2.2.1 then
         bif ile s.2.2.2.1 s.2.2.2.2.1 then
          bif ile s.2.2.2.2.1 (ssize s.1) then
           bif roomA s.2.2.1 [sext s.1 s.2.2.2.1 s.2.2.2.2.1] 16 then
            bindL (r02_Split_l0 n g (s.1,s.2.1,app s.2.2.1 [sext s.1 s.2.2.2.1 s.2.2.2.2.1],iadd .i64 s.2.2.2.2.1 (1:Int),iadd .i64 s.2.2.2.2.1 (1:Int),())) (fun a1 =>
             some (Sum.inl a1)) fun b2 =>
            some (Sum.inr ())
           else none
          else none
         else none
        else none
       else
       bindL (r02_Split_l0 n g (s.1,s.2.1,s.2.2.1,s.2.2.2.1,iadd .i64 s.2.2.2.2.1 (1:Int),())) (fun a3 =>
        some (Sum.inl a3)) fun b4 =>
       some (Sum.inr ())
      else none
     else none
    else
    some (Sum.inl (s.1,s.2.2.1,s.2.2.2.1,()))
theorem r02_Split_l0_ok (n:Nat):∀ g,LEntOk Tryz.prog 113 (nSl r02_Split_sg) ⟨0,[.tree .str, .tree (.int .u8), .own .str, .tree (.int .i64), .tree (.int .i64)],0,[.tree .str, .own .str, .tree (.int .i64)],[],r02_Split_l0 n g⟩ g
  | 0=>loop_zero' fun _=>rfl
  | g+1=>loop_step' mixed (T:=[]) tabNil tabLNil (r02_Split_l0_ok n g) fun s=>by kernel_rfl
def r02_Split (n:Nat) (x:SgEl r02_Split_sg):Option (RtEl r02_Split_rs×OutEl r02_Split_sg) :=
  bindL (r02_Split_l0 n n (x.1,x.2.1,[],(0:Int),(0:Int),())) (fun a1 =>
   bif ile (0:Int) a1.2.2.1 then
    bif ile a1.2.2.1 (ssize a1.1) then
     bif ile (ssize a1.1) (ssize a1.1) then
      bif roomA a1.2.1 [sext a1.1 a1.2.2.1 (ssize a1.1)] 16 then
       some ((app a1.2.1 [sext a1.1 a1.2.2.1 (ssize a1.1)],()),((),(),()))
      else none
     else none
    else none
   else none) fun b2 =>
  none
abbrev r02_Split_ent (n:Nat):Ent:=⟨113,r02_Split_sg,r02_Split_rs,r02_Split n⟩
theorem r02_Split_ok (n:Nat):EntOk Tryz.prog (r02_Split_ent n):=ent_ok' mixed (T:=[]) tabNil (tabLCons (r02_Split_l0_ok n n) tabLNil) fun x=>by kernel_rfl
abbrev r02_Join_sg:List Sg:=[.tree .str, .tree (.slice .str)]
abbrev r02_Join_rs:List Rt:=[.tree .str]
def r02_Join_l0 (n:Nat):Nat→SgEl [.tree .str, .tree (.slice .str), .tree .str, .tree (.int .i64)]→Option (SgEl [.tree .str] ⊕ SgEl [])
  | 0,_=>none
  | g+1,s =>
    bif ilt s.2.2.2.1 (ilen s.2.1) then
     bif ilt (0:Int) s.2.2.2.1 then
      bif sfits s.2.2.1 s.1 then
       bif ile (0:Int) s.2.2.2.1 then
        bindN (lat s.2.1 (iN s.2.2.2.1)) fun v1 =>
        bif sfits (scat s.2.2.1 s.1) v1 then
         bindL (r02_Join_l0 n g (s.1,s.2.1,scat (scat s.2.2.1 s.1) v1,iadd .i64 s.2.2.2.1 (1:Int),())) (fun a2 =>
          some (Sum.inl a2)) fun b3 =>
         some (Sum.inr ())
        else none
       else none
      else none
     else
     bif ile (0:Int) s.2.2.2.1 then
      bindN (lat s.2.1 (iN s.2.2.2.1)) fun v4 =>
      bif sfits s.2.2.1 v4 then
       bindL (r02_Join_l0 n g (s.1,s.2.1,scat s.2.2.1 v4,iadd .i64 s.2.2.2.1 (1:Int),())) (fun a5 =>
        some (Sum.inl a5)) fun b6 =>
       some (Sum.inr ())
      else none
     else none
    else
    some (Sum.inl (s.2.2.1,()))
theorem r02_Join_l0_ok (n:Nat):∀ g,LEntOk Tryz.prog 109 (nSl r02_Join_sg) ⟨0,[.tree .str, .tree (.slice .str), .tree .str, .tree (.int .i64)],0,[.tree .str],[],r02_Join_l0 n g⟩ g
  | 0=>loop_zero' fun _=>rfl
  | g+1=>loop_step' mixed (T:=[]) tabNil tabLNil (r02_Join_l0_ok n g) fun s=>by kernel_rfl
def r02_Join (n:Nat) (x:SgEl r02_Join_sg):Option (RtEl r02_Join_rs×OutEl r02_Join_sg) :=
  bindL (r02_Join_l0 n n (x.1,x.2.1,(⟨#[]⟩:ByteArray),(0:Int),())) (fun a1 =>
   some (a1,((),(),()))) fun b2 =>
  none
abbrev r02_Join_ent (n:Nat):Ent:=⟨109,r02_Join_sg,r02_Join_rs,r02_Join n⟩
theorem r02_Join_ok (n:Nat):EntOk Tryz.prog (r02_Join_ent n):=ent_ok' mixed (T:=[]) tabNil (tabLCons (r02_Join_l0_ok n n) tabLNil) fun x=>by kernel_rfl
abbrev r02_Fields_sg:List Sg:=[.tree .str]
abbrev r02_Fields_rs:List Rt:=[.tree (.slice .str)]
def r02_Fields_l0 (n:Nat):Nat→SgEl [.own .str, .tree (.slice .str), .tree (.int .i64)]→Option (SgEl [.own .str] ⊕ SgEl [])
  | 0,_=>none
  | g+1,s =>
    bif ilt s.2.2.1 (ilen s.2.1) then
     bif ile (0:Int) s.2.2.1 then
      bindN (lat s.2.1 (iN s.2.2.1)) fun v1 =>
      bif !(seq v1 (⟨#[]⟩:ByteArray)) then
       bif ile (0:Int) s.2.2.1 then
        bindN (lat s.2.1 (iN s.2.2.1)) fun v2 =>
        bif roomA s.1 [v2] 16 then
         bindL (r02_Fields_l0 n g (app s.1 [v2],s.2.1,iadd .i64 s.2.2.1 (1:Int),())) (fun a3 =>
          some (Sum.inl a3)) fun b4 =>
         some (Sum.inr ())
        else none
       else none
      else
      bindL (r02_Fields_l0 n g (s.1,s.2.1,iadd .i64 s.2.2.1 (1:Int),())) (fun a5 =>
       some (Sum.inl a5)) fun b6 =>
      some (Sum.inr ())
     else none
    else
    some (Sum.inl (s.1,()))
theorem r02_Fields_l0_ok (n:Nat):∀ g,LEntOk Tryz.prog 94 (nSl r02_Fields_sg) ⟨0,[.own .str, .tree (.slice .str), .tree (.int .i64)],0,[.own .str],[],r02_Fields_l0 n g⟩ g
  | 0=>loop_zero' fun _=>rfl
  | g+1=>loop_step' mixed (T:=[r02_Split_ent n]) (tabCons (r02_Split_ok n) tabNil) tabLNil (r02_Fields_l0_ok n g) fun s=>by kernel_rfl
def r02_Fields (n:Nat) (x:SgEl r02_Fields_sg):Option (RtEl r02_Fields_rs×OutEl r02_Fields_sg) :=
  bindN (r02_Split n (x.1,(32:Int),())) fun p1 =>
  bindL (r02_Fields_l0 n n ([],p1.1.1,(0:Int),())) (fun a2 =>
   some (a2,((),()))) fun b3 =>
  none
abbrev r02_Fields_ent (n:Nat):Ent:=⟨94,r02_Fields_sg,r02_Fields_rs,r02_Fields n⟩
theorem r02_Fields_ok (n:Nat):EntOk Tryz.prog (r02_Fields_ent n):=ent_ok' mixed (T:=[r02_Split_ent n]) (tabCons (r02_Split_ok n) tabNil) (tabLCons (r02_Fields_l0_ok n n) tabLNil) fun x=>by kernel_rfl
abbrev r02_Same_sg:List Sg:=[.tree (.slice .str), .tree (.slice .str)]
abbrev r02_Same_rs:List Rt:=[.tree .bool]
def r02_Same_l0 (n:Nat):Nat→SgEl [.tree (.slice .str), .tree (.slice .str), .tree (.int .i64)]→Option (SgEl [] ⊕ SgEl [.tree .bool])
  | 0,_=>none
  | g+1,s =>
    bif ilt s.2.2.1 (ilen s.1) then
     bif ile (0:Int) s.2.2.1 then
      bindN (lat s.1 (iN s.2.2.1)) fun v1 =>
      bif ile (0:Int) s.2.2.1 then
       bindN (lat s.2.1 (iN s.2.2.1)) fun v2 =>
       bif !(seq v1 v2) then
        some (Sum.inr (false,()))
       else
       bindL (r02_Same_l0 n g (s.1,s.2.1,iadd .i64 s.2.2.1 (1:Int),())) (fun a3 =>
        some (Sum.inl ())) fun b4 =>
       some (Sum.inr b4)
      else none
     else none
    else
    some (Sum.inl ())
theorem r02_Same_l0_ok (n:Nat):∀ g,LEntOk Tryz.prog 68 (nSl r02_Same_sg) ⟨0,[.tree (.slice .str), .tree (.slice .str), .tree (.int .i64)],0,[],[.tree .bool],r02_Same_l0 n g⟩ g
  | 0=>loop_zero' fun _=>rfl
  | g+1=>loop_step' mixed (T:=[]) tabNil tabLNil (r02_Same_l0_ok n g) fun s=>by kernel_rfl
def r02_Same (n:Nat) (x:SgEl r02_Same_sg):Option (RtEl r02_Same_rs×OutEl r02_Same_sg) :=
  bif !(ieq (ilen x.1) (ilen x.2.1)) then
   some ((false,()),((),(),()))
  else
  bindL (r02_Same_l0 n n (x.1,x.2.1,(0:Int),())) (fun a1 =>
   some ((true,()),((),(),()))) fun b2 =>
  some (b2,((),(),()))
abbrev r02_Same_ent (n:Nat):Ent:=⟨68,r02_Same_sg,r02_Same_rs,r02_Same n⟩
theorem r02_Same_ok (n:Nat):EntOk Tryz.prog (r02_Same_ent n):=ent_ok' mixed (T:=[]) tabNil (tabLCons (r02_Same_l0_ok n n) tabLNil) fun x=>by kernel_rfl
abbrev r03_may_sg:List Sg:=[.tree tTag]
abbrev r03_may_rs:List Rt:=[.tree .bool]
def r03_may (n:Nat) (x:SgEl r03_may_sg):Option (RtEl r03_may_rs×OutEl r03_may_sg) :=
  bindN (r02_Name n (x.1.1,())) fun p1 =>
  bif p1.1.1 then
   bindN (r02_Value n x.1.2) fun p2 =>
   some (p2.1,((),()))
  else
  some ((false,()),((),()))
abbrev r03_may_ent (n:Nat):Ent:=⟨206,r03_may_sg,r03_may_rs,r03_may n⟩
theorem r03_may_ok (n:Nat):EntOk Tryz.prog (r03_may_ent n):=ent_ok' mixed (T:=[r02_Name_ent n,r02_Value_ent n]) (tabCons (r02_Name_ok n) (tabCons (r02_Value_ok n) tabNil)) tabLNil fun x=>by kernel_rfl
abbrev r03_Right_sg:List Sg:=[.tree (.slice tTag)]
abbrev r03_Right_rs:List Rt:=[.tree .bool]
def r03_Right_l0 (n:Nat):Nat→SgEl [.tree (.slice tTag), .tree (.int .i64)]→Option (SgEl [.tree (.slice tTag)] ⊕ SgEl [.tree .bool])
  | 0,_=>none
  | g+1,s =>
    bif ilt s.2.1 (ilen s.1) then
     bif ile (0:Int) s.2.1 then
      bindN (lat s.1 (iN s.2.1)) fun v1 =>
      bindN (r03_may n (v1,())) fun p2 =>
      bif !p2.1.1 then
       some (Sum.inr (false,()))
      else
      bif ilt (0:Int) s.2.1 then
       bif ile (0:Int) (isub .i64 s.2.1 (1:Int)) then
        bindN (lat s.1 (iN (isub .i64 s.2.1 (1:Int)))) fun v3 =>
        bif ile (0:Int) s.2.1 then
         bindN (lat s.1 (iN s.2.1)) fun v4 =>
         bif !(slt v3.1 v4.1) then
          some (Sum.inr (false,()))
         else
         bindL (r03_Right_l0 n g (s.1,iadd .i64 s.2.1 (1:Int),())) (fun a5 =>
          some (Sum.inl a5)) fun b6 =>
         some (Sum.inr b6)
        else none
       else none
      else
      bindL (r03_Right_l0 n g (s.1,iadd .i64 s.2.1 (1:Int),())) (fun a7 =>
       some (Sum.inl a7)) fun b8 =>
      some (Sum.inr b8)
     else none
    else
    some (Sum.inl (s.1,()))
theorem r03_Right_l0_ok (n:Nat):∀ g,LEntOk Tryz.prog 149 (nSl r03_Right_sg) ⟨0,[.tree (.slice tTag), .tree (.int .i64)],0,[.tree (.slice tTag)],[.tree .bool],r03_Right_l0 n g⟩ g
  | 0=>loop_zero' fun _=>rfl
  | g+1=>loop_step' mixed (T:=[r03_may_ent n]) (tabCons (r03_may_ok n) tabNil) tabLNil (r03_Right_l0_ok n g) fun s=>by kernel_rfl
def r03_Right (n:Nat) (x:SgEl r03_Right_sg):Option (RtEl r03_Right_rs×OutEl r03_Right_sg) :=
  bindL (r03_Right_l0 n n (x.1,(0:Int),())) (fun a1 =>
   some ((ile (ilen a1.1) (4:Int),()),((),()))) fun b2 =>
  some (b2,((),()))
abbrev r03_Right_ent (n:Nat):Ent:=⟨149,r03_Right_sg,r03_Right_rs,r03_Right n⟩
theorem r03_Right_ok (n:Nat):EntOk Tryz.prog (r03_Right_ent n):=ent_ok' mixed (T:=[r03_may_ent n]) (tabCons (r03_may_ok n) tabNil) (tabLCons (r03_Right_l0_ok n n) tabLNil) fun x=>by kernel_rfl
abbrev r03_Canon_sg:List Sg:=[.tree (.slice tTag)]
abbrev r03_Canon_rs:List Rt:=[.tree (.slice tTag), .tree (.int .i64)]
def r03_Canon_l2 (n:Nat):Nat→SgEl [.tree (.slice tTag), .own tTag, .tree (.int .i64), .tree (.int .i64)]→Option (SgEl [.tree (.slice tTag), .own tTag, .tree (.int .i64), .tree (.int .i64)] ⊕ SgEl [])
  | 0,_=>none
  | g+1,s =>
    bif ilt s.2.2.2.1 (ilen s.2.1) then
     bif ile (0:Int) s.2.2.2.1 then
      bindN (lat s.2.1 (iN s.2.2.2.1)) fun v1 =>
      bindN (lat s.2.1 (iN s.2.2.2.1)) fun v2 =>
      bif ile (0:Int) s.2.2.1 then
       bindN (lat s.1 (iN s.2.2.1)) fun v3 =>
       bif slt v2.1 v3.1 then
        bindL (r03_Canon_l2 n g (s.1,s.2.1,s.2.2.1,iadd .i64 s.2.2.2.1 (1:Int),())) (fun a4 =>
         some (Sum.inl a4)) fun b5 =>
        some (Sum.inr ())
       else
       some (Sum.inl s)
      else none
     else none
    else
    some (Sum.inl s)
theorem r03_Canon_l2_ok (n:Nat):∀ g,LEntOk Tryz.prog 218 (nSl r03_Canon_sg) ⟨2,[.tree (.slice tTag), .own tTag, .tree (.int .i64), .tree (.int .i64)],4,[.tree (.slice tTag), .own tTag, .tree (.int .i64), .tree (.int .i64)],[],r03_Canon_l2 n g⟩ g
  | 0=>loop_zero' fun _=>rfl
  | g+1=>loop_step' mixed (T:=[r03_may_ent n]) (tabCons (r03_may_ok n) tabNil) tabLNil (r03_Canon_l2_ok n g) fun s=>by kernel_rfl
def r03_Canon_l1 (n:Nat):Nat→SgEl [.tree (.slice tTag), .own tTag, .tree (.int .i64)]→Option (SgEl [.own tTag] ⊕ SgEl [.tree (.slice tTag), .tree (.int .i64)])
  | 0,_=>none
  | g+1,s =>
    bif ilt s.2.2.1 (ilen s.1) then
     bindL (r03_Canon_l2 n n (s.1,s.2.1,s.2.2.1,(0:Int),())) (fun a1 =>
      bif ilt a1.2.2.2.1 (ilen a1.2.1) then
       bif ile (0:Int) a1.2.2.2.1 then
        bindN (lat a1.2.1 (iN a1.2.2.2.1)) fun v3 =>
        bindN (lat a1.2.1 (iN a1.2.2.2.1)) fun v4 =>
        bif ile (0:Int) a1.2.2.1 then
         bindN (lat a1.1 (iN a1.2.2.1)) fun v5 =>
         bif seq v4.1 v5.1 then
          some (Sum.inr ([],(5:Int),()))
         else
         bif ile (0:Int) a1.2.2.2.1 then
          bif ile a1.2.2.2.1 (ilen a1.2.1) then
           bif ile (ilen a1.2.1) (ilen a1.2.1) then
            bif roomA ([]:List (El tTag)) (win a1.2.1 (iN a1.2.2.2.1) (iN (ilen a1.2.1) - iN a1.2.2.2.1)) 32 then
             bif ile (0:Int) (0:Int) then
              bif ile (0:Int) a1.2.2.2.1 then
               bif ile a1.2.2.2.1 (ilen a1.2.1) then
                bif ile (0:Int) a1.2.2.1 then
                 bindN (lat a1.1 (iN a1.2.2.1)) fun v6 =>
                 bif roomA (win a1.2.1 0 (iN a1.2.2.2.1 - iN (0:Int))) [v6] 32 then
                  bif roomA (app (win a1.2.1 0 (iN a1.2.2.2.1 - iN (0:Int))) [v6]) (app ([]:List (El tTag)) (win a1.2.1 (iN a1.2.2.2.1) (iN (ilen a1.2.1) - iN a1.2.2.2.1))) 32 then
                   bindL (r03_Canon_l1 n g (a1.1,app (app (win a1.2.1 0 (iN a1.2.2.2.1 - iN (0:Int))) [v6]) (app ([]:List (El tTag)) (win a1.2.1 (iN a1.2.2.2.1) (iN (ilen a1.2.1) - iN a1.2.2.2.1))),iadd .i64 a1.2.2.1 (1:Int),())) (fun a7 =>
                    some (Sum.inl a7)) fun b8 =>
                   some (Sum.inr b8)
                  else none
                 else none
                else none
               else none
              else none
             else none
            else none
           else none
          else none
         else none
        else none
       else none
      else
      bif ile (0:Int) a1.2.2.2.1 then
       bif ile a1.2.2.2.1 (ilen a1.2.1) then
        bif ile (ilen a1.2.1) (ilen a1.2.1) then
         bif roomA ([]:List (El tTag)) (win a1.2.1 (iN a1.2.2.2.1) (iN (ilen a1.2.1) - iN a1.2.2.2.1)) 32 then
          bif ile (0:Int) (0:Int) then
           bif ile (0:Int) a1.2.2.2.1 then
            bif ile a1.2.2.2.1 (ilen a1.2.1) then
             bif ile (0:Int) a1.2.2.1 then
              bindN (lat a1.1 (iN a1.2.2.1)) fun v9 =>
              bif roomA (win a1.2.1 0 (iN a1.2.2.2.1 - iN (0:Int))) [v9] 32 then
               bif roomA (app (win a1.2.1 0 (iN a1.2.2.2.1 - iN (0:Int))) [v9]) (app ([]:List (El tTag)) (win a1.2.1 (iN a1.2.2.2.1) (iN (ilen a1.2.1) - iN a1.2.2.2.1))) 32 then
                bindL (r03_Canon_l1 n g (a1.1,app (app (win a1.2.1 0 (iN a1.2.2.2.1 - iN (0:Int))) [v9]) (app ([]:List (El tTag)) (win a1.2.1 (iN a1.2.2.2.1) (iN (ilen a1.2.1) - iN a1.2.2.2.1))),iadd .i64 a1.2.2.1 (1:Int),())) (fun a10 =>
                 some (Sum.inl a10)) fun b11 =>
                some (Sum.inr b11)
               else none
              else none
             else none
            else none
           else none
          else none
         else none
        else none
       else none
      else none) fun b2 =>
     none
    else
    some (Sum.inl (s.2.1,()))
theorem r03_Canon_l1_ok (n:Nat):∀ g,LEntOk Tryz.prog 218 (nSl r03_Canon_sg) ⟨1,[.tree (.slice tTag), .own tTag, .tree (.int .i64)],2,[.own tTag],[.tree (.slice tTag), .tree (.int .i64)],r03_Canon_l1 n g⟩ g
  | 0=>loop_zero' fun _=>rfl
  | g+1=>loop_step' mixed (T:=[r03_may_ent n]) (tabCons (r03_may_ok n) tabNil) (tabLCons (r03_Canon_l2_ok n n) tabLNil) (r03_Canon_l1_ok n g) fun s=>by kernel_rfl
def r03_Canon_l0 (n:Nat):Nat→SgEl [.tree (.slice tTag), .tree (.int .i64)]→Option (SgEl [.tree (.slice tTag)] ⊕ SgEl [.tree (.slice tTag), .tree (.int .i64)])
  | 0,_=>none
  | g+1,s =>
    bif ilt s.2.1 (ilen s.1) then
     bif ile (0:Int) s.2.1 then
      bindN (lat s.1 (iN s.2.1)) fun v1 =>
      bindN (r03_may n (v1,())) fun p2 =>
      bif !p2.1.1 then
       some (Sum.inr ([],(2:Int),()))
      else
      bindL (r03_Canon_l0 n g (s.1,iadd .i64 s.2.1 (1:Int),())) (fun a3 =>
       some (Sum.inl a3)) fun b4 =>
      some (Sum.inr b4)
     else none
    else
    some (Sum.inl (s.1,()))
theorem r03_Canon_l0_ok (n:Nat):∀ g,LEntOk Tryz.prog 218 (nSl r03_Canon_sg) ⟨0,[.tree (.slice tTag), .tree (.int .i64)],0,[.tree (.slice tTag)],[.tree (.slice tTag), .tree (.int .i64)],r03_Canon_l0 n g⟩ g
  | 0=>loop_zero' fun _=>rfl
  | g+1=>loop_step' mixed (T:=[r03_may_ent n]) (tabCons (r03_may_ok n) tabNil) (tabLCons (r03_Canon_l1_ok n n) (tabLCons (r03_Canon_l2_ok n n) tabLNil)) (r03_Canon_l0_ok n g) fun s=>by kernel_rfl
def r03_Canon (n:Nat) (x:SgEl r03_Canon_sg):Option (RtEl r03_Canon_rs×OutEl r03_Canon_sg) :=
  bindL (r03_Canon_l0 n n (x.1,(0:Int),())) (fun a1 =>
   bif ilt (4:Int) (ilen a1.1) then
    some (([],(4:Int),()),((),()))
   else
   bindL (r03_Canon_l1 n n (a1.1,[],(0:Int),())) (fun a3 =>
    some ((a3.1,(0:Int),()),((),()))) fun b4 =>
   some (b4,((),()))) fun b2 =>
  some (b2,((),()))
abbrev r03_Canon_ent (n:Nat):Ent:=⟨218,r03_Canon_sg,r03_Canon_rs,r03_Canon n⟩
theorem r03_Canon_ok (n:Nat):EntOk Tryz.prog (r03_Canon_ent n):=ent_ok' mixed (T:=[r03_may_ent n]) (tabCons (r03_may_ok n) tabNil) (tabLCons (r03_Canon_l0_ok n n) (tabLCons (r03_Canon_l1_ok n n) (tabLCons (r03_Canon_l2_ok n n) tabLNil))) fun x=>by kernel_rfl
abbrev r03_Text_sg:List Sg:=[.tree (.slice tTag)]
abbrev r03_Text_rs:List Rt:=[.tree .str]
def r03_Text_l0 (n:Nat):Nat→SgEl [.tree (.slice tTag), .own .str, .tree (.int .i64)]→Option (SgEl [.own .str] ⊕ SgEl [])
  | 0,_=>none
  | g+1,s =>
    bif ilt s.2.2.1 (ilen s.1) then
     bif ile (0:Int) s.2.2.1 then
      bindN (lat s.1 (iN s.2.2.1)) fun v1 =>
      bif sfits v1.1 (⟨#[61]⟩:ByteArray) then
       bif ile (0:Int) s.2.2.1 then
        bindN (lat s.1 (iN s.2.2.1)) fun v2 =>
        bif sfits (scat v1.1 (⟨#[61]⟩:ByteArray)) v2.2.1 then
         bif roomA s.2.1 [scat (scat v1.1 (⟨#[61]⟩:ByteArray)) v2.2.1] 16 then
          bindL (r03_Text_l0 n g (s.1,app s.2.1 [scat (scat v1.1 (⟨#[61]⟩:ByteArray)) v2.2.1],iadd .i64 s.2.2.1 (1:Int),())) (fun a3 =>
           some (Sum.inl a3)) fun b4 =>
          some (Sum.inr ())
         else none
        else none
       else none
      else none
     else none
    else
    some (Sum.inl (s.2.1,()))
theorem r03_Text_l0_ok (n:Nat):∀ g,LEntOk Tryz.prog 155 (nSl r03_Text_sg) ⟨0,[.tree (.slice tTag), .own .str, .tree (.int .i64)],0,[.own .str],[],r03_Text_l0 n g⟩ g
  | 0=>loop_zero' fun _=>rfl
  | g+1=>loop_step' mixed (T:=[r02_Join_ent n]) (tabCons (r02_Join_ok n) tabNil) tabLNil (r03_Text_l0_ok n g) fun s=>by kernel_rfl
def r03_Text (n:Nat) (x:SgEl r03_Text_sg):Option (RtEl r03_Text_rs×OutEl r03_Text_sg) :=
  bindL (r03_Text_l0 n n (x.1,[],(0:Int),())) (fun a1 =>
   bindN (r02_Join n ((⟨#[44]⟩:ByteArray),a1)) fun p3 =>
   some (p3.1,((),()))) fun b2 =>
  none
abbrev r03_Text_ent (n:Nat):Ent:=⟨155,r03_Text_sg,r03_Text_rs,r03_Text n⟩
theorem r03_Text_ok (n:Nat):EntOk Tryz.prog (r03_Text_ent n):=ent_ok' mixed (T:=[r02_Join_ent n]) (tabCons (r02_Join_ok n) tabNil) (tabLCons (r03_Text_l0_ok n n) tabLNil) fun x=>by kernel_rfl
abbrev r03_Parse_sg:List Sg:=[.tree .str]
abbrev r03_Parse_rs:List Rt:=[.tree (.slice tTag), .tree (.int .i64)]
def r03_Parse_l0 (n:Nat):Nat→SgEl [.own tTag, .tree (.slice .str), .tree (.int .i64)]→Option (SgEl [.own tTag] ⊕ SgEl [.tree (.slice tTag), .tree (.int .i64)])
  | 0,_=>none
  | g+1,s =>
    bif ilt s.2.2.1 (ilen s.2.1) then
     bif ile (0:Int) s.2.2.1 then
      bindN (lat s.2.1 (iN s.2.2.1)) fun v1 =>
      bindN (r02_Split n (v1,(61:Int),())) fun p2 =>
      bif ilt (ilen p2.1.1) (2:Int) then
       some (Sum.inr ([],(2:Int),()))
      else
      bif ile (0:Int) (0:Int) then
       bindN (lat p2.1.1 (iN (0:Int))) fun v3 =>
       bif ile (0:Int) (1:Int) then
        bif ile (1:Int) (ilen p2.1.1) then
         bif ile (ilen p2.1.1) (ilen p2.1.1) then
          bindN (r02_Join n ((⟨#[61]⟩:ByteArray),winI p2.1.1 (1:Int) (ilen p2.1.1),())) fun p4 =>
          bif roomA s.1 [(v3,p4.1)] 32 then
           bindL (r03_Parse_l0 n g (app s.1 [(v3,p4.1)],s.2.1,iadd .i64 s.2.2.1 (1:Int),())) (fun a5 =>
            some (Sum.inl a5)) fun b6 =>
           some (Sum.inr b6)
          else none
         else none
        else none
       else none
      else none
     else none
    else
    some (Sum.inl (s.1,()))
theorem r03_Parse_l0_ok (n:Nat):∀ g,LEntOk Tryz.prog 170 (nSl r03_Parse_sg) ⟨0,[.own tTag, .tree (.slice .str), .tree (.int .i64)],0,[.own tTag],[.tree (.slice tTag), .tree (.int .i64)],r03_Parse_l0 n g⟩ g
  | 0=>loop_zero' fun _=>rfl
  | g+1=>loop_step' mixed (T:=[r02_Split_ent n,r02_Join_ent n,r03_Canon_ent n]) (tabCons (r02_Split_ok n) (tabCons (r02_Join_ok n) (tabCons (r03_Canon_ok n) tabNil))) tabLNil (r03_Parse_l0_ok n g) fun s=>by kernel_rfl
def r03_Parse (n:Nat) (x:SgEl r03_Parse_sg):Option (RtEl r03_Parse_rs×OutEl r03_Parse_sg) :=
  bif seq x.1 (⟨#[]⟩:ByteArray) then
   some (([],(0:Int),()),((),()))
  else
  bindN (r02_Split n (x.1,(44:Int),())) fun p1 =>
  bindL (r03_Parse_l0 n n ([],p1.1.1,(0:Int),())) (fun a2 =>
   bindN (r03_Canon n a2) fun p4 =>
   some (p4.1,((),()))) fun b3 =>
  some (b3,((),()))
abbrev r03_Parse_ent (n:Nat):Ent:=⟨170,r03_Parse_sg,r03_Parse_rs,r03_Parse n⟩
theorem r03_Parse_ok (n:Nat):EntOk Tryz.prog (r03_Parse_ent n):=ent_ok' mixed (T:=[r02_Split_ent n,r02_Join_ent n,r03_Canon_ent n]) (tabCons (r02_Split_ok n) (tabCons (r02_Join_ok n) (tabCons (r03_Canon_ok n) tabNil))) (tabLCons (r03_Parse_l0_ok n n) tabLNil) fun x=>by kernel_rfl
abbrev r03_Same_sg:List Sg:=[.tree (.slice tTag), .tree (.slice tTag)]
abbrev r03_Same_rs:List Rt:=[.tree .bool]
def r03_Same_l0 (n:Nat):Nat→SgEl [.tree (.slice tTag), .tree (.slice tTag), .tree (.int .i64)]→Option (SgEl [] ⊕ SgEl [.tree .bool])
  | 0,_=>none
  | g+1,s =>
    bif ilt s.2.2.1 (ilen s.1) then
     bif ile (0:Int) s.2.2.1 then
      bindN (lat s.1 (iN s.2.2.1)) fun v1 =>
      bif ile (0:Int) s.2.2.1 then
       bindN (lat s.2.1 (iN s.2.2.1)) fun v2 =>
       bif !(seq v1.1 v2.1 && (seq v1.2.1 v2.2.1 && true)) then
        some (Sum.inr (false,()))
       else
       bindL (r03_Same_l0 n g (s.1,s.2.1,iadd .i64 s.2.2.1 (1:Int),())) (fun a3 =>
        some (Sum.inl ())) fun b4 =>
       some (Sum.inr b4)
      else none
     else none
    else
    some (Sum.inl ())
theorem r03_Same_l0_ok (n:Nat):∀ g,LEntOk Tryz.prog 161 (nSl r03_Same_sg) ⟨0,[.tree (.slice tTag), .tree (.slice tTag), .tree (.int .i64)],0,[],[.tree .bool],r03_Same_l0 n g⟩ g
  | 0=>loop_zero' fun _=>rfl
  | g+1=>loop_step' mixed (T:=[]) tabNil tabLNil (r03_Same_l0_ok n g) fun s=>by kernel_rfl
def r03_Same (n:Nat) (x:SgEl r03_Same_sg):Option (RtEl r03_Same_rs×OutEl r03_Same_sg) :=
  bif !(ieq (ilen x.1) (ilen x.2.1)) then
   some ((false,()),((),(),()))
  else
  bindL (r03_Same_l0 n n (x.1,x.2.1,(0:Int),())) (fun a1 =>
   some ((true,()),((),(),()))) fun b2 =>
  some (b2,((),(),()))
abbrev r03_Same_ent (n:Nat):Ent:=⟨161,r03_Same_sg,r03_Same_rs,r03_Same n⟩
theorem r03_Same_ok (n:Nat):EntOk Tryz.prog (r03_Same_ent n):=ent_ok' mixed (T:=[]) tabNil (tabLCons (r03_Same_l0_ok n n) tabLNil) fun x=>by kernel_rfl
abbrev r03_Great_sg:List Sg:=[.tree (.slice tTag)]
abbrev r03_Great_rs:List Rt:=[.tree .bool]
def r03_Great_l0 (n:Nat):Nat→SgEl [.tree (.slice tTag), .tree (.int .i64)]→Option (SgEl [] ⊕ SgEl [.tree .bool])
  | 0,_=>none
  | g+1,s =>
    bif ilt s.2.1 (ilen s.1) then
     bif ile (0:Int) s.2.1 then
      bindN (lat s.1 (iN s.2.1)) fun v1 =>
      bif ilt (100:Int) (ssize v1.1) then
       some (Sum.inr (true,()))
      else
      bif ile (0:Int) s.2.1 then
       bindN (lat s.1 (iN s.2.1)) fun v2 =>
       bif ilt (100:Int) (ssize v2.2.1) then
        some (Sum.inr (true,()))
       else
       bindL (r03_Great_l0 n g (s.1,iadd .i64 s.2.1 (1:Int),())) (fun a3 =>
        some (Sum.inl ())) fun b4 =>
       some (Sum.inr b4)
      else none
     else none
    else
    some (Sum.inl ())
theorem r03_Great_l0_ok (n:Nat):∀ g,LEntOk Tryz.prog 74 (nSl r03_Great_sg) ⟨0,[.tree (.slice tTag), .tree (.int .i64)],0,[],[.tree .bool],r03_Great_l0 n g⟩ g
  | 0=>loop_zero' fun _=>rfl
  | g+1=>loop_step' mixed (T:=[]) tabNil tabLNil (r03_Great_l0_ok n g) fun s=>by kernel_rfl
def r03_Great (n:Nat) (x:SgEl r03_Great_sg):Option (RtEl r03_Great_rs×OutEl r03_Great_sg) :=
  bif ilt (20:Int) (ilen x.1) then
   some ((true,()),((),()))
  else
  bindL (r03_Great_l0 n n (x.1,(0:Int),())) (fun a1 =>
   some ((false,()),((),()))) fun b2 =>
  some (b2,((),()))
abbrev r03_Great_ent (n:Nat):Ent:=⟨74,r03_Great_sg,r03_Great_rs,r03_Great n⟩
theorem r03_Great_ok (n:Nat):EntOk Tryz.prog (r03_Great_ent n):=ent_ok' mixed (T:=[]) tabNil (tabLCons (r03_Great_l0_ok n n) tabLNil) fun x=>by kernel_rfl
abbrev r04_Right_sg:List Sg:=[.tree tKey]
abbrev r04_Right_rs:List Rt:=[.tree .bool]
def r04_Right (n:Nat) (x:SgEl r04_Right_sg):Option (RtEl r04_Right_rs×OutEl r04_Right_sg) :=
  bindN (r02_Name n (x.1.1,())) fun p1 =>
  bif p1.1.1 then
   bindN (r03_Right n x.1.2) fun p2 =>
   some (p2.1,((),()))
  else
  some ((false,()),((),()))
abbrev r04_Right_ent (n:Nat):Ent:=⟨80,r04_Right_sg,r04_Right_rs,r04_Right n⟩
theorem r04_Right_ok (n:Nat):EntOk Tryz.prog (r04_Right_ent n):=ent_ok' mixed (T:=[r02_Name_ent n,r03_Right_ent n]) (tabCons (r02_Name_ok n) (tabCons (r03_Right_ok n) tabNil)) tabLNil fun x=>by kernel_rfl
abbrev r04_Text_sg:List Sg:=[.tree tKey]
abbrev r04_Text_rs:List Rt:=[.tree .str]
def r04_Text (n:Nat) (x:SgEl r04_Text_sg):Option (RtEl r04_Text_rs×OutEl r04_Text_sg) :=
  bif ieq (ilen x.1.2.1) (0:Int) then
   some ((x.1.1,()),((),()))
  else
  bif sfits x.1.1 (⟨#[123]⟩:ByteArray) then
   bindN (r03_Text n x.1.2) fun p1 =>
   bif sfits (scat x.1.1 (⟨#[123]⟩:ByteArray)) p1.1.1 then
    bif sfits (scat (scat x.1.1 (⟨#[123]⟩:ByteArray)) p1.1.1) (⟨#[125]⟩:ByteArray) then
     some ((scat (scat (scat x.1.1 (⟨#[123]⟩:ByteArray)) p1.1.1) (⟨#[125]⟩:ByteArray),()),((),()))
    else none
   else none
  else none
abbrev r04_Text_ent (n:Nat):Ent:=⟨86,r04_Text_sg,r04_Text_rs,r04_Text n⟩
theorem r04_Text_ok (n:Nat):EntOk Tryz.prog (r04_Text_ent n):=ent_ok' mixed (T:=[r03_Text_ent n]) (tabCons (r03_Text_ok n) tabNil) tabLNil fun x=>by kernel_rfl
abbrev r04_Cut_sg:List Sg:=[.tree .str]
abbrev r04_Cut_rs:List Rt:=[.tree .str, .tree .str, .tree .bool]
def r04_Cut_l0 (n:Nat):Nat→SgEl [.tree .str, .tree (.int .i64)]→Option (SgEl [.tree .str, .tree (.int .i64)] ⊕ SgEl [])
  | 0,_=>none
  | g+1,s =>
    bif ilt s.2.1 (ssize s.1) then
     bif ile (0:Int) s.2.1 then
      bif ilt s.2.1 (ssize s.1) then
       bif !(ieq (sat s.1 s.2.1) (123:Int)) then
        bindL (r04_Cut_l0 n g (s.1,iadd .i64 s.2.1 (1:Int),())) (fun a1 =>
         some (Sum.inl a1)) fun b2 =>
        some (Sum.inr ())
       else
       some (Sum.inl s)
      else none
     else none
    else
    some (Sum.inl s)
theorem r04_Cut_l0_ok (n:Nat):∀ g,LEntOk Tryz.prog 134 (nSl r04_Cut_sg) ⟨0,[.tree .str, .tree (.int .i64)],0,[.tree .str, .tree (.int .i64)],[],r04_Cut_l0 n g⟩ g
  | 0=>loop_zero' fun _=>rfl
  | g+1=>loop_step' mixed (T:=[]) tabNil tabLNil (r04_Cut_l0_ok n g) fun s=>by kernel_rfl
def r04_Cut (n:Nat) (x:SgEl r04_Cut_sg):Option (RtEl r04_Cut_rs×OutEl r04_Cut_sg) :=
  bindL (r04_Cut_l0 n n (x.1,(0:Int),())) (fun a1 =>
   bif ieq a1.2.1 (ssize a1.1) then
    some ((a1.1,(⟨#[]⟩:ByteArray),true,()),((),()))
   else
   bif ile (0:Int) (isub .i64 (ssize a1.1) (1:Int)) then
    bif ilt (isub .i64 (ssize a1.1) (1:Int)) (ssize a1.1) then
     bif !(ieq (sat a1.1 (isub .i64 (ssize a1.1) (1:Int))) (125:Int)) then
      some (((⟨#[]⟩:ByteArray),(⟨#[]⟩:ByteArray),false,()),((),()))
     else
     bif ieq (iadd .i64 a1.2.1 (1:Int)) (isub .i64 (ssize a1.1) (1:Int)) then
      some (((⟨#[]⟩:ByteArray),(⟨#[]⟩:ByteArray),false,()),((),()))
     else
     bif ile (0:Int) (0:Int) then
      bif ile (0:Int) a1.2.1 then
       bif ile a1.2.1 (ssize a1.1) then
        bif ile (0:Int) (iadd .i64 a1.2.1 (1:Int)) then
         bif ile (iadd .i64 a1.2.1 (1:Int)) (isub .i64 (ssize a1.1) (1:Int)) then
          bif ile (isub .i64 (ssize a1.1) (1:Int)) (ssize a1.1) then
           some ((sext a1.1 (0:Int) a1.2.1,sext a1.1 (iadd .i64 a1.2.1 (1:Int)) (isub .i64 (ssize a1.1) (1:Int)),true,()),((),()))
          else none
         else none
        else none
       else none
      else none
     else none
    else none
   else none) fun b2 =>
  none
abbrev r04_Cut_ent (n:Nat):Ent:=⟨134,r04_Cut_sg,r04_Cut_rs,r04_Cut n⟩
theorem r04_Cut_ok (n:Nat):EntOk Tryz.prog (r04_Cut_ent n):=ent_ok' mixed (T:=[]) tabNil (tabLCons (r04_Cut_l0_ok n n) tabLNil) fun x=>by kernel_rfl
abbrev r04_Parse_sg:List Sg:=[.tree .str]
abbrev r04_Parse_rs:List Rt:=[.tree tKey, .tree (.int .i64)]
def r04_Parse (n:Nat) (x:SgEl r04_Parse_sg):Option (RtEl r04_Parse_rs×OutEl r04_Parse_sg) :=
  bindN (r04_Cut n x) fun p1 =>
  bif !p1.1.2.2.1 then
   some ((((⟨#[]⟩:ByteArray),[],()),(2:Int),()),((),()))
  else
  bindN (r02_Name n (p1.1.1,())) fun p2 =>
  bif !p2.1.1 then
   some ((((⟨#[]⟩:ByteArray),[],()),(2:Int),()),((),()))
  else
  bindN (r03_Parse n (p1.1.2.1,())) fun p3 =>
  bif !(ieq p3.1.2.1 (0:Int)) then
   some ((((⟨#[]⟩:ByteArray),[],()),p3.1.2),((),()))
  else
  some (((p1.1.1,p3.1.1,()),(0:Int),()),((),()))
abbrev r04_Parse_ent (n:Nat):Ent:=⟨128,r04_Parse_sg,r04_Parse_rs,r04_Parse n⟩
theorem r04_Parse_ok (n:Nat):EntOk Tryz.prog (r04_Parse_ent n):=ent_ok' mixed (T:=[r04_Cut_ent n,r02_Name_ent n,r03_Parse_ent n]) (tabCons (r04_Cut_ok n) (tabCons (r02_Name_ok n) (tabCons (r03_Parse_ok n) tabNil))) tabLNil fun x=>by kernel_rfl
abbrev r04_Same_sg:List Sg:=[.tree tKey, .tree tKey]
abbrev r04_Same_rs:List Rt:=[.tree .bool]
def r04_Same (n:Nat) (x:SgEl r04_Same_sg):Option (RtEl r04_Same_rs×OutEl r04_Same_sg) :=
  bif seq x.1.1 x.2.1.1 then
   bindN (r03_Same n (x.1.2.1,x.2.1.2)) fun p1 =>
   some (p1.1,((),(),()))
  else
  some ((false,()),((),(),()))
abbrev r04_Same_ent (n:Nat):Ent:=⟨91,r04_Same_sg,r04_Same_rs,r04_Same n⟩
theorem r04_Same_ok (n:Nat):EntOk Tryz.prog (r04_Same_ent n):=ent_ok' mixed (T:=[r03_Same_ent n]) (tabCons (r03_Same_ok n) tabNil) tabLNil fun x=>by kernel_rfl
abbrev r05_may_sg:List Sg:=[.tree tMatch]
abbrev r05_may_rs:List Rt:=[.tree .bool]
def r05_may (n:Nat) (x:SgEl r05_may_sg):Option (RtEl r05_may_rs×OutEl r05_may_sg) :=
  bindN (r02_Name n (x.1.2.1,())) fun p1 =>
  bif !p1.1.1 then
   some ((false,()),((),()))
  else
  bif ieq x.1.1 (1:Int) then
   bindN (r02_Value n x.1.2.2) fun p2 =>
   some (p2.1,((),()))
  else
  bif ieq x.1.1 (2:Int) then
   bindN (r02_Value n x.1.2.2) fun p3 =>
   some (p3.1,((),()))
  else
  bif ieq x.1.1 (3:Int) then
   bif seq x.1.2.2.1 (⟨#[]⟩:ByteArray) then
    some ((true,()),((),()))
   else
   bindN (r02_Value n x.1.2.2) fun p4 =>
   some (p4.1,((),()))
  else
  bif ieq x.1.1 (4:Int) then
   some ((seq x.1.2.2.1 (⟨#[]⟩:ByteArray),()),((),()))
  else
  some ((false,()),((),()))
abbrev r05_may_ent (n:Nat):Ent:=⟨190,r05_may_sg,r05_may_rs,r05_may n⟩
theorem r05_may_ok (n:Nat):EntOk Tryz.prog (r05_may_ent n):=ent_ok' mixed (T:=[r02_Name_ent n,r02_Value_ent n]) (tabCons (r02_Name_ok n) (tabCons (r02_Value_ok n) tabNil)) tabLNil fun x=>by kernel_rfl
abbrev r05_Right_sg:List Sg:=[.tree (.slice tMatch)]
abbrev r05_Right_rs:List Rt:=[.tree .bool]
def r05_Right_l0 (n:Nat):Nat→SgEl [.tree (.slice tMatch), .tree (.int .i64)]→Option (SgEl [.tree (.slice tMatch)] ⊕ SgEl [.tree .bool])
  | 0,_=>none
  | g+1,s =>
    bif ilt s.2.1 (ilen s.1) then
     bif ile (0:Int) s.2.1 then
      bindN (lat s.1 (iN s.2.1)) fun v1 =>
      bindN (r05_may n (v1,())) fun p2 =>
      bif !p2.1.1 then
       some (Sum.inr (false,()))
      else
      bindL (r05_Right_l0 n g (s.1,iadd .i64 s.2.1 (1:Int),())) (fun a3 =>
       some (Sum.inl a3)) fun b4 =>
      some (Sum.inr b4)
     else none
    else
    some (Sum.inl (s.1,()))
theorem r05_Right_l0_ok (n:Nat):∀ g,LEntOk Tryz.prog 150 (nSl r05_Right_sg) ⟨0,[.tree (.slice tMatch), .tree (.int .i64)],0,[.tree (.slice tMatch)],[.tree .bool],r05_Right_l0 n g⟩ g
  | 0=>loop_zero' fun _=>rfl
  | g+1=>loop_step' mixed (T:=[r05_may_ent n]) (tabCons (r05_may_ok n) tabNil) tabLNil (r05_Right_l0_ok n g) fun s=>by kernel_rfl
def r05_Right (n:Nat) (x:SgEl r05_Right_sg):Option (RtEl r05_Right_rs×OutEl r05_Right_sg) :=
  bindL (r05_Right_l0 n n (x.1,(0:Int),())) (fun a1 =>
   some ((ile (ilen a1.1) (4:Int),()),((),()))) fun b2 =>
  some (b2,((),()))
abbrev r05_Right_ent (n:Nat):Ent:=⟨150,r05_Right_sg,r05_Right_rs,r05_Right n⟩
theorem r05_Right_ok (n:Nat):EntOk Tryz.prog (r05_Right_ent n):=ent_ok' mixed (T:=[r05_may_ent n]) (tabCons (r05_may_ok n) tabNil) (tabLCons (r05_Right_l0_ok n n) tabLNil) fun x=>by kernel_rfl
abbrev r05_Text_sg:List Sg:=[.tree (.slice tMatch)]
abbrev r05_Text_rs:List Rt:=[.tree .str]
def r05_Text_l0 (n:Nat):Nat→SgEl [.tree (.slice tMatch), .own .str, .tree (.int .i64)]→Option (SgEl [.own .str] ⊕ SgEl [])
  | 0,_=>none
  | g+1,s =>
    bif ilt s.2.2.1 (ilen s.1) then
     bif ile (0:Int) s.2.2.1 then
      bindN (lat s.1 (iN s.2.2.1)) fun v1 =>
      bif ile (0:Int) s.2.2.1 then
       bindN (lat s.1 (iN s.2.2.1)) fun v2 =>
       bif ieq v2.1 (1:Int) then
        bif sfits v1.2.1 (⟨#[61]⟩:ByteArray) then
         bif ile (0:Int) s.2.2.1 then
          bindN (lat s.1 (iN s.2.2.1)) fun v3 =>
          bif sfits (scat v1.2.1 (⟨#[61]⟩:ByteArray)) v3.2.2.1 then
           bif roomA s.2.1 [scat (scat v1.2.1 (⟨#[61]⟩:ByteArray)) v3.2.2.1] 16 then
            bindL (r05_Text_l0 n g (s.1,app s.2.1 [scat (scat v1.2.1 (⟨#[61]⟩:ByteArray)) v3.2.2.1],iadd .i64 s.2.2.1 (1:Int),())) (fun a4 =>
             some (Sum.inl a4)) fun b5 =>
            some (Sum.inr ())
           else none
          else none
         else none
        else none
       else
       bif ieq v2.1 (2:Int) then
        bif sfits v1.2.1 (⟨#[33,61]⟩:ByteArray) then
         bif ile (0:Int) s.2.2.1 then
          bindN (lat s.1 (iN s.2.2.1)) fun v6 =>
          bif sfits (scat v1.2.1 (⟨#[33,61]⟩:ByteArray)) v6.2.2.1 then
           bif roomA s.2.1 [scat (scat v1.2.1 (⟨#[33,61]⟩:ByteArray)) v6.2.2.1] 16 then
            bindL (r05_Text_l0 n g (s.1,app s.2.1 [scat (scat v1.2.1 (⟨#[33,61]⟩:ByteArray)) v6.2.2.1],iadd .i64 s.2.2.1 (1:Int),())) (fun a7 =>
             some (Sum.inl a7)) fun b8 =>
            some (Sum.inr ())
           else none
          else none
         else none
        else none
       else
       bif ieq v2.1 (3:Int) then
        bif sfits v1.2.1 (⟨#[61]⟩:ByteArray) then
         bif ile (0:Int) s.2.2.1 then
          bindN (lat s.1 (iN s.2.2.1)) fun v9 =>
          bif sfits (scat v1.2.1 (⟨#[61]⟩:ByteArray)) v9.2.2.1 then
           bif sfits (scat (scat v1.2.1 (⟨#[61]⟩:ByteArray)) v9.2.2.1) (⟨#[42]⟩:ByteArray) then
            bif roomA s.2.1 [scat (scat (scat v1.2.1 (⟨#[61]⟩:ByteArray)) v9.2.2.1) (⟨#[42]⟩:ByteArray)] 16 then
             bindL (r05_Text_l0 n g (s.1,app s.2.1 [scat (scat (scat v1.2.1 (⟨#[61]⟩:ByteArray)) v9.2.2.1) (⟨#[42]⟩:ByteArray)],iadd .i64 s.2.2.1 (1:Int),())) (fun a10 =>
              some (Sum.inl a10)) fun b11 =>
             some (Sum.inr ())
            else none
           else none
          else none
         else none
        else none
       else
       bif roomA s.2.1 [v1.2.1] 16 then
        bindL (r05_Text_l0 n g (s.1,app s.2.1 [v1.2.1],iadd .i64 s.2.2.1 (1:Int),())) (fun a12 =>
         some (Sum.inl a12)) fun b13 =>
        some (Sum.inr ())
       else none
      else none
     else none
    else
    some (Sum.inl (s.2.1,()))
theorem r05_Text_l0_ok (n:Nat):∀ g,LEntOk Tryz.prog 157 (nSl r05_Text_sg) ⟨0,[.tree (.slice tMatch), .own .str, .tree (.int .i64)],0,[.own .str],[],r05_Text_l0 n g⟩ g
  | 0=>loop_zero' fun _=>rfl
  | g+1=>loop_step' mixed (T:=[r02_Join_ent n]) (tabCons (r02_Join_ok n) tabNil) tabLNil (r05_Text_l0_ok n g) fun s=>by kernel_rfl
def r05_Text (n:Nat) (x:SgEl r05_Text_sg):Option (RtEl r05_Text_rs×OutEl r05_Text_sg) :=
  bindL (r05_Text_l0 n n (x.1,[],(0:Int),())) (fun a1 =>
   bindN (r02_Join n ((⟨#[44]⟩:ByteArray),a1)) fun p3 =>
   some (p3.1,((),()))) fun b2 =>
  none
abbrev r05_Text_ent (n:Nat):Ent:=⟨157,r05_Text_sg,r05_Text_rs,r05_Text n⟩
theorem r05_Text_ok (n:Nat):EntOk Tryz.prog (r05_Text_ent n):=ent_ok' mixed (T:=[r02_Join_ent n]) (tabCons (r02_Join_ok n) tabNil) (tabLCons (r05_Text_l0_ok n n) tabLNil) fun x=>by kernel_rfl
abbrev r05_find_sg:List Sg:=[.tree .str, .tree .str]
abbrev r05_find_rs:List Rt:=[.tree (.int .i64)]
def r05_find_l0 (n:Nat):Nat→SgEl [.tree .str, .tree .str, .tree (.int .i64)]→Option (SgEl [] ⊕ SgEl [.tree (.int .i64)])
  | 0,_=>none
  | g+1,s =>
    bif ile (iadd .i64 s.2.2.1 (ssize s.2.1)) (ssize s.1) then
     bif ile (0:Int) s.2.2.1 then
      bif ile s.2.2.1 (iadd .i64 s.2.2.1 (ssize s.2.1)) then
       bif ile (iadd .i64 s.2.2.1 (ssize s.2.1)) (ssize s.1) then
        bif seq (sext s.1 s.2.2.1 (iadd .i64 s.2.2.1 (ssize s.2.1))) s.2.1 then
         some (Sum.inr s.2.2)
        else
        bindL (r05_find_l0 n g (s.1,s.2.1,iadd .i64 s.2.2.1 (1:Int),())) (fun a1 =>
         some (Sum.inl ())) fun b2 =>
        some (Sum.inr b2)
       else none
      else none
     else none
    else
    some (Sum.inl ())
theorem r05_find_l0_ok (n:Nat):∀ g,LEntOk Tryz.prog 245 (nSl r05_find_sg) ⟨0,[.tree .str, .tree .str, .tree (.int .i64)],0,[],[.tree (.int .i64)],r05_find_l0 n g⟩ g
  | 0=>loop_zero' fun _=>rfl
  | g+1=>loop_step' mixed (T:=[]) tabNil tabLNil (r05_find_l0_ok n g) fun s=>by kernel_rfl
def r05_find (n:Nat) (x:SgEl r05_find_sg):Option (RtEl r05_find_rs×OutEl r05_find_sg) :=
  bindL (r05_find_l0 n n (x.1,x.2.1,(0:Int),())) (fun a1 =>
   some (((-1:Int),()),((),(),()))) fun b2 =>
  some (b2,((),(),()))
abbrev r05_find_ent (n:Nat):Ent:=⟨245,r05_find_sg,r05_find_rs,r05_find n⟩
theorem r05_find_ok (n:Nat):EntOk Tryz.prog (r05_find_ent n):=ent_ok' mixed (T:=[]) tabNil (tabLCons (r05_find_l0_ok n n) tabLNil) fun x=>by kernel_rfl
abbrev r05_part_sg:List Sg:=[.tree .str]
abbrev r05_part_rs:List Rt:=[.tree tMatch]
def r05_part (n:Nat) (x:SgEl r05_part_sg):Option (RtEl r05_part_rs×OutEl r05_part_sg) :=
  bindN (r05_find n (x.1,(⟨#[33,61]⟩:ByteArray),())) fun p1 =>
  bif ile (0:Int) p1.1.1 then
   bif ile (0:Int) (0:Int) then
    bif ile (0:Int) p1.1.1 then
     bif ile p1.1.1 (ssize x.1) then
      bif ile (0:Int) (iadd .i64 p1.1.1 (2:Int)) then
       bif ile (iadd .i64 p1.1.1 (2:Int)) (ssize x.1) then
        bif ile (ssize x.1) (ssize x.1) then
         some ((((2:Int),sext x.1 (0:Int) p1.1.1,sext x.1 (iadd .i64 p1.1.1 (2:Int)) (ssize x.1),()),()),((),()))
        else none
       else none
      else none
     else none
    else none
   else none
  else
  bindN (r05_find n (x.1,(⟨#[61]⟩:ByteArray),())) fun p2 =>
  bif ilt p2.1.1 (0:Int) then
   some ((((4:Int),x.1,(⟨#[]⟩:ByteArray),()),()),((),()))
  else
  bif ile (0:Int) (isub .i64 (ssize x.1) (1:Int)) then
   bif ilt (isub .i64 (ssize x.1) (1:Int)) (ssize x.1) then
    bif ieq (sat x.1 (isub .i64 (ssize x.1) (1:Int))) (42:Int) then
     bif ile (0:Int) (0:Int) then
      bif ile (0:Int) p2.1.1 then
       bif ile p2.1.1 (ssize x.1) then
        bif ile (0:Int) (iadd .i64 p2.1.1 (1:Int)) then
         bif ile (iadd .i64 p2.1.1 (1:Int)) (isub .i64 (ssize x.1) (1:Int)) then
          bif ile (isub .i64 (ssize x.1) (1:Int)) (ssize x.1) then
           some ((((3:Int),sext x.1 (0:Int) p2.1.1,sext x.1 (iadd .i64 p2.1.1 (1:Int)) (isub .i64 (ssize x.1) (1:Int)),()),()),((),()))
          else none
         else none
        else none
       else none
      else none
     else none
    else
    bif ile (0:Int) (0:Int) then
     bif ile (0:Int) p2.1.1 then
      bif ile p2.1.1 (ssize x.1) then
       bif ile (0:Int) (iadd .i64 p2.1.1 (1:Int)) then
        bif ile (iadd .i64 p2.1.1 (1:Int)) (ssize x.1) then
         bif ile (ssize x.1) (ssize x.1) then
          some ((((1:Int),sext x.1 (0:Int) p2.1.1,sext x.1 (iadd .i64 p2.1.1 (1:Int)) (ssize x.1),()),()),((),()))
         else none
        else none
       else none
      else none
     else none
    else none
   else none
  else none
abbrev r05_part_ent (n:Nat):Ent:=⟨189,r05_part_sg,r05_part_rs,r05_part n⟩
theorem r05_part_ok (n:Nat):EntOk Tryz.prog (r05_part_ent n):=ent_ok' mixed (T:=[r05_find_ent n]) (tabCons (r05_find_ok n) tabNil) tabLNil fun x=>by kernel_rfl
abbrev r05_Parse_sg:List Sg:=[.tree .str]
abbrev r05_Parse_rs:List Rt:=[.tree (.slice tMatch), .tree (.int .i64)]
def r05_Parse_l0 (n:Nat):Nat→SgEl [.own tMatch, .tree (.slice .str), .tree (.int .i64)]→Option (SgEl [.own tMatch] ⊕ SgEl [.tree (.slice tMatch), .tree (.int .i64)])
  | 0,_=>none
  | g+1,s =>
    bif ilt s.2.2.1 (ilen s.2.1) then
     bif ile (0:Int) s.2.2.1 then
      bindN (lat s.2.1 (iN s.2.2.1)) fun v1 =>
      bindN (r05_part n (v1,())) fun p2 =>
      bindN (r05_may n p2.1) fun p3 =>
      bif !p3.1.1 then
       some (Sum.inr ([],(2:Int),()))
      else
      bif roomA s.1 [p2.1.1] 40 then
       bindL (r05_Parse_l0 n g (app s.1 [p2.1.1],s.2.1,iadd .i64 s.2.2.1 (1:Int),())) (fun a4 =>
        some (Sum.inl a4)) fun b5 =>
       some (Sum.inr b5)
      else none
     else none
    else
    some (Sum.inl (s.1,()))
theorem r05_Parse_l0_ok (n:Nat):∀ g,LEntOk Tryz.prog 136 (nSl r05_Parse_sg) ⟨0,[.own tMatch, .tree (.slice .str), .tree (.int .i64)],0,[.own tMatch],[.tree (.slice tMatch), .tree (.int .i64)],r05_Parse_l0 n g⟩ g
  | 0=>loop_zero' fun _=>rfl
  | g+1=>loop_step' mixed (T:=[r02_Split_ent n,r05_part_ent n,r05_may_ent n]) (tabCons (r02_Split_ok n) (tabCons (r05_part_ok n) (tabCons (r05_may_ok n) tabNil))) tabLNil (r05_Parse_l0_ok n g) fun s=>by kernel_rfl
def r05_Parse (n:Nat) (x:SgEl r05_Parse_sg):Option (RtEl r05_Parse_rs×OutEl r05_Parse_sg) :=
  bif seq x.1 (⟨#[]⟩:ByteArray) then
   some (([],(0:Int),()),((),()))
  else
  bindN (r02_Split n (x.1,(44:Int),())) fun p1 =>
  bindL (r05_Parse_l0 n n ([],p1.1.1,(0:Int),())) (fun a2 =>
   bif ilt (4:Int) (ilen a2.1) then
    some (([],(4:Int),()),((),()))
   else
   some ((a2.1,(0:Int),()),((),()))) fun b3 =>
  some (b3,((),()))
abbrev r05_Parse_ent (n:Nat):Ent:=⟨136,r05_Parse_sg,r05_Parse_rs,r05_Parse n⟩
theorem r05_Parse_ok (n:Nat):EntOk Tryz.prog (r05_Parse_ent n):=ent_ok' mixed (T:=[r02_Split_ent n,r05_part_ent n,r05_may_ent n]) (tabCons (r02_Split_ok n) (tabCons (r05_part_ok n) (tabCons (r05_may_ok n) tabNil))) (tabLCons (r05_Parse_l0_ok n n) tabLNil) fun x=>by kernel_rfl
abbrev r05_Same_sg:List Sg:=[.tree (.slice tMatch), .tree (.slice tMatch)]
abbrev r05_Same_rs:List Rt:=[.tree .bool]
def r05_Same_l0 (n:Nat):Nat→SgEl [.tree (.slice tMatch), .tree (.slice tMatch), .tree (.int .i64)]→Option (SgEl [] ⊕ SgEl [.tree .bool])
  | 0,_=>none
  | g+1,s =>
    bif ilt s.2.2.1 (ilen s.1) then
     bif ile (0:Int) s.2.2.1 then
      bindN (lat s.1 (iN s.2.2.1)) fun v1 =>
      bif ile (0:Int) s.2.2.1 then
       bindN (lat s.2.1 (iN s.2.2.1)) fun v2 =>
       bif !(ieq v1.1 v2.1 && (seq v1.2.1 v2.2.1 && (seq v1.2.2.1 v2.2.2.1 && true))) then
        some (Sum.inr (false,()))
       else
       bindL (r05_Same_l0 n g (s.1,s.2.1,iadd .i64 s.2.2.1 (1:Int),())) (fun a3 =>
        some (Sum.inl ())) fun b4 =>
       some (Sum.inr b4)
      else none
     else none
    else
    some (Sum.inl ())
theorem r05_Same_l0_ok (n:Nat):∀ g,LEntOk Tryz.prog 67 (nSl r05_Same_sg) ⟨0,[.tree (.slice tMatch), .tree (.slice tMatch), .tree (.int .i64)],0,[],[.tree .bool],r05_Same_l0 n g⟩ g
  | 0=>loop_zero' fun _=>rfl
  | g+1=>loop_step' mixed (T:=[]) tabNil tabLNil (r05_Same_l0_ok n g) fun s=>by kernel_rfl
def r05_Same (n:Nat) (x:SgEl r05_Same_sg):Option (RtEl r05_Same_rs×OutEl r05_Same_sg) :=
  bif !(ieq (ilen x.1) (ilen x.2.1)) then
   some ((false,()),((),(),()))
  else
  bindL (r05_Same_l0 n n (x.1,x.2.1,(0:Int),())) (fun a1 =>
   some ((true,()),((),(),()))) fun b2 =>
  some (b2,((),(),()))
abbrev r05_Same_ent (n:Nat):Ent:=⟨67,r05_Same_sg,r05_Same_rs,r05_Same n⟩
theorem r05_Same_ok (n:Nat):EntOk Tryz.prog (r05_Same_ent n):=ent_ok' mixed (T:=[]) tabNil (tabLCons (r05_Same_l0_ok n n) tabLNil) fun x=>by kernel_rfl
abbrev r05_Great_sg:List Sg:=[.tree (.slice tMatch)]
abbrev r05_Great_rs:List Rt:=[.tree .bool]
def r05_Great_l0 (n:Nat):Nat→SgEl [.tree (.slice tMatch), .tree (.int .i64)]→Option (SgEl [] ⊕ SgEl [.tree .bool])
  | 0,_=>none
  | g+1,s =>
    bif ilt s.2.1 (ilen s.1) then
     bif ile (0:Int) s.2.1 then
      bindN (lat s.1 (iN s.2.1)) fun v1 =>
      bif ilt (100:Int) (ssize v1.2.1) then
       some (Sum.inr (true,()))
      else
      bif ile (0:Int) s.2.1 then
       bindN (lat s.1 (iN s.2.1)) fun v2 =>
       bif ilt (100:Int) (ssize v2.2.2.1) then
        some (Sum.inr (true,()))
       else
       bindL (r05_Great_l0 n g (s.1,iadd .i64 s.2.1 (1:Int),())) (fun a3 =>
        some (Sum.inl ())) fun b4 =>
       some (Sum.inr b4)
      else none
     else none
    else
    some (Sum.inl ())
theorem r05_Great_l0_ok (n:Nat):∀ g,LEntOk Tryz.prog 63 (nSl r05_Great_sg) ⟨0,[.tree (.slice tMatch), .tree (.int .i64)],0,[],[.tree .bool],r05_Great_l0 n g⟩ g
  | 0=>loop_zero' fun _=>rfl
  | g+1=>loop_step' mixed (T:=[]) tabNil tabLNil (r05_Great_l0_ok n g) fun s=>by kernel_rfl
def r05_Great (n:Nat) (x:SgEl r05_Great_sg):Option (RtEl r05_Great_rs×OutEl r05_Great_sg) :=
  bif ilt (20:Int) (ilen x.1) then
   some ((true,()),((),()))
  else
  bindL (r05_Great_l0 n n (x.1,(0:Int),())) (fun a1 =>
   some ((false,()),((),()))) fun b2 =>
  some (b2,((),()))
abbrev r05_Great_ent (n:Nat):Ent:=⟨63,r05_Great_sg,r05_Great_rs,r05_Great n⟩
theorem r05_Great_ok (n:Nat):EntOk Tryz.prog (r05_Great_ent n):=ent_ok' mixed (T:=[]) tabNil (tabLCons (r05_Great_l0_ok n n) tabLNil) fun x=>by kernel_rfl
abbrev r07_aggs_sg:List Sg:=[]
abbrev r07_aggs_rs:List Rt:=[.tree (.slice .str)]
def r07_aggs (n:Nat) (x:SgEl r07_aggs_sg):Option (RtEl r07_aggs_rs×OutEl r07_aggs_sg) :=
  some (([(⟨#[]⟩:ByteArray),(⟨#[99,111,117,110,116]⟩:ByteArray),(⟨#[115,117,109]⟩:ByteArray),(⟨#[109,105,110]⟩:ByteArray),(⟨#[109,97,120]⟩:ByteArray)],()),())
abbrev r07_aggs_ent (n:Nat):Ent:=⟨156,r07_aggs_sg,r07_aggs_rs,r07_aggs n⟩
theorem r07_aggs_ok (n:Nat):EntOk Tryz.prog (r07_aggs_ent n):=ent_ok' mixed (T:=[]) tabNil tabLNil fun x=>by kernel_rfl
abbrev r07_names_sg:List Sg:=[.tree (.slice .str)]
abbrev r07_names_rs:List Rt:=[.tree (.int .i64)]
def r07_names_l2 (n:Nat):Nat→SgEl [.tree (.slice .str), .tree (.int .i64), .tree (.int .i64)]→Option (SgEl [.tree (.slice .str), .tree (.int .i64)] ⊕ SgEl [.tree (.int .i64)])
  | 0,_=>none
  | g+1,s =>
    bif ilt s.2.2.1 s.2.1 then
     bif ile (0:Int) s.2.2.1 then
      bindN (lat s.1 (iN s.2.2.1)) fun v1 =>
      bif ile (0:Int) s.2.1 then
       bindN (lat s.1 (iN s.2.1)) fun v2 =>
       bif seq v1 v2 then
        some (Sum.inr ((5:Int),()))
       else
       bindL (r07_names_l2 n g (s.1,s.2.1,iadd .i64 s.2.2.1 (1:Int),())) (fun a3 =>
        some (Sum.inl a3)) fun b4 =>
       some (Sum.inr b4)
      else none
     else none
    else
    some (Sum.inl (s.1,s.2.1,()))
theorem r07_names_l2_ok (n:Nat):∀ g,LEntOk Tryz.prog 137 (nSl r07_names_sg) ⟨2,[.tree (.slice .str), .tree (.int .i64), .tree (.int .i64)],4,[.tree (.slice .str), .tree (.int .i64)],[.tree (.int .i64)],r07_names_l2 n g⟩ g
  | 0=>loop_zero' fun _=>rfl
  | g+1=>loop_step' mixed (T:=[r02_Name_ent n]) (tabCons (r02_Name_ok n) tabNil) tabLNil (r07_names_l2_ok n g) fun s=>by kernel_rfl
def r07_names_l1 (n:Nat):Nat→SgEl [.tree (.slice .str), .tree (.int .i64)]→Option (SgEl [] ⊕ SgEl [.tree (.int .i64)])
  | 0,_=>none
  | g+1,s =>
    bif ilt s.2.1 (ilen s.1) then
     bindL (r07_names_l2 n n (s.1,s.2.1,(0:Int),())) (fun a1 =>
      bindL (r07_names_l1 n g (a1.1,iadd .i64 a1.2.1 (1:Int),())) (fun a3 =>
       some (Sum.inl ())) fun b4 =>
      some (Sum.inr b4)) fun b2 =>
     some (Sum.inr b2)
    else
    some (Sum.inl ())
theorem r07_names_l1_ok (n:Nat):∀ g,LEntOk Tryz.prog 137 (nSl r07_names_sg) ⟨1,[.tree (.slice .str), .tree (.int .i64)],2,[],[.tree (.int .i64)],r07_names_l1 n g⟩ g
  | 0=>loop_zero' fun _=>rfl
  | g+1=>loop_step' mixed (T:=[r02_Name_ent n]) (tabCons (r02_Name_ok n) tabNil) (tabLCons (r07_names_l2_ok n n) tabLNil) (r07_names_l1_ok n g) fun s=>by kernel_rfl
def r07_names_l0 (n:Nat):Nat→SgEl [.tree (.slice .str), .tree (.int .i64)]→Option (SgEl [.tree (.slice .str)] ⊕ SgEl [.tree (.int .i64)])
  | 0,_=>none
  | g+1,s =>
    bif ilt s.2.1 (ilen s.1) then
     bif ile (0:Int) s.2.1 then
      bindN (lat s.1 (iN s.2.1)) fun v1 =>
      bindN (r02_Name n (v1,())) fun p2 =>
      bif !p2.1.1 then
       some (Sum.inr ((2:Int),()))
      else
      bindL (r07_names_l0 n g (s.1,iadd .i64 s.2.1 (1:Int),())) (fun a3 =>
       some (Sum.inl a3)) fun b4 =>
      some (Sum.inr b4)
     else none
    else
    some (Sum.inl (s.1,()))
theorem r07_names_l0_ok (n:Nat):∀ g,LEntOk Tryz.prog 137 (nSl r07_names_sg) ⟨0,[.tree (.slice .str), .tree (.int .i64)],0,[.tree (.slice .str)],[.tree (.int .i64)],r07_names_l0 n g⟩ g
  | 0=>loop_zero' fun _=>rfl
  | g+1=>loop_step' mixed (T:=[r02_Name_ent n]) (tabCons (r02_Name_ok n) tabNil) (tabLCons (r07_names_l1_ok n n) (tabLCons (r07_names_l2_ok n n) tabLNil)) (r07_names_l0_ok n g) fun s=>by kernel_rfl
def r07_names (n:Nat) (x:SgEl r07_names_sg):Option (RtEl r07_names_rs×OutEl r07_names_sg) :=
  bindL (r07_names_l0 n n (x.1,(0:Int),())) (fun a1 =>
   bif ilt (4:Int) (ilen a1.1) then
    some (((4:Int),()),((),()))
   else
   bindL (r07_names_l1 n n (a1.1,(0:Int),())) (fun a3 =>
    some (((0:Int),()),((),()))) fun b4 =>
   some (b4,((),()))) fun b2 =>
  some (b2,((),()))
abbrev r07_names_ent (n:Nat):Ent:=⟨137,r07_names_sg,r07_names_rs,r07_names n⟩
theorem r07_names_ok (n:Nat):EntOk Tryz.prog (r07_names_ent n):=ent_ok' mixed (T:=[r02_Name_ent n]) (tabCons (r02_Name_ok n) tabNil) (tabLCons (r07_names_l0_ok n n) (tabLCons (r07_names_l1_ok n n) (tabLCons (r07_names_l2_ok n n) tabLNil))) fun x=>by kernel_rfl
abbrev r07_Right_sg:List Sg:=[.tree tQuery]
abbrev r07_Right_rs:List Rt:=[.tree .bool]
def r07_Right (n:Nat) (x:SgEl r07_Right_sg):Option (RtEl r07_Right_rs×OutEl r07_Right_sg) :=
  bif ile (1:Int) x.1.1 then
   bif ile x.1.1 (4:Int) then
    bindN (r02_Name n (x.1.2.1,())) fun p1 =>
    bif p1.1.1 then
     bindN (r05_Right n (x.1.2.2.1,())) fun p2 =>
     bif p2.1.1 then
      bindN (r07_names n x.1.2.2.2) fun p3 =>
      some ((ieq p3.1.1 (0:Int),()),((),()))
     else
     some ((false,()),((),()))
    else
    some ((false,()),((),()))
   else
   some ((false,()),((),()))
  else
  some ((false,()),((),()))
abbrev r07_Right_ent (n:Nat):Ent:=⟨81,r07_Right_sg,r07_Right_rs,r07_Right n⟩
theorem r07_Right_ok (n:Nat):EntOk Tryz.prog (r07_Right_ent n):=ent_ok' mixed (T:=[r02_Name_ent n,r05_Right_ent n,r07_names_ent n]) (tabCons (r02_Name_ok n) (tabCons (r05_Right_ok n) (tabCons (r07_names_ok n) tabNil))) tabLNil fun x=>by kernel_rfl
abbrev r07_Text_sg:List Sg:=[.tree tQuery]
abbrev r07_Text_rs:List Rt:=[.tree .str]
def r07_Text (n:Nat) (x:SgEl r07_Text_sg):Option (RtEl r07_Text_rs×OutEl r07_Text_sg) :=
  bindN (r07_Right n x) fun p1 =>
  bif !p1.1.1 then
   some (((⟨#[]⟩:ByteArray),()),((),()))
  else
  bindN (r07_aggs n ()) fun p2 =>
  bif ile (0:Int) x.1.1 then
   bindN (lat p2.1.1 (iN x.1.1)) fun v3 =>
   bif sfits v3 (⟨#[32]⟩:ByteArray) then
    bif sfits (scat v3 (⟨#[32]⟩:ByteArray)) x.1.2.1 then
     bif ilt (0:Int) (ilen x.1.2.2.1) then
      bif sfits (scat (scat v3 (⟨#[32]⟩:ByteArray)) x.1.2.1) (⟨#[123]⟩:ByteArray) then
       bindN (r05_Text n (x.1.2.2.1,())) fun p4 =>
       bif sfits (scat (scat (scat v3 (⟨#[32]⟩:ByteArray)) x.1.2.1) (⟨#[123]⟩:ByteArray)) p4.1.1 then
        bif sfits (scat (scat (scat (scat v3 (⟨#[32]⟩:ByteArray)) x.1.2.1) (⟨#[123]⟩:ByteArray)) p4.1.1) (⟨#[125]⟩:ByteArray) then
         bif ilt (0:Int) (ilen x.1.2.2.2.1) then
          bif sfits (scat (scat (scat (scat (scat v3 (⟨#[32]⟩:ByteArray)) x.1.2.1) (⟨#[123]⟩:ByteArray)) p4.1.1) (⟨#[125]⟩:ByteArray)) (⟨#[32,98,121,32]⟩:ByteArray) then
           bindN (r02_Join n ((⟨#[44]⟩:ByteArray),x.1.2.2.2)) fun p5 =>
           bif sfits (scat (scat (scat (scat (scat (scat v3 (⟨#[32]⟩:ByteArray)) x.1.2.1) (⟨#[123]⟩:ByteArray)) p4.1.1) (⟨#[125]⟩:ByteArray)) (⟨#[32,98,121,32]⟩:ByteArray)) p5.1.1 then
            some ((scat (scat (scat (scat (scat (scat (scat v3 (⟨#[32]⟩:ByteArray)) x.1.2.1) (⟨#[123]⟩:ByteArray)) p4.1.1) (⟨#[125]⟩:ByteArray)) (⟨#[32,98,121,32]⟩:ByteArray)) p5.1.1,()),((),()))
           else none
          else none
         else
         some ((scat (scat (scat (scat (scat v3 (⟨#[32]⟩:ByteArray)) x.1.2.1) (⟨#[123]⟩:ByteArray)) p4.1.1) (⟨#[125]⟩:ByteArray),()),((),()))
        else none
       else none
      else none
     else
     bif ilt (0:Int) (ilen x.1.2.2.2.1) then
      bif sfits (scat (scat v3 (⟨#[32]⟩:ByteArray)) x.1.2.1) (⟨#[32,98,121,32]⟩:ByteArray) then
       bindN (r02_Join n ((⟨#[44]⟩:ByteArray),x.1.2.2.2)) fun p6 =>
       bif sfits (scat (scat (scat v3 (⟨#[32]⟩:ByteArray)) x.1.2.1) (⟨#[32,98,121,32]⟩:ByteArray)) p6.1.1 then
        some ((scat (scat (scat (scat v3 (⟨#[32]⟩:ByteArray)) x.1.2.1) (⟨#[32,98,121,32]⟩:ByteArray)) p6.1.1,()),((),()))
       else none
      else none
     else
     some ((scat (scat v3 (⟨#[32]⟩:ByteArray)) x.1.2.1,()),((),()))
    else none
   else none
  else none
abbrev r07_Text_ent (n:Nat):Ent:=⟨88,r07_Text_sg,r07_Text_rs,r07_Text n⟩
theorem r07_Text_ok (n:Nat):EntOk Tryz.prog (r07_Text_ent n):=ent_ok' mixed (T:=[r07_Right_ent n,r07_aggs_ent n,r05_Text_ent n,r02_Join_ent n]) (tabCons (r07_Right_ok n) (tabCons (r07_aggs_ok n) (tabCons (r05_Text_ok n) (tabCons (r02_Join_ok n) tabNil)))) tabLNil fun x=>by kernel_rfl
abbrev r07_agg_sg:List Sg:=[.tree .str]
abbrev r07_agg_rs:List Rt:=[.tree (.int .i64)]
def r07_agg_l0 (n:Nat):Nat→SgEl [.tree .str, .tree (.slice .str), .tree (.int .i64)]→Option (SgEl [] ⊕ SgEl [.tree (.int .i64)])
  | 0,_=>none
  | g+1,s =>
    bif ilt s.2.2.1 (ilen s.2.1) then
     bif ile (0:Int) s.2.2.1 then
      bindN (lat s.2.1 (iN s.2.2.1)) fun v1 =>
      bif seq v1 s.1 then
       some (Sum.inr s.2.2)
      else
      bindL (r07_agg_l0 n g (s.1,s.2.1,iadd .i64 s.2.2.1 (1:Int),())) (fun a2 =>
       some (Sum.inl ())) fun b3 =>
      some (Sum.inr b3)
     else none
    else
    some (Sum.inl ())
theorem r07_agg_l0_ok (n:Nat):∀ g,LEntOk Tryz.prog 133 (nSl r07_agg_sg) ⟨0,[.tree .str, .tree (.slice .str), .tree (.int .i64)],0,[],[.tree (.int .i64)],r07_agg_l0 n g⟩ g
  | 0=>loop_zero' fun _=>rfl
  | g+1=>loop_step' mixed (T:=[r07_aggs_ent n]) (tabCons (r07_aggs_ok n) tabNil) tabLNil (r07_agg_l0_ok n g) fun s=>by kernel_rfl
def r07_agg (n:Nat) (x:SgEl r07_agg_sg):Option (RtEl r07_agg_rs×OutEl r07_agg_sg) :=
  bindN (r07_aggs n ()) fun p1 =>
  bindL (r07_agg_l0 n n (x.1,p1.1.1,(1:Int),())) (fun a2 =>
   some (((0:Int),()),((),()))) fun b3 =>
  some (b3,((),()))
abbrev r07_agg_ent (n:Nat):Ent:=⟨133,r07_agg_sg,r07_agg_rs,r07_agg n⟩
theorem r07_agg_ok (n:Nat):EntOk Tryz.prog (r07_agg_ent n):=ent_ok' mixed (T:=[r07_aggs_ent n]) (tabCons (r07_aggs_ok n) tabNil) (tabLCons (r07_agg_l0_ok n n) tabLNil) fun x=>by kernel_rfl
abbrev r07_Parse_sg:List Sg:=[.tree .str]
abbrev r07_Parse_rs:List Rt:=[.tree tQuery, .tree (.int .i64)]
def r07_Parse (n:Nat) (x:SgEl r07_Parse_sg):Option (RtEl r07_Parse_rs×OutEl r07_Parse_sg) :=
  bindN (r02_Fields n x) fun p1 =>
  bif !(ieq (ilen p1.1.1) (2:Int)) then
   bif !(ieq (ilen p1.1.1) (4:Int)) then
    some ((((0:Int),(⟨#[]⟩:ByteArray),[],[],()),(2:Int),()),((),()))
   else
   bif ile (0:Int) (2:Int) then
    bindN (lat p1.1.1 (iN (2:Int))) fun v2 =>
    bif !(seq v2 (⟨#[98,121]⟩:ByteArray)) then
     some ((((0:Int),(⟨#[]⟩:ByteArray),[],[],()),(2:Int),()),((),()))
    else
    bif ile (0:Int) (0:Int) then
     bindN (lat p1.1.1 (iN (0:Int))) fun v3 =>
     bindN (r07_agg n (v3,())) fun p4 =>
     bif ieq p4.1.1 (0:Int) then
      some ((((0:Int),(⟨#[]⟩:ByteArray),[],[],()),(2:Int),()),((),()))
     else
     bif ile (0:Int) (1:Int) then
      bindN (lat p1.1.1 (iN (1:Int))) fun v5 =>
      bindN (r04_Cut n (v5,())) fun p6 =>
      bif !p6.1.2.2.1 then
       some ((((0:Int),(⟨#[]⟩:ByteArray),[],[],()),(2:Int),()),((),()))
      else
      bindN (r02_Name n (p6.1.1,())) fun p7 =>
      bif !p7.1.1 then
       some ((((0:Int),(⟨#[]⟩:ByteArray),[],[],()),(2:Int),()),((),()))
      else
      bindN (r05_Parse n (p6.1.2.1,())) fun p8 =>
      bif !(ieq p8.1.2.1 (0:Int)) then
       some ((((0:Int),(⟨#[]⟩:ByteArray),[],[],()),p8.1.2),((),()))
      else
      bif ieq (ilen p1.1.1) (4:Int) then
       bif ile (0:Int) (3:Int) then
        bindN (lat p1.1.1 (iN (3:Int))) fun v9 =>
        bindN (r02_Split n (v9,(44:Int),())) fun p10 =>
        bindN (r07_names n p10.1) fun p11 =>
        bif !(ieq p11.1.1 (0:Int)) then
         some ((((0:Int),(⟨#[]⟩:ByteArray),[],[],()),p11.1),((),()))
        else
        some (((p4.1.1,p6.1.1,p8.1.1,p10.1),(0:Int),()),((),()))
       else none
      else
      bindN (r07_names n ([],())) fun p12 =>
      bif !(ieq p12.1.1 (0:Int)) then
       some ((((0:Int),(⟨#[]⟩:ByteArray),[],[],()),p12.1),((),()))
      else
      some (((p4.1.1,p6.1.1,p8.1.1,[],()),(0:Int),()),((),()))
     else none
    else none
   else none
  else
  bif ile (0:Int) (0:Int) then
   bindN (lat p1.1.1 (iN (0:Int))) fun v13 =>
   bindN (r07_agg n (v13,())) fun p14 =>
   bif ieq p14.1.1 (0:Int) then
    some ((((0:Int),(⟨#[]⟩:ByteArray),[],[],()),(2:Int),()),((),()))
   else
   bif ile (0:Int) (1:Int) then
    bindN (lat p1.1.1 (iN (1:Int))) fun v15 =>
    bindN (r04_Cut n (v15,())) fun p16 =>
    bif !p16.1.2.2.1 then
     some ((((0:Int),(⟨#[]⟩:ByteArray),[],[],()),(2:Int),()),((),()))
    else
    bindN (r02_Name n (p16.1.1,())) fun p17 =>
    bif !p17.1.1 then
     some ((((0:Int),(⟨#[]⟩:ByteArray),[],[],()),(2:Int),()),((),()))
    else
    bindN (r05_Parse n (p16.1.2.1,())) fun p18 =>
    bif !(ieq p18.1.2.1 (0:Int)) then
     some ((((0:Int),(⟨#[]⟩:ByteArray),[],[],()),p18.1.2),((),()))
    else
    bif ieq (ilen p1.1.1) (4:Int) then
     bif ile (0:Int) (3:Int) then
      bindN (lat p1.1.1 (iN (3:Int))) fun v19 =>
      bindN (r02_Split n (v19,(44:Int),())) fun p20 =>
      bindN (r07_names n p20.1) fun p21 =>
      bif !(ieq p21.1.1 (0:Int)) then
       some ((((0:Int),(⟨#[]⟩:ByteArray),[],[],()),p21.1),((),()))
      else
      some (((p14.1.1,p16.1.1,p18.1.1,p20.1),(0:Int),()),((),()))
     else none
    else
    bindN (r07_names n ([],())) fun p22 =>
    bif !(ieq p22.1.1 (0:Int)) then
     some ((((0:Int),(⟨#[]⟩:ByteArray),[],[],()),p22.1),((),()))
    else
    some (((p14.1.1,p16.1.1,p18.1.1,[],()),(0:Int),()),((),()))
   else none
  else none
abbrev r07_Parse_ent (n:Nat):Ent:=⟨61,r07_Parse_sg,r07_Parse_rs,r07_Parse n⟩
theorem r07_Parse_ok (n:Nat):EntOk Tryz.prog (r07_Parse_ent n):=ent_ok' mixed (T:=[r02_Fields_ent n,r07_agg_ent n,r04_Cut_ent n,r02_Name_ent n,r05_Parse_ent n,r02_Split_ent n,r07_names_ent n]) (tabCons (r02_Fields_ok n) (tabCons (r07_agg_ok n) (tabCons (r04_Cut_ok n) (tabCons (r02_Name_ok n) (tabCons (r05_Parse_ok n) (tabCons (r02_Split_ok n) (tabCons (r07_names_ok n) tabNil))))))) tabLNil fun x=>by kernel_rfl
abbrev r07_Same_sg:List Sg:=[.tree tQuery, .tree tQuery]
abbrev r07_Same_rs:List Rt:=[.tree .bool]
def r07_Same (n:Nat) (x:SgEl r07_Same_sg):Option (RtEl r07_Same_rs×OutEl r07_Same_sg) :=
  bif ieq x.1.1 x.2.1.1 then
   bif seq x.1.2.1 x.2.1.2.1 then
    bindN (r05_Same n (x.1.2.2.1,x.2.1.2.2.1,())) fun p1 =>
    bif p1.1.1 then
     bindN (r02_Same n (x.1.2.2.2.1,x.2.1.2.2.2)) fun p2 =>
     some (p2.1,((),(),()))
    else
    some ((false,()),((),(),()))
   else
   some ((false,()),((),(),()))
  else
  some ((false,()),((),(),()))
abbrev r07_Same_ent (n:Nat):Ent:=⟨30,r07_Same_sg,r07_Same_rs,r07_Same n⟩
theorem r07_Same_ok (n:Nat):EntOk Tryz.prog (r07_Same_ent n):=ent_ok' mixed (T:=[r05_Same_ent n,r02_Same_ent n]) (tabCons (r05_Same_ok n) (tabCons (r02_Same_ok n) tabNil)) tabLNil fun x=>by kernel_rfl
abbrev r07_Great_sg:List Sg:=[.tree tQuery]
abbrev r07_Great_rs:List Rt:=[.tree .bool]
def r07_Great_l0 (n:Nat):Nat→SgEl [.boxr tQuery, .tree (.int .i64)]→Option (SgEl [] ⊕ SgEl [.tree .bool])
  | 0,_=>none
  | g+1,s =>
    bif ilt s.2.1 (ilen s.1.2.2.2.1) then
     bif ile (0:Int) s.2.1 then
      bindN (lat s.1.2.2.2.1 (iN s.2.1)) fun v1 =>
      bif ilt (100:Int) (ssize v1) then
       some (Sum.inr (true,()))
      else
      bindL (r07_Great_l0 n g (s.1,iadd .i64 s.2.1 (1:Int),())) (fun a2 =>
       some (Sum.inl ())) fun b3 =>
      some (Sum.inr b3)
     else none
    else
    some (Sum.inl ())
theorem r07_Great_l0_ok (n:Nat):∀ g,LEntOk Tryz.prog 19 (nSl r07_Great_sg) ⟨0,[.boxr tQuery, .tree (.int .i64)],0,[],[.tree .bool],r07_Great_l0 n g⟩ g
  | 0=>loop_zero' fun _=>rfl
  | g+1=>loop_step' mixed (T:=[r05_Great_ent n]) (tabCons (r05_Great_ok n) tabNil) tabLNil (r07_Great_l0_ok n g) fun s=>by kernel_rfl
def r07_Great (n:Nat) (x:SgEl r07_Great_sg):Option (RtEl r07_Great_rs×OutEl r07_Great_sg) :=
  bif ilt (200:Int) (ssize x.1.2.1) then
   some ((true,()),((),()))
  else
  bindN (r05_Great n (x.1.2.2.1,())) fun p1 =>
  bif p1.1.1 then
   some ((true,()),((),()))
  else
  bif ilt (20:Int) (ilen x.1.2.2.2.1) then
   some ((true,()),((),()))
  else
  bindL (r07_Great_l0 n n (x.1,(0:Int),())) (fun a2 =>
   some ((false,()),((),()))) fun b3 =>
  some (b3,((),()))
abbrev r07_Great_ent (n:Nat):Ent:=⟨19,r07_Great_sg,r07_Great_rs,r07_Great n⟩
theorem r07_Great_ok (n:Nat):EntOk Tryz.prog (r07_Great_ent n):=ent_ok' mixed (T:=[r05_Great_ent n]) (tabCons (r05_Great_ok n) tabNil) (tabLCons (r07_Great_l0_ok n n) tabLNil) fun x=>by kernel_rfl
abbrev r22_Same_sg:List Sg:=[.tree tCommand, .tree tCommand]
abbrev r22_Same_rs:List Rt:=[.tree .bool]
def r22_Same (n:Nat) (x:SgEl r22_Same_sg):Option (RtEl r22_Same_rs×OutEl r22_Same_sg) :=
  bif ieq x.1.1 x.2.1.1 then
   bindN (r04_Same n (x.1.2.1,x.2.1.2.1,())) fun p1 =>
   bif p1.1.1 then
    bif ieq x.1.2.2.1 x.2.1.2.2.1 then
     bif ieq x.1.2.2.2.1 x.2.1.2.2.2.1 then
      bindN (r07_Same n (x.1.2.2.2.2.1,x.2.1.2.2.2.2.1,())) fun p2 =>
      bif p2.1.1 then
       some ((ieq x.1.2.2.2.2.2.1 x.2.1.2.2.2.2.2.1,()),((),(),()))
      else
      some ((false,()),((),(),()))
     else
     some ((false,()),((),(),()))
    else
    some ((false,()),((),(),()))
   else
   some ((false,()),((),(),()))
  else
  some ((false,()),((),(),()))
abbrev r22_Same_ent (n:Nat):Ent:=⟨45,r22_Same_sg,r22_Same_rs,r22_Same n⟩
theorem r22_Same_ok (n:Nat):EntOk Tryz.prog (r22_Same_ent n):=ent_ok' mixed (T:=[r04_Same_ent n,r07_Same_ent n]) (tabCons (r04_Same_ok n) (tabCons (r07_Same_ok n) tabNil)) tabLNil fun x=>by kernel_rfl
abbrev r22_only_sg:List Sg:=[.tree tCommand]
abbrev r22_only_rs:List Rt:=[.tree tCommand]
def r22_only (n:Nat) (x:SgEl r22_only_sg):Option (RtEl r22_only_rs×OutEl r22_only_sg) :=
  bif ieq x.1.1 (1:Int) then
   some (((x.1.1,x.1.2.1,x.1.2.2.1,x.1.2.2.2.1,((0:Int),(⟨#[]⟩:ByteArray),[],[],()),(0:Int),()),()),((),()))
  else
  bif ieq x.1.1 (2:Int) then
   some (((x.1.1,((⟨#[]⟩:ByteArray),[],()),(0:Int),(0:Int),x.1.2.2.2.2.1,(0:Int),()),()),((),()))
  else
  bif ieq x.1.1 (3:Int) then
   some (((x.1.1,((⟨#[]⟩:ByteArray),[],()),(0:Int),(0:Int),x.1.2.2.2.2.1,(0:Int),()),()),((),()))
  else
  bif ieq x.1.1 (4:Int) then
   some (((x.1.1,((⟨#[]⟩:ByteArray),[],()),(0:Int),(0:Int),((0:Int),(⟨#[]⟩:ByteArray),[],[],()),x.1.2.2.2.2.2),()),((),()))
  else
  some (((x.1.1,((⟨#[]⟩:ByteArray),[],()),(0:Int),(0:Int),((0:Int),(⟨#[]⟩:ByteArray),[],[],()),(0:Int),()),()),((),()))
abbrev r22_only_ent (n:Nat):Ent:=⟨79,r22_only_sg,r22_only_rs,r22_only n⟩
theorem r22_only_ok (n:Nat):EntOk Tryz.prog (r22_only_ent n):=ent_ok' mixed (T:=[]) tabNil tabLNil fun x=>by kernel_rfl
abbrev r22_Right_sg:List Sg:=[.tree tCommand]
abbrev r22_Right_rs:List Rt:=[.tree .bool]
def r22_Right (n:Nat) (x:SgEl r22_Right_sg):Option (RtEl r22_Right_rs×OutEl r22_Right_sg) :=
  bindN (r22_only n x) fun p1 =>
  bindN (r22_Same n (x.1,p1.1)) fun p2 =>
  bif !p2.1.1 then
   some ((false,()),((),()))
  else
  bif ieq x.1.1 (1:Int) then
   bindN (r04_Right n (x.1.2.1,())) fun p3 =>
   bif p3.1.1 then
    bif ile (0:Int) x.1.2.2.1 then
     some ((ile x.1.2.2.1 (1000000000000:Int),()),((),()))
    else
    some ((false,()),((),()))
   else
   some ((false,()),((),()))
  else
  bif ieq x.1.1 (2:Int) then
   bindN (r07_Right n (x.1.2.2.2.2.1,())) fun p4 =>
   some (p4.1,((),()))
  else
  bif ieq x.1.1 (3:Int) then
   bindN (r07_Right n (x.1.2.2.2.2.1,())) fun p5 =>
   some (p5.1,((),()))
  else
  bif ieq x.1.1 (4:Int) then
   bif ile (0:Int) x.1.2.2.2.2.2.1 then
    some ((ilt x.1.2.2.2.2.2.1 (2147483648:Int),()),((),()))
   else
   some ((false,()),((),()))
  else
  some ((ieq x.1.1 (5:Int),()),((),()))
abbrev r22_Right_ent (n:Nat):Ent:=⟨41,r22_Right_sg,r22_Right_rs,r22_Right n⟩
theorem r22_Right_ok (n:Nat):EntOk Tryz.prog (r22_Right_ent n):=ent_ok' mixed (T:=[r22_only_ent n,r22_Same_ent n,r04_Right_ent n,r07_Right_ent n]) (tabCons (r22_only_ok n) (tabCons (r22_Same_ok n) (tabCons (r04_Right_ok n) (tabCons (r07_Right_ok n) tabNil)))) tabLNil fun x=>by kernel_rfl
abbrev r22_Text_sg:List Sg:=[.tree tCommand]
abbrev r22_Text_rs:List Rt:=[.tree .str]
def r22_Text (n:Nat) (x:SgEl r22_Text_sg):Option (RtEl r22_Text_rs×OutEl r22_Text_sg) :=
  bindN (r22_Right n x) fun p1 =>
  bif !p1.1.1 then
   some (((⟨#[]⟩:ByteArray),()),((),()))
  else
  bif ieq x.1.1 (1:Int) then
   bindN (r04_Text n (x.1.2.1,())) fun p2 =>
   bif sfits (⟨#[112,117,116,32]⟩:ByteArray) p2.1.1 then
    bif sfits (scat (⟨#[112,117,116,32]⟩:ByteArray) p2.1.1) (⟨#[32]⟩:ByteArray) then
     bindN (r01_Number n (x.1.2.2.1,())) fun p3 =>
     bif sfits (scat (scat (⟨#[112,117,116,32]⟩:ByteArray) p2.1.1) (⟨#[32]⟩:ByteArray)) p3.1.1 then
      bif sfits (scat (scat (scat (⟨#[112,117,116,32]⟩:ByteArray) p2.1.1) (⟨#[32]⟩:ByteArray)) p3.1.1) (⟨#[32]⟩:ByteArray) then
       bindN (r01_Number n (x.1.2.2.2.1,())) fun p4 =>
       bif sfits (scat (scat (scat (scat (⟨#[112,117,116,32]⟩:ByteArray) p2.1.1) (⟨#[32]⟩:ByteArray)) p3.1.1) (⟨#[32]⟩:ByteArray)) p4.1.1 then
        some ((scat (scat (scat (scat (scat (⟨#[112,117,116,32]⟩:ByteArray) p2.1.1) (⟨#[32]⟩:ByteArray)) p3.1.1) (⟨#[32]⟩:ByteArray)) p4.1.1,()),((),()))
       else none
      else none
     else none
    else none
   else none
  else
  bif ieq x.1.1 (2:Int) then
   bindN (r07_Text n (x.1.2.2.2.2.1,())) fun p5 =>
   bif sfits (⟨#[103,101,116,32]⟩:ByteArray) p5.1.1 then
    some ((scat (⟨#[103,101,116,32]⟩:ByteArray) p5.1.1,()),((),()))
   else none
  else
  bif ieq x.1.1 (3:Int) then
   bindN (r07_Text n (x.1.2.2.2.2.1,())) fun p6 =>
   bif sfits (⟨#[115,117,98,32]⟩:ByteArray) p6.1.1 then
    some ((scat (⟨#[115,117,98,32]⟩:ByteArray) p6.1.1,()),((),()))
   else none
  else
  bif ieq x.1.1 (4:Int) then
   bindN (r01_Number n x.1.2.2.2.2.2) fun p7 =>
   bif sfits (⟨#[99,97,110,99,101,108,32]⟩:ByteArray) p7.1.1 then
    some ((scat (⟨#[99,97,110,99,101,108,32]⟩:ByteArray) p7.1.1,()),((),()))
   else none
  else
  some (((⟨#[115,116,97,116]⟩:ByteArray),()),((),()))
abbrev r22_Text_ent (n:Nat):Ent:=⟨43,r22_Text_sg,r22_Text_rs,r22_Text n⟩
theorem r22_Text_ok (n:Nat):EntOk Tryz.prog (r22_Text_ent n):=ent_ok' mixed (T:=[r22_Right_ent n,r04_Text_ent n,r01_Number_ent n,r07_Text_ent n]) (tabCons (r22_Right_ok n) (tabCons (r04_Text_ok n) (tabCons (r01_Number_ok n) (tabCons (r07_Text_ok n) tabNil)))) tabLNil fun x=>by kernel_rfl
abbrev r22_put_sg:List Sg:=[.tree (.slice .str)]
abbrev r22_put_rs:List Rt:=[.tree tCommand, .tree (.int .i64)]
def r22_put (n:Nat) (x:SgEl r22_put_sg):Option (RtEl r22_put_rs×OutEl r22_put_sg) :=
  bif ile (0:Int) (0:Int) then
   bindN (lat x.1 (iN (0:Int))) fun v1 =>
   bindN (r04_Parse n (v1,())) fun p2 =>
   bif !(ieq p2.1.2.1 (0:Int)) then
    some ((((0:Int),((⟨#[]⟩:ByteArray),[],()),(0:Int),(0:Int),((0:Int),(⟨#[]⟩:ByteArray),[],[],()),(0:Int),()),p2.1.2),((),()))
   else
   bif ile (0:Int) (1:Int) then
    bindN (lat x.1 (iN (1:Int))) fun v3 =>
    bindN (r01_Read n (v3,())) fun p4 =>
    bif !(ieq p4.1.2.1 (0:Int)) then
     some ((((0:Int),((⟨#[]⟩:ByteArray),[],()),(0:Int),(0:Int),((0:Int),(⟨#[]⟩:ByteArray),[],[],()),(0:Int),()),p4.1.2),((),()))
    else
    bif ilt p4.1.1 (0:Int) then
     some ((((0:Int),((⟨#[]⟩:ByteArray),[],()),(0:Int),(0:Int),((0:Int),(⟨#[]⟩:ByteArray),[],[],()),(0:Int),()),(3:Int),()),((),()))
    else
    bif ilt (1000000000000:Int) p4.1.1 then
     some ((((0:Int),((⟨#[]⟩:ByteArray),[],()),(0:Int),(0:Int),((0:Int),(⟨#[]⟩:ByteArray),[],[],()),(0:Int),()),(3:Int),()),((),()))
    else
    bif ile (0:Int) (2:Int) then
     bindN (lat x.1 (iN (2:Int))) fun v5 =>
     bindN (r01_Read n (v5,())) fun p6 =>
     bif !(ieq p6.1.2.1 (0:Int)) then
      some ((((0:Int),((⟨#[]⟩:ByteArray),[],()),(0:Int),(0:Int),((0:Int),(⟨#[]⟩:ByteArray),[],[],()),(0:Int),()),p6.1.2),((),()))
     else
     some ((((1:Int),p2.1.1,p4.1.1,p6.1.1,((0:Int),(⟨#[]⟩:ByteArray),[],[],()),(0:Int),()),(0:Int),()),((),()))
    else none
   else none
  else none
abbrev r22_put_ent (n:Nat):Ent:=⟨95,r22_put_sg,r22_put_rs,r22_put n⟩
theorem r22_put_ok (n:Nat):EntOk Tryz.prog (r22_put_ent n):=ent_ok' mixed (T:=[r04_Parse_ent n,r01_Read_ent n]) (tabCons (r04_Parse_ok n) (tabCons (r01_Read_ok n) tabNil)) tabLNil fun x=>by kernel_rfl
abbrev r22_ask_sg:List Sg:=[.tree (.int .i64), .tree (.slice .str)]
abbrev r22_ask_rs:List Rt:=[.tree tCommand, .tree (.int .i64)]
def r22_ask (n:Nat) (x:SgEl r22_ask_sg):Option (RtEl r22_ask_rs×OutEl r22_ask_sg) :=
  bindN (r02_Join n ((⟨#[32]⟩:ByteArray),x.2)) fun p1 =>
  bindN (r07_Parse n p1.1) fun p2 =>
  bif !(ieq p2.1.2.1 (0:Int)) then
   some ((((0:Int),((⟨#[]⟩:ByteArray),[],()),(0:Int),(0:Int),((0:Int),(⟨#[]⟩:ByteArray),[],[],()),(0:Int),()),p2.1.2),((),(),()))
  else
  some (((x.1,((⟨#[]⟩:ByteArray),[],()),(0:Int),(0:Int),p2.1.1,(0:Int),()),(0:Int),()),((),(),()))
abbrev r22_ask_ent (n:Nat):Ent:=⟨96,r22_ask_sg,r22_ask_rs,r22_ask n⟩
theorem r22_ask_ok (n:Nat):EntOk Tryz.prog (r22_ask_ent n):=ent_ok' mixed (T:=[r02_Join_ent n,r07_Parse_ent n]) (tabCons (r02_Join_ok n) (tabCons (r07_Parse_ok n) tabNil)) tabLNil fun x=>by kernel_rfl
abbrev r22_Parse_sg:List Sg:=[.tree .str]
abbrev r22_Parse_rs:List Rt:=[.tree tCommand, .tree (.int .i64)]
def r22_Parse (n:Nat) (x:SgEl r22_Parse_sg):Option (RtEl r22_Parse_rs×OutEl r22_Parse_sg) :=
  bindN (r02_Fields n x) fun p1 =>
  bif ieq (ilen p1.1.1) (0:Int) then
   some ((((0:Int),((⟨#[]⟩:ByteArray),[],()),(0:Int),(0:Int),((0:Int),(⟨#[]⟩:ByteArray),[],[],()),(0:Int),()),(2:Int),()),((),()))
  else
  bif ile (0:Int) (0:Int) then
   bindN (lat p1.1.1 (iN (0:Int))) fun v2 =>
   bif seq v2 (⟨#[112,117,116]⟩:ByteArray) then
    bif ieq (ilen p1.1.1) (4:Int) then
     bif ile (0:Int) (1:Int) then
      bif ile (1:Int) (ilen p1.1.1) then
       bif ile (ilen p1.1.1) (ilen p1.1.1) then
        bindN (r22_put n (winI p1.1.1 (1:Int) (ilen p1.1.1),())) fun p3 =>
        some (p3.1,((),()))
       else none
      else none
     else none
    else
    bif ile (0:Int) (0:Int) then
     bindN (lat p1.1.1 (iN (0:Int))) fun v4 =>
     bif seq v4 (⟨#[103,101,116]⟩:ByteArray) then
      bif ile (0:Int) (1:Int) then
       bif ile (1:Int) (ilen p1.1.1) then
        bif ile (ilen p1.1.1) (ilen p1.1.1) then
         bindN (r22_ask n ((2:Int),winI p1.1.1 (1:Int) (ilen p1.1.1),())) fun p5 =>
         some (p5.1,((),()))
        else none
       else none
      else none
     else
     bif ile (0:Int) (0:Int) then
      bindN (lat p1.1.1 (iN (0:Int))) fun v6 =>
      bif seq v6 (⟨#[115,117,98]⟩:ByteArray) then
       bif ile (0:Int) (1:Int) then
        bif ile (1:Int) (ilen p1.1.1) then
         bif ile (ilen p1.1.1) (ilen p1.1.1) then
          bindN (r22_ask n ((3:Int),winI p1.1.1 (1:Int) (ilen p1.1.1),())) fun p7 =>
          some (p7.1,((),()))
         else none
        else none
       else none
      else
      bif ile (0:Int) (0:Int) then
       bindN (lat p1.1.1 (iN (0:Int))) fun v8 =>
       bif seq v8 (⟨#[115,116,97,116]⟩:ByteArray) then
        bif ieq (ilen p1.1.1) (1:Int) then
         some ((((5:Int),((⟨#[]⟩:ByteArray),[],()),(0:Int),(0:Int),((0:Int),(⟨#[]⟩:ByteArray),[],[],()),(0:Int),()),(0:Int),()),((),()))
        else
        bif ile (0:Int) (0:Int) then
         bindN (lat p1.1.1 (iN (0:Int))) fun v9 =>
         bif seq v9 (⟨#[99,97,110,99,101,108]⟩:ByteArray) then
          bif ieq (ilen p1.1.1) (2:Int) then
           bif ile (0:Int) (1:Int) then
            bindN (lat p1.1.1 (iN (1:Int))) fun v10 =>
            bindN (r01_Read n (v10,())) fun p11 =>
            bif ieq p11.1.2.1 (0:Int) then
             bif ilt p11.1.1 (0:Int) then
              bif !(ieq (3:Int) (0:Int)) then
               some ((((0:Int),((⟨#[]⟩:ByteArray),[],()),(0:Int),(0:Int),((0:Int),(⟨#[]⟩:ByteArray),[],[],()),(0:Int),()),(3:Int),()),((),()))
              else
              some ((((4:Int),((⟨#[]⟩:ByteArray),[],()),(0:Int),(0:Int),((0:Int),(⟨#[]⟩:ByteArray),[],[],()),p11.1.1,()),(0:Int),()),((),()))
             else
             bif ile (2147483648:Int) p11.1.1 then
              bif !(ieq (3:Int) (0:Int)) then
               some ((((0:Int),((⟨#[]⟩:ByteArray),[],()),(0:Int),(0:Int),((0:Int),(⟨#[]⟩:ByteArray),[],[],()),(0:Int),()),(3:Int),()),((),()))
              else
              some ((((4:Int),((⟨#[]⟩:ByteArray),[],()),(0:Int),(0:Int),((0:Int),(⟨#[]⟩:ByteArray),[],[],()),p11.1.1,()),(0:Int),()),((),()))
             else
             bif !(ieq p11.1.2.1 (0:Int)) then
              some ((((0:Int),((⟨#[]⟩:ByteArray),[],()),(0:Int),(0:Int),((0:Int),(⟨#[]⟩:ByteArray),[],[],()),(0:Int),()),p11.1.2),((),()))
             else
             some ((((4:Int),((⟨#[]⟩:ByteArray),[],()),(0:Int),(0:Int),((0:Int),(⟨#[]⟩:ByteArray),[],[],()),p11.1.1,()),(0:Int),()),((),()))
            else
            bif !(ieq p11.1.2.1 (0:Int)) then
             some ((((0:Int),((⟨#[]⟩:ByteArray),[],()),(0:Int),(0:Int),((0:Int),(⟨#[]⟩:ByteArray),[],[],()),(0:Int),()),p11.1.2),((),()))
            else
            some ((((4:Int),((⟨#[]⟩:ByteArray),[],()),(0:Int),(0:Int),((0:Int),(⟨#[]⟩:ByteArray),[],[],()),p11.1.1,()),(0:Int),()),((),()))
           else none
          else
          some ((((0:Int),((⟨#[]⟩:ByteArray),[],()),(0:Int),(0:Int),((0:Int),(⟨#[]⟩:ByteArray),[],[],()),(0:Int),()),(2:Int),()),((),()))
         else
         some ((((0:Int),((⟨#[]⟩:ByteArray),[],()),(0:Int),(0:Int),((0:Int),(⟨#[]⟩:ByteArray),[],[],()),(0:Int),()),(2:Int),()),((),()))
        else none
       else
       bif ile (0:Int) (0:Int) then
        bindN (lat p1.1.1 (iN (0:Int))) fun v12 =>
        bif seq v12 (⟨#[99,97,110,99,101,108]⟩:ByteArray) then
         bif ieq (ilen p1.1.1) (2:Int) then
          bif ile (0:Int) (1:Int) then
           bindN (lat p1.1.1 (iN (1:Int))) fun v13 =>
           bindN (r01_Read n (v13,())) fun p14 =>
           bif ieq p14.1.2.1 (0:Int) then
            bif ilt p14.1.1 (0:Int) then
             bif !(ieq (3:Int) (0:Int)) then
              some ((((0:Int),((⟨#[]⟩:ByteArray),[],()),(0:Int),(0:Int),((0:Int),(⟨#[]⟩:ByteArray),[],[],()),(0:Int),()),(3:Int),()),((),()))
             else
             some ((((4:Int),((⟨#[]⟩:ByteArray),[],()),(0:Int),(0:Int),((0:Int),(⟨#[]⟩:ByteArray),[],[],()),p14.1.1,()),(0:Int),()),((),()))
            else
            bif ile (2147483648:Int) p14.1.1 then
             bif !(ieq (3:Int) (0:Int)) then
              some ((((0:Int),((⟨#[]⟩:ByteArray),[],()),(0:Int),(0:Int),((0:Int),(⟨#[]⟩:ByteArray),[],[],()),(0:Int),()),(3:Int),()),((),()))
             else
             some ((((4:Int),((⟨#[]⟩:ByteArray),[],()),(0:Int),(0:Int),((0:Int),(⟨#[]⟩:ByteArray),[],[],()),p14.1.1,()),(0:Int),()),((),()))
            else
            bif !(ieq p14.1.2.1 (0:Int)) then
             some ((((0:Int),((⟨#[]⟩:ByteArray),[],()),(0:Int),(0:Int),((0:Int),(⟨#[]⟩:ByteArray),[],[],()),(0:Int),()),p14.1.2),((),()))
            else
            some ((((4:Int),((⟨#[]⟩:ByteArray),[],()),(0:Int),(0:Int),((0:Int),(⟨#[]⟩:ByteArray),[],[],()),p14.1.1,()),(0:Int),()),((),()))
           else
           bif !(ieq p14.1.2.1 (0:Int)) then
            some ((((0:Int),((⟨#[]⟩:ByteArray),[],()),(0:Int),(0:Int),((0:Int),(⟨#[]⟩:ByteArray),[],[],()),(0:Int),()),p14.1.2),((),()))
           else
           some ((((4:Int),((⟨#[]⟩:ByteArray),[],()),(0:Int),(0:Int),((0:Int),(⟨#[]⟩:ByteArray),[],[],()),p14.1.1,()),(0:Int),()),((),()))
          else none
         else
         some ((((0:Int),((⟨#[]⟩:ByteArray),[],()),(0:Int),(0:Int),((0:Int),(⟨#[]⟩:ByteArray),[],[],()),(0:Int),()),(2:Int),()),((),()))
        else
        some ((((0:Int),((⟨#[]⟩:ByteArray),[],()),(0:Int),(0:Int),((0:Int),(⟨#[]⟩:ByteArray),[],[],()),(0:Int),()),(2:Int),()),((),()))
       else none
      else none
     else none
    else none
   else
   bif ile (0:Int) (0:Int) then
    bindN (lat p1.1.1 (iN (0:Int))) fun v15 =>
    bif seq v15 (⟨#[103,101,116]⟩:ByteArray) then
     bif ile (0:Int) (1:Int) then
      bif ile (1:Int) (ilen p1.1.1) then
       bif ile (ilen p1.1.1) (ilen p1.1.1) then
        bindN (r22_ask n ((2:Int),winI p1.1.1 (1:Int) (ilen p1.1.1),())) fun p16 =>
        some (p16.1,((),()))
       else none
      else none
     else none
    else
    bif ile (0:Int) (0:Int) then
     bindN (lat p1.1.1 (iN (0:Int))) fun v17 =>
     bif seq v17 (⟨#[115,117,98]⟩:ByteArray) then
      bif ile (0:Int) (1:Int) then
       bif ile (1:Int) (ilen p1.1.1) then
        bif ile (ilen p1.1.1) (ilen p1.1.1) then
         bindN (r22_ask n ((3:Int),winI p1.1.1 (1:Int) (ilen p1.1.1),())) fun p18 =>
         some (p18.1,((),()))
        else none
       else none
      else none
     else
     bif ile (0:Int) (0:Int) then
      bindN (lat p1.1.1 (iN (0:Int))) fun v19 =>
      bif seq v19 (⟨#[115,116,97,116]⟩:ByteArray) then
       bif ieq (ilen p1.1.1) (1:Int) then
        some ((((5:Int),((⟨#[]⟩:ByteArray),[],()),(0:Int),(0:Int),((0:Int),(⟨#[]⟩:ByteArray),[],[],()),(0:Int),()),(0:Int),()),((),()))
       else
       bif ile (0:Int) (0:Int) then
        bindN (lat p1.1.1 (iN (0:Int))) fun v20 =>
        bif seq v20 (⟨#[99,97,110,99,101,108]⟩:ByteArray) then
         bif ieq (ilen p1.1.1) (2:Int) then
          bif ile (0:Int) (1:Int) then
           bindN (lat p1.1.1 (iN (1:Int))) fun v21 =>
           bindN (r01_Read n (v21,())) fun p22 =>
           bif ieq p22.1.2.1 (0:Int) then
            bif ilt p22.1.1 (0:Int) then
             bif !(ieq (3:Int) (0:Int)) then
              some ((((0:Int),((⟨#[]⟩:ByteArray),[],()),(0:Int),(0:Int),((0:Int),(⟨#[]⟩:ByteArray),[],[],()),(0:Int),()),(3:Int),()),((),()))
             else
             some ((((4:Int),((⟨#[]⟩:ByteArray),[],()),(0:Int),(0:Int),((0:Int),(⟨#[]⟩:ByteArray),[],[],()),p22.1.1,()),(0:Int),()),((),()))
            else
            bif ile (2147483648:Int) p22.1.1 then
             bif !(ieq (3:Int) (0:Int)) then
              some ((((0:Int),((⟨#[]⟩:ByteArray),[],()),(0:Int),(0:Int),((0:Int),(⟨#[]⟩:ByteArray),[],[],()),(0:Int),()),(3:Int),()),((),()))
             else
             some ((((4:Int),((⟨#[]⟩:ByteArray),[],()),(0:Int),(0:Int),((0:Int),(⟨#[]⟩:ByteArray),[],[],()),p22.1.1,()),(0:Int),()),((),()))
            else
            bif !(ieq p22.1.2.1 (0:Int)) then
             some ((((0:Int),((⟨#[]⟩:ByteArray),[],()),(0:Int),(0:Int),((0:Int),(⟨#[]⟩:ByteArray),[],[],()),(0:Int),()),p22.1.2),((),()))
            else
            some ((((4:Int),((⟨#[]⟩:ByteArray),[],()),(0:Int),(0:Int),((0:Int),(⟨#[]⟩:ByteArray),[],[],()),p22.1.1,()),(0:Int),()),((),()))
           else
           bif !(ieq p22.1.2.1 (0:Int)) then
            some ((((0:Int),((⟨#[]⟩:ByteArray),[],()),(0:Int),(0:Int),((0:Int),(⟨#[]⟩:ByteArray),[],[],()),(0:Int),()),p22.1.2),((),()))
           else
           some ((((4:Int),((⟨#[]⟩:ByteArray),[],()),(0:Int),(0:Int),((0:Int),(⟨#[]⟩:ByteArray),[],[],()),p22.1.1,()),(0:Int),()),((),()))
          else none
         else
         some ((((0:Int),((⟨#[]⟩:ByteArray),[],()),(0:Int),(0:Int),((0:Int),(⟨#[]⟩:ByteArray),[],[],()),(0:Int),()),(2:Int),()),((),()))
        else
        some ((((0:Int),((⟨#[]⟩:ByteArray),[],()),(0:Int),(0:Int),((0:Int),(⟨#[]⟩:ByteArray),[],[],()),(0:Int),()),(2:Int),()),((),()))
       else none
      else
      bif ile (0:Int) (0:Int) then
       bindN (lat p1.1.1 (iN (0:Int))) fun v23 =>
       bif seq v23 (⟨#[99,97,110,99,101,108]⟩:ByteArray) then
        bif ieq (ilen p1.1.1) (2:Int) then
         bif ile (0:Int) (1:Int) then
          bindN (lat p1.1.1 (iN (1:Int))) fun v24 =>
          bindN (r01_Read n (v24,())) fun p25 =>
          bif ieq p25.1.2.1 (0:Int) then
           bif ilt p25.1.1 (0:Int) then
            bif !(ieq (3:Int) (0:Int)) then
             some ((((0:Int),((⟨#[]⟩:ByteArray),[],()),(0:Int),(0:Int),((0:Int),(⟨#[]⟩:ByteArray),[],[],()),(0:Int),()),(3:Int),()),((),()))
            else
            some ((((4:Int),((⟨#[]⟩:ByteArray),[],()),(0:Int),(0:Int),((0:Int),(⟨#[]⟩:ByteArray),[],[],()),p25.1.1,()),(0:Int),()),((),()))
           else
           bif ile (2147483648:Int) p25.1.1 then
            bif !(ieq (3:Int) (0:Int)) then
             some ((((0:Int),((⟨#[]⟩:ByteArray),[],()),(0:Int),(0:Int),((0:Int),(⟨#[]⟩:ByteArray),[],[],()),(0:Int),()),(3:Int),()),((),()))
            else
            some ((((4:Int),((⟨#[]⟩:ByteArray),[],()),(0:Int),(0:Int),((0:Int),(⟨#[]⟩:ByteArray),[],[],()),p25.1.1,()),(0:Int),()),((),()))
           else
           bif !(ieq p25.1.2.1 (0:Int)) then
            some ((((0:Int),((⟨#[]⟩:ByteArray),[],()),(0:Int),(0:Int),((0:Int),(⟨#[]⟩:ByteArray),[],[],()),(0:Int),()),p25.1.2),((),()))
           else
           some ((((4:Int),((⟨#[]⟩:ByteArray),[],()),(0:Int),(0:Int),((0:Int),(⟨#[]⟩:ByteArray),[],[],()),p25.1.1,()),(0:Int),()),((),()))
          else
          bif !(ieq p25.1.2.1 (0:Int)) then
           some ((((0:Int),((⟨#[]⟩:ByteArray),[],()),(0:Int),(0:Int),((0:Int),(⟨#[]⟩:ByteArray),[],[],()),(0:Int),()),p25.1.2),((),()))
          else
          some ((((4:Int),((⟨#[]⟩:ByteArray),[],()),(0:Int),(0:Int),((0:Int),(⟨#[]⟩:ByteArray),[],[],()),p25.1.1,()),(0:Int),()),((),()))
         else none
        else
        some ((((0:Int),((⟨#[]⟩:ByteArray),[],()),(0:Int),(0:Int),((0:Int),(⟨#[]⟩:ByteArray),[],[],()),(0:Int),()),(2:Int),()),((),()))
       else
       some ((((0:Int),((⟨#[]⟩:ByteArray),[],()),(0:Int),(0:Int),((0:Int),(⟨#[]⟩:ByteArray),[],[],()),(0:Int),()),(2:Int),()),((),()))
      else none
     else none
    else none
   else none
  else none
abbrev r22_Parse_ent (n:Nat):Ent:=⟨47,r22_Parse_sg,r22_Parse_rs,r22_Parse n⟩
theorem r22_Parse_ok (n:Nat):EntOk Tryz.prog (r22_Parse_ent n):=ent_ok' mixed (T:=[r02_Fields_ent n,r22_put_ent n,r22_ask_ent n,r01_Read_ent n]) (tabCons (r02_Fields_ok n) (tabCons (r22_put_ok n) (tabCons (r22_ask_ok n) (tabCons (r01_Read_ok n) tabNil)))) tabLNil fun x=>by kernel_rfl
end Go.Proofs.YtdcphpbimeoioaaGreatDoorE
end
section
set_option linter.unusedSectionVars false
namespace Go.Proofs.YtdcphpbimeoioaaGreatDoorE
open Go Go.RowKit Go.Shelf
open Go.Sort (HoldsK flatK get_flatK size_flatK putCells)
set_option linter.unusedVariables false
set_option linter.unusedSimpArgs false
section
variable {P:Program} {S:Nat→SL} {F:Nat→Prop} {w w':World} {H:Heap}
theorem below_rel (hr:Rel S F w H) (bel:BelD w w'):Rel S F w' H∧Adv S F w H S F w' H:=by
 have hlive:∀ b k,blkOf (S b)=some k→k<w.heap.size:=by
  intro b k hb
  cases hg:hget H b with
  | unused=>rw [unused_S hr hg] at hb;cases hb
  | dead =>
   have:=hr.slots b;rw [hg] at this
   cases hs:S b<;>rw [hs] at this hb<;>simp only [SlotOk] at this
   cases hb
  | live y=>exact blkOf_lt hr hg hb
 exact ⟨⟨fun b=>(hr.slots b).mono (fun _ h=>h) (fun k hk=>bel.block k (hr.fsz k hk)) (fun _ _ => .inl rfl) (fun k hk=>bel.block k (hlive b k hk)) (fun _ _ h=>h),hr.inj,fun k hk=>Nat.lt_of_lt_of_le (hr.fsz k hk) bel.size,hr.gl.mono (fun _ h=>h) fun k hk=>bel.block k (hr.fsz k hk)⟩,
  ⟨fun _ h=>h,fun _ _ => .inl rfl,bel.size,fun k hk _=>bel.block k hk,fun k hk => .inl hk,fun k h => .inl h,bel.os,bel.tape,bel.output,bel.drawn⟩⟩
theorem app_copy {t:Ty} {xs:List (El t)} {v:Value} {tS e ty:TypeId} {z:List PV} {bytes:Nat} (hr:Rel S F w []) (hv:Val S F w (.lst t xs) v) (ht:P.underlying tS=some (.slice e)) (hz:zeroPV P e=some z) (hs:szOf P e=some t.size) (hby:0<bytes) (hbe:P.bytesOf e=bytes)
  (hroom:room xs.length bytes=true) (a:Option Addr) :
  ∃ u' w' S' F',(Builtin.append_ #[tS,tS] ty #[.slice a 0 0,v]).run P w = .ok u' w'∧Rel S' F' w' [.live (.arr t xs true)]∧Val S' F' w' (.own 0) u'∧Adv S F w [] S' F' w' [.live (.arr t xs true)]:=by
 have h:appendV 0 [] t.size bytes (.emp t) (.lst t xs) (fun p H=>some (p,H))=some (.own 0,[.live (.arr t xs true)]):=by
  simp [appendV,elsOf,castL,optK,hroom,fresh,fH_eq,hset,hget]
 obtain ⟨u',w',h1,p,H',S',F',h2,h3,h4,h5⟩:=ok_appendE (nb:=0) (ty:=ty) hr (.emp t a) hv ht hz hs hby hbe (.inl ⟨e,ht⟩) (by simp [ht]) h
 simp only [Option.some.injEq,Prod.mk.injEq] at h2
 obtain ⟨rfl,rfl⟩:=h2
 exact ⟨u',w',S',F',h1,h3,h4,h5⟩
theorem own_none (hr:Rel S F w []) (bel:BelD w w') (t:Ty) (a:Option Addr) :
  ∃ S' F',Rel S' F' w' [.live (.arr t [] true)]∧Val S' F' w' (.own 0) (.slice a 0 0)∧Adv S F w [] S' F' w' [.live (.arr t [] true)]:=by
 obtain ⟨h1,h2⟩:=below_rel hr bel
 obtain ⟨S',n1,n2,n3⟩:=new_none (nb:=0) h1 (by simp [hget]) t a
 exact ⟨S',F,n1,n3,h2.trans' n2⟩
def pvVal:PV→Value
 | .int k n => .int k n
 | .bool b => .bool b
 | .str s => .string s
 | _=>undef
def flatY:Ty→Bool
 | .int _|.bool|.str|.unit=>true
 | .pair a b=>flatY a && flatY b
 | _=>false
def encT (t:Ty) (x:El t):List Value:=(cellsOf t x).map pvVal
theorem flat_pv:∀ (t:Ty),flatY t=true→∀ (x:El t) (p:PV),p∈cellsOf t x→(pvVal p).oneCell=true∧∀ (S:Nat→SL) (F:Nat→Prop) (w:World),Val S F w p (pvVal p)∧∀ v,Val S F w p v→v=pvVal p
 | .int k,_,n,p,h=>by simp [cellsOf] at h;subst h;exact ⟨rfl,fun S F w=>⟨.int _ _,fun v hv=>val_int hv⟩⟩
 | .bool,_,b,p,h=>by simp [cellsOf] at h;subst h;exact ⟨rfl,fun S F w=>⟨.bool _,fun v hv=>val_bool hv⟩⟩
 | .str,_,s,p,h=>by simp [cellsOf] at h;subst h;exact ⟨rfl,fun S F w=>⟨.str _,fun v hv=>val_str hv⟩⟩
 | .unit,_,_,p,h=>by simp [cellsOf] at h
 | .slice t,h,_,_,_=>by cases h
 | .none,h,_,_,_=>by cases h
 | .pair a b,hf,x,p,h=>by
  simp only [flatY,Bool.and_eq_true] at hf
  simp only [cellsOf,List.mem_append] at h
  rcases h with h|h
  ·exact flat_pv a hf.1 _ p h
  ·exact flat_pv b hf.2 _ p h
theorem encT_len (t:Ty) (x:El t):(encT t x).length=t.size:=by simp [encT,cellsOf_size]
theorem encT_one {t:Ty} (h:flatY t=true) (x:El t):∀ v∈encT t x,v.oneCell'=true:=by
 intro v hv
 obtain ⟨p,hp,rfl⟩:=List.mem_map.1 hv
 exact one' (flat_pv t h x p hp).1
theorem place_lt {j i k n:Nat} (hj:j<n) (hi:i<k):j * k+i<n * k:=by
 have h1:(j+1) * k≤n * k:=Nat.mul_le_mul_right k hj
 rw [Nat.succ_mul] at h1;omega
theorem place_div {j i k:Nat} (hi:i<k):(j * k+i) / k=j:=by
 rw [Nat.mul_comm,Nat.mul_add_div (by omega),Nat.div_eq_of_lt hi,Nat.add_zero]
theorem place_mod {j i k:Nat} (hi:i<k):(j * k+i) % k=i:=by
 rw [Nat.mul_comm,Nat.mul_add_mod,Nat.mod_eq_of_lt hi]
theorem flat_get {t:Ty} [Inhabited (El t)] {r:List (El t)} {i j:Nat} {x:El t} {p:PV} (hx:r[i]?=some x) (hp:(cellsOf t x)[j]?=some p) :
  i * t.size+j<(flatK (encT t) t.size r.toArray).size∧(flatK (encT t) t.size r.toArray)[i * t.size+j]! = pvVal p:=by
 have hi:=(List.getElem?_eq_some_iff.1 hx).1
 have hj:j<t.size:=by have:=(List.getElem?_eq_some_iff.1 hp).1;rwa [cellsOf_size] at this
 have hT:i * t.size+j<r.toArray.size * t.size:=by simpa using place_lt hi hj
 refine ⟨by rw [size_flatK];exact hT,?_⟩
 rw [get_flatK _ _ _ _ hT,place_div hj,place_mod hj]
 have e1:r.toArray[i]! = x:=by rw [getElem!_pos r.toArray i (by simpa using hi)];simpa using (List.getElem?_eq_some_iff.1 hx).2
 rw [e1,getElem!_pos (encT t x) j (by rw [encT_len];exact hj)]
 simp only [encT,List.getElem_map]
 rw [(List.getElem?_eq_some_iff.1 hp).2]
theorem sortW_holds {α:Type} [Inhabited α] {enc:α→List Value} {k:Nat} {w:World} {blk off m:Nat} {dk:Array α} {os:Array Obj} (hg:gHolds w) (hne:∀ j∈gBlocks,j≠blk):gHolds (sortWorldK enc k w blk off m dk os):=by
 refine gHolds_same (fun j hj=>?_) hg
 have hlt:=gHolds_lt hg j hj
 show ((w.heap.modify blk _)++os)[j]?=w.heap[j]?
 rw [Array.getElem?_append_left (by simpa using hlt),Array.getElem?_modify,if_neg (fun e=>hne j hj e.symm)]
theorem ent_sort {f g:FuncId} {t:Ty} [Inhabited (El t)] (hfl:flatY t=true) (hE:Enters P f) (sorted:List (El t)→List (El t)) (hlen:∀ l,(sorted l).length=l.length)
  (hcell:∀ (l:List (El t)) (blk off cap:Nat) (w:World),HoldsK (encT t) t.size w blk off l.toArray→blk<w.heap.size→l.length<4611686018427387904→gHolds w→(∀ k∈gBlocks,k≠blk) →
   Calls P f #[.slice (some ⟨blk,off,none⟩) l.length cap, .func (.func g) #[] #[]] w fun e w'=>e = .returned (.tuple #[])∧∃ n os,w'=sortWorldK (encT t) t.size w blk off n (sorted l).toArray os)
  (hnone:∀ A c w,Calls P f #[.slice A 0 c, .func (.func g) #[] #[]] w fun e w'=>e = .returned (.tuple #[])∧w'=w) :
  EntOk P ⟨f,[.own t, .fnv g []],[],fun x=>bif Nat.blt x.1.length 4611686018427387904 then some ((),(sorted x.1,((),()))) else none⟩:=by
 intro x y hy
 obtain ⟨l,cs,u⟩:=x
 obtain ⟨h0,hy⟩:=cond_some hy
 simp only [Option.some.injEq] at hy
 subst hy
 refine ⟨hE,?_⟩
 intro S F w vs hr hA
 have hlt:l.length<4611686018427387904:=Nat.le_of_ble_eq_true h0
 have hsz:vs.size=2:=hA.1
 obtain ⟨v0,v1,rfl⟩:∃ v0 v1,vs=#[v0,v1]:=by
  obtain ⟨q⟩:=vs
  match q,hsz with
  | [a,b],_=>exact ⟨a,b,rfl⟩
 have a0:Val S F w (.own 0) v0:=hA.2 0 _ v0 rfl rfl
 have a1:Val S F w (.fn g [] []) v1:=hA.2 1 _ v1 rfl rfl
 obtain rfl:v1 = .func (.func g) #[] #[]:=by
  cases a1 with
  | fn _ _ _ va vb la lb _ _=>rw [Array.eq_empty_of_size_eq_zero la,Array.eq_empty_of_size_eq_zero lb]
 have hH:heapOf [.own t, .fnv g []] (l,cs,u)=[.live (.arr t l true)]:=rfl
 rw [hH] at hr
 have hb:hget [Slot.live (.arr t l true)] 0 = .live (.arr t l true):=rfl
 have hres:encOut [.own t, .fnv g []] [] (l,cs,u) ((),(sorted l,((),())))=(.tup [],[.live (.arr t (sorted l) true)]):=rfl
 rw [hres]
 show Calls P f #[v0, .func (.func g) #[] #[]] w fun e w'=>∃ v S' F',e = .returned v∧Rel S' F' w' [.live (.arr t (sorted l) true)]∧Val S' F' w' (.tup []) v∧Adv S F w (heapOf [.own t, .fnv g []] (l,cs,u)) S' F' w' [.live (.arr t (sorted l) true)]
 rw [hH]
 have hT:∀ (S:Nat→SL) (F:Nat→Prop) (w:World),Val S F w (.tup []) (.tuple #[]):=fun S F w => .tup _ _ rfl fun i p v hp=>by simp at hp
 obtain ⟨a,cap,hS,hcap,hor,hsp⟩:=hget_arr hr hb
 obtain rfl:v0 = .slice a l.length cap:=by
  cases a0 with
  | own _ _ _ _ _ h=>rw [hS] at h;cases h;rfl
  | ownd _ _ h _=>rw [hS] at h;cases h
 by_cases hl:l=[]
 ·subst hl
  have:sorted []=[]:=List.length_eq_zero_iff.1 (hlen [])
  rw [this]
  refine (hnone a cap w).mono ?_
  rintro e w' ⟨rfl,rfl⟩
  exact ⟨_,S,F,rfl,hr,hT _ _ _,Adv.refl _ _ _ _⟩
 ·have hpos:0<l.length:=List.length_pos_iff.2 hl
  rcases hor with h0|⟨ad,rfl,hAr,hF1,hF2⟩
  ·omega
  obtain ⟨g0,c,tt,fr,g1,g2,g3,g4,g5⟩:=hAr
  obtain ⟨blk,off,sp⟩:=ad
  simp only at g0 g1 g2 g5 hF1
  subst g0
  have hbk:blk<w.heap.size:=(Array.getElem?_eq_some_iff.1 g1).1
  have hcapk:l.length * t.size≤cap * t.size:=Nat.mul_le_mul_right _ hcap
  have hHo:HoldsK (encT t) t.size w blk off l.toArray:=by
   intro T hT'
   have hT2:T<l.length * t.size:=by simpa [size_flatK] using hT'
   obtain ⟨e1,e2,e3⟩:=split_lt hT2
   have hx:=List.getElem?_eq_getElem e1
   have hl2:T % t.size<(cellsOf t l[T / t.size]).length:=by rw [cellsOf_size];exact e2
   have hp:=List.getElem?_eq_getElem hl2
   obtain ⟨v,k1,k2⟩:=g5 _ _ _ _ hx hp
   obtain ⟨k3,k4⟩:=flat_get (t:=t) hx hp
   rw [e3] at k4
   have k5:=((flat_pv t hfl _ _ (List.mem_of_getElem? hp)).2 S F w).2 v k2
   have e4:off+T / t.size * t.size+T % t.size=off+T:=by omega
   rw [e4] at k1
   refine ⟨?_,?_⟩
   ·show w.cell? ⟨blk,off+T,none⟩=some (id (flatK (encT t) t.size l.toArray)[T]!)
    rw [k4]
    simp [World.cell?,g1,k1,k5]
   ·have:=g3 (off+T)
    simp only [World.frozen?,g1]
    have q0:off+T<c.size:=by omega
    have q3:=this q0
    by_cases q1:fr.1≤off+T
    ·have q2:¬ off+T<fr.2:=fun h=>q3 ⟨q1,h⟩
     simp [q1,q2]
    ·simp [q1]
  refine (hcell l blk off cap w hHo hbk hlt hr.gl.2 fun k hk e=>hF1 trivial (e ▸ hr.gl.1 k hk)).mono ?_
  rintro e w' ⟨rfl,n,os,rfl⟩
  generalize hr':sorted l=r
  have hrl:r.length=l.length:=hr' ▸ hlen l
  let c':Array Value:=putCells id off (flatK (encT t) t.size r.toArray) c
  let w1:World:=Go.Sort.putRowK (encT t) t.size (Go.Sort.ahead w n) blk off r.toArray
  have hw1:∀ k,w1.heap[k]?=if blk=k then some (.cells c' tt fr) else w.heap[k]?:=by
   intro k
   show (w.heap.modify blk _)[k]?=_
   rw [Array.getElem?_modify]
   by_cases hk:blk=k
   ·subst hk
    rw [if_pos rfl,if_pos rfl,g1];rfl
   ·rw [if_neg hk,if_neg hk]
  have hs1:w1.heap.size=w.heap.size:=by show (w.heap.modify blk _).size=_;simp
  have hc's:c'.size=c.size:=by simp [c',putCells]
  have hfs:(flatK (encT t) t.size r.toArray).size=l.length * t.size:=by rw [size_flatK];simp [hrl]
  have hbo:blkOf (S 0)=some blk:=by rw [hS];simp [blkOf];omega
  have hx1:Blk.wr (.arr t l true)=true:=rfl
  have hin:∀ i x j p,r[i]?=some x→(cellsOf t x)[j]?=some p→c'[off+i * t.size+j]?=some (pvVal p):=by
   intro i x j p hx hp
   obtain ⟨k3,k4⟩:=flat_get (t:=t) hx hp
   rw [hfs] at k3
   simp only [c',putCells,Array.getElem?_mapIdx]
   rw [Array.getElem?_eq_getElem (by omega:off+i * t.size+j<c.size),Option.map_some,if_pos ⟨by omega,by rw [hfs];omega⟩]
   rw [show off+i * t.size+j - off=i * t.size+j by omega,k4];rfl
  have hok:SlotOk S F w1 (.live (.arr t r true)) (S 0):=by
   rw [hS]
   simp only [SlotOk]
   refine ⟨by rw [hrl],trivial,hcap,fun _ ad h=>by cases h;rfl, .inr ⟨_,rfl,⟨rfl,c',tt,fr,by rw [hw1,if_pos rfl],by rw [hc's];exact g2,by rw [hc's];exact g3,fun j v hv=>?_,fun i x j p hx hp=>⟨_,hin i x j p hx hp,((flat_pv t hfl _ _ (List.mem_of_getElem? hp)).2 S F w1).1⟩⟩,hF1,hF2⟩⟩
   simp only [c',putCells,Array.getElem?_mapIdx] at hv
   cases hcj:c[j]? with
   | none=>rw [hcj] at hv;cases hv
   | some q =>
    rw [hcj] at hv
    simp only [Option.map_some,Option.some.injEq] at hv
    split at hv
    ·subst hv
     rename_i hj
     have hT2:j - off<r.length * t.size:=by rw [hrl];rw [hfs] at hj;omega
     obtain ⟨e1,e2,e3⟩:=split_lt hT2
     have hx:=List.getElem?_eq_getElem e1
     have hl2:(j - off) % t.size<(cellsOf t r[(j - off) / t.size]).length:=by rw [cellsOf_size];exact e2
     have hp:=List.getElem?_eq_getElem hl2
     obtain ⟨_,k4⟩:=flat_get (t:=t) hx hp
     rw [e3] at k4
     rw [k4]
     exact (flat_pv t hfl _ _ (List.mem_of_getElem? hp)).1
    ·subst hv;exact g4 j _ hcj
  obtain ⟨q1,q2⟩:=upd_rel (w':=w1) (y := .arr t r true) hr hb hx1 rfl hbo hs1 (fun k' hk'=>by rw [hw1,if_neg (fun h=>hk' h.symm)]) ⟨rfl,rfl,rfl,fun d=>Bool.noConfusion d⟩ hok
  have bel:BelD w1 (sortWorldK (encT t) t.size w blk off n r.toArray os):=by
   refine ⟨⟨rfl,rfl,rfl,?_,fun k hk=>?_⟩,fun d=>Bool.noConfusion d⟩
   ·show w1.heap.size≤(w1.heap++os).size
    rw [Array.size_append];omega
   ·show (w1.heap++os)[k]?=_
    rw [Array.getElem?_append_left hk]
  obtain ⟨q3,q4⟩:=below_rel q1 bel
  exact ⟨_,S,F,rfl,q3,hT _ _ _,q2.trans' q4⟩
end
end Go.Proofs.YtdcphpbimeoioaaGreatDoorE
end
section
set_option linter.unusedSectionVars false
namespace Go.Proofs.YtdcphpbimeoioaaGreatDoorE
open Go
set_option linter.unusedVariables false
set_option linter.unusedSimpArgs false
theorem u8_lt_irrefl (a:UInt8):¬ a<a:=by simp
theorem bl_cons (a b:UInt8) (x y:List UInt8):Op.bytesLess (a ::x) (b ::y)=true↔a<b∨(a=b∧Op.bytesLess x y=true):=by
 simp [Op.bytesLess]
theorem cmp_lt:∀ a b:List UInt8,Lib.compareBytes a b<0↔Op.bytesLess a b=true
 | [],[]=>by simp [Lib.compareBytes,Op.bytesLess]
 | [],_ ::_=>by simp [Lib.compareBytes,Op.bytesLess]
 | _ ::_,[]=>by simp [Lib.compareBytes,Op.bytesLess]
 | a ::x,b ::y=>by
  rw [bl_cons,Lib.compareBytes]
  split
  ·rename_i h;simp [h]
  ·rename_i h
   split
   ·rename_i h2
    have hne:a≠b:=fun e=>by subst e;exact u8_lt_irrefl _ h2
    simp [h,hne]
   ·rename_i h2
    have e:a=b:=by
     apply UInt8.toNat_inj.1
     rw [UInt8.lt_iff_toNat_lt] at h h2;omega
    subst e
    simp [cmp_lt x y]
theorem cmp_zero:∀ a b:List UInt8,Lib.compareBytes a b=0↔a=b
 | [],[]=>by simp [Lib.compareBytes]
 | [],_ ::_=>by simp [Lib.compareBytes]
 | _ ::_,[]=>by simp [Lib.compareBytes]
 | a ::x,b ::y=>by
  rw [Lib.compareBytes]
  split
  ·rename_i h
   have hne:a≠b:=fun e=>by subst e;exact u8_lt_irrefl _ h
   simp [hne]
  ·rename_i h
   split
   ·rename_i h2
    have hne:a≠b:=fun e=>by subst e;exact u8_lt_irrefl _ h2
    simp [hne]
   ·rename_i h2
    have e:a=b:=by
     apply UInt8.toNat_inj.1
     rw [UInt8.lt_iff_toNat_lt] at h h2;omega
    subst e
    simp [cmp_zero x y]
theorem bl_irrefl:∀ a:List UInt8,Op.bytesLess a a=false
 | []=>rfl
 | a ::x=>by simp [Op.bytesLess,bl_irrefl x]
theorem bl_trans:∀ a b c:List UInt8,Op.bytesLess a b=true→Op.bytesLess b c=true→Op.bytesLess a c=true
 | _,_,[],_,h=>by simp [Op.bytesLess] at h
 | [],_,_ ::_,_,_=>rfl
 | _ ::_,[],_ ::_,h,_=>by simp [Op.bytesLess] at h
 | a ::x,b ::y,c ::z,h1,h2=>by
  rw [bl_cons] at *
  rcases h1 with h1|⟨rfl,h1⟩
  ·rcases h2 with h2|⟨rfl,h2⟩
   ·left;rw [UInt8.lt_iff_toNat_lt] at *;omega
   ·exact .inl h1
  ·rcases h2 with h2|⟨rfl,h2⟩
   ·exact .inl h2
   ·exact .inr ⟨rfl,bl_trans _ _ _ h1 h2⟩
theorem bl_total:∀ a b:List UInt8,a≠b→Op.bytesLess a b=true∨Op.bytesLess b a=true
 | [],[],h=>absurd rfl h
 | [],_ ::_,_ => .inl rfl
 | _ ::_,[],_ => .inr rfl
 | a ::x,b ::y,h=>by
  rw [bl_cons,bl_cons]
  by_cases e:a=b
  ·subst e
   rcases bl_total x y (fun e=>h (by rw [e])) with h1|h1
   ·exact .inl (.inr ⟨rfl,h1⟩)
   ·exact .inr (.inr ⟨rfl,h1⟩)
  ·have:a.toNat≠b.toNat:=fun h=>e (UInt8.toNat_inj.1 h)
   rcases Nat.lt_or_gt_of_ne this with h1|h1
   ·exact .inl (.inl (UInt8.lt_iff_toNat_lt.2 h1))
   ·exact .inr (.inl (UInt8.lt_iff_toNat_lt.2 h1))
theorem bl_asymm (a b:List UInt8) (h:Op.bytesLess a b=true):Op.bytesLess b a=false:=by
 cases h2:Op.bytesLess b a with
 | false=>rfl
 | true=>have:=bl_trans _ _ _ h h2;rw [bl_irrefl] at this;cases this
theorem ltOf_text {α:Type} (g:α→List UInt8) (x y:α):ltOf (fun x y=>Lib.compareBytes (g x) (g y)) x y=Op.bytesLess (g x) (g y):=by
 unfold ltOf
 rw [Bool.eq_iff_iff,decide_eq_true_iff]
 exact cmp_lt _ _
theorem swo_text {α:Type} (g:α→List UInt8):Sort.SWO (ltOf (fun x y:α=>Lib.compareBytes (g x) (g y))) where
 irrefl x:=by rw [ltOf_text,bl_irrefl]
 trans x y z h1 h2:=by rw [ltOf_text] at *;exact bl_trans _ _ _ h1 h2
 ntrans x y z h1 h2:=by
  rw [ltOf_text] at *
  cases h:Op.bytesLess (g x) (g z) with
  | false=>rfl
  | true =>
   by_cases e:g x=g y
   ·rw [e] at h;rw [h] at h2;cases h2
   ·rcases bl_total _ _ e with h3|h3
    ·rw [h3] at h1;cases h1
    ·have:=bl_trans _ _ _ h3 h;rw [this] at h2;cases h2
end Go.Proofs.YtdcphpbimeoioaaGreatDoorE
end
section
set_option linter.unusedSectionVars false
namespace Go.Proofs.YtdcphpbimeoioaaGreatDoorE
open Go
set_option linter.unusedVariables false
section
variable {α β ω:Type}
@[simp] theorem ilt_eq (a b:Int):ilt a b=decide (a<b):=by unfold ilt;rfl
@[simp] theorem ile_eq (a b:Int):ile a b=decide (a≤b):=by unfold ile;rfl
@[simp] theorem ieq_eq (a b:Int):ieq a b=decide (a=b):=by unfold ieq;by_cases h:a=b<;>simp [h]
@[simp] theorem seq_eq (a b:ByteArray):seq a b=decide (a=b):=by
 unfold seq
 rw [ByteArray.toList_eq,ByteArray.toList_eq]
 by_cases h:a=b
 ·subst h;simp
 ·have:¬ a.data.toList=b.data.toList:=fun e=>h (ByteArray.ext (Array.ext' e))
  rw [decide_eq_false h];exact beq_eq_false_iff_ne.2 this
@[simp] theorem slt_eq (a b:ByteArray):slt a b=Op.bytesLess a.data.toList b.data.toList:=by unfold slt;rw [ByteArray.toList_eq,ByteArray.toList_eq]
@[simp] theorem ssize_eq (a:ByteArray):ssize a=(a.size:Int):=by unfold ssize;rfl
@[simp] theorem bindN_s (x:α) (K:α→Option β):bindN (some x) K=K x:=by unfold bindN;rfl
@[simp] theorem bindN_n (K:α→Option β):bindN none K=none:=by unfold bindN;rfl
@[simp] theorem bindL_inl (x:α) (K:α→Option β) (R:ω→Option β):bindL (some (.inl x)) K R=K x:=by unfold bindL;rfl
@[simp] theorem bindL_inr (x:ω) (K:α→Option β) (R:ω→Option β):bindL (some (.inr x)) K R=R x:=by unfold bindL;rfl
@[simp] theorem bindL_none (K:α→Option β) (R:ω→Option β):bindL none K R=none:=by unfold bindL;rfl
@[simp] theorem beqB_eq (a b:Bool):beqB a b=decide (a=b):=by cases a<;>cases b<;>rfl
theorem nth_get:∀ (xs:List α) (i:Nat),nth xs i=xs[i]?
 | [],_=>by simp [nth]
 | x ::r,0=>by simp [nth]
 | x ::r,n+1=>by simp [nth,nth_get r n]
@[simp] theorem lat_eq (xs:List α) (i:Nat):lat xs i=xs[i]?:=by unfold lat;exact nth_get xs i
@[simp] theorem win_eq (xs:List α) (i n:Nat):win xs i n=(xs.drop i).take n:=by unfold win;rfl
theorem wrap64 {n:Int} (h1 : -9223372036854775808≤n) (h2:n≤9223372036854775807):IntKind.i64.wrap n=n:=by
 simp [IntKind.wrap,IntKind.bits,IntKind.signed];omega
theorem iadd64 {a b:Int} (h1 : -9223372036854775808≤a+b) (h2:a+b≤9223372036854775807):iadd .i64 a b=a+b:=by unfold iadd;exact wrap64 h1 h2
theorem isub64 {a b:Int} (h1 : -9223372036854775808≤a - b) (h2:a - b≤9223372036854775807):isub .i64 a b=a - b:=by unfold isub;exact wrap64 h1 h2
theorem iadd1 {i:Nat} (h:i<4611686018427387904):iadd .i64 (i:Int) 1=((i+1:Nat):Int):=by rw [iadd64 (by omega) (by omega)];rfl
@[simp] theorem bindL_id (X:Option (Unit ⊕ ω)):bindL X (fun _=>some (Sum.inl ())) (fun b=>some (Sum.inr b))=X:=by
 rcases X with _|⟨⟨⟩|_⟩<;>simp
@[simp] theorem bindL_id1 (X:Option (α ⊕ ω)):bindL X (fun a=>some (Sum.inl a)) (fun b=>some (Sum.inr b))=X:=by
 rcases X with _|_|_<;>simp
@[simp] theorem bindL_id2 (X:Option (α ⊕ Unit)):bindL X (fun a=>some (Sum.inl a)) (fun _=>some (Sum.inr ()))=X:=by
 rcases X with _|_|⟨⟨⟩⟩<;>simp
theorem room_of {n bytes:Nat} (h:n * bytes≤70368744177664):room n bytes=true:=by unfold room;simpa using h
noncomputable def eqb (a b:α):Bool:=@decide (a=b) (Classical.propDecidable _)
@[simp] theorem eqb_refl (a:α):eqb a a=true:=by unfold eqb;exact @decide_eq_true _ (Classical.propDecidable _) rfl
theorem eqb_f {a b:α} (h:¬ a=b):eqb a b=false:=by unfold eqb;exact @decide_eq_false _ (Classical.propDecidable _) h
theorem eqb_iff {a b:α}:eqb a b=true↔a=b:=by unfold eqb;exact @decide_eq_true_iff _ (Classical.propDecidable _)
def Big (n:Nat):Prop:=1000000000000000≤n
@[reducible] def Lim (xs:List α):Prop:=xs.length≤140737488355328
theorem up_loop {ρ:Type} {m:Nat} {L:Nat→Int→Option ρ} {spec:Nat→ρ} (hend:∀ g,L (g+1) (m:Int)=some (spec m))
  (hstep:∀ g i,i<m→L g ((i+1:Nat):Int)=some (spec (i+1))→L (g+1) (i:Int)=some (spec i)):∀ k i g,i+k=m→k<g→L g (i:Int)=some (spec i)
 | 0,i,g,h,hg=>by
  obtain ⟨g,rfl⟩:∃ g',g=g'+1:=⟨g - 1,by omega⟩
  have:i=m:=by omega
  rw [this];exact hend g
 | k+1,i,g,h,hg=>by
  obtain ⟨g,rfl⟩:∃ g',g=g'+1:=⟨g - 1,by omega⟩
  exact hstep g i (by omega) (up_loop hend hstep k (i+1) g (by omega) (by omega))
theorem drop_eq {xs:List α} {i:Nat} (h:i<xs.length):xs.drop i=xs[i] ::xs.drop (i+1):=List.drop_eq_getElem_cons h
theorem drops_eq {a b:List α} {i:Nat} (h1:i<a.length) (h2:i<b.length):(a.drop i=b.drop i)↔(a[i]=b[i]∧a.drop (i+1)=b.drop (i+1)):=by rw [drop_eq h1,drop_eq h2,List.cons.injEq]
theorem any_drop {a:List α} {i:Nat} (p:α→Bool) (h1:i<a.length):(a.drop i).any p=(p a[i] || (a.drop (i+1)).any p):=by rw [drop_eq h1,List.any_cons]
theorem eq_loop [DecidableEq α] {a b:List α} (h:a.length=b.length) {L:Nat→Int→Option (Unit ⊕ (Bool×Unit))} (hend:∀ g,L (g+1) (a.length:Int)=some (.inl ()))
  (hstep:∀ g i (h1:i<a.length) (h2:i<b.length),L (g+1) (i:Int)=if a[i]=b[i] then L g ((i+1:Nat):Int) else some (.inr (false,()))) {g:Nat} (hg:a.length<g) :
  L g (0:Int)=some (if a=b then .inl () else .inr (false,())):=by
 have:=up_loop (L:=L) (m:=a.length) (spec:=fun i=>if a.drop i=b.drop i then .inl () else .inr (false,())) (fun g=>by
  rw [hend g]
  have e:b.drop a.length=[]:=by rw [h];exact List.drop_length
  simp [e]) (fun g i hi ih=>by
  rw [hstep g i hi (by omega),ih]
  simp only [drops_eq hi (b:=b) (by omega)]
  by_cases e:a[i]=b[i]<;>simp [e]) a.length 0 g (by omega) hg
 simpa using this
theorem any_loop {a:List α} (p:α→Bool) (c:Bool) {L:Nat→Int→Option (Unit ⊕ (Bool×Unit))} (hend:∀ g,L (g+1) (a.length:Int)=some (.inl ()))
  (hstep:∀ g i (h1:i<a.length),L (g+1) (i:Int)=bif p a[i] then some (.inr (c,())) else L g ((i+1:Nat):Int)) {g:Nat} (hg:a.length<g) :
  L g (0:Int)=some (bif a.any p then .inr (c,()) else .inl ()):=by
 have:=up_loop (L:=L) (m:=a.length) (spec:=fun i=>bif (a.drop i).any p then .inr (c,()) else .inl ()) (fun g=>by
  rw [hend g];simp) (fun g i hi ih=>by
  rw [hstep g i hi,ih,any_drop p hi]
  cases p a[i]<;>simp) a.length 0 g (by omega) hg
 simpa using this
theorem any_loop' {E R:Type} {a:List α} (p:α→Bool) (e:E) (r:R) {L:Nat→Int→Option (E ⊕ R)} (hend:∀ g,L (g+1) (a.length:Int)=some (.inl e))
  (hstep:∀ g i (h1:i<a.length),L (g+1) (i:Int)=bif p a[i] then some (.inr r) else L g ((i+1:Nat):Int)) {g:Nat} (hg:a.length<g) :
  L g (0:Int)=some (bif a.any p then .inr r else .inl e):=by
 have:=up_loop (L:=L) (m:=a.length) (spec:=fun i=>bif (a.drop i).any p then .inr r else .inl e) (fun g=>by
  rw [hend g];simp) (fun g i hi ih=>by
  rw [hstep g i hi,ih,any_drop p hi]
  cases p a[i]<;>simp) a.length 0 g (by omega) hg
 simpa using this
end
end Go.Proofs.YtdcphpbimeoioaaGreatDoorE
end
section
set_option linter.unusedSectionVars false
namespace Go.Proofs.YtdcphpbimeoioaaGreatDoorE
open Go Go.RowKit Go.Shelf Go.Proofs
set_option linter.unusedVariables false
set_option linter.unusedSimpArgs false
theorem wpList_app {P:Program} {w:World} {ops:Array Oper} {rest:List Oper} {o:Oper} {a:Act} {Q:Exit→Act→World→Prop} (hgd:o.guard=none) (s x:Operand) (t t':TypeId) (ho:o.op = .call { callee := .builtin .append,args:=#[s,x],argTypes:=#[t,t'] })
  (v y u:Value) (w':World) (hs:a.eval s=v) (hx:a.eval x=y) (hr:(Builtin.append_ #[t,t'] o.type #[v,y]).run P w = .ok u w') (h:wpList P ops Q rest (a.put o.dst u) w'):wpList P ops Q (o ::rest) a w:=by
 refine wpList_plain hgd fun K hK=>?_
 unfold Oper.wp execOp
 simp only [ho,resolve,invoke,builtin,Sem.run_bind,Sem.run_pure,Result.andThen_ok,List.map_toArray,List.map_cons,List.map_nil,hs,hx,hr]
 exact hK _ _ h
theorem ent_clone {P:Program} {f:FuncId} {t:Ty} {tS e:TypeId} {z:List PV} {bytes:Nat} (ht:P.underlying tS=some (.slice e)) (hz:zeroPV P e=some z) (hs:szOf P e=some t.size) (hby:0<bytes) (hbe:P.bytesOf e=bytes) (hE:Enters P f)
  (hnone:∀ c w,Calls P f #[.slice none 0 c] w fun e w'=>e = .returned (.slice none 0 0)∧w'=w)
  (hsome:∀ ad n c w u w',(Builtin.append_ #[tS,tS] tS #[.slice (some ⟨w.heap.size,0,none⟩) 0 0, .slice (some ad) n c]).run P (w.alloc (.cells #[] e)) = .ok u w'→Calls P f #[.slice (some ad) n c] w fun e W=>e = .returned u∧W=w') :
  EntOk P ⟨f,[.tree (.slice t)],[.own t],fun x=>bif room x.1.length bytes then some ((x.1,()),((),())) else none⟩:=by
 intro x y hy
 obtain ⟨xs,u⟩:=x
 obtain ⟨h0,hy⟩:=cond_some hy
 simp only [Option.some.injEq] at hy
 subst hy
 refine ⟨hE,?_⟩
 intro S F w vs hr hA
 have hsz:vs.size=1:=hA.1
 obtain ⟨v0,rfl⟩:∃ v0,vs=#[v0]:=by
  obtain ⟨q⟩:=vs
  match q,hsz with
  | [a],_=>exact ⟨a,rfl⟩
 have a0:Val S F w (.lst t xs) v0:=hA.2 0 _ v0 rfl rfl
 have hr':Rel S F w []:=hr
 show Calls P f #[v0] w fun e w'=>∃ v S' F',e = .returned v∧Rel S' F' w' [.live (.arr t xs true)]∧Val S' F' w' (.own 0) v∧Adv S F w [] S' F' w' [.live (.arr t xs true)]
 have a0':=a0
 cases a0 with
 | lst _ _ a cap vf hc ha hsp hcell hv =>
  cases a with
  | none =>
   have:xs=[]:=by
    cases xs with
    | nil=>rfl
    | cons x r=>obtain ⟨_,h⟩:=ha (by simp);cases h
   subst this
   refine (hnone cap w).mono ?_
   rintro e w' ⟨rfl,rfl⟩
   obtain ⟨S',F',n1,n2,n3⟩:=own_none hr' (BelD.refl _) t none
   exact ⟨_,S',F',rfl,n1,n2,n3⟩
  | some ad =>
   have bel:BelD w (w.alloc (.cells #[] e)):=⟨(Below.refl _ w).alloc (Nat.le_refl _) _,fun _=>Nat.le_refl _⟩
   obtain ⟨g1,g2⟩:=below_rel hr' bel
   obtain ⟨u',w',S',F',k1,k2,k3,k4⟩:=app_copy (ty:=tS) g1 (a0'.adv hr' g2) ht hz hs hby hbe h0 (some ⟨w.heap.size,0,none⟩)
   refine (hsome ad _ _ w u' w' k1).mono ?_
   rintro e w'' ⟨rfl,rfl⟩
   exact ⟨_,S',F',rfl,k2,k3,g2.trans' k4⟩
abbrev sl_SortTag_sg:List Sg:=[.own tTag, .fnv 254 []]
abbrev sl_SortTag_rs:List Rt:=[]
def sl_SortTag_cf (x y:El tTag):Int:=Lib.compareBytes x.1.data.toList y.1.data.toList
instance sl_SortTag_inh:Inhabited (El tTag):=by unfold tTag;infer_instance
theorem sl_SortTag_swo:Go.Sort.SWO (ltOf sl_SortTag_cf):=swo_text (fun x:El tTag=>x.1.data.toList)
def sl_SortTag_sorted (l:List (El tTag)):List (El tTag):=(Go.Sort.pdq (ltOf sl_SortTag_cf) l.toArray 0 l.toArray.size (Lib.bitLen l.toArray.size) true true).toList
def sl_SortTag (n:Nat) (x:SgEl sl_SortTag_sg):Option (RtEl sl_SortTag_rs×OutEl sl_SortTag_sg):=bif Nat.blt x.1.length 4611686018427387904 then some ((),(sl_SortTag_sorted x.1,((),()))) else none
abbrev sl_SortTag_ent (n:Nat):Ent:=⟨253,sl_SortTag_sg,sl_SortTag_rs,sl_SortTag n⟩
theorem sl_SortTag_len (l:List (El tTag)):(sl_SortTag_sorted l).length=l.length:=by
 have h:=Go.Sort.pdq_sorts (ltOf sl_SortTag_cf) sl_SortTag_swo l.toArray 0 l.toArray.size (Lib.bitLen l.toArray.size) true true (Nat.zero_le _) (Nat.le_refl _) (Or.inl rfl)
 have:=h.1.1
 unfold sl_SortTag_sorted
 rw [Array.length_toList,this];simp
set_option maxHeartbeats 1000000 in
theorem sl_SortTag_order (x y:El tTag) (W:World) (hg:gHolds W):Calls Tryz.prog 254 #[.agg #[.string x.1, .string x.2.1], .agg #[.string y.1, .string y.2.1]] W fun e w'=>e = .returned (.int .i64 (sl_SortTag_cf x y))∧∃ q os',w'=Go.Sort.grow (W.drewN q) os':=by
 have hcon:=fun W'=>Tryz.strings_Compare x.1 y.1 W'
 unfold sl_SortTag_cf
 generalize Lib.compareBytes x.1.data.toList y.1.data.toList=r at hcon ⊢
 go_enter Tryz.func254,Tryz.ntmps254
 go_wp2_with (go_at_call 118;refine (hcon _).mono ?_;rintro e w' ⟨rfl,rfl⟩)
 go_ret
 exact ⟨rfl,0,_,by rw [Go.Sort.alloc_eq_grow,Go.Sort.alloc_eq_grow,Go.Sort.grow_grow];rfl⟩
theorem sl_SortTag_ok (n:Nat):EntOk Tryz.prog (sl_SortTag_ent n) :=
 ent_sort rfl (enters Tryz.func253 (by kernel_rfl) (by kernel_rfl)) sl_SortTag_sorted sl_SortTag_len (fun l blk off cap w hH hblk hlt hg hne=>by
  have eg:∀ args w,(callFunc 254 args).run Tryz.prog w = .ok (.enter 254 args) w:=enters_of Tryz.func254 (by kernel_rfl) rfl
  have e:l.toArray.size=l.length:=by simp
  have hcon:=AnyQ.slices_SortFunc_eq Tryz.sort253 (Ty.size tTag) Tryz.isAgg187 Tryz.sizeOf187 (encT tTag) (encT_len tTag) (encT_one rfl) sl_SortTag_cf sl_SortTag_swo 254 #[] blk off cap l.toArray w eg (fun _ _ _ _ x y=>sl_SortTag_order x y _ (sortW_holds hg hne)) hH hblk (by rw [e];exact hlt)
  rw [e] at hcon
  refine hcon.mono ?_
  rintro e' w' ⟨rfl,n,os,rfl⟩
  exact ⟨rfl,n,os,by unfold sl_SortTag_sorted;rw [Array.toArray_toList,e]⟩) fun A c w=>AnyF.slices_SortFunc_none Tryz.sort253 A c _ w
abbrev sl_CloneTag_sg:List Sg:=[.tree (.slice tTag)]
abbrev sl_CloneTag_rs:List Rt:=[.own tTag]
def sl_CloneTag (n:Nat) (x:SgEl sl_CloneTag_sg):Option (RtEl sl_CloneTag_rs×OutEl sl_CloneTag_sg):=bif room x.1.length 32 then some ((x.1,()),((),())) else none
abbrev sl_CloneTag_ent (n:Nat):Ent:=⟨252,sl_CloneTag_sg,sl_CloneTag_rs,sl_CloneTag n⟩
theorem sl_CloneTag_none (c:Nat) (w:World):Calls Tryz.prog 252 #[.slice none 0 c] w fun e w'=>e = .returned (.slice none 0 0)∧w'=w:=by
 have hnil:=fun (W:World)=>Go.Lib.run_eql_slice_nil (P:=Tryz.prog) W 69 187 none 0 c 0 0 Tryz.underlying69
 simp only [Option.isNone_none] at hnil
 go_enter Tryz.func252,Tryz.ntmps252
 go_wp2
 go_ret
 exact ⟨rfl,rfl⟩
theorem sl_CloneTag_some (ad:Addr) (n c:Nat) (w:World) (u:Value) (w':World) (h:(Builtin.append_ #[69,69] 69 #[.slice (some ⟨w.heap.size,0,none⟩) 0 0, .slice (some ad) n c]).run Tryz.prog (w.alloc (.cells #[] 187)) = .ok u w') :
  Calls Tryz.prog 252 #[.slice (some ad) n c] w fun e W=>e = .returned u∧W=w':=by
 have hnil:=fun (W:World)=>Go.Lib.run_eql_slice_nil (P:=Tryz.prog) W 69 187 (some ad) n c 0 0 Tryz.underlying69
 simp only [Option.isNone_some] at hnil
 have A:Aside ((Builtin.append_ #[69,69] 69 #[.slice (some ⟨w.heap.size,0,none⟩) 0 0, .slice (some ad) n c]).run Tryz.prog (w.alloc (.cells #[] 187)) = .ok u w'):=h
 clear h
 go_enter Tryz.func252,Tryz.ntmps252
 go_wp2_with (at_builtin;refine wpList_app rfl _ _ _ _ rfl _ _ _ _ rfl rfl A.out ?_)
 go_wp2
 go_ret
 exact ⟨rfl,rfl⟩
theorem sl_CloneTag_ok (n:Nat):EntOk Tryz.prog (sl_CloneTag_ent n) :=
 ent_clone (t:=tTag) (z:=(zeroPV Tryz.prog 187).getD []) Tryz.underlying69 (by kernel_rfl) (by kernel_rfl) (by decide) (by kernel_rfl) (enters Tryz.func252 (by kernel_rfl) (by kernel_rfl)) sl_CloneTag_none sl_CloneTag_some
instance sl_SortRow_inh:Inhabited (El tRow):=by unfold tRow;infer_instance
end Go.Proofs.YtdcphpbimeoioaaGreatDoorE
end
section
set_option linter.unusedSectionVars false
namespace Go.Proofs.YtdcphpbimeoioaaGreatDoorE
open Go Go.Proofs
set_option linter.unusedVariables false
set_option linter.unusedSimpArgs false
abbrev TG:=El tTag
theorem drop_cons {α:Type} (l:List α) (i:Nat) (h:i<l.length):l.drop i=l[i] ::l.drop (i+1):=List.drop_eq_getElem_cons h
def bl (s:ByteArray):List UInt8:=s.data.toList
theorem bl_inj {a b:ByteArray} (h:bl a=bl b):a=b:=by cases a;cases b;simpa [bl] using h
theorem bl_mk (l:List UInt8):bl ⟨l.toArray⟩=l:=rfl
theorem mk_bl (s:ByteArray):(⟨(bl s).toArray⟩:ByteArray)=s:=rfl
theorem size_bl (s:ByteArray):(bl s).length=s.size:=by show s.data.toList.length=s.data.size;exact Array.length_toList
theorem bl_append (a b:ByteArray):bl (a++b)=bl a++bl b:=by simp [bl,ByteArray.data_append]
theorem bl_extract (s:ByteArray) (i j:Nat):bl (s.extract i j)=((bl s).take j).drop i:=by
 simp [bl,ByteArray.data_extract,Array.toList_extract,List.extract_eq_take_drop,List.drop_take]
theorem u8_int (a b:UInt8):((a.toNat:Int)=(b.toNat:Int))↔a=b:=by
 constructor
 ·intro h;exact UInt8.toNat_inj.1 (by omega)
 ·rintro rfl;rfl
theorem empty_bl:bl (⟨#[]⟩:ByteArray)=[]:=rfl
theorem idx_cons (b c:UInt8) (l:List UInt8):Lib.indexByte (b ::l) c=if b=c then 0 else if Lib.indexByte l c = -1 then -1 else Lib.indexByte l c+1:=by
 simp [Lib.indexByte]
theorem idx_lt:∀ (l:List UInt8) (c:UInt8),Lib.indexByte l c<(l.length:Int) ∧ -1≤Lib.indexByte l c
 | [],c=>by simp [Lib.indexByte]
 | b ::l,c=>by
  have:=idx_lt l c
  rw [idx_cons,List.length_cons]
  split
  ·omega
  ·split<;>omega
theorem idx_mem:∀ (l:List UInt8) (c:UInt8),0≤Lib.indexByte l c↔c∈l
 | [],c=>by simp [Lib.indexByte]
 | b ::l,c=>by
  have h1:=idx_mem l c
  have h2:=idx_lt l c
  rw [idx_cons,List.mem_cons]
  by_cases hb:b=c
  ·simp [hb]
  ·rw [if_neg hb]
   have:¬ c=b:=fun h=>hb h.symm
   split
   ·rename_i h
    constructor
    ·omega
    ·rintro (h3|h3)
     ·exact absurd h3 this
     ·have:=h1.2 h3;omega
   ·rename_i h
    constructor
    ·intro _;exact .inr (h1.1 (by omega))
    ·rintro (h3|h3)
     ·exact absurd h3 this
     ·have:=h1.2 h3;omega
def splitL (c:UInt8):List UInt8→List (List UInt8)
 | []=>[[]]
 | b ::l=>if b=c then [] ::splitL c l else match splitL c l with
  | []=>[[b]]
  | h ::t=>(b ::h) ::t
theorem splitL_ne (c:UInt8):∀ l,splitL c l≠[]
 | []=>by simp [splitL]
 | b ::l=>by
  unfold splitL
  split
  ·simp
  ·split<;>simp
theorem splitL_len (c:UInt8):∀ l,(splitL c l).length≤l.length+1
 | []=>by simp [splitL]
 | b ::l=>by
  have:=splitL_len c l
  unfold splitL
  split
  ·simp;omega
  ·split
   ·simp
   ·rename_i h t e
    rw [e] at this
    simp at *;omega
theorem splitL_idx (c:UInt8):∀ l,splitL c l=if Lib.indexByte l c<0 then [l] else l.take (Lib.indexByte l c).toNat ::splitL c (l.drop ((Lib.indexByte l c).toNat+1))
 | []=>by simp [splitL,Lib.indexByte]
 | b ::l=>by
  have ih:=splitL_idx c l
  have h2:=idx_lt l c
  rw [splitL,idx_cons]
  by_cases hb:b=c
  ·simp [hb]
  ·rw [if_neg hb,if_neg hb]
   by_cases h:Lib.indexByte l c = -1
   ·rw [h] at ih
    simp at ih
    rw [if_pos h,ih]
    simp
   ·rw [if_neg h]
    rw [if_neg (by omega)] at ih
    rw [if_neg (by omega),ih]
    obtain ⟨m,hm⟩:=Int.eq_ofNat_of_zero_le (show 0≤Lib.indexByte l c by omega)
    rw [hm]
    simp [show ((m:Int)+1).toNat=m+1 by omega]
def splitB (c:UInt8) (s:ByteArray):List ByteArray:=(splitL c (bl s)).map fun l=>⟨l.toArray⟩
theorem ext_take (s:ByteArray) (i:Nat):s.extract 0 i=⟨((bl s).take i).toArray⟩:=bl_inj (by rw [bl_extract,bl_mk ((bl s).take i)];simp)
theorem ext_drop (s:ByteArray) (i:Nat):s.extract i s.size=⟨((bl s).drop i).toArray⟩:=bl_inj (by rw [bl_extract,bl_mk ((bl s).drop i),List.take_of_length_le (by rw [size_bl];exact Nat.le_refl _)])
theorem ext_mid (s:ByteArray) (i j:Nat):s.extract i j=⟨(((bl s).take j).drop i).toArray⟩:=bl_inj (by rw [bl_extract,bl_mk (((bl s).take j).drop i)])
def glue (a:List UInt8):List (List UInt8)→List (List UInt8)
 | []=>[a]
 | h ::t=>(a++h) ::t
def smallB (b:UInt8):Bool:=decide (97≤b.toNat) && decide (b.toNat≤122)
def digitB (b:UInt8):Bool:=decide (48≤b.toNat) && decide (b.toNat≤57)
def inNameB (b:UInt8):Bool:=smallB b || digitB b || decide (b.toNat=95)
def inValB (b:UInt8):Bool:=smallB b || digitB b || decide (b.toNat=95) || decide (b.toNat=45) || decide (b.toNat=46)
def nameL (l:List UInt8):Bool:=decide (1≤l.length) && decide (l.length≤12) && smallB (l.headD 0) && l.all inNameB
def valueL (l:List UInt8):Bool:=decide (1≤l.length) && decide (l.length≤12) && l.all inValB
theorem all_u8 {p:UInt8→Bool} (h:∀ n:Fin 256,p (UInt8.ofNat n.val)=true) (b:UInt8):p b=true:=by
 have:=h ⟨b.toNat,b.toNat_lt⟩
 simpa using this
theorem in_name (b:UInt8):([97,98,99,100,101,102,103,104,105,106,107,108,109,110,111,112,113,114,115,116,117,118,119,120,121,122,48,49,50,51,52,53,54,55,56,57,95]:List UInt8).contains b=inNameB b:=by
 have:=all_u8 (p:=fun b=>([97,98,99,100,101,102,103,104,105,106,107,108,109,110,111,112,113,114,115,116,117,118,119,120,121,122,48,49,50,51,52,53,54,55,56,57,95]:List UInt8).contains b ==inNameB b) (by decide+kernel) b
 simpa using this
theorem in_val (b:UInt8):([97,98,99,100,101,102,103,104,105,106,107,108,109,110,111,112,113,114,115,116,117,118,119,120,121,122,48,49,50,51,52,53,54,55,56,57,95,45,46]:List UInt8).contains b=inValB b:=by
 have:=all_u8 (p:=fun b=>([97,98,99,100,101,102,103,104,105,106,107,108,109,110,111,112,113,114,115,116,117,118,119,120,121,122,48,49,50,51,52,53,54,55,56,57,95,45,46]:List UInt8).contains b ==inValB b) (by decide+kernel) b
 simpa using this
theorem in_small (b:UInt8):decide (0≤Lib.indexByte ([97,98,99,100,101,102,103,104,105,106,107,108,109,110,111,112,113,114,115,116,117,118,119,120,121,122]:List UInt8) b)=smallB b:=by
 have:=all_u8 (p:=fun b=>decide (0≤Lib.indexByte ([97,98,99,100,101,102,103,104,105,106,107,108,109,110,111,112,113,114,115,116,117,118,119,120,121,122]:List UInt8) b) ==smallB b) (by decide+kernel) b
 simpa using this
theorem dw_nil (p:UInt8→Bool):∀ l:List UInt8,l.dropWhile p=[]↔∀ x∈l,p x=true
 | []=>by simp
 | a ::l=>by
  rw [List.dropWhile_cons]
  cases h:p a with
  | true=>simp [dw_nil p l,h]
  | false=>simp [h]
theorem dw_head (p:UInt8→Bool) (a:UInt8) (t:List UInt8):∀ l:List UInt8,l.dropWhile p=a ::t→p a=false
 | [],h=>by simp at h
 | b ::l,h=>by
  rw [List.dropWhile_cons] at h
  cases hb:p b with
  | true=>rw [if_pos hb] at h;exact dw_head p a t l h
  | false=>rw [if_neg (by simp [hb])] at h;cases h;exact hb
theorem trim_nil (l cs:List UInt8):Lib.trimS l cs=[]↔l.all (fun b=>cs.contains b)=true:=by
 unfold Lib.trimS Lib.trimLeftS Lib.trimRightS
 rw [List.all_eq_true]
 constructor
 ·intro h
  rw [dw_nil] at h
  have e:l.reverse.dropWhile (cs.contains ·)=[]:=by
   cases hh:l.reverse.dropWhile (cs.contains ·) with
   | nil=>rfl
   | cons a t =>
    have h1:=h a (by rw [hh];simp)
    have h2:=dw_head _ _ _ _ hh
    rw [h2] at h1;cases h1
  rw [dw_nil] at e
  intro x hx
  exact e x (by simpa using hx)
 ·intro h
  have e:l.reverse.dropWhile (cs.contains ·)=[]:=by
   rw [dw_nil]
   intro x hx;exact h x (by simpa using hx)
  rw [e];rfl
def joinB (sep:ByteArray) (l:List ByteArray):ByteArray:=⟨(Lib.join (l.map bl) (bl sep)).toArray⟩
def nm (t:TG):List UInt8:=bl t.1
def mayT (t:TG):Bool:=nameL (bl t.1) && valueL (bl t.2.1)
def lessT (a b:TG):Bool:=Op.bytesLess (nm a) (nm b)
def insT (t:TG):List TG→Option (List TG)
 | []=>some [t]
 | u ::r=>if lessT u t=true then (insT t r).map (u ::·) else if nm u=nm t then none else some (t ::u ::r)
def insAll:List TG→List TG→Option (List TG)
 | acc,[]=>some acc
 | acc,t ::l=>(insT t acc).bind fun a=>insAll a l
def canonT (l:List TG):List TG×Int :=
 if l.all mayT=true then (if 4<l.length then ([],4) else match insAll [] l with|some o=>(o,0)|none=>([],5)) else ([],2)
def Strict (l:List TG):Prop:=l.Pairwise (fun a b=>lessT a b=true)
theorem less_trans {a b c:TG} (h1:lessT a b=true) (h2:lessT b c=true):lessT a c=true:=bl_trans _ _ _ h1 h2
theorem less_asymm {a b:TG} (h:lessT a b=true):lessT b a=false:=bl_asymm _ _ h
theorem less_total {a b:TG} (h:nm a≠nm b):lessT a b=true∨lessT b a=true:=bl_total _ _ h
theorem less_ne {a b:TG} (h:lessT a b=true):nm a≠nm b:=by
 intro e
 unfold lessT at h
 rw [e,bl_irrefl] at h;cases h
theorem strict_nodup {l:List TG} (h:Strict l):(l.map nm).Nodup:=by
 unfold Strict at h
 rw [List.Nodup,List.pairwise_map]
 exact h.imp (fun h=>less_ne h)
theorem insT_some (t:TG):∀ (l o:List TG),insT t l=some o→Strict l→Strict o∧o.Perm (t ::l)
 | [],o,h,_=>by
  simp [insT] at h;subst h
  exact ⟨List.pairwise_singleton _ _,List.Perm.refl _⟩
 | u ::r,o,h,hs=>by
  rw [insT] at h
  rw [Strict,List.pairwise_cons] at hs
  split at h
  ·rename_i hu
   cases hr:insT t r with
   | none=>rw [hr] at h;cases h
   | some q =>
    rw [hr] at h
    simp at h;subst h
    obtain ⟨h1,h2⟩:=insT_some t r q hr hs.2
    refine ⟨?_,(List.Perm.cons u h2).trans (List.Perm.swap t u r)⟩
    rw [Strict,List.pairwise_cons]
    refine ⟨fun x hx=>?_,h1⟩
    rcases List.mem_cons.1 (h2.mem_iff.1 hx) with rfl|hx
    ·exact hu
    ·exact hs.1 x hx
  ·rename_i hu
   split at h
   ·cases h
   ·rename_i hn
    simp at h;subst h
    have htu:lessT t u=true:=by
     rcases less_total (fun e=>hn e.symm) with h1|h1
     ·exact h1
     ·exact absurd h1 hu
    refine ⟨?_,List.Perm.refl _⟩
    rw [Strict,List.pairwise_cons]
    refine ⟨fun x hx=>?_,by rw [List.pairwise_cons];exact hs⟩
    rcases List.mem_cons.1 hx with rfl|hx
    ·exact htu
    ·exact less_trans htu (hs.1 x hx)
theorem insT_none (t:TG):∀ (l:List TG),insT t l=none→nm t∈l.map nm
 | [],h=>by simp [insT] at h
 | u ::r,h=>by
  rw [insT] at h
  split at h
  ·cases hr:insT t r with
   | none=>exact List.mem_cons_of_mem _ (insT_none t r hr)
   | some q=>rw [hr] at h;cases h
  ·split at h
   ·rename_i hn;rw [List.map_cons,hn];exact List.mem_cons_self
   ·cases h
theorem insAll_some:∀ (l acc o:List TG),insAll acc l=some o→Strict acc→Strict o∧o.Perm (acc++l)
 | [],acc,o,h,hs=>by
  simp [insAll] at h;subst h
  exact ⟨hs,by simp⟩
 | t ::l,acc,o,h,hs=>by
  rw [insAll] at h
  cases hr:insT t acc with
  | none=>rw [hr] at h;cases h
  | some q =>
   rw [hr] at h
   obtain ⟨h1,h2⟩:=insT_some t acc q hr hs
   obtain ⟨h3,h4⟩:=insAll_some l q o h h1
   refine ⟨h3,h4.trans ((h2.append_right l).trans ?_)⟩
   exact (List.perm_middle).symm
theorem insAll_none:∀ (l acc:List TG),insAll acc l=none→Strict acc→¬ ((acc++l).map nm).Nodup
 | [],acc,h,hs=>by simp [insAll] at h
 | t ::l,acc,h,hs=>by
  rw [insAll] at h
  cases hr:insT t acc with
  | none =>
   have hm:=insT_none t acc hr
   intro hn
   rw [List.map_append,List.map_cons,List.nodup_append] at hn
   exact hn.2.2 _ hm _ List.mem_cons_self rfl
  | some q =>
   rw [hr] at h
   obtain ⟨h1,h2⟩:=insT_some t acc q hr hs
   have h3:=insAll_none l q h h1
   intro hn
   refine h3 ?_
   have hp:(q++l).Perm (acc++t ::l):=(h2.append_right l).trans (List.perm_middle).symm
   exact ((hp.map nm).nodup_iff).2 hn
theorem strict_unique:∀ {a b:List TG},Strict a→Strict b→a.Perm b→a=b
 | [],b,_,_,hp=>by rw [List.nil_perm.1 hp]
 | x ::a,[],_,_,hp=>by have:=hp.length_eq;simp at this
 | x ::a,y ::b,ha,hb,hp=>by
  rw [Strict,List.pairwise_cons] at ha hb
  have hxy:x=y:=by
   rcases List.mem_cons.1 (hp.mem_iff.1 List.mem_cons_self) with h|h
   ·exact h
   ·rcases List.mem_cons.1 (hp.mem_iff.2 (List.mem_cons_self (a:=y))) with h2|h2
    ·exact h2.symm
    ·have h3:=hb.1 x h
     have h4:=ha.1 y h2
     rw [less_asymm h3] at h4;cases h4
  subst hxy
  rw [strict_unique ha.2 hb.2 (List.Perm.cons_inv hp)]
abbrev srt (l:List TG):List TG:=sl_SortTag_sorted l
theorem cf_lt (x y:TG):Go.Proofs.ltOf sl_SortTag_cf x y=lessT x y:=ltOf_text (fun t:TG=>bl t.1) x y
theorem srt_spec (l:List TG):(srt l).Perm l∧(srt l).Pairwise (fun a b=>lessT b a=false):=by
 have h:=Go.Sort.pdq_sorts (Go.Proofs.ltOf sl_SortTag_cf) sl_SortTag_swo l.toArray 0 l.toArray.size (Lib.bitLen l.toArray.size) true true (Nat.zero_le _) (Nat.le_refl _) (.inl rfl)
 unfold srt sl_SortTag_sorted
 generalize Go.Sort.pdq (Go.Proofs.ltOf sl_SortTag_cf) l.toArray 0 l.toArray.size (Lib.bitLen l.toArray.size) true true=q at h
 obtain ⟨⟨h1,h2,h3⟩,h4⟩:=h
 constructor
 ·have e1:q.extract 0 l.toArray.size=q:=by rw [← h1];simp
  have e2:l.toArray.extract 0 l.toArray.size=l.toArray:=by simp
  rw [e1,e2] at h3;simpa using h3
 ·rw [List.pairwise_iff_getElem]
  intro i j hi hj hij
  have hi':i<q.size:=by simpa using hi
  have hj':j<q.size:=by simpa using hj
  have:=h4 i j (Nat.zero_le _) hij (by rw [← h1];exact hj')
  rw [getElem!_pos q j hj',getElem!_pos q i hi',cf_lt] at this
  simpa using this
def adj:List TG→Bool
 | a ::b ::r=>decide (nm a=nm b) || adj (b ::r)
 | _=>false
theorem adj_strict:∀ l:List TG,l.Pairwise (fun a b=>lessT b a=false)→adj l=false→Strict l
 | [],_,_=>List.Pairwise.nil
 | [a],_,_=>List.pairwise_singleton _ _
 | a ::b ::r,h,ha=>by
  rw [adj,Bool.or_eq_false_iff] at ha
  rw [List.pairwise_cons] at h
  have ih:=adj_strict (b ::r) h.2 ha.2
  have hne:nm a≠nm b:=by simpa using ha.1
  have hab:lessT a b=true:=by
   rcases less_total hne with h1|h1
   ·exact h1
   ·rw [h.1 b List.mem_cons_self] at h1;cases h1
  rw [Strict,List.pairwise_cons]
  refine ⟨fun x hx=>?_,ih⟩
  rcases List.mem_cons.1 hx with rfl|hx
  ·exact hab
  ·rw [Strict,List.pairwise_cons] at ih
   exact less_trans hab (ih.1 x hx)
theorem adj_dup:∀ l:List TG,adj l=true→¬ (l.map nm).Nodup
 | [],h=>by simp [adj] at h
 | [a],h=>by simp [adj] at h
 | a ::b ::r,h=>by
  rw [adj,Bool.or_eq_true] at h
  intro hn
  rw [List.map_cons,List.nodup_cons] at hn
  rcases h with h|h
  ·exact hn.1 (by rw [of_decide_eq_true h];simp)
  ·exact adj_dup (b ::r) h hn.2
theorem canon_scan (l:List TG):(if adj (srt l)=true then (([]:List TG),(5:Int)) else (srt l,0))=(match insAll [] l with|some o=>(o,0)|none=>([],5)):=by
 obtain ⟨hp,hs⟩:=srt_spec l
 cases h:insAll [] l with
 | some o =>
  obtain ⟨h1,h2⟩:=insAll_some l [] o h List.Pairwise.nil
  rw [List.nil_append] at h2
  cases ha:adj (srt l) with
  | true =>
   exact absurd (((hp.trans h2.symm).map nm).nodup_iff.2 (strict_nodup h1)) (adj_dup _ ha)
  | false =>
   rw [if_neg (by simp),strict_unique (adj_strict _ hs ha) h1 (hp.trans h2.symm)]
 | none =>
  have hn:=insAll_none l [] h List.Pairwise.nil
  rw [List.nil_append] at hn
  cases ha:adj (srt l) with
  | true=>rw [if_pos rfl]
  | false=>exact absurd ((hp.map nm).nodup_iff.1 (strict_nodup (adj_strict _ hs ha))) hn
theorem adj_drop (l:List TG) (i:Nat) (h:i+1<l.length):adj (l.drop i)=(decide (nm l[i]=nm l[i+1]) || adj (l.drop (i+1))):=by
 rw [drop_cons l i (by omega),drop_cons l (i+1) h,adj]
def mkB (l:List UInt8):ByteArray:=⟨l.toArray⟩
theorem bl_mkB (l:List UInt8):bl (mkB l)=l:=rfl
theorem mkB_bl (s:ByteArray):mkB (bl s)=s:=rfl
theorem size_mkB (l:List UInt8):(mkB l).size=l.length:=by rw [← size_bl,bl_mkB]
def bigT (t:TG):Bool:=decide (100<t.1.size) || decide (100<t.2.1.size)
def greatT (l:List TG):Bool:=decide (20<l.length) || l.any bigT
theorem not_great {l:List TG} (h:greatT l=false):l.length≤20∧∀ t∈l,t.1.size≤100∧t.2.1.size≤100:=by
 unfold greatT at h
 rw [Bool.or_eq_false_iff,decide_eq_false_iff_not,List.any_eq_false] at h
 refine ⟨by omega,fun t ht=>?_⟩
 have:=h.2 t ht
 unfold bigT at this
 simp at this;omega
abbrev tl (sep:List UInt8) (l:List (List UInt8)):List UInt8:=Lib.joinTail sep l
theorem tl_cons (sep x:List UInt8) (l:List (List UInt8)):tl sep (x ::l)=sep++x++tl sep l:=by simp [Lib.joinTail]
theorem joinB_nil (sep:ByteArray):joinB sep []=⟨#[]⟩:=rfl
theorem joinB_cons (sep x:ByteArray) (l:List ByteArray):bl (joinB sep (x ::l))=bl x++tl (bl sep) (l.map bl):=by
 unfold joinB;rw [bl_mk,List.map_cons,Lib.join_cons]
theorem tl_len (sep:List UInt8) (B:Nat):∀ l:List (List UInt8),(∀ x∈l,x.length≤B)→(tl sep l).length≤l.length * (sep.length+B)
 | [],_=>by simp [Lib.joinTail]
 | x ::l,h=>by
  have ih:=tl_len sep B l (fun y hy=>h y (List.mem_cons_of_mem _ hy))
  have h0:=h x List.mem_cons_self
  rw [tl_cons,List.length_append,List.length_append,List.length_cons,Nat.add_mul];omega
theorem joinB_len (sep:ByteArray) (B:Nat) (l:List ByteArray) (h:∀ x∈l,(bl x).length≤B):(bl (joinB sep l)).length≤l.length * ((bl sep).length+B):=by
 cases l with
 | nil=>simp [joinB_nil,empty_bl]
 | cons x l =>
  have ih:=tl_len (bl sep) B (l.map bl) (by
   intro y hy
   obtain ⟨z,hz,rfl⟩:=List.mem_map.1 hy
   exact h z (List.mem_cons_of_mem _ hz))
  have h0:=h x List.mem_cons_self
  rw [joinB_cons,List.length_append,List.length_cons,Nat.add_mul]
  rw [List.length_map] at ih;omega
theorem join_split (c:UInt8):∀ l:List UInt8,Lib.join (splitL c l) [c]=l
 | []=>rfl
 | b ::l=>by
  have ih:=join_split c l
  rw [splitL]
  cases h:splitL c l with
  | nil=>exact absurd h (splitL_ne c l)
  | cons x t =>
   rw [h,Lib.join_cons] at ih
   by_cases hb:b=c
   ·subst hb
    rw [if_pos rfl,Lib.join_cons]
    show []++tl [b] (x ::t)=_
    rw [tl_cons,List.append_assoc,ih];rfl
   ·rw [if_neg hb,Lib.join_cons,List.cons_append,ih]
theorem joinB_split (c:UInt8) (s:ByteArray):joinB (mkB [c]) (splitB c s)=s:=by
 apply bl_inj
 unfold joinB splitB
 rw [bl_mk,bl_mkB,List.map_map]
 have:(bl ∘ fun l:List UInt8=>(⟨l.toArray⟩:ByteArray))=id:=by funext l;rfl
 rw [this,List.map_id,join_split]
def cutB (c:UInt8) (s:ByteArray):ByteArray×ByteArray×Bool :=
 if Lib.indexByte (bl s) c<0 then (s,⟨#[]⟩,false) else (s.extract 0 (Lib.indexByte (bl s) c).toNat,s.extract ((Lib.indexByte (bl s) c).toNat+1) s.size,true)
theorem split_cut (c:UInt8) (s:ByteArray):splitB c s=if (cutB c s).2.2=true then (cutB c s).1 ::splitB c (cutB c s).2.1 else [s]:=by
 have e:=splitL_idx c (bl s)
 unfold splitB cutB
 rw [e]
 by_cases h0:Lib.indexByte (bl s) c<0
 ·rw [if_pos h0,if_pos h0];rfl
 ·rw [if_neg h0,if_neg h0,if_pos rfl,ext_take,ext_drop,bl_mk ((bl s).drop ((Lib.indexByte (bl s) c).toNat+1))];rfl
theorem cut_size (c:UInt8) (s:ByteArray):(cutB c s).1.size≤s.size∧(cutB c s).2.1.size≤s.size:=by
 unfold cutB
 split
 ·exact ⟨Nat.le_refl _,Nat.zero_le _⟩
 ·constructor
  ·rw [← size_bl,bl_extract,← size_bl s];simp;omega
  ·rw [← size_bl,bl_extract,← size_bl s];simp
theorem splitB_size (c:UInt8) (s:ByteArray):∀ x∈splitB c s,x.size≤s.size:=by
 suffices h:∀ (l:List UInt8),∀ x∈splitL c l,x.length≤l.length by
  intro x hx
  unfold splitB at hx
  obtain ⟨y,hy,rfl⟩:=List.mem_map.1 hx
  have:=h _ _ hy
  rw [size_bl] at this
  rw [← size_bl,bl_mk];exact this
 intro l
 induction l with
 | nil=>intro x hx;simp [splitL] at hx;subst hx;simp
 | cons b l ih =>
  intro x hx
  rw [splitL] at hx
  split at hx
  ·rcases List.mem_cons.1 hx with rfl|hx
   ·simp
   ·have:=ih x hx;simp;omega
  ·split at hx
   ·simp at hx;subst hx;simp
   ·rename_i h t e
    rw [e] at ih
    rcases List.mem_cons.1 hx with rfl|hx
    ·have:=ih h List.mem_cons_self;simp;omega
    ·have:=ih x (List.mem_cons_of_mem _ hx);simp;omega
theorem splitB_len (c:UInt8) (s:ByteArray):(splitB c s).length≤s.size+1:=by
 unfold splitB
 rw [List.length_map,← size_bl];exact splitL_len c _
def pairB (t:TG):ByteArray:=joinB (mkB [61]) [t.1,t.2.1]
theorem bl_pairB (t:TG):bl (pairB t)=bl t.1++[61]++bl t.2.1:=by
 unfold pairB;rw [joinB_cons];simp [Lib.joinTail,bl_mkB]
def textT (l:List TG):ByteArray:=joinB (mkB [44]) (l.map pairB)
def Fit (l:List TG):Prop:=l.length≤1000∧∀ t∈l,t.1.size≤1000000∧t.2.1.size≤1000000
theorem fit_pair {l:List TG} (h:Fit l) (t:TG) (ht:t∈l):(bl (pairB t)).length≤2000001:=by
 have:=h.2 t ht
 rw [bl_pairB];simp [size_bl];omega
theorem fit_text {l:List TG} (h:Fit l):(bl (textT l)).length≤100000000000:=by
 have:=joinB_len (mkB [44]) 2000001 (l.map pairB) (by
  intro x hx
  obtain ⟨t,ht,rfl⟩:=List.mem_map.1 hx
  exact fit_pair h t ht)
 rw [List.length_map] at this
 refine Nat.le_trans this (Nat.le_trans (Nat.mul_le_mul_right _ h.1) ?_)
 rw [bl_mkB];simp
theorem not_great_fit {l:List TG} (h:greatT l=false):Fit l:=by
 have:=not_great h
 refine ⟨by omega,fun t ht=>?_⟩
 have:=this.2 t ht
 omega
def pairsT:List ByteArray→Option (List TG)
 | []=>some []
 | x ::r=>if (cutB 61 x).2.2=true then (pairsT r).map ((((cutB 61 x).1,(cutB 61 x).2.1,()):TG) ::·) else none
def readT (acc:List TG) (o:Option (List TG)):List TG×Int:=o.elim ([],2) fun ps=>canonT (acc++ps)
def parseT (s:ByteArray):List TG×Int:=if bl s=[] then ([],0) else readT [] (pairsT (splitB 44 s))
def chainT:List TG→Bool
 | a ::b ::r=>lessT a b && chainT (b ::r)
 | _=>true
def rightT (l:List TG):Bool:=l.all mayT && (chainT l && decide (l.length≤4))
theorem chain_strict:∀ l:List TG,chainT l=true↔Strict l
 | []=>⟨fun _=>List.Pairwise.nil,fun _=>rfl⟩
 | [a]=>⟨fun _=>List.pairwise_singleton _ _,fun _=>rfl⟩
 | a ::b ::r=>by
  have ih:=chain_strict (b ::r)
  rw [chainT,Bool.and_eq_true,ih,Strict,Strict,List.pairwise_cons (a:=a)]
  constructor
  ·rintro ⟨h1,h2⟩
   refine ⟨fun x hx=>?_,h2⟩
   rcases List.mem_cons.1 hx with rfl|hx
   ·exact h1
   ·rw [List.pairwise_cons] at h2
    exact less_trans h1 (h2.1 x hx)
  ·rintro ⟨h1,h2⟩
   exact ⟨h1 b List.mem_cons_self,h2⟩
theorem right_iff (l:List TG):rightT l=true↔(l.all mayT=true∧Strict l∧l.length≤4):=by
 unfold rightT
 rw [Bool.and_eq_true,Bool.and_eq_true,chain_strict,decide_eq_true_eq]
theorem insAll_strict (l:List TG) (h:Strict l):insAll [] l=some l:=by
 cases hh:insAll [] l with
 | none =>
  have:=insAll_none l [] hh List.Pairwise.nil
  rw [List.nil_append] at this
  exact absurd (strict_nodup h) this
 | some o =>
  obtain ⟨h1,h2⟩:=insAll_some l [] o hh List.Pairwise.nil
  rw [List.nil_append] at h2
  rw [strict_unique h1 h h2]
theorem canonT_eq (l:List TG):canonT l=if l.all mayT=true then (if 4<l.length then ([],4) else (insAll [] l).elim ([],5) fun o=>(o,0)) else ([],2):=by
 unfold canonT
 cases insAll [] l<;>rfl
theorem canon_right (l:List TG) (h:rightT l=true):canonT l=(l,0):=by
 obtain ⟨h1,h2,h3⟩:=(right_iff l).1 h
 rw [canonT_eq,if_pos h1,if_neg (by omega),insAll_strict l h2];rfl
theorem canon_out (l:List TG):((canonT l).2=0∧rightT (canonT l).1=true∧(canonT l).1.Perm l)∨((canonT l).2≠0∧(canonT l).1=[]):=by
 rw [canonT_eq]
 by_cases h1:l.all mayT=true
 ·rw [if_pos h1]
  by_cases h4:4<l.length
  ·rw [if_pos h4];exact .inr ⟨by decide,rfl⟩
  ·rw [if_neg h4]
   cases hh:insAll [] l with
   | none=>exact .inr ⟨by decide,rfl⟩
   | some o =>
    obtain ⟨h2,h3⟩:=insAll_some l [] o hh List.Pairwise.nil
    rw [List.nil_append] at h3
    refine .inl ⟨rfl,(right_iff o).2 ⟨?_,h2,?_⟩,h3⟩
    ·rw [List.all_eq_true] at h1 ⊢
     exact fun x hx=>h1 x (h3.mem_iff.1 hx)
    ·have:=h3.length_eq;omega
 ·rw [if_neg h1];exact .inr ⟨by decide,rfl⟩
theorem canon_same (l:List TG):((canonT l).2=0∧(canonT l).1=l)↔rightT l=true:=by
 constructor
 ·rintro ⟨h1,h2⟩
  rcases canon_out l with ⟨_,h3,_⟩|⟨h3,_⟩
  ·rwa [h2] at h3
  ·exact absurd h1 h3
 ·intro h
  rw [canon_right l h];exact ⟨rfl,rfl⟩
theorem chain_drop (l:List TG) (i:Nat) (h:i+1<l.length):chainT (l.drop i)=(lessT l[i] l[i+1] && chainT (l.drop (i+1))):=by
 rw [drop_cons l i (by omega),drop_cons l (i+1) h,chainT]
theorem name_no (l:List UInt8) (h:nameL l=true) (c:UInt8) (hc:inNameB c=false):c ∉ l:=by
 unfold nameL at h
 rw [Bool.and_eq_true,List.all_eq_true] at h
 intro hm
 have:=h.2 c hm
 rw [hc] at this;cases this
theorem value_no (l:List UInt8) (h:valueL l=true) (c:UInt8) (hc:inValB c=false):c ∉ l:=by
 unfold valueL at h
 rw [Bool.and_eq_true,List.all_eq_true] at h
 intro hm
 have:=h.2 c hm
 rw [hc] at this;cases this
theorem name_len (l:List UInt8) (h:nameL l=true):1≤l.length∧l.length≤12:=by
 unfold nameL at h
 simp only [Bool.and_eq_true,decide_eq_true_eq] at h
 exact ⟨h.1.1.1,h.1.1.2⟩
theorem value_len (l:List UInt8) (h:valueL l=true):1≤l.length∧l.length≤12:=by
 unfold valueL at h
 simp only [Bool.and_eq_true,decide_eq_true_eq] at h
 exact ⟨h.1.1,h.1.2⟩
theorem split_none (c:UInt8):∀ l:List UInt8,c ∉ l→splitL c l=[l]
 | [],_=>rfl
 | b ::l,h=>by
  have hb:b≠c:=fun e=>h (by rw [e];simp)
  rw [splitL,if_neg hb,split_none c l (fun k=>h (List.mem_cons_of_mem _ k))]
theorem split_app (c:UInt8) (y:List UInt8):∀ x:List UInt8,c ∉ x→splitL c (x++c ::y)=x ::splitL c y
 | [],_=>by rw [List.nil_append,splitL,if_pos rfl]
 | b ::x,h=>by
  have hb:b≠c:=fun e=>h (by rw [e];simp)
  rw [List.cons_append,splitL,if_neg hb,split_app c y x (fun k=>h (List.mem_cons_of_mem _ k))]
theorem split_join (c:UInt8):∀ (l:List (List UInt8)) (x:List UInt8),(∀ y∈x ::l,c ∉ y)→splitL c (Lib.join (x ::l) [c])=x ::l
 | [],x,h=>by
  rw [Lib.join_one];exact split_none c x (h x List.mem_cons_self)
 | z ::l,x,h=>by
  have ih:=split_join c l z (fun y hy=>h y (List.mem_cons_of_mem _ hy))
  rw [Lib.join_cons]
  show splitL c (x++tl [c] (z ::l))=_
  rw [tl_cons,List.append_assoc,show [c]++(z++tl [c] l)=c ::(z++tl [c] l) from rfl,split_app c _ x (h x List.mem_cons_self)]
  rw [Lib.join_cons] at ih
  rw [ih]
theorem idx_app (c:UInt8) (y:List UInt8):∀ x:List UInt8,c ∉ x→Lib.indexByte (x++c ::y) c=(x.length:Int)
 | [],_=>by rw [List.nil_append,idx_cons,if_pos rfl];rfl
 | b ::x,h=>by
  have hb:b≠c:=fun e=>h (by rw [e];simp)
  rw [List.cons_append,idx_cons,if_neg hb,idx_app c y x (fun k=>h (List.mem_cons_of_mem _ k)),if_neg (by omega),List.length_cons]
  omega
theorem may_parts {t:TG} (h:mayT t=true):nameL (bl t.1)=true∧valueL (bl t.2.1)=true:=by
 unfold mayT at h;rwa [Bool.and_eq_true] at h
theorem cut_app (c:UInt8) (a b s:ByteArray) (hs:bl s=bl a++c ::bl b) (h:c ∉ bl a):cutB c s=(a,b,true):=by
 have e:Lib.indexByte (bl s) c=((bl a).length:Int):=by rw [hs];exact idx_app c _ _ h
 unfold cutB
 rw [e,if_neg (by omega),ext_take,ext_drop,hs]
 simp only [Int.toNat_natCast,Prod.mk.injEq,and_true]
 constructor
 ·apply bl_inj;rw [bl_mk];simp
 ·apply bl_inj;rw [bl_mk,List.drop_append];simp
theorem pairs_back:∀ l:List TG,l.all mayT=true→pairsT (l.map pairB)=some l
 | [],_=>rfl
 | t ::l,h=>by
  rw [List.all_cons,Bool.and_eq_true] at h
  have hm:=may_parts h.1
  have hc:cutB 61 (pairB t)=(t.1,t.2.1,true):=cut_app 61 t.1 t.2.1 (pairB t) (by rw [bl_pairB];simp) (name_no _ hm.1 61 (by decide+kernel))
  rw [List.map_cons,pairsT,hc,if_pos rfl,pairs_back l h.2];rfl
theorem pair_no {t:TG} (h:mayT t=true):(44:UInt8) ∉ bl (pairB t):=by
 have hm:=may_parts h
 rw [bl_pairB]
 intro k
 rcases List.mem_append.1 k with k|k
 ·rcases List.mem_append.1 k with k|k
  ·exact name_no _ hm.1 44 (by decide+kernel) k
  ·revert k;decide
 ·exact value_no _ hm.2 44 (by decide+kernel) k
theorem parse_text (l:List TG) (h:rightT l=true):parseT (textT l)=(l,0):=by
 obtain ⟨h1,h2,h3⟩:=(right_iff l).1 h
 cases l with
 | nil=>rfl
 | cons t r =>
  have hne:bl (textT (t ::r))≠[]:=by
   unfold textT
   rw [List.map_cons,joinB_cons,bl_pairB];simp
  unfold parseT
  rw [if_neg hne]
  have e:splitB 44 (textT (t ::r))=(t ::r).map pairB:=by
   unfold splitB textT joinB
   rw [bl_mk,bl_mkB,List.map_cons,List.map_cons,split_join]
   ·simp [mk_bl,Function.comp_def]
   ·intro y hy
    rw [List.all_eq_true] at h1
    rcases List.mem_cons.1 hy with rfl|hy
    ·exact pair_no (h1 t List.mem_cons_self)
    ·rw [List.map_map] at hy
     obtain ⟨u,hu,rfl⟩:=List.mem_map.1 hy
     exact pair_no (h1 u (List.mem_cons_of_mem _ hu))
  rw [e,pairs_back _ h1]
  show canonT ([]++(t ::r))=_
  rw [List.nil_append,canon_right _ h]
theorem parse_out (s:ByteArray):((parseT s).2=0∧rightT (parseT s).1=true)∨((parseT s).2≠0∧(parseT s).1=[]):=by
 unfold parseT
 split
 ·exact .inl ⟨rfl,rfl⟩
 ·cases h:pairsT (splitB 44 s) with
  | none=>exact .inr ⟨by decide,rfl⟩
  | some ps =>
   show (canonT ([]++ps)).2=0∧_∨_
   rcases canon_out ([]++ps) with ⟨h1,h2,_⟩|h1
   ·exact .inl ⟨h1,h2⟩
   ·exact .inr h1
theorem right_fit {l:List TG} (h:rightT l=true):Fit l∧(bl (textT l)).length≤1000:=by
 obtain ⟨h1,h2,h3⟩:=(right_iff l).1 h
 rw [List.all_eq_true] at h1
 have hs:∀ t∈l,(bl t.1).length≤12∧(bl t.2.1).length≤12:=fun t ht=>⟨(name_len _ (may_parts (h1 t ht)).1).2,(value_len _ (may_parts (h1 t ht)).2).2⟩
 refine ⟨⟨by omega,fun t ht=>?_⟩,?_⟩
 ·have:=hs t ht
  rw [size_bl,size_bl] at this;omega
 ·have:=joinB_len (mkB [44]) 25 (l.map pairB) (by
   intro x hx
   obtain ⟨t,ht,rfl⟩:=List.mem_map.1 hx
   have:=hs t ht
   rw [bl_pairB];simp;omega)
  rw [List.length_map,bl_mkB] at this
  have h5:l.length * ([44]:List UInt8).length+l.length * 25≤1000:=by simp;omega
  rw [Nat.mul_add] at this
  exact Nat.le_trans this h5
end Go.Proofs.YtdcphpbimeoioaaGreatDoorE
end
section
set_option linter.unusedSectionVars false
namespace Go.Proofs.YtdcphpbimeoioaaGreatDoorE
open Go Go.RowKit Go.Shelf
set_option linter.unusedVariables false
set_option linter.unusedSimpArgs false
theorem gPow {w:World} (hg:gHolds w):Lib.TabIs Tryz.prog w "internal/strconv.uint64pow10" .u64 Lib.pow10Tab:=hg.2.1
theorem gErr {w:World} (hg:gHolds w):∃ ev,w.cell? ⟨3,0,none⟩=some ev∧(ev = .nilIface∨∃ te pe,ev = .iface te pe):=hg.2.2
theorem below_grow (w:World) (k:Nat) (os:Array Obj):Below w.heap.size w (Go.Sort.grow (w.drewN k) os) :=
 ⟨rfl,rfl,rfl,by show w.heap.size≤(w.heap++os).size;rw [Array.size_append];omega,fun j hj=>by show (w.heap++os)[j]?=_;rw [Array.getElem?_append_left hj]⟩
abbrev c_FormatInt_sg:List Sg:=[.tree (.int .i64), .tree (.int .i64)]
abbrev c_FormatInt_rs:List Rt:=[.tree .str]
def c_FormatInt (n:Nat) (x:SgEl c_FormatInt_sg):Option (RtEl c_FormatInt_rs×OutEl c_FormatInt_sg) :=
 bif ieq x.2.1 10 && ile (-9223372036854775808) x.1 && ile x.1 9223372036854775807 then some ((⟨(Lib.itoa x.1).toArray⟩,()),((),(),())) else none
abbrev c_FormatInt_ent (n:Nat):Ent:=⟨153,c_FormatInt_sg,c_FormatInt_rs,c_FormatInt n⟩
theorem c_FormatInt_ok (n:Nat):EntOk Tryz.prog (c_FormatInt_ent n) :=
 ent_scalg (tys:=[.int .i64, .int .i64]) (rs:=[.str]) rfl rfl (enters Tryz.func153 (by kernel_rfl) (by kernel_rfl)) fun x y h w hg=>by
  obtain ⟨h0,h⟩:=cond_some h
  cases h
  obtain ⟨a,b,u⟩:=x
  simp only [Bool.and_eq_true] at h0
  have e1:b=10:=by have:=h0.1.1;unfold ieq at this;simpa using this
  have e2 : -9223372036854775808≤a:=by have:=h0.1.2;unfold ile at this;simpa using this
  have e3:a≤9223372036854775807:=by have:=h0.2;unfold ile at this;simpa using this
  subst e1
  refine (Tryz.strconv_FormatInt_10 a e2 e3 w (gPow hg)).mono ?_
  rintro e w' ⟨rfl,k,os,rfl⟩
  exact ⟨rfl,belOff (below_grow w k os)⟩
theorem scal_calls {P:Program} {f:FuncId} {tys rs:List Ty} (ht:tys.all flatTy=true) (hr:rs.all flatTy=true) {G:SgEl (tys.map Sg.tree)→Option (RtEl (rs.map Rt.tree)×OutEl (tys.map Sg.tree))}
  (h:EntOk P ⟨f,tys.map Sg.tree,rs.map Rt.tree,G⟩) {x:SgEl (tys.map Sg.tree)} {y:RtEl (rs.map Rt.tree)×OutEl (tys.map Sg.tree)} (hG:G x=some y) {w:World} (hg:gHolds w) :
  Calls P f (scals tys x).toArray w fun e w'=>e = .returned (resV rs y.1)∧Below w.heap.size w w':=by
 obtain ⟨_,h2⟩:=h x _ hG
 have hh:=heap_trees tys x
 have hR:Rel (fun _ => .unused) (fun k=>k∈gBlocks) w (heapOf (tys.map Sg.tree) x):=by
  rw [hh]
  exact ⟨fun b=>by simp [hget,SlotOk],fun b b' k h1=>(by simp [blkOf] at h1),fun k hk=>gHolds_lt hg k hk,⟨fun k hk=>hk,hg⟩⟩
 have key:∀ (tys:List Ty),tys.all flatTy=true→∀ (x:SgEl (tys.map Sg.tree)) (n:Nat),(scals tys x).length=(argsOf (tys.map Sg.tree) x n).length∧∀ (i:Nat) (p:PV) (v:Value),(argsOf (tys.map Sg.tree) x n)[i]?=some p→(scals tys x)[i]?=some v→Val (fun _=>SL.unused) (fun k=>k∈gBlocks) w p v:=by
  intro tys
  induction tys with
  | nil=>intro _ x n;exact ⟨rfl,fun i p v hp=>by have hp:([]:List PV)[i]?=some p:=hp;simp at hp⟩
  | cons t r ih =>
   intro ht x n
   simp only [List.all_cons,Bool.and_eq_true] at ht
   obtain ⟨i1,i2⟩:=ih ht.2 x.2 n
   refine ⟨congrArg (·+1) i1,fun i p v hp hv=>?_⟩
   have hp:(valPV t x.1 ::argsOf (r.map Sg.tree) x.2 n)[i]?=some p:=hp
   have hv:(scal t x.1 ::scals r x.2)[i]?=some v:=hv
   cases i with
   | zero=>simp at hp hv;subst hp;subst hv;exact scal_val ht.1 _
   | succ i=>exact i2 i p v (by simpa using hp) (by simpa using hv)
 obtain ⟨k1,k2⟩:=key tys ht x 0
 refine (h2 _ _ w (scals tys x).toArray hR ⟨by simpa using k1,fun i p v hp hv=>k2 i p v hp (by simpa using hv)⟩).mono ?_
 rintro e w' ⟨v,S',F',rfl,_,hv,hAd⟩
 obtain ⟨g1,g2⟩:=res_val (S:=S') (F:=F') (w:=w') hr y.1 (nIds (tys.map Sg.tree))
 have e1:(encOut (tys.map Sg.tree) (rs.map Rt.tree) x y).1=(resOfT (rs.map Rt.tree) y.1 (nIds (tys.map Sg.tree))).1:=by
  unfold encOut
  generalize resOfT (rs.map Rt.tree) y.1 (nIds (tys.map Sg.tree))=q
  rfl
 have hv':Val S' F' w' (resOfT (rs.map Rt.tree) y.1 (nIds (tys.map Sg.tree))).1 v:=e1 ▸ hv
 have same:v=resV rs y.1:=by
  match rs,hr,y,hv' with
  | [t],hr,y,hv' =>
   simp only [List.all_cons,List.all_nil,Bool.and_true] at hr
   exact scal_of hr hv'
  | [],hr,y,hv' =>
   cases hv' with
   | tup _ vs hl _ =>
    show Value.tuple vs = .tuple #[]
    rw [Array.eq_empty_of_size_eq_zero hl]
  | t ::t2 ::r,hr,y,hv' =>
   have hv':Val S' F' w' (.tup (resList ((t ::t2 ::r).map Rt.tree) y.1)) v:=hv'
   cases hv' with
   | tup _ vs hl hvs =>
    show Value.tuple vs = .tuple (scalr (t ::t2 ::r) y.1).toArray
    have:∀ (rs:List Ty),rs.all flatTy=true→∀ (z:RtEl (rs.map Rt.tree)) (vs:List Value),vs.length=(resList (rs.map Rt.tree) z).length→(∀ (i:Nat) (p:PV) (v:Value),(resList (rs.map Rt.tree) z)[i]?=some p→vs[i]?=some v→Val S' F' w' p v)→vs=scalr rs z:=by
     intro rs
     induction rs with
     | nil=>intro _ z vs hl _;exact List.length_eq_zero_iff.1 hl
     | cons t r ih =>
      intro hr z vs hl hvs
      simp only [List.all_cons,Bool.and_eq_true] at hr
      cases vs with
      | nil=>have:(0:Nat)=(resList (r.map Rt.tree) z.2).length+1:=hl;omega
      | cons v vs =>
       have a1:=scal_of hr.1 (hvs 0 (valPV t z.1) v rfl rfl)
       have a2:=ih hr.2 z.2 vs (by have:vs.length+1=(resList (r.map Rt.tree) z.2).length+1:=hl;omega) fun i p u hp hu=>hvs (i+1) p u hp hu
       rw [a1,a2];rfl
    have e:=this (t ::t2 ::r) hr y.1 vs.toList (by simpa using hl) fun i p u hp hu=>hvs i p u hp (by simpa using hu)
    rw [← e]
 refine ⟨by rw [same],hAd.st.1,hAd.st.2.1,hAd.st.2.2.1,hAd.sz,fun k hk=>hAd.same k hk ?_⟩
 rintro ⟨b',z,hz,_,_⟩
 rw [hh] at hz
 simp [hget] at hz
end Go.Proofs.YtdcphpbimeoioaaGreatDoorE
end
