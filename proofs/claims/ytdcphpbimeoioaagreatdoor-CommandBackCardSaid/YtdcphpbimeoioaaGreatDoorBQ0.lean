/- A part of the proof: ZQEA, ZQEB, ZQEC, ZQED, ZQE0, ZQEE, ZQEF, ZQEG, ZQEH, ZQEI, ZQEJ, ZQEK, ZQEL, ZQEM, ZQEN, ZQEO, ZQEP, ZQEQ. No condition. -/
import Derived.Calls
import Derived.Wp
import Derived.Test.YtdcphpbimeoioaaGreatDoorProg
import Derived.Lib.LaidTab
import Derived.Lib.ItoaNum
import Derived.Orders
import Derived.Laws.Sem
import Derived.Laws.Cells
import Derived.Laws.Wrap64
import Derived.Laws.StructEq
import Derived.Laws.Small
import Derived.Laws.Slices
import Derived.Laws.IdiomCopy
import Derived.Deep.AppendSrc
import Derived.Laws.BytesString
section
set_option linter.unusedSectionVars false
namespace Go.Proofs.YtdcphpbimeoioaaGreatDoorE
open Go
inductive Ty where
 | int (k:IntKind)|bool|str|unit|none|slice (t:Ty)|pair (a b:Ty)
 deriving DecidableEq,Inhabited
@[reducible] def El:Ty→Type
 | .int _=>Int
 | .bool=>Bool
 | .str=>ByteArray
 | .unit=>Unit
 | .none=>Empty
 | .slice t=>List (El t)
 | .pair a b=>El a×El b
def Ty.size:Ty→Nat
 | .unit=>0
 | .pair a b=>a.size+b.size
 | _=>1
inductive PV where
 | junk
 | int (k:IntKind) (n:Int)
 | bool (b:Bool)
 | str (s:ByteArray)
 | agg (cs:List PV)
 | tup (vs:List PV)
 | nil (t:Ty)
 | lst (t:Ty) (xs:List (El t))
 | own (b:Nat)
 | nilp
 | ptr (b i j:Nat)
 | ref (cs:List PV)
 | fn (f:FuncId) (first caps:List PV)
 | view (b lo n:Nat)
 | emp (t:Ty)
 | raw (v:Value)
 deriving Inhabited
abbrev Env:=List (Nat×PV)
def get:Env→Nat→PV
 | [],_ => .junk
 | (u,v) ::r,t=>bif Nat.beq u t then v else get r t
inductive Blk where
 | box (cs:List PV) (wr:Bool)
 | arr (t:Ty) (xs:List (El t)) (wr:Bool)
 deriving Inhabited
inductive Slot where
 | unused|dead|live (b:Blk)
 deriving Inhabited
abbrev Heap:=List Slot
def hget (H:Heap) (b:Nat):Slot:=H.getD b .unused
def hset:Heap→Nat→Slot→Heap
 | [],0,s=>[s]
 | [],n+1,s => .unused ::hset [] n s
 | _ ::r,0,s=>s ::r
 | x ::r,n+1,s=>x ::hset r n s
inductive Arg where
 | t (n:Nat)|c (v:PV)
 deriving Inhabited
def Arg.ev (E:Env):Arg→PV
 | .t n=>get E n
 | .c v=>v
inductive PAct where
 | bad
 | mv (x:Arg)
 | pick (c a b:Arg)
 | alloc (zero:List PV)
 | box (n:Nat) (x:Arg)
 | build (zero:List PV) (parts:List (Nat×Nat×Arg))
 | bslice (t:Ty) (z:List PV) (n:Nat) (parts:List (Nat×Arg))
 | load (k:Option Nat) (a:Arg)
 | store (n:Nat) (a x:Arg)
 | nilck (x:Arg)
 | bin (op:BinOp) (x y:Arg)
 | beq (neg:Bool) (x y:Arg)
 | aeq (neg:Bool) (ks:List Nat) (x y:Arg)
 | un (op:UnOp) (x:Arg)
 | toInt (k:IntKind) (x:Arg)
 | same (x:Arg)
 | s2b (x:Arg)
 | b2s (x:Arg)
 | mks (t:Ty) (z:List PV) (bytes:Nat) (len cap:Arg)
 | slice (st:Bool) (sz:Nat) (x:Arg) (lo hi:Option Arg)
 | fadr (off:Nat) (x:Arg)
 | fld (off:Nat) (k:Option Nat) (x:Arg)
 | iadr (sz:Nat) (x i:Arg)
 | idx (x i:Arg)
 | ext (x:Arg) (i:Nat)
 | call (f:FuncId) (ro:Bool) (args:List (Bool×Arg))
 | callv (x:Arg) (args:List Arg)
 | len (st:Bool) (x:Arg)
 | append (st:Bool) (sz bytes:Nat) (x y:Arg)
 | copy (sz:Nat) (x y:Arg)
 | clear (sz:Nat) (x:Arg)
 | min (xs:List Arg)
 | max (xs:List Arg)
 | mkf (f:FuncId) (first caps:List Arg)
 | sliceV (sz:Nat) (x:Arg) (lo hi:Option Arg)
 | sliceZ (t:Ty) (x:Arg)
 | raw (v:PV) (us:List Arg)
 deriving Inhabited
structure POp where
 dst:Option Nat
 act:PAct
 guard:Option (Nat×Bool)
 after:List Nat
 deriving Inhabited
inductive PCode where
 | bad|skip|ret
 | region (ops:List POp) (draw:Bool) (out:List Nat)
 | seq (a b:PCode)
 | cond (c:Arg) (a b:PCode)
 | block (id:Nat) (c:PCode)
 | loop (i:Nat) (lv:List Nat) (lx:List (Nat×List Nat)) (ap fz:List Nat) (nb:Bool) (c:PCode)
 | exit (id:Nat)
 deriving Inhabited
inductive PRes where
 | bad|tmp (t:Nat)|cell (t:Nat) (k:Option Nat)
 deriving Inhabited
structure PFunc where
 np:Nat
 res:List PRes
 ro:Bool
 body:PCode
 deriving Inhabited
section
variable (P:Program)
def szOf (t:TypeId):Option Nat:=(P.info? t).map (·.size)
def aggOf (t:TypeId):Option (Option Nat) :=
 match P.underlying t,szOf P t with
 | some (.struct _),some n|some (.array _ _),some n=>some (some n)
 | some _,_=>some none
 | none,_=>none
def cellTypes:Nat→TypeId→List TypeId
 | 0,_=>[]
 | n+1,t =>
  match P.underlying t with
  | some (.struct fs)=>fs.toList.flatMap fun f=>cellTypes n f.type
  | some (.array k e)=>(List.replicate k (cellTypes n e)).flatten
  | _=>[t]
def tyOf:Nat→TypeId→Ty
 | 0,_ => .none
 | n+1,t =>
  match P.underlying t with
  | some .bool => .bool
  | some (.int k) => .int k
  | some .string => .str
  | some (.slice e) => .slice (tyOf n e)
  | some (.struct fs)=>fs.toList.foldr (fun f r => .pair (tyOf n f.type) r) .unit
  | _ => .none
def cellPV (t:TypeId) (v:Value):PV :=
 match v with
 | .bool b => .bool b
 | .int k n => .int k n
 | .string s => .str s
 | .slice none 0 0=>match P.underlying t with
  | some (.slice e) => .nil (tyOf P 20 e)
  | _ => .junk
 | .pointer none => .nilp
 | _ => .junk
def cellsPV (ts:List TypeId) (vs:List Value):List PV :=
 match ts,vs with
 | t ::ts,v ::vs=>cellPV P t v ::cellsPV ts vs
 | [],_ ::vs => .junk ::cellsPV [] vs
 | _,[]=>[]
def constPV (t:TypeId) (v:Value):PV :=
 match v with
 | .agg cs=>bif cs.toList.all Value.oneCell then .agg (cellsPV P (cellTypes P 20 t) cs.toList) else .junk
 | v=>cellPV P t v
def zeroPV (t:TypeId):Option (List PV) :=
 match P.info? t with
 | some i=>match i.zero with
  | some z=>bif z.cells.toList.all Value.oneCell && Nat.beq z.cells.size i.size then some (cellsPV P (cellTypes P 20 t) z.cells.toList) else none
  | none=>none
 | none=>none
def argOf (t:TypeId):Operand→Arg
 | .tmp n => .t n
 | .const v => .c (constPV P t v)
 | .func f => .c (.fn f [] [])
 | .global _ => .c .junk
def fieldOf (t:TypeId) (i:Nat):Option Field :=
 match P.underlying t with
 | some (.struct fs)=>fs[i]?
 | _=>none
def starts (p s:String):Bool:=p.toList.isPrefixOf s.toList
def inPlace (n:String):Bool :=
 ["slices.Delete[", "slices.Insert[", "slices.Grow[", "slices.Reverse[", "slices.Sort", "slices.sort", "slices.DeleteFunc[", "slices.Compact[", "slices.CompactFunc[", "slices.insertion", "slices.stable", "slices.sym", "slices.rotate", "slices.swap", "slices.reverse", "slices.Clip[", "slices.Replace[", "ebbtide/ebbtideref08.into", "ebbtide/ebbtideref09.into", "ebbtide/ebbtideref27.into", "ebbtide/sub.Replay"].any (starts · n)
def handsOwn (n:String):Bool :=
 ["slices.Delete[", "slices.Insert[", "slices.Grow[", "slices.DeleteFunc[", "slices.Compact[", "slices.CompactFunc[", "slices.Clone[", "slices.Concat[", "slices.Clip[", "slices.Repeat[", "slices.Replace[", "ebbtide/ebbtideref08.into", "ebbtide/ebbtideref09.into", "ebbtide/ebbtideref27.into"].any (starts · n)
def readsOwn (n:String):Bool:=["ebbtide/sub.Replay", "ebbtide/scan.Step", "slices.insertionSortCmp", "slices.stableCmp", "slices.symMergeCmp", "slices.rotateCmp", "slices.swapRangeCmp", "slices.SortStableFunc["].any (starts · n)
def keepsFn (n:String):Bool:=["slices.IndexFunc[[]ebbtide/api.M", "slices.IndexFunc[[]ebbtide/api.D", "slices.IndexFunc[[]ebbtide/api.Re", "slices.IndexFunc[[]ebbtide/api.S", "slices.IndexFunc[[]ebbtide/api.P", "slices.IndexFunc[[]ebbtide/api.E", "slices.IndexFunc[[]ebbtide/api.W"].any (starts · n)
def nameOf (f:FuncId):String:=match P.funcs[f]? with|some fn=>fn.name|none => ""
def inPlaceT (n:String) (t:TypeId):Bool:=inPlace n || (starts "ebbtide/scan.Step" n && match P.underlying t with|some (.slice e)=>szOf P e ==some 1|_=>false)
def partsOf (fs:Array Field) (parts:Array (Nat×Operand)):Option (List (Nat×Nat×Arg)) :=
 parts.toList.mapM fun (i,x)=>(fs[i]?).map fun f=>(f.offset,P.cellsOf f.type,argOf P f.type x)
def inRow:List Field→Nat→Option Nat
 | [],n=>some n
 | f ::r,n=>bif Nat.beq f.offset n && f.name != "_" then match szOf P f.type with
  | some k=>inRow r (n+k)
  | none=>none
  else none
def eqOk:Nat→TypeId→Bool
 | 0,_=>false
 | n+1,t=>match P.underlying t with
  | some (.int _)|some .bool|some .string=>(szOf P t ==some 1)
  | some (.struct fs) => !P.stoodInHeld t && (inRow P fs.toList 0 ==szOf P t) && fs.toList.all fun f=>eqOk n f.type
  | _=>false
def leafs:Nat→TypeId→List Nat
 | 0,_=>[]
 | n+1,t=>match P.underlying t with
  | some (.int _)=>[0]
  | some .bool=>[1]
  | some .string=>[2]
  | some (.struct fs)=>fs.toList.flatMap fun f=>leafs n f.type
  | _=>[]
def builtinOf (b:Builtin) (ts:Array TypeId) (args:Array Operand):PAct :=
 match b,args.toList,ts.toList with
 | .len,[x],[t]=>match P.underlying t with
  | some (.slice _) => .len false (argOf P t x)
  | some .string => .len true (argOf P t x)
  | _ => .bad
 | .append,[x,y],[t,u]=>match P.underlying t,P.underlying u with
  | some (.slice e),some (.slice _)=>(match zeroPV P e,szOf P e with
   | some _,some n=>bif Nat.blt 0 (P.bytesOf e) then .append false n (P.bytesOf e) (argOf P t x) (argOf P u y) else .bad
   | _,_ => .bad)
  | some (.slice e),some .string=>(match zeroPV P e,szOf P e with
   | some _,some n=>bif Nat.blt 0 (P.bytesOf e) then .append true n (P.bytesOf e) (argOf P t x) (argOf P u y) else .bad
   | _,_ => .bad)
  | _,_ => .bad
 | .copy,[x,y],[t,u]=>match P.underlying t with
  | some (.slice e) => .copy (P.cellsOf e) (argOf P t x) (argOf P u y)
  | _ => .bad
 | .clear,[x],[t]=>match P.underlying t with
  | some (.slice e) => .clear (P.cellsOf e) (argOf P t x)
  | _ => .bad
 | .min,xs,ts=>bif Nat.beq xs.length ts.length then .min ((xs.zip ts).map fun (x,t)=>argOf P t x) else .bad
 | .max,xs,ts=>bif Nat.beq xs.length ts.length then .max ((xs.zip ts).map fun (x,t)=>argOf P t x) else .bad
 | _,_,_ => .bad
def isZ (x:Operand):Bool:=match x with|.const (.int .i64 n)=>decide (n=0)|_=>false
def isZo (x:Option Operand):Bool:=match x with|none=>true|some x=>isZ x
def actOf (o:Oper):PAct :=
 match o.op with
 | .move x|.assign x => .mv (argOf P o.type x)
 | .pick c a b => .pick (argOf P o.type c) (argOf P o.type a) (argOf P o.type b)
 | .alloc e=>match zeroPV P e with|some z => .alloc z|none => .bad
 | .box e x => .box (P.cellsOf e) (argOf P e x)
 | .build t parts=>match P.underlying t,zeroPV P t with
  | some (.struct fs),some z=>match partsOf P fs parts,fs.toList.all fun f=>(szOf P f.type).isSome with|some ps,true => .build z ps|_,_ => .bad
  | _,_ => .bad
 | .buildSlice t n parts=>match P.underlying t with
  | some (.slice e)=>(match szOf P e,zeroPV P e with
   | some k,some z=>bif Nat.beq k (tyOf P 20 e).size && Nat.ble (n * k) 1000 && Nat.blt 0 k then .bslice (tyOf P 20 e) z n (parts.toList.map fun (i,x)=>(i,argOf P e x)) else .bad
   | _,_ => .bad)
  | _ => .bad
 | .load t a=>(match aggOf P t with|some k => .load k (argOf P 0 a)|none => .bad)
 | .store t a x=>(match szOf P t with|some n => .store n (argOf P 0 a) (argOf P t x)|none => .bad)
 | .nilCheck x => .nilck (argOf P 0 x)
 | .binOp op t x y u=>match P.underlying t,op with
  | some (.int _),_|some .string,_ => .bin op (argOf P t x) (argOf P u y)
  | some .bool, .eql => .beq false (argOf P t x) (argOf P u y)
  | some .bool, .neq => .beq true (argOf P t x) (argOf P u y)
  | some (.struct _), .eql=>bif eqOk P 20 t && !P.eqGuardType P.depth t then .aeq false (leafs P 20 t) (argOf P t x) (argOf P u y) else .bad
  | some (.struct _), .neq=>bif eqOk P 20 t && !P.eqGuardType P.depth t then .aeq true (leafs P 20 t) (argOf P t x) (argOf P u y) else .bad
  | _,_ => .bad
 | .unOp op t x => .un op (argOf P t x)
 | .convert s d x=>match P.underlying s,P.underlying d with
  | some (.int _),some (.int k) => .toInt k (argOf P s x)
  | some .string,some .string => .same (argOf P s x)
  | some .string,some (.slice e)=>(match P.underlying e with|some (.int .u8) => .s2b (argOf P s x)|_ => .bad)
  | some (.slice e),some .string=>(match P.underlying e with|some (.int .u8) => .b2s (argOf P s x)|_ => .bad)
  | _,_ => .bad
 | .makeSlice t l c=>match P.underlying t with
  | some (.slice e)=>(match szOf P e,zeroPV P e with
   | some k,some z=>bif Nat.beq k (tyOf P 20 e).size && Nat.blt 0 (P.bytesOf e) && Nat.blt 0 k then .mks (tyOf P 20 e) z (P.bytesOf e) (argOf P 2 l) (argOf P 2 c) else .bad
   | _,_ => .bad)
  | _ => .bad
 | .slice t x lo hi none=>match P.underlying t with
  | some (.slice e)=>(match szOf P e with|some n => .slice false n (argOf P t x) (lo.map (argOf P 2)) (hi.map (argOf P 2))|none => .bad)
  | some .string => .slice true 0 (argOf P t x) (lo.map (argOf P 2)) (hi.map (argOf P 2))
  | _ => .bad
 | .slice t x lo (some hi) (some m)=>match P.underlying t with
  | some (.slice e)=>bif isZo lo && isZ hi && isZ m && (szOf P e).isSome then .sliceZ (tyOf P 20 e) (argOf P t x) else .bad
  | _ => .bad
 | .fieldAddr t x i=>match fieldOf P t i with
  | some f=>(match szOf P f.type with|some (_+1) => .fadr f.offset (argOf P 0 x)|_ => .bad)
  | none => .bad
 | .field t x i=>match fieldOf P t i with
  | some f=>(match aggOf P f.type with|some k => .fld f.offset k (argOf P t x)|none => .bad)
  | none => .bad
 | .indexAddr t x i=>match P.underlying t with
  | some (.slice e)=>(match szOf P e with|some n => .iadr n (argOf P t x) (argOf P 2 i)|none => .bad)
  | _ => .bad
 | .index t x i=>match P.underlying t with
  | some .string => .idx (argOf P t x) (argOf P 2 i)
  | _ => .bad
 | .extract x i => .ext (argOf P 0 x) i
 | .call c=>match c.callee with
  | .builtin b=>builtinOf P b c.argTypes c.args
  | .value (.func f)=>bif Nat.beq c.args.size c.argTypes.size then .call f (handsOwn (nameOf P f)) ((c.args.toList.zip c.argTypes.toList).map fun (x,t)=>(inPlaceT P (nameOf P f) t,argOf P t x)) else .bad
  | .value x=>bif Nat.beq c.args.size c.argTypes.size then .callv (argOf P 0 x) ((c.args.toList.zip c.argTypes.toList).map fun (x,t)=>argOf P t x) else .bad
  | _ => .bad
 | .makeFunc (.func f) first caps => .mkf f (first.toList.map (argOf P 0)) (caps.toList.map (argOf P 0))
 | _ => .bad
def afters (after:Array Edge):List Nat:=(after.toList.filter fun e=>Region.binds .any e).map (·.on)
def appUses (ops:Array Oper) (d:Option Nat):Bool :=
 match d with
 | none=>false
 | some d=>ops.toList.any fun q=>match q.op with
  | .call c=>(match c.callee with
   | .builtin .append=>c.args.toList.any fun x=>match x with|.tmp t=>Nat.beq t d|_=>false
   | _=>false)
  | _=>false
def vwOf (v:Bool) (a:PAct):PAct :=
 match a with
 | .slice false sz x lo hi=>bif v then .sliceV sz x lo hi else .slice false sz x lo hi
 | a=>a
def actV (v:Bool) (o:Oper):PAct :=
 match o.op with
 | .slice _ _ _ _ none=>vwOf v (actOf P o)
 | _=>actOf P o
def opOf (ops:Array Oper) (o:Oper):POp :=
 { dst:=o.dst,act:=actV P (appUses ops o.dst) o,after:=afters o.after,guard:=match o.guard with|none=>none|some (j,b)=>some (((ops[j]?).bind (·.dst)).getD 1000000,b) }
end
def ins (n:Nat):List Nat→List Nat
 | []=>[n]
 | m ::r=>if n=m then m ::r else if n<m then n ::m ::r else m ::ins n r
def uni (a b:List Nat):List Nat:=a.foldr ins b
def Arg.uses:Arg→List Nat
 | .t n=>[n]
 | .c _=>[]
def PAct.uses:PAct→List Nat
 | .bad|.alloc _=>[]
 | .mv x|.box _ x|.load _ x|.nilck x|.un _ x|.toInt _ x|.same x|.s2b x|.b2s x|.fadr _ x|.fld _ _ x|.ext x _|.len _ x|.clear _ x|.sliceZ _ x=>x.uses
 | .pick a b c=>a.uses++b.uses++c.uses
 | .build _ ps=>ps.flatMap fun p=>p.2.2.uses
 | .bslice _ _ _ ps=>ps.flatMap fun p=>p.2.uses
 | .store _ a b|.bin _ a b|.beq _ a b|.aeq _ _ a b|.mks _ _ _ a b|.iadr _ a b|.idx a b|.append _ _ _ a b|.copy _ a b=>a.uses++b.uses
 | .slice _ _ x a b|.sliceV _ x a b=>x.uses++(a.toList.flatMap Arg.uses)++(b.toList.flatMap Arg.uses)
 | .call _ _ xs=>xs.flatMap fun x=>x.2.uses
 | .callv x xs=>x.uses++xs.flatMap Arg.uses
 | .min xs|.max xs|.raw _ xs=>xs.flatMap Arg.uses
 | .mkf _ a b=>a.flatMap Arg.uses++b.flatMap Arg.uses
def liveOps (out:List Nat) (ops:List POp):List Nat :=
 ops.foldr (fun o l=>uni (o.act.uses++(match o.guard with|some (t,_)=>[t]|none=>[])) (match o.dst with|some d=>l.filter (fun x => !(x ==d))|none=>l)) out
def exitsOf:PCode→List Nat
 | .exit id=>[id]
 | .ret=>[1000000]
 | .seq a b=>uni (exitsOf a) (exitsOf b)
 | .cond _ a b=>uni (exitsOf a) (exitsOf b)
 | .block id c=>(exitsOf c).filter (fun x => !(x ==id))
 | .loop _ _ _ _ _ _ c=>exitsOf c
 | _=>[]
def liveAt (ex:List (Nat×List Nat)) (id:Nat):List Nat :=
 match ex with
 | []=>[]
 | (i,l) ::r=>if i=id then l else liveAt r id
def opsIn:PCode→List POp
 | .region os _ _=>os
 | .seq a b=>opsIn a++opsIn b
 | .cond _ a b=>opsIn a++opsIn b
 | .block _ c=>opsIn c
 | .loop _ _ _ _ _ _ c=>opsIn c
 | _=>[]
def apOf (os:List POp):List Nat:=os.flatMap fun o=>match o.act with|.append _ _ _ x _=>x.uses|.call _ _ xs=>xs.flatMap fun x=>bif x.1 then x.2.uses else []|_=>[]
def slOf (os:List POp):List Nat:=os.flatMap fun o=>match o.act with|.slice _ _ x _ _=>x.uses|_=>[]
def flow1 (os:List POp) (s:List Nat):List Nat :=
 os.foldr (fun o s=>match o.act,o.dst with|.mv (.t u),some d=>if s.contains d then ins u s else s|.sliceV _ (.t u) _ _,some d=>if s.contains d then ins u s else s|_,_=>s) s
def flow (os:List POp) (s:List Nat):List Nat:=flow1 os (flow1 os (flow1 os (flow1 os s)))
def loads (os:List POp) (s:List Nat):Bool:=os.any fun o=>match o.act,o.dst with|.load _ _,some d=>s.contains d|_,_=>false
def ann:PCode→(ex:List (Nat×List Nat))→(out:List Nat)→PCode×List Nat
 | .bad,_,_=>(.bad,[])
 | .skip,_,out=>(.skip,out)
 | .ret,ex,_=>(.ret,liveAt ex 1000000)
 | .exit id,ex,_=>(.exit id,liveAt ex id)
 | .region ops d _,_,out=>(.region ops d out,liveOps out ops)
 | .seq a b,ex,out=>match ann b ex out with
  | (b',l)=>match ann a ex l with
   | (a',l')=>(.seq a' b',l')
 | .cond c a b,ex,out=>match ann a ex out,ann b ex out with
  | (a',l),(b',m)=>(.cond c a' b',uni c.uses (uni l m))
 | .block id c,ex,out=>match ann c ((id,out) ::ex) out with
  | (c',l)=>(.block id c',l)
 | .loop i _ _ _ _ _ c,ex,_ =>
  let l1:=(ann c ex []).2
  let l2:=(ann c ex l1).2
  let os:=opsIn c
  let ap:=flow os (apOf os)
  match ann c ex l2 with
  | (c',l3)=>(.loop i l3 ((exitsOf c).map fun id=>(id,liveAt ex id)) ap (flow os (slOf os)) (loads os ap) c',l3)
def rawOf (P:Program):Code→Nat→PCode×Nat
 | .skip,n=>(.skip,n)
 | .ret,n=>(.ret,n)
 | .exit id,n=>(.exit id,n)
 | .region _ ops d,n=>(.region (ops.toList.map (opOf P ops)) d [],n)
 | .seq a b,n=>match rawOf P a n with
  | (a',m)=>match rawOf P b m with
   | (b',k)=>(.seq a' b',k)
 | .cond c a b,n=>match rawOf P a n with
  | (a',m)=>match rawOf P b m with
   | (b',k)=>(.cond (argOf P 4 c) a' b',k)
 | .block id c,n=>match rawOf P c n with
  | (c',m)=>(.block id c',m)
 | .loop c,n=>match rawOf P c (n+1) with
  | (c',m)=>(.loop n [] [] [] [] false c',m)
 | _,n=>(.bad,n)
def resOf (P:Program):ResultVar→PRes
 | .tmp t => .tmp t
 | .cell a t=>match aggOf P t with|some k => .cell a k|none => .bad
def PRes.uses:PRes→Nat
 | .tmp t|.cell t _=>t
 | .bad=>0
def keepOf (P:Program) (fn:Func):List Nat :=
 (List.range (fn.params.size+fn.nfree)).filter fun i=>match fn.params[i]? with
  | some t=>(match P.underlying t with|some (.pointer _)=>true|some (.slice _)=>readsOwn fn.name|some (.func ..)=>keepsFn fn.name|_=>false)
  | none=>true
def dstIn (n:Nat) (o:POp):Bool:=(match o.dst with|some d=>Nat.blt d n|none=>true) && (match o.guard with|some (t,_)=>Nat.blt t 1000000|none=>true)
def funcOf (P:Program) (f:FuncId):Option PFunc :=
 match P.funcs[f]? with
 | some fn=>match fn.body with
  | some c =>
   let rs:=fn.results.toList.map (resOf P)
   let l:=rs.foldr (fun r l=>ins r.uses l) (keepOf P fn)
   bif (opsIn (rawOf P c 0).1).all (dstIn fn.ntmps) && !(fn.name == "runtime.NumGoroutine") then some { np:=fn.params.size+fn.nfree,res:=rs,ro:=handsOwn fn.name,body:=(ann (rawOf P c 0).1 [(1000000,l)] l).1 } else none
  | none=>none
 | none=>none
end Go.Proofs.YtdcphpbimeoioaaGreatDoorE
end
section
set_option linter.unusedSectionVars false
namespace Go.Proofs.YtdcphpbimeoioaaGreatDoorE
open Go
set_option linter.unusedVariables false
@[irreducible] def iadd (k:IntKind) (a b:Int):Int:=k.wrap (a+b)
@[irreducible] def isub (k:IntKind) (a b:Int):Int:=k.wrap (a - b)
@[irreducible] def imul (k:IntKind) (a b:Int):Int:=k.wrap (a * b)
@[irreducible] def iquo (k:IntKind) (a b:Int):Int:=k.wrap (a.tdiv b)
@[irreducible] def irem (a b:Int):Int:=a.tmod b
@[irreducible] def ibits (op:BinOp) (k:IntKind) (a b:Int):Int :=
 let x:=BitVec.ofInt k.bits a
 let y:=BitVec.ofInt k.bits b
 match op with
 | .and=>k.wrap (x &&& y).toNat
 | .or=>k.wrap (x ||| y).toNat
 | .xor=>k.wrap (x ^^^ y).toNat
 | _=>k.wrap (x &&& ~~~y).toNat
@[irreducible] def ishl (k:IntKind) (a b:Int):Int:=k.wrap (a * 2 ^ (min b.toNat k.bits))
@[irreducible] def ishr (k:IntKind) (a b:Int):Int:=a.fdiv (2 ^ (min b.toNat k.bits))
@[irreducible] def iconv (k:IntKind) (a:Int):Int:=k.wrap a
@[irreducible] def ieq (a b:Int):Bool:=a ==b
@[irreducible] def ilt (a b:Int):Bool:=decide (a<b)
@[irreducible] def ile (a b:Int):Bool:=decide (a≤b)
@[irreducible] def scat (a b:ByteArray):ByteArray:=a++b
@[irreducible] def sfits (a b:ByteArray):Bool:=Nat.ble (a.size+b.size) 9223372036854775807
@[irreducible] def seq (a b:ByteArray):Bool:=a.toList ==b.toList
@[irreducible] def slt (a b:ByteArray):Bool:=Op.bytesLess a.toList b.toList
@[irreducible] def ssize (a:ByteArray):Int:=a.size
@[irreducible] def sat (a:ByteArray) (i:Int):Int:=(a.get! i.toNat).toNat
@[irreducible] def sext (a:ByteArray) (lo hi:Int):ByteArray:=a.extract lo.toNat hi.toNat
@[irreducible] def sbytes (a:ByteArray):List Int:=a.toList.map fun b=>(b.toNat:Int)
@[irreducible] def room (n bytes:Nat):Bool:=decide (n * bytes≤2 ^ 46)
@[irreducible] def ofBytes (l:List Int):ByteArray:=⟨(l.map fun n=>UInt8.ofNat n.toNat).toArray⟩
@[irreducible] def win {α:Type} (xs:List α) (off n:Nat):List α:=(xs.drop off).take n
def nth {α:Type}:List α→Nat→Option α
 | [],_=>none
 | x ::_,0=>some x
 | _ ::r,n+1=>nth r n
def lset {α:Type}:List α→Nat→α→List α
 | [],_,_=>[]
 | _ ::r,0,y=>y ::r
 | x ::r,n+1,y=>x ::lset r n y
@[irreducible] def lat {α:Type} (xs:List α) (i:Nat):Option α:=nth xs i
@[irreducible] def lput {α:Type} (xs:List α) (i:Nat) (y:α):List α:=lset xs i y
def splice (row:List PV) (j:Nat) (cs:List PV):List PV:=row.take j++cs++row.drop (j+cs.length)
@[irreducible] def bindN {α β:Type} (x:Option α) (K:α→Option β):Option β:=x.bind K
section
variable {β:Type}
def asInt (v:PV) (K:IntKind→Int→Option β):Option β:=match v with|.int k n=>K k n|_=>none
def asBool (v:PV) (K:Bool→Option β):Option β:=match v with|.bool b=>K b|_=>none
def asStr (v:PV) (K:ByteArray→Option β):Option β:=match v with|.str s=>K s|_=>none
def asTup (v:PV) (K:List PV→Option β):Option β:=match v with|.tup s=>K s|_=>none
def okC:PV→Bool
 | .agg _|.tup _|.junk|.raw _=>false
 | _=>true
def cellsK (v:PV) (K:List PV→Option β):Option β :=
 match v with
 | .agg cs=>K cs
 | v=>cond (okC v) (K [v]) none
def fit (n:Nat) (cs:List PV) (K:List PV→Option β):Option β:=cond (Nat.beq cs.length n) (K cs) none
def part (k:Option Nat) (j:Nat) (row:List PV) (K:PV→Option β):Option β :=
 match k with
 | none=>match nth row j with
  | some v=>K v
  | none=>none
 | some n=>fit n ((row.drop j).take n) fun cs=>K (.agg cs)
def fC (v:PV) (K:PV→Option β):Option β :=
 match v with
 | .junk=>K .junk
 | .int k n=>K (.int k n)
 | .bool b=>K (.bool b)
 | .str s=>K (.str s)
 | .agg cs=>K (.agg cs)
 | .tup vs=>K (.tup vs)
 | .nil t=>K (.nil t)
 | .lst t xs=>K (.lst t xs)
 | .own b=>K (.own b)
 | .nilp=>K .nilp
 | .ptr b i j=>K (.ptr b i j)
 | .ref cs=>K (.ref cs)
 | .fn f a b=>K (.fn f a b)
 | .view b lo n=>K (.view b lo n)
 | .emp t=>K (.emp t)
 | .raw v=>K (.raw v)
def fL:List PV→(List PV→Option β)→Option β
 | [],K=>K []
 | v ::r,K=>fC v fun v=>fL r fun r=>K (v ::r)
def fA (v:PV) (K:PV→Option β):Option β :=
 match v with
 | .agg cs=>fL cs fun cs=>K (.agg cs)
 | .ref cs=>fL cs fun cs=>K (.ref cs)
 | .fn f a b=>fL a fun a=>fL b fun b=>K (.fn f a b)
 | v=>fC v K
def fAs:List PV→(List PV→Option β)→Option β
 | [],K=>K []
 | v ::r,K=>fA v fun v=>fAs r fun r=>K (v ::r)
def fV (v:PV) (K:PV→Option β):Option β :=
 match v with
 | .tup vs=>fAs vs fun vs=>K (.tup vs)
 | v=>fA v K
def fS (s:Slot) (K:Slot→Option β):Option β :=
 match s with
 | .unused=>K .unused
 | .dead=>K .dead
 | .live (.box cs w)=>fL cs fun cs=>K (.live (.box cs w))
 | .live (.arr t xs w)=>K (.live (.arr t xs w))
def fH:Heap→(Heap→Option β)→Option β
 | [],K=>K []
 | s ::r,K=>fS s fun s=>fH r fun r=>K (s ::r)
def live (H:Heap) (b:Nat) (K:Blk→Option β):Option β:=match hget H b with|.live x=>K x|_=>none
def kindOf:PV→Nat
 | .int _ _=>0
 | .bool _=>1
 | .str _=>2
 | _=>3
def kinds:List Nat→List PV→Bool
 | [],[]=>true
 | k ::ks,p ::ps=>Nat.beq (kindOf p) k && kinds ks ps
 | _,_=>false
def eqCells:List PV→List PV→(Bool→Option β)→Option β
 | [],[],K=>K true
 | .int k a ::x, .int k' b ::y,K=>cond (decide (k=k')) (eqCells x y fun r=>K (ieq a b && r)) none
 | .bool a ::x, .bool b ::y,K=>eqCells x y fun r=>K ((a ==b) && r)
 | .str a ::x, .str b ::y,K=>eqCells x y fun r=>K (seq a b && r)
 | _,_,_=>none
def intOp (op:BinOp) (k:IntKind) (a b:Int) (K:PV→Option β):Option β :=
 match op with
 | .add=>K (.int k (iadd k a b))
 | .sub=>K (.int k (isub k a b))
 | .mul=>K (.int k (imul k a b))
 | .quo=>cond (ieq b 0) none (K (.int k (iquo k a b)))
 | .rem=>cond (ieq b 0) none (K (.int k (irem a b)))
 | .eql=>K (.bool (ieq a b))
 | .neq=>K (.bool (!ieq a b))
 | .lss=>K (.bool (ilt a b))
 | .leq=>K (.bool (ile a b))
 | .gtr=>K (.bool (ilt b a))
 | .geq=>K (.bool (ile b a))
 | .and=>K (.int k (ibits .and k a b))
 | .or=>K (.int k (ibits .or k a b))
 | .xor=>K (.int k (ibits .xor k a b))
 | .andNot=>K (.int k (ibits .andNot k a b))
 | _=>none
def strOp (op:BinOp) (a b:ByteArray) (K:PV→Option β):Option β :=
 match op with
 | .add=>cond (sfits a b) (K (.str (scat a b))) none
 | .eql=>K (.bool (seq a b))
 | .neq=>K (.bool (!seq a b))
 | .lss=>K (.bool (slt a b))
 | .leq=>K (.bool (slt a b || seq a b))
 | .gtr=>K (.bool (!(slt a b || seq a b)))
 | .geq=>K (.bool (!slt a b))
 | _=>none
def binOp (op:BinOp) (x y:PV) (K:PV→Option β):Option β :=
 match x,y with
 | .int k a, .int k' b=>(match op with
  | .shl=>cond (ilt b 0) none (K (.int k (ishl k a b)))
  | .shr=>cond (ilt b 0) none (K (.int k (ishr k a b)))
  | _=>cond (decide (k=k')) (intOp op k a b K) none)
 | .str a, .str b=>strOp op a b K
 | _,_=>none
def unOp (op:UnOp) (x:PV) (K:PV→Option β):Option β :=
 match op,x with
 | .not, .bool b=>K (.bool !b)
 | .neg, .int k n=>K (.int k (isub k 0 n))
 | _,_=>none
def fillR (cs:List PV):List (Nat×Nat×PV)→(List PV→Option β)→Option β
 | [],K=>K cs
 | (off,n,v) ::r,K=>cellsK v fun c=>fit n c fun c=>cond (Nat.ble (off+n) cs.length) (fillR (splice cs off c) r K) none
def lenOf (H:Heap) (x:PV) (K:Int→Option β):Option β :=
 match x with
 | .str s=>K (ssize s)
 | .nil _=>K 0
 | .lst _ xs=>K xs.length
 | .own b=>live H b fun x=>match x with|.arr _ xs _=>K xs.length|_=>none
 | _=>none
def castL {t:Ty} (u:Ty) (xs:List (El t)):Option (List (El u)):=if h:t=u then some (h ▸ xs) else none
def optK {α:Type} (x:Option α) (K:α→Option β):Option β:=match x with|some a=>K a|none=>none
def elsOf (H:Heap) (u:Ty) (x:PV) (K:List (El u)→Option β):Option β :=
 match x with
 | .nil t=>optK (castL (t:=t) u []) K
 | .lst t xs=>optK (castL u xs) K
 | .own b=>live H b fun x=>match x with|.arr _ xs _=>optK (castL u xs) K|_=>none
 | .view b lo n=>live H b fun x=>match x with|.arr _ xs _=>optK (castL u (win xs lo n)) K|_=>none
 | .str s=>optK (castL (t := .int .u8) u (sbytes s)) K
 | _=>none
def bound (v:Option PV) (dflt:Int) (K:Int→Option β):Option β :=
 match v with
 | none=>K dflt
 | some v=>asInt v fun _ n=>K n
def cellsOf:(t:Ty)→El t→List PV
 | .int k,n=>[.int k n]
 | .bool,b=>[.bool b]
 | .str,s=>[.str s]
 | .slice t,xs=>[.lst t xs]
 | .pair a b,x=>cellsOf a x.1++cellsOf b x.2
 | .unit,_=>[]
 | .none,x=>nomatch x
def decK:(t:Ty)→List PV→(El t→List PV→Option β)→Option β
 | .int k, .int k' n ::r,K=>cond (decide (k=k')) (K n r) none
 | .bool, .bool b ::r,K=>K b r
 | .str, .str s ::r,K=>K s r
 | .slice t, .lst u xs ::r,K=>optK (castL t xs) fun ys=>K ys r
 | .pair a b,cs,K=>decK a cs fun x r=>decK b r fun y r'=>K (x,y) r'
 | .unit,cs,K=>K () cs
 | _,_,_=>none
def sliceOp (sz:Nat) (x:PV) (lo hi:Option PV) (K:PV→Option β):Option β :=
 match x with
 | .str s=>bound lo 0 fun l=>bound hi (ssize s) fun h =>
  cond (ile 0 l) (cond (ile l h) (cond (ile h (ssize s)) (K (.str (sext s l h))) none) none) none
 | .lst t xs=>cond (Nat.beq t.size sz) (bound lo 0 fun l=>bound hi xs.length fun h =>
  cond (ile 0 l) (cond (ile l h) (cond (ile h xs.length) (K (.lst t (win xs l.toNat (h.toNat - l.toNat)))) none) none) none) none
 | _=>none
def folds (lt:Bool):PV→List PV→(PV→Option β)→Option β
 | x,[],K=>K x
 | .int k a, .int _ b ::r,K=>folds lt (.int k (cond (cond lt (ilt b a) (ilt a b)) b a)) r K
 | _,_,_=>none
def cell1 (H:Heap) (c:PV):PV :=
 match c with
 | .own b=>(match hget H b with
  | .live (.arr t xs _) => .lst t xs
  | _ => .junk)
 | .nil t => .lst t []
 | c=>c
def snapV (H:Heap) (v:PV):PV :=
 match v with
 | .agg cs => .agg (cs.map (cell1 H))
 | .tup vs => .tup (vs.map fun v=>match v with
  | .agg cs => .agg (cs.map (cell1 H))
  | v=>cell1 H v)
 | v=>cell1 H v
def ownC (c:PV):List Nat:=match c with|.own b=>[b]|_=>[]
def ownIds (v:PV):List Nat :=
 match v with
 | .agg cs=>cs.flatMap ownC
 | .tup vs=>vs.flatMap fun v=>match v with
  | .agg cs=>cs.flatMap ownC
  | v=>ownC v
 | v=>ownC v
def frz (H:Heap):List Nat→Heap
 | []=>H
 | b ::r=>match hget H b with
  | .live (.box cs _)=>frz (hset H b (.live (.box cs false))) r
  | .live (.arr t xs _)=>frz (hset H b (.live (.arr t xs false))) r
  | _=>frz H r
end
end Go.Proofs.YtdcphpbimeoioaaGreatDoorE
end
section
set_option linter.unusedSectionVars false
namespace Go.Proofs.YtdcphpbimeoioaaGreatDoorE
open Go
set_option linter.unusedVariables false
inductive Ex where
 | normal|exit (id:Nat)|ret
 deriving DecidableEq,Inhabited
structure Susp where
 α:Type
 x:Option α
 enc:α→PV×Heap
 keeps:Bool
structure LSusp where
 α:Type
 ω:Type
 x:Option (α ⊕ ω)
 encE:α→Nat×List PV×Heap
 encR:ω→List PV×Heap
structure Orc where
 call:FuncId→List PV→Heap→Susp
 loop:FuncId→Nat→List PV→Heap→LSusp
@[irreducible] def bindL {α ω β:Type} (x:Option (α ⊕ ω)) (K:α→Option β) (R:ω→Option β):Option β:=x.bind fun y=>match y with|.inl a=>K a|.inr b=>R b
def memN (b:Nat):List Nat→Bool
 | []=>false
 | c ::r=>cond (Nat.beq b c) true (memN b r)
def posN (b:Nat):List Nat→Option Nat
 | []=>none
 | c ::r=>cond (Nat.beq b c) (some 0) (match posN b r with|some i=>some (i+1)|none=>none)
def idsC (c:PV):List Nat :=
 match c with
 | .own b=>[b]
 | .ptr b _ _=>[b]
 | _=>[]
def idsV (v:PV):List Nat :=
 match v with
 | .agg cs=>cs.flatMap idsC
 | .fn _ a b=>a.flatMap idsC++b.flatMap idsC
 | v=>idsC v
def idsB (H:Heap) (b:Nat):List Nat :=
 match hget H b with
 | .live (.box cs _)=>cs.flatMap idsC
 | _=>[]
def reach (H:Heap):Nat→List Nat→List Nat→List Nat
 | 0,_,seen=>seen
 | _+1,[],seen=>seen
 | n+1,b ::r,seen=>cond (memN b seen) (reach H n r seen) (reach H n (r++idsB H b) (seen++[b]))
def pureC (c:PV):Bool :=
 match c with
 | .junk|.int _ _|.bool _|.str _|.nil _|.lst _ _|.nilp|.raw _=>true
 | _=>false
def renC (ids:List Nat) (c:PV):PV :=
 match c with
 | .own b=>(match posN b ids with|some i => .own i|none => .junk)
 | .ptr b i j=>(match posN b ids with|some k => .ptr k i j|none => .junk)
 | .ref cs=>cond (cs.all pureC) (.ref cs) .junk
 | c=>cond (pureC c) c .junk
def renE (ids:List Nat) (v:PV):PV :=
 match v with
 | .agg cs => .agg (cs.map (renC ids))
 | v=>renC ids v
def renV (ids:List Nat) (v:PV):PV :=
 match v with
 | .tup vs => .tup (vs.map (renE ids))
 | .fn f a b => .fn f (a.map (renC ids)) (b.map (renC ids))
 | v=>renE ids v
def renB (ids:List Nat) (x:Blk):Blk:=match x with|.box cs w => .box (cs.map (renC ids)) w|x=>x
def renS (ids:List Nat) (s:Slot):Slot:=match s with|.live x => .live (renB ids x)|s=>s
def bakN (ids:List Nat) (nb i:Nat):Nat:=match nth ids i with|some b=>b|none=>nb
def bakC (ids:List Nat) (nb:Nat) (c:PV):PV :=
 match c with
 | .own b => .own (bakN ids nb b)
 | .ptr b i j => .ptr (bakN ids nb b) i j
 | .ref cs=>cond (cs.all pureC) (.ref cs) .junk
 | c=>cond (pureC c) c .junk
def bakE (ids:List Nat) (nb:Nat) (v:PV):PV :=
 match v with
 | .agg cs => .agg (cs.map (bakC ids nb))
 | v=>bakC ids nb v
def bakV (ids:List Nat) (nb:Nat) (v:PV):PV :=
 match v with
 | .tup vs => .tup (vs.map (bakE ids nb))
 | .fn f a b => .fn f (a.map (bakC ids nb)) (b.map (bakC ids nb))
 | v=>bakE ids nb v
def bakS (ids:List Nat) (nb:Nat) (s:Slot):Slot :=
 match s with
 | .live (.box cs w) => .live (.box (cs.map (bakC ids nb)) w)
 | s=>s
def flatC (c:PV):Bool :=
 match c with
 | .int _ _|.bool _|.str _|.nilp|.junk=>true
 | _=>false
def flatE (v:PV):Bool :=
 match v with
 | .agg cs=>cs.all flatC
 | v=>flatC v
def flatV (v:PV):Bool :=
 match v with
 | .tup vs=>vs.all flatE
 | v=>flatE v
def flatT:Ty→Bool
 | .slice _=>false
 | .pair a b=>flatT a && flatT b
 | _=>true
def flatS (s:Slot):Bool :=
 match s with
 | .live (.box cs _)=>cs.all flatC
 | .live (.arr t _ _)=>flatT t
 | _=>true
def snapB (H:Heap) (x:Blk):Blk:=match x with|.box cs w => .box (cs.map (cell1 H)) w|x=>x
def snapS (H:Heap) (s:Slot):Slot:=match s with|.live x => .live (snapB H x)|s=>s
def ownB (s:Slot):List Nat :=
 match s with
 | .live (.box cs _)=>cs.flatMap ownC
 | _=>[]
def puts (H:Heap):List Nat→List Slot→Heap
 | b ::ids,s ::ss=>puts (hset H b s) ids ss
 | _,_=>H
section
variable {β:Type}
def fresh (H:Heap) (nb:Nat) (x:Option β):Option β:=match hget H nb with|.unused=>x|_=>none
def wrS (s:Slot):Bool:=match s with|.live (.box _ w)=>w|.live (.arr _ _ w)=>w|_=>true
def lenOk:List Nat→Heap→Bool
 | [],[]=>true
 | [],[s]=>wrS s
 | _ ::ids,_ ::H=>lenOk ids H
 | _,_=>false
def back (H:Heap) (ids frozen:List Nat) (nb:Nat) (p:PV×Heap) (K:PV→Heap→Option β):Option β :=
 match p with
 | (r,H1)=>fH H1 fun H1=>cond (lenOk ids H1) (fH (cond (flatV r && H1.all flatS) (puts H (ids++[nb]) (H1.map (bakS ids nb))) (frz (puts H (ids++[nb]) (H1.map (bakS ids nb))) frozen)) fun H2=>K (bakV ids nb r) H2) none
def isLive (H:Heap) (b:Nat):Bool:=match hget H b with|.live _=>true|_=>false
def callArgs (H:Heap) (args:List (Bool×PV)):List PV:=args.map fun (own,v)=>cond own v (snapV H v)
def callIds (H:Heap) (args:List (Bool×PV)):List Nat:=reach (H.map (snapS H)) 50 ((callArgs H args).flatMap idsV) []
def callFrozen (H:Heap) (args:List (Bool×PV)):List Nat :=
 (args.flatMap fun (own,v)=>cond own [] (ownIds v))++(callIds H args).flatMap fun b=>ownB (hget H b)
def callK (O:Orc) (nb:Nat) (H:Heap) (f:FuncId) (args:List (Bool×PV)) (K:PV→Heap→Option β):Option β :=
 fresh H nb (cond (((callFrozen H args).all fun b => !memN b (callIds H args)) && !memN nb (callFrozen H args) && !memN nb (callIds H args) && (callIds H args).all (isLive H))
  (fAs ((callArgs H args).map (renV (callIds H args))) fun ags=>fH ((callIds H args).map fun b=>renS (callIds H args) (snapS H (hget H b))) fun H0 =>
   match O.call f ags H0 with
   | ⟨_,x,enc,_⟩=>bindN x fun p=>back H (callIds H args) (callFrozen H args) nb (enc p) K)
  none)
def evP (E:Env):Nat×Nat×Arg→Nat×Nat×PV
 | (a,b,x)=>(a,b,x.ev E)
def optEv (E:Env):Option Arg→Option PV
 | some a=>some (a.ev E)
 | none=>none
def elsFill (H:Heap) (t:Ty):List (El t)→List (Nat×PV)→(List (El t)→Option β)→Option β
 | xs,[],K=>K xs
 | xs,(i,v) ::r,K=>cellsK (snapV H v) fun cs=>decK t cs fun y rest=>match rest with
  | _ ::_=>none
  | []=>cond (Nat.blt i xs.length) (elsFill H t (lset xs i y) r K) none
def vOwn (E:Env) (xs:List Arg):List Nat:=xs.flatMap fun x=>ownIds (x.ev E)
def storeAt (H:Heap) (b i j n:Nat) (v:PV) (K:PV→Heap→Option β):Option β :=
 live H b fun x=>match x with
 | .box row true=>cellsK v fun cs=>fit n cs fun cs=>cond (Nat.beq i 0 && Nat.ble (j+n) row.length) (fH (hset H b (.live (.box (splice row j cs) true))) fun H=>K .junk H) none
 | .arr t xs true=>cond (memN b (ownIds v)) none (cellsK (snapV H v) fun cs=>fit n cs fun cs=>bindN (lat xs i) fun x =>
  cond (Nat.ble (j+n) t.size) (decK t (splice (cellsOf t x) j cs) fun y rest=>match rest with
   | []=>fH (frz (hset H b (.live (.arr t (lput xs i y) true))) (ownIds v)) fun H=>K .junk H
   | _=>none) none)
 | _=>none
def appendK (nb:Nat) (H:Heap) (sz bytes:Nat) (x y:PV) (K:PV→Heap→Option β):Option β :=
 match x with
 | .nil t=>elsOf H t y fun more=>cond (Nat.beq t.size sz) (cond (room more.length bytes) (fresh H nb (fH (hset H nb (.live (.arr t more true))) fun H=>K (.own nb) H)) none) none
 | .own b=>live H b fun z=>match z with
  | .arr t xs true=>elsOf H t y fun more=>cond (Nat.beq t.size sz)
   (cond (room (xs.length+more.length) bytes) (fresh H nb (fH (hset (hset H b .dead) nb (.live (.arr t (xs++more) true))) fun H=>K (.own nb) H)) none) none
  | _=>none
 | _=>none
def appendV (nb:Nat) (H:Heap) (sz bytes:Nat) (x y:PV) (K:PV→Heap→Option β):Option β :=
 match x with
 | .view b lo n=>live H b fun z=>match z with
  | .arr t xs true=>elsOf H t y fun more=>cond (Nat.beq t.size sz && Nat.beq lo 0)
   (cond (room ((win xs 0 n).length+more.length) bytes) (fresh H nb (fH (hset (hset H b .dead) nb (.live (.arr t (win xs 0 n++more) true))) fun H=>K (.own nb) H)) none) none
  | _=>none
 | .emp t=>elsOf H t y fun more=>cond (Nat.beq t.size sz) (cond (room more.length bytes) (fresh H nb (fH (hset H nb (.live (.arr t more true))) fun H=>K (.own nb) H)) none) none
 | x=>appendK nb H sz bytes x y K
def loadK (H:Heap) (k:Option Nat) (a:PV) (K:PV→Heap→Option β):Option β :=
 match a with
 | .ptr b i j=>live H b fun x=>match x with
  | .box row _=>cond (Nat.beq i 0) (part k j row fun v=>K v H) none
  | .arr t xs _=>bindN (lat xs i) fun x=>part k j (cellsOf t x) fun v=>K v H
 | .ref cs=>part k 0 cs fun v=>K v H
 | _=>none
def fadrK (H:Heap) (off:Nat) (x:PV) (K:PV→Heap→Option β):Option β :=
 match x with
 | .ptr b i j=>live H b fun _=>K (.ptr b i (j+off)) H
 | .ref cs=>K (.ref (cs.drop off)) H
 | _=>none
def iadrK (H:Heap) (sz:Nat) (x:PV) (i:Int) (K:PV→Heap→Option β):Option β :=
 match x with
 | .lst t xs=>cond (Nat.beq t.size sz) (cond (ile 0 i) (bindN (lat xs i.toNat) fun x=>K (.ref (cellsOf t x)) H) none) none
 | .own b=>live H b fun x=>match x with
  | .arr t xs _=>cond (Nat.beq t.size sz) (cond (ile 0 i) (bindN (lat xs i.toNat) fun _=>K (.ptr b i.toNat 0) H) none) none
  | _=>none
 | _=>none
def sliceK (H:Heap) (sz:Nat) (x:PV) (lo hi:Option PV) (K:PV→Heap→Option β):Option β :=
 match x with
 | .own b=>sliceOp sz (cell1 H (.own b)) lo hi fun v=>fH (frz H [b]) fun H=>K v H
 | .nil t=>sliceOp sz (.lst t []) lo hi fun v=>K v H
 | x=>sliceOp sz x lo hi fun v=>K v H
def sliceW (H:Heap) (sz:Nat) (x:PV) (lo hi:Option PV) (K:PV→Heap→Option β):Option β :=
 match x with
 | .own b=>live H b fun z=>match z with
  | .arr t xs _=>cond (Nat.beq t.size sz) (bound lo 0 fun l=>bound hi xs.length fun h =>
   cond (ile 0 l) (cond (ile l h) (cond (ile h xs.length) (K (.view b l.toNat (h.toNat - l.toNat)) H) none) none) none) none
  | _=>none
 | x=>sliceK H sz x lo hi K
def nilckK (H:Heap) (x:PV) (K:PV→Heap→Option β):Option β :=
 match x with
 | .ptr b i j=>live H b fun _=>K (.ptr b i j) H
 | .ref cs=>K (.ref cs) H
 | .fn f a b=>K (.fn f a b) H
 | _=>none
def isStr (v:PV):Bool:=match v with|.str _=>true|_=>false
def callPs (E:Env) (args:List (Bool×Arg)):List (Bool×PV):=args.map fun (o,x)=>(o,x.ev E)
def callVs (E:Env) (a:List PV) (args:List Arg) (b:List PV):List (Bool×PV):=(a.map fun v=>(false,v))++(args.map fun x=>(false,x.ev E))++b.map fun v=>(false,v)
def act (O:Orc) (nb:Nat) (E:Env) (H:Heap) (a:PAct) (K:PV→Heap→Option β):Option β :=
 match a with
 | .bad=>none
 | .mv x=>K (x.ev E) H
 | .pick c a b=>asBool (c.ev E) fun t=>match t,a.ev E,b.ev E with
  | true,x,_=>K x H
  | false,_,y=>K y H
 | .alloc z=>fresh H nb (fH (hset H nb (.live (.box z true))) fun H=>K (.ptr nb 0 0) H)
 | .box n x=>cellsK (x.ev E) fun cs=>fit n cs fun cs=>fresh H nb (fH (hset H nb (.live (.box cs true))) fun H=>K (.ptr nb 0 0) H)
 | .build z ps=>fillR z (ps.map (evP E)) fun cs=>K (.agg cs) H
 | .bslice t z n ps=>decK t (z.map (cell1 [])) fun z rest=>match rest with
  | _ ::_=>none
  | []=>elsFill H t (List.replicate n z) (ps.map fun (i,x)=>(i,x.ev E)) fun xs =>
  fresh H nb (cond (memN nb (vOwn E (ps.map (·.2)))) none (fH (frz (hset H nb (.live (.arr t xs true))) (vOwn E (ps.map (·.2)))) fun H=>K (.own nb) H))
 | .load k a=>loadK H k (a.ev E) K
 | .store n a x=>(match a.ev E with
  | .ptr b i j=>storeAt H b i j n (x.ev E) K
  | _=>none)
 | .nilck x=>nilckK H (x.ev E) K
 | .bin op x y=>binOp op (x.ev E) (y.ev E) fun v=>K v H
 | .beq neg x y=>asBool (x.ev E) fun a=>asBool (y.ev E) fun b=>K (.bool (cond neg (!(a ==b)) (a ==b))) H
 | .aeq neg ks x y=>(match x.ev E,y.ev E with
  | .agg a, .agg b=>cond (kinds ks a) (eqCells a b fun e=>K (.bool (cond neg (!e) e)) H) none
  | _,_=>none)
 | .un op x=>unOp op (x.ev E) fun v=>K v H
 | .toInt k x=>asInt (x.ev E) fun _ n=>K (.int k (iconv k n)) H
 | .same x=>asStr (x.ev E) fun s=>K (.str s) H
 | .s2b x=>asStr (x.ev E) fun s=>fresh H nb (fH (hset H nb (.live (.arr (.int .u8) (sbytes s) true))) fun H=>K (.own nb) H)
 | .b2s x=>cond (isStr (x.ev E)) none (elsOf H (.int .u8) (x.ev E) fun l=>K (.str (ofBytes l)) H)
 | .mks t z bytes l c=>asInt (l.ev E) fun _ l=>asInt (c.ev E) fun _ c=>cond (ile 0 l) (cond (ile l c) (cond (room c.toNat bytes)
  (decK t (z.map (cell1 [])) fun z rest=>match rest with
   | _ ::_=>none
   | []=>fresh H nb (fH (hset H nb (.live (.arr t (List.replicate l.toNat z) true))) fun H=>K (.own nb) H)) none) none) none
 | .slice st sz x lo hi=>cond (isStr (x.ev E) ==st) (sliceK H sz (x.ev E) (optEv E lo) (optEv E hi) K) none
 | .sliceV sz x lo hi=>cond (isStr (x.ev E)) none (sliceW H sz (x.ev E) (optEv E lo) (optEv E hi) K)
 | .sliceZ t x=>(match x.ev E with
  | .lst u _=>cond (decide (u=t)) (K (.emp t) H) none
  | .nil u=>cond (decide (u=t)) (K (.emp t) H) none
  | _=>none)
 | .raw v _=>K v H
 | .fadr off x=>fadrK H off (x.ev E) K
 | .fld off k x=>(match x.ev E with
  | .agg cs=>part k off cs fun v=>K v H
  | _=>none)
 | .iadr sz x i=>asInt (i.ev E) fun _ i=>iadrK H sz (x.ev E) i K
 | .idx x i=>asStr (x.ev E) fun s=>asInt (i.ev E) fun _ i=>cond (ile 0 i) (cond (ilt i (ssize s)) (K (.int .u8 (sat s i)) H) none) none
 | .ext x i=>asTup (x.ev E) fun vs=>(match nth vs i with|some v=>K v H|none=>none)
 | .call f _ args=>callK O nb H f (callPs E args) K
 | .callv x args=>(match x.ev E with
  | .fn f a b=>callK O nb H f (callVs E a args b) K
  | _=>none)
 | .len st x=>cond (isStr (x.ev E) ==st) (lenOf H (x.ev E) fun n=>K (.int .i64 n) H) none
 | .append st sz bytes x y=>cond (isStr (y.ev E) ==st) (appendV nb H sz bytes (x.ev E) (y.ev E) K) none
 | .copy _ _ _=>none
 | .clear _ _=>none
 | .min xs=>(match xs.map (Arg.ev E) with
  | x ::r=>folds true x r fun v=>K v H
  | []=>none)
 | .max xs=>(match xs.map (Arg.ev E) with
  | x ::r=>folds false x r fun v=>K v H
  | []=>none)
 | .mkf f a b=>K (.fn f (a.map (Arg.ev E)) (b.map (Arg.ev E))) H
def putD (d:Option Nat) (v:PV) (E:Env):Env :=
 match d with
 | some t=>(t,v) ::E
 | none=>E
def asGuard (v:PV) (w:Bool) (yes:Option β) (no:PV→Option β):Option β :=
 match v with
 | .bool b=>(match w with|true=>cond b yes (no (.bool false))|false=>cond b (no (.bool true)) yes)
 | .tup []=>no (.tup [])
 | _=>none
def ops (O:Orc) (base:Nat):List (Nat×POp)→Env→Heap→(Env→Heap→Option β)→Option β
 | [],E,H,K=>K E H
 | (i,o) ::r,E,H,K =>
  match o.guard with
  | none=>act O (base+i) E H o.act fun v H=>fV v fun v=>ops O base r (putD o.dst v E) H K
  | some (t,w)=>asGuard (get E t) w
   (act O (base+i) ((t, .bool w) ::E) H o.act fun v H=>fV v fun v=>ops O base r (putD o.dst v ((t, .bool w) ::E)) H K)
   fun u=>ops O base r (putD o.dst (.tup []) ((t,u) ::E)) H K
def footV (v:PV):List Nat:=match v with|.own b=>[b]|.ptr b _ _=>[b]|.view b _ _=>[b]|_=>[]
def stayC (ids:List Nat) (c:PV):Bool :=
 match c with
 | .int _ _|.bool _|.str _|.lst _ _|.nilp=>true
 | .ptr b _ _=>memN b ids
 | _=>false
def stayS (ids:List Nat) (s:Slot):Bool:=match s with|.live (.box cs _)=>cs.all (stayC ids)|.live (.arr _ _ _)=>true|_=>false
def footC (O:Orc) (H:Heap) (f:FuncId) (args:List (Bool×PV)):List Nat×List Nat :=
 cond ((O.call f ((callArgs H args).map (renV (callIds H args))) ((callIds H args).map fun b=>renS (callIds H args) (snapS H (hget H b)))).keeps && (callIds H args).all fun b=>stayS (callIds H args) (hget H b))
  (callIds H args,callFrozen H args) ([],callIds H args++callFrozen H args)
def foot (O:Orc) (E:Env) (H:Heap) (a:PAct):List Nat×List Nat :=
 match a with
 | .load _ a|.len _ a|.b2s a|.nilck a|.fadr _ a=>(footV (a.ev E),[])
 | .iadr _ x _=>(footV (x.ev E),[])
 | .store _ a x=>([],footV (a.ev E)++ownIds (x.ev E))
 | .slice _ _ x _ _=>([],footV (x.ev E))
 | .sliceV _ x _ _=>(footV (x.ev E),[])
 | .append _ _ _ x y=>(footV (y.ev E),footV (x.ev E))
 | .bslice _ _ _ ps=>([],vOwn E (ps.map (·.2)))
 | .call f _ args=>footC O H f (callPs E args)
 | .callv x args=>(match x.ev E with
  | .fn f a b=>footC O H f (callVs E a args b)
  | _=>([],[]))
 | _=>([],[])
structure Done where
 i:Nat
 dst:Option Nat
 uses:List Nat
 anc:List Nat
 rd:List Nat
 wr:List Nat
def noneOf (a b:List Nat):Bool:=a.all fun x => !memN x b
def dstOff (d:Option Nat) (l:List Nat):Bool:=match d with|some t => !memN t l|none=>true
def apartD (x y:Done):Bool :=
 dstOff x.dst y.uses && dstOff y.dst x.uses && (match x.dst,y.dst with|some a,some b => !Nat.beq a b|_,_=>true) &&
 noneOf x.wr (y.rd++y.wr) && noneOf y.wr (x.rd++x.wr)
def okD (y:Done):List Done→Bool
 | []=>true
 | x ::r=>(memN x.i y.anc || apartD x y) && okD y r
def ancOf (l:List Done) (i:Nat):List Nat:=match l with
 | []=>[]
 | x ::r=>cond (Nat.beq x.i i) x.anc (ancOf r i)
def usesO (o:POp):List Nat:=o.act.uses++(match o.guard with|some (t,_)=>[t]|none=>[])
def dd:List Nat→List Nat
 | []=>[]
 | x ::r=>cond (memN x (dd r)) (dd r) (x ::dd r)
def ddK:List Nat→(List Nat→Option β)→Option β
 | [],K=>K []
 | x ::r,K=>ddK r fun r=>cond (memN x r) (K r) (K (x ::r))
def opsD (O:Orc) (base:Nat) (done:List Done):List (Nat×POp)→Env→Heap→(Env→Heap→Option β)→Option β
 | [],E,H,K=>K E H
 | (i,o) ::r,E,H,K =>
  match o.guard with
  | none=>ddK (o.after++o.after.flatMap (ancOf done)) fun anc=>ddK (foot O E H o.act).1 fun rd=>ddK ((base+i) ::(foot O E H o.act).2) fun wr=>(match (⟨i,o.dst,usesO o,anc,rd,wr⟩:Done) with
   | d=>cond (o.after.all (fun k=>Nat.blt k i) && okD d done) (act O (base+i) E H o.act fun v H=>fV v fun v=>opsD O base (d ::done) r (putD o.dst v E) H K) none)
  | some (t,w)=>asGuard (get E t) w
   (ddK (o.after++o.after.flatMap (ancOf done)) fun anc=>ddK (foot O ((t, .bool w) ::E) H o.act).1 fun rd=>ddK ((base+i) ::(foot O ((t, .bool w) ::E) H o.act).2) fun wr=>match (⟨i,o.dst,usesO o,anc,rd,wr⟩:Done) with
   | d=>cond (o.after.all (fun k=>Nat.blt k i) && okD d done) (act O (base+i) ((t, .bool w) ::E) H o.act fun v H=>fV v fun v=>opsD O base (d ::done) r (putD o.dst v ((t, .bool w) ::E)) H K) none)
   fun u=>(ddK (o.after++o.after.flatMap (ancOf done)) fun anc=>match (⟨i,o.dst,usesO o,anc,[],[]⟩:Done) with
   | d=>cond (o.after.all (fun k=>Nat.blt k i) && okD d done) (opsD O base (d ::done) r (putD o.dst (.tup []) ((t,u) ::E)) H K) none)
def number:Nat→List POp→List (Nat×POp)
 | _,[]=>[]
 | n,o ::r=>(n,o) ::number (n+1) r
def keep:List Nat→Env→Env→(Env→Option β)→Option β
 | [],_,A,K=>K A
 | t ::r,E,A,K=>fA (get E t) fun v=>keep r E ((t,v) ::A) K
def unlC (c:PV):PV:=match c with|.nil t => .lst t []|c=>c
def unl (v:PV):PV:=match v with|.agg cs => .agg (cs.map unlC)|v=>unlC v
def isFrz (H:Heap) (b:Nat):Bool:=match hget H b with|.live (.arr _ _ false)=>true|_=>false
def head1 (ap fz:List Nat) (t:Nat) (v:PV) (H:Heap):PV×Heap :=
 match v with
 | .nil u=>cond (memN t ap) (.own H.length,hset H H.length (.live (.arr u [] true))) (.lst u [],H)
 | .own b=>cond (memN t fz || isFrz H b) (cell1 H v,frz H [b]) (v,H)
 | .agg cs=>(snapV H (.agg cs),frz H (ownIds (.agg cs)))
 | v=>(v,H)
def heads (ap fz:List Nat) (E:Env):List Nat→Heap→List PV×Heap
 | [],H=>([],H)
 | t ::r,H=>match head1 ap fz t (get E t) H with
  | (v,H1)=>match heads ap fz E r H1 with
   | (vs,H2)=>(v ::vs,H2)
def unnils:List PV→Heap→List PV×Heap
 | [],H=>([],H)
 | .nil u ::r,H=>match unnils r (hset H H.length (.live (.arr u [] true))) with
  | (r',H2)=>(.own H.length ::r',H2)
 | v ::r,H=>match unnils r H with
  | (r',H2)=>(v ::r',H2)
def unnilB:Nat→Nat→Heap→Heap
 | 0,_,H=>H
 | n+1,b,H=>match hget H b with
  | .live (.box cs true)=>(match unnils cs H with
   | (cs',H1)=>unnilB n (b+1) (hset H1 b (.live (.box cs' true))))
  | _=>unnilB n (b+1) H
def nilS (s:Slot):Slot :=
 match s with
 | .live (.box cs true) => .live (.box (cs.map unlC) true)
 | s=>s
def pre:Nat→Nat→List Nat→Bool
 | _,0,_=>true
 | i,m+1,b ::r=>cond (Nat.beq b i) (pre (i+1) m r) false
 | _,_+1,[]=>false
def norm (m:Nat) (vs:List PV) (H:Heap) (K:List PV→Heap→Option β):Option β :=
 cond (pre 0 m (reach H 100 (vs.flatMap idsV) [])) (K (vs.map (renV (reach H 100 (vs.flatMap idsV) []))) ((reach H 100 (vs.flatMap idsV) []).map fun b=>renS (reach H 100 (vs.flatMap idsV) []) (hget H b))) none
def enter (m:Nat) (lv ap fz:List Nat) (nb:Bool) (E:Env) (H:Heap) (K:List PV→Heap→Option β):Option β :=
 match heads ap fz E lv H with
 | (vs,H1)=>norm m vs (cond nb (unnilB H1.length 0 H1) (H1.map nilS)) K
def setC (c:Arg) (b:Bool) (E:Env):Env :=
 match c with
 | .t n=>(n, .bool b) ::E
 | .c _=>E
def code (O:Orc) (f:FuncId) (m:Nat):PCode→Env→Heap→(Ex→Env→Heap→Option β)→Option β
 | .bad,_,_,_=>none
 | .skip,E,H,K=>K .normal E H
 | .ret,E,H,K=>K .ret E H
 | .exit id,E,H,K=>K (.exit id) E H
 | .region os d out,E,H,K=>cond d (opsD O H.length [] (number 0 os) E H fun E H=>keep out E [] fun E=>K .normal E H)
  (ops O H.length (number 0 os) E H fun E H=>keep out E [] fun E=>K .normal E H)
 | .seq a b,E,H,K=>code O f m a E H fun x E H=>match x with
  | .normal=>code O f m b E H K
  | .exit id=>K (.exit id) E H
  | .ret=>K .ret E H
 | .cond c a b,E,H,K=>asBool (c.ev E) fun t=>cond t (code O f m a (setC c true E) H K) (code O f m b (setC c false E) H K)
 | .block id c,E,H,K=>code O f m c E H fun x E H=>match x with
  | .normal=>K .normal E H
  | .exit j=>cond (Nat.beq j id) (K .normal E H) (K (.exit j) E H)
  | .ret=>K .ret E H
 | .loop i lv lx ap fz nb c,E,H,K =>
  enter m lv ap fz nb E H fun vs H2=>fAs vs fun vs=>fH H2 fun H2=>match O.loop f i vs H2 with
   | ⟨_,_,x,encE,encR⟩=>bindL x (fun a=>match encE a with|(j,outs,H3)=>fAs outs fun outs=>fH H3 fun H3=>K (.exit j) ((liveAt lx j).zip outs) H3)
    (fun b=>match encR b with|(outs,H3)=>fAs outs fun outs=>fH H3 fun H3=>K .ret ((liveAt lx 1000000).zip outs) H3)
def loopBody (O:Orc) (f:FuncId) (m i:Nat) (lv:List Nat) (lx:List (Nat×List Nat)) (ap fz:List Nat) (nb:Bool) (c:PCode) (vs:List PV) (H:Heap) (K:Ex→List PV→Heap→Option β):Option β :=
 fAs vs fun vs=>fH H fun H=>code O f m c (lv.zip vs) H fun x E H=>match x with
  | .normal=>(enter m lv ap fz nb E H fun vs H2=>fAs vs fun vs=>fH H2 fun H2=>match O.loop f i vs H2 with
    | ⟨_,_,x,encE,encR⟩=>bindL x (fun a=>match encE a with|(j,outs,H3)=>K (.exit j) outs H3) (fun b=>match encR b with|(outs,H3)=>K .ret outs H3))
  | .exit j=>norm m ((liveAt lx j).map fun t=>unl (get E t)) H fun outs H1=>K (.exit j) outs H1
  | .ret=>norm m ((liveAt lx 1000000).map fun t=>unl (get E t)) H fun outs H1=>K .ret outs H1
def resVals (E:Env) (H:Heap):List PRes→(List PV→Option β)→Option β
 | [],K=>K []
 | .bad ::_,_=>none
 | .tmp t ::r,K=>resVals E H r fun vs=>K (get E t ::vs)
 | .cell t k ::r,K=>loadK H k (get E t) fun v _=>resVals E H r fun vs=>K (v ::vs)
def upto:Nat→List Nat
 | 0=>[]
 | n+1=>upto n++[n]
def finIds (m:Nat) (ro:Bool) (r:PV):List Nat :=
 upto m++(match r with
  | .own b=>cond (ro && Nat.ble m b) [b] []
  | .ptr b _ _=>cond (Nat.ble m b) [b] []
  | _=>[])
def handOwn (ro:Bool) (r:PV):Bool:=match r with|.own _=>ro|_=>false
def finFrozen (H:Heap) (m:Nat) (ro:Bool) (r:PV):List Nat:=cond (handOwn ro r) [] (ownIds r)++(finIds m ro r).flatMap fun b=>ownB (hget H b)
def finOut (m:Nat) (ro:Bool) (r:PV) (H:Heap) (K:PV→Heap→Option β):Option β :=
 cond ((finFrozen H m ro r).all fun b => !memN b (finIds m ro r))
  (K (renV (finIds m ro r) (cond (handOwn ro r) r (snapV H r))) ((finIds m ro r).map fun b=>renS (finIds m ro r) (snapS H (hget H b)))) none
def fin (m:Nat) (ro:Bool) (r:PV) (H:Heap) (K:PV→Heap→Option β):Option β :=
 match r with
 | .nil t=>cond ro (finOut m true (.own H.length) (hset H H.length (.live (.arr t [] true))) K) (finOut m ro (.nil t) H K)
 | .own b=>cond (ro && Nat.blt b m) (match hget H b with
  | .live (.arr t xs true)=>finOut m true (.own H.length) (hset (hset H b .dead) H.length (.live (.arr t xs true))) K
  | _=>finOut m ro (.own b) H K) (finOut m ro (.own b) H K)
 | r=>finOut m ro r H K
def params:Nat→List PV→Env
 | _,[]=>[]
 | n,v ::r=>(n,v) ::params (n+1) r
def oneOf (vs:List PV):PV:=match vs with|[v]=>v|vs => .tup vs
def funcBody (O:Orc) (f:FuncId) (pf:PFunc) (args:List PV) (H:Heap) (K:PV→Heap→Option β):Option β :=
 fAs args fun args=>fH H fun H=>code O f H.length pf.body (params 0 args) H fun x E H'=>match x with
  | .exit _=>none
  | _=>resVals E H' pf.res fun vs=>fin H.length pf.ro (oneOf vs) H' K
def findLoop:PCode→Nat→Option PCode
 | .loop i lv lx ap fz nb c,j=>cond (Nat.beq i j) (some (.loop i lv lx ap fz nb c)) (findLoop c j)
 | .seq a b,j=>match findLoop a j with
  | some r=>some r
  | none=>findLoop b j
 | .cond _ a b,j=>match findLoop a j with
  | some r=>some r
  | none=>findLoop b j
 | .block _ c,j=>findLoop c j
 | _,_=>none
def runF (P:Program) (O:Orc) (f:FuncId) (args:List PV) (H:Heap) (K:PV→Heap→Option β):Option β :=
 match funcOf P f with
 | some pf=>cond (Nat.beq args.length pf.np) (funcBody O f pf args H K) none
 | none=>none
def runL (P:Program) (O:Orc) (f:FuncId) (m i:Nat) (vs:List PV) (H:Heap) (K:Ex→List PV→Heap→Option β):Option β :=
 match funcOf P f with
 | some pf=>(match findLoop pf.body i with
  | some (.loop _ lv lx ap fz nb c)=>cond (Nat.beq vs.length lv.length) (loopBody O f m i lv lx ap fz nb c vs H K) none
  | _=>none)
 | none=>none
end
end Go.Proofs.YtdcphpbimeoioaaGreatDoorE
end
section
set_option linter.unusedSectionVars false
namespace Go.Proofs.YtdcphpbimeoioaaGreatDoorE
open Go
set_option linter.unusedVariables false
inductive Cs where
 | tree (t:Ty)|own (t:Ty)
inductive Sg where
 | tree (t:Ty)
 | box (cs:List Cs)
 | boxr (t:Ty)
 | fnv (g:FuncId) (caps:List Ty)
 | fnvr (g:FuncId) (caps:List Ty)
 | own (t:Ty)
 | ownx (t:Ty)
 | nl (t:Ty)
 | al (j:Nat)
inductive Rt where
 | tree (t:Ty)|own (t:Ty)|ptr (t:Ty)
@[reducible] def CsEl:List Cs→Type
 | []=>Unit
 | .tree t ::r=>El t×CsEl r
 | .own t ::r=>List (El t)×CsEl r
@[reducible] def CapsEl:List Ty→Type
 | []=>Unit
 | t ::r=>El t×CapsEl r
@[reducible] def Sg1:Sg→Type
 | .tree t=>El t
 | .box cs=>CsEl cs
 | .boxr t=>El t
 | .fnv _ caps=>CapsEl caps
 | .fnvr _ caps=>CapsEl caps
 | .own t=>List (El t)
 | .ownx t=>List (El t)
 | .nl _=>Unit
 | .al _=>Unit
@[reducible] def SgEl:List Sg→Type
 | []=>Unit
 | s ::r=>Sg1 s×SgEl r
@[reducible] def Out1:Sg→Type
 | .box cs=>CsEl cs
 | .fnv _ caps=>CapsEl caps
 | .own t=>List (El t)
 | _=>Unit
@[reducible] def OutEl:List Sg→Type
 | []=>Unit
 | s ::r=>Out1 s×OutEl r
@[reducible] def Rt1:Rt→Type
 | .tree t=>El t
 | .own t=>List (El t)
 | .ptr t=>El t
@[reducible] def RtEl:List Rt→Type
 | []=>Unit
 | r ::s=>Rt1 r×RtEl s
def valPV:(t:Ty)→El t→PV
 | .int k,n => .int k n
 | .bool,b => .bool b
 | .str,s => .str s
 | .slice t,xs => .lst t xs
 | .pair a b,x => .agg (cellsOf (.pair a b) x)
 | .unit,_ => .agg []
 | .none,x=>nomatch x
def nOwn:List Cs→Nat
 | []=>0
 | .own _ ::r=>nOwn r+1
 | .tree _ ::r=>nOwn r
def csCells:(cs:List Cs)→CsEl cs→Nat→List PV
 | [],_,_=>[]
 | .tree t ::r,x,e=>cellsOf t x.1++csCells r x.2 e
 | .own t ::r,x,e => .own e ::csCells r x.2 (e+1)
def csExtra:(cs:List Cs)→CsEl cs→Heap
 | [],_=>[]
 | .tree t ::r,x=>csExtra r x.2
 | .own t ::r,x => .live (.arr t x.1 true) ::csExtra r x.2
def ptrs:Nat→List Ty→List PV
 | _,[]=>[]
 | n,_ ::r => .ptr n 0 0 ::ptrs (n+1) r
def argsOf:(sg:List Sg)→SgEl sg→Nat→List PV
 | [],_,_=>[]
 | .tree t ::r,x,n=>valPV t x.1 ::argsOf r x.2 n
 | .box _ ::r,x,n => .ptr n 0 0 ::argsOf r x.2 (n+1)
 | .boxr _ ::r,x,n => .ptr n 0 0 ::argsOf r x.2 (n+1)
 | .fnv g caps ::r,x,n => .fn g [] (ptrs n caps) ::argsOf r x.2 (n+caps.length)
 | .fnvr g caps ::r,x,n => .fn g [] (ptrs n caps) ::argsOf r x.2 (n+caps.length)
 | .own _ ::r,x,n => .own n ::argsOf r x.2 (n+1)
 | .ownx _ ::r,x,n => .own n ::argsOf r x.2 (n+1)
 | .nl t ::r,x,n => .nil t ::argsOf r x.2 n
 | .al j ::r,x,n => .own j ::argsOf r x.2 n
def nIds:List Sg→Nat
 | []=>0
 | .tree _ ::r=>nIds r
 | .nl _ ::r=>nIds r
 | .al _ ::r=>nIds r
 | .fnv _ caps ::r=>nIds r+caps.length
 | .fnvr _ caps ::r=>nIds r+caps.length
 | _ ::r=>nIds r+1
def capsHeap:(caps:List Ty)→CapsEl caps→Heap
 | [],_=>[]
 | t ::r,x => .live (.box (cellsOf t x.1) true) ::capsHeap r x.2
def mainHeap:(sg:List Sg)→SgEl sg→Nat→Heap
 | [],_,_=>[]
 | .tree _ ::r,x,e=>mainHeap r x.2 e
 | .box cs ::r,x,e => .live (.box (csCells cs x.1 e) true) ::mainHeap r x.2 (e+nOwn cs)
 | .boxr t ::r,x,e => .live (.box (cellsOf t x.1) true) ::mainHeap r x.2 e
 | .fnv _ caps ::r,x,e=>capsHeap caps x.1++mainHeap r x.2 e
 | .fnvr _ caps ::r,x,e=>capsHeap caps x.1++mainHeap r x.2 e
 | .own t ::r,x,e => .live (.arr t x.1 true) ::mainHeap r x.2 e
 | .ownx t ::r,x,e => .live (.arr t x.1 true) ::mainHeap r x.2 e
 | .nl _ ::r,x,e=>mainHeap r x.2 e
 | .al _ ::r,x,e=>mainHeap r x.2 e
def extraHeap:(sg:List Sg)→SgEl sg→Heap
 | [],_=>[]
 | .box cs ::r,x=>csExtra cs x.1++extraHeap r x.2
 | .tree _ ::r,x=>extraHeap r x.2
 | .boxr _ ::r,x=>extraHeap r x.2
 | .fnv _ _ ::r,x=>extraHeap r x.2
 | .fnvr _ _ ::r,x=>extraHeap r x.2
 | .own _ ::r,x=>extraHeap r x.2
 | .ownx _ ::r,x=>extraHeap r x.2
 | .nl _ ::r,x=>extraHeap r x.2
 | .al _ ::r,x=>extraHeap r x.2
def heapOf (sg:List Sg) (x:SgEl sg):Heap:=mainHeap sg x (nIds sg)++extraHeap sg x
def outHeap:(sg:List Sg)→SgEl sg→OutEl sg→Heap
 | [],_,_=>[]
 | .tree _ ::r,a,x=>outHeap r a.2 x.2
 | .box cs ::r,a,x => .live (.box (csCells cs x.1 0) true) ::outHeap r a.2 x.2
 | .boxr t ::r,a,x => .live (.box (cellsOf t a.1) true) ::outHeap r a.2 x.2
 | .fnv _ caps ::r,a,x=>capsHeap caps x.1++outHeap r a.2 x.2
 | .fnvr _ caps ::r,a,x=>capsHeap caps a.1++outHeap r a.2 x.2
 | .own t ::r,a,x => .live (.arr t x.1 true) ::outHeap r a.2 x.2
 | .ownx _ ::r,a,x => .dead ::outHeap r a.2 x.2
 | .nl _ ::r,a,x=>outHeap r a.2 x.2
 | .al _ ::r,a,x=>outHeap r a.2 x.2
def resList:(rs:List Rt)→RtEl rs→List PV
 | [],_=>[]
 | .tree t ::r,y=>valPV t y.1 ::resList r y.2
 | .own _ ::r,y => .junk ::resList r y.2
 | .ptr _ ::r,y => .junk ::resList r y.2
def resOfT (rs:List Rt) (y:RtEl rs) (m:Nat):PV×Heap :=
 match rs,y with
 | [.tree t],y=>(valPV t y.1,[])
 | [.own t],y=>(.own m,[.live (.arr t y.1 true)])
 | [.ptr t],y=>(.ptr m 0 0,[.live (.box (cellsOf t y.1) true)])
 | rs,y=>(.tup (resList rs y),[])
def encOut (sg:List Sg) (rs:List Rt) (a:SgEl sg) (y:RtEl rs×OutEl sg):PV×Heap :=
 match resOfT rs y.1 (nIds sg) with
 | (r,h)=>(r,outHeap sg a y.2++h)
def Sg.keeps:Sg→Bool
 | .tree _|.boxr _|.fnvr _ _|.nl _|.al _=>true
 | _=>false
def Rt.keeps:Rt→Bool
 | .tree _=>true
 | _=>false
section
variable {β:Type}
def decV:(t:Ty)→PV→(El t→Option β)→Option β
 | .int k, .int k' n,K=>cond (decide (k=k')) (K n) none
 | .bool, .bool b,K=>K b
 | .str, .str s,K=>K s
 | .slice t, .lst u xs,K=>optK (castL t xs) K
 | .pair a b, .agg cs,K=>decK (.pair a b) cs fun y r=>match r with|[]=>K y|_=>none
 | .unit, .agg cs,K=>match cs with|[]=>K ()|_=>none
 | _,_,_=>none
def box? (s:Slot) (K:List PV→Option β):Option β:=match s with|.live (.box cs true)=>K cs|_=>none
def arr? (t:Ty) (s:Slot) (K:List (El t)→Option β):Option β:=match s with|.live (.arr u xs true)=>optK (castL t xs) K|_=>none
def decBox (H:Heap):(cs:List Cs)→List PV→Nat→(CsEl cs→List PV→Option β)→Option β
 | [],l,_,K=>K () l
 | .tree t ::r,l,e,K=>decK t l fun x l=>decBox H r l e fun y l=>K (x,y) l
 | .own t ::r, .own b ::l,e,K=>cond (Nat.beq b e) (arr? t (hget H b) fun x=>decBox H r l (e+1) fun y l=>K (x,y) l) none
 | .own _ ::_,_,_,_=>none
def decCaps (H:Heap):(caps:List Ty)→List PV→Nat→(CapsEl caps→Option β)→Option β
 | [],[],_,K=>K ()
 | t ::r, .ptr b i j ::l,n,K=>cond (Nat.beq b n && Nat.beq i 0 && Nat.beq j 0) (box? (hget H b) fun cs=>decK t cs fun x rest=>match rest with
  | []=>decCaps H r l (n+1) fun y=>K (x,y)
  | _=>none) none
 | _,_,_,_=>none
def decArgs (H:Heap):(sg:List Sg)→List PV→(n e:Nat)→(SgEl sg→Option β)→Option β
 | [],[],n,e,K=>cond (Nat.beq e H.length) (K ()) none
 | .tree t ::r,v ::l,n,e,K=>decV t v fun x=>decArgs H r l n e fun y=>K (x,y)
 | .box cs ::r, .ptr b i j ::l,n,e,K=>cond (Nat.beq b n && Nat.beq i 0 && Nat.beq j 0) (box? (hget H b) fun c=>decBox H cs c e fun x rest=>match rest with
  | []=>decArgs H r l (n+1) (e+nOwn cs) fun y=>K (x,y)
  | _=>none) none
 | .fnv g caps ::r, .fn g' first c ::l,n,e,K=>cond (Nat.beq g g' && first.isEmpty) (decCaps H caps c n fun x=>decArgs H r l (n+caps.length) e fun y=>K (x,y)) none
 | .boxr t ::r, .ptr b i j ::l,n,e,K=>cond (Nat.beq b n && Nat.beq i 0 && Nat.beq j 0) (box? (hget H b) fun c=>decK t c fun x rest=>match rest with
  | []=>decArgs H r l (n+1) e fun y=>K (x,y)
  | _=>none) none
 | .fnvr g caps ::r, .fn g' first c ::l,n,e,K=>cond (Nat.beq g g' && first.isEmpty) (decCaps H caps c n fun x=>decArgs H r l (n+caps.length) e fun y=>K (x,y)) none
 | .own t ::r, .own b ::l,n,e,K=>cond (Nat.beq b n) (arr? t (hget H b) fun x=>decArgs H r l (n+1) e fun y=>K (x,y)) none
 | .ownx t ::r, .own b ::l,n,e,K=>cond (Nat.beq b n) (arr? t (hget H b) fun x=>decArgs H r l (n+1) e fun y=>K (x,y)) none
 | .al j ::r, .own b ::l,n,e,K=>cond (Nat.beq b j) (decArgs H r l n e fun y=>K ((),y)) none
 | .nl t ::r, .nil u ::l,n,e,K=>cond (decide (t=u)) (decArgs H r l n e fun y=>K ((),y)) none
 | _,_,_,_,_=>none
def decIn (sg:List Sg) (args:List PV) (H:Heap):Option (SgEl sg):=decArgs H sg args 0 (nIds sg) some
def decCapsOut:(caps:List Ty)→Heap→(CapsEl caps→Heap→Option β)→Option β
 | [],H,K=>K () H
 | t ::r,s ::H,K=>box? s fun cs=>decK t cs fun x rest=>match rest with
  | []=>decCapsOut r H fun y H=>K (x,y) H
  | _=>none
 | _,_,_=>none
def decOut:(sg:List Sg)→Heap→(OutEl sg→Heap→Option β)→Option β
 | [],H,K=>K () H
 | .tree _ ::r,H,K=>decOut r H fun y H=>K ((),y) H
 | .box cs ::r,s ::H,K=>box? s fun c=>decBox [] cs c 0 fun x rest=>match rest with
  | []=>decOut r H fun y H=>K (x,y) H
  | _=>none
 | .fnv _ caps ::r,H,K=>decCapsOut caps H fun x H=>decOut r H fun y H=>K (x,y) H
 | .own t ::r,s ::H,K=>arr? t s fun x=>decOut r H fun y H=>K (x,y) H
 | .ownx _ ::r, .dead ::H,K=>decOut r H fun y H=>K ((),y) H
 | .nl _ ::r,H,K=>decOut r H fun y H=>K ((),y) H
 | .al _ ::r,H,K=>decOut r H fun y H=>K ((),y) H
 | _,_,_=>none
def decList:(rs:List Rt)→List PV→(RtEl rs→Option β)→Option β
 | [],[],K=>K ()
 | .tree t ::r,v ::l,K=>decV t v fun x=>decList r l fun y=>K (x,y)
 | _,_,_=>none
def decRes (rs:List Rt) (m:Nat) (r:PV) (H:Heap) (K:RtEl rs→Option β):Option β :=
 match rs with
 | [.tree t]=>(match H with|[]=>decV t r fun x=>K (x,())|_=>none)
 | [.own t]=>(match r,H with|.own b,[s]=>cond (Nat.beq b m) (arr? t s fun x=>K (x,())) none|_,_=>none)
 | [.ptr t]=>(match r,H with
  | .ptr b i j,[s]=>cond (Nat.beq b m && Nat.beq i 0 && Nat.beq j 0) (box? s fun cs=>decK t cs fun x rest=>match rest with|[]=>K (x,())|_=>none) none
  | _,_=>none)
 | rs=>(match r,H with|.tup vs,[]=>decList rs vs K|_,_=>none)
end
structure Ent where
 n:FuncId
 sg:List Sg
 rs:List Rt
 F:SgEl sg→Option (RtEl rs×OutEl sg)
structure LEnt where
 i:Nat
 sg:List Sg
 e:Nat
 sgE:List Sg
 sgR:List Sg
 L:SgEl sg→Option (SgEl sgE ⊕ SgEl sgR)
def noSusp:Susp:=⟨PV×Heap,none,id,false⟩
def Ent.call (x:Ent) (args:List PV) (H:Heap):Susp :=
 match decIn x.sg args H with
 | some a=>⟨_,x.F a,encOut x.sg x.rs a,x.sg.all Sg.keeps && x.rs.all Rt.keeps⟩
 | none=>noSusp
def LEnt.loop (x:LEnt) (vs:List PV) (H:Heap):LSusp :=
 match decIn x.sg vs H with
 | some s=>⟨_,_,x.L s,fun a=>(x.e,argsOf x.sgE a 0,heapOf x.sgE a),fun b=>(argsOf x.sgR b 0,heapOf x.sgR b)⟩
 | none=>⟨Nat×List PV×Heap,List PV×Heap,none,id,id⟩
def noLSusp:LSusp:=⟨Nat×List PV×Heap,List PV×Heap,none,id,id⟩
def callOf:List Ent→FuncId→List PV→Heap→Susp
 | [],_,_,_=>noSusp
 | x ::r,f,args,H=>bif Nat.beq x.n f then x.call args H else callOf r f args H
def loopOf:List LEnt→Nat→List PV→Heap→LSusp
 | [],_,_,_=>noLSusp
 | x ::r,i,vs,H=>bif Nat.beq x.i i then x.loop vs H else loopOf r i vs H
def specO (T:List Ent) (L:List LEnt):Orc:=⟨callOf T,fun _=>loopOf L⟩
def walkF (P:Program) (T:List Ent) (L:List LEnt) (n:FuncId) (sg:List Sg) (rs:List Rt) (x:SgEl sg):Option (RtEl rs×OutEl sg) :=
 runF P (specO T L) n (argsOf sg x 0) (heapOf sg x) fun r H=>decOut sg H fun o H=>decRes rs (nIds sg) r H fun y=>some (y,o)
def walkL (P:Program) (T:List Ent) (L:List LEnt) (n:FuncId) (m:Nat) (x:LEnt) (s:SgEl x.sg):Option (SgEl x.sgE ⊕ SgEl x.sgR) :=
 runL P (specO T L) n m x.i (argsOf x.sg s 0) (heapOf x.sg s) fun ex vs H=>match ex with
  | .exit j=>cond (Nat.beq j x.e) ((decIn x.sgE vs H).map .inl) none
  | .ret=>(decIn x.sgR vs H).map .inr
  | .normal=>none
end Go.Proofs.YtdcphpbimeoioaaGreatDoorE
end
section
set_option linter.unusedSectionVars false
namespace Go.Proofs.YtdcphpbimeoioaaGreatDoorE
open Go
set_option linter.unusedVariables false
set_option maxRecDepth 100000
def gBlocks:List Nat:=[0,1,3]
def gHolds (w:World):Prop :=
 (∃ m,w.cell? ⟨0,0,none⟩=some (.int .i64 m))∧Lib.TabIs Tryz.prog w "internal/strconv.uint64pow10" .u64 Lib.pow10Tab∧∃ ev,w.cell? ⟨3,0,none⟩=some ev∧(ev = .nilIface∨∃ te pe,ev = .iface te pe)
theorem pow10_at:Tryz.prog.globalNamed "internal/strconv.uint64pow10"=some 1:=by kernel_rfl
theorem gHolds_same {w w':World} (h:∀ k∈gBlocks,w'.heap[k]?=w.heap[k]?) (hg:gHolds w):gHolds w':=by
 have h0:=h 0 (by simp [gBlocks])
 have h1:=h 1 (by simp [gBlocks])
 have h3:=h 3 (by simp [gBlocks])
 obtain ⟨⟨m,g0⟩,g1,ev,g3,g4⟩:=hg
 refine ⟨⟨m,?_⟩,?_,ev,?_,g4⟩
 ·rw [← g0];unfold World.cell?;rw [h0]
 ·unfold Lib.TabIs World.var? at g1 ⊢
  rw [pow10_at] at g1 ⊢
  simp only [Option.bind_some] at g1 ⊢
  rw [h1];exact g1
 ·rw [← g3];unfold World.cell?;rw [h3]
theorem gHolds_lt {w:World} (hg:gHolds w):∀ k∈gBlocks,k<w.heap.size:=by
 obtain ⟨⟨m,g0⟩,g1,ev,g3,_⟩:=hg
 intro k hk
 simp only [gBlocks,List.mem_cons,List.not_mem_nil,or_false] at hk
 rcases hk with rfl|rfl|rfl
 ·exact World.block_lt_of_cell? w _ g0
 ·unfold Lib.TabIs World.var? at g1
  rw [pow10_at] at g1
  simp only [Option.bind_some] at g1
  cases e:w.heap[1]? with
  | none=>rw [e] at g1;cases g1
  | some o=>exact (Array.getElem?_eq_some_iff.1 e).1
 ·exact World.block_lt_of_cell? w _ g3
end Go.Proofs.YtdcphpbimeoioaaGreatDoorE
end
section
set_option linter.unusedSectionVars false
namespace Go.Proofs.YtdcphpbimeoioaaGreatDoorE
open Go
set_option linter.unusedVariables false
set_option linter.unusedSimpArgs false
inductive SL where
 | unused|dead|box (blk:Nat)|arr (a:Option Addr) (n cap sz:Nat)
inductive Val (S:Nat→SL) (F:Nat→Prop) (w:World):PV→Value→Prop
 | junk (v:Value):Val S F w .junk v
 | raw (v:Value):Val S F w (.raw v) v
 | int (k:IntKind) (n:Int):Val S F w (.int k n) (.int k n)
 | bool (b:Bool):Val S F w (.bool b) (.bool b)
 | str (s:ByteArray):Val S F w (.str s) (.string s)
 | agg (cs:List PV) (vs:Array Value) (hl:vs.size=cs.length) (hv:∀ (i:Nat) (p:PV) (v:Value),cs[i]?=some p→vs[i]?=some v→Val S F w p v)
   (ho:∀ (i:Nat) (v:Value),vs[i]?=some v→v.oneCell=true):Val S F w (.agg cs) (.agg vs)
 | tup (cs:List PV) (vs:Array Value) (hl:vs.size=cs.length) (hv:∀ (i:Nat) (p:PV) (v:Value),cs[i]?=some p→vs[i]?=some v→Val S F w p v):Val S F w (.tup cs) (.tuple vs)
 | nil (t:Ty):Val S F w (.nil t) (.slice none 0 0)
 | lst (t:Ty) (xs:List (El t)) (a:Option Addr) (cap:Nat) (vf:Nat→Nat→Value) (hc:xs.length≤cap) (ha:xs≠[]→∃ ad,a=some ad) (hs:xs≠[]→∀ ad,a=some ad→ad.spot=none)
   (hcell:∀ (ad:Addr) (i:Nat) (x:El t) (j:Nat) (p:PV),a=some ad→xs[i]?=some x→(cellsOf t x)[j]?=some p→F ad.block∧w.cell? ⟨ad.block,ad.off+i * t.size+j,none⟩=some (vf i j))
   (hv:∀ (i:Nat) (x:El t) (j:Nat) (p:PV),xs[i]?=some x→(cellsOf t x)[j]?=some p→Val S F w p (vf i j)):Val S F w (.lst t xs) (.slice a xs.length cap)
 | own (b:Nat) (a:Option Addr) (n cap sz:Nat) (h:S b = .arr a n cap sz):Val S F w (.own b) (.slice a n cap)
 | ownd (b:Nat) (v:Value) (h:S b = .dead) (ho:v.oneCell=true):Val S F w (.own b) v
 | view (b lo k:Nat) (a:Option Addr) (n cap sz:Nat) (h:S b = .arr a n cap sz) (hl:lo+k≤n):Val S F w (.view b lo k) (.slice (if cap=lo then a else a.map (·.add (lo * sz))) k (cap - lo))
 | emp (t:Ty) (a:Option Addr):Val S F w (.emp t) (.slice a 0 0)
 | viewd (b lo k:Nat) (v:Value) (h:S b = .dead) (ho:v.oneCell=true):Val S F w (.view b lo k) v
 | nilp:Val S F w .nilp (.pointer none)
 | ptr (b blk j:Nat) (h:S b = .box blk):Val S F w (.ptr b 0 j) (.pointer (some ⟨blk,j,none⟩))
 | ptra (b:Nat) (a:Addr) (n cap sz i j:Nat) (h:S b = .arr (some a) n cap sz) (hi:i<n):Val S F w (.ptr b i j) (.pointer (some ⟨a.block,a.off+i * sz+j,none⟩))
 | ptrd (b i j:Nat) (v:Value) (h:S b = .dead) (ho:v.oneCell=true):Val S F w (.ptr b i j) v
 | ref (cs:List PV) (ad:Addr) (vf:Nat→Value) (hs:ad.spot=none) (hcell:∀ (j:Nat) (p:PV),cs[j]?=some p→F ad.block∧w.cell? ⟨ad.block,ad.off+j,none⟩=some (vf j))
   (ho:∀ (j:Nat) (p:PV),cs[j]?=some p→(vf j).oneCell=true) (hv:∀ (j:Nat) (p:PV),cs[j]?=some p→Val S F w p (vf j)):Val S F w (.ref cs) (.pointer (some ad))
 | fn (f:FuncId) (a b:List PV) (va vb:Array Value) (la:va.size=a.length) (lb:vb.size=b.length) (ha:∀ (i:Nat) (p:PV) (v:Value),a[i]?=some p→va[i]?=some v→Val S F w p v)
   (hb:∀ (i:Nat) (p:PV) (v:Value),b[i]?=some p→vb[i]?=some v→Val S F w p v):Val S F w (.fn f a b) (.func (.func f) va vb)
theorem cell_of_heap {w w':World} {k:Nat} (h:w'.heap[k]?=w.heap[k]?) (o:Nat):w'.cell? ⟨k,o,none⟩=w.cell? ⟨k,o,none⟩:=by unfold World.cell?;rw [h]
theorem Val.mono {S S':Nat→SL} {F F':Nat→Prop} {w w':World} (hF:∀ k,F k→F' k) (hw:∀ k,F k→w'.heap[k]?=w.heap[k]?)
  (hS:∀ b,S b ≠ .unused→S' b=S b∨S' b = .dead) {p:PV} {v:Value} (h:Val S F w p v):Val S' F' w' p v:=by
 induction h with
 | junk v=>exact .junk v
 | raw v=>exact .raw v
 | int k n=>exact .int k n
 | bool b=>exact .bool b
 | str s=>exact .str s
 | agg cs vs hl hv ho ih=>exact .agg cs vs hl ih ho
 | tup cs vs hl hv ih=>exact .tup cs vs hl ih
 | nil t=>exact .nil t
 | lst t xs a cap vf hc ha hs hcell hv ih =>
  exact .lst t xs a cap vf hc ha hs (fun ad i x j p e1 e2 e3=>⟨hF _ (hcell ad i x j p e1 e2 e3).1,(cell_of_heap (hw _ (hcell ad i x j p e1 e2 e3).1) _).trans (hcell ad i x j p e1 e2 e3).2⟩) ih
 | own b a n cap sz h =>
  rcases hS b (by rw [h];simp) with e|e
  ·exact .own b a n cap sz (e.trans h)
  ·exact .ownd b _ e rfl
 | ownd b v h ho=>rcases hS b (by rw [h];simp) with e|e<;>exact .ownd b v (by simp_all) ho
 | view b lo k a n cap sz h hl =>
  rcases hS b (by rw [h];simp) with e|e
  ·exact .view b lo k a n cap sz (e.trans h) hl
  ·exact .viewd b _ _ _ e rfl
 | emp t a=>exact .emp t a
 | viewd b lo k v h ho=>rcases hS b (by rw [h];simp) with e|e<;>exact .viewd b lo k v (by simp_all) ho
 | nilp=>exact .nilp
 | ptr b blk j h =>
  rcases hS b (by rw [h];simp) with e|e
  ·exact .ptr b blk j (e.trans h)
  ·exact .ptrd b _ _ _ e rfl
 | ptra b a n cap sz i j h hi =>
  rcases hS b (by rw [h];simp) with e|e
  ·exact .ptra b a n cap sz i j (e.trans h) hi
  ·exact .ptrd b _ _ _ e rfl
 | ptrd b i j v h ho=>rcases hS b (by rw [h];simp) with e|e<;>exact .ptrd b i j v (by simp_all) ho
 | ref cs ad vf hs hcell ho hv ih =>
  exact .ref cs ad vf hs (fun j p e=>⟨hF _ (hcell j p e).1,(cell_of_heap (hw _ (hcell j p e).1) _).trans (hcell j p e).2⟩) ho ih
 | fn f a b va vb la lb ha hb iha ihb=>exact .fn f a b va vb la lb iha ihb
theorem okC_one {S:Nat→SL} {F:Nat→Prop} {w:World} {p:PV} {v:Value} (h:Val S F w p v) (hp:okC p=true):v.oneCell=true:=by
 cases h<;>first|rfl|assumption|(simp [okC] at hp)
def blkOf:SL→Option Nat
 | .box k=>some k
 | .arr (some a) _ cap _=>if cap=0 then none else some a.block
 | _=>none
def Blk.wr:Blk→Bool
 | .box _ w=>w
 | .arr _ _ w=>w
def BoxOk (S:Nat→SL) (F:Nat→Prop) (w:World) (cs:List PV) (k:Nat):Prop :=
 ∃ c t,w.heap[k]?=some (.cells c t (0,0))∧c.size=cs.length∧(∀ (j:Nat) (p:PV) (v:Value),cs[j]?=some p→c[j]?=some v→Val S F w p v)∧(∀ (j:Nat) (v:Value),c[j]?=some v→v.oneCell=true)
def ArrOk (S:Nat→SL) (F:Nat→Prop) (w:World) (t:Ty) (xs:List (El t)) (ad:Addr) (cap:Nat):Prop :=
 ad.spot=none∧∃ c tt fr,w.heap[ad.block]?=some (.cells c tt fr)∧ad.off+cap * t.size≤c.size∧(∀ k,k<c.size→¬ (fr.1≤k∧k<fr.2))∧(∀ (j:Nat) (v:Value),c[j]?=some v→v.oneCell=true) ∧
  ∀ (i:Nat) (x:El t) (j:Nat) (p:PV),xs[i]?=some x→(cellsOf t x)[j]?=some p→∃ v,c[ad.off+i * t.size+j]?=some v∧Val S F w p v
def SlotOk (S:Nat→SL) (F:Nat→Prop) (w:World) (s:Slot) (l:SL):Prop :=
 match s,l with
 | .unused, .unused=>True
 | .dead, .dead=>True
 | .live (.box cs wr), .box k=>BoxOk S F w cs k∧(wr=true→¬ F k)∧(wr=false→F k)
 | .live (.arr t xs wr), .arr a n cap sz=>n=xs.length∧sz=t.size∧n≤cap∧(cap≠0→∀ ad,a=some ad→ad.spot=none)∧(cap=0∨∃ ad,a=some ad∧ArrOk S F w t xs ad cap∧(wr=true→¬ F ad.block)∧(wr=false→F ad.block))
 | _,_=>False
def GL (F:Nat→Prop) (w:World):Prop:=(∀ k∈gBlocks,F k)∧gHolds w
theorem GL.mono {F F':Nat→Prop} {w w':World} (h:GL F w) (hF:∀ k,F k→F' k) (hw:∀ k,F k→w'.heap[k]?=w.heap[k]?):GL F' w':=⟨fun k hk=>hF k (h.1 k hk),gHolds_same (fun k hk=>hw k (h.1 k hk)) h.2⟩
structure Rel (S:Nat→SL) (F:Nat→Prop) (w:World) (H:Heap):Prop where
 slots:∀ b,SlotOk S F w (hget H b) (S b)
 inj:∀ b b' k,blkOf (S b)=some k→blkOf (S b')=some k→b=b'
 fsz:∀ k,F k→k<w.heap.size
 gl:GL F w
def WR (S:Nat→SL) (H:Heap) (k:Nat):Prop:=∃ b x,hget H b = .live x∧x.wr=true∧blkOf (S b)=some k
class Dm where
 dm:Bool
variable [Dm]
def Str (w w':World):Prop:=w'.os=w.os∧w'.tape=w.tape∧w'.output=w.output∧(Dm.dm=true→w.drawn≤w'.drawn)
theorem Str.trans {w w' w2:World} (h:Str w w') (h':Str w' w2):Str w w2:=⟨h'.1.trans h.1,h'.2.1.trans h.2.1,h'.2.2.1.trans h.2.2.1,fun d=>Nat.le_trans (h.2.2.2 d) (h'.2.2.2 d)⟩
structure Adv (S:Nat→SL) (F:Nat→Prop) (w:World) (H:Heap) (S':Nat→SL) (F':Nat→Prop) (w':World) (H':Heap):Prop where
 ff:∀ k,F k→F' k
 ss:∀ b,S b ≠ .unused→S' b=S b∨S' b = .dead
 sz:w.heap.size≤w'.heap.size
 same:∀ k,k<w.heap.size→¬ WR S H k→w'.heap[k]?=w.heap[k]?
 wr:∀ k,WR S' H' k→WR S H k∨w.heap.size≤k
 fn:∀ k,F' k→F k∨WR S H k∨w.heap.size≤k
 st:Str w w'
section
variable {S S' S2:Nat→SL} {F F' F2:Nat→Prop} {w w' w2:World} {H H' H2:Heap}
theorem Rel.not_wr (h:Rel S F w H) {k:Nat} (hk:F k):¬ WR S H k:=by
 rintro ⟨b,x,hx,hw,hb⟩
 have:=h.slots b
 rw [hx] at this
 cases x with
 | box cs wr =>
  cases hs:S b<;>rw [hs] at this hb<;>simp only [SlotOk,blkOf,Option.some.injEq] at this hb
  ·subst hb;simp only [Blk.wr] at hw;exact this.2.1 hw hk
  all_goals first|cases this|cases hb
 | arr t xs wr =>
  cases hs:S b<;>rw [hs] at this hb<;>simp only [SlotOk] at this
  rename_i a n cap sz
  obtain ⟨_,_,_,_,hor⟩:=this
  cases a with
  | none=>simp [blkOf] at hb
  | some ad =>
   simp only [blkOf] at hb
   split at hb
   ·cases hb
   ·rename_i hc
    simp only [Option.some.injEq] at hb
    subst hb
    rcases hor with h0|⟨ad',e,_,h1,_⟩
    ·exact hc h0
    ·cases e;simp only [Blk.wr] at hw;exact h1 hw hk
theorem Adv.refl (S:Nat→SL) (F:Nat→Prop) (w:World) (H:Heap):Adv S F w H S F w H :=
 ⟨fun _ h=>h,fun _ _ => .inl rfl,Nat.le_refl _,fun _ _ _=>rfl,fun _ h => .inl h,fun _ h => .inl h,rfl,rfl,rfl,(fun _=>Nat.le_refl _)⟩
theorem Adv.trans (h:Adv S F w H S' F' w' H') (h':Adv S' F' w' H' S2 F2 w2 H2) (hu:∀ b,S b ≠ .unused→S' b ≠ .unused):Adv S F w H S2 F2 w2 H2 where
 ff k hk:=h'.ff k (h.ff k hk)
 ss b hb:=by
  rcases h.ss b hb with e|e
  ·rcases h'.ss b (hu b hb) with e'|e'
   ·exact .inl (e'.trans e)
   ·exact .inr e'
  ·rcases h'.ss b (by rw [e];simp) with e'|e'
   ·exact .inr (e'.trans e)
   ·exact .inr e'
 sz:=Nat.le_trans h.sz h'.sz
 same k hk hn:=by
  have e1:=h.same k hk hn
  rw [← e1]
  refine h'.same k (Nat.lt_of_lt_of_le hk h.sz) fun hw=>?_
  rcases h.wr k hw with h1|h1
  ·exact hn h1
  ·omega
 wr k hk:=by
  rcases h'.wr k hk with h1|h1
  ·exact h.wr k h1
  ·exact .inr (Nat.le_trans h.sz h1)
 fn k hk:=by
  rcases h'.fn k hk with h1|h1|h1
  ·exact h.fn k h1
  ·rcases h.wr k h1 with h2|h2
   ·exact .inr (.inl h2)
   ·exact .inr (.inr h2)
  ·exact .inr (.inr (Nat.le_trans h.sz h1))
 st:=h.st.trans h'.st
theorem Adv.trans' (h:Adv S F w H S' F' w' H') (h':Adv S' F' w' H' S2 F2 w2 H2):Adv S F w H S2 F2 w2 H2 :=
 h.trans h' fun b hb=>by rcases h.ss b hb with e|e<;>rw [e]<;>simp_all
theorem Val.adv (hr:Rel S F w H) (h:Adv S F w H S' F' w' H') {p:PV} {v:Value} (hv:Val S F w p v):Val S' F' w' p v :=
 hv.mono h.ff (fun k hk=>h.same k (hr.fsz k hk) (hr.not_wr hk)) h.ss
end
theorem hget_nil (b:Nat):hget [] b = .unused:=by simp [hget]
theorem hget_hset_same:∀ (H:Heap) (b:Nat) (s:Slot),hget (hset H b s) b=s
 | [],0,s=>rfl
 | [],n+1,s=>by have:=hget_hset_same [] n s;simpa [hget,hset] using this
 | _ ::r,0,s=>rfl
 | _ ::r,n+1,s=>by have:=hget_hset_same r n s;simpa [hget,hset] using this
theorem hget_hset_ne:∀ (H:Heap) (b c:Nat) (s:Slot),c≠b→hget (hset H b s) c=hget H c
 | [],0,c,s,h=>by cases c with|zero=>exact absurd rfl h|succ c=>simp [hget,hset]
 | [],n+1,c,s,h=>by
  cases c with
  | zero=>simp [hget,hset]
  | succ c=>have:=hget_hset_ne [] n c s (by omega);simpa [hget,hset] using this
 | x ::r,0,c,s,h=>by cases c with|zero=>exact absurd rfl h|succ c=>simp [hget,hset]
 | x ::r,n+1,c,s,h=>by
  cases c with
  | zero=>simp [hget,hset]
  | succ c=>have:=hget_hset_ne r n c s (by omega);simpa [hget,hset] using this
theorem hset_comm:∀ (H:Heap) (b c:Nat) (s t:Slot),b≠c→hset (hset H b s) c t=hset (hset H c t) b s
 | [],0,0,_,_,h=>absurd rfl h
 | [],0,n+1,_,_,_=>rfl
 | [],n+1,0,_,_,_=>rfl
 | [],n+1,m+1,s,t,h=>by simp only [hset];rw [hset_comm [] n m s t (by omega)]
 | _ ::_,0,0,_,_,h=>absurd rfl h
 | x ::r,0,n+1,_,_,_=>rfl
 | x ::r,n+1,0,_,_,_=>rfl
 | x ::r,n+1,m+1,s,t,h=>by simp only [hset];rw [hset_comm r n m s t (by omega)]
end Go.Proofs.YtdcphpbimeoioaaGreatDoorE
end
section
set_option linter.unusedSectionVars false
namespace Go.Proofs.YtdcphpbimeoioaaGreatDoorE
open Go
set_option linter.unusedVariables false
set_option linter.unusedSimpArgs false
variable [Dm]
section
variable {β:Type} {P:Program} {S:Nat→SL} {F:Nat→Prop} {w:World} {H:Heap} {E:Env} {ρ:Operand→Value}
structure Opd (S:Nat→SL) (F:Nat→Prop) (w:World) (E:Env) (ρ:Operand→Value):Prop where
  tmp:∀ n,Val S F w (get E n) (ρ (.tmp n))
  const:∀ v,ρ (.const v)=v
  func:∀ f,ρ (.func f) = .func (.func f) #[] #[]
theorem cellPV_val (t:TypeId) (v:Value):Val S F w (cellPV P t v) v:=by
  unfold cellPV
  split<;>try constructor
  split
  · exact .nil _
  · exact .junk _
theorem cellsPV_val:∀ (ts:List TypeId) (vs:List Value) (i:Nat) (p:PV) (v:Value),(cellsPV P ts vs)[i]?=some p→vs[i]?=some v→Val S F w p v
  | [],[],_,_,_,h,_=>by simp [cellsPV] at h
  | _ ::_,[],_,_,_,h,_=>by simp [cellsPV] at h
  | t ::ts,v ::vs,0,_,_,h,h'=>by simp [cellsPV] at h h';subst h h';exact cellPV_val t v
  | t ::ts,v ::vs,i+1,_,_,h,h'=>cellsPV_val ts vs i _ _ (by simpa [cellsPV] using h) (by simpa using h')
  | [],v ::vs,0,_,_,h,h'=>by simp [cellsPV] at h;subst h;exact .junk _
  | [],v ::vs,i+1,_,_,h,h'=>cellsPV_val [] vs i _ _ (by simpa [cellsPV] using h) (by simpa using h')
theorem cellsPV_length:∀ (ts:List TypeId) (vs:List Value),(cellsPV P ts vs).length=vs.length
  | [],[]=>rfl
  | _ ::_,[]=>rfl
  | _ ::ts,_ ::vs=>by simp [cellsPV,cellsPV_length ts vs]
  | [],_ ::vs=>by simp [cellsPV,cellsPV_length [] vs]
theorem constPV_val (t:TypeId) (v:Value):Val S F w (constPV P t v) v:=by
  unfold constPV
  split
  · rename_i cs
    cases h:cs.toList.all Value.oneCell
    · exact .junk _
    · refine .agg _ _ (by simp [cellsPV_length]) (fun i p v hp hv=>cellsPV_val _ _ i p v hp (by simpa using hv)) (fun i v hv=>?_)
      exact List.all_eq_true.1 h v (by simpa using Array.mem_of_getElem? hv)
  · exact cellPV_val t v
theorem argOf_val (h:Opd S F w E ρ) (t:TypeId) (x:Operand):Val S F w ((argOf P t x).ev E) (ρ x):=by
  cases x with
  | tmp n=>exact h.tmp n
  | const v=>rw [h.const];exact constPV_val t v
  | global g=>exact .junk _
  | func f=>rw [h.func];exact .fn f [] [] #[] #[] rfl rfl (fun i p v hp=>by simp at hp) (fun i p v hp=>by simp at hp)
def Runs (P:Program) (m:Sem Next) (w:World) (R:Value→World→Prop):Prop :=
  match m.run P w with
  | .ok (.value v) w'=>R v w'
  | .ok .skip w'=>R undef w'
  | .ok (.enter f args) w'=>Calls P f args w' fun e w''=>∃ v,e = .returned v∧R v w''
  | _=>False
theorem wp_of_runs {o:Oper} {a:Act} {R:Value→World→Prop} {next:Act→World→Prop} {Q:Exit→Act→World→Prop} (h:Runs P (execOp a.eval o) w R)
    (hn:∀ v w',R v w'→next (a.put o.dst v) w'):o.wp P a w next Q:=by
  unfold Runs at h
  unfold Oper.wp
  generalize (execOp a.eval o).run P w=r at *
  cases r with
  | halt x w'=>exact h.elim
  | ok n w' =>
    cases n<;>simp only [Oper.upon] at h ⊢<;>first
      | exact hn _ _ h
      | exact h.elim
      | (refine h.mono fun e w'' hx=>?_;obtain ⟨v,rfl,hv⟩:=hx;exact hn _ _ hv)
def Aft (S:Nat→SL) (F:Nat→Prop) (w:World) (H:Heap) (K:PV→Heap→Option β) (r:β) (u:Value) (w':World):Prop :=
  ∃ pv H' S' F',K pv H'=some r∧Rel S' F' w' H'∧Val S' F' w' pv u∧Adv S F w H S' F' w' H'
theorem runs_val {m:Sem Next} {u:Value} {R:Value→World→Prop} (h:m.run P w = .ok (.value u) w) (hR:R u w):Runs P m w R:=by unfold Runs;rw [h];exact hR
theorem runs_val' {m:Sem Next} {u:Value} {w':World} {R:Value→World→Prop} (h:m.run P w = .ok (.value u) w') (hR:R u w'):Runs P m w R:=by unfold Runs;rw [h];exact hR
theorem aft_pure (hr:Rel S F w H) {K:PV→Heap→Option β} {r:β} {pv:PV} {u:Value} (hK:K pv H=some r) (hv:Val S F w pv u):Aft S F w H K r u w :=
  ⟨pv,H,S,F,hK,hr,hv,Adv.refl _ _ _ _⟩
def Tells (P:Program) (m:Sem Value) (w:World) (R:Value→World→Prop):Prop:=∃ u w',m.run P w = .ok u w'∧R u w'
theorem runs_tells {m:Sem Value} {R:Value→World→Prop} (h:Tells P m w R):Runs P (do pure (.value (← m))) w R:=by
  obtain ⟨u,w',h1,h2⟩:=h
  exact runs_val' (by simp [h1]) h2
theorem cond_some {b:Bool} {x:Option β} {r:β} (h:cond b x none=some r):b=true∧x=some r:=by cases b<;>simp at h ⊢;exact h
theorem cond_none {b:Bool} {x:Option β} {r:β} (h:cond b none x=some r):b=false∧x=some r:=by cases b<;>simp at h ⊢;exact h
theorem asInt_some {v:PV} {K:IntKind→Int→Option β} {r:β} (h:asInt v K=some r):∃ k n,v = .int k n∧K k n=some r:=by
  cases v<;>simp [asInt] at h;exact ⟨_,_,rfl,h⟩
theorem asBool_some {v:PV} {K:Bool→Option β} {r:β} (h:asBool v K=some r):∃ b,v = .bool b∧K b=some r:=by
  cases v<;>simp [asBool] at h;exact ⟨_,rfl,h⟩
theorem asGuard_some {v:PV} {w:Bool} {yes:Option β} {no:PV→Option β} {r:β} (h:asGuard v w yes no=some r):(v = .bool w∧yes=some r)∨((v = .bool !w∨v = .tup [])∧no v=some r):=by
  unfold asGuard at h
  split at h
  · rename_i b
    cases b<;>cases w
    · exact .inl ⟨rfl,h⟩
    · exact .inr ⟨.inl rfl,h⟩
    · exact .inr ⟨.inl rfl,h⟩
    · exact .inl ⟨rfl,h⟩
  · exact .inr ⟨.inr rfl,h⟩
  · cases h
theorem asStr_some {v:PV} {K:ByteArray→Option β} {r:β} (h:asStr v K=some r):∃ s,v = .str s∧K s=some r:=by
  cases v<;>simp [asStr] at h;exact ⟨_,rfl,h⟩
theorem asTup_some {v:PV} {K:List PV→Option β} {r:β} (h:asTup v K=some r):∃ s,v = .tup s∧K s=some r:=by
  cases v<;>simp [asTup] at h;exact ⟨_,rfl,h⟩
theorem bindN_some {α:Type} {x:Option α} {K:α→Option β} {r:β} (h:bindN x K=some r):∃ a,x=some a∧K a=some r:=by
  unfold bindN at h;cases x<;>simp at h;exact ⟨_,rfl,h⟩
theorem optK_some {α:Type} {x:Option α} {K:α→Option β} {r:β} (h:optK x K=some r):∃ a,x=some a∧K a=some r:=by
  cases x<;>simp [optK] at h;exact ⟨_,rfl,h⟩
theorem live_some {b:Nat} {K:Blk→Option β} {r:β} (h:live H b K=some r):∃ x,hget H b = .live x∧K x=some r:=by
  unfold live at h;split at h
  · exact ⟨_,by assumption,h⟩
  · cases h
theorem fit_some {n:Nat} {cs:List PV} {K:List PV→Option β} {r:β} (h:fit n cs K=some r):cs.length=n∧K cs=some r:=by
  obtain ⟨h1,h2⟩:=cond_some h
  exact ⟨Nat.eq_of_beq_eq_true h1,h2⟩
theorem nth_some {α:Type}:∀ {l:List α} {i:Nat} {a:α},nth l i=some a→l[i]?=some a
  | [],_,_,h=>by simp [nth] at h
  | x ::r,0,_,h=>by simpa [nth] using h
  | x ::r,i+1,_,h=>by simpa using nth_some (l:=r) (i:=i) (by simpa [nth] using h)
theorem lat_some {α:Type} {l:List α} {i:Nat} {a:α} (h:lat l i=some a):l[i]?=some a:=by unfold lat at h;exact nth_some h
theorem lput_eq {α:Type} (l:List α) (i:Nat) (a:α):lput l i a=lset l i a:=by unfold lput;rfl
theorem fC_eq (v:PV) (K:PV→Option β):fC v K=K v:=by cases v<;>rfl
theorem fL_eq:∀ (l:List PV) (K:List PV→Option β),fL l K=K l
  | [],K=>rfl
  | v ::r,K=>by rw [fL,fC_eq,fL_eq r]
theorem fA_eq (v:PV) (K:PV→Option β):fA v K=K v:=by cases v<;>simp [fA,fC_eq,fL_eq]
theorem fAs_eq:∀ (l:List PV) (K:List PV→Option β),fAs l K=K l
  | [],K=>rfl
  | v ::r,K=>by rw [fAs,fA_eq,fAs_eq r]
theorem fV_eq (v:PV) (K:PV→Option β):fV v K=K v:=by cases v<;>simp [fV,fA_eq,fAs_eq]
theorem fS_eq (s:Slot) (K:Slot→Option β):fS s K=K s:=by
  cases s with
  | live x=>cases x<;>simp [fS,fL_eq]
  | _=>rfl
theorem fH_eq:∀ (H:Heap) (K:Heap→Option β),fH H K=K H
  | [],K=>rfl
  | v ::r,K=>by rw [fH,fS_eq,fH_eq r]
theorem fresh_some {nb:Nat} {x:Option β} {r:β} (h:fresh H nb x=some r):hget H nb = .unused∧x=some r:=by
  unfold fresh at h;split at h
  · exact ⟨by assumption,h⟩
  · cases h
theorem cellsK_some {v:PV} {K:List PV→Option β} {r:β} (h:cellsK v K=some r):(∃ cs,v = .agg cs∧K cs=some r)∨(okC v=true∧(∀ cs,v ≠ .agg cs)∧K [v]=some r):=by
  unfold cellsK at h
  split at h
  · exact .inl ⟨_,rfl,h⟩
  · rename_i hn
    obtain ⟨h1,h2⟩:=cond_some h
    exact .inr ⟨h1,hn,h2⟩
theorem cells_val {v:PV} {u:Value} {K:List PV→Option β} {r:β} (h:cellsK v K=some r) (hv:Val S F w v u) :
    ∃ cs,K cs=some r∧u.cells.size=cs.length∧(∀ (i:Nat) (p:PV) (c:Value),cs[i]?=some p→u.cells[i]?=some c→Val S F w p c)∧(∀ (i:Nat) (c:Value),u.cells[i]?=some c→c.oneCell=true):=by
  rcases cellsK_some h with ⟨cs,rfl,hK⟩|⟨ho,hn,hK⟩
  · cases hv with
    | agg _ vs hl hv ho=>exact ⟨cs,hK,hl,hv,ho⟩
  · have h1:u.oneCell=true:=okC_one hv ho
    have h2:u.cells=#[u]:=by cases u<;>first|rfl|(simp [Value.oneCell] at h1)
    refine ⟨[v],hK,by rw [h2];rfl,fun i p c hp hc=>?_,fun i c hc=>?_⟩
    · rw [h2] at hc
      cases i with
      | zero=>simp at hp hc;subst hp hc;exact hv
      | succ i=>simp at hp
    · rw [h2] at hc
      cases i with
      | zero=>simp at hc;subst hc;exact h1
      | succ i=>simp at hc
end
section
variable {β:Type} {P:Program} {S:Nat→SL} {F:Nat→Prop} {w:World}
def toV:PV→Value
  | .int k n => .int k n
  | .bool b => .bool b
  | .str s => .string s
  | _=>undef
def isS:PV→Bool
  | .int _ _|.bool _|.str _=>true
  | _=>false
theorem toV_val {p:PV} (h:isS p=true):Val S F w p (toV p):=by cases p<;>first|(simp [isS] at h;done)|exact .int _ _|exact .bool _|exact .str _
theorem intOp_ok {op:BinOp} {k:IntKind} {a b:Int} {K:PV→Option β} {r:β} (h:intOp op k a b K=some r) (t:TypeId) :
    ∃ pv,K pv=some r∧isS pv=true∧(Go.binOp op t (.int k a) (.int k b)).run P w = .ok (toV pv) w:=by
  cases op<;>simp only [intOp] at h<;>first
    | (cases h;done)
    | (obtain ⟨h1,h2⟩:=cond_none h
       refine ⟨_,h2,rfl,?_⟩
       simp only [ieq,beq_eq_false_iff_ne] at h1
       simp [Go.binOp,Op.intDiv,iquo,irem,h1,toV];done)
    | (refine ⟨_,h,rfl,?_⟩
       simp [Go.binOp,Op.intArith,Op.intBits,Op.intCmp,iadd,isub,imul,ibits,ieq,ilt,ile,toV,bne];done)
theorem strOp_ok {op:BinOp} {a b:ByteArray} {K:PV→Option β} {r:β} (h:strOp op a b K=some r) (t:TypeId) :
    ∃ pv,K pv=some r∧isS pv=true∧(Go.binOp op t (.string a) (.string b)).run P w = .ok (toV pv) w:=by
  cases op<;>simp only [strOp] at h<;>first
    | (cases h;done)
    | (obtain ⟨h1,h2⟩:=cond_some h
       refine ⟨_,h2,rfl,?_⟩
       have h1:((a.size+b.size:Nat):Int)≤IntKind.i64.max:=by
         simp only [sfits] at h1
         have:=Nat.le_of_ble_eq_true h1
         simp [IntKind.max,IntKind.bits,IntKind.signed]<;>omega
       have:¬ (((a.size+b.size:Nat):Int)>IntKind.i64.max):=by omega
       simp only [Go.binOp,Op.stringOp,if_neg this,scat,toV];rfl)
    | (refine ⟨_,h,rfl,?_⟩
       simp only [Go.binOp,Op.stringOp,seq,slt,toV];rfl)
def eqB:List PV→List PV→Option Bool
  | [],[]=>some true
  | .int k a ::x, .int k' b ::y=>if k=k' then (eqB x y).map fun r=>ieq a b && r else none
  | .bool a ::x, .bool b ::y=>(eqB x y).map fun r=>(a ==b) && r
  | .str a ::x, .str b ::y=>(eqB x y).map fun r=>seq a b && r
  | _,_=>none
theorem eqCells_eqB:∀ (cs ds:List PV) (K:Bool→Option β),eqCells cs ds K=(eqB cs ds).bind K
  | [],[],K=>rfl
  | [],_ ::_,K=>rfl
  | p ::x,[],K=>by cases p<;>rfl
  | p ::x,q ::y,K=>by
    have ih:=fun K=>eqCells_eqB x y K
    cases p<;>cases q<;>first
      | rfl
      | (rename_i k a k' b
         simp only [eqCells,eqB,ih]
         by_cases h:k=k'
         · simp only [decide_eq_true h,cond_true,if_pos h];cases eqB x y<;>rfl
         · simp only [decide_eq_false h,cond_false,if_neg h];rfl)
      | (simp only [eqCells,eqB,ih];cases eqB x y<;>rfl)
theorem eqB_cons {p q:PV} {x y:List PV} {e:Bool} (h:eqB (p ::x) (q ::y)=some e):∃ e1 e2,eqB [p] [q]=some e1∧eqB x y=some e2∧e=(e1 && e2):=by
  cases p<;>cases q<;>simp only [eqB] at h<;>first
    | (cases h;done)
    | (split at h
       · rename_i hk;cases hxy:eqB x y<;>simp [hxy] at h;exact ⟨_,_,by simp [eqB,hk];rfl,rfl,by simp [← h]⟩
       · cases h)
    | (cases hxy:eqB x y<;>simp [hxy] at h;exact ⟨_,_,by simp [eqB];rfl,rfl,by simp [← h]⟩)
theorem eqB_append:∀ (a b c d:List PV) (e:Bool),a.length=b.length→eqB (a++c) (b++d)=some e→∃ e1 e2,eqB a b=some e1∧eqB c d=some e2∧e=(e1 && e2)
  | [],[],c,d,e,_,h=>⟨true,e,rfl,h,rfl⟩
  | [],_ ::_,_,_,_,hl,_=>by simp at hl
  | _ ::_,[],_,_,_,hl,_=>by simp at hl
  | p ::a,q ::b,c,d,e,hl,h=>by
    obtain ⟨e1,e2,h1,h2,rfl⟩:=eqB_cons h
    obtain ⟨e3,e4,h3,h4,rfl⟩:=eqB_append a b c d e2 (by simpa using hl) h2
    refine ⟨e1 && e3,e4,?_,h4,by simp [Bool.and_assoc]⟩
    cases p<;>cases q<;>simp only [eqB] at h1 ⊢<;>first
      | (cases h1;done)
      | (split at h1
         · rename_i hk;simp at h1;subst h1;simp [h3,hk]
         · cases h1)
      | (simp at h1;subst h1;simp [h3])
def Cells (S:Nat→SL) (F:Nat→Prop) (w:World) (cs:List PV) (vs:List Value):Prop:=vs.length=cs.length∧∀ (i:Nat) (p:PV) (v:Value),cs[i]?=some p→vs[i]?=some v→Val S F w p v
theorem Cells.take {cs:List PV} {vs:List Value} (h:Cells S F w cs vs) (n:Nat):Cells S F w (cs.take n) (vs.take n) :=
  ⟨by simp [h.1],fun i p v hp hv=>by
    rw [List.getElem?_take] at hp hv
    split at hp<;>simp_all
    exact h.2 i p v hp hv⟩
theorem Cells.drop {cs:List PV} {vs:List Value} (h:Cells S F w cs vs) (n:Nat):Cells S F w (cs.drop n) (vs.drop n) :=
  ⟨by simp [h.1],fun i p v hp hv=>by rw [List.getElem?_drop] at hp hv;exact h.2 _ p v hp hv⟩
def isAggD:TypeDesc→Bool
  | .struct _|.array _ _=>true
  | _=>false
theorem run_part_agg (t:TypeId) (d:TypeDesc) (hu:P.underlying t=some d) (hd:isAggD d=true) (n:Nat) (hz:szOf P t=some n) (cs:Array Value) (off:Nat) :
    (Go.part t cs off).run P w = .ok (.agg (cs.extract off (off+n))) w:=by
  unfold szOf at hz
  cases hi:P.info? t with
  | none=>simp [hi] at hz
  | some i =>
    simp [hi] at hz
    cases d<;>simp [isAggD] at hd<;>simp [Go.part,isAgg,underlying,hu,sizeOf,typeInfo,hi,hz]
theorem run_part_one (t:TypeId) (d:TypeDesc) (hu:P.underlying t=some d) (hd:isAggD d=false) (cs:Array Value) (off:Nat) (v:Value) (hv:cs[off]?=some v) :
    (Go.part t cs off).run P w = .ok v w:=by
  cases d<;>simp [isAggD] at hd<;>simp [Go.part,isAgg,underlying,hu,hv]
theorem one_cell {cs:List PV} {vs:List Value} (h:Cells S F w cs vs) (hl:cs.length=1):∃ p v,cs=[p]∧vs=[v]∧Val S F w p v:=by
  obtain ⟨h1,h2⟩:=h
  match cs,vs,hl,h1 with
  | [p],[v],_,_=>exact ⟨p,v,rfl,rfl,h2 0 p v rfl rfl⟩
theorem kinds_append:∀ (a b:List Nat) (cs:List PV),kinds (a++b) cs=true→kinds a (cs.take a.length)=true∧kinds b (cs.drop a.length)=true
  | [],b,cs,h=>⟨by simp [kinds],by simpa using h⟩
  | k ::a,b,[],h=>by simp [kinds] at h
  | k ::a,b,p ::cs,h=>by
    simp only [List.cons_append,kinds,Bool.and_eq_true] at h
    have:=kinds_append a b cs h.2
    exact ⟨by simp [kinds,h.1,this.1],by simpa using this.2⟩
theorem leafs_row (n:Nat) (ih:∀ t k,eqOk P n t=true→szOf P t=some k→(leafs P n t).length=k):∀ (fs:List Field) (o m:Nat),inRow P fs o=some m→fs.all (fun f=>eqOk P n f.type)=true→o+(fs.flatMap fun f=>leafs P n f.type).length=m
  | [],o,m,h,_=>by simp [inRow] at h;simp [h]
  | f ::fs,o,m,h,ha=>by
    simp only [inRow] at h
    cases hc:(Nat.beq f.offset o && f.name != "_")<;>rw [hc] at h<;>simp at h
    cases hz:szOf P f.type<;>rw [hz] at h<;>simp at h
    simp only [List.all_cons,Bool.and_eq_true] at ha
    have h1:=leafs_row n ih fs _ _ h ha.2
    have h2:=ih f.type _ ha.1 hz
    simp only [List.flatMap_cons,List.length_append]
    omega
theorem leafs_len:∀ (n:Nat) (t:TypeId) (k:Nat),eqOk P n t=true→szOf P t=some k→(leafs P n t).length=k
  | 0,t,k,h,_=>by simp [eqOk] at h
  | n+1,t,k,h,hz=>by
    unfold eqOk at h
    unfold leafs
    cases hu:P.underlying t with
    | none=>rw [hu] at h;cases h
    | some dd =>
      rw [hu] at h
      cases dd<;>simp only [hz,Bool.false_eq_true] at h ⊢<;>first
        | (simp at h;simp [h];done)
        | (simp only [Bool.and_eq_true] at h
           have:=leafs_row n (fun t k=>leafs_len n t k) _ 0 k (by simpa using h.1.2) h.2
           simpa using this)
theorem eq_fields (n:Nat) (d:Nat) (ih:∀ (t:TypeId),eqOk P n t=true→∀ (x y:Value) (cs ds:List PV) (k:Nat),szOf P t=some k→cs.length=k→ds.length=k→Cells S F w cs x.cells.toList→Cells S F w ds y.cells.toList →
      (aggOf P t=some none→x.cells=#[x]∧y.cells=#[y])→(∀ k,aggOf P t=some (some k)→x = .agg x.cells∧y = .agg y.cells)→kinds (leafs P n t) cs=true→∀ e,eqB cs ds=some e→(Op.equalIn d t x y).run P w = .ok e w) (xs ys:Array Value) (cs ds:List PV) (hx:Cells S F w cs xs.toList) (hy:Cells S F w ds ys.toList) :
    ∀ (fs:List Field) (o m:Nat),inRow P fs o=some m→m=cs.length→ds.length=cs.length→fs.all (fun f=>eqOk P n f.type)=true→kinds (fs.flatMap fun f=>leafs P n f.type) (cs.drop o)=true→∀ e,eqB (cs.drop o) (ds.drop o)=some e→(Op.eqFields d xs ys fs).run P w = .ok e w
  | [],o,m,ho,hm,hl,_,_,e,he=>by
    simp only [inRow,Option.some.injEq] at ho
    subst ho
    rw [List.drop_of_length_le (by omega),List.drop_of_length_le (by omega)] at he
    simp only [eqB,Option.some.injEq] at he
    subst he
    simp [Op.eqFields]
  | f ::fs,o,m,ho,hm,hl,ha,hk,e,he=>by
    simp only [inRow] at ho
    cases hc:(Nat.beq f.offset o && f.name != "_") with
    | false=>rw [hc] at ho;cases ho
    | true =>
      rw [hc] at ho
      simp only [cond_true] at ho
      simp only [Bool.and_eq_true] at hc
      obtain ⟨hoff,hname⟩:=hc
      have hoff:f.offset=o:=Nat.eq_of_beq_eq_true hoff
      have hname:f.name ≠ "_":=by simpa using hname
      cases hz:szOf P f.type with
      | none=>rw [hz] at ho;cases ho
      | some k =>
        rw [hz] at ho
        simp only at ho
        simp only [List.all_cons,Bool.and_eq_true] at ha
        have hle:∀ (fs:List Field) (a b:Nat),inRow P fs a=some b→a≤b:=by
          intro fs
          induction fs with
          | nil=>intro a b h;simp [inRow] at h;omega
          | cons g gs ihg =>
            intro a b h
            simp only [inRow] at h
            cases hc:(Nat.beq g.offset a && g.name != "_")<;>rw [hc] at h<;>simp at h
            cases hg:szOf P g.type<;>rw [hg] at h<;>simp at h
            have:=ihg _ _ h;omega
        have hok:o+k≤m:=hle _ _ _ ho
        have e1:cs.drop o=(cs.drop o).take k++cs.drop (o+k):=by rw [← List.drop_drop,List.take_append_drop]
        have e2:ds.drop o=(ds.drop o).take k++ds.drop (o+k):=by rw [← List.drop_drop,List.take_append_drop]
        rw [e1,e2] at he
        obtain ⟨r1,r2,h1,h2,rfl⟩:=eqB_append _ _ _ _ _ (by simp;omega) he
        have hcx:=(hx.drop o).take k
        have hcy:=(hy.drop o).take k
        have hll:=leafs_len n f.type k ha.1 hz
        simp only [List.flatMap_cons] at hk
        obtain ⟨hk1,hk2⟩:=kinds_append _ _ _ hk
        rw [hll] at hk1 hk2
        rw [List.drop_drop] at hk2
        have ihf:=eq_fields n d ih xs ys cs ds hx hy fs (o+k) m ho hm hl ha.2 hk2 r2 h2
        have sx:xs.size=cs.length:=by simpa using hx.1
        have sy:ys.size=ds.length:=by simpa using hy.1
        simp only [Op.eqFields,if_pos hname,hoff]
        have hagg:=ha.1
        cases n with
        | zero=>simp [eqOk] at hagg
        | succ n' =>
          have hu:∃ dd,P.underlying f.type=some dd:=by
            unfold eqOk at hagg
            cases hu:P.underlying f.type with
            | none=>rw [hu] at hagg;cases hagg
            | some dd=>exact ⟨dd,rfl⟩
          obtain ⟨dd,hu⟩:=hu
          by_cases hd:isAggD dd=true
          · have hex:(xs.extract o (o+k)).toList=(xs.toList.drop o).take k:=by simp [Array.toList_extract,List.extract]
            have hey:(ys.extract o (o+k)).toList=(ys.toList.drop o).take k:=by simp [Array.toList_extract,List.extract]
            have:=ih f.type ha.1 (.agg (xs.extract o (o+k))) (.agg (ys.extract o (o+k))) _ _ k hz (by simp;omega) (by simp;omega) (by simpa [Value.cells,hex] using hcx) (by simpa [Value.cells,hey] using hcy)
              (fun h=>by unfold aggOf at h;rw [hu,hz] at h;cases dd<;>simp [isAggD] at h hd) (fun _ _=>⟨rfl,rfl⟩) hk1 r1 h1
            simp only [Sem.run_bind,run_part_agg _ dd hu hd k hz,Result.andThen_ok,this]
            cases r1 with
            | true=>simpa using ihf
            | false=>simp
          · have hd':isAggD dd=false:=by simpa using hd
            have hkk:k=1:=by
              unfold eqOk at hagg
              rw [hu,hz] at hagg
              cases dd<;>simp [isAggD] at hagg hd'<;>exact hagg
            subst hkk
            obtain ⟨p,v,q1,q2,q3⟩:=one_cell hcx (by simp;omega)
            obtain ⟨p',v',q1',q2',q3'⟩:=one_cell hcy (by simp;omega)
            have hv:xs[o]?=some v:=by
              have:(xs.toList.drop o).take 1=[v]:=q2
              have h0:((xs.toList.drop o).take 1)[0]?=some v:=by rw [this];rfl
              simpa [List.getElem?_take,List.getElem?_drop] using h0
            have hv':ys[o]?=some v':=by
              have h0:((ys.toList.drop o).take 1)[0]?=some v':=by rw [q2'];rfl
              simpa [List.getElem?_take,List.getElem?_drop] using h0
            rw [q1,q1'] at h1
            rw [q1] at hk1
            have hcv:v.cells=#[v]∧v'.cells=#[v']:=by
              cases q3<;>cases q3'<;>simp [eqB] at h1<;>exact ⟨rfl,rfl⟩
            have:=ih f.type ha.1 v v' [p] [p'] 1 hz rfl rfl ⟨by simp [hcv.1],fun i a b ha hb=>by rw [hcv.1] at hb;cases i<;>simp at ha hb;subst ha hb;exact q3⟩
              ⟨by simp [hcv.2],fun i a b ha hb=>by rw [hcv.2] at hb;cases i<;>simp at ha hb;subst ha hb;exact q3'⟩ (fun _=>hcv) (fun k h=>by unfold aggOf at h;rw [hu,hz] at h;cases dd<;>simp [isAggD] at h hd') hk1 r1 h1
            simp only [Sem.run_bind,run_part_one _ dd hu hd' _ _ _ hv,run_part_one _ dd hu hd' _ _ _ hv',Result.andThen_ok,this]
            cases r1 with
            | true=>simpa using ihf
            | false=>simp
theorem eq_in:∀ (n d:Nat),n≤d→∀ (t:TypeId),eqOk P n t=true→∀ (x y:Value) (cs ds:List PV) (k:Nat),szOf P t=some k→cs.length=k→ds.length=k→Cells S F w cs x.cells.toList→Cells S F w ds y.cells.toList →
      (aggOf P t=some none→x.cells=#[x]∧y.cells=#[y])→(∀ k,aggOf P t=some (some k)→x = .agg x.cells∧y = .agg y.cells)→kinds (leafs P n t) cs=true→∀ e,eqB cs ds=some e→(Op.equalIn d t x y).run P w = .ok e w
  | 0,_,_,t,h,_,_,_,_,_,_,_,_,_,_,_,_,_,_,_=>by simp [eqOk] at h
  | n+1,0,hd,_,_,_,_,_,_,_,_,_,_,_,_,_,_,_,_,_=>by omega
  | n+1,d+1,hd,t,h,x,y,cs,ds,k,hz,hc,hd',hx,hy,h1,h2,hk,e,he=>by
    have h0:=h
    unfold eqOk at h
    cases hu:P.underlying t with
    | none=>rw [hu] at h;cases h
    | some dd =>
      rw [hu] at h
      by_cases hs:∃ fs,dd = .struct fs
      · obtain ⟨fs,rfl⟩:=hs
        simp only [Bool.and_eq_true,Bool.not_eq_true'] at h
        obtain ⟨⟨g1,g2⟩,g3⟩:=h
        have hag:aggOf P t=some (some k):=by simp [aggOf,hu,hz]
        obtain ⟨ex,ey⟩:=h2 k hag
        rw [ex,ey]
        have hf:P.fieldsOf t=fs:=by simp [Program.fieldsOf,hu]
        rw [run_equalIn_struct w d t _ _ (by rw [hf];exact hu) g1,hf]
        rw [hz] at g2
        exact eq_fields n d (eq_in n d (by omega)) x.cells y.cells cs ds hx hy fs.toList 0 k (by simpa using g2) hc.symm (by omega) g3 (by unfold leafs at hk;rw [hu] at hk;simpa using hk) e (by simpa using he)
      · have hag:aggOf P t=some none:=by
          unfold aggOf;rw [hu,hz]
          cases dd<;>simp at hs h ⊢
        obtain ⟨ex,ey⟩:=h1 hag
        have hkk:k=1:=by rw [hz] at h;cases dd<;>simp at hs h<;>exact h
        subst hkk
        obtain ⟨p,v,q1,q2,q3⟩:=one_cell hx hc
        obtain ⟨p',v',q1',q2',q3'⟩:=one_cell hy hd'
        subst q1 q1'
        rw [ex] at q2;rw [ey] at q2'
        simp at q2 q2'
        subst q2 q2'
        unfold leafs at hk
        rw [hu] at hk
        cases q3<;>cases q3'<;>simp only [eqB] at he<;>first
          | (cases he;done)
          | (split at he<;>simp at he
             subst he
             cases dd<;>simp [kinds,kindOf] at hs h hk
             rename_i hkk k0
             subst hkk
             rw [run_equalIn_int w d t _ k0 _ _ hu];simp [ieq])
          | (simp at he;subst he
             cases dd<;>simp [kinds,kindOf] at hs h hk
             all_goals first|rw [run_equalIn_bool' w d t _ _ hu]|(rw [run_equalIn_string w d t _ _ hu];simp [seq]))
end
end Go.Proofs.YtdcphpbimeoioaaGreatDoorE
end
section
set_option linter.unusedSectionVars false
namespace Go.Proofs.YtdcphpbimeoioaaGreatDoorE
open Go
set_option linter.unusedVariables false
set_option linter.unusedSimpArgs false
variable [Dm]
section
variable {β:Type} {P:Program} {S:Nat→SL} {F:Nat→Prop} {w:World} {H:Heap} {E:Env} {ρ:Operand→Value} {O:Orc} {nb:Nat} {K:PV→Heap→Option β} {r:β}
theorem val_int {k:IntKind} {n:Int} {v:Value} (h:Val S F w (.int k n) v):v = .int k n:=by cases h;rfl
theorem val_bool {b:Bool} {v:Value} (h:Val S F w (.bool b) v):v = .bool b:=by cases h;rfl
theorem val_str {s:ByteArray} {v:Value} (h:Val S F w (.str s) v):v = .string s:=by cases h;rfl
theorem aft_mk (hr:Rel S F w H) {pv:PV} {u:Value} (hK:K pv H=some r) (hv:Val S F w pv u):Aft S F w H K r u w:=aft_pure hr hK hv
def Out (P:Program) (S:Nat→SL) (F:Nat→Prop) (w:World) (m:Sem Value) (K:PV→Option β) (r:β):Prop:=∃ pv u,K pv=some r∧Val S F w pv u∧m.run P w = .ok u w
theorem out_runs (hr:Rel S F w H) {m:Sem Value} (h:Out P S F w m (fun v=>K v H) r):Runs P (do pure (.value (← m))) w (Aft S F w H K r):=by
 obtain ⟨pv,u,h1,h2,h3⟩:=h
 exact runs_tells ⟨u,w,h3,aft_mk hr h1 h2⟩
theorem ok_bin {op:BinOp} {x y:PV} {u v:Value} {K:PV→Option β} (h:binOp op x y K=some r) (hx:Val S F w x u) (hy:Val S F w y v) (t:TypeId) (a b:Operand):Out P S F w (do eqGuard op t a b u v;Go.binOp op t u v) K r:=by
 unfold binOp at h
 split at h
 ·rename_i k a' k' b'
  cases val_int hx;cases val_int hy
  have hg:(eqGuard op t a b (.int k a') (.int k' b')).run P w = .ok () w:=by cases op<;>simp [eqGuard]
  have main:∃ pv,K pv=some r∧isS pv=true∧(Go.binOp op t (.int k a') (.int k' b')).run P w = .ok (toV pv) w:=by
   split at h
   ·obtain ⟨h1,h2⟩:=cond_none h
    simp only [ilt,decide_eq_false_iff_not] at h1
    exact ⟨_,h2,rfl,by simp [Go.binOp,Op.shift,if_neg h1,ishl,toV]⟩
   ·obtain ⟨h1,h2⟩:=cond_none h
    simp only [ilt,decide_eq_false_iff_not] at h1
    exact ⟨_,h2,rfl,by simp [Go.binOp,Op.shift,if_neg h1,ishr,toV]⟩
   ·obtain ⟨h1,h2⟩:=cond_some h
    have hk:k=k':=of_decide_eq_true h1
    subst hk
    exact intOp_ok h2 t
  obtain ⟨pv,h1,h2,h3⟩:=main
  exact ⟨pv,_,h1,toV_val h2,by simp [hg,h3]⟩
 ·rename_i a' b'
  cases val_str hx;cases val_str hy
  have hg:(eqGuard op t a b (.string a') (.string b')).run P w = .ok () w:=by cases op<;>simp [eqGuard]
  obtain ⟨pv,h1,h2,h3⟩:=strOp_ok (P:=P) (w:=w) h t
  exact ⟨pv,_,h1,toV_val h2,by simp [hg,h3]⟩
 ·cases h
theorem ok_beq {a b neg:Bool} {t:TypeId} (hu:P.underlying t=some .bool) (x y:Operand):(do eqGuard (if neg then .neq else .eql) t x y (.bool a) (.bool b);Go.binOp (if neg then .neq else .eql) t (.bool a) (.bool b):Sem Value).run P w = .ok (.bool (cond neg (!(a ==b)) (a ==b))) w:=by
 have he:(Op.equal t (.bool a) (.bool b)).run P w = .ok (a ==b) w:=by
  show (Op.equalIn (9999+1) t (.bool a) (.bool b)).run P w=_
  exact run_equalIn_bool' w 9999 t a b hu
 cases neg<;>simp [eqGuard,Go.binOp,he]
theorem ok_aeq {cs ds:List PV} {vs us:Array Value} {neg:Bool} {t:TypeId} {K:PV→Option β} (h:eqCells cs ds (fun e=>K (.bool (cond neg (!e) e)))=some r) (hk:kinds (leafs P 20 t) cs=true) (he:eqOk P 20 t=true) (hg:P.eqGuardType P.depth t=false)
  (fs:Array Field) (hu:P.underlying t=some (.struct fs)) (hx:Val S F w (.agg cs) (.agg vs)) (hy:Val S F w (.agg ds) (.agg us)) (x y:Operand) :
  Out P S F w (do eqGuard (if neg then .neq else .eql) t x y (.agg vs) (.agg us);Go.binOp (if neg then .neq else .eql) t (.agg vs) (.agg us)) K r:=by
 rw [eqCells_eqB] at h
 cases hb:eqB cs ds with
 | none=>rw [hb] at h;cases h
 | some e =>
  rw [hb] at h
  have hz:∃ k,szOf P t=some k:=by
   unfold eqOk at he;rw [hu] at he
   simp only [Bool.and_eq_true] at he
   have:=he.1.2
   cases hz:szOf P t with
   | none =>
    rw [hz] at this
    cases hh:inRow P fs.toList 0 with
    | none=>unfold szOf at hz;unfold Program.underlying at hu;cases hi:P.info? t<;>simp [hi] at hz hu
    | some m=>rw [hh] at this;cases this
   | some k=>exact ⟨k,rfl⟩
  obtain ⟨k,hz⟩:=hz
  have hkl:∀ (ks:List Nat) (l:List PV),kinds ks l=true→ks.length=l.length:=by
   intro ks
   induction ks with
   | nil=>intro l hl;cases l<;>simp [kinds] at hl ⊢
   | cons k ks ih=>intro l hl;cases l<;>simp [kinds] at hl ⊢;exact ih _ hl.2
  have hcs:cs.length=k:=(hkl _ _ hk).symm.trans (leafs_len 20 t k he hz)
  have hlen:∀ (a b:List PV) (e:Bool),eqB a b=some e→a.length=b.length:=by
   intro a
   induction a with
   | nil=>intro b e hb;cases b<;>simp [eqB] at hb ⊢
   | cons p a ih=>intro b e hb;cases b with
    | nil=>cases p<;>simp [eqB] at hb
    | cons q b=>obtain ⟨_,_,_,h2,_⟩:=eqB_cons hb;simpa using ih _ _ h2
  have hds:ds.length=k:=(hlen _ _ _ hb).symm.trans hcs
  cases hx with
  | agg _ _ hl hv ho =>
   cases hy with
   | agg _ _ hl' hv' ho' =>
    have hin:(Op.equalIn 10000 t (.agg vs) (.agg us)).run P w = .ok e w :=
     eq_in 20 10000 (by omega) t he (.agg vs) (.agg us) cs ds k hz hcs hds ⟨by simpa [Value.cells] using hl,fun i p v a b=>hv i p v a (by simpa [Value.cells] using b)⟩
      ⟨by simpa [Value.cells] using hl',fun i p v a b=>hv' i p v a (by simpa [Value.cells] using b)⟩ (fun ha=>by simp [aggOf,hu,hz] at ha) (fun _ _=>⟨rfl,rfl⟩) hk e hb
    refine ⟨_, .bool (cond neg (!e) e),h, .bool _,?_⟩
    cases neg
    ·simp only [Sem.run_bind,run_eqGuard_agg w .eql t x y vs us hg,Result.andThen_ok,Bool.false_eq_true,if_false,run_eql_struct,hin,cond_false]
    ·simp only [Sem.run_bind,run_eqGuard_agg w .neq t x y vs us hg,Result.andThen_ok,if_true,run_neq_struct,hin,cond_true]
theorem ok_un {op:UnOp} {x:PV} {u:Value} {K:PV→Option β} (h:unOp op x K=some r) (hx:Val S F w x u):Out P S F w (Op.unary op u) K r:=by
 unfold unOp at h
 split at h
 ·cases val_bool hx;exact ⟨_,_,h, .bool _,by simp [Op.unary]⟩
 ·cases val_int hx;exact ⟨_,_,h, .int _ _,by simp [Op.unary,Op.intArith,isub]⟩
 ·cases h
def CellsAt (S:Nat→SL) (F:Nat→Prop) (w:World) (row:List PV) (blk o:Nat):Prop :=
 ∀ (j:Nat) (p:PV),row[j]?=some p→∃ v,w.cell? ⟨blk,o+j,none⟩=some v∧Val S F w p v∧v.oneCell=true
theorem add_addr (b o n:Nat):(⟨b,o,none⟩:Addr).add n=⟨b,o+n,none⟩:=by unfold Addr.add;split<;>simp_all
theorem ok_part {k:Option Nat} {j:Nat} {row:List PV} {K:PV→Option β} (h:part k j row K=some r) {blk o:Nat} (hc:CellsAt S F w row blk o) {t:TypeId} (hk:aggOf P t=some k) :
  Out P S F w (loadVar t ⟨blk,o+j,none⟩) K r:=by
 unfold aggOf at hk
 cases hu:P.underlying t with
 | none=>rw [hu] at hk;cases hk
 | some d =>
  cases k with
  | none =>
   simp only [part] at h
   cases hn:nth row j with
   | none=>rw [hn] at h;cases h
   | some p =>
    rw [hn] at h
    obtain ⟨v,h1,h2,h3⟩:=hc j p (nth_some hn)
    have hz:(szOf P t).isSome=true:=by
     unfold szOf;unfold Program.underlying at hu
     cases hi:P.info? t<;>simp [hi] at hu ⊢
    refine ⟨p,v,h,h2,?_⟩
    have hd:isAggD d=false:=by
     rw [hu] at hk
     cases hs:szOf P t with
     | none=>rw [hs] at hz;cases hz
     | some n=>rw [hs] at hk;cases d<;>simp [isAggD] at hk ⊢
    cases d<;>simp [isAggD] at hd<;>simp [loadVar,isAgg,underlying,hu,h1]
  | some n =>
   simp only [part] at h
   obtain ⟨hl,h⟩:=fit_some h
   have hd:isAggD d=true∧szOf P t=some n:=by
    rw [hu] at hk
    cases hs:szOf P t with
    | none=>rw [hs] at hk;cases d<;>simp at hk
    | some m=>rw [hs] at hk;cases d<;>simp [isAggD] at hk ⊢<;>exact hk
   obtain ⟨hd,hz⟩:=hd
   have hcell:∀ i,i<n→∃ v,w.cell? ⟨blk,o+j+i,none⟩=some v∧v.oneCell=true∧∀ p,((row.drop j).take n)[i]?=some p→Val S F w p v:=by
    intro i hi
    have:i<((row.drop j).take n).length:=by omega
    have hp:=List.getElem?_eq_getElem this
    rw [List.getElem?_take,if_pos hi,List.getElem?_drop] at hp
    obtain ⟨v,h1,h2,h3⟩:=hc _ _ hp
    refine ⟨v,by rw [Nat.add_assoc];exact h1,h3,fun p hp'=>?_⟩
    rw [List.getElem?_eq_getElem this] at hp'
    cases hp';exact h2
   refine ⟨_, .agg ((List.range n).map fun i=>(w.cell? ⟨blk,o+j+i,none⟩).getD undef).toArray,h, .agg _ _ (by simp [hl]) ?_ ?_,?_⟩
   ·intro i p v hp hv
    have hi:i<n:=by have:=(List.getElem?_eq_some_iff.1 hp).1;omega
    obtain ⟨v',h1,h2,h3⟩:=hcell i hi
    simp [hi,h1] at hv
    subst hv;exact h3 p hp
   ·intro i v hv
    by_cases hi:i<n
    ·obtain ⟨v',h1,h2,h3⟩:=hcell i hi
     simp [hi,h1] at hv
     subst hv;exact h2
    ·simp [hi] at hv
   ·have hrun:(loadCells ⟨blk,o+j,none⟩ n).run P w = .ok ((List.range n).map fun i=>(w.cell? ⟨blk,o+j+i,none⟩).getD undef).toArray w :=
     run_loadCells w _ n _ (fun i hi=>by obtain ⟨v',h1,_⟩:=hcell i hi;rw [add_addr,h1];rfl)
    unfold szOf at hz
    cases hi:P.info? t with
    | none=>simp [hi] at hz
    | some info =>
     simp [hi] at hz
     cases d<;>simp [isAggD] at hd<;>simp [loadVar,isAgg,underlying,hu,sizeOf,typeInfo,hi,hz,hrun]
end
end Go.Proofs.YtdcphpbimeoioaaGreatDoorE
end
section
set_option linter.unusedSectionVars false
namespace Go.Proofs.YtdcphpbimeoioaaGreatDoorE
open Go
set_option linter.unusedVariables false
set_option linter.unusedSimpArgs false
variable [Dm]
section
variable {β:Type} {P:Program} {S:Nat→SL} {F:Nat→Prop} {w:World} {H:Heap} {E:Env} {ρ:Operand→Value} {O:Orc} {nb:Nat} {r:β}
theorem hget_box {b:Nat} {cs:List PV} {wr:Bool} (hr:Rel S F w H) (h:hget H b = .live (.box cs wr)):∃ k,S b = .box k∧BoxOk S F w cs k∧(wr=true→¬ F k)∧(wr=false→F k):=by
 have:=hr.slots b
 rw [h] at this
 cases hs:S b<;>rw [hs] at this<;>simp only [SlotOk] at this
 exact ⟨_,rfl,this⟩
theorem hget_arr {b:Nat} {t:Ty} {xs:List (El t)} {wr:Bool} (hr:Rel S F w H) (h:hget H b = .live (.arr t xs wr)) :
  ∃ a cap,S b = .arr a xs.length cap t.size∧xs.length≤cap∧(cap=0∨∃ ad,a=some ad∧ArrOk S F w t xs ad cap∧(wr=true→¬ F ad.block)∧(wr=false→F ad.block))∧(cap≠0→∀ ad,a=some ad→ad.spot=none):=by
 have:=hr.slots b
 rw [h] at this
 cases hs:S b<;>rw [hs] at this<;>simp only [SlotOk] at this
 obtain ⟨rfl,rfl,h1,h3,h2⟩:=this
 exact ⟨_,_,rfl,h1,h2,h3⟩
theorem live_not_dead {b:Nat} {x:Blk} (hr:Rel S F w H) (h:hget H b = .live x):S b ≠ .dead∧S b ≠ .unused:=by
 have:=hr.slots b
 rw [h] at this
 constructor<;>intro hs<;>rw [hs] at this<;>cases x<;>simp only [SlotOk] at this
theorem BoxOk.cellsAt {cs:List PV} {k:Nat} (h:BoxOk S F w cs k):CellsAt S F w cs k 0:=by
 obtain ⟨c,t,h1,h2,h3,h4⟩:=h
 intro j p hp
 have hj:j<c.size:=by rw [h2];exact (List.getElem?_eq_some_iff.1 hp).1
 exact ⟨c[j],by simp [World.cell?,h1,hj],h3 j p _ hp (Array.getElem?_eq_getElem hj),h4 j _ (Array.getElem?_eq_getElem hj)⟩
theorem cellsOf_size:∀ (t:Ty) (x:El t),(cellsOf t x).length=t.size
 | .int k,n=>rfl
 | .bool,b=>rfl
 | .str,s=>rfl
 | .slice t,xs=>rfl
 | .unit,_=>rfl
 | .none,x=>nomatch x
 | .pair a b,x=>by simp [cellsOf,Ty.size,cellsOf_size a,cellsOf_size b]
theorem cellsOf_okC:∀ (t:Ty) (x:El t) (j:Nat) (p:PV),(cellsOf t x)[j]?=some p→okC p=true
 | .int k,n,j,p,h=>by cases j<;>simp [cellsOf] at h;subst h;rfl
 | .bool,b,j,p,h=>by cases j<;>simp [cellsOf] at h;subst h;rfl
 | .str,s,j,p,h=>by cases j<;>simp [cellsOf] at h;subst h;rfl
 | .slice t,xs,j,p,h=>by cases j<;>simp [cellsOf] at h;subst h;rfl
 | .unit,_,j,p,h=>by simp [cellsOf] at h
 | .none,x,_,_,_=>nomatch x
 | .pair a b,x,j,p,h=>by
  simp only [cellsOf] at h
  by_cases hj:j<(cellsOf a x.1).length
  ·rw [List.getElem?_append_left hj] at h;exact cellsOf_okC a _ j p h
  ·rw [List.getElem?_append_right (by omega)] at h;exact cellsOf_okC b _ _ p h
theorem ArrOk.cellsAt {t:Ty} {xs:List (El t)} {ad:Addr} {cap:Nat} (h:ArrOk S F w t xs ad cap) {i:Nat} {x:El t} (hi:xs[i]?=some x):CellsAt S F w (cellsOf t x) ad.block (ad.off+i * t.size):=by
 obtain ⟨hs,c,tt,fr,h1,h2,h3,h4,h5⟩:=h
 intro j p hp
 obtain ⟨v,hv,hval⟩:=h5 i x j p hi hp
 exact ⟨v,by simp [World.cell?,h1,hv],hval,h4 _ _ hv⟩
theorem ok_load {a:PV} {u:Value} {k:Option Nat} {t:TypeId} {K:PV→Heap→Option β} (hr:Rel S F w H) (hv:Val S F w a u) (hk:aggOf P t=some k)
  (h:loadK H k a K=some r):Out P S F w (Instr.loadAt t u) (fun v=>K v H) r:=by
 unfold loadK at h
 split at h
 ·rename_i b i j
  obtain ⟨x,hx,h⟩:=live_some h
  cases x with
  | box row wr =>
   obtain ⟨h0,h⟩:=cond_some h
   obtain rfl:i=0:=Nat.eq_of_beq_eq_true h0
   obtain ⟨k',hS,hB,_⟩:=hget_box hr hx
   have hu:u = .pointer (some ⟨k',j,none⟩):=by
    cases hv with
    | ptr _ blk _ hb=>rw [hS] at hb;cases hb;rfl
    | ptra _ _ _ _ _ _ _ hb _=>rw [hS] at hb;cases hb
    | ptrd _ _ _ _ hb _=>rw [hS] at hb;cases hb
   subst hu
   have:=ok_part (K:=fun v=>K v H) h hB.cellsAt hk
   simpa [Instr.loadAt,Instr.sureAddr,Out] using this
  | arr ty xs wr =>
   obtain ⟨x,hx1,h⟩:=bindN_some h
   have hxi:=lat_some hx1
   obtain ⟨a,cap,hS,hc,hor,_⟩:=hget_arr hr hx
   have hlen:i<xs.length:=(List.getElem?_eq_some_iff.1 hxi).1
   rcases hor with h0|⟨ad,rfl,hA,_⟩
   ·omega
   have hu:u = .pointer (some ⟨ad.block,ad.off+i * ty.size+j,none⟩):=by
    cases hv with
    | ptr _ blk _ hb=>rw [hS] at hb;cases hb
    | ptra _ _ _ _ _ _ _ hb _=>rw [hS] at hb;cases hb;rfl
    | ptrd _ _ _ _ hb _=>rw [hS] at hb;cases hb
   subst hu
   have:=ok_part (K:=fun v=>K v H) h (hA.cellsAt hxi) hk
   simpa [Instr.loadAt,Instr.sureAddr,Out] using this
 ·rename_i cs
  cases hv with
  | ref _ ad vf hs hcell ho hv' =>
   obtain ⟨blk,off,sp⟩:=ad
   simp only at hs;subst hs
   have hC:CellsAt S F w cs blk off:=fun j p hp=>⟨_,(hcell j p hp).2,hv' j p hp,ho j p hp⟩
   have:=ok_part (K:=fun v=>K v H) h hC hk
   simpa [Instr.loadAt,Instr.sureAddr,Out] using this
 ·cases h
theorem ok_iadr {x:PV} {u v:Value} {i:Int} {k:IntKind} {sz:Nat} {t e:TypeId} {K:PV→Heap→Option β} (hr:Rel S F w H) (hv:Val S F w x u) (hu:P.underlying t=some (.slice e)) (hz:szOf P e=some sz)
  (h:iadrK H sz x i K=some r):Out P S F w (Instr.indexAt t u (.int k i)) (fun v=>K v H) r:=by
 unfold iadrK at h
 have hsz:∀ w,(sizeOf e).run P w = .ok sz w:=by
  intro w
  unfold szOf at hz
  cases hi:P.info? e<;>simp [hi] at hz
  simp [sizeOf,typeInfo,hi,hz]
 split at h
 ·rename_i ty xs
  obtain ⟨h1,h⟩:=cond_some h
  obtain ⟨h2,h⟩:=cond_some h
  obtain ⟨y,h3,h⟩:=bindN_some h
  have h3:=lat_some h3
  have hs:ty.size=sz:=Nat.eq_of_beq_eq_true h1
  simp only [ile,decide_eq_true_eq] at h2
  have hlen:i.toNat<xs.length:=(List.getElem?_eq_some_iff.1 h3).1
  cases hv with
  | lst _ _ a cap vf hc ha hsp hcell hv' =>
   have hne:xs≠[]:=by intro e;subst e;simp at hlen
   obtain ⟨ad,rfl⟩:=ha hne
   have hsp:=hsp hne ad rfl
   obtain ⟨blk,off,sp⟩:=ad
   simp only at hsp;subst hsp
   refine ⟨_,_,h, .ref _ ⟨blk,off+i.toNat * sz,none⟩ (fun j=>vf i.toNat j) rfl (fun j p hp=>by have:=hcell _ _ _ j p rfl h3 hp;rw [hs] at this;exact this) (fun j p hp=>okC_one (hv' _ _ j p h3 hp) (cellsOf_okC _ _ _ _ hp)) (fun j p hp=>hv' _ _ j p h3 hp),?_⟩
   have hlt:(0:Int)≤i∧i<(xs.length:Int):=⟨h2,by omega⟩
   simp [Instr.indexAt,asIntOf,underlying,hu,hlt,hsz,add_addr]
 ·rename_i b
  obtain ⟨x,hx,h⟩:=live_some h
  cases x with
  | box _ _=>cases h
  | arr ty xs wr =>
   obtain ⟨h1,h⟩:=cond_some h
   obtain ⟨h2,h⟩:=cond_some h
   obtain ⟨y,h3,h⟩:=bindN_some h
   have h3:=lat_some h3
   have hs:ty.size=sz:=Nat.eq_of_beq_eq_true h1
   simp only [ile,decide_eq_true_eq] at h2
   have hlen:i.toNat<xs.length:=(List.getElem?_eq_some_iff.1 h3).1
   obtain ⟨a,cap,hS,hc,hor,_⟩:=hget_arr hr hx
   rcases hor with h0|⟨ad,rfl,hA,_⟩
   ·omega
   have hue:u = .slice (some ad) xs.length cap:=by
    cases hv with
    | own _ _ _ _ _ hb=>rw [hS] at hb;cases hb;rfl
    | ownd _ _ hb _=>rw [hS] at hb;cases hb
   subst hue
   have hsp:=hA.1
   obtain ⟨blk,off,sp⟩:=ad
   simp only at hsp;subst hsp
   refine ⟨_,_,h, .ptra b ⟨blk,off,none⟩ xs.length cap ty.size i.toNat 0 hS hlen,?_⟩
   have hlt:(0:Int)≤i∧i<(xs.length:Int):=⟨h2,by omega⟩
   simp [Instr.indexAt,asIntOf,underlying,hu,hlt,hsz,add_addr,hs]
 ·cases h
theorem ok_fadr {x:PV} {u:Value} {t:TypeId} {i n:Nat} {f:Field} {K:PV→Heap→Option β} (hr:Rel S F w H) (hv:Val S F w x u) (hf:fieldOf P t i=some f) (hz:szOf P f.type=some (n+1))
  (h:fadrK H f.offset x K=some r):Out P S F w (Instr.fieldAt t u i) (fun v=>K v H) r:=by
 unfold fadrK at h
 have hsz:∀ w,(sizeOf f.type).run P w = .ok (n+1) w:=by
  intro w
  unfold szOf at hz
  cases hi:P.info? f.type<;>simp [hi] at hz
  simp [sizeOf,typeInfo,hi,hz]
 have hfs:∃ fs,P.underlying t=some (.struct fs)∧fs[i]?=some f:=by
  unfold fieldOf at hf;split at hf
  ·exact ⟨_,by assumption,hf⟩
  ·cases hf
 obtain ⟨fs,hu,hfi⟩:=hfs
 have hrun:∀ (b o:Nat),(Instr.fieldAt t (.pointer (some ⟨b,o,none⟩)) i).run P w = .ok (.pointer (some ⟨b,o+f.offset,none⟩)) w:=by
  intro b o
  simp [Instr.fieldAt,underlying,hu,hfi,Instr.sureAddr,fieldPlace,hsz,add_addr]
 split at h
 ·rename_i b i' j
  obtain ⟨x,hx,h⟩:=live_some h
  obtain ⟨nd,nu⟩:=live_not_dead hr hx
  cases hv with
  | ptr _ blk _ hb=>exact ⟨_,_,h, .ptr b blk _ hb,hrun _ _⟩
  | ptra _ a n' cap sz _ _ hb hi'=>exact ⟨_,_,h, .ptra b a n' cap sz i' _ hb hi',by rw [hrun];simp [Nat.add_assoc]⟩
  | ptrd _ _ _ _ hb _=>exact absurd hb nd
 ·rename_i cs
  cases hv with
  | ref _ ad vf hs hcell ho hv' =>
   obtain ⟨blk,off,sp⟩:=ad
   simp only at hs;subst hs
   exact ⟨_,_,h, .ref _ ⟨blk,off+f.offset,none⟩ (fun j=>vf (f.offset+j)) rfl (fun j p hp=>by rw [List.getElem?_drop] at hp;have:=hcell _ p hp;simpa [Nat.add_assoc] using this)
    (fun j p hp=>by rw [List.getElem?_drop] at hp;exact ho _ p hp) (fun j p hp=>by rw [List.getElem?_drop] at hp;exact hv' _ p hp),hrun _ _⟩
 ·cases h
theorem ok_fld {cs:List PV} {vs:Array Value} {t:TypeId} {i:Nat} {f:Field} {k:Option Nat} {K:PV→Option β} (hv:Val S F w (.agg cs) (.agg vs)) (hf:fieldOf P t i=some f) (hk:aggOf P f.type=some k)
  (h:part k f.offset cs K=some r):Out P S F w (Instr.field t (.agg vs) i) K r:=by
 have hfs:∃ fs,P.underlying t=some (.struct fs)∧fs[i]?=some f:=by
  unfold fieldOf at hf;split at hf
  ·exact ⟨_,by assumption,hf⟩
  ·cases hf
 obtain ⟨fs,hu,hfi⟩:=hfs
 cases hv with
 | agg _ _ hl hv ho =>
  have hrun:(Instr.field t (.agg vs) i).run P w=(Go.part f.type vs f.offset).run P w:=by simp [Instr.field,underlying,hu,hfi,asAgg]
  unfold Out
  rw [hrun]
  unfold aggOf at hk
  cases hu':P.underlying f.type with
  | none=>rw [hu'] at hk;cases hk
  | some d =>
   rw [hu'] at hk
   cases k with
   | none =>
    simp only [part] at h
    cases hn:nth cs f.offset with
    | none=>rw [hn] at h;cases h
    | some p =>
     rw [hn] at h
     have hp:=nth_some hn
     have hlt:f.offset<vs.size:=by rw [hl];exact (List.getElem?_eq_some_iff.1 hp).1
     have hd:isAggD d=false:=by
      cases hs:szOf P f.type with
      | none =>
       unfold szOf at hs;unfold Program.underlying at hu'
       cases hi:P.info? f.type<;>simp [hi] at hu' hs
      | some n=>rw [hs] at hk;cases d<;>simp [isAggD] at hk ⊢
     exact ⟨p,vs[f.offset],h,hv _ _ _ hp (Array.getElem?_eq_getElem hlt),run_part_one _ d hu' hd _ _ _ (Array.getElem?_eq_getElem hlt)⟩
   | some n =>
    simp only [part] at h
    obtain ⟨hl',h⟩:=fit_some h
    have hd:isAggD d=true∧szOf P f.type=some n:=by
     cases hs:szOf P f.type with
     | none=>rw [hs] at hk;cases d<;>simp at hk
     | some m=>rw [hs] at hk;cases d<;>simp [isAggD] at hk ⊢<;>exact hk
    obtain ⟨hd,hz⟩:=hd
    refine ⟨_,_,h, .agg _ _ (by rw [hl'];simp at hl' ⊢;omega) (fun i p v hp hv'=>?_) (fun i v hv'=>?_),run_part_agg _ d hu' hd n hz _ _⟩
    ·have hi:i<n:=by have:=(List.getElem?_eq_some_iff.1 hp).1;omega
     rw [List.getElem?_take,if_pos hi,List.getElem?_drop] at hp
     rw [Array.getElem?_extract] at hv'
     split at hv'
     ·exact hv _ _ _ hp hv'
     ·cases hv'
    ·rw [Array.getElem?_extract] at hv'
     split at hv'
     ·exact ho _ _ hv'
     ·cases hv'
end
end Go.Proofs.YtdcphpbimeoioaaGreatDoorE
end
section
set_option linter.unusedSectionVars false
namespace Go.Proofs.YtdcphpbimeoioaaGreatDoorE
open Go
set_option linter.unusedVariables false
set_option linter.unusedSimpArgs false
variable [Dm]
section
variable {β:Type} {P:Program} {S:Nat→SL} {F F':Nat→Prop} {w:World} {H:Heap} {E:Env} {ρ:Operand→Value} {O:Orc} {nb:Nat} {r:β}
def frzS (b:Bool) (s:Slot):Slot :=
 match s with
 | .live (.box cs w) => .live (.box cs (w && b))
 | .live (.arr t xs w) => .live (.arr t xs (w && b))
 | s=>s
theorem frzS_true (s:Slot):frzS true s=s:=by
 cases s with
 | live x=>cases x<;>simp [frzS]
 | _=>rfl
theorem frzS_twice (a b:Bool) (s:Slot):frzS a (frzS b s)=frzS (a && b) s:=by
 cases s with
 | live x=>cases x<;>simp [frzS,Bool.and_assoc,Bool.and_comm b a]
 | _=>rfl
theorem frz_cons (H:Heap) (b:Nat) (ids:List Nat):∀ c,hget (frz H (b ::ids)) c=hget (frz (match hget H b with|.live _=>hset H b (frzS false (hget H b))|_=>H) ids) c:=by
 intro c
 simp only [frz]
 cases h:hget H b with
 | live x=>cases x<;>simp [frzS]
 | _=>rfl
theorem hget_frz:∀ (ids:List Nat) (H:Heap) (c:Nat),hget (frz H ids) c=frzS (!memN c ids) (hget H c)
 | [],H,c=>by simp [frz,memN,frzS_true]
 | b ::ids,H,c=>by
  rw [frz_cons,hget_frz ids]
  simp only [memN]
  by_cases h:c=b
  ·subst h
   rw [show Nat.beq c c=true from Nat.beq_refl c]
   simp only [cond_true,Bool.not_true]
   cases hb:hget H c with
   | live x=>simp only [hget_hset_same,frzS_twice,Bool.and_false]
   | unused=>rw [hb];rfl
   | dead=>rw [hb];rfl
  ·have:Nat.beq c b=false:=by cases hh:Nat.beq c b with
    | true=>exact absurd (Nat.eq_of_beq_eq_true hh) h
    | false=>rfl
   rw [this]
   simp only [cond_false]
   congr 1
   split
   ·exact hget_hset_ne _ _ _ _ h
   ·rfl
theorem memN_iff {b:Nat}:∀ {l:List Nat},memN b l=true↔b∈l
 | []=>by simp [memN]
 | c ::r=>by
  simp only [memN,List.mem_cons]
  by_cases h:b=c
  ·subst h;simp [show Nat.beq b b=true from Nat.beq_refl b]
  ·have:Nat.beq b c=false:=by cases hh:Nat.beq b c with
    | true=>exact absurd (Nat.eq_of_beq_eq_true hh) h
    | false=>rfl
   simp [this,h,memN_iff (l:=r)]
def FZ (S:Nat→SL) (F:Nat→Prop) (H:Heap) (ids:List Nat) (k:Nat):Prop:=F k∨∃ b x,b∈ids∧hget H b = .live x∧blkOf (S b)=some k
theorem BoxOk.monoF {cs:List PV} {k:Nat} (h:BoxOk S F w cs k) (hF:∀ k,F k→F' k):BoxOk S F' w cs k:=by
 obtain ⟨c,t,h1,h2,h3,h4⟩:=h
 exact ⟨c,t,h1,h2,fun j p v a b=>(h3 j p v a b).mono hF (fun _ _=>rfl) (fun _ _ => .inl rfl),h4⟩
theorem ArrOk.monoF {t:Ty} {xs:List (El t)} {ad:Addr} {cap:Nat} (h:ArrOk S F w t xs ad cap) (hF:∀ k,F k→F' k):ArrOk S F' w t xs ad cap:=by
 obtain ⟨h0,c,tt,fr,h1,h2,h3,h4,h5⟩:=h
 refine ⟨h0,c,tt,fr,h1,h2,h3,h4,fun i x j p a b=>?_⟩
 obtain ⟨v,e1,e2⟩:=h5 i x j p a b
 exact ⟨v,e1,e2.mono hF (fun _ _=>rfl) (fun _ _ => .inl rfl)⟩
theorem blkOf_lt (hr:Rel S F w H) {b k:Nat} {x:Blk} (hx:hget H b = .live x) (hb:blkOf (S b)=some k):k<w.heap.size:=by
 cases x with
 | box cs wr =>
  obtain ⟨k',hS,⟨c,t,h1,_⟩,_⟩:=hget_box hr hx
  rw [hS] at hb;simp only [blkOf,Option.some.injEq] at hb;subst hb
  exact (Array.getElem?_eq_some_iff.1 h1).1
 | arr t xs wr =>
  obtain ⟨a,cap,hS,_,hor,_⟩:=hget_arr hr hx
  rw [hS] at hb
  rcases hor with h0|⟨ad,rfl,⟨_,c,tt,fr,h1,_⟩,_⟩
  ·cases a<;>simp [blkOf,h0] at hb
  ·simp only [blkOf] at hb
   split at hb
   ·cases hb
   ·cases hb;exact (Array.getElem?_eq_some_iff.1 h1).1
theorem frz_rel (hr:Rel S F w H) (ids:List Nat):Rel S (FZ S F H ids) w (frz H ids)∧Adv S F w H S (FZ S F H ids) w (frz H ids):=by
 have hFF:∀ k,F k→FZ S F H ids k:=fun k hk => .inl hk
 constructor
 ·refine ⟨fun b=>?_,hr.inj,fun k hk=>?_,hr.gl.mono hFF fun _ _=>rfl⟩
  ·rw [hget_frz]
   have hs:=hr.slots b
   cases hg:hget H b with
   | unused=>rw [hg] at hs;cases hS:S b<;>rw [hS] at hs<;>simp only [SlotOk,frzS] at hs ⊢
   | dead=>rw [hg] at hs;cases hS:S b<;>rw [hS] at hs<;>simp only [SlotOk,frzS] at hs ⊢
   | live x =>
    cases x with
    | box cs wr =>
     obtain ⟨k,hS,h1,h2,h3⟩:=hget_box hr hg
     rw [hS]
     simp only [frzS,SlotOk]
     refine ⟨h1.monoF hFF,fun hw=>?_,fun hw=>?_⟩
     ·simp only [Bool.and_eq_true,Bool.not_eq_true'] at hw
      rintro (hk|⟨b',x,hb',hx,hblk⟩)
      ·exact h2 hw.1 hk
      ·have:b'=b:=hr.inj b' b k hblk (by rw [hS];rfl)
       subst this
       have:=memN_iff.2 hb'
       rw [hw.2] at this;cases this
     ·by_cases hm:memN b ids=true
      ·exact .inr ⟨b,_,memN_iff.1 hm,hg,by rw [hS];rfl⟩
      ·simp only [Bool.not_eq_true] at hm
       rw [hm] at hw
       exact .inl (h3 (by simpa using hw))
    | arr t xs wr =>
     obtain ⟨a,cap,hS,hc,hor,hsp⟩:=hget_arr hr hg
     rw [hS]
     simp only [frzS,SlotOk]
     refine ⟨trivial,trivial,hc,hsp,?_⟩
     rcases hor with h0|⟨ad,rfl,hA,h2,h3⟩
     ·exact .inl h0
     ·by_cases hc0:cap=0
      ·exact .inl hc0
      refine .inr ⟨ad,rfl,hA.monoF hFF,fun hw=>?_,fun hw=>?_⟩
      ·simp only [Bool.and_eq_true,Bool.not_eq_true'] at hw
       rintro (hk|⟨b',x,hb',hx,hblk⟩)
       ·exact h2 hw.1 hk
       ·have:b'=b:=hr.inj b' b ad.block hblk (by rw [hS];simp [blkOf,hc0])
        subst this
        have:=memN_iff.2 hb'
        rw [hw.2] at this;cases this
      ·by_cases hm:memN b ids=true
       ·exact .inr ⟨b,_,memN_iff.1 hm,hg,by rw [hS];simp [blkOf,hc0]⟩
       ·simp only [Bool.not_eq_true] at hm
        rw [hm] at hw
        exact .inl (h3 (by simpa using hw))
  ·rcases hk with hk|⟨b,x,_,hx,hb⟩
   ·exact hr.fsz k hk
   ·exact blkOf_lt hr hx hb
 ·refine ⟨hFF,fun _ _ => .inl rfl,Nat.le_refl _,fun _ _ _=>rfl,fun k hk=>?_,fun k hk=>?_,rfl,rfl,rfl,(fun _=>Nat.le_refl _)⟩
  ·obtain ⟨b,x,hx,hw,hb⟩:=hk
   rw [hget_frz] at hx
   left
   cases hg:hget H b with
   | unused=>rw [hg] at hx;cases hx
   | dead=>rw [hg] at hx;cases hx
   | live y =>
    rw [hg] at hx
    refine ⟨b,y,hg,?_,hb⟩
    cases y<;>simp only [frzS,Slot.live.injEq] at hx<;>subst hx<;>simp [Blk.wr] at hw ⊢<;>exact hw.1
  ·rcases hk with hk|⟨b,x,hb,hx,hblk⟩
   ·exact .inl hk
   ·by_cases hw:x.wr=true
    ·exact .inr (.inl ⟨b,x,hx,hw,hblk⟩)
    ·left
     cases x with
     | box cs wr =>
      obtain ⟨k',hS,_,_,h3⟩:=hget_box hr hx
      rw [hS] at hblk;simp only [blkOf,Option.some.injEq] at hblk;subst hblk
      exact h3 (by simpa [Blk.wr] using hw)
     | arr t xs wr =>
      obtain ⟨a,cap,hS,_,hor,_⟩:=hget_arr hr hx
      rw [hS] at hblk
      rcases hor with h0|⟨ad,rfl,_,_,h3⟩
      ·cases a<;>simp [blkOf,h0] at hblk
      ·simp only [blkOf] at hblk
       split at hblk
       ·cases hblk
       ·cases hblk;exact h3 (by simpa [Blk.wr] using hw)
theorem own_lst (hr:Rel S F w H) {b:Nat} {t:Ty} {xs:List (El t)} {wr:Bool} (hb:hget H b = .live (.arr t xs wr)) {u:Value} (hv:Val S F w (.own b) u) (hF:∀ k,F k→F' k) (hB:∀ k,blkOf (S b)=some k→F' k):Val S F' w (.lst t xs) u:=by
 obtain ⟨a,cap,hS,hc,hor,hsp⟩:=hget_arr hr hb
 have hu:u = .slice a xs.length cap:=by
  cases hv with
  | own _ _ _ _ _ h=>rw [hS] at h;cases h;rfl
  | ownd _ _ h _=>rw [hS] at h;cases h
 subst hu
 by_cases hc0:cap=0
 ·have:xs=[]:=by cases xs with
   | nil=>rfl
   | cons x r=>simp at hc;omega
  subst this
  exact .lst t [] a cap (fun _ _=>undef) hc (fun h=>absurd rfl h) (fun h=>absurd rfl h) (fun ad i x j p _ h=>by simp at h) (fun i x j p h=>by simp at h)
 ·rcases hor with h0|⟨ad,rfl,hA,_⟩
  ·exact absurd h0 hc0
  ·have hA':=hA
   obtain ⟨_,c,tt,fr,h1,h2,h3,h4,h5⟩:=hA
   refine .lst t xs (some ad) cap (fun i j=>(w.cell? ⟨ad.block,ad.off+i * t.size+j,none⟩).getD undef) hc (fun _=>⟨ad,rfl⟩) (fun hne=>hsp (by have:=List.length_pos_iff.2 hne;omega)) (fun ad' i x j p e hx hp=>?_) (fun i x j p hx hp=>?_)
   ·cases e
    obtain ⟨v,e1,e2⟩:=h5 i x j p hx hp
    exact ⟨hB _ (by rw [hS];simp [blkOf,hc0]),by simp [World.cell?,h1,e1]⟩
   ·obtain ⟨v,e1,e2⟩:=h5 i x j p hx hp
    have:(w.cell? ⟨ad.block,ad.off+i * t.size+j,none⟩).getD undef=v:=by simp [World.cell?,h1,e1]
    show Val S F' w p ((w.cell? ⟨ad.block,ad.off+i * t.size+j,none⟩).getD undef)
    rw [this]
    exact e2.mono hF (fun _ _=>rfl) (fun _ _ => .inl rfl)
theorem nil_lst {t:Ty} {u:Value} (hv:Val S F w (.nil t) u):Val S F w (.lst t []) u:=by
 cases hv
 exact .lst t [] none 0 (fun _ _=>undef) (Nat.le_refl _) (fun h=>absurd rfl h) (fun _ _ h=>by cases h) (fun ad i x j p _ h=>by simp at h) (fun i x j p h=>by simp at h)
theorem cell1_val (hr:Rel S F w H) {c:PV} {u:Value} (hv:Val S F w c u) (hF:∀ k,F k→F' k) (hB:∀ b k,b∈ownC c→(∃ x,hget H b = .live x)→blkOf (S b)=some k→F' k):Val S F' w (cell1 H c) u:=by
 have hm:Val S F' w c u:=hv.mono hF (fun _ _=>rfl) (fun _ _ => .inl rfl)
 unfold cell1
 split
 ·rename_i b
  split
  ·rename_i t xs wr hb
   exact own_lst hr hb hv hF (fun k hk=>hB b k (by simp [ownC]) ⟨_,hb⟩ hk)
  ·exact .junk _
 ·exact nil_lst hm
 ·exact hm
theorem snapV_val (hr:Rel S F w H) {v:PV} {u:Value} (hv:Val S F w v u) (hF:∀ k,F k→F' k) (hB:∀ b k,b∈ownIds v→(∃ x,hget H b = .live x)→blkOf (S b)=some k→F' k):Val S F' w (snapV H v) u:=by
 unfold snapV
 split
 ·rename_i cs
  cases hv with
  | agg _ vs hl hv ho =>
   refine .agg _ vs (by simp [hl]) (fun i p v hp hv'=>?_) ho
   rw [List.getElem?_map] at hp
   cases hc:cs[i]? with
   | none=>rw [hc] at hp;cases hp
   | some c =>
    rw [hc] at hp;cases hp
    exact cell1_val hr (hv i c v hc hv') hF (fun b k hb=>hB b k (by simp only [ownIds,List.mem_flatMap];exact ⟨c,List.mem_of_getElem? hc,hb⟩))
 ·rename_i vs'
  cases hv with
  | tup _ vs hl hv =>
   refine .tup _ vs (by simp [hl]) (fun i p v hp hv'=>?_)
   rw [List.getElem?_map] at hp
   cases hc:vs'[i]? with
   | none=>rw [hc] at hp;cases hp
   | some c =>
    rw [hc] at hp
    simp only [Option.map_some,Option.some.injEq] at hp
    subst hp
    have hval:=hv i c v hc hv'
    have hmem:=List.mem_of_getElem? hc
    split
    ·rename_i cs
     cases hval with
     | agg _ us hl2 hv2 ho2 =>
      refine .agg _ us (by simp [hl2]) (fun i p v hp hv'=>?_) ho2
      rw [List.getElem?_map] at hp
      cases hc2:cs[i]? with
      | none=>rw [hc2] at hp;cases hp
      | some c2 =>
       rw [hc2] at hp;cases hp
       refine cell1_val hr (hv2 i c2 v hc2 hv') hF (fun b k hb=>hB b k ?_)
       simp only [ownIds,List.mem_flatMap]
       exact ⟨_,hmem,by simp only [List.mem_flatMap];exact ⟨c2,List.mem_of_getElem? hc2,hb⟩⟩
    ·rename_i hn
     refine cell1_val hr hval hF (fun b k hb=>hB b k ?_)
     simp only [ownIds,List.mem_flatMap]
     refine ⟨_,hmem,?_⟩
     split
     ·exact absurd rfl (hn _)
     ·exact hb
 ·rename_i h1 h2
  refine cell1_val hr hv hF (fun b k hb=>hB b k ?_)
  unfold ownIds
  split
  ·exact absurd rfl (h1 _)
  ·exact absurd rfl (h2 _)
  ·exact hb
end
end Go.Proofs.YtdcphpbimeoioaaGreatDoorE
end
section
set_option linter.unusedSectionVars false
namespace Go.Proofs.YtdcphpbimeoioaaGreatDoorE
open Go
set_option linter.unusedVariables false
set_option linter.unusedSimpArgs false
variable [Dm]
section
variable {β:Type} {P:Program} {S:Nat→SL} {F F':Nat→Prop} {w:World} {H:Heap} {E:Env} {ρ:Operand→Value} {O:Orc} {nb:Nat} {r:β}
theorem bound_some {v:Option PV} {d:Int} {K:Int→Option β} (h:bound v d K=some r):(v=none∧K d=some r)∨∃ k n,v=some (.int k n)∧K n=some r:=by
  unfold bound at h
  split at h
  · exact .inl ⟨rfl,h⟩
  · obtain ⟨k,n,rfl,h⟩:=asInt_some h
    exact .inr ⟨k,n,rfl,h⟩
def Bd (S:Nat→SL) (F:Nat→Prop) (w:World) (p:Option PV) (v:Option Value):Prop :=
  match p,v with
  | none,none=>True
  | some p,some v=>Val S F w p v
  | _,_=>False
theorem bd_run {lo hi:Option PV} {lv hv:Option Value} {l h len cap:Int} {sl:Bool} (h1:Bd S F w lo lv) (h2:Bd S F w hi hv) (el:(lo=none∧l=0)∨∃ k,lo=some (.int k l)) (eh:(hi=none∧h=len)∨∃ k,hi=some (.int k h))
    (n c:Nat) (hn:len=n) (hc:cap=c) (hnc:n≤c) (a0:0≤l) (a1:l≤h) (a2:h≤len):(Instr.sliceBounds sl n c lv hv none).run P w = .ok (l.toNat,h.toNat,c) w:=by
  subst hn hc
  have eq1:∀ (k:IntKind) (i:Int) (y:Nat) (code:BoundsCode),0≤i→i≤y→(Instr.sliceBound (.int k i) y code).run P w = .ok i.toNat w:=by
    intro k i y code g1 g2
    simp [Instr.sliceBound,asIntOf,g1,g2]
  have hh:∃ hvv:Option Value,hv=hvv∧((hv=none∧h=n)∨∃ k,hv=some (.int k h)):=by
    refine ⟨_,rfl,?_⟩
    rcases eh with ⟨rfl,rfl⟩|⟨k,rfl⟩
    · cases hv with
      | none=>exact .inl ⟨rfl,rfl⟩
      | some v=>exact h2.elim
    · cases hv with
      | none=>exact h2.elim
      | some v=>cases val_int h2;exact .inr ⟨k,rfl⟩
  have hl:(lv=none∧l=0)∨∃ k,lv=some (.int k l):=by
    rcases el with ⟨rfl,rfl⟩|⟨k,rfl⟩
    · cases lv with
      | none=>exact .inl ⟨rfl,rfl⟩
      | some v=>exact h1.elim
    · cases lv with
      | none=>exact h1.elim
      | some v=>cases val_int h1;exact .inr ⟨k,rfl⟩
  obtain ⟨_,_,hh⟩:=hh
  have hle:l≤(h.toNat:Int):=by omega
  rcases hh with ⟨rfl,rfl⟩|⟨k,rfl⟩<;>rcases hl with ⟨rfl,rfl⟩|⟨k',rfl⟩
  · simp [Instr.sliceBounds]
  · simp [Instr.sliceBounds,eq1 k' l n _ a0 a1]
  · simp [Instr.sliceBounds,eq1 k h c _ (by omega) (by omega)]
  · simp [Instr.sliceBounds,eq1 k h c _ (by omega) (by omega),eq1 k' l h.toNat _ a0 hle]
theorem ok_slice {x:PV} {u:Value} {lo hi:Option PV} {lv hv:Option Value} {sz:Nat} {t:TypeId} {K:PV→Option β} (hx:Val S F w x u) (h1:Bd S F w lo lv) (h2:Bd S F w hi hv)
    (ht:(∃ e,P.underlying t=some (.slice e)∧szOf P e=some sz)∨P.underlying t=some .string) (htx:P.underlying t=some .string↔∃ s,x = .str s) (h:sliceOp sz x lo hi K=some r):Out P S F w (Instr.sliceAt t u lv hv none) K r:=by
  unfold sliceOp at h
  split at h
  · rename_i s
    cases val_str hx
    have hu:P.underlying t=some .string:=htx.2 ⟨s,rfl⟩
    have hss:ssize s=(s.size:Int):=by simp [ssize]
    simp only [hss] at h
    have main:∀ (l hh:Int),0≤l→l≤hh→hh≤(s.size:Int)→(Instr.sliceBounds false s.size s.size lv hv none).run P w = .ok (l.toNat,hh.toNat,s.size) w→K (.str (sext s l hh))=some r→Out P S F w (Instr.sliceAt t (.string s) lv hv none) K r:=by
      intro l hh a0 a1 a2 hb hK
      exact ⟨_,_,hK, .str _,by simp [Instr.sliceAt,underlying,hu,Instr.slice,hb,sext]⟩
    rcases bound_some h with ⟨e1,h⟩|⟨k1,n1,e1,h⟩<;>rcases bound_some h with ⟨e2,h⟩|⟨k2,n2,e2,h⟩<;>
      (obtain ⟨a0,h⟩:=cond_some h
       obtain ⟨a1,h⟩:=cond_some h
       obtain ⟨a2,h⟩:=cond_some h
       simp only [ile,decide_eq_true_eq] at a0 a1 a2
       exact main _ _ a0 a1 a2 (bd_run (P:=P) (sl:=false) (len:=(s.size:Int)) (cap:=(s.size:Int)) h1 h2 (by first|exact .inl ⟨e1,rfl⟩|exact .inr ⟨_,e1⟩) (by first|exact .inl ⟨e2,rfl⟩|exact .inr ⟨_,e2⟩) s.size s.size rfl rfl (Nat.le_refl _) a0 a1 a2) h)
  · rename_i ty xs
    obtain ⟨hs,h⟩:=cond_some h
    have hs:ty.size=sz:=Nat.eq_of_beq_eq_true hs
    have ht:∃ e,P.underlying t=some (.slice e)∧szOf P e=some sz:=by
      rcases ht with ht|ht
      · exact ht
      · obtain ⟨s,hs⟩:=htx.1 ht;cases hs
    obtain ⟨e,hu,hz⟩:=ht
    have hsz:∀ w,(sizeOf e).run P w = .ok sz w:=by
      intro w
      unfold szOf at hz
      cases hi:P.info? e<;>simp [hi] at hz
      simp [sizeOf,typeInfo,hi,hz]
    have main:∀ (l hh:Int),0≤l→l≤hh→hh≤(xs.length:Int)→(∀ a cap,u = .slice a xs.length cap→xs.length≤cap→(Instr.sliceBounds true xs.length cap lv hv none).run P w = .ok (l.toNat,hh.toNat,cap) w)→K (.lst ty (win xs l.toNat (hh.toNat - l.toNat)))=some r→Out P S F w (Instr.sliceAt t u lv hv none) K r:=by
      intro l hh a0 a1 a2 hb hK
      cases hx with
      | lst _ _ a cap vf hc ha hsp hcell hv' =>
        have hb:=hb a cap rfl hc
        have hlen:(win xs l.toNat (hh.toNat - l.toNat)).length=hh.toNat - l.toNat:=by simp [win];omega
        have hget:∀ i x,(win xs l.toNat (hh.toNat - l.toNat))[i]?=some x→xs[l.toNat+i]?=some x:=by
          intro i x hi
          simp only [win,List.getElem?_take,List.getElem?_drop] at hi
          split at hi
          · exact hi
          · cases hi
        refine ⟨_, .slice (if cap=l.toNat then a else a.map (·.add (l.toNat * sz))) (hh.toNat - l.toNat) (cap - l.toNat),hK,?_,by simp [Instr.sliceAt,underlying,hu,Instr.slice,hb,hsz]⟩
        have:=Val.lst (S:=S) (F:=F) (w:=w) ty (win xs l.toNat (hh.toNat - l.toNat)) (if cap=l.toNat then a else a.map (·.add (l.toNat * sz))) (cap - l.toNat) (fun i j=>vf (l.toNat+i) j) (by rw [hlen];omega)
          (fun hne=>by
            have:l.toNat<xs.length:=by
              cases hw:win xs l.toNat (hh.toNat - l.toNat) with
              | nil=>exact absurd hw hne
              | cons y ys=>have:=hget 0 y (by rw [hw];rfl);have:=(List.getElem?_eq_some_iff.1 this).1;omega
            obtain ⟨ad,rfl⟩:=ha (by intro e;subst e;simp at this)
            split
            · exact ⟨ad,rfl⟩
            · exact ⟨_,rfl⟩)
          (fun hne ad he=>by
            have hsp:=hsp (fun e=>hne (by subst e;simp [win]))
            split at he
            · exact hsp ad he
            · cases a with
              | none=>cases he
              | some ad0 =>
                simp at he;subst he
                unfold Addr.add;split
                · exact hsp ad0 rfl
                · rfl)
          (fun ad i x j p he hx hp=>by
            have hx':=hget i x hx
            have hlt:=(List.getElem?_eq_some_iff.1 hx').1
            rw [if_neg (by omega)] at he
            cases a with
            | none=>cases he
            | some ad0 =>
              simp at he;subst he
              have h0:=hsp (fun e=>by subst e;simp [win] at hx) ad0 rfl
              obtain ⟨blk,off,sp⟩:=ad0
              simp only at h0;subst h0
              have:=hcell _ _ _ j p rfl hx' hp
              rw [add_addr]
              rw [hs] at this ⊢
              rw [show off+l.toNat * sz+i * sz+j=off+(l.toNat+i) * sz+j by rw [Nat.add_mul];omega]
              exact this)
          (fun i x j p hx hp=>hv' _ _ j p (hget i x hx) hp)
        rw [hlen] at this
        exact this
    rcases bound_some h with ⟨e1,h⟩|⟨k1,n1,e1,h⟩<;>rcases bound_some h with ⟨e2,h⟩|⟨k2,n2,e2,h⟩<;>
      (obtain ⟨a0,h⟩:=cond_some h
       obtain ⟨a1,h⟩:=cond_some h
       obtain ⟨a2,h⟩:=cond_some h
       simp only [ile,decide_eq_true_eq] at a0 a1 a2
       exact main _ _ a0 a1 a2 (fun a cap _ hc=>bd_run (P:=P) (sl:=true) (len:=(xs.length:Int)) (cap:=(cap:Int)) h1 h2 (by first|exact .inl ⟨e1,rfl⟩|exact .inr ⟨_,e1⟩) (by first|exact .inl ⟨e2,rfl⟩|exact .inr ⟨_,e2⟩) xs.length cap rfl rfl hc a0 a1 a2) h)
  · cases h
theorem ok_ext {vs:List PV} {u:Value} {i:Nat} {K:PV→Option β} (hv:Val S F w (.tup vs) u) (h:(match nth vs i with|some v=>K v|none=>none)=some r):Out P S F w (Instr.extract u i) K r:=by
  cases hv with
  | tup _ us hl hv =>
    cases hn:nth vs i with
    | none=>rw [hn] at h;cases h
    | some p =>
      rw [hn] at h
      have hp:=nth_some hn
      have hlt:i<us.size:=by rw [hl];exact (List.getElem?_eq_some_iff.1 hp).1
      exact ⟨p,us[i],h,hv _ _ _ hp (Array.getElem?_eq_getElem hlt),by simp [Instr.extract,Array.getElem?_eq_getElem hlt]⟩
theorem ok_idx {s:ByteArray} {i:Int} {k:IntKind} {t:TypeId} {K:PV→Option β} (hu:P.underlying t=some .string) (h0:ile 0 i=true) (h1:ilt i (ssize s)=true) (h:K (.int .u8 (sat s i))=some r):Out P S F w (Instr.index t (.string s) (.int k i)) K r:=by
  simp only [ile,ilt,ssize,decide_eq_true_eq] at h0 h1
  have hlt:i.toNat<s.size:=by omega
  refine ⟨_,_,h, .int _ _,?_⟩
  have hg:s[i.toNat]?=some s[i.toNat]:=by simp [hlt]
  have hb:s.get! i.toNat=s[i.toNat]:=by
    cases s with|mk a=>simp [ByteArray.get!, getElem!_def];rw [Array.getElem?_eq_getElem (show i.toNat<a.size from hlt)];rfl
  simp [Instr.index,asIntOf,underlying,hu,h0,hg,sat,hb]
theorem ok_len {x:PV} {u:Value} {t ty:TypeId} {K:Int→Option β} (hr:Rel S F w H) (hx:Val S F w x u) (h:lenOf H x K=some r) (hu:((∃ e,P.underlying t=some (.slice e))∧∀ s,x ≠ .str s)∨(P.underlying t=some .string∧∃ s,x = .str s)) :
    ∃ n,K n=some r∧(Builtin.len_ #[t] ty #[u]).run P w = .ok (.int .i64 n) w:=by
  have hsl:∀ a n c,(∃ e,P.underlying t=some (.slice e))→(Builtin.len_ #[t] ty #[.slice a n c]).run P w = .ok (.int .i64 n) w:=by
    rintro a n c ⟨e,he⟩
    simp [Builtin.len_,underlying,he,goInt]
  unfold lenOf at h
  split at h
  · rename_i s
    cases val_str hx
    rcases hu with ⟨_,hn⟩|⟨hu,_⟩
    · exact absurd rfl (hn s)
    · exact ⟨_,h,by simp [Builtin.len_,underlying,hu,goInt,ssize]⟩
  · rcases hu with ⟨hu,_⟩|⟨_,s,hs⟩
    · cases hx;exact ⟨_,h,by have:=hsl none 0 0 hu;simpa using this⟩
    · cases hs
  · rcases hu with ⟨hu,_⟩|⟨_,s,hs⟩
    · cases hx;exact ⟨_,h,hsl _ _ _ hu⟩
    · cases hs
  · rename_i b
    obtain ⟨x,hb,h⟩:=live_some h
    cases x with
    | box _ _=>cases h
    | arr t' xs wr =>
      obtain ⟨a,cap,hS,_⟩:=hget_arr hr hb
      rcases hu with ⟨hu,_⟩|⟨_,s,hs⟩
      · cases hx with
        | own _ _ _ _ _ h'=>rw [hS] at h';cases h';exact ⟨_,h,hsl _ _ _ hu⟩
        | ownd _ _ h' _=>rw [hS] at h';cases h'
      · cases hs
  · cases h
theorem ok_folds {lt:Bool}:∀ {x:PV} {l:List PV} {u:Value} {us:List Value} {K:PV→Option β},Val S F w x u→us.length=l.length→(∀ (i:Nat) (p:PV) (v:Value),l[i]?=some p→us[i]?=some v→Val S F w p v)→folds lt x l K=some r →
    Out P S F w (us.foldlM (if lt then Builtin.min2 else Builtin.max2) u) K r
  | x,[],u,us,K,hx,hl,_,h=>by
    have:us=[]:=by simpa using hl
    subst this
    exact ⟨x,u,by simpa [folds] using h,hx,by simp⟩
  | .int k a, .int k' b ::l,u,us,K,hx,hl,hv,h=>by
    cases us with
    | nil=>simp at hl
    | cons v us =>
      cases val_int hx
      cases val_int (hv 0 _ _ rfl rfl)
      simp only [folds] at h
      obtain ⟨pv,w',h1,h2,h3⟩:=ok_folds (x := .int k (cond (cond lt (ilt b a) (ilt a b)) b a)) (u := .int k (cond (cond lt (ilt b a) (ilt a b)) b a)) (.int _ _) (by simpa using hl) (fun i p v a b=>hv (i+1) p v (by simpa using a) (by simpa using b)) h
      refine ⟨pv,w',h1,h2,?_⟩
      rw [List.foldlM_cons]
      cases lt
      · simp only [Bool.false_eq_true,if_false,Builtin.max2,pure_bind,cond_false] at h3 ⊢
        have e:(if b>a then b else a)=cond (ilt a b) b a:=by by_cases hh:a<b<;>simp [ilt,hh]
        rw [e];exact h3
      · simp only [if_true,Builtin.min2,pure_bind,cond_true] at h3 ⊢
        have e:(if b<a then b else a)=cond (ilt b a) b a:=by by_cases hh:b<a<;>simp [ilt,hh]
        rw [e];exact h3
  | .int _ _, .junk ::_,_,_,_,_,_,_,h=>by simp [folds] at h
  | .int _ _, .bool _ ::_,_,_,_,_,_,_,h=>by simp [folds] at h
  | .int _ _, .str _ ::_,_,_,_,_,_,_,h=>by simp [folds] at h
  | .int _ _, .agg _ ::_,_,_,_,_,_,_,h=>by simp [folds] at h
  | .int _ _, .tup _ ::_,_,_,_,_,_,_,h=>by simp [folds] at h
  | .int _ _, .nil _ ::_,_,_,_,_,_,_,h=>by simp [folds] at h
  | .int _ _, .lst _ _ ::_,_,_,_,_,_,_,h=>by simp [folds] at h
  | .int _ _, .own _ ::_,_,_,_,_,_,_,h=>by simp [folds] at h
  | .int _ _, .nilp ::_,_,_,_,_,_,_,h=>by simp [folds] at h
  | .int _ _, .ptr _ _ _ ::_,_,_,_,_,_,_,h=>by simp [folds] at h
  | .int _ _, .ref _ ::_,_,_,_,_,_,_,h=>by simp [folds] at h
  | .int _ _, .fn _ _ _ ::_,_,_,_,_,_,_,h=>by simp [folds] at h
  | .junk,_ ::_,_,_,_,_,_,_,h=>by simp [folds] at h
  | .bool _,_ ::_,_,_,_,_,_,_,h=>by simp [folds] at h
  | .str _,_ ::_,_,_,_,_,_,_,h=>by simp [folds] at h
  | .agg _,_ ::_,_,_,_,_,_,_,h=>by simp [folds] at h
  | .tup _,_ ::_,_,_,_,_,_,_,h=>by simp [folds] at h
  | .nil _,_ ::_,_,_,_,_,_,_,h=>by simp [folds] at h
  | .lst _ _,_ ::_,_,_,_,_,_,_,h=>by simp [folds] at h
  | .own _,_ ::_,_,_,_,_,_,_,h=>by simp [folds] at h
  | .nilp,_ ::_,_,_,_,_,_,_,h=>by simp [folds] at h
  | .ptr _ _ _,_ ::_,_,_,_,_,_,_,h=>by simp [folds] at h
  | .ref _,_ ::_,_,_,_,_,_,_,h=>by simp [folds] at h
  | .fn _ _ _,_ ::_,_,_,_,_,_,_,h=>by simp [folds] at h
theorem ok_nilck {x:PV} {u:Value} {K:PV→Heap→Option β} (hr:Rel S F w H) (hx:Val S F w x u)
    (h:nilckK H x K=some r):K x H=some r∧((∃ a,u = .pointer (some a))∨∃ f a b,u = .func (.func f) a b):=by
  cases hx<;>simp only [nilckK,reduceCtorEq] at h
  case ptr b blk j hb=>obtain ⟨_,_,h⟩:=live_some h;exact ⟨h, .inl ⟨_,rfl⟩⟩
  case ptra b a n cap sz i j hb hi=>obtain ⟨_,_,h⟩:=live_some h;exact ⟨h, .inl ⟨_,rfl⟩⟩
  case ptrd b i j hb ho=>obtain ⟨x,hx,h⟩:=live_some h;exact absurd hb (live_not_dead hr hx).1
  case ref=>exact ⟨h, .inl ⟨_,rfl⟩⟩
  case fn=>exact ⟨h, .inr ⟨_,_,_,rfl⟩⟩
end
end Go.Proofs.YtdcphpbimeoioaaGreatDoorE
end
section
set_option linter.unusedSectionVars false
namespace Go.Proofs.YtdcphpbimeoioaaGreatDoorE
open Go
set_option linter.unusedVariables false
set_option linter.unusedSimpArgs false
variable [Dm]
section
variable {β:Type} {P:Program} {S S':Nat→SL} {F F':Nat→Prop} {w w':World} {H:Heap} {E:Env} {ρ:Operand→Value} {O:Orc} {nb:Nat} {r:β}
theorem SlotOk.mono {s:Slot} {l:SL} (h:SlotOk S F w s l) (hF:∀ k,F k→F' k) (hw:∀ k,F k→w'.heap[k]?=w.heap[k]?) (hS:∀ b,S b ≠ .unused→S' b=S b∨S' b = .dead)
  (hb:∀ k,blkOf l=some k→w'.heap[k]?=w.heap[k]?) (hn:∀ k,blkOf l=some k→F' k→F k):SlotOk S' F' w' s l:=by
 cases s with
 | unused=>cases l<;>simp only [SlotOk] at h ⊢
 | dead=>cases l<;>simp only [SlotOk] at h ⊢
 | live x =>
  cases x with
  | box cs wr =>
   cases l<;>simp only [SlotOk] at h ⊢
   obtain ⟨⟨c,t,h1,h2,h3,h4⟩,h5,h6⟩:=h
   exact ⟨⟨c,t,(hb _ rfl).trans h1,h2,fun j p v a b=>(h3 j p v a b).mono hF hw hS,h4⟩,fun a b=>h5 a (hn _ rfl b),fun a=>hF _ (h6 a)⟩
  | arr t xs wr =>
   cases l<;>simp only [SlotOk] at h ⊢
   rename_i a n cap sz
   obtain ⟨h1,h2,h3,h4,h5⟩:=h
   refine ⟨h1,h2,h3,h4,?_⟩
   rcases h5 with h5|⟨ad,rfl,hA,h6,h7⟩
   ·exact .inl h5
   ·by_cases hc:cap=0
    ·exact .inl hc
    have hbk:blkOf (.arr (some ad) n cap sz)=some ad.block:=by simp [blkOf,hc]
    obtain ⟨g0,c,tt,fr,g1,g2,g3,g4,g5⟩:=hA
    refine .inr ⟨ad,rfl,⟨g0,c,tt,fr,(hb _ hbk).trans g1,g2,g3,g4,fun i x j p a b=>?_⟩,fun a b=>h6 a (hn _ hbk b),fun a=>hF _ (h7 a)⟩
    obtain ⟨v,e1,e2⟩:=g5 i x j p a b
    exact ⟨v,e1,e2.mono hF hw hS⟩
theorem unused_S (hr:Rel S F w H) {b:Nat} (h:hget H b = .unused):S b = .unused:=by
 have:=hr.slots b
 rw [h] at this
 cases hs:S b<;>rw [hs] at this<;>simp only [SlotOk] at this
def upS (S:Nat→SL) (b:Nat) (l:SL):Nat→SL:=fun c=>if c=b then l else S c
theorem new_rel (hr:Rel S F w H) (hu:hget H nb = .unused) {x:Blk} (hx:x.wr=true) {o:Obj} {l:SL} (hl:blkOf l=some w.heap.size∨blkOf l=none) (hld:l ≠ .unused)
  (hok:SlotOk (upS S nb l) F { w with heap:=w.heap.push o } (.live x) l) :
  Rel (upS S nb l) F { w with heap:=w.heap.push o } (hset H nb (.live x))∧Adv S F w H (upS S nb l) F { w with heap:=w.heap.push o } (hset H nb (.live x)):=by
 have hS:∀ b,S b ≠ .unused→upS S nb l b=S b∨upS S nb l b = .dead:=by
  intro b hb
  unfold upS
  by_cases e:b=nb
  ·subst e;exact absurd (unused_S hr hu) hb
  ·rw [if_neg e];exact .inl rfl
 have hold:∀ k,k<w.heap.size→(w.heap.push o)[k]?=w.heap[k]?:=by
  intro k hk;rw [Array.getElem?_push];rw [if_neg (by omega)]
 have hlive:∀ b k,blkOf (S b)=some k→k<w.heap.size:=by
  intro b k hb
  cases hg:hget H b with
  | unused=>rw [unused_S hr hg] at hb;cases hb
  | dead =>
   have:=hr.slots b;rw [hg] at this
   cases hs:S b<;>rw [hs] at this hb<;>simp only [SlotOk] at this
   cases hb
  | live y=>exact blkOf_lt hr hg hb
 constructor
 ·refine ⟨fun b=>?_,fun b b' k hb hb'=>?_,fun k hk=>?_,hr.gl.mono (fun _ h=>h) fun k hk=>hold k (hr.fsz k hk)⟩
  ·by_cases e:b=nb
   ·subst e
    rw [hget_hset_same]
    simpa [upS] using hok
   ·rw [hget_hset_ne _ _ _ _ e]
    have:upS S nb l b=S b:=if_neg e
    rw [this]
    exact (hr.slots b).mono (fun _ h=>h) (fun k hk=>hold k (hr.fsz k hk)) hS (fun k hk=>hold k (hlive b k hk)) (fun _ _ h=>h)
  ·unfold upS at hb hb'
   split at hb<;>split at hb'
   ·rename_i e1 e2;rw [e1,e2]
   ·rcases hl with h|h
    ·rw [h] at hb;cases hb;have:=hlive _ _ hb';omega
    ·rw [h] at hb;cases hb
   ·rcases hl with h|h
    ·rw [h] at hb';cases hb';have:=hlive _ _ hb;omega
    ·rw [h] at hb';cases hb'
   ·exact hr.inj _ _ _ hb hb'
  ·have:=hr.fsz k hk;simp;omega
 ·refine ⟨fun _ h=>h,hS,by simp,fun k hk _=>hold k hk,fun k hk=>?_,fun k hk => .inl hk,rfl,rfl,rfl,(fun _=>Nat.le_refl _)⟩
  obtain ⟨b,y,hy,hw,hb⟩:=hk
  by_cases e:b=nb
  ·subst e
   have:upS S b l b=l:=if_pos rfl
   rw [this] at hb
   rcases hl with h|h
   ·rw [h] at hb;cases hb;exact .inr (Nat.le_refl _)
   ·rw [h] at hb;cases hb
  ·rw [hget_hset_ne _ _ _ _ e] at hy
   have:upS S nb l b=S b:=if_neg e
   rw [this] at hb
   exact .inl ⟨b,y,hy,hw,hb⟩
theorem not_F_size (hr:Rel S F w H):¬ F w.heap.size:=fun h=>by have:=hr.fsz _ h;omega
theorem Val.new (hr:Rel S F w H) (hu:hget H nb = .unused) {l:SL} {o:Obj} {p:PV} {v:Value} (h:Val S F w p v):Val (upS S nb l) F { w with heap:=w.heap.push o } p v :=
 h.mono (fun _ h=>h) (fun k hk=>by have:=hr.fsz k hk;show (w.heap.push o)[k]?=_;rw [Array.getElem?_push,if_neg (by omega)]) (fun b hb=>by
  unfold upS
  by_cases e:b=nb
  ·subst e;exact absurd (unused_S hr hu) hb
  ·rw [if_neg e];exact .inl rfl)
theorem new_box (hr:Rel S F w H) (hu:hget H nb = .unused) {cs:List PV} {c:Array Value} {t:TypeId} (hl:c.size=cs.length) (hv:∀ (i:Nat) (p:PV) (v:Value),cs[i]?=some p→c[i]?=some v→Val S F w p v) (ho:∀ (i:Nat) (v:Value),c[i]?=some v→v.oneCell=true) :
  let w':World:={ w with heap:=w.heap.push (.cells c t) }
  ∃ S',Rel S' F w' (hset H nb (.live (.box cs true)))∧Adv S F w H S' F w' (hset H nb (.live (.box cs true)))∧Val S' F w' (.ptr nb 0 0) (.pointer (some ⟨w.heap.size,0,none⟩)):=by
 intro w'
 have hg:(w.heap.push (Obj.cells c t))[w.heap.size]?=some (.cells c t (0,0)):=by simp
 obtain ⟨h1,h2⟩:=new_rel (nb:=nb) (x := .box cs true) (o := .cells c t) (l := .box w.heap.size) hr hu rfl (.inl rfl) (by simp)
  (by simp only [SlotOk];exact ⟨⟨c,t,hg,hl,fun j p v a b=>(hv j p v a b).new hr hu,ho⟩,fun _=>not_F_size hr,fun h=>by cases h⟩)
 exact ⟨_,h1,h2, .ptr nb w.heap.size 0 (by simp [upS])⟩
theorem new_arr (hr:Rel S F w H) (hu:hget H nb = .unused) {t:Ty} {xs:List (El t)} {c:Array Value} {e:TypeId} {cap:Nat} {fr:Nat×Nat} (hn:xs.length≤cap) (hl:cap * t.size≤c.size) (hfr:∀ k,k<c.size→¬ (fr.1≤k∧k<fr.2))
  (hv:∀ (i:Nat) (x:El t) (j:Nat) (p:PV),xs[i]?=some x→(cellsOf t x)[j]?=some p→∃ v,c[i * t.size+j]?=some v∧Val S F w p v) (ho:∀ (i:Nat) (v:Value),c[i]?=some v→v.oneCell=true) :
  let w':World:={ w with heap:=w.heap.push (.cells c e fr) }
  ∃ S',Rel S' F w' (hset H nb (.live (.arr t xs true)))∧Adv S F w H S' F w' (hset H nb (.live (.arr t xs true)))∧Val S' F w' (.own nb) (.slice (some ⟨w.heap.size,0,none⟩) xs.length cap):=by
 intro w'
 have hg:(w.heap.push (Obj.cells c e fr))[w.heap.size]?=some (.cells c e fr):=by simp
 obtain ⟨h1,h2⟩:=new_rel (nb:=nb) (x := .arr t xs true) (o := .cells c e fr) (l := .arr (some ⟨w.heap.size,0,none⟩) xs.length cap t.size) hr hu rfl (by simp only [blkOf];split<;>simp) (by simp)
  (by
   simp only [SlotOk]
   refine ⟨trivial,trivial,hn,fun _ ad h=>by cases h;rfl, .inr ⟨_,rfl,⟨rfl,c,e,fr,hg,by simpa using hl,hfr,ho,fun i x j p a b=>?_⟩,fun _=>not_F_size hr,fun h=>by cases h⟩⟩
   obtain ⟨v,e1,e2⟩:=hv i x j p a b
   exact ⟨v,by simpa using e1,e2.new hr hu⟩)
 exact ⟨_,h1,h2, .own nb _ _ _ t.size (by simp [upS])⟩
theorem new_none (hr:Rel S F w H) (hu:hget H nb = .unused) (t:Ty) (a:Option Addr) :
  ∃ S',Rel S' F w (hset H nb (.live (.arr t [] true)))∧Adv S F w H S' F w (hset H nb (.live (.arr t [] true)))∧Val S' F w (.own nb) (.slice a 0 0):=by
 have hS:∀ b,S b ≠ .unused→upS S nb (.arr a 0 0 t.size) b=S b∨upS S nb (.arr a 0 0 t.size) b = .dead:=by
  intro b hb
  unfold upS
  by_cases e:b=nb
  ·subst e;exact absurd (unused_S hr hu) hb
  ·rw [if_neg e];exact .inl rfl
 have hnone:blkOf (.arr a 0 0 t.size)=none:=by cases a<;>simp [blkOf]
 refine ⟨upS S nb (.arr a 0 0 t.size),⟨fun b=>?_,fun b b' k hb hb'=>?_,hr.fsz,hr.gl⟩,⟨fun _ h=>h,hS,Nat.le_refl _,fun _ _ _=>rfl,fun k hk=>?_,fun k hk => .inl hk,rfl,rfl,rfl,(fun _=>Nat.le_refl _)⟩, .own nb _ _ _ t.size (by simp [upS])⟩
 ·by_cases e:b=nb
  ·subst e
   rw [hget_hset_same]
   simp only [upS,if_true,SlotOk]
   exact ⟨rfl,trivial,Nat.le_refl _,fun h=>absurd rfl h,by simp⟩
  ·rw [hget_hset_ne _ _ _ _ e]
   have:upS S nb (.arr a 0 0 t.size) b=S b:=if_neg e
   rw [this]
   exact (hr.slots b).mono (fun _ h=>h) (fun _ _=>rfl) hS (fun _ _=>rfl) (fun _ _ h=>h)
 ·unfold upS at hb hb'
  split at hb<;>split at hb'
  ·rename_i e1 e2;rw [e1,e2]
  ·rw [hnone] at hb;cases hb
  ·rw [hnone] at hb';cases hb'
  ·exact hr.inj _ _ _ hb hb'
 ·obtain ⟨b,y,hy,hw,hb⟩:=hk
  by_cases e:b=nb
  ·subst e
   have:upS S b (.arr a 0 0 t.size) b = .arr a 0 0 t.size:=if_pos rfl
   rw [this,hnone] at hb;cases hb
  ·rw [hget_hset_ne _ _ _ _ e] at hy
   have:upS S nb (.arr a 0 0 t.size) b=S b:=if_neg e
   rw [this] at hb
   exact .inl ⟨b,y,hy,hw,hb⟩
theorem setCells_spec:∀ (vs:List Value) (b o:Nat) (w:World) (c:Array Value) (t:TypeId) (fr:Nat×Nat),w.heap[b]?=some (.cells c t fr) →
  ∃ c',(w.setCells b o vs).heap[b]?=some (.cells c' t fr)∧c'.size=c.size∧(∀ j,j<o∨o+vs.length≤j→c'[j]?=c[j]?)∧(∀ j,j<vs.length→o+j<c.size→c'[o+j]?=vs[j]?) ∧
   (∀ k,k≠b→(w.setCells b o vs).heap[k]?=w.heap[k]?)∧(w.setCells b o vs).heap.size=w.heap.size
 | [],b,o,w,c,t,fr,h=>⟨c,h,rfl,fun _ _=>rfl,fun j hj=>by simp at hj,fun _ _=>rfl,rfl⟩
 | v ::vs,b,o,w,c,t,fr,h=>by
  have h1:(w.setCell ⟨b,o,none⟩ v).heap[b]?=some (.cells (c.setIfInBounds o v) t fr):=by
   have hb:=(Array.getElem?_eq_some_iff.1 h)
   obtain ⟨hlt,he⟩:=hb
   simp [World.setCell,Array.getElem?_modify,h]
  have h2:∀ k,k≠b→(w.setCell ⟨b,o,none⟩ v).heap[k]?=w.heap[k]?:=by
   intro k hk
   simp [World.setCell,Array.getElem?_modify,Ne.symm hk]
  have h3:(w.setCell ⟨b,o,none⟩ v).heap.size=w.heap.size:=by simp [World.setCell]
  obtain ⟨c',g1,g2,g3,g4,g5,g6⟩:=setCells_spec vs b (o+1) _ _ t fr h1
  refine ⟨c',g1,by rw [g2];simp,fun j hj=>?_,fun j hj hs=>?_,fun k hk=>by rw [World.setCells,g5 k hk,h2 k hk],by rw [World.setCells,g6,h3]⟩
  ·rw [g3 j (by simp at hj;omega),Array.getElem?_setIfInBounds_ne (by simp at hj;omega)]
  ·cases j with
   | zero=>rw [Nat.add_zero,g3 o (by omega)];simp at hs;simp [hs]
   | succ j=>have:=g4 j (by simp at hj;omega) (by simp;omega);rw [show o+(j+1)=o+1+j by omega,this];simp
theorem setCells_str:∀ (vs:List Value) (b o:Nat) (w:World),Str w (w.setCells b o vs)
 | [],_,_,_=>⟨rfl,rfl,rfl,(fun _=>Nat.le_refl _)⟩
 | _ ::vs,b,o,w=>Str.trans ⟨rfl,rfl,rfl,(fun _=>Nat.le_refl _)⟩ (setCells_str vs b (o+1) _)
theorem upd_rel (hr:Rel S F w H) {b k:Nat} {x y:Blk} (hx:hget H b = .live x) (hw:x.wr=true) (hy:y.wr=true) (hb:blkOf (S b)=some k) (hsz:w'.heap.size=w.heap.size) (ho:∀ k',k'≠k→w'.heap[k']?=w.heap[k']?)
  (hst:Str w w') (hok:SlotOk S F w' (.live y) (S b)):Rel S F w' (hset H b (.live y))∧Adv S F w H S F w' (hset H b (.live y)):=by
 have hWR:WR S H k:=⟨b,x,hx,hw,hb⟩
 have hnF:¬ F k:=fun h=>hr.not_wr h hWR
 constructor
 ·refine ⟨fun c=>?_,hr.inj,fun k hk=>by rw [hsz];exact hr.fsz k hk,hr.gl.mono (fun _ h=>h) fun k' hk'=>ho k' fun e'=>hnF (e' ▸ hk')⟩
  by_cases e:c=b
  ·subst e;rw [hget_hset_same];exact hok
  ·rw [hget_hset_ne _ _ _ _ e]
   exact (hr.slots c).mono (fun _ h=>h) (fun k' hk'=>ho k' (fun e'=>hnF (e' ▸ hk'))) (fun _ _ => .inl rfl) (fun k' hk'=>ho k' (fun e'=>e (hr.inj c b k (e' ▸ hk') hb))) (fun _ _ h=>h)
 ·refine ⟨fun _ h=>h,fun _ _ => .inl rfl,by rw [hsz];exact Nat.le_refl _,fun k' hk' hn=>ho k' (fun e=>hn (e ▸ hWR)),fun k' hk'=>?_,fun _ h => .inl h,hst⟩
  obtain ⟨c,z,hz,hzw,hzb⟩:=hk'
  by_cases e:c=b
  ·subst e;exact .inl ⟨c,x,hx,hw,hzb⟩
  ·rw [hget_hset_ne _ _ _ _ e] at hz;exact .inl ⟨c,z,hz,hzw,hzb⟩
theorem Val.upd (hr:Rel S F w H) {b k:Nat} {x:Blk} (hx:hget H b = .live x) (hw:x.wr=true) (hb:blkOf (S b)=some k) (ho:∀ k',k'≠k→w'.heap[k']?=w.heap[k']?) {p:PV} {v:Value} (h:Val S F w p v):Val S F w' p v :=
 h.mono (fun _ h=>h) (fun k' hk'=>ho k' (fun e=>hr.not_wr hk' (e ▸ ⟨b,x,hx,hw,hb⟩))) (fun _ _ => .inl rfl)
theorem splice_get {row cs:List PV} {j i:Nat} {p:PV} (hj:j+cs.length≤row.length) (h:(splice row j cs)[i]?=some p):(j≤i∧i<j+cs.length∧cs[i - j]?=some p)∨((i<j∨j+cs.length≤i)∧row[i]?=some p):=by
 unfold splice at h
 have h1:(row.take j).length=j:=by simp;omega
 by_cases a:i<j
 ·rw [List.getElem?_append_left (by simp;omega),List.getElem?_append_left (by omega),List.getElem?_take,if_pos a] at h
  exact .inr ⟨.inl a,h⟩
 ·by_cases b:i<j+cs.length
  ·rw [List.getElem?_append_left (by simp;omega),List.getElem?_append_right (by omega),h1] at h
   exact .inl ⟨by omega,b,h⟩
  ·rw [List.getElem?_append_right (by simp;omega),List.getElem?_drop] at h
   refine .inr ⟨.inr (by omega),?_⟩
   rw [← h];congr 1;simp;omega
theorem splice_length {row cs:List PV} {j:Nat} (hj:j+cs.length≤row.length):(splice row j cs).length=row.length:=by simp [splice];omega
theorem run_store_cells {b o:Nat} {vs:List Value} {c:Array Value} {t:TypeId} {fr:Nat×Nat} (hg:w.heap[b]?=some (.cells c t fr)) (hl:o+vs.length≤c.size) (hfr:∀ k,k<c.size→¬ (fr.1≤k∧k<fr.2)) (ho:∀ v∈vs,v.oneCell=true) :
  (storeCells ⟨b,o,none⟩ vs).run P w = .ok () (w.setCells b o vs):=by
 refine run_storeCells_cells b o vs 0 w (fun j hj=>?_) (fun j hj=>?_) (fun v hv=>?_)
 ·simp [World.cell?,hg];omega
 ·have:=hfr (o+0+j) (by omega)
  simp only [World.frozen?,hg]
  cases h1:decide (fr.1≤o+0+j)<;>simp_all
 ·have:=ho v hv;cases v<;>simp_all [Value.oneCell,Value.oneCell']
end
end Go.Proofs.YtdcphpbimeoioaaGreatDoorE
end
section
set_option linter.unusedSectionVars false
namespace Go.Proofs.YtdcphpbimeoioaaGreatDoorE
open Go
set_option linter.unusedVariables false
set_option linter.unusedSimpArgs false
variable [Dm]
section
variable {β:Type} {P:Program} {S S':Nat→SL} {F F':Nat→Prop} {w w':World} {H H':Heap} {E:Env} {ρ:Operand→Value} {O:Orc} {nb:Nat} {r:β}
theorem Val.heap (h:w'.heap=w.heap) {p:PV} {v:Value} (hv:Val S F w p v):Val S F w' p v:=hv.mono (fun _ h=>h) (fun k _=>by rw [h]) (fun _ _ => .inl rfl)
theorem Rel.heap (h:w'.heap=w.heap) (hr:Rel S F w H):Rel S F w' H :=
 ⟨fun b=>(hr.slots b).mono (fun _ h=>h) (fun k _=>by rw [h]) (fun _ _ => .inl rfl) (fun k _=>by rw [h]) (fun _ _ h=>h),hr.inj,fun k hk=>by rw [h];exact hr.fsz k hk,hr.gl.mono (fun _ h=>h) fun k _=>by rw [h]⟩
theorem Adv.heap (h:w'.heap=w.heap) (hs:Str w w') (S:Nat→SL) (F:Nat→Prop) (H:Heap):Adv S F w H S F w' H :=
 ⟨fun _ h=>h,fun _ _ => .inl rfl,by rw [h];exact Nat.le_refl _,fun k _ _=>by rw [h],fun _ h => .inl h,fun _ h => .inl h,hs⟩
theorem Rel.congr (hr:Rel S F w H) (h:∀ b,hget H' b=hget H b):Rel S F w H':=⟨fun b=>by rw [h];exact hr.slots b,hr.inj,hr.fsz,hr.gl⟩
theorem WR.congr (h:∀ b,hget H' b=hget H b) {k:Nat} (hk:WR S H' k):WR S H k:=by obtain ⟨b,x,h1,h2,h3⟩:=hk;exact ⟨b,x,(h b) ▸ h1,h2,h3⟩
theorem Adv.congr {S2:Nat→SL} {F2:Nat→Prop} {w2:World} {H2 H3:Heap} (ha:Adv S F w H S2 F2 w2 H2) (h:∀ b,hget H3 b=hget H2 b):Adv S F w H S2 F2 w2 H3 :=
 ⟨ha.ff,ha.ss,ha.sz,ha.same,fun k hk=>ha.wr k (WR.congr h hk),ha.fn,ha.st⟩
theorem castL_some {t u:Ty} {xs:List (El t)} {ys:List (El u)} (h:castL u xs=some ys):∃ e:t=u,ys=e ▸ xs:=by
 unfold castL at h;split at h
 ·rename_i e;cases h;exact ⟨e,rfl⟩
 ·cases h
theorem decK_some:∀ {t:Ty} {cs:List PV} {K:El t→List PV→Option β} {r:β},decK t cs K=some r→∃ x rest,K x rest=some r∧cs=cellsOf t x++rest
 | .int k,cs,K,r,h=>by
  cases cs with
  | nil=>simp [decK] at h
  | cons c cs =>
   cases c with
   | int k' n =>
    have h':cond (decide (k=k')) (K n cs) none=some r:=h
    obtain ⟨h1,h2⟩:=cond_some h'
    have:=of_decide_eq_true h1
    subst this
    exact ⟨_,_,h2,rfl⟩
   | _=>simp [decK] at h
 | .bool,cs,K,r,h=>by
  cases cs with
  | nil=>simp [decK] at h
  | cons c cs=>cases c<;>simp [decK] at h;exact ⟨_,_,h,rfl⟩
 | .str,cs,K,r,h=>by
  cases cs with
  | nil=>simp [decK] at h
  | cons c cs=>cases c<;>simp [decK] at h;exact ⟨_,_,h,rfl⟩
 | .slice t,cs,K,r,h=>by
  cases cs with
  | nil=>simp [decK] at h
  | cons c cs =>
   cases c<;>simp [decK] at h
   obtain ⟨ys,h1,h2⟩:=optK_some h
   obtain ⟨e,rfl⟩:=castL_some h1
   subst e
   exact ⟨_,_,h2,rfl⟩
 | .pair a b,cs,K,r,h=>by
  have h':decK a cs (fun x r=>decK b r fun y r'=>K (x,y) r')=some r:=by unfold decK at h;exact h
  obtain ⟨x,rest,h1,e1⟩:=decK_some h'
  obtain ⟨y,rest',h2,e2⟩:=decK_some h1
  exact ⟨(x,y),rest',h2,by rw [e1,e2];simp [cellsOf]⟩
 | .unit,cs,K,r,h=>⟨(),cs,by simpa [decK] using h,rfl⟩
 | .none,cs,K,r,h=>by cases cs<;>simp [decK] at h
theorem run_sizeOf {t:TypeId} {n:Nat} (hz:szOf P t=some n) (w:World):(sizeOf t).run P w = .ok n w:=by
 unfold szOf at hz
 cases hi:P.info? t<;>simp [hi] at hz
 simp [sizeOf,typeInfo,hi,hz]
theorem run_storeVar {t:TypeId} {n b o:Nat} {v:Value} {c:Array Value} {ty:TypeId} {fr:Nat×Nat} (hz:szOf P t=some n) (hn:v.cells.size=n) (hg:w.heap[b]?=some (.cells c ty fr)) (hl:o+n≤c.size) (hfr:∀ k,k<c.size→¬ (fr.1≤k∧k<fr.2))
  (ho:∀ (i:Nat) (u:Value),v.cells[i]?=some u→u.oneCell=true):(storeVar t ⟨b,o,none⟩ v).run P w = .ok () (w.setCells b o v.cells.toList):=by
 have hs:=run_store_cells (P:=P) (vs:=v.cells.toList) hg (by simpa [hn] using hl) hfr (fun u hu=>by obtain ⟨i,hi⟩:=List.getElem?_of_mem hu;exact ho i u (by simpa using hi))
 simp [storeVar,run_sizeOf hz,hn,hs]
theorem ok_store {b i j n:Nat} {v:PV} {u ua:Value} {t:TypeId} {K:PV→Heap→Option β} (hr:Rel S F w H) (ha:Val S F w (.ptr b i j) ua) (hv:Val S F w v u) (hz:szOf P t=some n) (h:storeAt H b i j n v K=some r) :
  ∃ w',(Instr.storeAt t ua u).run P w = .ok () w'∧Aft S F w H K r undef w':=by
 unfold storeAt at h
 obtain ⟨x,hx,h⟩:=live_some h
 split at h
 ·rename_i row
  obtain ⟨cs,h,hsz,hcv,hco⟩:=cells_val h hv
  obtain ⟨hn,h⟩:=fit_some h
  obtain ⟨h1,hK⟩:=cond_some h
  clear h
  rw [fH_eq] at hK
  simp only [Bool.and_eq_true] at h1
  obtain rfl:i=0:=Nat.eq_of_beq_eq_true h1.1
  have hle:j+n≤row.length:=Nat.le_of_ble_eq_true h1.2
  obtain ⟨k,hS,⟨c,ty,g1,g2,g3,g4⟩,g5,g6⟩:=hget_box hr hx
  have hua:ua = .pointer (some ⟨k,j,none⟩):=by
   cases ha with
   | ptr _ blk _ hb=>rw [hS] at hb;cases hb;rfl
   | ptra _ _ _ _ _ _ _ hb _=>rw [hS] at hb;cases hb
   | ptrd _ _ _ _ hb _=>rw [hS] at hb;cases hb
  subst hua
  have hfr:∀ k',k'<c.size→¬ ((0,0):Nat×Nat).1≤k'∨¬ k'<((0,0):Nat×Nat).2:=fun k' _ => .inr (by simp)
  have hrun:=run_storeVar (P:=P) (o:=j) hz (hsz.trans hn) g1 (by omega) (fun k' _ hh=>by simp at hh) hco
  obtain ⟨c',s1,s2,s3,s4,s5,s6⟩:=setCells_spec u.cells.toList k j w c ty (0,0) g1
  have hbk:blkOf (S b)=some k:=by rw [hS];rfl
  have hother:=s5
  obtain ⟨r1,r2⟩:=upd_rel (y := .box (splice row j cs) true) hr hx rfl rfl hbk s6 s5 (setCells_str _ _ _ _) (by
   rw [hS]
   simp only [SlotOk]
   refine ⟨⟨c',ty,s1,by rw [s2,g2,splice_length (by omega)],fun jj p vv hp hvv=>?_,fun jj vv hvv=>?_⟩,fun _=>g5 rfl,fun h=>by cases h⟩
   ·rcases splice_get (by omega) hp with ⟨q1,q2,q3⟩|⟨q1,q2⟩
    ·have:=s4 (jj - j) (by simp [hsz];omega) (by omega)
     rw [show j+(jj - j)=jj by omega,hvv] at this
     exact (hcv _ _ _ q3 (by simpa using this.symm)).upd hr hx rfl hbk s5
    ·have:=s3 jj (by simp [hsz];omega)
     rw [hvv] at this
     exact (g3 _ _ _ q2 this.symm).upd hr hx rfl hbk s5
   ·by_cases hin:jj<j∨j+n≤jj
    ·have:=s3 jj (by simp [hsz];omega)
     rw [hvv] at this
     exact g4 _ _ this.symm
    ·have hlt:jj<c'.size:=(Array.getElem?_eq_some_iff.1 hvv).1
     have:=s4 (jj - j) (by simp [hsz];omega) (by omega)
     rw [show j+(jj - j)=jj by omega,hvv] at this
     exact hco _ _ (by simpa using this.symm))
  exact ⟨_,by simpa [Instr.storeAt,Instr.sureAddr] using hrun, .junk,_,S,F,hK,r1, .junk _,r2⟩
 ·rename_i t' xs
  cases hm:memN b (ownIds v) with
  | true=>rw [hm] at h;cases h
  | false =>
   rw [hm] at h
   simp only [cond_false] at h
   obtain ⟨fr1,fr2⟩:=frz_rel hr (ownIds v)
   have hsv:Val S (FZ S F H (ownIds v)) w (snapV H v) u:=snapV_val hr hv (fun k hk => .inl hk) (fun b' k hb' ⟨x,hx⟩ hk => .inr ⟨b',x,hb',hx,hk⟩)
   obtain ⟨cs,h,hsz,hcv,hco⟩:=cells_val h hsv
   obtain ⟨hn,h⟩:=fit_some h
   obtain ⟨y,hy,h⟩:=bindN_some h
   obtain ⟨h1,h⟩:=cond_some h
   obtain ⟨z,rest,h,hcs⟩:=decK_some h
   have hrest:rest=[]:=by cases rest<;>simp at h ⊢
   subst hrest
   simp only [List.append_nil] at hcs
   simp only [fH_eq] at h
   have hle:j+n≤t'.size:=Nat.le_of_ble_eq_true h1
   have hyi:=lat_some hy
   have hx':hget (frz H (ownIds v)) b = .live (.arr t' xs true):=by rw [hget_frz,hm,hx];rfl
   obtain ⟨a,cap,hS,hcap,hor,hsp⟩:=hget_arr fr1 hx'
   have hlen:i<xs.length:=(List.getElem?_eq_some_iff.1 hyi).1
   rcases hor with h0|⟨ad,rfl,⟨g0,c,ty,fr,g1,g2,g3,g4,g5⟩,g6,g7⟩
   ·omega
   have hc0:cap≠0:=by omega
   obtain ⟨blk,off,sp⟩:=ad
   simp only at g0;subst g0
   have hua:ua = .pointer (some ⟨blk,off+i * t'.size+j,none⟩):=by
    cases ha with
    | ptr _ _ _ hb=>rw [hS] at hb;cases hb
    | ptra _ _ _ _ _ _ _ hb _=>rw [hS] at hb;cases hb;rfl
    | ptrd _ _ _ _ hb _=>rw [hS] at hb;cases hb
   subst hua
   have hmul:i * t'.size+t'.size≤cap * t'.size:=by
    have:(i+1) * t'.size≤cap * t'.size:=Nat.mul_le_mul_right _ (by omega)
    rwa [Nat.add_mul,Nat.one_mul] at this
   simp only at g1 g2 g3 g5
   have hrun:=run_storeVar (P:=P) (o:=off+i * t'.size+j) hz (hsz.trans hn) g1 (by omega) g3 hco
   obtain ⟨c',s1,s2,s3,s4,s5,s6⟩:=setCells_spec u.cells.toList blk (off+i * t'.size+j) w c ty fr g1
   have hbk:blkOf (S b)=some blk:=by rw [hS];simp [blkOf,hc0]
   obtain ⟨r1,r2⟩:=upd_rel (y := .arr t' (lput xs i z) true) fr1 hx' rfl rfl hbk s6 s5 (setCells_str _ _ _ _) (by
    rw [hS]
    simp only [SlotOk]
    have hll:∀ (l:List (El t')) (i:Nat) (z:El t'),(lput l i z).length=l.length:=by
     intro l;simp only [lput_eq];induction l with
     | nil=>intro i z;rfl
     | cons a l ih=>intro i z;cases i<;>simp [lset,ih]
    have hlg:∀ (l:List (El t')) (i:Nat) (z:El t') (k:Nat) (q:El t'),(lput l i z)[k]?=some q→(k=i∧q=z)∨(k≠i∧l[k]?=some q):=by
     intro l;simp only [lput_eq];induction l with
     | nil=>intro i z k q h;simp [lset] at h
     | cons a l ih =>
      intro i z k q h
      cases i with
      | zero=>cases k with
       | zero=>simp [lset] at h;exact .inl ⟨rfl,h.symm⟩
       | succ k=>simp [lset] at h;exact .inr ⟨by omega,by simpa using h⟩
      | succ i=>cases k with
       | zero=>simp [lset] at h;exact .inr ⟨by omega,by simpa using h⟩
       | succ k=>simp [lset] at h;rcases ih _ _ _ _ h with ⟨rfl,rfl⟩|⟨h1,h2⟩;exact .inl ⟨rfl,rfl⟩;exact .inr ⟨by omega,by simpa using h2⟩
    refine ⟨(hll _ _ _).symm,trivial,hcap,fun _ ad h=>by cases h;rfl, .inr ⟨_,rfl,⟨rfl,c',ty,fr,s1,by simpa [s2] using g2,by simpa [s2] using g3,fun jj vv hvv=>?_,fun k q jj p hq hp=>?_⟩,fun _=>g6 rfl,fun h=>by cases h⟩⟩
    ·by_cases hin:jj<off+i * t'.size+j∨off+i * t'.size+j+n≤jj
     ·have:=s3 jj (by simp [hsz];omega)
      rw [hvv] at this
      exact g4 _ _ this.symm
     ·have hlt:jj<c'.size:=(Array.getElem?_eq_some_iff.1 hvv).1
      have:=s4 (jj - (off+i * t'.size+j)) (by simp [hsz];omega) (by omega)
      rw [show off+i * t'.size+j+(jj - (off+i * t'.size+j))=jj by omega,hvv] at this
      exact hco _ _ (by simpa using this.symm)
    ·have hjj:jj<t'.size:=by have:=(List.getElem?_eq_some_iff.1 hp).1;rw [cellsOf_size] at this;exact this
     simp only
     rcases hlg _ _ _ _ _ hq with ⟨rfl,rfl⟩|⟨hne,hq'⟩
     ·rw [← hcs] at hp
      rcases splice_get (by rw [cellsOf_size];omega) hp with ⟨q1,q2,q3⟩|⟨q1,q2⟩
      ·have:=s4 (jj - j) (by simp [hsz];omega) (by omega)
       rw [show off+k * t'.size+j+(jj - j)=off+k * t'.size+jj by omega] at this
       have hlt:jj - j<u.cells.size:=by omega
       refine ⟨u.cells[jj - j],by rw [this];simp [hlt],(hcv _ _ _ q3 (Array.getElem?_eq_getElem hlt)).upd fr1 hx' rfl hbk s5⟩
      ·obtain ⟨vv,e1,e2⟩:=g5 k y jj p hyi q2
       refine ⟨vv,by rw [s3 _ (by simp [hsz];omega)];exact e1,e2.upd fr1 hx' rfl hbk s5⟩
     ·obtain ⟨vv,e1,e2⟩:=g5 k q jj p hq' hp
      refine ⟨vv,?_,e2.upd fr1 hx' rfl hbk s5⟩
      rw [s3 _ ?_];exact e1
      simp only [Array.length_toList,hsz,hn]
      rcases Nat.lt_or_gt_of_ne hne with hlt|hgt
      ·left
       have:(k+1) * t'.size≤i * t'.size:=Nat.mul_le_mul_right _ (by omega)
       rw [Nat.add_mul,Nat.one_mul] at this
       omega
      ·right
       have:(i+1) * t'.size≤k * t'.size:=Nat.mul_le_mul_right _ (by omega)
       rw [Nat.add_mul,Nat.one_mul] at this
       omega)
   have hcg:∀ c,hget (frz (hset H b (.live (.arr t' (lput xs i z) true))) (ownIds v)) c=hget (hset (frz H (ownIds v)) b (.live (.arr t' (lput xs i z) true))) c:=by
    intro c
    rw [hget_frz]
    by_cases e:c=b
    ·subst e;rw [hget_hset_same,hget_hset_same,hm];rfl
    ·rw [hget_hset_ne _ _ _ _ e,hget_hset_ne _ _ _ _ e,hget_frz]
   exact ⟨_,by simpa [Instr.storeAt,Instr.sureAddr] using hrun, .junk,_,S,_,h,r1.congr hcg, .junk _,(fr2.trans' r2).congr hcg⟩
 ·cases h
end
end Go.Proofs.YtdcphpbimeoioaaGreatDoorE
end
section
set_option linter.unusedSectionVars false
namespace Go.Proofs.YtdcphpbimeoioaaGreatDoorE
open Go
set_option linter.unusedVariables false
set_option linter.unusedSimpArgs false
variable [Dm]
section
variable {β:Type} {P:Program} {S S':Nat→SL} {F F':Nat→Prop} {w w':World} {H H':Heap} {E:Env} {ρ:Operand→Value} {O:Orc} {nb:Nat} {r:β}
def FillRel (S:Nat→SL) (F:Nat→Prop) (w:World) (cs:List PV) (arr:Array Value):Prop :=
 arr.size=cs.length∧(∀ (i:Nat) (p:PV) (v:Value),cs[i]?=some p→arr[i]?=some v→Val S F w p v)∧(∀ (i:Nat) (v:Value),arr[i]?=some v→v.oneCell=true)
theorem foldl_put (off:Nat):∀ (l:List Value) (k:Nat) (cs:Array Value),
  ((l.zipIdx k).foldl (fun (cs:Array Value) (x:Value×Nat)=>cs.setIfInBounds (off+x.2) x.1) cs).size=cs.size ∧
  ∀ i,((l.zipIdx k).foldl (fun (cs:Array Value) (x:Value×Nat)=>cs.setIfInBounds (off+x.2) x.1) cs)[i]?=if off+k≤i∧i<off+k+l.length∧i<cs.size then l[i - (off+k)]? else cs[i]?
 | [],k,cs=>⟨rfl,fun i=>by simp;intro h1 h2;omega⟩
 | v ::l,k,cs=>by
  obtain ⟨h1,h2⟩:=foldl_put off l (k+1) (cs.setIfInBounds (off+k) v)
  simp only [List.zipIdx_cons,List.foldl_cons]
  refine ⟨by rw [h1];simp,fun i=>?_⟩
  rw [h2 i]
  by_cases a:off+(k+1)≤i∧i<off+(k+1)+l.length∧i<(cs.setIfInBounds (off+k) v).size
  ·rw [if_pos a]
   obtain ⟨a1,a2,a3⟩:=a
   simp at a3
   rw [if_pos ⟨by omega,by simp;omega,a3⟩]
   rw [show i - (off+k)=(i - (off+(k+1)))+1 by omega];rfl
  ·rw [if_neg a]
   simp at a
   by_cases b:i=off+k
   ·subst b
    by_cases c:off+k<cs.size
    ·rw [if_pos ⟨by omega,by simp,c⟩];simp [c]
    ·rw [if_neg (by omega)];simp [c]
   ·rw [Array.getElem?_setIfInBounds_ne (by omega)]
    by_cases c:off+k≤i∧i<off+k+(v ::l).length∧i<cs.size
    ·obtain ⟨c1,c2,c3⟩:=c
     simp at c2
     exact absurd c3 (by have:=a (by omega) (by omega);omega)
    ·rw [if_neg c]
theorem fill_ok (place:Nat→Option (Nat×Nat)):∀ (ps:List (Nat×Nat×PV)) (vs:List (Nat×Value)) (cs:List PV) (arr:Array Value) (K:List PV→Option β),
  vs.length=ps.length→(∀ (i:Nat) (p:Nat×Nat×PV) (v:Nat×Value),ps[i]?=some p→vs[i]?=some v→place v.1=some (p.1,p.2.1)∧Val S F w p.2.2 v.2)→FillRel S F w cs arr→fillR cs ps K=some r →
  ∃ cs' arr',K cs'=some r∧Instr.fill place arr vs=some arr'∧FillRel S F w cs' arr'∧cs'.length=cs.length
 | [],vs,cs,arr,K,hl,_,hf,h=>by
  have:vs=[]:=by simpa using hl
  subst this
  exact ⟨cs,arr,h,rfl,hf,rfl⟩
 | (off,n,v) ::ps,vs,cs,arr,K,hl,hp,hf,h=>by
  cases vs with
  | nil=>simp at hl
  | cons x vs =>
   obtain ⟨h1,h2⟩:=hp 0 _ _ rfl rfl
   simp only [fillR] at h
   obtain ⟨c,h,hsz,hcv,hco⟩:=cells_val h h2
   obtain ⟨hn,h⟩:=fit_some h
   obtain ⟨hle,h⟩:=cond_some h
   have hle:off+n≤cs.length:=Nat.le_of_ble_eq_true hle
   obtain ⟨i,u⟩:=x
   simp only at h1 h2 hsz hcv hco
   obtain ⟨f1,f2⟩:=foldl_put off u.cells.toList 0 arr
   have hfr:FillRel S F w (splice cs off c) (u.cells.zipIdx.foldl (fun cs (c,j)=>cs.setIfInBounds (off+j) c) arr):=by
    have e:u.cells.zipIdx.foldl (fun cs (c,j)=>cs.setIfInBounds (off+j) c) arr=(u.cells.toList.zipIdx 0).foldl (fun (cs:Array Value) (x:Value×Nat)=>cs.setIfInBounds (off+x.2) x.1) arr:=by
     rw [← Array.foldl_toList,Array.toList_zipIdx]
    rw [e]
    refine ⟨by rw [f1,hf.1,splice_length (by omega)],fun j p vv hp hvv=>?_,fun j vv hvv=>?_⟩
    ·rw [f2] at hvv
     simp only [Nat.add_zero,Array.length_toList] at hvv
     rcases splice_get (by omega) hp with ⟨q1,q2,q3⟩|⟨q1,q2⟩
     ·rw [if_pos ⟨q1,by omega,by rw [hf.1];omega⟩] at hvv
      exact hcv _ _ _ q3 (by simpa using hvv)
     ·rw [if_neg (by omega)] at hvv
      exact hf.2.1 _ _ _ q2 hvv
    ·rw [f2] at hvv
     split at hvv
     ·exact hco _ _ (by simpa using hvv)
     ·exact hf.2.2 _ _ hvv
   obtain ⟨cs',arr',g1,g2,g3,g4⟩:=fill_ok place ps vs _ _ K (by simpa using hl) (fun i p v a b=>hp (i+1) p v (by simpa using a) (by simpa using b)) hfr h
   refine ⟨cs',arr',g1,?_,g3,by rw [g4,splice_length (by omega)]⟩
   simp only [Instr.fill,h1]
   rw [if_neg (by simp [hsz,hn,hf.1];omega)]
   exact g2
theorem zeroPV_spec {t:TypeId} {z:List PV} (h:zeroPV P t=some z):∃ i zv,P.info? t=some i∧i.zero=some zv∧zv.cells.size=i.size∧∀ (S:Nat→SL) (F:Nat→Prop) (w:World),FillRel S F w z zv.cells:=by
 unfold zeroPV at h
 split at h
 ·rename_i i hi
  split at h
  ·rename_i zv hz
   cases hc:(zv.cells.toList.all Value.oneCell && Nat.beq zv.cells.size i.size) with
   | false=>rw [hc] at h;cases h
   | true =>
    rw [hc] at h
    simp only [cond_true,Option.some.injEq] at h
    subst h
    simp only [Bool.and_eq_true] at hc
    refine ⟨i,zv,hi,hz,Nat.eq_of_beq_eq_true hc.2,fun S F w=>⟨by simp [cellsPV_length],fun j p v a b=>cellsPV_val _ _ j p v a (by simpa using b),fun j v a=>?_⟩⟩
    exact List.all_eq_true.1 hc.1 v (by simpa using Array.mem_of_getElem? a)
  ·cases h
 ·cases h
theorem zeroPV_run {t:TypeId} {i:TypeInfo} {zv:Value} (hi:P.info? t=some i) (hz:i.zero=some zv) (w:World):(zeroValue t).run P w = .ok zv w:=by simp [zeroValue,typeInfo,hi,hz]
theorem ok_alloc {e:TypeId} {z:List PV} {K:PV→Heap→Option β} (hr:Rel S F w H) (hz:zeroPV P e=some z) (h:fresh H nb (fH (hset H nb (.live (.box z true))) fun H=>K (.ptr nb 0 0) H)=some r) :
  ∃ u w',(Instr.alloc e true (.tuple #[])).run P w = .ok u w'∧Aft S F w H K r u w':=by
 obtain ⟨hu,h⟩:=fresh_some h
 rw [fH_eq] at h
 obtain ⟨i,zv,h1,h2,h3,h4⟩:=zeroPV_spec hz
 obtain ⟨f1,f2,f3⟩:=h4 S F w
 obtain ⟨S',n1,n2,n3⟩:=new_box (t:=e) hr hu f1 f2 f3
 exact ⟨_,_,by simp [Instr.alloc,zeroPV_run h1 h2,newVar,newRow], .ptr nb 0 0,_,S',F,h,n1,n3,n2⟩
theorem ok_box {e:TypeId} {n:Nat} {v:PV} {u:Value} {K:PV→Heap→Option β} (hr:Rel S F w H) (hv:Val S F w v u) (h:cellsK v (fun cs=>fit n cs fun cs=>fresh H nb (fH (hset H nb (.live (.box cs true))) fun H=>K (.ptr nb 0 0) H))=some r) :
  ∃ u' w',(Instr.box e u).run P w = .ok u' w'∧Aft S F w H K r u' w':=by
 obtain ⟨cs,h,hsz,hcv,hco⟩:=cells_val h hv
 obtain ⟨hn,h⟩:=fit_some h
 obtain ⟨hu,h⟩:=fresh_some h
 rw [fH_eq] at h
 obtain ⟨S',n1,n2,n3⟩:=new_box (t:=e) hr hu hsz hcv hco
 exact ⟨_,_,by simp [Instr.box,newVar,newRow], .ptr nb 0 0,_,S',F,h,n1,n3,n2⟩
theorem mapM_fields:∀ (fs:List Field),(fs.all fun f=>(szOf P f.type).isSome)=true→(fs.mapM (fun f=>do pure (f.offset,← sizeOf f.type)):Sem (List (Nat×Nat))).run P w = .ok (fs.map fun f=>(f.offset,P.cellsOf f.type)) w
 | [],_=>by simp
 | f ::fs,h=>by
  simp only [List.all_cons,Bool.and_eq_true] at h
  obtain ⟨n,hn⟩:=Option.isSome_iff_exists.1 h.1
  have hc:P.cellsOf f.type=n:=by unfold szOf at hn;simp [Program.cellsOf,hn]
  have ih:=mapM_fields fs h.2
  simp at ih
  simp [List.mapM_cons,run_sizeOf hn,hc,ih]
theorem ok_build {t:TypeId} {fs:Array Field} {z:List PV} {ps:List (Nat×Nat×Arg)} {parts:Array (Nat×Operand)} {K:PV→Option β} (hd:Opd S F w E ρ) (hu:P.underlying t=some (.struct fs)) (hz:zeroPV P t=some z) (hps:partsOf P fs parts=some ps)
  (hfs:(fs.toList.all fun f=>(szOf P f.type).isSome)=true) (h:fillR z (ps.map (evP E)) (fun cs=>K (.agg cs))=some r):Out P S F w (Instr.build t (parts.map fun (i,x)=>(i,ρ x))) K r:=by
 obtain ⟨i,zv,h1,h2,h3,h4⟩:=zeroPV_spec hz
 have hpl:∀ (l:List (Nat×Operand)) (ps:List (Nat×Nat×Arg)),(l.mapM fun (x:Nat×Operand)=>(fs[x.1]?).map fun f=>(f.offset,P.cellsOf f.type,argOf P f.type x.2))=some ps →
   (l.map fun (x:Nat×Operand)=>(x.1,ρ x.2)).length=(ps.map (evP E)).length∧∀ (k:Nat) (p:Nat×Nat×PV) (v:Nat×Value),(ps.map (evP E))[k]?=some p→(l.map fun (x:Nat×Operand)=>(x.1,ρ x.2))[k]?=some v →
    ((fs.map fun f=>(f.offset,P.cellsOf f.type))[v.1]?=some (p.1,p.2.1))∧Val S F w p.2.2 v.2:=by
  intro l
  induction l with
  | nil=>intro ps h;simp at h;subst h;simp
  | cons x l ih =>
   intro ps h
   rw [List.mapM_cons] at h
   cases hx:fs[x.1]? with
   | none=>rw [hx] at h;simp at h
   | some f =>
    rw [hx] at h
    cases hm:(l.mapM fun (x:Nat×Operand)=>(fs[x.1]?).map fun f=>(f.offset,P.cellsOf f.type,argOf P f.type x.2)) with
    | none=>rw [hm] at h;simp at h
    | some qs =>
     rw [hm] at h
     simp at h
     subst h
     obtain ⟨i1,i2⟩:=ih qs hm
     refine ⟨by simp [i1],fun k p v a b=>?_⟩
     cases k with
     | zero =>
      simp at a b
      subst a b
      exact ⟨by simp [hx,evP],argOf_val hd _ _⟩
     | succ k=>exact i2 k p v (by simpa using a) (by simpa using b)
 obtain ⟨e1,e2⟩:=hpl parts.toList ps hps
 obtain ⟨cs',arr',g1,g2,g3,_⟩:=fill_ok (fun j=>(fs.map fun f=>(f.offset,P.cellsOf f.type))[j]?) (ps.map (evP E)) (parts.toList.map fun (x:Nat×Operand)=>(x.1,ρ x.2)) z zv.cells (fun cs=>K (.agg cs)) e1 e2 (h4 S F w) h
 refine ⟨_, .agg arr',g1, .agg _ _ g3.1 g3.2.1 g3.2.2,?_⟩
 have hm:=mapM_fields (P:=P) (w:=w) fs.toList hfs
 have hm':(fs.mapM (fun f=>do pure (f.offset,← sizeOf f.type)):Sem (Array (Nat×Nat))).run P w = .ok (fs.map fun f=>(f.offset,P.cellsOf f.type)) w:=by
  rw [Array.mapM_eq_mapM_toList]
  simp only [Sem.run_map,hm,Result.andThen_ok]
  congr 1
  apply Array.ext';simp
 simp only [Instr.build,Sem.run_bind,zeroPV_run h1 h2,Result.andThen_ok,underlying,run_program,hu,Sem.run_pure,hm']
 have e3:(parts.map fun (x:Nat×Operand)=>(x.1,ρ x.2)).toList=parts.toList.map fun (x:Nat×Operand)=>(x.1,ρ x.2):=by simp
 rw [e3,g2]
 rfl
end
end Go.Proofs.YtdcphpbimeoioaaGreatDoorE
end
section
set_option linter.unusedSectionVars false
namespace Go.Proofs.YtdcphpbimeoioaaGreatDoorE
open Go
set_option linter.unusedVariables false
set_option linter.unusedSimpArgs false
variable [Dm]
section
variable {β:Type} {P:Program} {S S':Nat→SL} {F F':Nat→Prop} {w w':World} {H H':Heap} {E:Env} {ρ:Operand→Value} {O:Orc} {nb:Nat} {r:β}
def Elems (S:Nat→SL) (F:Nat→Prop) (w:World) (t:Ty) (xs:List (El t)) (cs:List Value):Prop :=
 cs.length=xs.length * t.size∧(∀ u∈cs,u.oneCell=true)∧∀ (i:Nat) (x:El t) (j:Nat) (p:PV),xs[i]?=some x→(cellsOf t x)[j]?=some p→∃ v,cs[i * t.size+j]?=some v∧Val S F w p v
theorem one' {u:Value} (h:u.oneCell=true):u.oneCell'=true:=by cases u<;>simp_all [Value.oneCell,Value.oneCell']
def rowFrom (w:World) (ad:Addr) (n:Nat):List Value:=(List.range n).map fun k=>(w.cell? ⟨ad.block,ad.off+k,none⟩).getD undef
theorem split_lt {k n sz:Nat} (h:k<n * sz):k / sz<n∧k % sz<sz∧k / sz * sz+k % sz=k:=by
 have hs:0<sz:=by cases sz with
  | zero=>simp at h
  | succ s=>omega
 exact ⟨Nat.div_lt_of_lt_mul (by rw [Nat.mul_comm];exact h),Nat.mod_lt _ hs,by rw [Nat.mul_comm];exact Nat.div_add_mod k sz⟩
theorem elems_from {t:Ty} {xs:List (El t)} {ad:Addr} (h:∀ (i:Nat) (x:El t) (j:Nat) (p:PV),xs[i]?=some x→(cellsOf t x)[j]?=some p→∃ v,w.cell? ⟨ad.block,ad.off+i * t.size+j,none⟩=some v∧Val S F w p v) :
  Elems S F w t xs (rowFrom w ad (xs.length * t.size))∧∀ k u,(rowFrom w ad (xs.length * t.size))[k]?=some u→w.cell? ⟨ad.block,ad.off+k,none⟩=some u:=by
 have hk:∀ k,k<xs.length * t.size→∃ p v,w.cell? ⟨ad.block,ad.off+k,none⟩=some v∧Val S F w p v∧okC p=true:=by
  intro k hk
  obtain ⟨h1,h2,h3⟩:=split_lt hk
  have hx:=List.getElem?_eq_getElem h1
  have hl:k % t.size<(cellsOf t xs[k / t.size]).length:=by rw [cellsOf_size];exact h2
  have hp:=List.getElem?_eq_getElem hl
  obtain ⟨v,e1,e2⟩:=h _ _ _ _ hx hp
  refine ⟨_,v,?_,e2,cellsOf_okC _ _ _ _ hp⟩
  rwa [show ad.off+k / t.size * t.size+k % t.size=ad.off+k by omega] at e1
 refine ⟨⟨by simp [rowFrom],fun u hu=>?_,fun i x j p hx hp=>?_⟩,fun k u hu=>?_⟩
 ·simp only [rowFrom,List.mem_map,List.mem_range] at hu
  obtain ⟨k,h1,rfl⟩:=hu
  obtain ⟨p,v,e1,e2,e3⟩:=hk k h1
  rw [e1];exact okC_one e2 e3
 ·obtain ⟨v,e1,e2⟩:=h i x j p hx hp
  have hi:i<xs.length:=(List.getElem?_eq_some_iff.1 hx).1
  have hj:j<t.size:=by have:=(List.getElem?_eq_some_iff.1 hp).1;rwa [cellsOf_size] at this
  have:i * t.size+j<xs.length * t.size:=by
   have:(i+1) * t.size≤xs.length * t.size:=Nat.mul_le_mul_right _ (by omega)
   rw [Nat.add_mul,Nat.one_mul] at this;omega
  refine ⟨v,?_,e2⟩
  simp only [rowFrom,List.getElem?_map,List.getElem?_range this,Option.map_some]
  rw [show ad.off+(i * t.size+j)=ad.off+i * t.size+j by omega,e1];rfl
 ·simp only [rowFrom,List.getElem?_map] at hu
  by_cases h1:k<xs.length * t.size
  ·rw [List.getElem?_range h1] at hu
   obtain ⟨p,v,e1,_⟩:=hk k h1
   simp [e1] at hu;subst hu;exact e1
  ·rw [List.getElem?_eq_none (by simpa using h1)] at hu;cases hu
theorem elems_nil (t:Ty):Elems S F w t [] []:=⟨by simp,(fun u h=>by cases h),(fun i x j p h=>by simp at h)⟩
theorem win_get {α:Type} {xs:List α} {lo k i:Nat} {x:α} (h:(win xs lo k)[i]?=some x):xs[lo+i]?=some x∧i<k:=by
 simp only [win,List.getElem?_take,List.getElem?_drop] at h
 split at h
 ·exact ⟨h,by assumption⟩
 ·cases h
theorem view_facts {b lo k:Nat} {t:Ty} {xs:List (El t)} {wr:Bool} {u:Value} (hr:Rel S F w H) (hb:hget H b = .live (.arr t xs wr)) (hv:Val S F w (.view b lo k) u) :
  lo+k≤xs.length∧(win xs lo k).length=k∧∃ a cap,u = .slice a k cap∧k≤cap∧(win xs lo k≠[]→∃ ad,a=some ad)∧(win xs lo k≠[]→∀ ad,a=some ad→ad.spot=none) ∧
   (∀ (ad:Addr) (i:Nat) (x:El t) (j:Nat) (p:PV),a=some ad→(win xs lo k)[i]?=some x→(cellsOf t x)[j]?=some p→∃ v,w.cell? ⟨ad.block,ad.off+i * t.size+j,none⟩=some v∧Val S F w p v):=by
 obtain ⟨a,cap,hS,hcap,hor,hsp⟩:=hget_arr hr hb
 have hvv:u = .slice (if cap=lo then a else a.map (·.add (lo * t.size))) k (cap - lo)∧lo+k≤xs.length:=by
  cases hv with
  | view _ _ _ _ _ _ _ h hl=>rw [hS] at h;cases h;exact ⟨rfl,hl⟩
  | viewd _ _ _ _ h _=>rw [hS] at h;cases h
 obtain ⟨rfl,hl⟩:=hvv
 have hwl:(win xs lo k).length=k:=by unfold win;simp;omega
 have hk:win xs lo k≠[]→0<k:=fun hne=>by have:=List.length_pos_iff.2 hne;omega
 refine ⟨hl,hwl,_,_,rfl,by omega,fun hne=>?_,fun hne ad he=>?_,fun ad i x j p he hx hp=>?_⟩
 ·have:=hk hne
  rcases hor with h0|⟨ad,rfl,_⟩
  ·omega
  ·split
   ·exact ⟨ad,rfl⟩
   ·exact ⟨_,rfl⟩
 ·have:=hk hne
  rw [if_neg (by omega)] at he
  cases a with
  | none=>cases he
  | some ad0 =>
   simp at he;subst he
   unfold Addr.add;split
   ·exact hsp (by omega) ad0 rfl
   ·rfl
 ·obtain ⟨hx',hi⟩:=win_get hx
  rw [if_neg (by omega)] at he
  rcases hor with h0|⟨ad',rfl,hA,_⟩
  ·omega
  ·simp at he;subst he
   obtain ⟨v,e1,e2,_⟩:=hA.cellsAt hx' j p hp
   have h0:=hA.1
   obtain ⟨blk,off,sp⟩:=ad'
   simp only at h0;subst h0
   rw [add_addr]
   refine ⟨v,?_,e2⟩
   rw [← e1]
   simp only [Nat.add_mul]
   congr 2
   omega
theorem src_of {t:Ty} {y:PV} {v:Value} {tx:TypeId} {K:List (El t)→Option β} (hr:Rel S F w H) (hv:Val S F w y v) (hk:(∃ e',P.underlying tx=some (.slice e'))∨P.underlying tx=some .string) (hks:P.underlying tx=some .string↔∃ s,y = .str s)
  (h:elsOf H t y K=some r):∃ more news,K more=some r∧Src P t.size tx v more.length news w∧Elems S F w t more news:=by
 have hsl:(∀ s,y ≠ .str s)→∃ e',P.underlying tx=some (.slice e'):=fun hn=>by
  rcases hk with hk|hk
  ·exact hk
  ·obtain ⟨s,hs⟩:=hks.1 hk;exact absurd hs (hn s)
 have arr:∀ (xs:List (El t)) (a:Option Addr) (cap:Nat),(∃ e',P.underlying tx=some (.slice e'))→(xs≠[]→∃ ad,a=some ad)→(xs≠[]→∀ ad,a=some ad→ad.spot=none) →
   (∀ (ad:Addr) (i:Nat) (x:El t) (j:Nat) (p:PV),a=some ad→xs[i]?=some x→(cellsOf t x)[j]?=some p→∃ v,w.cell? ⟨ad.block,ad.off+i * t.size+j,none⟩=some v∧Val S F w p v) →
   ∃ news,Src P t.size tx (.slice a xs.length cap) xs.length news w∧Elems S F w t xs news:=by
  intro xs a cap ⟨e',he⟩ ha hs hc
  cases a with
  | none =>
   have:xs=[]:=by cases xs with
    | nil=>rfl
    | cons x r=>obtain ⟨ad,h⟩:=ha (by simp);cases h
   subst this
   exact ⟨[],Src.ofNil w he cap,elems_nil t⟩
  | some ad =>
   by_cases hx0:xs=[]
   ·subst hx0
    exact ⟨[],Src.ofSlice w he ad 0 cap [] (by simp) (fun j u h=>by simp at h) (fun _ h=>by cases h),elems_nil t⟩
   have hs:=hs hx0
   obtain ⟨h1,h2⟩:=elems_from (ad:=ad) (fun i x j p a b=>hc ad i x j p rfl a b)
   have h0:=hs ad rfl
   obtain ⟨blk,off,sp⟩:=ad
   simp only at h0;subst h0
   exact ⟨_,Src.ofSlice w he _ _ _ _ h1.1 (fun j u hu=>by rw [add_addr];exact h2 j u hu) (fun u hu=>one' (h1.2.1 u hu)),h1⟩
 unfold elsOf at h
 split at h
 ·rename_i t'
  obtain ⟨ys,hc,h⟩:=optK_some h
  obtain ⟨e,rfl⟩:=castL_some hc
  subst e
  cases hv
  obtain ⟨news,g1,g2⟩:=arr [] none 0 (hsl (fun s h=>by cases h)) (fun h=>absurd rfl h) (fun _ ad h=>by cases h) (fun ad i x j p _ h=>by simp at h)
  exact ⟨_,news,h,g1,g2⟩
 ·rename_i t' xs
  obtain ⟨ys,hc,h⟩:=optK_some h
  obtain ⟨e,rfl⟩:=castL_some hc
  subst e
  cases hv with
  | lst _ _ a cap vf hcap ha hsp hcell hv' =>
   obtain ⟨news,g1,g2⟩:=arr xs a cap (hsl (fun s h=>by cases h)) ha hsp (fun ad i x j p e a b=>⟨_,(hcell ad i x j p e a b).2,hv' i x j p a b⟩)
   exact ⟨_,news,h,g1,g2⟩
 ·rename_i b
  obtain ⟨x,hb,h⟩:=live_some h
  cases x with
  | box _ _=>cases h
  | arr t' xs wr =>
   obtain ⟨ys,hc,h⟩:=optK_some h
   obtain ⟨e,rfl⟩:=castL_some hc
   subst e
   obtain ⟨a,cap,hS,hcap,hor,hsp⟩:=hget_arr hr hb
   have hu:v = .slice a xs.length cap:=by
    cases hv with
    | own _ _ _ _ _ h=>rw [hS] at h;cases h;rfl
    | ownd _ _ h _=>rw [hS] at h;cases h
   subst hu
   obtain ⟨news,g1,g2⟩:=arr xs a cap (hsl (fun s h=>by cases h)) (fun hne=>by
     rcases hor with h0|⟨ad,rfl,_⟩
     ·subst h0;exact absurd (List.length_eq_zero_iff.1 (by omega)) hne
     ·exact ⟨ad,rfl⟩) (fun hne=>hsp (by have:=List.length_pos_iff.2 hne;omega)) (fun ad i x j p e hx hp=>by
     subst e
     rcases hor with h0|⟨ad',e',hA,_⟩
     ·subst h0;have:=(List.getElem?_eq_some_iff.1 hx).1;omega
     ·cases e'
      obtain ⟨v,e1,e2,_⟩:=hA.cellsAt hx j p hp
      exact ⟨v,by simpa [Nat.add_assoc] using e1,e2⟩)
   exact ⟨_,news,h,g1,g2⟩
 ·rename_i b lo k
  obtain ⟨x,hb,h⟩:=live_some h
  cases x with
  | box _ _=>cases h
  | arr t' xs wr =>
   obtain ⟨ys,hc,h⟩:=optK_some h
   obtain ⟨e,rfl⟩:=castL_some hc
   subst e
   obtain ⟨_,hwl,a,cap,rfl,_,ha,hs,hcell⟩:=view_facts hr hb hv
   obtain ⟨news,g1,g2⟩:=arr _ a cap (hsl (fun s h=>by cases h)) ha hs hcell
   rw [hwl] at g1
   exact ⟨_,news,h,by rw [hwl];exact g1,g2⟩
 ·rename_i s
  obtain ⟨ys,hc,h⟩:=optK_some h
  obtain ⟨e,rfl⟩:=castL_some hc
  subst e
  cases val_str hv
  have hu:=hks.2 ⟨s,rfl⟩
  have hl:(sbytes s).length=s.size:=by simp [sbytes,ByteArray.toList_eq]
  refine ⟨_,byteCells s,h,?_,?_⟩
  ·have:=Src.ofString (P:=P) w hu s
   have e:(show List (El (.int .u8)) from sbytes s).length=s.size:=hl
   simpa [Ty.size,hl] using this
  ·refine ⟨by simp [byteCells_length,Ty.size,hl],fun u hu=>?_,fun i x j p hx hp=>?_⟩
   ·obtain ⟨_,_,rfl⟩:=List.mem_map.1 hu;rfl
   ·cases j with
    | succ j=>simp [cellsOf] at hp
    | zero =>
     simp only [cellsOf,List.getElem?_cons_zero,Option.some.injEq] at hp
     subst hp
     refine ⟨.int .u8 x,?_, .int _ _⟩
     simp only [sbytes,ByteArray.toList_eq,List.getElem?_map] at hx
     simp only [byteCells,Ty.size,Nat.mul_one,Nat.add_zero,List.getElem?_map]
     cases hq:s.data.toList[i]? with
     | none=>rw [hq] at hx;cases hx
     | some q=>rw [hq] at hx;simp at hx;subst hx;rfl
 ·cases h
theorem move_rel (hr:Rel S F w H) {b:Nat} (hne:nb≠b) (hu:hget H nb = .unused) {t:Ty} {xs xs':List (El t)} (hb:hget H b = .live (.arr t xs true)) {a:Option Addr} {cap:Nat} (hS:S b = .arr a xs.length cap t.size)
  (hok:SlotOk S F w (.live (.arr t xs' true)) (.arr a xs'.length cap t.size)) :
  ∃ S',Rel S' F w (hset (hset H b .dead) nb (.live (.arr t xs' true)))∧Adv S F w H S' F w (hset (hset H b .dead) nb (.live (.arr t xs' true)))∧Val S' F w (.own nb) (.slice a xs'.length cap):=by
 let S':Nat→SL:=upS (upS S b .dead) nb (.arr a xs'.length cap t.size)
 have e1:S' nb = .arr a xs'.length cap t.size:=by simp [S',upS]
 have e2:S' b = .dead:=by simp [S',upS,Ne.symm hne]
 have e3:∀ c,c≠b→c≠nb→S' c=S c:=by intro c h1 h2;simp [S',upS,h1,h2]
 have hSS:∀ c,S c ≠ .unused→S' c=S c∨S' c = .dead:=by
  intro c hc
  by_cases h1:c=nb
  ·subst h1;exact absurd (unused_S hr hu) hc
  ·by_cases h2:c=b
   ·subst h2;exact .inr e2
   ·exact .inl (e3 c h2 h1)
 have hblk:∀ (n:Nat) (k:Nat),blkOf (.arr a n cap t.size)=some k→blkOf (S b)=some k:=by
  intro n k h;rw [hS];cases a<;>simp [blkOf] at h ⊢;exact h
 refine ⟨S',⟨fun c=>?_,fun c c' k h1 h2=>?_,hr.fsz,hr.gl⟩,⟨fun _ h=>h,hSS,Nat.le_refl _,fun _ _ _=>rfl,fun k hk=>?_,fun k h => .inl h,rfl,rfl,rfl,(fun _=>Nat.le_refl _)⟩, .own nb _ _ _ _ e1⟩
 ·by_cases h1:c=nb
  ·subst h1
   rw [hget_hset_same,e1]
   exact hok.mono (fun _ h=>h) (fun _ _=>rfl) hSS (fun _ _=>rfl) (fun _ _ h=>h)
  ·rw [hget_hset_ne _ _ _ _ h1]
   by_cases h2:c=b
   ·subst h2;rw [hget_hset_same,e2];simp only [SlotOk]
   ·rw [hget_hset_ne _ _ _ _ h2,e3 c h2 h1]
    exact (hr.slots c).mono (fun _ h=>h) (fun _ _=>rfl) hSS (fun _ _=>rfl) (fun _ _ h=>h)
 ·have key:∀ c,blkOf (S' c)=some k→c≠b∧blkOf (S (if c=nb then b else c))=some k:=by
   intro c hc
   by_cases h3:c=nb
   ·subst h3;rw [e1] at hc;rw [if_pos rfl];exact ⟨hne,hblk _ _ hc⟩
   ·by_cases h4:c=b
    ·subst h4;rw [e2] at hc;cases hc
    ·rw [e3 c h4 h3] at hc;rw [if_neg h3];exact ⟨h4,hc⟩
  obtain ⟨k1,k2⟩:=key c h1
  obtain ⟨k3,k4⟩:=key c' h2
  have:=hr.inj _ _ _ k2 k4
  split at this<;>split at this<;>simp_all
 ·obtain ⟨c,x,hx,hw,hc⟩:=hk
  left
  by_cases h1:c=nb
  ·subst h1
   rw [e1] at hc
   exact ⟨b,_,hb,rfl,hblk _ _ hc⟩
  ·rw [hget_hset_ne _ _ _ _ h1] at hx
   by_cases h2:c=b
   ·subst h2;rw [hget_hset_same] at hx;cases hx
   ·rw [hget_hset_ne _ _ _ _ h2] at hx
    rw [e3 c h2 h1] at hc
    exact ⟨c,x,hx,hw,hc⟩
theorem kill_rel (hr:Rel S F w H) {b:Nat} {x:Blk} (hb:hget H b = .live x):Rel (upS S b .dead) F w (hset H b .dead)∧Adv S F w H (upS S b .dead) F w (hset H b .dead):=by
 have hSS:∀ c,S c ≠ .unused→upS S b .dead c=S c∨upS S b .dead c = .dead:=by
  intro c hc;unfold upS;split
  ·exact .inr rfl
  ·exact .inl rfl
 have hbk:∀ c k,blkOf (upS S b .dead c)=some k→c≠b∧blkOf (S c)=some k:=by
  intro c k h;unfold upS at h;split at h
  ·cases h
  ·exact ⟨by assumption,h⟩
 refine ⟨⟨fun c=>?_,fun c c' k h1 h2=>hr.inj _ _ _ (hbk _ _ h1).2 (hbk _ _ h2).2,hr.fsz,hr.gl⟩,⟨fun _ h=>h,hSS,Nat.le_refl _,fun _ _ _=>rfl,fun k hk=>?_,fun k h => .inl h,rfl,rfl,rfl,(fun _=>Nat.le_refl _)⟩⟩
 ·by_cases h1:c=b
  ·subst h1;rw [hget_hset_same];simp [upS,SlotOk]
  ·rw [hget_hset_ne _ _ _ _ h1]
   have:upS S b .dead c=S c:=if_neg h1
   rw [this]
   exact (hr.slots c).mono (fun _ h=>h) (fun _ _=>rfl) hSS (fun _ _=>rfl) (fun _ _ h=>h)
 ·obtain ⟨c,y,hy,hw,hc⟩:=hk
  obtain ⟨h1,h2⟩:=hbk _ _ hc
  rw [hget_hset_ne _ _ _ _ h1] at hy
  exact .inl ⟨c,y,hy,hw,h2⟩
theorem elems_append {t:Ty} {xs ys:List (El t)} {cs ds:List Value} (h:Elems S F w t xs cs) (h':Elems S F w t ys ds):Elems S F w t (xs++ys) (cs++ds):=by
 refine ⟨by simp [h.1,h'.1,Nat.add_mul],fun u hu=>?_,fun i x j p hx hp=>?_⟩
 ·rcases List.mem_append.1 hu with hu|hu
  ·exact h.2.1 u hu
  ·exact h'.2.1 u hu
 ·have hj:j<t.size:=by have:=(List.getElem?_eq_some_iff.1 hp).1;rwa [cellsOf_size] at this
  by_cases hi:i<xs.length
  ·rw [List.getElem?_append_left hi] at hx
   obtain ⟨v,e1,e2⟩:=h.2.2 i x j p hx hp
   exact ⟨v,by rw [List.getElem?_append_left (List.getElem?_eq_some_iff.1 e1).1];exact e1,e2⟩
  ·rw [List.getElem?_append_right (by omega)] at hx
   obtain ⟨v,e1,e2⟩:=h'.2.2 _ x j p hx hp
   refine ⟨v,?_,e2⟩
   have:xs.length * t.size≤i * t.size:=Nat.mul_le_mul_right _ (by omega)
   rw [List.getElem?_append_right (by rw [h.1];omega),h.1,show i * t.size+j - xs.length * t.size=(i - xs.length) * t.size+j by rw [Nat.sub_mul];omega]
   exact e1
theorem own_new {w':World} (hr:Rel S F w H) {b blk:Nat} {x y:Blk} (hx:hget H b = .live x) (hw:x.wr=true) (hbk:blkOf (S b)=some blk) (hne:nb≠b) (hu:hget H nb = .unused) (hsz:w'.heap.size=w.heap.size) (ho:∀ k',k'≠blk→w'.heap[k']?=w.heap[k']?) (hst:Str w w')
  {l:SL} (hl:blkOf l=some blk) (hok:SlotOk (upS (upS S b .dead) nb l) F w' (.live y) l) :
  Rel (upS (upS S b .dead) nb l) F w' (hset (hset H b .dead) nb (.live y))∧Adv S F w H (upS (upS S b .dead) nb l) F w' (hset (hset H b .dead) nb (.live y)):=by
 have hWR:WR S H blk:=⟨b,x,hx,hw,hbk⟩
 have hnF:¬ F blk:=fun h=>hr.not_wr h hWR
 have e1:upS (upS S b .dead) nb l nb=l:=by simp [upS]
 have e2:upS (upS S b .dead) nb l b = .dead:=by simp [upS,Ne.symm hne]
 have e3:∀ c,c≠b→c≠nb→upS (upS S b .dead) nb l c=S c:=by intro c h1 h2;simp [upS,h1,h2]
 generalize upS (upS S b .dead) nb l=S' at *
 have hSS:∀ c,S c ≠ .unused→S' c=S c∨S' c = .dead:=by
  intro c hc
  by_cases h1:c=nb
  ·subst h1;exact absurd (unused_S hr hu) hc
  ·by_cases h2:c=b
   ·subst h2;exact .inr e2
   ·exact .inl (e3 c h2 h1)
 constructor
 ·refine ⟨fun c=>?_,fun c c' k h1 h2=>?_,fun k hk=>by rw [hsz];exact hr.fsz k hk,hr.gl.mono (fun _ h=>h) fun k' hk'=>ho k' fun e'=>hnF (e' ▸ hk')⟩
  ·by_cases h1:c=nb
   ·subst h1;rw [hget_hset_same,e1];exact hok
   ·rw [hget_hset_ne _ _ _ _ h1]
    by_cases h2:c=b
    ·subst h2;rw [hget_hset_same,e2];simp [SlotOk]
    ·rw [hget_hset_ne _ _ _ _ h2,e3 c h2 h1]
     exact (hr.slots c).mono (fun _ h=>h) (fun k hk=>ho k fun e=>hnF (e ▸ hk)) hSS (fun k hk=>ho k fun e=>h2 (hr.inj c b k hk (e ▸ hbk))) (fun _ _ h=>h)
  ·have key:∀ c k,blkOf (S' c)=some k→(c=nb∧k=blk)∨(c≠nb∧c≠b∧blkOf (S c)=some k):=by
    intro c k h
    by_cases h1:c=nb
    ·subst h1;rw [e1,hl] at h;cases h;exact .inl ⟨rfl,rfl⟩
    ·by_cases h2:c=b
     ·subst h2;rw [e2] at h;cases h
     ·rw [e3 c h2 h1] at h;exact .inr ⟨h1,h2,h⟩
   rcases key _ _ h1 with ⟨a1,a2⟩|⟨a1,a2,a3⟩<;>rcases key _ _ h2 with ⟨b1,b2⟩|⟨b1,b2,b3⟩
   ·rw [a1,b1]
   ·subst a2;exact absurd (hr.inj _ _ _ b3 hbk) b2
   ·subst b2;exact absurd (hr.inj _ _ _ a3 hbk) a2
   ·exact hr.inj _ _ _ a3 b3
 ·refine ⟨fun _ h=>h,hSS,by rw [hsz];exact Nat.le_refl _,fun k hk hn=>ho k fun e=>hn (e ▸ hWR),fun k hk => .inl ?_,fun _ h => .inl h,hst⟩
  obtain ⟨c,z,hz,hzw,hzb⟩:=hk
  by_cases h1:c=nb
  ·subst h1;rw [e1,hl] at hzb;cases hzb;exact hWR
  ·rw [hget_hset_ne _ _ _ _ h1] at hz
   by_cases h2:c=b
   ·subst h2;rw [hget_hset_same] at hz;cases hz
   ·rw [hget_hset_ne _ _ _ _ h2] at hz
    rw [e3 c h2 h1] at hzb
    exact ⟨c,z,hz,hzw,hzb⟩
end
end Go.Proofs.YtdcphpbimeoioaaGreatDoorE
end
section
set_option linter.unusedSectionVars false
namespace Go.Proofs.YtdcphpbimeoioaaGreatDoorE
open Go
set_option linter.unusedVariables false
set_option linter.unusedSimpArgs false
variable [Dm]
section
variable {β:Type} {P:Program} {S S':Nat→SL} {F F':Nat→Prop} {w w':World} {H H':Heap} {E:Env} {ρ:Operand→Value} {O:Orc} {nb:Nat} {r:β}
theorem zeroCells_get {z:Array Value} {n:Nat} {i:Nat} {v:Value} (ho:∀ (i:Nat) (v:Value),z[i]?=some v→v.oneCell=true) (h:(Builtin.zeroCells z n)[i]?=some v):v.oneCell=true:=by
 simp only [Builtin.zeroCells] at h
 rw [Array.getElem?_map] at h
 by_cases hi:i<n * z.size
 ·rw [Array.getElem?_range,if_pos hi] at h
  simp only [Option.map_some,Option.some.injEq] at h
  subst h
  have hz:0<z.size:=by cases hs:z.size with
   | zero=>rw [hs] at hi;simp at hi
   | succ s=>omega
  have:i % z.size<z.size:=Nat.mod_lt _ hz
  rw [getElem!_pos z (i % z.size) this]
  exact ho _ _ (Array.getElem?_eq_getElem this)
 ·rw [Array.getElem?_range,if_neg hi] at h;cases h
theorem room_ok {n bytes:Nat} (h:room n bytes=true):n * bytes≤140737488355328:=by
 simp only [room,decide_eq_true_eq] at h;omega
theorem ok_grow {sz bytes:Nat} {v:Value} {t tx e ty:TypeId} {z:List PV} {i:TypeInfo} {zv:Value} (ht:P.underlying t=some (.slice e)) (hi:P.info? e=some i) (hzv:i.zero=some zv) (hzs:zv.cells.size=i.size) (hzf:∀ (S:Nat→SL) (F:Nat→Prop) (w:World),FillRel S F w z zv.cells)
  (hisz:i.size=sz) (hib:i.bytes=bytes) (hby:0<bytes):∀ {S1:Nat→SL} {H1:Heap} (t':Ty) (xs more:List (El t')) (base:Option Addr) (cap:Nat) (olds news:List Value),t'.size=sz→Rel S1 F w H1→hget H1 nb = .unused→Elems S1 F w t' xs olds→Elems S1 F w t' more news →
   (Builtin.firstCells i.size xs.length (.slice base xs.length cap)).run P w.drew = .ok olds.toArray w.drew→Src P i.size tx v more.length news w→cap<xs.length+more.length→room (xs.length+more.length) bytes=true→xs.length≤cap →
   ∃ u' w' S',(Builtin.append_ #[t,tx] ty #[.slice base xs.length cap,v]).run P w = .ok u' w'∧Rel S' F w' (hset H1 nb (.live (.arr t' (xs++more) true)))∧Adv S1 F w H1 S' F w' (hset H1 nb (.live (.arr t' (xs++more) true)))∧Val S' F w' (.own nb) u':=by
 intro S1 H1 t' xs more base cap olds news hsz hr1 hu1 ho hn hf hsrc hlt hroom hle
 have hb:=room_ok hroom
 have h63:(((xs.length+more.length:Nat)):Int)≤9223372036854775807:=by
  have:xs.length+more.length≤(xs.length+more.length) * bytes:=Nat.le_mul_of_pos_right _ hby
  omega
 have hrun:=run_append_grow_src (P:=P) w t tx ty e i zv ht hi hzv base xs.length cap olds hf v more.length news hsrc hlt h63 (growslice_fits hlt (by rw [hib];exact hb))
 have he:=elems_append ho hn
 have hge:=grownCap_ge w (xs.length+more.length) cap e
 have hdr:(w.drew).heap=w.heap:=rfl
 have hr2:Rel S1 F w.drew H1:=hr1.heap hdr
 obtain ⟨S',n1,n2,n3⟩:=new_arr (nb:=nb) (t:=t') (xs:=xs++more) (c:=(olds++news).toArray++Builtin.zeroCells zv.cells (grownCap w (xs.length+more.length) cap e - (xs.length+more.length))) (e:=e) (cap:=grownCap w (xs.length+more.length) cap e) (fr:=(0,0)) hr2 hu1
  (by simpa using hge) (by
   have h1:=he.1
   simp only [Array.size_append,List.size_toArray,size_zeroCells,h1,hzs,hisz,hsz,List.length_append]
   rw [← Nat.add_mul];exact Nat.mul_le_mul_right _ (by omega)) (fun k _ hh=>by simp at hh)
  (fun i' x j p a b=>by
   obtain ⟨vv,e1,e2⟩:=he.2.2 i' x j p a b
   exact ⟨vv,by rw [Array.getElem?_append_left (by simpa using (List.getElem?_eq_some_iff.1 e1).1)];simpa using e1,e2.heap hdr⟩)
  (fun j vv hvv=>by
   rw [Array.getElem?_append] at hvv
   split at hvv
   ·exact he.2.1 vv (List.mem_of_getElem? (by simpa using hvv))
   ·exact zeroCells_get (hzf S1 F w).2.2 hvv)
 have n3':Val S' F (w.drew.alloc (.cells ((olds++news).toArray++Builtin.zeroCells zv.cells (grownCap w (xs.length+more.length) cap e - (xs.length+more.length))) e)) (.own nb) (.slice (some ⟨w.heap.size,0,none⟩) (xs.length+more.length) (grownCap w (xs.length+more.length) cap e)):=by
  have hl:(xs++more).length=xs.length+more.length:=List.length_append
  rw [hl] at n3
  exact n3
 refine ⟨_,_,S',hrun,n1,?_,n3'⟩
 have:=(Adv.heap hdr ⟨rfl,rfl,rfl,(fun _=>Nat.le_succ _)⟩ S1 F H1).trans' n2
 exact this
theorem ok_appendV0 {sz bytes:Nat} {b lo n:Nat} {y:PV} {u v:Value} {t tx e ty:TypeId} {z:List PV} {K:PV→Heap→Option β} (hr:Rel S F w H) (hx:Val S F w (.view b lo n) u) (hy:Val S F w y v) (ht:P.underlying t=some (.slice e)) (hz:zeroPV P e=some z) (hs:szOf P e=some sz)
  (hby:0<bytes) (hbe:P.bytesOf e=bytes) (hk:(∃ e',P.underlying tx=some (.slice e'))∨P.underlying tx=some .string) (hks:P.underlying tx=some .string↔∃ s,y = .str s) (h:appendV nb H sz bytes (.view b lo n) y K=some r) :
  ∃ u' w',(Builtin.append_ #[t,tx] ty #[u,v]).run P w = .ok u' w'∧Aft S F w H K r u' w':=by
 obtain ⟨i,zv,hi,hzv,hzs,hzf⟩:=zeroPV_spec hz
 have hisz:i.size=sz:=by unfold szOf at hs;rw [hi] at hs;simpa using hs
 have hib:i.bytes=bytes:=by unfold Program.bytesOf at hbe;rw [hi] at hbe;simpa using hbe
 unfold appendV at h
 simp only at h
 obtain ⟨x,hb,h⟩:=live_some h
 split at h
 ·rename_i t' xs
  obtain ⟨more,news,h,hsrc,hel⟩:=src_of hr hy hk hks h
  obtain ⟨h1,h⟩:=cond_some h
  obtain ⟨h2,h⟩:=cond_some h
  obtain ⟨hu,h⟩:=fresh_some h
  rw [fH_eq] at h
  have hK:=h
  simp only [Bool.and_eq_true] at h1
  have hsz:t'.size=sz:=Nat.eq_of_beq_eq_true h1.1
  have hlo:lo=0:=Nat.eq_of_beq_eq_true h1.2
  subst hlo
  obtain ⟨hln,hwl,_⟩:=view_facts hr hb hx
  have hwx:∀ (i:Nat) (x:El t'),(win xs 0 n)[i]?=some x→xs[i]?=some x:=fun i x hi=>by have:=(win_get hi).1;rwa [Nat.zero_add] at this
  obtain ⟨a,cap,hS,hcap,hor,hsp⟩:=hget_arr hr hb
  have hue:u = .slice a n cap:=by
   cases hx with
   | view _ _ _ _ _ _ _ h hl =>
    rw [hS] at h;cases h
    have:(if cap=0 then a else a.map (·.add (0 * t'.size)))=a:=by
     split
     ·rfl
     ·cases a<;>simp [Addr.add]
    rw [this,Nat.sub_zero]
   | viewd _ _ _ _ h _=>rw [hS] at h;cases h
  rw [← hwl] at hue
  have hcap0:(win xs 0 n).length≤cap:=by omega
  clear hx
  generalize win xs 0 n=xs0 at *
  subst hue
  have hne:nb≠b:=by intro e;subst e;rw [hu] at hb;cases hb
  have hsrc':Src P i.size tx v more.length news w:=by rw [hisz,← hsz];exact hsrc
  by_cases hc0:cap=0
  ·have hxs:xs0=[]:=List.length_eq_zero_iff.1 (by omega)
   subst hxs
   by_cases hm:more=[]
   ·subst hm
    have hn0:news=[]:=by have:=hel.1;simpa using this
    subst hn0
    obtain ⟨k1,k2⟩:=kill_rel hr hb
    obtain ⟨S',n1,n2,n3⟩:=new_none (nb:=nb) k1 (by rw [hget_hset_ne _ _ _ _ hne];exact hu) t' a
    have hrun:(Builtin.append_ #[t,tx] ty #[.slice a 0 cap,v]).run P w = .ok (.slice a 0 cap) w:=by
     rcases hsrc'.kind with ⟨e',hk⟩|hk<;>cases a<;>simp [Builtin.append_,run_underlying ht,run_underlying hk,sizeOf,typeInfo,hi,hsrc'.len]<;>(have:=hsrc'.cells;simp at this;simp [this,storeCells])
    exact ⟨_,_,hrun, .own nb,_,S',F,hK,by simpa using n1,by subst hc0;exact n3,by simpa using k2.trans' n2⟩
   ·have hpos:0<more.length:=List.length_pos_iff.2 hm
    obtain ⟨k1,k2⟩:=kill_rel hr hb
    have hel':Elems (upS S b .dead) F w t' more news:=⟨hel.1,hel.2.1,fun i x j p a b=>by
     obtain ⟨vv,e1,e2⟩:=hel.2.2 i x j p a b
     exact ⟨vv,e1,e2.adv hr k2⟩⟩
    obtain ⟨u',w',S',g1,g2,g3,g4⟩:=ok_grow (tx:=tx) (ty:=ty) ht hi hzv hzs hzf hisz hib hby t' [] more a cap [] news hsz k1 (by rw [hget_hset_ne _ _ _ _ hne];exact hu) (elems_nil t') hel' (by cases a<;>simp [Builtin.firstCells,loadCells,loadCellsFrom]) hsrc' (by simp;omega) h2 (by simp)
    exact ⟨u',w',g1, .own nb,_,S',F,hK,g2,g4,k2.trans' g3⟩
  ·rcases hor with h0|⟨ad,rfl,hA,hA1,hA2⟩
   ·exact absurd h0 hc0
   ·obtain ⟨a0,c,tt,fr,a1,a2,a3,a4,a5⟩:=hA
    obtain ⟨blk,off,sp⟩:=ad
    simp only at a0 a1 a2 a3;subst a0
    have hbk:blkOf (S b)=some blk:=by rw [hS];simp [blkOf,hc0]
    by_cases hroom:xs0.length+more.length≤cap
    ·have hnl:news.length=more.length * t'.size:=hel.1
     have hfit:xs0.length * t'.size+news.length≤cap * t'.size:=by rw [hnl,← Nat.add_mul];exact Nat.mul_le_mul_right _ hroom
     have hrun:=run_append_room_src (P:=P) w t tx ty e i ht hi blk off xs0.length cap v more.length news hsrc' hroom
      (fun j hj=>by rw [hisz,← hsz];simp [World.cell?,a1];omega)
      (fun j hj=>by
       rw [hisz,← hsz]
       have:=a3 (off+xs0.length * t'.size+j) (by omega)
       simp only [World.frozen?,a1]
       cases h1:decide (fr.1≤off+xs0.length * t'.size+j)<;>simp_all)
     rw [hisz,← hsz] at hrun
     obtain ⟨c',s1,s2,s3,s4,s5,s6⟩:=setCells_spec news blk (off+xs0.length * t'.size) w c tt fr a1
     have hSS:∀ c,S c ≠ .unused→upS (upS S b .dead) nb (.arr (some ⟨blk,off,none⟩) (xs0++more).length cap t'.size) c=S c∨upS (upS S b .dead) nb (.arr (some ⟨blk,off,none⟩) (xs0++more).length cap t'.size) c = .dead:=by
      intro c hc
      by_cases h1:c=nb
      ·subst h1;exact absurd (unused_S hr hu) hc
      ·by_cases h2:c=b
       ·subst h2;exact .inr (by simp [upS,Ne.symm hne])
       ·exact .inl (by simp [upS,h1,h2])
     obtain ⟨m1,m2⟩:=own_new (nb:=nb) (y := .arr t' (xs0++more) true) (l := .arr (some ⟨blk,off,none⟩) (xs0++more).length cap t'.size) hr hb rfl hbk hne hu s6 s5 (setCells_str _ _ _ _) (by simp [blkOf,hc0]) (by
      simp only [SlotOk]
      refine ⟨trivial,trivial,by simpa using hroom,hsp, .inr ⟨_,rfl,⟨rfl,c',tt,fr,s1,by simpa [s2] using a2,by simpa [s2] using a3,fun jj vv hvv=>?_,fun i' x' j' p' hx' hp'=>?_⟩,fun _=>hA1 rfl,fun h=>by cases h⟩⟩
      ·by_cases hin:jj<off+xs0.length * t'.size∨off+xs0.length * t'.size+news.length≤jj
       ·rw [s3 jj hin] at hvv;exact a4 _ _ hvv
       ·have:=s4 (jj - (off+xs0.length * t'.size)) (by omega) (by omega)
        rw [show off+xs0.length * t'.size+(jj - (off+xs0.length * t'.size))=jj by omega,hvv] at this
        exact hel.2.1 _ (List.mem_of_getElem? this.symm)
      ·have hj':j'<t'.size:=by have:=(List.getElem?_eq_some_iff.1 hp').1;rwa [cellsOf_size] at this
       simp only
       by_cases hi':i'<xs0.length
       ·rw [List.getElem?_append_left hi'] at hx'
        obtain ⟨vv,e1,e2⟩:=a5 i' x' j' p' (hwx _ _ hx') hp'
        have:(i'+1) * t'.size≤xs0.length * t'.size:=Nat.mul_le_mul_right _ (by omega)
        rw [Nat.add_mul,Nat.one_mul] at this
        exact ⟨vv,by rw [s3 _ (by omega)];exact e1,(e2.upd hr hb rfl hbk s5).mono (fun _ h=>h) (fun _ _=>rfl) hSS⟩
       ·rw [List.getElem?_append_right (by omega)] at hx'
        obtain ⟨vv,e1,e2⟩:=hel.2.2 _ x' j' p' hx' hp'
        have hlt:=(List.getElem?_eq_some_iff.1 e1).1
        have hge:xs0.length * t'.size≤i' * t'.size:=Nat.mul_le_mul_right _ (by omega)
        have:=s4 ((i' - xs0.length) * t'.size+j') hlt (by omega)
        refine ⟨vv,?_,(e2.upd hr hb rfl hbk s5).mono (fun _ h=>h) (fun _ _=>rfl) hSS⟩
        rw [← e1,← this];congr 1;rw [Nat.sub_mul];omega)
     have hlen:(xs0++more).length=xs0.length+more.length:=List.length_append
     exact ⟨_,_,hrun, .own nb,_,_,F,hK,m1,by rw [← hlen];exact .own nb _ _ _ t'.size (by simp [upS]),m2⟩
    ·obtain ⟨k1,k2⟩:=kill_rel hr hb
     have hnb:hget (hset H b .dead) nb = .unused:=by rw [hget_hset_ne _ _ _ _ hne];exact hu
     have hel':Elems (upS S b .dead) F w t' more news:=⟨hel.1,hel.2.1,fun i x j p a b=>by
      obtain ⟨vv,e1,e2⟩:=hel.2.2 i x j p a b
      exact ⟨vv,e1,e2.adv hr k2⟩⟩
     obtain ⟨q1,q2⟩:=elems_from (S:=S) (F:=F) (w:=w) (t:=t') (xs:=xs0) (ad:=⟨blk,off,none⟩) (fun i x j p hx hp=>by
      obtain ⟨vv,e1,e2⟩:=a5 i x j p (hwx _ _ hx) hp
      exact ⟨vv,by simp [World.cell?,a1,e1],e2⟩)
     have q1':Elems (upS S b .dead) F w t' xs0 (rowFrom w ⟨blk,off,none⟩ (xs0.length * t'.size)):=⟨q1.1,q1.2.1,fun i x j p a b=>by
      obtain ⟨vv,e1,e2⟩:=q1.2.2 i x j p a b
      exact ⟨vv,e1,e2.adv hr k2⟩⟩
     have hfc:(Builtin.firstCells i.size xs0.length (.slice (some ⟨blk,off,none⟩) xs0.length cap)).run P w.drew = .ok (rowFrom w ⟨blk,off,none⟩ (xs0.length * t'.size)).toArray w.drew :=
      run_firstCells_some w.drew i.size xs0.length ⟨blk,off,none⟩ xs0.length cap _ (by rw [hisz,← hsz];exact q1.1) (fun j vv hv'=>by rw [add_addr];exact q2 j vv hv')
     obtain ⟨u',w',S',g1,g2,g3,g4⟩:=ok_grow (tx:=tx) (ty:=ty) ht hi hzv hzs hzf hisz hib hby t' xs0 more (some ⟨blk,off,none⟩) cap _ news hsz k1 hnb q1' hel' hfc hsrc' (by omega) h2 hcap0
     exact ⟨u',w',g1, .own nb,_,S',F,hK,g2,g4,k2.trans' g3⟩
 ·cases h
theorem ok_appendE {sz bytes:Nat} {t':Ty} {y:PV} {u v:Value} {t tx e ty:TypeId} {z:List PV} {K:PV→Heap→Option β} (hr:Rel S F w H) (hx:Val S F w (.emp t') u) (hy:Val S F w y v) (ht:P.underlying t=some (.slice e)) (hz:zeroPV P e=some z) (hs:szOf P e=some sz)
  (hby:0<bytes) (hbe:P.bytesOf e=bytes) (hk:(∃ e',P.underlying tx=some (.slice e'))∨P.underlying tx=some .string) (hks:P.underlying tx=some .string↔∃ s,y = .str s) (h:appendV nb H sz bytes (.emp t') y K=some r) :
  ∃ u' w',(Builtin.append_ #[t,tx] ty #[u,v]).run P w = .ok u' w'∧Aft S F w H K r u' w':=by
 obtain ⟨i,zv,hi,hzv,hzs,hzf⟩:=zeroPV_spec hz
 have hisz:i.size=sz:=by unfold szOf at hs;rw [hi] at hs;simpa using hs
 have hib:i.bytes=bytes:=by unfold Program.bytesOf at hbe;rw [hi] at hbe;simpa using hbe
 unfold appendV at h
 simp only at h
 obtain ⟨more,news,h,hsrc,hel⟩:=src_of hr hy hk hks h
 obtain ⟨h1,h⟩:=cond_some h
 obtain ⟨h2,h⟩:=cond_some h
 obtain ⟨hu,h⟩:=fresh_some h
 rw [fH_eq] at h
 have hsz:t'.size=sz:=Nat.eq_of_beq_eq_true h1
 have hsrc':Src P i.size tx v more.length news w:=by rw [hisz,← hsz];exact hsrc
 cases hx with
 | emp _ a =>
  by_cases hm:more=[]
  ·subst hm
   obtain ⟨S',n1,n2,n3⟩:=new_none hr hu t' a
   have hn0:news=[]:=by have:=hel.1;simpa using this
   subst hn0
   have hrun:(Builtin.append_ #[t,tx] ty #[.slice a 0 0,v]).run P w = .ok (.slice a 0 0) w:=by
    rcases hsrc'.kind with ⟨e',hk⟩|hk<;>cases a<;>simp [Builtin.append_,run_underlying ht,run_underlying hk,sizeOf,typeInfo,hi,hsrc'.len]<;>(have:=hsrc'.cells;simp at this;simp [this,storeCells])
   exact ⟨_,_,hrun, .own nb,_,S',F,h,n1,n3,n2⟩
  ·have hpos:0<more.length:=List.length_pos_iff.2 hm
   obtain ⟨u',w',S',g1,g2,g3,g4⟩:=ok_grow (tx:=tx) (ty:=ty) ht hi hzv hzs hzf hisz hib hby t' [] more a 0 [] news hsz hr hu (elems_nil t') hel (by cases a<;>simp [Builtin.firstCells,loadCells,loadCellsFrom]) hsrc' (by simpa using hpos) (by simpa using h2) (Nat.le_refl _)
   exact ⟨u',w',by simpa using g1, .own nb,_,S',F,h,by simpa using g2,g4,by simpa using g3⟩
theorem ok_append {sz bytes:Nat} {x y:PV} {u v:Value} {t tx e ty:TypeId} {z:List PV} {K:PV→Heap→Option β} (hr:Rel S F w H) (hx:Val S F w x u) (hy:Val S F w y v) (ht:P.underlying t=some (.slice e)) (hz:zeroPV P e=some z) (hs:szOf P e=some sz)
  (hby:0<bytes) (hbe:P.bytesOf e=bytes) (hk:(∃ e',P.underlying tx=some (.slice e'))∨P.underlying tx=some .string) (hks:P.underlying tx=some .string↔∃ s,y = .str s) (h:appendV nb H sz bytes x y K=some r) :
  ∃ u' w',(Builtin.append_ #[t,tx] ty #[u,v]).run P w = .ok u' w'∧Aft S F w H K r u' w':=by
 obtain ⟨i,zv,hi,hzv,hzs,hzf⟩:=zeroPV_spec hz
 have hisz:i.size=sz:=by unfold szOf at hs;rw [hi] at hs;simpa using hs
 have hib:i.bytes=bytes:=by unfold Program.bytesOf at hbe;rw [hi] at hbe;simpa using hbe
 by_cases hem:∃ t',x = .emp t'
 ·obtain ⟨t',rfl⟩:=hem
  exact ok_appendE hr hx hy ht hz hs hby hbe hk hks h
 by_cases hvw:∃ b lo n,x = .view b lo n
 ·obtain ⟨b,lo,n,rfl⟩:=hvw
  exact ok_appendV0 hr hx hy ht hz hs hby hbe hk hks h
 replace h:appendK nb H sz bytes x y K=some r:=by
  unfold appendV at h
  split at h
  ·exact absurd ⟨_,_,_,rfl⟩ hvw
  ·exact absurd ⟨_,rfl⟩ hem
  ·exact h
 unfold appendK at h
 split at h
 ·rename_i t'
  obtain ⟨more,news,h,hsrc,hel⟩:=src_of hr hy hk hks h
  obtain ⟨h1,h⟩:=cond_some h
  obtain ⟨h2,h⟩:=cond_some h
  obtain ⟨hu,h⟩:=fresh_some h
  rw [fH_eq] at h
  have hsz:t'.size=sz:=Nat.eq_of_beq_eq_true h1
  cases hx
  by_cases hm:more=[]
  ·subst hm
   obtain ⟨S',n1,n2,n3⟩:=new_none hr hu t' none
   have hn0:news=[]:=by have:=hel.1;simpa using this
   subst hn0
   have hrun:(Builtin.append_ #[t,tx] ty #[.slice none 0 0,v]).run P w = .ok (.slice none 0 0) w:=by
    rcases hsrc.kind with ⟨e',hk⟩|hk<;>simp [Builtin.append_,run_underlying ht,run_underlying hk,sizeOf,typeInfo,hi,hsrc.len]<;>(have:=hsrc.cells;rw [hsz,← hisz] at this;simp at this;simp [this])
   exact ⟨_,_,hrun, .own nb,_,S',F,h,n1,n3,n2⟩
  ·have hpos:0<more.length:=List.length_pos_iff.2 hm
   obtain ⟨u',w',S',g1,g2,g3,g4⟩:=ok_grow (tx:=tx) (ty:=ty) ht hi hzv hzs hzf hisz hib hby t' [] more none 0 [] news hsz hr hu (elems_nil t') hel (by simp [Builtin.firstCells]) (by rw [hisz,← hsz];exact hsrc) (by simpa using hpos) (by simpa using h2) (Nat.le_refl _)
   exact ⟨u',w',by simpa using g1, .own nb,_,S',F,h,by simpa using g2,g4,by simpa using g3⟩
 ·rename_i b
  obtain ⟨x,hb,h⟩:=live_some h
  split at h
  ·rename_i t' xs
   obtain ⟨more,news,h,hsrc,hel⟩:=src_of hr hy hk hks h
   obtain ⟨h1,h⟩:=cond_some h
   obtain ⟨h2,h⟩:=cond_some h
   obtain ⟨hu,h⟩:=fresh_some h
   rw [fH_eq] at h
   have hsz:t'.size=sz:=Nat.eq_of_beq_eq_true h1
   obtain ⟨a,cap,hS,hcap,hor,hsp⟩:=hget_arr hr hb
   have hue:u = .slice a xs.length cap:=by
    cases hx with
    | own _ _ _ _ _ h=>rw [hS] at h;cases h;rfl
    | ownd _ _ h _=>rw [hS] at h;cases h
   subst hue
   have hne:nb≠b:=by intro e;subst e;rw [hu] at hb;cases hb
   have hsrc':Src P i.size tx v more.length news w:=by rw [hisz,← hsz];exact hsrc
   by_cases hc0:cap=0
   ·have hxs:xs=[]:=List.length_eq_zero_iff.1 (by omega)
    subst hxs
    by_cases hm:more=[]
    ·subst hm
     have hn0:news=[]:=by have:=hel.1;simpa using this
     subst hn0
     obtain ⟨k1,k2⟩:=kill_rel hr hb
     obtain ⟨S',n1,n2,n3⟩:=new_none (nb:=nb) k1 (by rw [hget_hset_ne _ _ _ _ hne];exact hu) t' a
     have hrun:(Builtin.append_ #[t,tx] ty #[.slice a 0 cap,v]).run P w = .ok (.slice a 0 cap) w:=by
      rcases hsrc'.kind with ⟨e',hk⟩|hk<;>cases a<;>simp [Builtin.append_,run_underlying ht,run_underlying hk,sizeOf,typeInfo,hi,hsrc'.len]<;>(have:=hsrc'.cells;simp at this;simp [this,storeCells])
     exact ⟨_,_,hrun, .own nb,_,S',F,h,by simpa using n1,by subst hc0;exact n3,by simpa using k2.trans' n2⟩
    ·have hpos:0<more.length:=List.length_pos_iff.2 hm
     obtain ⟨k1,k2⟩:=kill_rel hr hb
     have hel':Elems (upS S b .dead) F w t' more news:=⟨hel.1,hel.2.1,fun i x j p a b=>by
      obtain ⟨vv,e1,e2⟩:=hel.2.2 i x j p a b
      exact ⟨vv,e1,e2.adv hr k2⟩⟩
     obtain ⟨u',w',S',g1,g2,g3,g4⟩:=ok_grow (tx:=tx) (ty:=ty) ht hi hzv hzs hzf hisz hib hby t' [] more a cap [] news hsz k1 (by rw [hget_hset_ne _ _ _ _ hne];exact hu) (elems_nil t') hel' (by cases a<;>simp [Builtin.firstCells,loadCells,loadCellsFrom]) hsrc' (by simp;omega) h2 (by simp)
     exact ⟨u',w',g1, .own nb,_,S',F,h,g2,g4,k2.trans' g3⟩
   ·rcases hor with h0|⟨ad,rfl,hA,hA1,hA2⟩
    ·exact absurd h0 hc0
    ·have hA':=hA
     obtain ⟨a0,c,tt,fr,a1,a2,a3,a4,a5⟩:=hA
     obtain ⟨blk,off,sp⟩:=ad
     simp only at a0 a1 a2 a3;subst a0
     have hbk:blkOf (S b)=some blk:=by rw [hS];simp [blkOf,hc0]
     by_cases hroom:xs.length+more.length≤cap
     ·
      have hnl:news.length=more.length * t'.size:=hel.1
      have hfit:xs.length * t'.size+news.length≤cap * t'.size:=by rw [hnl,← Nat.add_mul];exact Nat.mul_le_mul_right _ hroom
      have hrun:=run_append_room_src (P:=P) w t tx ty e i ht hi blk off xs.length cap v more.length news hsrc' hroom
       (fun j hj=>by rw [hisz,← hsz];simp [World.cell?,a1];omega)
       (fun j hj=>by
        rw [hisz,← hsz]
        have:=a3 (off+xs.length * t'.size+j) (by omega)
        simp only [World.frozen?,a1]
        cases h1:decide (fr.1≤off+xs.length * t'.size+j)<;>simp_all)
      rw [hisz,← hsz] at hrun
      obtain ⟨c',s1,s2,s3,s4,s5,s6⟩:=setCells_spec news blk (off+xs.length * t'.size) w c tt fr a1
      have hup:=upd_rel (y := .arr t' xs true) hr hb rfl rfl hbk s6 s5 (setCells_str _ _ _ _) (by
       rw [hS]
       simp only [SlotOk]
       refine ⟨trivial,trivial,hcap,hsp, .inr ⟨_,rfl,⟨rfl,c',tt,fr,s1,by simpa [s2] using a2,by simpa [s2] using a3,fun jj vv hvv=>?_,fun i' x' j' p' hx' hp'=>?_⟩,fun _=>hA1 rfl,fun h=>by cases h⟩⟩
       ·by_cases hin:jj<off+xs.length * t'.size∨off+xs.length * t'.size+news.length≤jj
        ·rw [s3 jj hin] at hvv;exact a4 _ _ hvv
        ·have:=s4 (jj - (off+xs.length * t'.size)) (by omega) (by omega)
         rw [show off+xs.length * t'.size+(jj - (off+xs.length * t'.size))=jj by omega,hvv] at this
         exact hel.2.1 _ (List.mem_of_getElem? this.symm)
       ·obtain ⟨vv,e1,e2⟩:=a5 i' x' j' p' hx' hp'
        have hi':i'<xs.length:=(List.getElem?_eq_some_iff.1 hx').1
        have hj':j'<t'.size:=by have:=(List.getElem?_eq_some_iff.1 hp').1;rwa [cellsOf_size] at this
        have:(i'+1) * t'.size≤xs.length * t'.size:=Nat.mul_le_mul_right _ (by omega)
        rw [Nat.add_mul,Nat.one_mul] at this
        exact ⟨vv,by simp only;rw [s3 _ (by omega)];exact e1,e2.upd hr hb rfl hbk s5⟩)
      obtain ⟨r1,r2⟩:=hup
      have hb':hget (hset H b (.live (.arr t' xs true))) b = .live (.arr t' xs true):=hget_hset_same _ _ _
      obtain ⟨S',m1,m2,m3⟩:=move_rel (nb:=nb) (xs':=xs++more) r1 hne (by rw [hget_hset_ne _ _ _ _ hne];exact hu) hb' hS (by
       simp only [SlotOk]
       refine ⟨trivial,trivial,by simpa using hroom,hsp, .inr ⟨_,rfl,⟨rfl,c',tt,fr,s1,by simpa [s2] using a2,by simpa [s2] using a3,fun jj vv hvv=>?_,fun i' x' j' p' hx' hp'=>?_⟩,fun _=>hA1 rfl,fun h=>by cases h⟩⟩
       ·by_cases hin:jj<off+xs.length * t'.size∨off+xs.length * t'.size+news.length≤jj
        ·rw [s3 jj hin] at hvv;exact a4 _ _ hvv
        ·have:=s4 (jj - (off+xs.length * t'.size)) (by omega) (by omega)
         rw [show off+xs.length * t'.size+(jj - (off+xs.length * t'.size))=jj by omega,hvv] at this
         exact hel.2.1 _ (List.mem_of_getElem? this.symm)
       ·have hj':j'<t'.size:=by have:=(List.getElem?_eq_some_iff.1 hp').1;rwa [cellsOf_size] at this
        simp only
        by_cases hi':i'<xs.length
        ·rw [List.getElem?_append_left hi'] at hx'
         obtain ⟨vv,e1,e2⟩:=a5 i' x' j' p' hx' hp'
         have:(i'+1) * t'.size≤xs.length * t'.size:=Nat.mul_le_mul_right _ (by omega)
         rw [Nat.add_mul,Nat.one_mul] at this
         exact ⟨vv,by rw [s3 _ (by omega)];exact e1,e2.upd hr hb rfl hbk s5⟩
        ·rw [List.getElem?_append_right (by omega)] at hx'
         obtain ⟨vv,e1,e2⟩:=hel.2.2 _ x' j' p' hx' hp'
         have hlt:=(List.getElem?_eq_some_iff.1 e1).1
         have hge:xs.length * t'.size≤i' * t'.size:=Nat.mul_le_mul_right _ (by omega)
         have:=s4 ((i' - xs.length) * t'.size+j') hlt (by omega)
         refine ⟨vv,?_,e2.upd hr hb rfl hbk s5⟩
         rw [← e1,← this];congr 1;rw [Nat.sub_mul];omega)
      have hcg:∀ c,hget (hset (hset H b .dead) nb (.live (.arr t' (xs++more) true))) c=hget (hset (hset (hset H b (.live (.arr t' xs true))) b .dead) nb (.live (.arr t' (xs++more) true))) c:=by
       intro c
       by_cases h1:c=nb
       ·subst h1;rw [hget_hset_same,hget_hset_same]
       ·rw [hget_hset_ne _ _ _ _ h1,hget_hset_ne _ _ _ _ h1]
        by_cases h2:c=b
        ·subst h2;rw [hget_hset_same,hget_hset_same]
        ·rw [hget_hset_ne _ _ _ _ h2,hget_hset_ne _ _ _ _ h2,hget_hset_ne _ _ _ _ h2]
      exact ⟨_,_,hrun, .own nb,_,S',F,h,m1.congr hcg,by simpa using m3,(r2.trans' m2).congr hcg⟩
     ·obtain ⟨k1,k2⟩:=kill_rel hr hb
      have hnb:hget (hset H b .dead) nb = .unused:=by rw [hget_hset_ne _ _ _ _ hne];exact hu
      have hel':Elems (upS S b .dead) F w t' more news:=⟨hel.1,hel.2.1,fun i x j p a b=>by
       obtain ⟨vv,e1,e2⟩:=hel.2.2 i x j p a b
       exact ⟨vv,e1,e2.adv hr k2⟩⟩
      obtain ⟨q1,q2⟩:=elems_from (S:=S) (F:=F) (w:=w) (t:=t') (xs:=xs) (ad:=⟨blk,off,none⟩) (fun i x j p hx hp=>by
       obtain ⟨vv,e1,e2⟩:=a5 i x j p hx hp
       exact ⟨vv,by simp [World.cell?,a1,e1],e2⟩)
      have q1':Elems (upS S b .dead) F w t' xs (rowFrom w ⟨blk,off,none⟩ (xs.length * t'.size)):=⟨q1.1,q1.2.1,fun i x j p a b=>by
       obtain ⟨vv,e1,e2⟩:=q1.2.2 i x j p a b
       exact ⟨vv,e1,e2.adv hr k2⟩⟩
      have hfc:(Builtin.firstCells i.size xs.length (.slice (some ⟨blk,off,none⟩) xs.length cap)).run P w.drew = .ok (rowFrom w ⟨blk,off,none⟩ (xs.length * t'.size)).toArray w.drew :=
       run_firstCells_some w.drew i.size xs.length ⟨blk,off,none⟩ xs.length cap _ (by rw [hisz,← hsz];exact q1.1) (fun j vv hv'=>by rw [add_addr];exact q2 j vv hv')
      obtain ⟨u',w',S',g1,g2,g3,g4⟩:=ok_grow (tx:=tx) (ty:=ty) ht hi hzv hzs hzf hisz hib hby t' xs more (some ⟨blk,off,none⟩) cap _ news hsz k1 hnb q1' hel' hfc hsrc' (by omega) h2 hcap
      exact ⟨u',w',g1, .own nb,_,S',F,h,g2,g4,k2.trans' g3⟩
  ·cases h
 ·cases h
end
end Go.Proofs.YtdcphpbimeoioaaGreatDoorE
end
section
set_option linter.unusedSectionVars false
namespace Go.Proofs.YtdcphpbimeoioaaGreatDoorE
open Go
set_option linter.unusedVariables false
set_option linter.unusedSimpArgs false
variable [Dm]
section
variable {β:Type} {P:Program} {S S':Nat→SL} {F F':Nat→Prop} {w w':World} {H H':Heap} {E:Env} {ρ:Operand→Value} {O:Orc} {nb:Nat} {r:β}
theorem lset_spec {α:Type}:∀ (l:List α) (i:Nat) (z:α),(lset l i z).length=l.length∧∀ k q,(lset l i z)[k]?=some q→(k=i∧q=z)∨(k≠i∧l[k]?=some q)
 | [],i,z=>⟨rfl,fun k q h=>by simp [lset] at h⟩
 | a ::l,0,z=>⟨by simp [lset],fun k q h=>by
  cases k with
  | zero=>simp [lset] at h;exact .inl ⟨rfl,h.symm⟩
  | succ k=>simp [lset] at h;exact .inr ⟨by omega,by simpa using h⟩⟩
 | a ::l,i+1,z=>by
  obtain ⟨h1,h2⟩:=lset_spec l i z
  refine ⟨by simp [lset,h1],fun k q h=>?_⟩
  cases k with
  | zero=>simp [lset] at h;exact .inr ⟨by omega,by simpa using h⟩
  | succ k =>
   simp [lset] at h
   rcases h2 _ _ h with ⟨rfl,rfl⟩|⟨h3,h4⟩
   ·exact .inl ⟨rfl,rfl⟩
   ·exact .inr ⟨by omega,by simpa using h4⟩
def ElArr (S:Nat→SL) (F:Nat→Prop) (w:World) (t:Ty) (xs:List (El t)) (arr:Array Value):Prop:=Elems S F w t xs arr.toList
theorem els_ok {t:Ty}:∀ (ps:List (Nat×PV)) (vs:List (Nat×Value)) (xs:List (El t)) (arr:Array Value) (K:List (El t)→Option β),(∀ (i:Nat) (p:Nat×PV) (v:Nat×Value),ps[i]?=some p→vs[i]?=some v→p.1=v.1∧Val S F' w (snapV H p.2) v.2)→vs.length=ps.length →
  ElArr S F' w t xs arr→elsFill H t xs ps K=some r→∃ xs' arr',K xs'=some r∧Instr.fill (fun i=>some (i * t.size,t.size)) arr vs=some arr'∧ElArr S F' w t xs' arr'∧xs'.length=xs.length
 | [],vs,xs,arr,K,_,hl,ha,h=>by
  have:vs=[]:=by simpa using hl
  subst this
  exact ⟨xs,arr,h,rfl,ha,rfl⟩
 | (i,p) ::ps,vs,xs,arr,K,hp,hl,ha,h=>by
  cases vs with
  | nil=>simp at hl
  | cons v vs =>
   obtain ⟨h1,h2⟩:=hp 0 _ _ rfl rfl
   simp only at h1 h2
   subst h1
   simp only [elsFill] at h
   obtain ⟨cs,h,hsz,hcv,hco⟩:=cells_val h h2
   obtain ⟨y,rest,h,hcs⟩:=decK_some h
   have hrest:rest=[]:=by cases rest<;>simp at h ⊢
   subst hrest
   simp only [List.append_nil] at hcs
   obtain ⟨hlt,h⟩:=cond_some h
   have hlt:v.1<xs.length:=by
    have:=Nat.le_of_ble_eq_true hlt;omega
   have hcl:v.2.cells.size=t.size:=by rw [hsz,hcs,cellsOf_size]
   obtain ⟨f1,f2⟩:=foldl_put (v.1 * t.size) v.2.cells.toList 0 arr
   obtain ⟨l1,l2⟩:=lset_spec xs v.1 y
   have hmul:v.1 * t.size+t.size≤xs.length * t.size:=by
    have:(v.1+1) * t.size≤xs.length * t.size:=Nat.mul_le_mul_right _ (by omega)
    rwa [Nat.add_mul,Nat.one_mul] at this
   have has:arr.size=xs.length * t.size:=by simpa using ha.1
   have e:v.2.cells.zipIdx.foldl (fun cs (c,j)=>cs.setIfInBounds (v.1 * t.size+j) c) arr=(v.2.cells.toList.zipIdx 0).foldl (fun (cs:Array Value) (x:Value×Nat)=>cs.setIfInBounds (v.1 * t.size+x.2) x.1) arr:=by
    rw [← Array.foldl_toList,Array.toList_zipIdx]
   have ha':ElArr S F' w t (lset xs v.1 y) (v.2.cells.zipIdx.foldl (fun cs (c,j)=>cs.setIfInBounds (v.1 * t.size+j) c) arr):=by
    rw [e]
    refine ⟨by simp [f1,l1,has],fun u hu=>?_,fun k q j pp hq hpp=>?_⟩
    ·obtain ⟨j,hj⟩:=List.getElem?_of_mem hu
     rw [Array.getElem?_toList,f2] at hj
     split at hj
     ·exact hco _ _ (by simpa using hj)
     ·exact ha.2.1 u (List.mem_of_getElem? (by rw [Array.getElem?_toList];exact hj))
    ·have hj:j<t.size:=by have:=(List.getElem?_eq_some_iff.1 hpp).1;rwa [cellsOf_size] at this
     rw [Array.getElem?_toList,f2]
     simp only [Nat.add_zero,Array.length_toList,hcl]
     rcases l2 k q hq with ⟨rfl,rfl⟩|⟨hne,hq'⟩
     ·rw [if_pos ⟨by omega,by omega,by omega⟩]
      have hjl:j<v.2.cells.size:=by omega
      refine ⟨v.2.cells[j],by rw [show v.1 * t.size+j - v.1 * t.size=j by omega];simp [hjl],hcv j pp _ (by rw [hcs];exact hpp) (Array.getElem?_eq_getElem hjl)⟩
     ·have hk:k<xs.length:=(List.getElem?_eq_some_iff.1 hq').1
      rw [if_neg (by
       rintro ⟨b1,b2,_⟩
       rcases Nat.lt_or_gt_of_ne hne with hlt|hgt
       ·have:(k+1) * t.size≤v.1 * t.size:=Nat.mul_le_mul_right _ (by omega)
        rw [Nat.add_mul,Nat.one_mul] at this;omega
       ·have:(v.1+1) * t.size≤k * t.size:=Nat.mul_le_mul_right _ (by omega)
        rw [Nat.add_mul,Nat.one_mul] at this;omega)]
      obtain ⟨vv,e1,e2⟩:=ha.2.2 k q j pp hq' hpp
      exact ⟨vv,by rw [Array.getElem?_toList] at e1;exact e1,e2⟩
   obtain ⟨xs',arr',g1,g2,g3,g4⟩:=els_ok ps vs _ _ K (fun i p v a b=>hp (i+1) p v (by simpa using a) (by simpa using b)) (by simpa using hl) ha' h
   refine ⟨xs',arr',g1,?_,g3,by rw [g4,l1]⟩
   obtain ⟨vi,vv⟩:=v
   simp only [Instr.fill]
   rw [if_neg (by simp at hcl has hmul ⊢;rw [hcl,has];simp;omega)]
   exact g2
theorem zeros_arr {t:Ty} {z:List PV} {zt:El t} {zv:Value} {n:Nat} (hf:∀ (S:Nat→SL) (F:Nat→Prop) (w:World),FillRel S F w z zv.cells) (hz:z.map (cell1 [])=cellsOf t zt) (hp:0<t.size) :
  ElArr S F w t (List.replicate n zt) ((Array.range (n * t.size)).map (zv.cells[· % zv.cells.size]!)):=by
 have hlen:zv.cells.size=t.size:=by rw [(hf S F w).1,← cellsOf_size t zt,← hz];simp
 have hget:∀ j,j<t.size→zv.cells[j % t.size]! = zv.cells[j]! :=fun j hj=>by rw [Nat.mod_eq_of_lt hj]
 refine ⟨by simp,fun u hu=>?_,fun i x j p hx hp'=>?_⟩
 ·simp only [Array.toList_map,List.mem_map] at hu
  obtain ⟨k,_,rfl⟩:=hu
  have:k % zv.cells.size<zv.cells.size:=Nat.mod_lt _ (by omega)
  rw [getElem!_pos zv.cells _ this]
  exact (hf S F w).2.2 _ _ (Array.getElem?_eq_getElem this)
 ·have hi:i<n:=by have:=(List.getElem?_eq_some_iff.1 hx).1;simpa using this
  have hx':x=zt:=by rw [List.getElem?_replicate,if_pos hi] at hx;simpa using hx.symm
  subst hx'
  have hj:j<t.size:=by have:=(List.getElem?_eq_some_iff.1 hp').1;rwa [cellsOf_size] at this
  have hlt:i * t.size+j<n * t.size:=by
   have:(i+1) * t.size≤n * t.size:=Nat.mul_le_mul_right _ (by omega)
   rw [Nat.add_mul,Nat.one_mul] at this;omega
  have hmod:(i * t.size+j) % zv.cells.size=j:=by rw [hlen,Nat.mul_comm,Nat.mul_add_mod,Nat.mod_eq_of_lt hj]
  have hjl:j<zv.cells.size:=by omega
  refine ⟨zv.cells[j],?_,?_⟩
  ·rw [Array.getElem?_toList,Array.getElem?_map,Array.getElem?_range,if_pos hlt]
   simp only [Option.map_some,hmod]
   rw [getElem!_pos zv.cells j hjl]
  ·rw [← hz,List.getElem?_map] at hp'
   cases hzj:z[j]? with
   | none=>rw [hzj] at hp';cases hp'
   | some q =>
    rw [hzj] at hp'
    simp only [Option.map_some,Option.some.injEq] at hp'
    subst hp'
    have hv:=(hf S F w).2.1 j q _ hzj (Array.getElem?_eq_getElem hjl)
    unfold cell1
    split
    ·rename_i b
     simp only [hget_nil]
     exact .junk _
    ·exact nil_lst hv
    ·exact hv
theorem ok_bslice {t e:TypeId} {ty:Ty} {z:List PV} {n k:Nat} {parts:Array (Nat×Operand)} {K:PV→Heap→Option β} (hr:Rel S F w H) (hd:Opd S F w E ρ) (hu:P.underlying t=some (.slice e)) (hz:zeroPV P e=some z) (hs:szOf P e=some k) (hk:k=ty.size) (hk0:0<k) (hn:n * k≤1000)
  (h:decK ty (z.map (cell1 [])) (fun z rest=>match rest with
   | _ ::_=>none
   | []=>elsFill H ty (List.replicate n z) (((parts.toList.map fun (x:Nat×Operand)=>(x.1,argOf P e x.2)):List (Nat×Arg)).map fun x=>(x.1,x.2.ev E)) fun xs =>
    fresh H nb (cond (memN nb (vOwn E (((parts.toList.map fun (x:Nat×Operand)=>(x.1,argOf P e x.2)):List (Nat×Arg)).map (·.2)))) none (fH (frz (hset H nb (.live (.arr ty xs true))) (vOwn E (((parts.toList.map fun (x:Nat×Operand)=>(x.1,argOf P e x.2)):List (Nat×Arg)).map (·.2)))) fun H=>K (.own nb) H)))=some r) :
  ∃ u' w',(Instr.buildSlice t n (parts.map fun (i,x)=>(i,ρ x))).run P w = .ok u' w'∧Aft S F w H K r u' w':=by
 generalize hids:vOwn E (((parts.toList.map fun (x:Nat×Operand)=>(x.1,argOf P e x.2)):List (Nat×Arg)).map (·.2))=ids at h
 obtain ⟨zt,rest,h,hzc⟩:=decK_some h
 have hrest:rest=[]:=by cases rest<;>simp at h ⊢
 subst hrest
 simp only [List.append_nil] at hzc
 obtain ⟨i,zv,hi,hzv,hzs,hzf⟩:=zeroPV_spec hz
 obtain ⟨r1,r2⟩:=frz_rel hr ids
 have h0:ElArr S (FZ S F H ids) w ty (List.replicate n zt) ((Array.range (n * ty.size)).map (zv.cells[· % zv.cells.size]!)):=zeros_arr hzf hzc (by omega)
 obtain ⟨xs,arr,h,hfill,hel,hxl⟩:=els_ok (S:=S) (F':=FZ S F H ids) (w:=w) _ (parts.toList.map fun (x:Nat×Operand)=>(x.1,ρ x.2)) _ _ _ (fun j p v a b=>by
   simp only [List.getElem?_map] at a b
   cases hq:parts.toList[j]? with
   | none=>rw [hq] at a;cases a
   | some q =>
    rw [hq] at a b
    simp only [Option.map_some,Option.some.injEq] at a b
    subst a b
    refine ⟨rfl,snapV_val hr (argOf_val hd e q.2) (fun k hk => .inl hk) (fun b k hb ⟨x,hx⟩ hk => .inr ⟨b,x,?_,hx,hk⟩)⟩
    rw [← hids]
    simp only [vOwn,List.mem_flatMap,List.mem_map]
    exact ⟨argOf P e q.2,⟨_,⟨q,List.mem_of_getElem? hq,rfl⟩,rfl⟩,hb⟩) (by simp) h0 h
 obtain ⟨hun,h⟩:=fresh_some h
 obtain ⟨hm,h⟩:=cond_none h
 rw [fH_eq] at h
 have hun':hget (frz H ids) nb = .unused:=by rw [hget_frz,hun];rfl
 obtain ⟨S',n1,n2,n3⟩:=new_arr (nb:=nb) (t:=ty) (xs:=xs) (c:=arr) (e:=e) (cap:=n) (fr:=(0,0)) r1 hun' (by rw [hxl];simp) (by have:=hel.1;rw [hxl] at this;simp at this;omega) (fun k _ hh=>by simp at hh)
  (fun i x j p a b=>by obtain ⟨vv,e1,e2⟩:=hel.2.2 i x j p a b;exact ⟨vv,by simpa using e1,e2⟩) (fun j vv hvv=>hel.2.1 vv (List.mem_of_getElem? (by simpa using hvv)))
 have hcg:∀ c,hget (frz (hset H nb (.live (.arr ty xs true))) ids) c=hget (hset (frz H ids) nb (.live (.arr ty xs true))) c:=by
  intro c
  rw [hget_frz]
  by_cases e:c=nb
  ·subst e;rw [hget_hset_same,hget_hset_same,hm];rfl
  ·rw [hget_hset_ne _ _ _ _ e,hget_hset_ne _ _ _ _ e,hget_frz]
 have hnl:xs.length=n:=by rw [hxl];simp
 refine ⟨_,_,?_, .own nb,_,S',_,h,n1.congr hcg,by rw [hnl] at n3;exact n3,(r2.trans' n2).congr hcg⟩
 have hle:¬ (n * k>2 ^ 24):=by omega
 have hpk:(parts.map fun (x:Nat×Operand)=>(x.1,ρ x.2)).toList=parts.toList.map fun (x:Nat×Operand)=>(x.1,ρ x.2):=by simp
 simp only [Instr.buildSlice,Sem.run_bind,underlying,run_program,Result.andThen_ok,hu,Sem.run_pure,run_sizeOf hs,Sem.run_ite,if_neg hle]
 by_cases hnk:n * k=0
 ·have hn0:n=0:=by
   rcases Nat.mul_eq_zero.1 hnk with h|h
   ·exact h
   ·omega
  subst hn0
  have hps:(fun (i:Nat)=>some (i * k,k))=fun i=>some (i * ty.size,ty.size):=by rw [hk]
  simp only [Nat.zero_mul,if_true,Sem.run_pure,Result.andThen_ok,hpk,hps]
  have hz0:((Array.range (0 * ty.size)).map (zv.cells[· % zv.cells.size]!))=(#[]:Array Value):=by simp
  rw [hz0] at hfill
  have hz1:Array.map (fun x:Nat=>(default:Value)) (Array.range 0)=#[]:=by apply Array.ext';simp
  simp [hz1,hfill,newRow]
 ·rw [if_neg hnk]
  have hps:(fun (i:Nat)=>some (i * k,k))=fun i=>some (i * ty.size,ty.size):=by rw [hk]
  simp only [Sem.run_bind,zeroPV_run hi hzv,Result.andThen_ok,Sem.run_pure,hpk,hps]
  rw [hk]
  simp [hfill,newRow]
end
end Go.Proofs.YtdcphpbimeoioaaGreatDoorE
end
section
set_option linter.unusedSectionVars false
namespace Go.Proofs.YtdcphpbimeoioaaGreatDoorE
open Go
set_option linter.unusedVariables false
set_option linter.unusedSimpArgs false
variable [Dm]
section
variable {β:Type} {P:Program} {S S':Nat→SL} {F F':Nat→Prop} {w w':World} {H H':Heap} {E:Env} {ρ:Operand→Value} {O:Orc} {nb:Nat} {r:β}
theorem wrap_small {n:Int} (h0:0≤n) (h:n≤9223372036854775807):IntKind.i64.wrap n=n:=by
 have e1:IntKind.i64.wrap n=(if (true && decide (n % (18446744073709551616:Int)≥(9223372036854775808:Int)))=true then n % 18446744073709551616 - 18446744073709551616 else n % 18446744073709551616):=rfl
 rw [e1,Int.emod_eq_of_lt h0 (by omega)]
 have h2:¬ (n≥(9223372036854775808:Int)):=by omega
 simp [h2]
theorem ok_mks {t e:TypeId} {ty:Ty} {z:List PV} {k bytes:Nat} {kl kc:IntKind} {l c:Int} {K:PV→Heap→Option β} (hr:Rel S F w H) (hu:P.underlying t=some (.slice e)) (hz:zeroPV P e=some z) (hs:szOf P e=some k) (hk:k=ty.size) (hk0:0<k) (hby:0<bytes) (hbe:P.bytesOf e=bytes)
  (h:cond (ile 0 l) (cond (ile l c) (cond (room c.toNat bytes) (decK ty (z.map (cell1 [])) fun z rest=>match rest with
   | _ ::_=>none
   | []=>fresh H nb (fH (hset H nb (.live (.arr ty (List.replicate l.toNat z) true))) fun H=>K (.own nb) H)) none) none) none=some r) :
  ∃ u' w',(Instr.makeSlice t (.int kl l) (.int kc c)).run P w = .ok u' w'∧Aft S F w H K r u' w':=by
 obtain ⟨h1,h⟩:=cond_some h
 obtain ⟨h2,h⟩:=cond_some h
 obtain ⟨h3,h⟩:=cond_some h
 simp only [ile,decide_eq_true_eq] at h1 h2
 simp only [room,decide_eq_true_eq] at h3
 obtain ⟨zt,rest,h,hzc⟩:=decK_some h
 have hrest:rest=[]:=by cases rest<;>simp at h ⊢
 subst hrest
 simp only [List.append_nil] at hzc
 obtain ⟨hun,h⟩:=fresh_some h
 rw [fH_eq] at h
 obtain ⟨i,zv,hi,hzv,hzs,hzf⟩:=zeroPV_spec hz
 have hib:i.bytes=bytes:=by unfold Program.bytesOf at hbe;rw [hi] at hbe;simpa using hbe
 have h0:ElArr S F w ty (List.replicate c.toNat zt) ((Array.range (c.toNat * ty.size)).map (zv.cells[· % zv.cells.size]!)):=zeros_arr hzf hzc (by omega)
 have hlc:l.toNat≤c.toNat:=by omega
 obtain ⟨S',n1,n2,n3⟩:=new_arr (nb:=nb) (t:=ty) (xs:=List.replicate l.toNat zt) (c:=(Array.range (c.toNat * ty.size)).map (zv.cells[· % zv.cells.size]!)) (e:=e) (cap:=c.toNat) (fr:=(0,0)) hr hun (by simpa using hlc) (by simp) (fun k _ hh=>by simp at hh)
  (fun i x j p a b=>by
   have hi:i<l.toNat:=by have:=(List.getElem?_eq_some_iff.1 a).1;simpa using this
   rw [List.getElem?_replicate,if_pos hi] at a
   obtain ⟨vv,e1,e2⟩:=h0.2.2 i x j p (by rw [List.getElem?_replicate,if_pos (by omega)];exact a) b
   exact ⟨vv,by rw [Array.getElem?_toList] at e1;exact e1,e2⟩) (fun j vv hvv=>h0.2.1 vv (List.mem_of_getElem? (by rw [Array.getElem?_toList];exact hvv)))
 rw [List.length_replicate] at n3
 refine ⟨_,_,?_, .own nb,_,S',F,h,n1,n3,n2⟩
 have hcb:c.toNat≤c.toNat * bytes:=Nat.le_mul_of_pos_right _ hby
 have hc46:c≤70368744177664:=by omega
 have w1:=wrap_small h1 (by omega:l≤9223372036854775807)
 have w2:=wrap_small (by omega:(0:Int)≤c) (by omega:c≤9223372036854775807)
 have hprod:((bytes:Int) * c)≤70368744177664:=by
  have:((c.toNat * bytes:Nat):Int)≤70368744177664:=by omega
  rw [Int.natCast_mul,Int.toNat_of_nonneg (by omega)] at this
  rw [Int.mul_comm];exact this
 have b1:¬ (c<0):=by omega
 have b2:¬ (l<0):=by omega
 have b3:¬ (l>c):=by omega
 have b4:¬ ((bytes:Int) * c>(281474976710656:Int)):=by omega
 have hint:∀ (k:IntKind) (n:Int) (w:World),(Go.asInt (.int k n)).run P w = .ok n w:=fun k n w=>by simp [Go.asInt,asIntOf]
 have c1:¬ (((c<0∨281474976710656<(bytes:Int) * c)∨l<0)∨c<l):=by omega
 simp only [Instr.makeSlice,Sem.run_bind,underlying,run_program,Result.andThen_ok,hu,Sem.run_pure,hint,typeInfo,hi,hib]
 simp only [w1,w2]
 have c2:(((decide (c<0) || decide ((bytes:Int) * c>2 ^ 48)) || decide (l<0)) || decide (l>c))=false:=by
  have:decide ((bytes:Int) * c>2 ^ 48)=false:=by
   rw [decide_eq_false_iff_not]
   intro hh
   have:(2 ^ 48:Int)=281474976710656:=by decide
   omega
  have hle:(bytes:Int) * c≤281474976710656:=by omega
  simp [b1,b2,b3,hle]
 rw [if_neg (by rw [c2];simp)]
 simp only [pure_bind,Sem.run_bind,run_askRoom,Result.andThen_ok,run_sizeOf hs]
 rw [hk]
 by_cases hn:c.toNat * ty.size=0
 ·have hz0:(Array.range (c.toNat * ty.size)).map (zv.cells[· % zv.cells.size]!)=#[]:=by rw [hn];apply Array.ext';simp
  have hz1:Array.map (fun x:Nat=>(default:Value)) (Array.range 0)=#[]:=by apply Array.ext';simp
  rw [if_pos hn]
  rw [hn] at hz0
  have hz2:(Array.map (fun x=>zv.cells[x % zv.cells.size]!) (Array.range 0))=#[]:=by apply Array.ext';simp
  rw [hn]
  simp only [hz1,hz2,if_true,Sem.run_pure,Result.andThen_ok,Sem.run_bind,newRow,run_newObj,hz0]
  have hz3:Array.map (fun x=>(#[]:Array Value)[x % (#[]:Array Value).size]!) (Array.range 0)=#[]:=by apply Array.ext';simp
  rw [hz3]
 ·rw [if_neg hn]
  simp [zeroPV_run hi hzv,newRow]
theorem ok_s2b {s:ByteArray} {e:TypeId} {K:PV→Heap→Option β} (hr:Rel S F w H) (h:fresh H nb (fH (hset H nb (.live (.arr (.int .u8) (sbytes s) true))) fun H=>K (.own nb) H)=some r) :
  ∃ u' w',(Conv.stringToBytes e s).run P w = .ok u' w'∧Aft S F w H K r u' w':=by
 obtain ⟨hun,h⟩:=fresh_some h
 rw [fH_eq] at h
 have hsz:s.data.size=s.size:=rfl
 let cap:=(Question.appendCap s.size 0 e).cut (w.tape w.drawn (.appendCap s.size 0 e))
 have hcap:s.size≤cap:=by show s.size≤s.size+_;omega
 let cells:Array Value:=(s.data.map fun b=>Value.int .u8 b.toNat)++Array.replicate (cap - s.size) (.int .u8 0)
 have hcs:cells.size=cap:=by simp [cells];omega
 have hdr:w.drew.heap=w.heap:=rfl
 have hr2:Rel S F w.drew H:=hr.heap hdr
 have hl:(show List (El (.int .u8)) from sbytes s).length=s.size:=by simp [sbytes,ByteArray.toList_eq]
 have hone:∀ (j:Nat) (vv:Value),cells[j]?=some vv→vv.oneCell=true:=by
  intro j vv hvv
  simp only [cells,Array.getElem?_append] at hvv
  split at hvv
  ·simp at hvv;obtain ⟨_,_,rfl⟩:=hvv;rfl
  ·rw [Array.getElem?_replicate] at hvv;split at hvv
   ·cases hvv;rfl
   ·cases hvv
 obtain ⟨S',n1,n2,n3⟩:=new_arr (nb:=nb) (t := .int .u8) (xs:=sbytes s) (c:=cells) (e:=e) (cap:=cap) (fr:=(cells.size,cells.size+1)) hr2 hun (by rw [hl];exact hcap) (by simp [Ty.size,hcs]) (fun k hk hh=>by simp at hh;omega)
  (fun i x j p hx hp=>by
   cases j with
   | succ j=>simp [cellsOf] at hp
   | zero =>
    simp only [cellsOf,List.getElem?_cons_zero,Option.some.injEq] at hp
    subst hp
    refine ⟨.int .u8 x,?_, .int _ _⟩
    simp only [sbytes,ByteArray.toList_eq,List.getElem?_map] at hx
    have hi:i<s.data.size:=by
     cases hq:s.data.toList[i]? with
     | none=>rw [hq] at hx;cases hx
     | some q=>have:=(List.getElem?_eq_some_iff.1 hq).1;simpa using this
    simp only [Ty.size,Nat.mul_one,Nat.add_zero,cells]
    rw [Array.getElem?_append_left (by simpa using hi)]
    cases hq:s.data.toList[i]? with
    | none=>rw [hq] at hx;cases hx
    | some q =>
     rw [hq] at hx
     simp at hx;subst hx
     rw [Array.getElem?_toList] at hq
     simp [hq])
  hone
 refine ⟨_,_,?_, .own nb,_,S',F,h,n1,by rw [hl] at n3;exact n3,(Adv.heap hdr ⟨rfl,rfl,rfl,(fun _=>Nat.le_succ _)⟩ S F H).trans' n2⟩
 have hfz:({ w.drew with heap:=w.drew.heap.push (.cells cells e) }:World).freeze ⟨w.heap.size,cells.size,none⟩ 1={ w.drew with heap:=w.drew.heap.push (.cells cells e (cells.size,cells.size+1)) }:=by
  simp only [World.freeze]
  rw [if_neg (by decide)]
  have hheap:∀ (a b:Array Obj),a=b→({ w.drew with heap:=a }:World)={ w.drew with heap:=b }:=fun a b h=>by rw [h]
  refine hheap _ _ (Array.ext_getElem? fun k=>?_)
  rw [Array.getElem?_modify,hdr]
  by_cases hk:w.heap.size=k
  ·subst hk
   rw [if_pos rfl,Array.getElem?_push_size,Array.getElem?_push_size]
   rfl
  ·have hk':¬ k=w.heap.size:=fun e=>hk e.symm
   rw [if_neg hk,Array.getElem?_push,Array.getElem?_push,if_neg hk',if_neg hk']
 simp only [Conv.stringToBytes,Sem.run_bind,run_choose,Question.forced,Bool.false_eq_true,if_false,Result.andThen_ok,newRow,run_newObj,Sem.run_pure,markStringish,run_shape,World.shape?]
 simp only [Array.getElem?_push_size,run_freeze,Result.andThen_ok,Sem.run_pure]
 exact congrArg (fun w'=>Result.ok (Value.slice (some ⟨w.heap.size,0,none⟩) s.size cap) w') hfz
theorem push_fold:∀ (ns:List Int) (s:ByteArray),(ns.foldl (fun r n=>r.push (UInt8.ofNat n.toNat)) s)=⟨s.data++(ns.map fun n=>UInt8.ofNat n.toNat).toArray⟩
 | [],s=>by simp
 | n ::ns,s=>by
  rw [List.foldl_cons,push_fold ns]
  congr 1
  apply Array.ext'
  simp [ByteArray.push]
theorem ok_b2s {x:PV} {u:Value} {K:PV→Heap→Option β} (hr:Rel S F w H) (hx:Val S F w x u) (hns:∀ s,x ≠ .str s) (h:elsOf H (.int .u8) x (fun l=>K (.str (ofBytes l)) H)=some r):Out P S F w (Conv.bytesToString u) (fun v=>K v H) r:=by
 have main:∀ (xs:List Int) (a:Option Addr) (cap:Nat),(xs≠[]→∃ ad,a=some ad)→(xs≠[]→∀ ad,a=some ad→ad.spot=none) →
   (∀ (ad:Addr) (i:Nat) (x:Int),a=some ad→xs[i]?=some x→w.cell? ⟨ad.block,ad.off+i,none⟩=some (.int .u8 x))→(Conv.bytesToString (.slice a xs.length cap)).run P w = .ok (.string (ofBytes xs)) w:=by
  intro xs a cap ha hs hc
  have hof:ofBytes xs=(xs.foldl (fun r n=>r.push (UInt8.ofNat n.toNat)) ByteArray.empty):=by
   rw [push_fold];unfold ofBytes
   have:ByteArray.empty.data=#[]:=rfl
   rw [this];simp
  cases a with
  | none =>
   have:xs=[]:=by cases xs with
    | nil=>rfl
    | cons x r=>obtain ⟨ad,h⟩:=ha (by simp);cases h
   subst this
   rw [hof]
   simp [Conv.bytesToString]
  | some ad =>
   by_cases hx0:xs=[]
   ·subst hx0
    rw [run_bytesToString w ad ([]:List Int).length cap [] ?_,hof]
    exact run_loadCells_list (P:=P) w ad [] (fun j v hv=>by simp at hv)
   have h0:=hs hx0 ad rfl
   obtain ⟨blk,off,sp⟩:=ad
   simp only at h0;subst h0
   rw [run_bytesToString w ⟨blk,off,none⟩ xs.length cap xs ?_,hof]
   have:=run_loadCells_list (P:=P) w ⟨blk,off,none⟩ (xs.map (Value.int .u8)) (fun j v hv=>by
    rw [List.getElem?_map] at hv
    cases hq:xs[j]? with
    | none=>rw [hq] at hv;cases hv
    | some q=>rw [hq] at hv;cases hv;rw [add_addr];exact hc _ j q rfl hq)
   rwa [List.length_map] at this
 unfold elsOf at h
 split at h
 ·rename_i t'
  obtain ⟨ys,hc,h⟩:=optK_some h
  obtain ⟨e,rfl⟩:=castL_some hc
  subst e
  cases hx
  exact ⟨_,_,h, .str _,main [] none 0 (fun h=>absurd rfl h) (fun _ _ h=>by cases h) (fun _ i x _ h=>by simp at h)⟩
 ·rename_i t' xs
  obtain ⟨ys,hc,h⟩:=optK_some h
  obtain ⟨e,rfl⟩:=castL_some hc
  subst e
  cases hx with
  | lst _ _ a cap vf hcap ha hsp hcell hv' =>
   refine ⟨_,_,h, .str _,main xs a cap ha hsp (fun ad i x e hx=>?_)⟩
   have h1:=hcell ad i x 0 (.int .u8 x) e hx rfl
   have h2:=val_int (hv' i x 0 (.int .u8 x) hx rfl)
   rw [h2] at h1
   simpa [Ty.size] using h1.2
 ·rename_i b
  obtain ⟨x,hb,h⟩:=live_some h
  cases x with
  | box _ _=>cases h
  | arr t' xs wr =>
   obtain ⟨ys,hc,h⟩:=optK_some h
   obtain ⟨e,rfl⟩:=castL_some hc
   subst e
   obtain ⟨a,cap,hS,hcap,hor,hsp⟩:=hget_arr hr hb
   have hu:u = .slice a (List.length xs) cap:=by
    cases hx with
    | own _ _ _ _ _ h=>rw [hS] at h;cases h;rfl
    | ownd _ _ h _=>rw [hS] at h;cases h
   subst hu
   refine ⟨_,_,h, .str _,main xs a cap (fun hne=>?_) (fun hne=>hsp (by have:=List.length_pos_iff.2 hne;have:=hcap;omega)) (fun ad i x e hxx=>?_)⟩
   ·rcases hor with h0|⟨ad,rfl,_⟩
    ·subst h0;exact absurd (List.length_eq_zero_iff.1 (Nat.le_zero.1 hcap)) hne
    ·exact ⟨ad,rfl⟩
   ·subst e
    rcases hor with h0|⟨ad',e',hA,_⟩
    ·subst h0
     have h1:=(List.getElem?_eq_some_iff.1 hxx).1
     have h2:List.length xs≤0:=hcap
     omega
    ·cases e'
     obtain ⟨v,e1,e2,_⟩:=hA.cellsAt hxx 0 (.int .u8 x) rfl
     rw [val_int e2] at e1
     simpa [Ty.size] using e1
 ·rename_i b lo k
  obtain ⟨x,hb,h⟩:=live_some h
  cases x with
  | box _ _=>cases h
  | arr t' xs wr =>
   obtain ⟨ys,hc,h⟩:=optK_some h
   obtain ⟨e,rfl⟩:=castL_some hc
   subst e
   obtain ⟨_,hwl,a,cap,rfl,_,ha,hs,hcell⟩:=view_facts hr hb hx
   have hm:=main (win xs lo k) a cap ha hs (fun ad i x e hxx=>by
    obtain ⟨v,e1,e2⟩:=hcell ad i x 0 (.int .u8 x) e hxx rfl
    rw [val_int e2] at e1
    simpa [Ty.size] using e1)
   have hwl':List.length (win xs lo k)=k:=hwl
   rw [hwl'] at hm
   exact ⟨_,_,h, .str _,hm⟩
 ·exact absurd rfl (hns _)
 ·cases h
end
end Go.Proofs.YtdcphpbimeoioaaGreatDoorE
end
