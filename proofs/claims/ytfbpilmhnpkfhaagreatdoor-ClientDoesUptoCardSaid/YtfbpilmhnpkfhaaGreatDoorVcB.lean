/-
  A GENERATOR OF CONDITIONS over the model's code, proved sound once: what it asks of a function's body gives the run of that body. By an AI agent; no person has read it. Part 2: the conditions of the operations, and that each is enough.
-/
import Derived.Test.YtfbpilmhnpkfhaaGreatDoorVcA
import Derived.WalkLawsBesides
import Derived.Laws.Tables
set_option linter.all false
namespace Go.Vc
open Go Go.RowKit
def chk(b:Bool)(p:Prop):Prop:=
 match b with
 |true=>p
 |false=>False
theorem chk_iff{b:Bool}{p:Prop} :chk b p↔b=true∧p:=by cases b<;>simp [chk]
def preP(pre:Option Prop)(p:Prop):Prop:=
 match pre with
 |none=>p
 |some q=>q∧p
theorem preP_iff{pre:Option Prop}{p:Prop} :preP pre p↔preP pre True∧p:=by cases pre<;>simp [preP]
def Callable(P:Program)(f:FuncId):Prop:= ∃fn c,P.funcs[f]? =some fn∧fn.body=some c∧(fn.name== "runtime.NumGoroutine")=false
structure Env where
 P:Program
 ty:TypeId→Option Ty
 spec:FuncId→List AV→Option (Option Prop×AV)
 /--How many blocks have been handed on to the function that is looked at. -/
 m:Nat:=0
 /--What functions do that are handed boxes. -/
 hspec:FuncId→List AV→Heap→Option (Option Prop×List AV×Heap):=fun _ _ _=>none
 /--Which functions are handed slices of the call's own,or hand several back. -/
 ho:FuncId→Bool:=fun _=>false
structure Env.Ok (E:Env):Prop where
 ty: ∀T t,E.ty T=some t→TyOk E.P T t
 mixed:E.P.follows .mixedOrders=true
 spec: ∀f args pre r,E.spec f args=some (pre,r)→Callable E.P f∧(preP pre True→PureCall E.P f args r)
 hspec: ∀f args H pre rs H',E.hspec f args H=some (pre,rs,H')→Callable E.P f∧(preP pre True→HCall E.P f args H rs H')
def constA:Value→AV
 | .int k n=> .int k n
 | .bool b=> .lit b
 | .string s=>match Nat.ble s.size BIG with
   |true=> .str s
   |false=> .undef
 | .slice none 0 0=> .nils
 |_=> .undef
def evalA(tm:List AV):Operand→AV
 | .tmp t=>tm.getD t .undef
 | .const v=>constA v
 | .func f=> .fn f []
 | .global g=>globAV g globTab
abbrev Ws:=List (Nat×Nat×AV)
def hwr(H:Heap):Ws→Heap
 |[]=>H
 |(b,o,av)::r=>hwr (hset H b o av) r
def cellsW(b:Nat):List AV→Nat→Ws
 |[],_=>[]
 |c::cs,o=>(b,o,c)::cellsW b cs (o+1)
theorem hwr_cellsW(b:Nat): ∀(cs:List AV) (o:Nat) (H:Heap),hwr H (cellsW b cs o)=hsets H b cs o
 |[],_,_=>rfl
 |c::cs,o,H=>by simp [cellsW,hwr,hsets,hwr_cellsW b cs]
def cellsOf:AV→List AV
 | .agg cs=>cs
 |av=>[av]
def valOk:AV→Bool
 | .undef| .gone| .tup _| .blk .. =>false
 |_=>true
def cellOk:AV→Bool
 | .undef| .blk .. =>false
 |_=>true
def cellsAt(H:Heap)(b o n:Nat):List AV:=(List.range n).map fun j=>hget H b (o+j)
def aggA:Bool→List AV→AV
 |true,cs=> .agg cs
 |false,cs=>match cs.headD .undef with
  | .gone=> .undef
  |c=>c
def pickA(c:Bool)(x y:AV)(K:AV→Prop):Prop:=
 match c with
 |true=>K x
 |false=>K y
def litA(used:Bool)(av:AV)(K:AV→Prop):Prop:=
 match used with
 |true=>match av with
  | .bool b=>(b=true→K (.lit true))∧(b=false→K (.lit false))
  |av=>K av
 |false=>K av
def normC:AV→AV
 | .lit b=> .bool b
 |av=>av
def normA:AV→AV
 | .agg cs=> .agg (cs.map normC)
 |av=>normC av
def loadA(t:Ty)(H:Heap)(x:AV)(K:AV→Prop):Prop:=
 match x with
 | .ptr b o=>chk ((cellsAt H b o t.size).all cellOk) (K (aggA t.d.isAgg (cellsAt H b o t.size)))
 | .ref cs=>chk (decide (t.size≤cs.length)) (K (aggA t.d.isAgg (cs.take t.size)))
 | .eptr b k i o=>match hget H b 0 with
   | .blk _ sz n f=>k=n∧i<n∧chk (decide (o+t.size≤sz)) (K (aggA t.d.isAgg (((f i).drop o).take t.size)))
   |_=>False
 |_=>False
def capOk:AV→Bool
 | .int .. | .bool _| .str _| .nils| .arr .. | .ref _=>true
 |_=>false
def capOk2:AV→Bool
 | .ptr .. =>true
 |x=>capOk x
def frzOk1:AV→Bool
 | .int .. | .bool _| .str _| .nils| .arr .. | .ref _=>true
 | .fn _ caps=>caps.all capOk
 |_=>false
def frzOk:AV→Bool
 | .agg cs=>cs.all frzOk1
 |av=>frzOk1 av
def layA(cs:List AV):List AV→Nat→List AV
 |[],_=>cs
 |c::r,o=>layA (cs.set o c) r (o+1)
def updF(f:Nat→List AV)(i o:Nat)(cs:List AV)(j:Nat):List AV:=bif Nat.beq j i then layA (f j) cs o else f j
def plain1:AV→Bool
 | .int .. | .bool _| .str _=>true
 |_=>false
def storeA(t:Ty)(H:Heap)(x v:AV)(K:Ws→Prop):Prop:=
 match x with
 | .ptr b o=>chk (valOk v&&decide ((cellsOf v).length=t.size)&&(cellsAt H b o t.size).all cellOk&& !(isBlk (hget H b 0))) (K (cellsW b (cellsOf v) o))
 | .eptr b k i o=>match hget H b 0 with
   | .blk ro sz n f=>chk (!ro&&decide (o+t.size≤sz)&&valOk (normA v)&&decide ((cellsOf (normA v)).length=t.size)&&(cellsOf (normA v)).all frzOk1&& !((cellsOf (normA v)).isEmpty))
     (k=n∧i<n∧ ∃h:Nat→List AV,(∀j,j<n→updF f i o (cellsOf (normA v)) j=h j)∧K [(b,0,.blk false sz n h)])
   |_=>False
 |_=>False
def fieldA(t:Ty)(H:Heap)(f:Nat)(x:AV)(K:AV→Prop):Prop:=
 match t.d with
 | .struct offs=>match offs[f]? with
   |some (off,_)=>match x with
    | .ptr b o=>K (.ptr b (o+off))
    | .ref cs=>K (.ref (cs.drop off))
    | .eptr b k i o=>match hget H b 0 with
      | .blk _ _ n _=>k=n∧K (.eptr b k i (o+off))
      |_=>False
    |_=>False
   |none=>False
 |_=>False
def indexA(t:Ty)(H:Heap)(x i:AV)(K:AV→Prop):Prop:=
 match t.d with
 | .slice _ esz _=>match i with
   | .int _ z=>match x with
     | .arr sz n f=>chk (decide (sz=esz)) ((0≤z∧z<n)∧K (.ref ((f z.toNat).take sz)))
     | .own b k=>match hget H b 0 with
       | .blk _ sz n _=>chk (decide (sz=esz)) (k=n∧(0≤z∧z<n)∧K (.eptr b k z.toNat 0))
       |_=>False
     |_=>False
   |_=>False
 | .array n _ esz=>match i with
   | .int _ z=>match x with
     | .ptr b o=>chk (decide (0≤z)&&decide (z<n)) (K (.ptr b (o+z.toNat*esz)))
     | .ref cs=>chk (decide (0≤z)&&decide (z<n)) (K (.ref (cs.drop (z.toNat*esz))))
     |_=>False
   |_=>False
 |_=>False
def idxA(E:TypeId→Option Ty)(t:Ty)(x i:AV)(K:AV→Prop):Prop:=
 match t.d with
 | .array n e esz=>match i with
   | .int _ z=>match x with
     | .agg cs=>match E e with
       |some u=>chk (decide (0≤z)&&decide (z<n)&&decide (u.size=esz)&&decide (z.toNat*esz+esz≤cs.length)) (K (aggA u.d.isAgg ((cs.drop (z.toNat*esz)).take esz)))
       |none=>False
     |_=>False
   |_=>False
 |_=>False
def intA(op:BinOp)(k:IntKind)(a b:Int)(K:AV→Prop):Prop:=
 match op with
 | .add=>K (.int k (k.wrap (a+b)))
 | .sub=>K (.int k (k.wrap (a-b)))
 | .mul=>K (.int k (k.wrap (a*b)))
 | .eql=>K (.bool (a==b))
 | .neq=>K (.bool (a !=b))
 | .lss=>K (.bool (decide (a<b)))
 | .leq=>K (.bool (decide (a≤b)))
 | .gtr=>K (.bool (decide (a>b)))
 | .geq=>K (.bool (decide (a≥b)))
 | .quo=>b≠0∧K (.int k (k.wrap (a.tdiv b)))
 | .rem=>b≠0∧K (.int k (a.tmod b))
 | .and=>K (.int k (bits .and k a b))
 | .or=>K (.int k (bits .or k a b))
 |_=>False
def isShift:BinOp→Bool
 | .shl| .shr=>true
 |_=>false
def shiftA(op:BinOp)(k:IntKind)(a b:Int)(K:AV→Prop):Prop:=
 (0≤b∧b≤k.bits)∧match op with
  | .shl=>K (.int k (k.wrap (a*2^b.toNat)))
  | .shr=>K (.int k (a/2^b.toNat))
  |_=>False
def binA(t:Ty)(op:BinOp)(x y:AV)(K:AV→Prop):Prop:=
 match x,y with
 | .int k a,.int k' b=>match isShift op with
   |true=>shiftA op k a b K
   |false=>chk (decide (k=k')) (intA op k a b K)
 | .bool a,.bool b=>match t.d with
   | .bool=>match op with
     | .eql=>K (.bool (a==b))
     | .neq=>K (.bool (!(a==b)))
     |_=>False
   |_=>False
 | .str a,.str b=>match op with
   | .eql=>K (.bool (a.toList==b.toList))
   | .neq=>K (.bool (!(a.toList==b.toList)))
   | .leq=>K (.bool (Op.bytesLess a.toList b.toList||a.toList==b.toList))
   | .gtr=>K (.bool (!(Op.bytesLess a.toList b.toList||a.toList==b.toList)))
   | .lss=>K (.bool (Op.bytesLess a.toList b.toList))
   | .geq=>K (.bool (!Op.bytesLess a.toList b.toList))
   | .add=>a.size+b.size≤BIG∧K (.str (a++b))
   |_=>False
 | .agg cs,.agg ds=>chk (t.cmp&&eqKinds t.zero cs&&eqKinds t.zero ds) (match op with
   | .eql=>K (.bool (eqCells cs ds))
   | .neq=>K (.bool (!(eqCells cs ds)))
   |_=>False)
 |_,_=>False
def unA(op:UnOp)(x:AV)(K:AV→Prop):Prop:=
 match op,x with
 | .not,.bool b=>K (.bool (!b))
 | .not,.lit b=>K (.lit (!b))
 | .neg,.int k n=>K (.int k (k.wrap (0-n)))
 |_,_=>False
def buildA(offs:List (Nat×Nat))(tm:List AV):List (Nat×Operand)→List AV→(List AV→Prop)→Prop
 |[],cs,K=>K cs
 |(i,x)::r,cs,K=>match offs[i]? with
  |some (off,sz)=>chk (valOk (evalA tm x)&&decide ((cellsOf (evalA tm x)).length=sz)&&decide (off+sz≤cs.length)) (buildA offs tm r (layA cs (cellsOf (evalA tm x)) off) K)
  |none=>False
def lenA(H:Heap)(x:AV)(K:AV→Prop):Prop:=
 match x with
 | .arr _ n _=>K (.int .i64 n)
 | .nils=>K (.int .i64 0)
 | .str s=>K (.int .i64 s.size)
 | .own b k=>match hget H b 0 with
   | .blk _ _ n _=>k=n∧K (.int .i64 n)
   |_=>False
 |_=>False
def frz1(H:Heap)(x:AV)(K:AV→Prop):Prop:=
 match x with
 | .own b k=>match hget H b 0 with
   | .blk _ sz n f=>k=n∧K (.arr sz n f)
   |_=>False
 | .lit b=>K (.bool b)
 |av=>chk (frzOk1 av) (K av)
def frzL(H:Heap):List AV→(List AV→Prop)→Prop
 |[],K=>K []
 |x::r,K=>frz1 H x fun y=>frzL H r fun ys=>K (y::ys)
def frzA(H:Heap)(x:AV)(K:AV→Prop):Prop:=
 match x with
 | .agg cs=>frzL H cs fun ys=>K (.agg ys)
 |av=>frz1 H av K
def frzAs(H:Heap):List AV→(List AV→Prop)→Prop
 |[],K=>K []
 |x::r,K=>frzA H x fun y=>frzAs H r fun ys=>K (y::ys)
def scal:AV→Bool
 | .int .. | .bool _| .str _=>true
 |_=>false
def scalA:AV→Bool
 | .agg cs=>cs.all scal
 |av=>scal av
def scalT:AV→Bool
 | .tup vs=>vs.all scalA
 |av=>scalA av
def ro1(H:Heap):AV→Ws
 | .own b _=>match hget H b 0 with
   | .blk _ sz n f=>[(b,0,.blk true sz n f)]
   |_=>[]
 |_=>[]
def roA(H:Heap):AV→Ws
 | .agg cs=>cs.flatMap (ro1 H)
 |av=>ro1 H av
def roAs(H:Heap)(l:List AV):Ws:=l.flatMap (roA H)
def resA(nb:Nat)(r:AV)(ws:Ws)(K:AV→Ws→Prop):Prop:=
 match r with
 | .blk _ sz n f=>K (.own nb n) (ws++[(nb,0,.blk false sz n f)])
 |r=>K r ws
def roWs(H:Heap)(r:AV)(as:List AV):Ws:=
 match scalT r||as.all frzOk with
 |true=>[]
 |false=>roAs H as
def callA(E:Env)(H:Heap)(nb:Nat)(f:FuncId)(args:List AV)(K:AV→Ws→Prop):Prop:=
 frzAs H (args.map normA) fun args'=>match E.spec f args' with
  |some (pre,r)=>preP pre (resA nb r (roWs H r (args.map normA)) K)
  |none=>False
def extractA(i:Nat)(x:AV)(K:AV→Prop):Prop:=
 match x with
 | .tup vs=>chk (decide (i<vs.length)) (K (vs.getD i .undef))
 |_=>False
def bytesF(s:ByteArray)(i:Nat):List AV:=[.int .u8 ((s.data.toList.getD i 0).toNat:Int)]
def srcA(H:Heap)(str:Bool)(esz:Nat)(y:AV)(K:Nat→(Nat→List AV)→Prop):Prop:=
 match y with
 | .nils=>chk (!str) (K 0 fun _=>[])
 | .arr sz n f=>chk (!str&&decide (sz=esz)) (K n f)
 | .str s=>chk (str&&decide (esz=1)) (K s.size (bytesF s))
 | .own b k=>match hget H b 0 with
   | .blk _ sz n f=>chk (!str&&decide (sz=esz)) (k=n∧K n f)
   |_=>False
 |_=>False
def appF(n:Nat)(f g:Nat→List AV)(i:Nat):List AV:=bif Nat.blt i n then f i else g (i-n)
def appendA(t:Ty)(str:Bool)(H:Heap)(nb:Nat)(x y:AV)(K:AV→Ws→Prop):Prop:=
 match t.d with
 | .slice _ esz eb=>chk (Nat.ble eb 256&&Nat.blt 0 esz) (srcA H str esz y fun m g=>match x with
   | .nils=>m≤BIG∧K (.own nb m) [(nb,0,.blk false esz m g)]
   | .own b k=>match hget H b 0 with
     | .blk ro sz n f=>chk (!ro&&decide (sz=esz)) (k=n∧n+m≤BIG∧ ∃h:Nat→List AV,(∀i,i<n+m→appF n f g i=h i)∧K (.own b (n+m)) [(b,0,.blk false esz (n+m) h)])
     |_=>False
   | .capd sz n f=>chk (decide (sz=esz)) (0<m∧n+m≤BIG∧ ∃h:Nat→List AV,(∀i,i<n+m→appF n f g i=h i)∧K (.own nb (n+m)) [(nb,0,.blk false esz (n+m) h)])
   |_=>False)
 |_=>False
def nz1(x y:AV):Prop:=x=y∨(x= .nils∧ ∃sz h,y= .arr sz 0 h)
def nzL:List AV→List AV→Prop
 |[],[]=>True
 |x::xs,y::ys=>nz1 x y∧nzL xs ys
 |_,_=>False
theorem nzL_refl: ∀l:List AV,nzL l l
 |[]=>trivial
 |_::l=>⟨.inl rfl,nzL_refl l⟩
theorem nzL_get: ∀{xs ys:List AV} (j:Nat) (x:AV),nzL xs ys→xs[j]? =some x→ ∃y,ys[j]? =some y∧nz1 x y
 |[],[],_,_,_,h=>by simp at h
 |x::xs,y::ys,0,z,h,hz=>by
  simp at hz;subst hz;exact⟨y,rfl,h.1⟩
 |x::xs,y::ys,j+1,z,h,hz=>by simpa using nzL_get j z h.2 (by simpa using hz)
 |[],_::_,_,_,h,_=>h.elim
 |_::_,[],_,_,h,_=>h.elim
theorem nz1_rel{w:World}{F:Nat→Prop}{x y:AV}{v:Value}(h:nz1 x y)(k:FRel w F x v):FRel w F y v:=by
 rcases h with rfl|⟨rfl,sz,g,rfl⟩
 ·exact k
 ·cases k;exact .nil sz g
def frzOk2:AV→Bool
 | .own .. =>true
 |x=>frzOk1 x
def frzLs(H:Heap):List (List AV)→(List (List AV)→Prop)→Prop
 |[],K=>K []
 |l::r,K=>frzL H l fun y=>frzLs H r fun ys=>K (y::ys)
def partsA(esz:Nat)(tm:List AV):List (Nat×Operand)→Nat→Option (List (List AV))
 |[],_=>some []
 |(i,x)::r,k=>match Nat.beq i k&&(valOk (normA (evalA tm x))&&Nat.beq (cellsOf (normA (evalA tm x))).length esz&&(cellsOf (normA (evalA tm x))).all frzOk2)with
  |true=>match partsA esz tm r (k+1)with
   |some l=>some (cellsOf (normA (evalA tm x))::l)
   |none=>none
  |false=>none
def buildSliceA(t:Ty)(tm:List AV)(H:Heap)(nb len:Nat)(ps:List (Nat×Operand))(K:AV→Ws→Prop):Prop:=
 match t.d with
 | .slice _ esz _=>match partsA esz tm ps 0 with
   |some l=>chk (Nat.beq l.length len&&Nat.ble len 4096&&Nat.ble esz 4096&&Nat.blt 0 esz) (frzLs H l fun l'=> ∃h:Nat→List AV,(∀i,i<len→nzL (l'.getD i []) (h i))∧K (.own nb len) (roAs H l.flatten++[(nb,0,.blk false esz len h)]))
   |none=>False
 |_=>False
def makeSliceA(E:Env)(t:Ty)(tm:List AV)(nb:Nat)(l c:Operand)(K:AV→Ws→Prop):Prop:=
 match t.d with
 | .slice e esz eb=>match E.ty e with
   |some te=>match evalA tm l with
    | .int _ z=>match evalA tm c with
      | .int _ z'=>chk (te.zero.all plain1&&Nat.beq te.zero.length esz&&Nat.ble esz 4096&&Nat.ble eb 4096&&Nat.blt 0 esz) ((z=z'∧0≤z∧z≤4096)∧K (.own nb z.toNat) [(nb,0,.blk false esz z.toNat fun _=>te.zero)])
      |_=>False
    |_=>False
   |none=>False
 |_=>False
def boundA(tm:List AV)(d:Int)(o:Option Operand)(K:Int→Prop):Prop:=
 match o with
 |none=>K d
 |some x=>match evalA tm x with
  | .int _ z=>K z
  |_=>False
def capB(m:Option Operand)(sz:Nat):Bool:=
 match m with
 |some _=>Nat.blt 1 sz
 |none=>false
def partV(c:Bool)(sz k:Nat)(g:Nat→List AV):AV:=
 match c with
 |true=> .capd sz k g
 |false=> .arr sz k g
def sliceA(t:Ty)(H:Heap)(tm:List AV)(x:AV)(l h m:Option Operand)(K:AV→Ws→Prop):Prop:=
 chk (h.isSome|| !(m.isSome)) (match t.d with
 | .slice _ esz _=>match x with
   | .arr sz n f=>chk (decide (sz=esz)) (boundA tm 0 l fun lo=>boundA tm n h fun hi=>boundA tm hi m fun mx=>
     ((0≤lo∧lo≤hi∧hi≤mx∧mx≤n)∧(capB m sz=true→hi=mx))∧K (partV (capB m sz) sz (hi-lo).toNat fun i=>f (lo.toNat+i)) [])
   | .nils=>boundA tm 0 l fun lo=>boundA tm 0 h fun hi=>boundA tm hi m fun mx=>(lo=0∧hi=0∧mx=0)∧K .nils []
   | .own b k=>match hget H b 0 with
     | .blk ro sz n f=>chk (decide (sz=esz)) (k=n∧boundA tm 0 l fun lo=>boundA tm n h fun hi=>boundA tm hi m fun mx=>
       ((0≤lo∧lo≤hi∧hi≤mx∧mx≤n)∧(capB m sz=true→hi=mx))∧K (partV (capB m sz) sz (hi-lo).toNat fun i=>f (lo.toNat+i)) [(b,0,.blk true sz n f)])
     |_=>False
   |_=>False
 | .string=>match x with
   | .str s=>match m with
     |none=>boundA tm 0 l fun lo=>boundA tm s.size h fun hi=>(0≤lo∧lo≤hi∧hi≤s.size)∧K (.str (s.extract lo.toNat hi.toNat)) []
     |some _=>False
   |_=>False
 |_=>False)
def u8N:AV→Nat
 | .int _ z=>z.toNat
 |_=>0
def isU8:AV→Bool
 | .int .u8 _=>true
 |_=>false
def bytesOf(n:Nat)(f:Nat→List AV):ByteArray:=⟨((List.range n).map fun i=>UInt8.ofNat (u8N ((f i).getD 0 .undef))).toArray⟩
def byteTy(t:Ty)(eu:Option Ty):Bool:=
 match t.d with
 | .slice _ esz _=>Nat.beq esz 1&&(match eu with
   |some te=>match te.d with
    | .int .u8=>true
    |_=>false
   |none=>false)
 |_=>false
def TyD.isStr:TyD→Bool
 | .string=>true
 |_=>false
def TyD.isSl:TyD→Bool
 | .slice .. =>true
 |_=>false
def convA(t u:Ty)(eu:Option Ty)(H:Heap)(x:AV)(K:AV→Prop):Prop:=
 match x with
 | .int _ z=>match u.d with
   | .int k=>match t.d with
     | .int _=>K (.int k (k.wrap z))
     |_=>False
   |_=>False
 | .str s=>match t.d with
   | .string=>match u.d with
     | .string=>K (.str s)
     |_=>chk (byteTy u eu) (K (.arr 1 s.size (bytesF s)))
   |_=>False
 | .arr sz n f=>chk (u.d.isStr&&byteTy t eu&&Nat.beq sz 1) ((∀i,i<n→isU8 ((f i).getD 0 .undef)=true)∧K (.str (bytesOf n f)))
 | .nils=>chk (u.d.isStr&&byteTy t eu) (K (.str ⟨#[]⟩))
 | .own b k'=>match hget H b 0 with
   | .blk _ sz n f=>chk (u.d.isStr&&byteTy t eu&&Nat.beq sz 1) (k'=n∧(∀i,i<n→isU8 ((f i).getD 0 .undef)=true)∧K (.str (bytesOf n f)))
   |_=>False
 |_=>False
def minA(x y:AV)(K:AV→Prop):Prop:=
 match x,y with
 | .int k a,.int k' b=>chk (decide (k=k')) (K (.int k (bif decide (b<a)then b else a)))
 |_,_=>False
def maxA(x y:AV)(K:AV→Prop):Prop:=
 match x,y with
 | .int k a,.int k' b=>chk (decide (k=k')) (K (.int k (bif decide (b>a)then b else a)))
 |_,_=>False
end Go.Vc
namespace Go.Vc
open Go Go.RowKit
section
variable {E:Env} {S:Base} {ι:Nat→Option Nat} {st:St} {a:Act} {w:World}
abbrev VR(S:Base)(ι:Nat→Option Nat)(H:Heap)(w:World):AV→Value→Prop:=VRel ι H w (FZ S ι H w)
abbrev CR(S:Base)(ι:Nat→Option Nat)(H:Heap)(w:World):AV→Value→Prop:=CRel ι H w (FZ S ι H w)
theorem constA_rel{H:Heap}{F:Nat→Prop}(v:Value):VRel ι H w F (constA v) v:=by
 unfold constA
 split
 ·exact FRel.int _ _
 ·exact FRel.lit _
 ·split
  ·rename_i hb
   exact FRel.str _ (Nat.le_of_ble_eq_true hb)
  ·trivial
 ·exact FRel.nils
 ·trivial
theorem Sim.eval(h:Sim S ι st a w)(x:Operand):VR S ι st.hp w (evalA st.tm x) (a.eval x):=by
 cases x with
 |tmp t=>
  simp only[evalA,Act.eval]
  cases e:st.tm[t]? with
  |none=>simp only[List.getD,e];trivial
  |some av=>
   obtain⟨v,h1,h2⟩:=h.tm t av e
   have:a.tmps.getD t undef=v:=by simp [Array.getD_eq_getD_getElem?,h1]
   rw[this]
   simp only[List.getD,e]
   exact h2
 |const v=>exact constA_rel v
 |global g=>
  simp only[evalA,Act.eval]
  rcases globAV_ref g globTab with e|⟨cs,e⟩
  ·rw[e];trivial
  ·rcases h.gl g with k|k
   ·rw[k]at e;cases e
   ·rw[e]at k ⊢;exact k
 |func f=>exact⟨[],rfl,trivial⟩
theorem SRel.of_FRel{H:Heap}{F:Nat→Prop}{av:AV}{v:Value}(h:FRel w F av v):SRel ι H w F av v:=by
 cases h<;>simp only[SRel]<;>constructor<;>assumption
theorem CRel.of_FRel{H:Heap}{F:Nat→Prop}{av:AV}{v:Value}(h:FRel w F av v):CRel ι H w F av v:=by
 cases h with
 |int k n=>exact .int k n
 |bool b=>exact .bool b
 |lit b=>exact .lit b
 |str s hb=>exact .str s hb
 |nils=>exact .nils
 |nilp=>exact .nilp
 |capd sz n f p c h hc=>exact FRel.capd sz n f p c h hc
 |nil sz f=>exact .nil sz f
 |mt sz f a c=>exact .mt sz f a c
 |arr sz n f b o c g vs hn hb hF h1 h2 h3=>exact .arr sz n f b o c g vs hn hb hF h1 h2 h3
 |ref cs b o g vs hF h1 h2 h3=>exact .ref cs b o g vs hF h1 h2 h3
 |fn f caps vs g u hl h1 h2 h3=>
  refine⟨vs,rfl,All2.mk hl.symm fun i x y hx hy=>SRel.of_FRel ?_⟩
  have hi:i<caps.length:=by
   rcases Nat.lt_or_ge i caps.length with h|h
   ·exact h
   ·rw[List.getElem?_eq_none h]at hx;cases hx
  have e1:=h1 i hi
  have e2:=h2 i hi
  rw[hx]at e1;rw[hy]at e2
  cases e1;cases e2
  exact h3 i hi
theorem CRel.frz{H:Heap}{F:Nat→Prop}{av:AV}{v:Value}(h:CRel ι H w F av v)(hf:frzOk1 av=true):FRel w F av v:=by
 cases av<;>first|exact h|(cases hf;done)|skip
 rename_i f caps
 obtain⟨vs,rfl,h2⟩:=h
 have hlen:=h2.length
 refine .fn f caps vs (fun j=>caps.getD j .undef) (fun j=>vs.getD j undef) hlen.symm (fun j hj=>by simp [List.getD,List.getElem?_eq_getElem hj]) (fun j hj=>by simp [List.getD,List.getElem?_eq_getElem (show j<vs.length by omega)]) fun j hj=> ?_
 obtain⟨v,h3,h4⟩:=h2.get j caps[j] (List.getElem?_eq_getElem hj)
 have h5:caps.getD j .undef=caps[j]:=by simp [List.getD,List.getElem?_eq_getElem hj]
 have h6:vs.getD j undef=v:=by simp [List.getD,h3]
 rw[h5,h6]
 have h7:=List.all_eq_true.1 hf caps[j] (List.getElem_mem hj)
 generalize caps[j]=c at h4 h7
 cases c<;>first|(cases h7;done)|exact h4
theorem VRel.frz{H:Heap}{F:Nat→Prop}{av:AV}{v:Value}(h:VRel ι H w F av v)(hf:frzOk av=true):ARel w F av v:=by
 cases av
 case agg cs=>
  obtain⟨vs,rfl,h2⟩:=h
  refine⟨vs,rfl,All2.mk h2.length fun i x y hx hy=> ?_⟩
  obtain⟨y',hy',hr⟩:=h2.get i x hx
  rw[hy]at hy';cases hy'
  exact CRel.frz hr (List.all_eq_true.1 hf x (List.mem_of_getElem? hx))
 case undef=>cases hf
 case gone=>cases hf
 case tup=>cases hf
 case blk=>cases hf
 all_goals exact CRel.frz (show CRel ι H w F _ _ from h) hf
theorem FRel.noGone{F:Nat→Prop}{v:Value}(h:FRel w F .gone v):False:=by cases h
theorem VRel1.of_ARel{H:Heap}{F:Nat→Prop}{av:AV}{v:Value}(h:ARel w F av v):VRel1 ι H w F av v:=by
 cases av
 case agg cs=>
  obtain⟨vs,rfl,h2⟩:=h
  exact⟨vs,rfl,h2.imp fun _ _=>CRel.of_FRel⟩
 case undef=>exact h.elim
 case gone=>exact(FRel.noGone h).elim
 all_goals exact(CRel.of_FRel (ι:=ι) (H:=H) (show FRel w F _ _ from h):CRel ι H w F _ _)
theorem VRel.of_VRel1{H:Heap}{F:Nat→Prop}{av:AV}{v:Value}(h:VRel1 ι H w F av v):VRel ι H w F av v:=by
 cases av<;>first|trivial|exact h|exact False.elim h
theorem VRel.of_TRel{H:Heap}{F:Nat→Prop}{av:AV}{v:Value}(h:TRel w F av v):VRel ι H w F av v:=by
 cases av<;>simp only[TRel]at h<;>first|exact VRel.of_VRel1 (VRel1.of_ARel h)|skip
 obtain⟨vs,rfl,h2⟩:=h
 exact⟨vs,rfl,h2.imp fun _ _=>VRel1.of_ARel⟩
theorem VRel.cells{H:Heap}{F:Nat→Prop}{av:AV}{v:Value}(h:VRel ι H w F av v)(hv:valOk av=true):All2 (CRel ι H w F) (cellsOf av) v.cells.toList:=by
 have key:CRel ι H w F av v→All2 (CRel ι H w F) [av] v.cells.toList:=fun k=>by
  have:=CRel.one k
  cases v<;>first|(cases this;done)|exact⟨k,trivial⟩
 cases av<;>first|(cases hv;done)|exact key h|skip
 obtain⟨vs,rfl,h2⟩:=h
 simpa[Value.cells,cellsOf]using h2
theorem Sim.cellsAt(h:Sim S ι st a w){b o n:Nat}(hc:(cellsAt st.hp b o n).all cellOk=true):
  ∃vs:List Value,vs.length=n∧All2 (CR S ι st.hp w) (cellsAt st.hp b o n) vs∧(0<n→ ∃x,ι b=some x∧ ∀(j:Nat) v,vs[j]? =some v→w.cell? ⟨x,o+j,none⟩=some v):=by
 have hall: ∀j,j<n→hget st.hp b (o+j)≠ .undef∧isBlk (hget st.hp b (o+j))=false:=fun j hj=>by
  have:=List.all_eq_true.1 hc (hget st.hp b (o+j)) (by simp [Vc.cellsAt];exact⟨j,hj,rfl⟩)
  cases e:hget st.hp b (o+j)<;>rw[e]at this<;>simp_all [cellOk,isBlk]
 have hex: ∀j,j<n→ ∃v,(∃x,ι b=some x∧w.cell? ⟨x,o+j,none⟩=some v)∧CR S ι st.hp w (hget st.hp b (o+j)) v:=fun j hj=>by
  obtain⟨x,v,h1,h2,_,h4⟩:=(h.hp b (o+j)).box (hall j hj).1 (hall j hj).2
  exact⟨v,⟨x,h1,h2⟩,h4⟩
 have hv: ∃f:Nat→Value,∀j,j<n→(∃x,ι b=some x∧w.cell? ⟨x,o+j,none⟩=some (f j))∧CR S ι st.hp w (hget st.hp b (o+j)) (f j):=by
  refine⟨fun j=>if hj:j<n then(hex j hj).choose else undef,fun j hj=> ?_⟩
  simp only[hj,dif_pos]
  exact(hex j hj).choose_spec
 obtain⟨f,hf⟩:=hv
 refine⟨(List.range n).map f,by simp,All2.mk (by simp [Vc.cellsAt]) fun i x y hx hy=> ?_,fun hn=> ?_⟩
 ·simp only[Vc.cellsAt,List.getElem?_map,Option.map_eq_some_iff]at hx hy
  obtain⟨i1,e1,rfl⟩:=hx
  obtain⟨i2,e2,rfl⟩:=hy
  have hi:i1<n:=by have:=List.mem_of_getElem? e1;simpa using this
  rw[e1]at e2;cases e2
  exact(hf i1 hi).2
 ·obtain⟨x,hx,_⟩:=(hf 0 hn).1
  refine⟨x,hx,fun j v hj=> ?_⟩
  simp only[List.getElem?_map,Option.map_eq_some_iff]at hj
  obtain⟨i1,e1,rfl⟩:=hj
  have hi:i1<n:=by have:=List.mem_of_getElem? e1;simpa using this
  have hij:i1=j:=by
   have hjn:j<n:=by
    rcases Nat.lt_or_ge j n with h|h
    ·exact h
    ·rw[List.getElem?_eq_none (by simpa using h)]at e1;cases e1
   rw[List.getElem?_range hjn]at e1
   cases e1;rfl
  subst hij
  obtain⟨x',hx',hc'⟩:=(hf i1 hi).1
  rw[hx]at hx';cases hx'
  exact hc'
end
end Go.Vc
namespace Go.Vc
open Go Go.RowKit
section
variable {E:Env} {S:Base} {ι:Nat→Option Nat} {st:St} {a:Act} {w:World}
theorem wp_value{P:Program}{o:Oper}{next:Act→World→Prop}{Q:Exit→Act→World→Prop}{v:Value}{w':World}(hr:(execOp a.eval o).run P w= .ok (.value v) w')(hn:next (a.put o.dst v) w'):o.wp P a w next Q:=by
 unfold Oper.wp;rw[hr];exact hn
theorem wp_skip'{P:Program}{o:Oper}{next:Act→World→Prop}{Q:Exit→Act→World→Prop}{w':World}(hr:(execOp a.eval o).run P w= .ok .skip w')(hn:next (a.put o.dst undef) w'):o.wp P a w next Q:=by
 unfold Oper.wp;rw[hr];exact hn
theorem hget_hsets(b:Nat): ∀(cs:List AV) (o:Nat) (H:Heap) (b' o':Nat),hget (hsets H b cs o) b' o'=if b'=b∧o≤o'∧o'<o+cs.length then cs.getD (o'-o) .undef else hget H b' o'
 |[],o,H,b',o'=>by simp [hsets];omega
 |c::cs,o,H,b',o'=>by
  rw[hsets,hget_hsets b cs (o+1)]
  by_cases h1:b'=b∧o+1≤o'∧o'<o+1+cs.length
  ·rw[if_pos h1,if_pos ⟨h1.1,by omega,by simp;omega⟩,show o'-o=(o'- (o+1))+1 by omega];simp
  ·rw[if_neg h1,hget_hset]
   by_cases h2:b'=b∧o'=o
   ·rw[if_pos h2,if_pos ⟨h2.1,by omega,by simp;omega⟩,show o'-o=0 by omega];simp
   ·rw[if_neg h2,if_neg (by simp only[List.length_cons];omega)]
theorem length_hset(H:Heap)(b o:Nat)(c:AV):H.length≤(hset H b o c).length∧b<(hset H b o c).length:=length_setAt _ _ _ _
theorem length_hsets(b:Nat): ∀(cs:List AV) (o:Nat) (H:Heap),H.length≤(hsets H b cs o).length∧(cs≠[]→b<(hsets H b cs o).length)
 |[],_,_=>⟨Nat.le_refl _,fun h=>absurd rfl h⟩
 |c::cs,o,H=>by
  have h1:=length_hset H b o c
  have h2:=(length_hsets b cs (o+1) (hset H b o c)).1
  exact⟨Nat.le_trans h1.1 h2,fun _=>Nat.lt_of_lt_of_le h1.2 h2⟩
theorem Stp.ext{H H':Heap}(hH: ∀b o,hget H' b o=hget H b o):Stp ι H w (FZ S ι H w) ι H' w (FZ S ι H' w):=by
 refine⟨fun x ⟨h1,h2,h3⟩=>⟨h1,h2,fun b hb=>h3 b (rwLive_congr (hH b) hb)⟩,fun _ _ _=>rfl,fun b x hx hb=>⟨hx,by rw[hH];exact hb⟩,fun b ro sz n f hk=>⟨ro,_,n,f,by rw[hH];exact hk,Nat.le_refl _,fun _=>⟨rfl,rfl,fun x C T _ hC=>⟨C,hC,rfl⟩⟩⟩⟩
theorem Sim.ext{tm:List AV}{H H':Heap}(h:Sim S ι ⟨tm,H⟩ a w)(hH: ∀b o,hget H' b o=hget H b o)(hl: ∀b x,ι b=some x→b<H'.length):Sim S ι ⟨tm,H'⟩ a w:=by
 have hs:Stp ι H w (FZ S ι H w) ι H' w (FZ S ι H' w):=Stp.ext hH
 refine⟨h.below,h.defers,fun t av ht=> ?_,fun b o=> ?_,h.inj,h.fresh,hl,h.hist.trans hs⟩
 ·obtain⟨v,h1,h2⟩:=h.tm t av ht
  exact⟨v,h1,h2.step hs⟩
 ·show LRel ι H' w _ b o (hget H' b o)
  rw[hH]
  exact(h.hp b o).step hs (fun _=>rfl) (fun _ _ _=>⟨rfl,rfl⟩) (fun _=>⟨rfl,fun _ _=>rfl⟩)
theorem hget_ge{H:Heap}{b:Nat}(h:H.length≤b)(o:Nat):hget H b o= .undef:=by
 simp [hget,List.getD,List.getElem?_eq_none h]
theorem Sim.none_ge(h:Sim S ι st a w){b:Nat}(hb:st.hp.length≤b):ι b=none:=by
 cases e:ι b with
 |none=>rfl
 |some x=>have:=h.dom b x e;omega
theorem upd_some(ι:Nat→Option Nat)(nb x:Nat): ∀b,upd ι nb x b≠none→ι b≠none∨b=nb:=fun b h=>by
 unfold upd at h
 by_cases e:b=nb
 ·exact .inr e
 ·simp only[e,if_false]at h;exact .inl h
theorem Sim.newBoxW(h:Sim S ι st a w){b:Nat}(hb: ∀o,hget st.hp b o= .undef)(hι:ι b=none)(cs:List AV)(hne:cs≠[])(vs:List Value)(T:TypeId)(hv:All2 (CR S ι st.hp w) cs vs):
  Sim S (upd ι b w.heap.size) ⟨st.tm,hwr st.hp (cellsW b cs 0)⟩ a (w.alloc (.cells vs.toArray T))∧
  VR S (upd ι b w.heap.size) (hwr st.hp (cellsW b cs 0)) (w.alloc (.cells vs.toArray T)) (.ptr b 0) (.pointer (some ⟨w.heap.size,0,none⟩)):=by
 obtain⟨h1,_,h3⟩:=h.newBox b hb hι cs vs T hv
 have hH: ∀b' o,hget (hwr st.hp (cellsW b cs 0)) b' o=hget (hnew st.hp b cs) b' o:=fun b' o=>by
  rw[hwr_cellsW,hget_hsets,hget_hnew]
  by_cases e:b'=b
  ·subst e
   by_cases ho:o<cs.length
   ·rw[if_pos ⟨rfl,by omega,by omega⟩,if_pos rfl];simp
   ·rw[if_neg (by omega),if_pos rfl,hb];simp [List.getD,List.getElem?_eq_none (Nat.le_of_not_lt ho)]
  ·rw[if_neg (fun e'=>e e'.1),if_neg e]
 refine⟨h1.ext hH fun b' x hx=> ?_,?_⟩
 ·rw[hwr_cellsW]
  have hl:=length_hsets b cs 0 st.hp
  unfold upd at hx
  by_cases e:b'=b
  ·rw[e];exact hl.2 hne
  ·simp only[e,if_false]at hx
   exact Nat.lt_of_lt_of_le (h.dom _ _ hx) hl.1
 ·exact CRel.step (Stp.ext (S:=S) hH) h3
theorem ZRel.rel{H:Heap}{F:Nat→Prop}{av:AV}{v:Value}(h:ZRel av v):CRel ι H w F av v:=by
 cases av<;>simp only[ZRel]at h<;>first|(subst h;constructor)|exact h|exact h.elim|(obtain⟨rfl,hz⟩:=h;exact FRel.str _ (by omega))
theorem alloc_sound{o:Oper}{T:TypeId}{t:Ty}(ho:o.op= .alloc T)(hT:TyOk E.P T t)(h:Sim S ι st a w){nb:Nat}(hn: ∀o,hget st.hp nb o= .undef)(hι:ι nb=none)(hne:t.zero≠[]){next:Act→World→Prop}{Q:Exit→Act→World→Prop}
  (hnext: ∀ι' w' v,(∀b,ι' b≠none→ι b≠none∨b=nb)→Sim S ι' ⟨st.tm,hwr st.hp (cellsW nb t.zero 0)⟩ a w'→VR S ι' (hwr st.hp (cellsW nb t.zero 0)) w' (.ptr nb 0) v→next (a.put o.dst v) w'):o.wp E.P a w next Q:=by
 obtain⟨z,hz1,hz2,hz3⟩:=run_zeroValue w hT
 obtain⟨h1,h2⟩:=h.newBoxW hn hι t.zero hne z.cells.toList T (hz2.imp fun _ _=>ZRel.rel)
 refine wp_value (v:= .pointer (some ⟨w.heap.size,0,none⟩)) (w':=w.alloc (.cells z.cells T)) ?_ (hnext _ _ _ (upd_some _ _ _) (by simpa using h1) (by simpa using h2))
 simp [execOp,ho,Instr.alloc,hz1,newVar,newRow]
theorem box_sound{o:Oper}{T:TypeId}{x:Operand}(ho:o.op= .box T x)(h:Sim S ι st a w){nb:Nat}(hn: ∀o,hget st.hp nb o= .undef)(hι:ι nb=none)(hok:valOk (evalA st.tm x)=true)(hne:cellsOf (evalA st.tm x)≠[]){next:Act→World→Prop}{Q:Exit→Act→World→Prop}
  (hnext: ∀ι' w' v,(∀b,ι' b≠none→ι b≠none∨b=nb)→Sim S ι' ⟨st.tm,hwr st.hp (cellsW nb (cellsOf (evalA st.tm x)) 0)⟩ a w'→VR S ι' (hwr st.hp (cellsW nb (cellsOf (evalA st.tm x)) 0)) w' (.ptr nb 0) v→next (a.put o.dst v) w'):o.wp E.P a w next Q:=by
 have hr:=(h.eval x).cells hok
 obtain⟨h1,h2⟩:=h.newBoxW hn hι _ hne _ T hr
 refine wp_value (v:= .pointer (some ⟨w.heap.size,0,none⟩)) (w':=w.alloc (.cells (a.eval x).cells T)) ?_ (hnext _ _ _ (upd_some _ _ _) (by simpa using h1) (by simpa using h2))
 simp [execOp,ho,Instr.box,newVar,newRow]
theorem aggA_rel{b:Bool}{cs:List AV}{vs:List Value}{H:Heap}{F:Nat→Prop}(h:All2 (CRel ι H w F) cs vs)(hb:b=false→cs.length=1):VRel ι H w F (aggA b cs) (aggOf b vs):=by
 cases b with
 |true=>exact⟨vs,rfl,h⟩
 |false=>
  match cs,vs,h,hb rfl with
  |[c],[v],h,_=>
   have:=h.1
   cases c<;>first|trivial|exact this|exact False.elim this
theorem All2.take{α β:Type}{R:α→β→Prop} : ∀{as:List α} {bs:List β} (n:Nat),All2 R as bs→All2 R (as.take n) (bs.take n)
 |[],[],n,_=>by simp [All2]
 |_::_,_::_,0,_=>trivial
 |_::_,_::_,n+1,h=>⟨h.1,All2.take n h.2⟩
 |[],_::_,_,h=>h.elim
 |_::_,[],_,h=>h.elim
theorem TyOk.one{P:Program}{T:TypeId}{t:Ty}(h:TyOk P T t)(hb:t.d.isAgg=false):t.size=1:=by
 obtain⟨d,_,_,h3⟩:=h.agg
 exact(h3 hb).1
theorem load_run{T:TypeId}{t:Ty}{xa:AV}{v0:Value}(hT:TyOk E.P T t)(h:Sim S ι st a w)(hx:VR S ι st.hp w xa v0){K:AV→Prop}(hk:loadA t st.hp xa K):
  ∃(p:Addr) (av:AV) (u:Value),v0= .pointer (some p)∧K av∧VR S ι st.hp w av u∧(loadVar T p).run E.P w= .ok u w:=by
 have fin: ∀(y off:Nat) (cs:List AV) (vs:List Value),v0= .pointer (some ⟨y,off,none⟩)→vs.length=t.size→All2 (CR S ι st.hp w) cs vs→(∀(j:Nat) v,vs[j]? =some v→w.cell? ⟨y,off+j,none⟩=some v)→K (aggA t.d.isAgg cs)→
   ∃(p:Addr) (av:AV) (u:Value),v0= .pointer (some p)∧K av∧VR S ι st.hp w av u∧(loadVar T p).run E.P w= .ok u w:=fun y off cs vs e hl hr hc hK=>
  ⟨⟨y,off,none⟩,aggA t.d.isAgg cs,aggOf t.d.isAgg vs,e,hK,aggA_rel hr fun hb=>by rw[hr.length,hl,hT.one hb],run_loadVar' w hT y off vs hl hc⟩
 cases xa<;>simp only[loadA,chk_iff,decide_eq_true_eq]at hk<;>try exact hk.elim
 ·rename_i b off
  obtain⟨hk1,hk2⟩:=hk
  obtain⟨vs,hl,hr,hc⟩:=h.cellsAt hk1
  obtain⟨_,y,hy,hv⟩:=(show CR S ι st.hp w (.ptr b off) _ from hx)
  refine fin y off _ vs hv hl hr (fun j v hj=> ?_) hk2
  obtain⟨y',hy',hc'⟩:=hc (by rw[←hl];rcases Nat.lt_or_ge 0 vs.length with h|h;exact h;rw[List.getElem?_eq_none (by omega)]at hj;cases hj)
  rw[hy]at hy';cases hy'
  exact hc' j v hj
 ·rename_i b k i off
  obtain⟨_,ro,sz,n,f,h1,h2,h3⟩:=(show CR S ι st.hp w (.eptr b k i off) _ from hx)
  rw[h1]at hk
  simp only at hk
  obtain⟨rfl,hi,hsz,hK⟩:=hk
  obtain⟨y,hy,hv⟩:=h3 rfl
  have hl:=h.hp b 0
  rw[h1]at hl
  obtain⟨_,hd|⟨_,hl|⟨y',C,T',hy',hC,hcells⟩⟩⟩:=hl
  ·rw[hy]at hd;cases hd.2.2
  ·omega
  rw[hy]at hy';cases hy'
  have hex: ∀j,j<t.size→ ∃v,C[i*sz+(off+j)]? =some v∧ ∃c,((((f i).drop off).take t.size))[j]? =some c∧CR S ι st.hp w c v:=fun j hj=>by
   obtain⟨c,v,g1,g2,g3⟩:=hcells i (off+j) hi (by omega)
   exact⟨v,g2,c,by rw[List.getElem?_take_of_lt hj,List.getElem?_drop];exact g1,CRel.of_FRel g3⟩
  have hlen:(((f i).drop off).take t.size).length=t.size:=by
   rcases Nat.lt_or_ge (((f i).drop off).take t.size).length t.size with hlt|hge
   ·obtain⟨_,_,c,hc,_⟩:=hex _ hlt
    rw[List.getElem?_eq_none (Nat.le_refl _)]at hc;cases hc
   ·have:=List.length_take_le t.size ((f i).drop off);omega
  let vs:=(List.range t.size).map fun j=>(C[i*sz+(off+j)]?).getD undef
  have hvs: ∀j v,vs[j]? =some v→j<t.size∧C[i*sz+(off+j)]? =some v:=fun j v hj=>by
   have hjl:j<t.size:=by
    rcases Nat.lt_or_ge j t.size with h|h
    ·exact h
    ·rw[List.getElem?_eq_none (by simpa[vs]using h)]at hj;cases hj
   refine⟨hjl,?_⟩
   simp only[vs,List.getElem?_map,List.getElem?_range hjl,Option.map_some,Option.some.injEq]at hj
   obtain⟨v',g,_⟩:=hex j hjl
   rw[g]at hj ⊢;simpa using hj
  refine fin y (i*sz+off) _ vs hv (by simp [vs]) (All2.mk (by simp [vs,hlen]) fun j c v hc hv=> ?_) (fun j v hj=> ?_) hK
  ·obtain⟨hjl,g⟩:=hvs j v hv
   obtain⟨v',g1,c',g2,g3⟩:=hex j hjl
   rw[g]at g1;cases g1
   rw[hc]at g2;cases g2
   exact g3
  ·obtain⟨_,g⟩:=hvs j v hj
   rw[cell_of_row w y _ C T' (0,0) hC,Nat.add_assoc];exact g
 ·rename_i cs
  obtain⟨hk1,hK⟩:=hk
  have hx':FRel w (FZ S ι st.hp w) (.ref cs) v0:=hx
  cases hx' with
  |ref _ b off g u hF h1 h2 h3=>
   have hcs: ∀j c,cs[j]? =some c→j<cs.length:=fun j c hj=>by
    rcases Nat.lt_or_ge j cs.length with h|h
    ·exact h
    ·rw[List.getElem?_eq_none h]at hj;cases hj
   refine fin b off (cs.take t.size) ((List.range t.size).map u) rfl (by simp) (All2.mk (by simp;omega) fun j c v hc hv=> ?_) (fun j v hj=> ?_) hK
   all_goals
    have hjl:j<t.size:=by
     rcases Nat.lt_or_ge j t.size with h|h
     ·exact h
     ·first
       |(rw[List.getElem?_eq_none (by simpa using h)]at hv;cases hv;done)
       |(rw[List.getElem?_eq_none (by simpa using h)]at hj;cases hj;done)
   ·simp only[List.getElem?_map,List.getElem?_range hjl,Option.map_some,Option.some.injEq]at hv
    rw[List.getElem?_take_of_lt hjl]at hc
    have:=hcs j c hc
    rw[h1 j this]at hc;cases hc
    subst hv
    exact CRel.of_FRel (h3 j this)
   ·simp only[List.getElem?_map,List.getElem?_range hjl,Option.map_some,Option.some.injEq]at hj
    subst hj
    exact h2 j (by omega)
theorem load_sound{o:Oper}{T:TypeId}{t:Ty}{x:Operand}(ho:o.op= .load T x)(hT:TyOk E.P T t)(h:Sim S ι st a w){K:AV→Prop}(hk:loadA t st.hp (evalA st.tm x) K){next:Act→World→Prop}{Q:Exit→Act→World→Prop}
  (hnext: ∀av v,K av→VR S ι st.hp w av v→next (a.put o.dst v) w):o.wp E.P a w next Q:=by
 obtain⟨p,av,u,h1,h2,h3,h4⟩:=load_run hT h (h.eval x) hk
 refine wp_value (v:=u) (w':=w) ?_ (hnext _ _ h2 h3)
 simp [execOp,ho,h1,Instr.loadAt,Instr.sureAddr,h4]
end
end Go.Vc
namespace Go.Vc
open Go Go.RowKit
section
variable {E:Env} {S:Base} {ι:Nat→Option Nat} {st:St} {a:Act} {w:World}
theorem normC_rel{H:Heap}{F:Nat→Prop}{x:AV}{v:Value}(h:CRel ι H w F x v):CRel ι H w F (normC x) v:=by
 cases x
 case lit b=>
  have h':FRel w F (.lit b) v:=h
  cases h'
  exact FRel.bool b
 all_goals exact h
theorem normA_rel{H:Heap}{F:Nat→Prop}{x:AV}{v:Value}(h:VRel ι H w F x v):VRel ι H w F (normA x) v:=by
 cases x
 case lit b=>exact normC_rel (ι:=ι) (H:=H) (F:=F) (w:=w) (x:= .lit b) (show CRel ι H w F (.lit b) v from h)
 case agg cs=>
  obtain⟨vs,rfl,hr⟩:=h
  refine⟨vs,rfl,All2.mk (by simp [hr.length]) fun i p q hp hq=> ?_⟩
  simp only[List.getElem?_map,Option.map_eq_some_iff]at hp
  obtain⟨c,hc,rfl⟩:=hp
  obtain⟨q',hq',hr'⟩:=hr.get i c hc
  rw[hq]at hq';cases hq'
  exact normC_rel hr'
 all_goals exact h
theorem setAt_setAt{α:Type}(d x y:α): ∀(l:List α) (i:Nat),setAt d (setAt d l i x) i y=setAt d l i y
 |[],0=>rfl
 |[],i+1=>by simp only[setAt,setAt_setAt d x y [] i]
 |_::_,0=>rfl
 |a::as,i+1=>by simp only[setAt,setAt_setAt d x y as i]
theorem hset_hset(H:Heap)(b o:Nat)(x y:AV):hset (hset H b o x) b o y=hset H b o y:=by
 unfold hset
 have h1:(setAt [] H b (setAt .undef (H.getD b []) o x)).getD b []=setAt .undef (H.getD b []) o x:=by rw[getD_setAt,if_pos rfl]
 rw[h1,setAt_setAt,setAt_setAt]
theorem Sim.storesArr{P:Program}{b z i sz n o0:Nat}(hz:ι b=some z)(hi:i<n)(hbig:n≤BIG): ∀(cs:List AV) (vs:List Value) (k:Nat) (f:Nat→List AV) (st:St) (w:World),Sim S ι st a w→hget st.hp b 0= .blk false sz n f→o0+k+cs.length≤sz→
  All2 (FRel w (FZ S ι st.hp w)) cs vs→cs≠[]→ ∀(g:Nat→List AV),(∀j,j<n→updF f i (o0+k) cs j=g j)→ ∃w',(storeCells ⟨z,i*sz+o0,none⟩ vs k).run P w= .ok () w'∧Sim S ι ⟨st.tm,hset st.hp b 0 (.blk false sz n g)⟩ a w'
 |[],_,_,_,_,_,_,_,_,_,hne,_,_=>absurd rfl hne
 |_::_,[],_,_,_,_,_,_,_,hv,_,_,_=>hv.elim
 |c::cs,v::vs,k,f,st,w,h,hb,hl,hv,_,g,hg=>by
  have hq:o0+k<sz:=by simp only[List.length_cons]at hl;omega
  have hlr:=h.hp b 0
  rw[hb]at hlr
  obtain⟨_,hd|⟨_,hlr|⟨z',C,T',hz',hC,hcells⟩⟩⟩:=hlr
  ·rw[hz]at hd;cases hd.2.2
  ·rw[hz]at hlr;cases hlr.2
  rw[hz]at hz';cases hz'
  obtain⟨_,u0,_,k2,_⟩:=hcells i (o0+k) hi hq
  have hiC:=(Array.getElem?_eq_some_iff.1 k2).1
  have hone:one v=true:=hv.1.one
  have hcell:w.cell? ⟨z,i*sz+(o0+k),none⟩=some (C[i*sz+(o0+k)]):=by
   rw[cell_of_row w z (i*sz+(o0+k)) C T' (0,0) hC,Array.getElem?_eq_getElem hiC]
  have hfz:w.frozen? ⟨z,i*sz+(o0+k),none⟩=false:=frozen_of_row w z (i*sz+(o0+k)) C T' hC
  have hst:=run_store_one (P:=P) w ⟨z,i*sz+(o0+k),none⟩ hone hcell hfz
  cases cs with
  |nil=>
   cases vs with
   |cons _ _=>exact hv.2.elim
   |nil=>
    obtain⟨h1,_⟩:=h.storeArr hz hb hC hq hiC hv.1 (g:=g) (fun j hj=>(hg j hj).symm) hcells hbig
    refine⟨_,?_,h1⟩
    simp only[storeCells,Sem.run_bind,Addr.add_lit,Nat.add_assoc,hst,Result.andThen]
    rfl
  |cons c2 cs=>
   obtain⟨h1,s1⟩:=h.storeArr hz hb hC hq hiC hv.1 (g:=fun j=>bif Nat.beq j i then(f j).set (o0+k) c else f j) (fun _ _=>rfl) hcells hbig
   obtain⟨w',r,h2⟩:=Sim.storesArr (P:=P) (o0:=o0) hz hi hbig (c2::cs) vs (k+1) _ ⟨st.tm,hset st.hp b 0 (.blk false sz n fun j=>bif Nat.beq j i then(f j).set (o0+k) c else f j)⟩ _ h1 (by rw[hget_hset,if_pos ⟨rfl,rfl⟩]) (by simp only[List.length_cons]at hl ⊢;omega)
    (hv.2.imp fun _ _ hr=>hr.mono s1.fz s1.cell) (by simp) g (fun j hj=>by
     rw[←hg j hj]
     unfold updF
     cases e:Nat.beq j i<;>simp only[e,cond_true,cond_false,layA,Nat.add_assoc])
   refine⟨w',?_,by rw[hset_hset]at h2;exact h2⟩
   simp only[storeCells,Sem.run_bind,Addr.add_lit,Nat.add_assoc,hst,Result.andThen]
   exact r
theorem run_storeAt{P:Program}{T:TypeId}{t:Ty}(hT:TyOk P T t)(w w':World)(p:Addr)(v:Value)(hl:v.cells.size=t.size)(hr:(storeCells p v.cells.toList 0).run P w= .ok () w'):
  (Instr.storeAt T (.pointer (some p)) v).run P w= .ok () w':=by
 simp [Instr.storeAt,Instr.sureAddr,storeVar,run_sizeOf w hT,hl,hr]
theorem store_sound{o:Oper}{T:TypeId}{t:Ty}{x y:Operand}(ho:o.op= .store T x y)(hT:TyOk E.P T t)(h:Sim S ι st a w){K:Ws→Prop}(hk:storeA t st.hp (evalA st.tm x) (evalA st.tm y) K){next:Act→World→Prop}{Q:Exit→Act→World→Prop}
  (hnext: ∀ws w',K ws→Sim S ι ⟨st.tm,hwr st.hp ws⟩ a w'→next (a.put o.dst undef) w'):o.wp E.P a w next Q:=by
 have hx:=h.eval x
 have hy:=h.eval y
 cases e:evalA st.tm x<;>rw[e]at hk hx<;>simp only[storeA,chk_iff,Bool.and_eq_true,decide_eq_true_eq,Bool.not_eq_true']at hk<;>try exact hk.elim
 ·rename_i b off
  obtain⟨⟨⟨⟨hk1,hk2⟩,hk3⟩,hk4⟩,hK⟩:=hk
  have hc:=hy.cells hk1
  obtain⟨_,z,hz,hv⟩:=(show CR S ι st.hp w (.ptr b off) _ from hx)
  have hcl: ∀j,j<(cellsOf (evalA st.tm y)).length→hget st.hp b (off+0+j)≠ .undef∧isBlk (hget st.hp b (off+0+j))=false:=fun j hj=>by
   have:=List.all_eq_true.1 hk3 (hget st.hp b (off+j)) (by simp [Vc.cellsAt];exact⟨j,by omega,rfl⟩)
   rw[Nat.add_zero]
   cases e:hget st.hp b (off+j)<;>rw[e]at this<;>simp_all [cellOk,isBlk]
  obtain⟨w',r,h2,_⟩:=Sim.stores (P:=E.P) (S:=S) (a:=a) (o0:=off) hz (cellsOf (evalA st.tm y)) _ 0 st w h hk4 hcl hc
  refine wp_skip' (w':=w') ?_ (hnext _ _ hK (by rw[hwr_cellsW];exact h2))
  have:=run_storeAt hT w w' ⟨z,off,none⟩ (a.eval y) (by rw[←hk2,hc.length];simp) r
  simp [execOp,ho,hv,this]
 ·rename_i b k i off
  obtain⟨_,ro,sz,n,f,h1,h2,h3⟩:=(show CR S ι st.hp w (.eptr b k i off) _ from hx)
  rw[h1]at hk
  simp only[chk_iff,Bool.and_eq_true,Bool.not_eq_true']at hk
  obtain⟨⟨⟨⟨⟨⟨hro,hoff⟩,hok⟩,hts⟩,hpl⟩,hne⟩,rfl,hi,g,hg,hK⟩:=hk
  subst hro
  obtain⟨z,hz,hv⟩:=h3 rfl
  have hc:=VRel.cells (normA_rel hy) hok
  have hfr:All2 (FRel w (FZ S ι st.hp w)) (cellsOf (normA (evalA st.tm y))) (a.eval y).cells.toList:=All2.mk hc.length fun j p q hp hq=>by
   obtain⟨q',hq',hr⟩:=hc.get j p hp
   rw[hq]at hq';cases hq'
   exact CRel.frz hr (List.all_eq_true.1 hpl p (List.mem_of_getElem? hp))
  have hl:=h.hp b 0
  rw[h1]at hl
  have hbg:k≤BIG:=by
   rcases hl.2 with hd|hd
   ·cases hd.1
   ·exact hd.1
  obtain⟨w',r,h4⟩:=Sim.storesArr (P:=E.P) (S:=S) (a:=a) (o0:=off) hz hi hbg _ _ 0 f st w h h1 (by omega) hfr (by intro e;rw[e]at hne;cases hne) g hg
  refine wp_skip' (w':=w') ?_ (hnext _ _ hK h4)
  have:=run_storeAt hT w w' ⟨z,i*sz+off,none⟩ (a.eval y) (by rw[←hts,hc.length];simp) r
  simp [execOp,ho,hv,this]
theorem field_sound{o:Oper}{T:TypeId}{t:Ty}{x:Operand}{f:Nat}(ho:o.op= .fieldAddr T x f)(hT:TyOk E.P T t)(h:Sim S ι st a w){K:AV→Prop}(hk:fieldA t st.hp f (evalA st.tm x) K){next:Act→World→Prop}{Q:Exit→Act→World→Prop}
  (hnext: ∀av v,K av→VR S ι st.hp w av v→next (a.put o.dst v) w):o.wp E.P a w next Q:=by
 have hx:=h.eval x
 have hd:=hT.d
 cases ed:t.d<;>simp only[fieldA,ed]at hk<;>try exact hk.elim
 rename_i offs
 rw[ed]at hd
 obtain⟨fs,hu,_,hoff⟩:=hd
 cases eo:offs[f]? <;>rw[eo]at hk<;>simp only at hk
 rename_i off
 obtain⟨off,sz⟩:=off
 simp only at hk
 obtain⟨fl,hf1,hf2,i,hi1,hi2,hi3⟩:=hoff f off sz eo
 rw[←hi2]at hi3
 have hrun: ∀(y p:Nat),a.eval x= .pointer (some ⟨y,p,none⟩)→(execOp a.eval o).run E.P w= .ok (.value (.pointer (some ⟨y,p+off,none⟩))) w:=fun y p e=>by
  simp [execOp,ho,e,Instr.fieldAt,run_underlying hu,hf1,Instr.sureAddr,fieldPlace,sizeOf,typeInfo,hi1,hi3,hf2,Addr.add_lit]
 cases e:evalA st.tm x<;>rw[e]at hk hx<;>simp only at hk<;>try exact hk.elim
 ·rename_i b p
  obtain⟨h0,y,hy,hv⟩:=(show CR S ι st.hp w (.ptr b p) _ from hx)
  exact wp_value (hrun y p hv) (hnext _ _ hk ⟨h0,y,hy,rfl⟩)
 ·rename_i b k i p
  obtain⟨_,ro,sz,n,g,h1,h2,h3⟩:=(show CR S ι st.hp w (.eptr b k i p) _ from hx)
  rw[h1]at hk
  simp only at hk
  obtain⟨y,hy,hv⟩:=h3 hk.1
  exact wp_value (hrun y _ hv) (hnext _ _ hk.2 ⟨rfl,ro,sz,n,g,h1,h2,fun _=>⟨y,hy,by rw[Nat.add_assoc]⟩⟩)
 ·rename_i cs
  have hx':FRel w (FZ S ι st.hp w) (.ref cs) (a.eval x):=hx
  generalize hv:a.eval x=v at hx'
  cases hx' with
  |ref _ b p g u hF h1 h2 h3=>
   refine wp_value (hrun b p hv) (hnext _ _ hk (show FRel w _ (.ref (cs.drop off)) _ from .ref _ b (p+off) (fun j=>g (off+j)) (fun j=>u (off+j)) hF (fun j hj=> ?_) (fun j hj=> ?_) (fun j hj=> ?_)))
   ·rw[List.getElem?_drop];exact h1 _ (by simp at hj;omega)
   ·rw[Nat.add_assoc];exact h2 _ (by simp at hj;omega)
   ·exact h3 _ (by simp at hj;omega)
theorem All2.drop'{α β:Type}{R:α→β→Prop} : ∀{as:List α} {bs:List β} (n:Nat),All2 R as bs→All2 R (as.drop n) (bs.drop n)
 |[],[],n,_=>by simp [All2]
 |_::_,_::_,0,h=>h
 |_::_,_::_,n+1,h=>All2.drop' n h.2
 |[],_::_,_,h=>h.elim
 |_::_,[],_,h=>h.elim
theorem index_sound{o:Oper}{T:TypeId}{t:Ty}{x y:Operand}(ho:o.op= .indexAddr T x y)(hT:TyOk E.P T t)(h:Sim S ι st a w){K:AV→Prop}(hk:indexA t st.hp (evalA st.tm x) (evalA st.tm y) K){next:Act→World→Prop}{Q:Exit→Act→World→Prop}
  (hnext: ∀av v,K av→VR S ι st.hp w av v→next (a.put o.dst v) w):o.wp E.P a w next Q:=by
 have hx:=h.eval x
 have hy:=h.eval y
 have hd:=hT.d
 cases ed:t.d<;>simp only[indexA,ed]at hk<;>try exact hk.elim
 case slice e esz eb=>
  rw[ed]at hd
  obtain⟨hu,i,hi1,hi2,_⟩:=hd
  cases ey:evalA st.tm y<;>rw[ey]at hk hy<;>simp only at hk<;>try exact hk.elim
  rename_i k z
  have hyv:a.eval y= .int k z:=by
   have:FRel w (FZ S ι st.hp w) (.int k z) (a.eval y):=hy
   generalize a.eval y=v at this;cases this;rfl
  have hrun: ∀(b p n c:Nat),a.eval x= .slice (some ⟨b,p,none⟩) n c→0≤z→z<n→(execOp a.eval o).run E.P w= .ok (.value (.pointer (some ⟨b,p+z.toNat*esz,none⟩))) w:=fun b p n c ex h0 h1=>by
   simp [execOp,ho,ex,hyv,Instr.indexAt,run_underlying hu,asIntOf,h0,h1,sizeOf,typeInfo,hi1,hi2,Addr.add_lit]
  cases ex:evalA st.tm x<;>rw[ex]at hk hx<;>simp only at hk<;>try exact hk.elim
  ·rename_i sz n f
   simp only[chk_iff,decide_eq_true_eq]at hk
   obtain⟨hsz,⟨h0,h1⟩,hK⟩:=hk
   have hx':FRel w (FZ S ι st.hp w) (.arr sz n f) (a.eval x):=hx
   generalize hv:a.eval x=v at hx'
   cases hx' with
   |nil=>simp at h1;omega
   |mt=>simp at h1;omega
   |arr _ _ _ b p c g u hn hbg hF g1 g2 g3=>
    have hzn:z.toNat<n:=by omega
    have hlen:((f z.toNat).take sz).length=sz:=by
     rcases Nat.lt_or_ge ((f z.toNat).take sz).length sz with hlt|hge
     ·have:=g1 z.toNat _ hzn hlt
      rw[List.getElem?_eq_none (by simp at hlt ⊢;omega)]at this;cases this
     ·have:=List.length_take_le sz (f z.toNat);omega
    refine wp_value (hrun b p n c hv h0 h1) (hnext _ _ hK (show FRel w _ (.ref ((f z.toNat).take sz)) _ from .ref _ b (p+z.toNat*esz) (g z.toNat) (u z.toNat) (hF (by omega)) (fun j hj=> ?_) (fun j hj=> ?_) (fun j hj=> ?_)))
    ·rw[List.getElem?_take_of_lt (by omega)];exact g1 _ _ hzn (by omega)
    ·rw[←hsz];exact g2 _ _ hzn (by omega)
    ·exact g3 _ _ hzn (by omega)
  ·rename_i b k'
   obtain⟨_,ro,sz,n,f,h1,h2,h3⟩:=(show CR S ι st.hp w (.own b k') _ from hx)
   rw[h1]at hk
   simp only[chk_iff,decide_eq_true_eq]at hk
   obtain⟨hsz,rfl,⟨hz0,hz1⟩,hK⟩:=hk
   rcases h3 rfl with⟨q,c,C,T',hq,hv,hnc,hC,hCs⟩|⟨h4,_,_⟩
   ·refine wp_value (hrun q 0 k' c hv hz0 hz1) (hnext _ _ hK ⟨rfl,ro,sz,k',f,h1,Nat.le_refl _,fun _=>⟨q,hq,by rw[hsz];simp⟩⟩)
   ·omega
 case array n e esz=>
  rw[ed]at hd
  obtain⟨hu,i,hi1,hi2⟩:=hd
  cases ey:evalA st.tm y<;>rw[ey]at hk hy<;>simp only at hk<;>try exact hk.elim
  rename_i k z
  have hyv:a.eval y= .int k z:=by
   have:FRel w (FZ S ι st.hp w) (.int k z) (a.eval y):=hy
   generalize a.eval y=v at this;cases this;rfl
  have hrun: ∀(b p:Nat),a.eval x= .pointer (some ⟨b,p,none⟩)→0≤z→z<n→(execOp a.eval o).run E.P w= .ok (.value (.pointer (some ⟨b,p+z.toNat*esz,none⟩))) w:=fun b p ex h0 h1=>by
   simp [execOp,ho,ex,hyv,Instr.indexAt,Instr.sureAddr,run_underlying hu,asIntOf,h0,h1,sizeOf,typeInfo,hi1,hi2,Addr.add_lit]
  cases ex:evalA st.tm x<;>rw[ex]at hk hx<;>simp only[chk_iff,Bool.and_eq_true,decide_eq_true_eq]at hk<;>try exact hk.elim
  ·rename_i b p
   obtain⟨h0,q,hq,hv⟩:=(show CR S ι st.hp w (.ptr b p) _ from hx)
   exact wp_value (hrun q p hv hk.1.1 hk.1.2) (hnext _ _ hk.2 ⟨h0,q,hq,rfl⟩)
  ·rename_i cs
   have hx':FRel w (FZ S ι st.hp w) (.ref cs) (a.eval x):=hx
   generalize hv:a.eval x=v at hx'
   cases hx' with
   |ref _ b p g u hF h1 h2 h3=>
    refine wp_value (hrun b p hv hk.1.1 hk.1.2) (hnext _ _ hk.2 (show FRel w _ (.ref (cs.drop (z.toNat*esz))) _ from .ref _ b (p+z.toNat*esz) (fun j=>g (z.toNat*esz+j)) (fun j=>u (z.toNat*esz+j)) hF (fun j hj=> ?_) (fun j hj=> ?_) (fun j hj=> ?_)))
    ·rw[List.getElem?_drop];exact h1 _ (by simp at hj;omega)
    ·rw[Nat.add_assoc];exact h2 _ (by simp at hj;omega)
    ·exact h3 _ (by simp at hj;omega)
theorem run_partT{P:Program}{T:TypeId}{t:Ty}{w:World}(hT:TyOk P T t)(vs:List Value)(off:Nat)(hl:off+t.size≤vs.length):
  (part T vs.toArray off).run P w= .ok (aggOf t.d.isAgg ((vs.drop off).take t.size)) w:=by
 cases e:t.d.isAgg with
 |true=>simp [part,Sem.run_bind,run_isAgg w hT,e,Result.andThen_ok,run_sizeOf w hT,aggOf]
 |false=>
  have h1:=hT.one e
  have hlt:off<vs.length:=by omega
  have hd:(vs.drop off).take 1=[vs[off]]:=by rw[List.drop_eq_getElem_cons hlt];rfl
  simp [part,Sem.run_bind,run_isAgg w hT,e,Result.andThen_ok,aggOf,h1,hd,hlt]
theorem idx_sound{ET:TypeId→Option Ty}(hET: ∀T t,ET T=some t→TyOk E.P T t){o:Oper}{T:TypeId}{t:Ty}{x y:Operand}(ho:o.op= .index T x y)(hT:TyOk E.P T t)(h:Sim S ι st a w){K:AV→Prop}(hk:idxA ET t (evalA st.tm x) (evalA st.tm y) K){next:Act→World→Prop}{Q:Exit→Act→World→Prop}
  (hnext: ∀av v,K av→VR S ι st.hp w av v→next (a.put o.dst v) w):o.wp E.P a w next Q:=by
 have hx:=h.eval x
 have hy:=h.eval y
 have hd:=hT.d
 cases ed:t.d<;>simp only[idxA,ed]at hk<;>try exact hk.elim
 rename_i n e esz
 rw[ed]at hd
 obtain⟨hu,i,hi1,hi2⟩:=hd
 cases ey:evalA st.tm y<;>rw[ey]at hk hy<;>simp only at hk<;>try exact hk.elim
 rename_i k z
 have hyv:a.eval y= .int k z:=by
  have:FRel w (FZ S ι st.hp w) (.int k z) (a.eval y):=hy
  generalize a.eval y=v at this;cases this;rfl
 cases ex:evalA st.tm x<;>rw[ex]at hk hx<;>simp only at hk<;>try exact hk.elim
 rename_i cs
 cases eu:ET e<;>rw[eu]at hk<;>simp only[chk_iff,Bool.and_eq_true,decide_eq_true_eq]at hk<;>try exact hk.elim
 rename_i u
 obtain⟨⟨⟨⟨h0,h1⟩,h2⟩,h3⟩,hK⟩:=hk
 have hU:=hET e u eu
 obtain⟨vs,hv,hr⟩:=(show VR S ι st.hp w (.agg cs) _ from hx)
 have hl:=hr.length
 have hp:=run_partT (w:=w) hU vs (z.toNat*u.size) (by rw[h2];omega)
 have hrun:(execOp a.eval o).run E.P w= .ok (.value (aggOf u.d.isAgg ((vs.drop (z.toNat*u.size)).take u.size))) w:=by
  simp [execOp,ho,hv,hyv,Instr.index,run_underlying hu,asIntOf,h0,h1,run_sizeOf w hU,hp]
 refine wp_value hrun (hnext _ _ hK ?_)
 rw[h2]
 refine aggA_rel ((hr.drop' _).take _) fun hb=> ?_
 have:=hU.one hb
 rw[List.length_take,List.length_drop]
 omega
theorem extract_sound{o:Oper}{x:Operand}{i:Nat}(ho:o.op= .extract x i)(h:Sim S ι st a w){K:AV→Prop}(hk:extractA i (evalA st.tm x) K){next:Act→World→Prop}{Q:Exit→Act→World→Prop}
  (hnext: ∀av v,K av→VR S ι st.hp w av v→next (a.put o.dst v) w):o.wp E.P a w next Q:=by
 have hx:=h.eval x
 cases ex:evalA st.tm x<;>rw[ex]at hk hx<;>simp only[extractA]at hk<;>try exact hk.elim
 rename_i vs
 simp only[chk_iff,decide_eq_true_eq]at hk
 obtain⟨hi,hK⟩:=hk
 obtain⟨us,hu,hr⟩:=(show∃us:List Value,a.eval x= .tuple us.toArray∧All2 (VRel1 ι st.hp w (FZ S ι st.hp w)) vs us from hx)
 obtain⟨v,hv,hrv⟩:=hr.get i vs[i] (List.getElem?_eq_getElem hi)
 refine wp_value (v:=v) (w':=w) ?_ (hnext (vs.getD i .undef) v hK ?_)
 ·simp [execOp,ho,hu,Instr.extract,hv]
 ·simp only[List.getD,List.getElem?_eq_getElem hi,Option.getD_some]
  exact VRel.of_VRel1 hrv
def FEnd(S:Base)(w:World)(x:Nat):Prop:=S.F0 x∨(S.w0.heap.size≤x∧x<w.heap.size)
theorem FZ_end{H:Heap}{x:Nat}(h:FZ S ι H w x):FEnd S w x:=h.1.imp id fun h1=>⟨h1,h.2.1⟩
theorem frz1_sound(h:Sim S ι st a w){x:AV}{v:Value}(hx:CR S ι st.hp w x v){K:AV→Prop}(hk:frz1 st.hp x K): ∃y,K y∧FRel w (FEnd S w) y v:=by
 have triv:chk (frzOk1 x) (K x)→ ∃y,K y∧FRel w (FEnd S w) y v:=fun hc=>(fun⟨h1,h2⟩=>⟨x,h2,(CRel.frz hx h1).mono (fun _=>FZ_end) fun _ _ _=>rfl⟩) (chk_iff.1 hc)
 cases x
 case own b k=>
  obtain⟨_,ro,sz,n,f,h1,h2,h3⟩:=hx
  simp only[frz1,h1]at hk
  obtain⟨rfl,hK⟩:=hk
  refine⟨_,hK,?_⟩
  rcases h3 rfl with⟨q,c,C,T',hq,hv,hnc,hC,hCs⟩|⟨rfl,_,hv⟩
  ·have hl:=h.hp b 0
   rw[h1]at hl
   obtain⟨_,hd|⟨hbig,hl|⟨q',C',T2,hq',hC',hcells⟩⟩⟩:=hl
   ·rw[hq]at hd;cases hd.2.2
   ·rw[hq]at hl;cases hl.2
   ·rw[hq]at hq';cases hq'
    rw[hC]at hC';cases hC'
    have hf:=h.fresh b q hq
    rw[hv]
    have hex: ∀i j,i<k→j<sz→ ∃av u,(f i)[j]? =some av∧C[i*sz+j]? =some u∧FRel w (FEnd S w) av u:=fun i j hi hj=>by
     obtain⟨av,u,g1,g2,g3⟩:=hcells i j hi hj
     exact⟨av,u,g1,g2,g3.mono (fun _=>FZ_end) fun _ _ _=>rfl⟩
    refine .arr sz k f q 0 c (fun i j=>((f i)[j]?).getD .undef) (fun i j=>(C[i*sz+j]?).getD undef) hnc hbig (fun _=>(h.own hq).imp id fun g=>⟨g,hf.2⟩) (fun i j hi hj=> ?_) (fun i j hi hj=> ?_) (fun i j hi hj=> ?_)
    ·obtain⟨av,u,g1,g2,g3⟩:=hex i j hi hj
     rw[g1];rfl
    ·obtain⟨av,u,g1,g2,g3⟩:=hex i j hi hj
     rw[cell_of_row w q _ C T' (0,0) hC,Nat.zero_add,g2];rfl
    ·obtain⟨av,u,g1,g2,g3⟩:=hex i j hi hj
     simp only[g1,g2,Option.getD_some];exact g3
  ·rw[hv];exact .nil sz f
 case lit b=>
  have hx':FRel w (FZ S ι st.hp w) (.lit b) v:=hx
  cases hx'
  exact⟨_,hk,.bool b⟩
 all_goals exact triv hk
theorem frzL_sound(h:Sim S ι st a w): ∀(cs:List AV) (vs:List Value) (K:List AV→Prop),All2 (CR S ι st.hp w) cs vs→frzL st.hp cs K→ ∃ys,K ys∧All2 (FRel w (FEnd S w)) ys vs
 |[],[],K,_,hk=>⟨[],hk,trivial⟩
 |[],_::_,_,hr,_=>hr.elim
 |_::_,[],_,hr,_=>hr.elim
 |c::cs,v::vs,K,hr,hk=>by
  obtain⟨y,hk,h1⟩:=frz1_sound h hr.1 hk
  obtain⟨ys,hk,h2⟩:=frzL_sound h cs vs _ hr.2 hk
  exact⟨y::ys,hk,h1,h2⟩
theorem frzA_sound(h:Sim S ι st a w){x:AV}{v:Value}(hx:VR S ι st.hp w x v){K:AV→Prop}(hk:frzA st.hp x K): ∃y,K y∧ARel w (FEnd S w) y v:=by
 have lift: ∀y,FRel w (FEnd S w) y v→ARel w (FEnd S w) y v:=fun y hy=>by cases hy<;>first|exact .int _ _|exact .bool _|exact .str _ (by assumption)|exact .nils|exact .nil _ _|exact .mt _ _ _ _|(constructor<;>assumption)
 cases x
 case agg cs=>
  obtain⟨vs,rfl,hr⟩:=hx
  obtain⟨ys,h1,h2⟩:=frzL_sound h cs vs _ hr hk
  exact⟨.agg ys,h1,vs,rfl,h2⟩
 case undef=>exact hk.elim
 case gone=>exact hk.elim
 case tup=>exact hk.elim
 case blk=>exact hk.elim
 all_goals
  simp only[VR,VRel,VRel1]at hx
  obtain⟨y,h1,h2⟩:=frz1_sound h hx hk
  exact⟨y,h1,lift y h2⟩
theorem frzAs_sound(h:Sim S ι st a w): ∀(xs:List AV) (vs:List Value) (K:List AV→Prop),All2 (VR S ι st.hp w) xs vs→frzAs st.hp xs K→ ∃ys,K ys∧All2 (ARel w (FEnd S w)) ys vs
 |[],[],K,_,hk=>⟨[],hk,trivial⟩
 |[],_::_,_,hr,_=>hr.elim
 |_::_,[],_,hr,_=>hr.elim
 |c::cs,v::vs,K,hr,hk=>by
  obtain⟨y,hk,h1⟩:=frzA_sound h hr.1 hk
  obtain⟨ys,hk,h2⟩:=frzAs_sound h cs vs _ hr.2 hk
  exact⟨y::ys,hk,h1,h2⟩
theorem frz1_id{H:Heap}{x:AV}{K:AV→Prop}(hf:frzOk1 x=true)(hk:frz1 H x K):K x:=by
 cases x<;>first|(cases hf;done)|(simp only[frz1,chk_iff]at hk;exact hk.2)
theorem frzL_id{H:Heap} : ∀{cs:List AV} {K:List AV→Prop},cs.all frzOk1=true→frzL H cs K→K cs
 |[],_,_,hk=>hk
 |c::cs,K,hf,hk=>by
  simp only[List.all_cons,Bool.and_eq_true]at hf
  exact frzL_id (K:=fun ys=>K (c::ys)) hf.2 (frz1_id hf.1 hk)
theorem frzA_id{H:Heap}{x:AV}{K:AV→Prop}(hf:frzOk x=true)(hk:frzA H x K):K x:=by
 cases x
 case agg cs=>exact frzL_id (K:=fun ys=>K (.agg ys)) hf hk
 all_goals exact frz1_id (H:=H) hf hk
theorem frzAs_id{H:Heap} : ∀{cs:List AV} {K:List AV→Prop},cs.all frzOk=true→frzAs H cs K→K cs
 |[],_,_,hk=>hk
 |c::cs,K,hf,hk=>by
  simp only[List.all_cons,Bool.and_eq_true]at hf
  exact frzAs_id (K:=fun ys=>K (c::ys)) hf.2 (frzA_id hf.1 hk)
theorem scal_rel{F F':Nat→Prop}{w':World}{x:AV}{v:Value}(hs:scal x=true)(h:FRel w F x v):FRel w' F' x v:=by
 cases h<;>first|(cases hs;done)|(constructor;done)|(constructor;assumption)
theorem scalA_rel{F F':Nat→Prop}{w':World}{x:AV}{v:Value}(hs:scalA x=true)(h:ARel w F x v):ARel w' F' x v:=by
 cases x
 case agg cs=>
  obtain⟨vs,rfl,hr⟩:=h
  refine⟨vs,rfl,All2.mk hr.length fun i p q hp hq=> ?_⟩
  obtain⟨q',hq',hr'⟩:=hr.get i p hp
  rw[hq]at hq';cases hq'
  exact scal_rel (List.all_eq_true.1 hs p (List.mem_of_getElem? hp)) hr'
 case undef=>exact h.elim
 all_goals
  simp only[ARel]at h ⊢
  exact scal_rel hs h
theorem scalT_rel{F F':Nat→Prop}{w':World}{x:AV}{v:Value}(hs:scalT x=true)(h:TRel w F x v):TRel w' F' x v:=by
 cases x
 case tup cs=>
  obtain⟨vs,rfl,hr⟩:=h
  refine⟨vs,rfl,All2.mk hr.length fun i p q hp hq=> ?_⟩
  obtain⟨q',hq',hr'⟩:=hr.get i p hp
  rw[hq]at hq';cases hq'
  exact scalA_rel (List.all_eq_true.1 hs p (List.mem_of_getElem? hp)) hr'
 all_goals
  simp only[TRel]at h ⊢
  exact scalA_rel hs h
end
end Go.Vc
namespace Go.Vc
open Go Go.RowKit
section
variable {E:Env} {S:Base} {ι:Nat→Option Nat} {st:St} {a:Act} {w:World}
theorem VR.int{H:Heap}{k:IntKind}{n:Int}{v:Value}(h:VR S ι H w (.int k n) v):v= .int k n:=by
 have:FRel w (FZ S ι H w) (.int k n) v:=h
 cases this;rfl
theorem VR.bool{H:Heap}{b:Bool}{v:Value}(h:VR S ι H w (.bool b) v):v= .bool b:=by
 have:FRel w (FZ S ι H w) (.bool b) v:=h
 cases this;rfl
theorem VR.str{H:Heap}{s:ByteArray}{v:Value}(h:VR S ι H w (.str s) v):v= .string s:=by
 have:FRel w (FZ S ι H w) (.str s) v:=h
 cases this;rfl
theorem VR.mkInt{H:Heap}(k:IntKind)(n:Int):VR S ι H w (.int k n) (.int k n):=FRel.int k n
theorem VR.mkBool{H:Heap}(b:Bool):VR S ι H w (.bool b) (.bool b):=FRel.bool b
theorem VR.mkStr{H:Heap}(s:ByteArray)(hb:s.size≤BIG):VR S ι H w (.str s) (.string s):=FRel.str s hb
theorem VR.strBig{H:Heap}{s:ByteArray}{v:Value}(h:VR S ι H w (.str s) v):s.size≤BIG:=by
 have:FRel w (FZ S ι H w) (.str s) v:=h
 cases this;assumption
theorem VR.lit{H:Heap}{b:Bool}{v:Value}(h:VR S ι H w (.lit b) v):v= .bool b:=by
 have:FRel w (FZ S ι H w) (.lit b) v:=h
 cases this;rfl
theorem VR.mkLit{H:Heap}(b:Bool):VR S ι H w (.lit b) (.bool b):=FRel.lit b
theorem pick_sound{o:Oper}{c x y:Operand}{b:Bool}(ho:o.op= .pick c x y)(hcv:a.eval c= .bool b)(h:Sim S ι st a w){K:AV→Prop}(hk:pickA b (evalA st.tm x) (evalA st.tm y) K){next:Act→World→Prop}{Q:Exit→Act→World→Prop}
  (hnext: ∀av v,K av→VR S ι st.hp w av v→next (a.put o.dst v) w):o.wp E.P a w next Q:=by
 refine wp_value (v:=if b then a.eval x else a.eval y) (w':=w) (by simp [execOp,ho,hcv,asBool]) ?_
 cases b
 ·exact hnext _ _ hk (h.eval y)
 ·exact hnext _ _ hk (h.eval x)
theorem intA_sound{op:BinOp}{k:IntKind}{p q:Int}{T:TypeId}{x y:Operand}{K:AV→Prop}(hk:intA op k p q K)(H:Heap): ∃av v,K av∧VR S ι H w av v∧
  (do eqGuard op T x y (.int k p) (.int k q);binOp op T (.int k p) (.int k q):Sem Value).run E.P w= .ok v w:=by
 cases op<;>simp only[intA]at hk<;>try exact hk.elim
 all_goals first
  |exact⟨_,_,hk,VR.mkInt _ _,by simp [go_sem,Op.intArith]⟩
  |exact⟨_,_,hk,VR.mkBool _,by simp [go_sem]⟩
  |exact⟨_,_,hk.2,VR.mkInt _ _,by simp [go_sem,Op.intDiv,hk.1]⟩
theorem cells_PRel{zero:List AV} : ∀{cs:List AV} {vs:List Value} {H:Heap} {F:Nat→Prop},eqKinds zero cs=true→All2 (CRel ι H w F) cs vs→All2 PRel cs vs:=by
 intro cs vs H F hz h
 induction cs generalizing zero vs with
 |nil=>cases vs;exact trivial;exact h.elim
 |cons c cs ih=>
  cases vs with
  |nil=>exact h.elim
  |cons v vs=>
   cases zero with
   |nil=>cases hz
   |cons z zero=>
    simp only[eqKinds,Bool.and_eq_true]at hz
    refine⟨?_,ih hz.2 h.2⟩
    have h1:=h.1
    cases z<;>cases c<;>simp [eqKind]at hz<;>(have h2:FRel w F _ v:=h1;cases h2;rfl)
theorem equalIn_bool{P:Program}{T:TypeId}(hd:P.underlying T=some .bool)(d:Nat)(p q:Bool):(Op.equalIn (d+1) T (.bool p) (.bool q)).run P w= .ok (p==q) w:=by
 simp [Op.equalIn,run_underlying hd]
theorem run_eql_bool{P:Program}{T:TypeId}(hd:P.underlying T=some .bool)(x y:Operand)(p q:Bool):
  (do eqGuard .eql T x y (.bool p) (.bool q);binOp .eql T (.bool p) (.bool q):Sem Value).run P w= .ok (.bool (p==q)) w:=by
 have h:binOp .eql T (.bool p) (.bool q)=(do pure (.bool (←Op.equal T (.bool p) (.bool q)))):=rfl
 rw[h]
 simp [go_sem,Op.equal,Op.maxDepth,equalIn_bool hd 9999 p q]
theorem run_neq_bool{P:Program}{T:TypeId}(hd:P.underlying T=some .bool)(x y:Operand)(p q:Bool):
  (do eqGuard .neq T x y (.bool p) (.bool q);binOp .neq T (.bool p) (.bool q):Sem Value).run P w= .ok (.bool (!(p==q))) w:=by
 have h:binOp .neq T (.bool p) (.bool q)=(do pure (.bool (!(←Op.equal T (.bool p) (.bool q))))):=rfl
 rw[h]
 simp [go_sem,Op.equal,Op.maxDepth,equalIn_bool hd 9999 p q]
theorem bin_sound{o:Oper}{op:BinOp}{T T':TypeId}{t:Ty}{x y:Operand}(ho:o.op= .binOp op T x y T')(hT:TyOk E.P T t)(h:Sim S ι st a w){K:AV→Prop}(hk:binA t op (normA (evalA st.tm x)) (normA (evalA st.tm y)) K){next:Act→World→Prop}{Q:Exit→Act→World→Prop}
  (hnext: ∀av v,K av→VR S ι st.hp w av v→next (a.put o.dst v) w):o.wp E.P a w next Q:=by
 have hx:VR S ι st.hp w (normA (evalA st.tm x)) (a.eval x):=normA_rel (h.eval x)
 have hy:VR S ι st.hp w (normA (evalA st.tm y)) (a.eval y):=normA_rel (h.eval y)
 have fin: ∀av v,K av→VR S ι st.hp w av v→(do eqGuard op T x y (a.eval x) (a.eval y);binOp op T (a.eval x) (a.eval y):Sem Value).run E.P w= .ok v w→o.wp E.P a w next Q:=fun av v hK hv hr=>by
  refine wp_value (v:=v) (w':=w) ?_ (hnext av v hK hv)
  have:(execOp a.eval o).run E.P w=((do eqGuard op T x y (a.eval x) (a.eval y);binOp op T (a.eval x) (a.eval y):Sem Value).run E.P w).andThen fun v w=> .ok (.value v) w:=by
   simp only[execOp,ho]
   rw[Sem.run_bind];rfl
  rw[this,hr];rfl
 cases ex:normA (evalA st.tm x)<;>cases ey:normA (evalA st.tm y)<;>rw[ex,ey]at hk<;>rw[ex]at hx<;>rw[ey]at hy<;>simp only[binA]at hk<;>try exact hk.elim
 ·rw[hx.int,hy.int]at fin
  cases es:isShift op with
  |true=>
   rw[es]at hk
   obtain⟨⟨hb0,hb1⟩,hk⟩:=hk
   cases op<;>first|(cases es;done)|skip
   ·exact fin _ _ hk (VR.mkInt _ _) (by simp [go_sem,shift_shl _ _ _ _ hb0 hb1])
   ·exact fin _ _ hk (VR.mkInt _ _) (by simp [go_sem,shift_shr _ _ _ _ hb0 hb1])
  |false=>
  rw[es]at hk
  simp only[chk_iff,decide_eq_true_eq]at hk
  obtain⟨rfl,hk⟩:=hk
  obtain⟨av,v,h1,h2,h3⟩:=intA_sound (E:=E) (S:=S) (ι:=ι) (w:=w) (T:=T) (x:=x) (y:=y) hk st.hp
  exact fin av v h1 h2 h3
 ·rw[hx.bool,hy.bool]at fin
  have hd:=hT.d
  cases ed:t.d<;>rw[ed]at hk hd<;>simp only at hk<;>try exact hk.elim
  cases op<;>simp only at hk<;>try exact hk.elim
  ·exact fin _ _ hk (VR.mkBool _) (run_eql_bool hd _ _ _ _)
  ·exact fin _ _ hk (VR.mkBool _) (run_neq_bool hd _ _ _ _)
 ·rw[hx.str,hy.str]at fin
  cases op<;>simp only at hk<;>try exact hk.elim
  all_goals first
   |exact fin _ _ hk (VR.mkBool _) (by simp [go_sem])
   |exact fin _ _ hk.2 (VR.mkStr _ (by rw[ByteArray.size_append];exact hk.1)) (by have:=hk.1;have hB:BIG=549755813888:=rfl;simp [go_sem,Op.stringOp];omega)
 ·simp only[chk_iff,Bool.and_eq_true]at hk
  obtain⟨⟨⟨hcmp,hz1⟩,hz2⟩,hk⟩:=hk
  have sem:=hT.cmp hcmp
  obtain⟨vs,hv,hr⟩:=(show∃vs:List Value,a.eval x= .agg vs.toArray∧All2 (CR S ι st.hp w) _ vs from hx)
  obtain⟨us,hu,hq⟩:=(show∃us:List Value,a.eval y= .agg us.toArray∧All2 (CR S ι st.hp w) _ us from hy)
  rw[hv,hu]at fin
  cases op<;>simp only at hk<;>try exact hk.elim
  ·exact fin _ _ hk (VR.mkBool _) (sem .eql x y _ _ vs us w (.inl rfl) hz1 hz2 (cells_PRel hz1 hr) (cells_PRel hz2 hq))
  ·exact fin _ _ hk (VR.mkBool _) (sem .neq x y _ _ vs us w (.inr rfl) hz1 hz2 (cells_PRel hz1 hr) (cells_PRel hz2 hq))
theorem un_sound{o:Oper}{op:UnOp}{T:TypeId}{x:Operand}(ho:o.op= .unOp op T x)(h:Sim S ι st a w){K:AV→Prop}(hk:unA op (evalA st.tm x) K){next:Act→World→Prop}{Q:Exit→Act→World→Prop}
  (hnext: ∀av v,K av→VR S ι st.hp w av v→next (a.put o.dst v) w):o.wp E.P a w next Q:=by
 have hx:=h.eval x
 cases op<;>cases ex:evalA st.tm x<;>rw[ex]at hk hx<;>simp only[unA]at hk<;>try exact hk.elim
 all_goals first
  |exact wp_value (v:= .bool _) (by simp only[execOp,ho,hx.bool,Op.unary];rfl) (hnext _ _ hk (VR.mkBool _))
  |exact wp_value (v:= .bool _) (by simp only[execOp,ho,hx.lit,Op.unary];rfl) (hnext _ _ hk (VR.mkLit _))
  |exact wp_value (v:= .int _ _) (by simp only[execOp,ho,hx.int,Op.unary,Op.intArith];rfl) (hnext _ _ hk (VR.mkInt _ _))
theorem len_sound{o:Oper}{c:Go.Call}{x:Operand}{T:TypeId}{t:Ty}(ho:o.op= .call c)(hc:c.callee= .builtin .len)(hargs:c.args= #[x])(hty:c.argTypes= #[T])(hT:TyOk E.P T t)(h:Sim S ι st a w)
  (hd:(match t.d with| .slice .. =>true| .string=>true|_=>false)=true) {K:AV→Prop} (hk:lenA st.hp (evalA st.tm x) K) (hdx:(match t.d,evalA st.tm x with| .string,.str _=>true| .slice ..,.str _=>false| .string,_=>false|_,_=>true)=true) {next:Act→World→Prop} {Q:Exit→Act→World→Prop}
  (hnext: ∀av v,K av→VR S ι st.hp w av v→next (a.put o.dst v) w):o.wp E.P a w next Q:=by
 have hx:=h.eval x
 have hTd:=hT.d
 have hrun: ∀v,(Builtin.len_ #[T] o.type #[a.eval x]).run E.P w= .ok v w→(execOp a.eval o).run E.P w= .ok (.value v) w:=fun v hv=>by
  simp [execOp,ho,resolve,hc,hargs,hty,invoke,builtin,hv]
 cases ed:t.d<;>rw[ed]at hd hTd hdx<;>simp only at hd<;>try (cases hd;done)
 ·cases ex:evalA st.tm x<;>rw[ex]at hk hx hdx<;>simp only[lenA]at hk<;>simp only at hdx<;>first|(cases hdx;done)|skip
  exact wp_value (hrun _ (by simp [Builtin.len_,run_underlying hTd,hx.str];rfl)) (hnext _ _ hk (VR.mkInt _ _))
 ·obtain⟨hu,_⟩:=hTd
  cases ex:evalA st.tm x<;>rw[ex]at hk hx hdx<;>simp only[lenA]at hk<;>simp only at hdx<;>first|(cases hdx;done)|(exact hk.elim)|skip
  ·have hx':FRel w (FZ S ι st.hp w) .nils (a.eval x):=hx
   generalize hv:a.eval x=v at hx'
   cases hx'
   exact wp_value (hrun _ (by simp [Builtin.len_,run_underlying hu,hv];rfl)) (hnext _ _ hk (VR.mkInt _ _))
  ·rename_i sz n f
   have hx':FRel w (FZ S ι st.hp w) (.arr sz n f) (a.eval x):=hx
   generalize hv:a.eval x=v at hx'
   cases hx' with
   |nil=>exact wp_value (hrun _ (by simp [Builtin.len_,run_underlying hu,hv];rfl)) (hnext _ _ hk (VR.mkInt _ _))
   |mt=>exact wp_value (hrun _ (by simp [Builtin.len_,run_underlying hu,hv];rfl)) (hnext _ _ hk (VR.mkInt _ _))
   |arr=>exact wp_value (hrun _ (by simp [Builtin.len_,run_underlying hu,hv];rfl)) (hnext _ _ hk (VR.mkInt _ _))
  ·rename_i b k
   obtain⟨_,ro,sz,n,f,h1,h2,h3⟩:=(show CR S ι st.hp w (.own b k) _ from hx)
   rw[h1]at hk
   simp only at hk
   obtain⟨rfl,hK⟩:=hk
   rcases h3 rfl with⟨q,c',C,T',hq,hv,hnc,hC,hCs⟩|⟨rfl,_,hv⟩
   ·exact wp_value (hrun _ (by simp [Builtin.len_,run_underlying hu,hv];rfl)) (hnext _ _ hK (VR.mkInt _ _))
   ·exact wp_value (hrun _ (by simp [Builtin.len_,run_underlying hu,hv];rfl)) (hnext _ _ hK (VR.mkInt _ _))
end
end Go.Vc
namespace Go.Vc
open Go Go.RowKit
section
variable {E:Env} {S:Base} {ι:Nat→Option Nat} {st:St} {a:Act} {w:World}
theorem setAll_rel{R:AV→Value→Prop} : ∀(cs:List AV) (vs:List Value) (xs:List AV) (us:Array Value) (off j:Nat),All2 R cs vs→All2 R xs us.toList→off+j+cs.length≤xs.length→
  All2 R (layA xs cs (off+j)) ((vs.zipIdx j).foldl (fun cs (c,j)=>cs.setIfInBounds (off+j) c) us).toList
 |[],[],xs,us,off,j,_,h,_=>h
 |[],_::_,_,_,_,_,h,_,_=>h.elim
 |_::_,[],_,_,_,_,h,_,_=>h.elim
 |c::cs,v::vs,xs,us,off,j,h,k,hl=>by
  simp only[layA,List.zipIdx_cons,List.foldl_cons]
  have:=setAll_rel cs vs (xs.set (off+j) c) (us.setIfInBounds (off+j) v) off (j+1) h.2 (by
   refine All2.mk (by simp [k.length]) fun i x y hx hy=> ?_
   simp only[Array.toList_setIfInBounds]at hy
   by_cases hi:i=off+j
   ·subst hi
    rw[List.getElem?_set]at hx hy
    simp only[if_true]at hx hy
    split at hx<;>split at hy<;>first|(cases hx;cases hy;exact h.1)|(cases hx;done)|(cases hy;done)
   ·rw[List.getElem?_set_ne (by omega)]at hx hy
    obtain⟨y',h1,h2⟩:=k.get i x hx
    rw[hy]at h1;cases h1;exact h2) (by simp at hl ⊢;omega)
  rwa [show off+(j+1)=off+j+1 by omega]at this
theorem build_fill{offs:List (Nat×Nat)}(h:Sim S ι st a w): ∀(ps:List (Nat×Operand)) (cs:List AV) (us:Array Value) (K:List AV→Prop),All2 (CR S ι st.hp w) cs us.toList→buildA offs st.tm ps cs K→
  ∃cs' us',K cs'∧All2 (CR S ι st.hp w) cs' us'.toList∧Instr.fill (offs[·]?) us (ps.map fun(i,x)=>(i,a.eval x))=some us'
 |[],cs,us,K,hr,hk=>⟨cs,us,hk,hr,rfl⟩
 |(i,x)::ps,cs,us,K,hr,hk=>by
  simp only[buildA]at hk
  cases eo:offs[i]? with
  |none=>rw[eo]at hk;exact hk.elim
  |some q=>
   obtain⟨off,sz⟩:=q
   rw[eo]at hk
   simp only[chk_iff,Bool.and_eq_true,decide_eq_true_eq]at hk
   obtain⟨⟨⟨h1,h2⟩,h3⟩,hk⟩:=hk
   have hc:=(h.eval x).cells h1
   have hsz:(a.eval x).cells.size=sz:=by rw[←h2,hc.length];simp
   have hus:us.size=cs.length:=by rw[hr.length];simp
   have hlay:=setAll_rel (cellsOf (evalA st.tm x)) (a.eval x).cells.toList cs us off 0 hc hr (by omega)
   rw[Nat.add_zero]at hlay
   obtain⟨cs',us',g1,g2,g3⟩:=build_fill h ps _ _ K hlay hk
   refine⟨cs',us',g1,g2,?_⟩
   simp only[List.map_cons,Instr.fill,eo]
   rw[if_neg (by simp;omega),←g3]
   congr 1
   rw[←Array.foldl_toList];simp
theorem build_sound{o:Oper}{T:TypeId}{t:Ty}{ps:Array (Nat×Operand)}{offs:List (Nat×Nat)}(ho:o.op= .build T ps)(hT:TyOk E.P T t)(ht:t.d= .struct offs)(h:Sim S ι st a w){K:AV→Prop}
  (hk:buildA offs st.tm ps.toList t.zero fun cs=>K (.agg cs)) {next:Act→World→Prop} {Q:Exit→Act→World→Prop}
  (hnext: ∀av v,K av→VR S ι st.hp w av v→next (a.put o.dst v) w):o.wp E.P a w next Q:=by
 have hd:=hT.d
 rw[ht]at hd
 obtain⟨fs,hu,hm,_⟩:=hd
 obtain⟨i,z,hi,_,hz,hzs,hz2⟩:=hT.info
 obtain⟨cs',us',h1,h2,h3⟩:=build_fill h ps.toList t.zero z.cells (fun cs=>K (.agg cs)) (hz2.imp fun _ _=>ZRel.rel) hk
 refine wp_value (v:= .agg us') (w':=w) ?_ (hnext _ _ h1 ⟨us'.toList,by simp,h2⟩)
 have hb:E.P.built T (ps.map fun(i,x)=>(i,a.eval x)).toList=some us':=by
  simp only[Program.built,hi,hu,hz,hm]
  rw[←h3]
  simp
 simp only[execOp,ho]
 rw[Sem.run_bind,run_build w T _ us' hb]
 rfl
end
end Go.Vc
