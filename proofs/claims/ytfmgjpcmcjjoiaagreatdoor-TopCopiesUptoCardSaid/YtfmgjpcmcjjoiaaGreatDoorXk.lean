/- Part of a proof: walks of the program. -/
import Derived.Test.YtfmgjpcmcjjoiaaGreatDoorXj
open Go.IntKind (i64 u64 u8)
open Int (toNat)
set_option maxRecDepth 100000
set_option maxHeartbeats 4000000
set_option linter.all false
noncomputable section
namespace Go.Proofs.YtfmgjpcmcjjoiaaGreatDoor
open Go Go.RowKit Go.ah
section
def QE(h:A br):Nat→Int→A z→A z
 |0,_,_=>default
 |k+1,e,m=>(cond (decide (e<(h.n:Int))) (QE h k (i64.wrap (e+1)) (A.app m (A.lit ([(h.at' (toNat e)).j]:List z)))) m)
variable(d:z)(g:z)(h:A br)(r:A z)(o:A bO)
def Ip:A z:=QE h ((toNat ((h.n:Int)-0))+1) 0 r
def QF(o:A bO):Nat→Int→A z→A z
 |0,_,_=>default
 |k+1,bo,a=>(cond (decide (bo<(o.n:Int))) (QF o k (i64.wrap (bo+1)) (A.app a (A.lit ([(o.at' (toNat bo)).j]:List z)))) a)
def aqn:A z:=QF o ((toNat ((o.n:Int)-0))+1) 0 (Ip h r)
def abr:A z:=(aqn h r o)
def akE:a6:=⟨[.g [a,au,a,.af cX,.af bL,.af cO]],fun _ _ _ h r o=>⟨⟨some (h.n≤100000000000∧r.n≤100000000000∧o.n≤100000000000),(aB.ae bL).ab (abr h r o)⟩⟩⟩
theorem avQ:bg 203 akE:=bj Tryz.func203
 fun(d:Int) g H (u:Int) h I _ r J _ o K _ w=>bf ⟨.own bL,[.tmp 2],[(.h 0 0,.ae bL)],⟨[],[]⟩⟩ (.ad (.ad (.j ⟨14,[],[],[],.f⟩ (.ad (.cy ⟨28686,[],[],[(.t 14,a),(.h 1 0,.ae bL)],some 0,false,14,[],[(.h 1 0,.ae bL)],fun k (s:Int×A z)=>QE h k s.1 s.2,.f,fun(s:Int×A z)=>((0≤s.1∧s.1≤(h.n:Int))∧(s.2.n:Int)≤r.n+(s.1-0)),fun(s:Int×A z)=>(toNat ((h.n:Int)-s.1)),some fun(j:A z)=>(j.n:Int)≤r.n+max ((h.n:Int)-0) 0⟩ .z)) (.j ⟨12,[],[],[],.f⟩ (.ad (.cy ⟨234881036,[.b 0],[],[(.t 27,a),(.h 1 0,.ae bL)],some 2,false,12,[],[(.h 1 0,.ae bL)],fun k (s:Int×A z)=>QF o k s.1 s.2,.f,fun(s:Int×A z)=>((0≤s.1∧s.1≤(o.n:Int))∧(s.2.n:Int)≤(Ip h r).n+(s.1-0)),fun(s:Int×A z)=>(toNat ((o.n:Int)-s.1)),some fun(j:A z)=>(j.n:Int)≤(Ip h r).n+max ((o.n:Int)-0) 0⟩ .z)) .z)))) (let b:=Ip h r;((((0≤(0:Int)∧(0:Int)≤(h.n:Int))∧(r.n:Int)≤r.n+((0:Int)-0)))∧(∀(e:Int) (m:A z),let l:=decide (e<(h.n:Int));let f:=i64.wrap (e+1);((0≤e∧e≤(h.n:Int))∧(m.n:Int)≤r.n+(e-0))→((l=true→(((0:Int)≤e∧e<(h.n:Int))∧(m.n+1≤549755813888)))∧((l=true→(((0≤f∧f≤(h.n:Int))∧(((m.n+1):Nat):Int)≤r.n+(f-0))∧(toNat ((h.n:Int)-f))<(toNat ((h.n:Int)-e))))∧(l=false→((m.n:Int)≤r.n+max ((h.n:Int)-0) 0))))))∧(((b.n:Int)≤r.n+max ((h.n:Int)-0) 0)→((((0≤(0:Int)∧(0:Int)≤(o.n:Int))∧(b.n:Int)≤b.n+((0:Int)-0)))∧(∀(bo:Int) (c:A z),let n:=decide (bo<(o.n:Int));let i:=i64.wrap (bo+1);((0≤bo∧bo≤(o.n:Int))∧(c.n:Int)≤b.n+(bo-0))→((n=true→(((0:Int)≤bo∧bo<(o.n:Int))∧(c.n+1≤549755813888)))∧((n=true→(((0≤i∧i≤(o.n:Int))∧(((c.n+1):Nat):Int)≤b.n+(i-0))∧(toNat ((o.n:Int)-i))<(toNat ((o.n:Int)-bo))))∧(n=false→((c.n:Int)≤b.n+max ((o.n:Int)-0) 0)))))))) (b4 (aw xP aT)) Tryz.func203 (have⟨E,F,G⟩:=w;⟨⟨(by omega),(fun e m C=>⟨(fun p=>⟨(by have:=aq p;omega),(by omega)⟩),⟨(fun q=>(by have:=aq q;have:=N (e+1);omega)),(fun x=>(by omega))⟩⟩)⟩,(fun B=>⟨(by omega),(fun bo c D=>⟨(fun t=>⟨(by have:=aq t;omega),(by omega)⟩),⟨(fun v=>(by have:=aq v;have:=N (bo+1);omega)),(fun y=>(by omega))⟩⟩)⟩)⟩)
def QH:Bool:=(!((d:z).toList==(d:z).toList))
def akY:a6:=⟨[.v au],fun d=>⟨⟨none,.bool (QH d)⟩⟩⟩
theorem av8:bg 234 akY:=bj Tryz.func234
 fun d _=>bf ⟨.pure,[.tmp 2],[(.t 0,y)],⟨[U],[]⟩⟩ (.z) True e7 Tryz.func234 (trivial)
def aqu:Bool:=let a:=Op.bytesLess ((d:z).toList) ((g:z).toList);(cond (QH d) (cond (!(QH g)) true a) a)
def Iu:Bool:=(aqu d g)
def akW:a6:=⟨[.v au,.v au],fun d g=>⟨⟨none,.bool (Iu d g)⟩⟩⟩
theorem av6:bg 227 akW:=bj Tryz.func227
 fun d _ g _=>bf ⟨.pure,[.tmp 4],[(.t 0,y)],⟨[U],[]⟩⟩ (.ad (.j ⟨16,[],[(.t 4,y)],[],.f⟩ .z .z)) True (b4 (aw av8 aT)) Tryz.func227 (trivial)
def QG:Bool:=(!((d:z).toList==(d:z).toList))
def akX:a6:=⟨[.v au],fun d=>⟨⟨none,.bool (QG d)⟩⟩⟩
theorem av7:bg 228 akX:=bj Tryz.func228
 fun d _=>bf ⟨.pure,[.tmp 2],[(.t 0,y)],⟨[U],[]⟩⟩ (.z) True e7 Tryz.func228 (trivial)
def tI(d:A br)(g:z):Nat→Int→Int→Int
 |0,_,_=>default
 |k+1,e,m=>(cond (decide (e<m)) (cond (decide ((v5 (d.at' (toNat (i64.wrap ((u64.wrap (i64.wrap (e+m)))/2^(toNat 1))))).j g)<0)) (tI d g k (i64.wrap ((i64.wrap ((u64.wrap (i64.wrap (e+m)))/2^(toNat 1)))+1)) m) (tI d g k e (i64.wrap ((u64.wrap (i64.wrap (e+m)))/2^(toNat 1))))) e)
def Dr(d:A br)(g:z):Int:=tI d g ((toNat ((d.n:Int)-0))+1) 0 (d.n:Int)
def abU(d:A br)(g:z):Bool:=(cond (decide ((Dr d g)<(d.n:Int))) ((v5 (d.at' (toNat (Dr d g))).j g)==0) false)
def n9(d:A br)(g:z):Int:=(Dr d g)
def tH(d:A br)(g:z):Bool:=(abU d g)
def akM:a6:=⟨[.v (.af cX),.g [au,au],.fn 178 []],fun d g _=>⟨⟨none,.c9 [b (n9 d g),.bool (tH d g)]⟩⟩⟩
theorem avY:bg 212 akM:=bj Tryz.func212
 fun d z _ g A u B=>bf ⟨.pure,[.tmp 6,.tmp 7],[(.t 0,a),(.t 1,y)],⟨[U,U],[]⟩⟩ (.ad (.ad (.ad (.j ⟨981,[],[],[],.f⟩ (.cy ⟨2005,[],[],[(.t 9,a),(.t 10,a)],some 0,false,981,[],[(.t 9,a)],fun k (s:Int×Int)=>tI d g k s.1 s.2,.f,fun(s:Int×Int)=>(0≤s.1∧s.1≤s.2∧s.2≤(d.n:Int)),fun(s:Int×Int)=>(toNat (s.2-s.1)),some fun(r:Int)=>0≤r∧r≤(d.n:Int)⟩ .z) (.j ⟨192,[.b 0],[(.t 7,y)],[],.f⟩ .z .z))))) (let c:=Dr d g;(((0≤(0:Int)∧(0:Int)≤(d.n:Int)∧(d.n:Int)≤(d.n:Int)))∧(∀(e:Int) (m:Int),let l:=toNat (m-e);let h:=decide (e<m);let b:=i64.wrap ((u64.wrap (i64.wrap (e+m)))/2^(toNat 1));let f:=i64.wrap (b+1);let j:=decide ((v5 (d.at' (toNat b)).j g)<0);(0≤e∧e≤m∧m≤(d.n:Int))→((h=true→(((0:Int)≤1∧(1:Int)≤64)∧((0:Int)≤b∧b<(d.n:Int))))∧((h=true→((j=true→((0≤f∧f≤m∧m≤(d.n:Int))∧(toNat (m-f))<l))∧(j=false→((0≤e∧e≤b∧b≤(d.n:Int))∧(toNat (b-e))<l))))∧(h=false→(0≤e∧e≤(d.n:Int)))))))∧((0≤c∧c≤(d.n:Int))→((decide (c<(d.n:Int)))=true→((0:Int)≤c∧c<(d.n:Int))))) (b4 (aw aeL aT)) Tryz.func212 (⟨⟨(by omega),(fun e m w=>⟨(fun n=>⟨(by omega),(by have:=aq n;have:=N (e+m);have:=nI (x:=(i64.wrap (e+m))) (by omega) (by omega);have:=nn (u64.wrap (i64.wrap (e+m)));have:=N ((u64.wrap (i64.wrap (e+m)))/2^(toNat 1));omega)⟩),⟨(fun i=>⟨(fun p=>(by have:=aq i;have:=N (e+m);have:=nI (x:=(i64.wrap (e+m))) (by omega) (by omega);have:=nn (u64.wrap (i64.wrap (e+m)));have:=N ((u64.wrap (i64.wrap (e+m)))/2^(toNat 1));have:=N ((i64.wrap ((u64.wrap (i64.wrap (e+m)))/2^(toNat 1)))+1);omega)),(fun q=>(by have:=aq i;have:=N (e+m);have:=nI (x:=(i64.wrap (e+m))) (by omega) (by omega);have:=nn (u64.wrap (i64.wrap (e+m)));have:=N ((u64.wrap (i64.wrap (e+m)))/2^(toNat 1));omega))⟩),(fun t=>(by omega))⟩⟩)⟩,(fun v=>(fun o=>(by have:=aq o;omega)))⟩)
theorem WS(d:A br)(g:z): ∀k i j,tI d g k i j=mU (fun m=>decide ((v5 (d.at' m).j g)<0)) k i j
 |0,_,_=>rfl
 |k+1,i,j=>by simp only[tI,mU,WS d g k]
theorem zk(d:A br)(g:z)(a:d.n≤549755813888):0≤n9 d g∧n9 d g≤(d.n:Int):=by
 show 0≤tI d g _ _ _∧tI d g _ _ _≤_;rw[WS];exact yX (by omega) _ _ _ (by omega) (by omega) (by omega)
theorem Ve(d:A br)(g:z)(h:tH d g=true):n9 d g<(d.n:Int):=by
 unfold tH abU at h
 cases e:decide (Dr d g<(d.n:Int))with
 |true=>exact aq e
 |false=>rw[e]at h;cases h
def tK(d:A bO)(g:z)(u:Int):Nat→Int→Int→Int
 |0,_,_=>default
 |k+1,e,m=>(cond (decide (e<m)) (cond (decide ((v7 (d.at' (toNat (i64.wrap ((u64.wrap (i64.wrap (e+m)))/2^(toNat 1))))).j (d.at' (toNat (i64.wrap ((u64.wrap (i64.wrap (e+m)))/2^(toNat 1))))).ai g u)<0)) (tK d g u k (i64.wrap ((i64.wrap ((u64.wrap (i64.wrap (e+m)))/2^(toNat 1)))+1)) m) (tK d g u k e (i64.wrap ((u64.wrap (i64.wrap (e+m)))/2^(toNat 1))))) e)
def It(d:A bO)(g:z)(u:Int):Int:=tK d g u ((toNat ((d.n:Int)-0))+1) 0 (d.n:Int)
def aqt(d:A bO)(g:z)(u:Int):Bool:=let a:=d.at' (toNat (It d g u));(cond (decide ((It d g u)<(d.n:Int))) ((v7 a.j a.ai g u)==0) false)
def zU(d:A bO)(g:z)(u:Int):Int:=(It d g u)
def aqs(d:A bO)(g:z)(u:Int):Bool:=(aqt d g u)
def akU:a6:=⟨[.v (.af cO),.g [au,a],.fn 180 []],fun d g u=>⟨⟨none,.c9 [b (zU d g u),.bool (aqs d g u)]⟩⟩⟩
theorem av4:bg 220 akU:=bj Tryz.func220
 fun d z _ g A (u:Int)=>bf ⟨.pure,[.tmp 6,.tmp 7],[(.t 0,a),(.t 1,y)],⟨[U,U],[]⟩⟩ (.ad (.ad (.ad (.j ⟨981,[],[],[],.f⟩ (.cy ⟨2005,[],[],[(.t 9,a),(.t 10,a)],some 0,false,981,[],[(.t 9,a)],fun k (s:Int×Int)=>tK d g u k s.1 s.2,.f,fun(s:Int×Int)=>(0≤s.1∧s.1≤s.2∧s.2≤(d.n:Int)),fun(s:Int×Int)=>(toNat (s.2-s.1)),some fun(r:Int)=>0≤r∧r≤(d.n:Int)⟩ .z) (.j ⟨192,[.b 0],[(.t 7,y)],[],.f⟩ .z .z))))) (let c:=It d g u;(((0≤(0:Int)∧(0:Int)≤(d.n:Int)∧(d.n:Int)≤(d.n:Int)))∧(∀(e:Int) (m:Int),let l:=toNat (m-e);let h:=decide (e<m);let b:=i64.wrap ((u64.wrap (i64.wrap (e+m)))/2^(toNat 1));let f:=i64.wrap (b+1);let j:=decide ((v7 (d.at' (toNat b)).j (d.at' (toNat b)).ai g u)<0);(0≤e∧e≤m∧m≤(d.n:Int))→((h=true→(((0:Int)≤1∧(1:Int)≤64)∧((0:Int)≤b∧b<(d.n:Int))))∧((h=true→((j=true→((0≤f∧f≤m∧m≤(d.n:Int))∧(toNat (m-f))<l))∧(j=false→((0≤e∧e≤b∧b≤(d.n:Int))∧(toNat (b-e))<l))))∧(h=false→(0≤e∧e≤(d.n:Int)))))))∧((0≤c∧c≤(d.n:Int))→((decide (c<(d.n:Int)))=true→((0:Int)≤c∧c<(d.n:Int))))) (b4 (aw aeM aT)) Tryz.func220 (⟨⟨(by omega),(fun e m w=>⟨(fun n=>⟨(by omega),(by have:=aq n;have:=N (e+m);have:=nI (x:=(i64.wrap (e+m))) (by omega) (by omega);have:=nn (u64.wrap (i64.wrap (e+m)));have:=N ((u64.wrap (i64.wrap (e+m)))/2^(toNat 1));omega)⟩),⟨(fun i=>⟨(fun p=>(by have:=aq i;have:=N (e+m);have:=nI (x:=(i64.wrap (e+m))) (by omega) (by omega);have:=nn (u64.wrap (i64.wrap (e+m)));have:=N ((u64.wrap (i64.wrap (e+m)))/2^(toNat 1));have:=N ((i64.wrap ((u64.wrap (i64.wrap (e+m)))/2^(toNat 1)))+1);omega)),(fun q=>(by have:=aq i;have:=N (e+m);have:=nI (x:=(i64.wrap (e+m))) (by omega) (by omega);have:=nn (u64.wrap (i64.wrap (e+m)));have:=N ((u64.wrap (i64.wrap (e+m)))/2^(toNat 1));omega))⟩),(fun t=>(by omega))⟩⟩)⟩,(fun v=>(fun o=>(by have:=aq o;omega)))⟩)
theorem WU(d:A bO)(g:z)(u:Int): ∀k i j,tK d g u k i j=mU (fun m=>decide ((v7 (d.at' m).j (d.at' m).ai g u)<0)) k i j
 |0,_,_=>rfl
 |k+1,i,j=>by simp only[tK,mU,WU d g u k]
theorem aoQ(d:A bO)(g:z)(u:Int)(a:d.n≤549755813888):0≤zU d g u∧zU d g u≤(d.n:Int):=by
 show 0≤tK d g u _ _ _∧tK d g u _ _ _≤_;rw[WU];exact yX (by omega) _ _ _ (by omega) (by omega) (by omega)
def tJ(d:A z)(g:z):Nat→Int→Int→Int
 |0,_,_=>default
 |k+1,e,m=>(cond (decide (e<m)) (cond (Iu (d.at' (toNat (i64.wrap ((u64.wrap (i64.wrap (e+m)))/2^(toNat 1))))) g) (tJ d g k (i64.wrap ((i64.wrap ((u64.wrap (i64.wrap (e+m)))/2^(toNat 1)))+1)) m) (tJ d g k e (i64.wrap ((u64.wrap (i64.wrap (e+m)))/2^(toNat 1))))) e)
def zT(d:A z)(g:z):Int:=tJ d g ((toNat ((d.n:Int)-0))+1) 0 (d.n:Int)
def abV(d:A z)(g:z):Bool:=(cond (decide ((zT d g)<(d.n:Int))) (cond (((d.at' (toNat (zT d g))):z).toList==(g:z).toList) true (cond (QG (d.at' (toNat (zT d g)))) (QG g) false)) false)
def qb(d:A z)(g:z):Int:=(zT d g)
def wh(d:A z)(g:z):Bool:=(abV d g)
def akR:a6:=⟨[.v (.af bL),.v au],fun d g=>⟨⟨none,.c9 [b (qb d g),.bool (wh d g)]⟩⟩⟩
theorem av1:bg 217 akR:=bj Tryz.func217
 fun d A _ g B=>bf ⟨.pure,[.tmp 4,.tmp 5],[(.t 0,a),(.t 1,y)],⟨[U,U],[]⟩⟩ (.ad (.ad (.ad (.j ⟨243,[],[],[],.f⟩ (.cy ⟨499,[],[],[(.t 7,a),(.t 8,a)],some 0,false,243,[],[(.t 7,a)],fun k (s:Int×Int)=>tJ d g k s.1 s.2,.f,fun(s:Int×Int)=>(0≤s.1∧s.1≤s.2∧s.2≤(d.n:Int)),fun(s:Int×Int)=>(toNat (s.2-s.1)),some fun(r:Int)=>0≤r∧r≤(d.n:Int)⟩ .z) (.j ⟨48,[],[(.t 5,y)],[],.f⟩ .z .z))))) (let b:=zT d g;(((0≤(0:Int)∧(0:Int)≤(d.n:Int)∧(d.n:Int)≤(d.n:Int)))∧(∀(e:Int) (m:Int),let n:=toNat (m-e);let h:=decide (e<m);let c:=i64.wrap ((u64.wrap (i64.wrap (e+m)))/2^(toNat 1));let l:=Iu (d.at' (toNat c)) g;let f:=i64.wrap (c+1);(0≤e∧e≤m∧m≤(d.n:Int))→((h=true→(((0:Int)≤1∧(1:Int)≤64)∧((0:Int)≤c∧c<(d.n:Int))))∧((h=true→((l=true→((0≤f∧f≤m∧m≤(d.n:Int))∧(toNat (m-f))<n))∧(l=false→((0≤e∧e≤c∧c≤(d.n:Int))∧(toNat (c-e))<n))))∧(h=false→(0≤e∧e≤(d.n:Int)))))))∧((0≤b∧b≤(d.n:Int))→((decide (b<(d.n:Int)))=true→(((0:Int)≤b∧b<(d.n:Int))∧((((d.at' (toNat b)):z).toList==(g:z).toList)=false→((0:Int)≤b∧b<(d.n:Int))))))) (b4 (aw av6 (aw av7 aT))) Tryz.func217 (⟨⟨(by omega),(fun e m w=>⟨(fun o=>⟨(by omega),(by have:=aq o;have:=N (e+m);have:=nI (x:=(i64.wrap (e+m))) (by omega) (by omega);have:=nn (u64.wrap (i64.wrap (e+m)));have:=N ((u64.wrap (i64.wrap (e+m)))/2^(toNat 1));omega)⟩),⟨(fun i=>⟨(fun p=>(by have:=aq i;have:=N (e+m);have:=nI (x:=(i64.wrap (e+m))) (by omega) (by omega);have:=nn (u64.wrap (i64.wrap (e+m)));have:=N ((u64.wrap (i64.wrap (e+m)))/2^(toNat 1));have:=N ((i64.wrap ((u64.wrap (i64.wrap (e+m)))/2^(toNat 1)))+1);omega)),(fun q=>(by have:=aq i;have:=N (e+m);have:=nI (x:=(i64.wrap (e+m))) (by omega) (by omega);have:=nn (u64.wrap (i64.wrap (e+m)));have:=N ((u64.wrap (i64.wrap (e+m)))/2^(toNat 1));omega))⟩),(fun t=>(by omega))⟩⟩)⟩,(fun v=>(fun j=>⟨(by have:=aq j;omega),(fun u=>(by have:=aq j;omega))⟩))⟩)
theorem WT(d:A z)(g:z): ∀k i j,tJ d g k i j=mU (fun m=>(Iu (d.at' m) g)) k i j
 |0,_,_=>rfl
 |k+1,i,j=>by simp only[tJ,mU,WT d g k]
theorem f233(d:A z)(g:z)(a:d.n≤549755813888):0≤qb d g∧qb d g≤(d.n:Int):=by
 show 0≤tJ d g _ _ _∧tJ d g _ _ _≤_;rw[WT];exact yX (by omega) _ _ _ (by omega) (by omega) (by omega)
theorem t233(d:A z)(g:z)(h:wh d g=true):qb d g<(d.n:Int):=by
 unfold wh abV at h
 cases e:decide (zT d g<(d.n:Int))with
 |true=>exact aq e
 |false=>rw[e]at h;cases h
end
section
variable(d:Int)(u:z)(h:z)(ao:A bO)(f:A br)(w:A z)
def zL:Int:=d
def zM(g:z):z:=g
def lL(u:Int):Int:=u
def aj8:b5:=⟨[.g [a,au,a,.af cX,.af bL,.af cO]],[],[],fun d g u h r o=>⟨⟨none,[.agg [b (zL d),.str (zM g),b (lL u),.own 0 (h).n,.own 1 (r).n,.own 2 (o).n]],[[(aB.ae cX).ab h],[(aB.ae bL).ab r],[(aB.ae cO).ab o]]⟩⟩⟩
theorem avq:dB 188 aj8:=dI Tryz.func188
 fun(d:Int) g _ (u:Int) h _ r _ o _=>dA ⟨.lh false [.b 0,.b 1] [.own (.c 0 3) cX 0,.own (.c 0 4) bL 1,.own (.c 0 5) cO 2],[.cell 2 125],[(.c 0 0,a),(.c 0 1,au),(.c 0 2,a),(.h 0 0,.ae cX),(.h 1 0,.ae bL),(.h 2 0,.ae cO)],⟨[.agg [U,U,U,.own 0 0,.own 1 0,.own 2 0]],[[U],[U],[U]]⟩⟩ (.z) True (b4 (aw S4 (aw xP (aw S5 aT)))) Tryz.func188 (trivial)
def mo:Bool:=(cond (d==4) (tH f u) false)
def o5:Bool:=(cond (d==4) ((f.n:Int)==20) false)
def tE:Bool:=(cond (d==5) (!(tH f u)) false)
def aqo:A br:=(cond (tH f u) (A.del f (toNat (n9 f u)) (toNat (i64.wrap ((n9 f u)+1)))) f)
def Dk:Bool:=(cond (mo d u f) false (cond (o5 d f) false (cond (d==4) false (cond (tE d u f) false (cond (d==5) false true)))))
def abt:Int:=(cond (Dk d u f) n6 (cond (mo d u f) n6 (cond (o5 d f) (qa 6) (cond (d==4) n6 (cond (tE d u f) (qa 5) 0)))))
def abu:z:=(cond (Dk d u f) n7 (cond (mo d u f) n7 (cond (o5 d f) r1 (cond (d==4) n7 (cond (tE d u f) r1 (f.at' (toNat (n9 f u))).ai)))))
def abv:Int:=(cond (Dk d u f) (mn (Ds (tH f u))) (cond (mo d u f) (mn 0) (cond (o5 d f) r2 (cond (d==4) (mn 1) (cond (tE d u f) r2 0)))))
def abw:A z:=(cond (Dk d u f) n8 (cond (mo d u f) n8 (cond (o5 d f) r3 (cond (d==4) n8 (cond (tE d u f) r3 (L:A z))))))
def abx:A br:=let a:=toNat (n9 f u);(cond (Dk d u f) (aqo u f) (cond (mo d u f) (A.cz f a (⟨(f.at' a).j,h⟩:br)) (cond (o5 d f) f (cond (d==4) (A.ins f a (⟨u,h⟩:br)) f))))
theorem afR(d:Int)(u:z)(f:A br)(h:mo d u f=true):n9 f u<(f.n:Int):=by
 unfold mo at h
 cases e:(d==4)with
 |true=>rw[e]at h;exact Ve _ _ h
 |false=>rw[e]at h;cases h
theorem Tt(d:Int)(u:z)(f:A br)(h:tE d u f=false):d=5→n9 f u<(f.n:Int):=by
 intro a;unfold tE at h;rw[show(d==5)=true from ri.2 a]at h;exact Ve _ _ (by simpa using h)
def akF:b5:=⟨[.p 0,.g [a,au,au,au,a]],[(.h 0 0,a),(.h 0 1,au),(.h 0 2,a),(.h 1 0,.ae cX),(.h 2 0,.ae bL),(.h 3 0,.ae cO)],[[U,U,U,.own 1 0,.own 2 0,.own 3 0],[U],[U],[U]],fun(d:Int) _ u h _ (o:Int) q (t:Int) f w ao=>⟨⟨some (f.n≤1000000),[.agg [b (abt d u f),.str (abu d u f),b (abv d u f),aH 1 cK (abw d u f)]],[[b o,.str q,b t,aH 2 fz (abx d u h f),aH 1 cK w,aH 2 fA ao],[dn],[dn],[dn]]⟩⟩⟩
theorem avR:dB 204 akF:=dI Tryz.func204
 fun(d:Int) g x u A h B (r:Int) (o:Int) q C (t:Int) f D w E ao z v=>dA (ms:=[.f,.f,.f,.f,.l,.l,.l,(.b .f (.b .f (.b .f (.b .f .l)))),.l,.l]) ⟨.lh true [] [.k2 (.h 0 3) cX,.kill 1,.k2 (.h 0 4) bL,.kill 2,.k2 (.h 0 5) cO,.kill 3],[.cell 4 99],[(.c 0 0,a),(.c 0 1,au),(.c 0 2,a),(.c 0 3,.af bL),(.h 0 0,a),(.h 0 1,au),(.h 0 2,a),(.h 0 3,.af cX),(.h 0 4,.af bL),(.h 0 5,.af cO)],⟨[.agg [U,U,U,U]],[[U,U,U,U,U,U],[dn],[dn],[dn]]⟩⟩ (.ad (.ad (.xD ⟨80,[.b 4],[(.h 8 0,.ae cX)],[],(.b .f (.b .f (.b .f (.b .f (.b .f .l)))))⟩ [.own (.h 0 3) cX 8] (.j ⟨262265,[],[(.t 18,y)],[],.f⟩ .z (.ad (.j ⟨34359738489,[],[(.t 35,y)],[],.f⟩ .z (.ad (.ad (.ad (.j ⟨295147905179352825977,[],[(.t 68,y)],[],.f⟩ .z .z))))))) .z))) (let b:=n9 f u;let m:=i64.wrap (b+1);((mo d u f)=true→(((0:Int)≤b∧b<(f.n:Int))∧((toNat b)<f.n)))∧((mo d u f)=false→((o5 d f)=false→(((d==4)=true→((0:Int)≤b∧(b:Int)≤(f.n:Int)∧f.n+1≤549755813888∧1=1))∧((d==4)=false→((tE d u f)=false→(((d==5)=true→(((0:Int)≤b∧b<(f.n:Int))∧((toNat b)<f.n)))∧((d==5)=false→((tH f u)=true→((0:Int)≤b∧(b:Int)<m∧(m:Int)≤(f.n:Int))))))))))) (bK 4 (aw AR (aw Fa (aw avY (aw S6 aT)))) (av avZ (av av0 bJ))) Tryz.func204 (⟨(fun k=>⟨(by have:=afR _ _ _ k;have:=zk f u (by omega);omega),(by have:=afR _ _ _ k;have:=zk f u (by omega);omega)⟩),(fun c=>(fun e=>⟨(fun n=>(by have:=c;simp [mo]at this;have:=e;simp [o5]at this;have:=eq_of_beq n;have:=zk f u (by omega);omega)),(fun i=>(fun j=>⟨(fun l=>⟨(by have:=c;simp [mo]at this;have:=e;simp [o5]at this;have:=cU i;have:=Tt _ _ _ j;have:=eq_of_beq l;have:=zk f u (by omega);omega),(by have:=c;simp [mo]at this;have:=e;simp [o5]at this;have:=cU i;have:=Tt _ _ _ j;have:=eq_of_beq l;have:=zk f u (by omega);omega)⟩),(fun p=>(fun s=>(by have:=c;simp [mo]at this;have:=e;simp [o5]at this;have:=cU i;have:=Tt _ _ _ j;have:=cU p;have:=Ve _ _ s;have:=zk f u (by omega);first|omega|(have:=N ((n9 f u)+1);omega))))⟩))⟩))⟩)
def nf:Bool:=(cond (decide (d≤8)) ((w.n:Int)==20) false)
def aqp:A z:=(cond (d==9) (A.part w 0 (i64.wrap ((w.n:Int)-1))) (A.part w 1 (w.n:Int)))
def aqq:z:=(cond (d==9) (w.at' (toNat (i64.wrap ((w.n:Int)-1)))) (w.at' (toNat 0)))
def Dn:Bool:=(cond (nf d w) false (cond (d==7) false (cond (d==8) false true)))
def aby:Int:=(cond (Dn d w) 0 (cond (nf d w) (qa 6) n6))
def abz:z:=(cond (Dn d w) (aqq d w) (cond (nf d w) r1 n7))
def abA:Int:=(cond (Dn d w) 0 (cond (nf d w) r2 (mn (i64.wrap ((w.n:Int)+1)))))
def abB:A z:=(cond (Dn d w) (L:A z) (cond (nf d w) r3 n8))
def abC:A z:=(cond (Dn d w) (aqp d w) (cond (nf d w) w (cond (d==7) (A.app w (A.lit ([h]:List z))) (A.ins w (toNat 0) h))))
def akG:b5:=⟨[.p 0,.g [a,au,au,au,a]],[(.h 0 0,a),(.h 0 1,au),(.h 0 2,a),(.h 1 0,.ae cX),(.h 2 0,.ae bL),(.h 3 0,.ae cO)],[[U,U,U,.own 1 0,.own 2 0,.own 3 0],[U],[U],[U]],fun(d:Int) _ _ h _ (o:Int) q (t:Int) f w ao=>⟨⟨some (w.n≤1000000∧((7≤d∧d≤8)∨1≤w.n)),[.agg [b (aby d w),.str (abz d w),b (abA d w),aH 1 cK (abB d w)]],[[b o,.str q,b t,aH 2 fz f,aH 1 cK (abC d h w),aH 2 fA ao],[dn],[dn],[dn]]⟩⟩⟩
theorem avS:dB 205 akG:=dI Tryz.func205
 fun(d:Int) g v u z h A (r:Int) (o:Int) q B (t:Int) f C w D ao x n=>dA (ms:=[(.b .f (.b .f .l)),(.b .f (.b .f .l)),(.b .f (.b .f .l)),(.b .f (.b .f .l)),.l,.l,.l,.l,.f,.l]) ⟨.lh true [] [.k2 (.h 0 3) cX,.kill 1,.k2 (.h 0 4) bL,.kill 2,.k2 (.h 0 5) cO,.kill 3],[.cell 4 99],[(.c 0 0,a),(.c 0 1,au),(.c 0 2,a),(.c 0 3,.af bL),(.h 0 0,a),(.h 0 1,au),(.h 0 2,a),(.h 0 3,.af cX),(.h 0 4,.af bL),(.h 0 5,.af cO)],⟨[.agg [U,U,U,U]],[[U,U,U,U,U,U],[dn],[dn],[dn]]⟩⟩ (.ad (.ad (.ad (.j ⟨80,[.b 4],[(.h 0 4,.af bL),(.t 6,au)],[],(.b .f (.b .f (.b .f .l)))⟩ (.j ⟨67108985,[],[(.t 26,y)],[],.f⟩ .z (.ad (.ad (.ad (.ad (.ad (.ad (.s (.ir [(.h 0 4,bL)]) (.ir [(.h 0 4,bL)]))))))))) .z)))) (let c:=i64.wrap ((w.n:Int)-1);(nf d w)=false→(((d==7)=true→(w.n+1≤549755813888))∧((d==7)=false→(((d==8)=true→((0:Int)≤0∧(0:Int)≤(w.n:Int)∧w.n+1≤549755813888∧1=1))∧((d==8)=false→(((d==9)=true→(((0:Int)≤c∧c<(w.n:Int))∧(((0:Int)≤0)∧((0:Int)≤c)∧((c:Int)≤c)∧((c:Int)≤(w.n:Int)))))∧((d==9)=false→(((0:Int)≤0∧0<(w.n:Int))∧(((0:Int)≤1)∧((1:Int)≤(w.n:Int))∧(((w.n:Int):Int)≤(w.n:Int))∧(((w.n:Int):Int)≤(w.n:Int))))))))))) (bK 4 (aw AR (aw Fa aT)) (av aeY bJ)) Tryz.func205 (have⟨p,s⟩:=n;(fun b=>⟨(fun l=>(by have:=b;simp [nf]at this;have:=eq_of_beq l;omega)),(fun e=>⟨(fun m=>(by have:=b;simp [nf]at this;have:=cU e;have:=eq_of_beq m;omega)),(fun i=>⟨(fun j=>⟨(by have:=b;simp [nf]at this;have:=cU e;have:=cU i;have:=eq_of_beq j;first|omega|(have:=N ((w.n:Int)-1);omega)),(by have:=b;simp [nf]at this;have:=cU e;have:=cU i;have:=eq_of_beq j;first|omega|(have:=N ((w.n:Int)-1);omega))⟩),(fun k=>⟨(by have:=b;simp [nf]at this;have:=cU e;have:=cU i;have:=cU k;omega),(by have:=b;simp [nf]at this;have:=cU e;have:=cU i;have:=cU k;omega)⟩)⟩)⟩)⟩))
def r5:Bool:=(cond (d==11) (cond (!(wh w h)) ((w.n:Int)==20) false) false)
def wg:Bool:=(cond (d==11) (!(wh w h)) false)
def Iq:Bool:=(cond (d==12) (wh w h) false)
def aqr:A z:=(cond (Iq d h w) (A.del w (toNat (qb w h)) (toNat (i64.wrap ((qb w h)+1)))) w)
def Dp:Bool:=(cond (r5 d h w) false (cond (wg d h w) false (cond (d==11) false true)))
def abD:Int:=(cond (Dp d h w) n6 (cond (r5 d h w) (qa 6) n6))
def abE:z:=(cond (Dp d h w) n7 (cond (r5 d h w) r1 n7))
def abF:Int:=(cond (Dp d h w) (mn (Ds (wh w h))) (cond (r5 d h w) r2 (cond (wg d h w) (mn 1) (mn 0))))
def abG:A z:=(cond (Dp d h w) n8 (cond (r5 d h w) r3 n8))
def abH:A z:=(cond (Dp d h w) (aqr d h w) (cond (r5 d h w) w (cond (wg d h w) (A.ins w (toNat (qb w h)) h) w)))
theorem aya(d:Int)(h:z)(w:A z)(a:Iq d h w=true):qb w h<(w.n:Int):=by
 unfold Iq at a
 cases e:(d==12)with
 |true=>rw[e]at a;exact t233 _ _ a
 |false=>rw[e]at a;cases a
def akH:b5:=⟨[.p 0,.g [a,au,au,au,a]],[(.h 0 0,a),(.h 0 1,au),(.h 0 2,a),(.h 1 0,.ae cX),(.h 2 0,.ae bL),(.h 3 0,.ae cO)],[[U,U,U,.own 1 0,.own 2 0,.own 3 0],[U],[U],[U]],fun(d:Int) _ _ h _ (o:Int) q (t:Int) f w ao=>⟨⟨some (w.n≤1000000),[.agg [b (abD d h w),.str (abE d h w),b (abF d h w),aH 1 cK (abG d h w)]],[[b o,.str q,b t,aH 2 fz f,aH 1 cK (abH d h w),aH 2 fA ao],[dn],[dn],[dn]]⟩⟩⟩
theorem avT:dB 206 akH:=dI Tryz.func206
 fun(d:Int) g n u s h v (r:Int) (o:Int) q x (t:Int) f z w A ao p m=>dA (ms:=[(.b .f (.b .f .l)),(.b .f (.b .f .l)),.f,(.b .f (.b .f .l)),.l,.l,.l,.l,.f,.l]) ⟨.lh true [] [.k2 (.h 0 3) cX,.kill 1,.k2 (.h 0 4) bL,.kill 2,.k2 (.h 0 5) cO,.kill 3],[.cell 4 99],[(.c 0 0,a),(.c 0 1,au),(.c 0 2,a),(.c 0 3,.af bL),(.h 0 0,a),(.h 0 1,au),(.h 0 2,a),(.h 0 3,.af cX),(.h 0 4,.af bL),(.h 0 5,.af cO)],⟨[.agg [U,U,U,U]],[[U,U,U,U,U,U],[dn],[dn],[dn]]⟩⟩ (.ad (.ad (.xD ⟨80,[],[(.h 8 0,.ae bL)],[],(.b .f (.b .f (.b .f .l)))⟩ [.own (.h 0 4) bL 8] (.j ⟨131193,[],[(.t 17,y)],[],.f⟩ .z (.ad (.j ⟨17179869305,[],[(.t 34,y)],[],.f⟩ .z (.ad (.ad (.ad (.j ⟨1152921504606847089,[.b 4],[(.t 60,y)],[],.f⟩ .z .z))))))) .z))) (let b:=qb w h;let e:=i64.wrap (b+1);(r5 d h w)=false→(((wg d h w)=true→((0:Int)≤b∧(b:Int)≤(w.n:Int)∧w.n+1≤549755813888∧1=1))∧((wg d h w)=false→((d==11)=false→((Iq d h w)=true→((0:Int)≤b∧(b:Int)<e∧(e:Int)≤(w.n:Int))))))) (bK 4 (aw AR (aw Fa (aw S6 (aw av1 aT)))) (av aeY (av av2 bJ))) Tryz.func206 ((fun c=>⟨(fun i=>(by have:=c;simp [r5]at this;have:=i;(try simp [wg]at this);have:=f233 w h (by omega);omega)),(fun j=>(fun k=>(fun l=>(by have:=c;simp [r5]at this;have:=j;simp [wg]at this;have:=cU k;have:=aya _ _ _ l;have:=f233 w h (by omega);first|omega|(have:=N ((qb w h)+1);omega)))))⟩))
def tF:Bool:=(cond (d==16) (decide ((k7 ao h)<0)) false)
def tG:Bool:=(cond (d==14) (cond (decide ((k7 ao h)<0)) ((ao.n:Int)==20) false) false)
def Dq:A bO:=(cond (decide ((k7 ao h)≥0)) (A.del ao (toNat (k7 ao h)) (toNat (i64.wrap ((k7 ao h)+1)))) ao)
def abI:Int:=(cond (tF d h ao) (qa 5) (cond (d==16) n6 (cond (tG d h ao) (qa 6) n6)))
def abJ:z:=(cond (tF d h ao) r1 (cond (d==16) n7 (cond (tG d h ao) r1 n7)))
def abK:Int:=(cond (tF d h ao) r2 (cond (d==16) (mn (k7 ao h)) (cond (tG d h ao) r2 (cond (d==15) (mn (Ds (decide ((k7 ao h)≥0)))) (mn (Ds (decide ((k7 ao h)<0))))))))
def abL:A z:=(cond (tF d h ao) r3 (cond (d==16) n8 (cond (tG d h ao) r3 n8)))
def abM(r:Int)(ao:A bO):A bO:=let a:=Dq h ao;(cond (tF d h ao) ao (cond (d==16) ao (cond (tG d h ao) ao (cond (d==15) a (A.ins a (toNat (zU a h r)) (⟨h,r⟩:bO))))))
theorem f144(d:A bO)(g:z)(b:d.n≤549755813888): -1≤k7 d g∧k7 d g<(d.n:Int):=by
 have e:Qy d g=scan (fun i=>Dg (d.at' (toNat i)).j g) (fun i=>i) d.n 0:=pA (fun k i=>H4 d g k i) d.n _ _ b fun _ _=>rfl;unfold k7 Qx aaY;rw[e]
 cases h:(scan (fun i=>Dg (d.at' (toNat i)).j g) (fun i=>i) d.n 0).1 with
 |true=>
  obtain⟨j,c,f,_,a⟩:=L_ _ _ h;show-1≤(scan _ _ _ _).2∧(scan _ _ _ _).2<_;rw[a];omega
 |false=>show-1≤(-1:Int)∧(-1:Int)<_;omega
theorem aoP(h:z)(ao:A bO)(a:ao.n≤549755813888):((Dq h ao).n:Int)≤(ao.n:Int):=by
 unfold Dq
 cases decide (k7 ao h≥0)
 ·exact dp _
 ·show(((A.del ao _ _).n:Nat):Int)≤_;unfold A.del;simp only[];omega
def akI:b5:=⟨[.p 0,.g [a,au,au,au,a]],[(.h 0 0,a),(.h 0 1,au),(.h 0 2,a),(.h 1 0,.ae cX),(.h 2 0,.ae bL),(.h 3 0,.ae cO)],[[U,U,U,.own 1 0,.own 2 0,.own 3 0],[U],[U],[U]],fun(d:Int) _ _ h (r:Int) (o:Int) q (t:Int) f w ao=>⟨⟨some (ao.n≤1000000),[.agg [b (abI d h ao),.str (abJ d h ao),b (abK d h ao),aH 1 cK (abL d h ao)]],[[b o,.str q,b t,aH 2 fz f,aH 1 cK w,aH 2 fA (abM d h r ao)],[dn],[dn],[dn]]⟩⟩⟩
theorem avU:dB 207 akI:=dI Tryz.func207
 fun(d:Int) g p u v h x (r:Int) (o:Int) q z (t:Int) f A w B ao s n=>dA (ms:=[(.b .f (.b .f (.b .f .l))),(.b .f (.b .f (.b .f .l))),.f,(.b .f (.b .f (.b .f .l))),.l,.l,.l,.l,.l,.f]) ⟨.lh true [] [.k2 (.h 0 3) cX,.kill 1,.k2 (.h 0 4) bL,.kill 2,.k2 (.h 0 5) cO,.kill 3],[.cell 4 99],[(.c 0 0,a),(.c 0 1,au),(.c 0 2,a),(.c 0 3,.af bL),(.h 0 0,a),(.h 0 1,au),(.h 0 2,a),(.h 0 3,.af cX),(.h 0 4,.af bL),(.h 0 5,.af cO)],⟨[.agg [U,U,U,U]],[[U,U,U,U,U,U],[dn],[dn],[dn]]⟩⟩ (.ad (.ad (.s (.j ⟨65593,[],[(.t 16,y)],[],.f⟩ .z (.ad (.ad (.ad (.j ⟨2147483705,[],[(.t 31,y)],[],.f⟩ .z .z))))) (.xD ⟨57,[],[(.h 8 0,.ae cO)],[],.f⟩ [.own (.h 0 5) cO 8] .z .z)))) (let c:=Dq h ao;let b:=k7 ao h;let k:=i64.wrap (b+1);(tF d h ao)=false→((d==16)=false→((tG d h ao)=false→(((decide (b≥0))=true→((0:Int)≤b∧(b:Int)<k∧(k:Int)≤(ao.n:Int)))∧((d==15)=false→((0:Int)≤(zU c h r)∧((zU c h r):Int)≤(c.n:Int)∧c.n+1≤549755813888∧1=1)))))) (bK 4 (aw aeN (aw AR (aw Fa (aw S6 (aw av4 aT))))) (av av3 (av av5 bJ))) Tryz.func207 ((fun e=>(fun i=>(fun j=>⟨(fun l=>(by have:=e;simp [tF]at this;have:=cU i;have:=j;simp [tG]at this;have:=aq l;have:=f144 ao h (by omega);first|omega|(have:=N ((k7 ao h)+1);omega))),(fun m=>(by have:=e;simp [tF]at this;have:=cU i;have:=j;simp [tG]at this;have:=cU m;have:=aoP h ao (by omega);have:=aoQ (Dq h ao) h r (by omega);omega))⟩))))
end
section
def CZ(d:z)(f:z):Int:=(zF d f)
def aji:a6:=⟨[.g [au,a,au,a,.af cX,.af bL,.af cO,a],.v au],fun d _ _ _ _ _ _ _ f=>⟨⟨none,b (CZ d f)⟩⟩⟩
theorem auZ:bg 186 aji:=bj Tryz.func186
 fun d _ (g:Int) u _ (h:Int) r _ _ o _ _ q _ _ (t:Int) f _=>bf ⟨.pure,[.tmp 4],[(.t 0,a)],⟨[U],[]⟩⟩ (.z) True (b4 (aw KW aT)) Tryz.func186 (trivial)
def tA(d:A aj)(g:z):Nat→Int→Int→Int
 |0,_,_=>default
 |k+1,e,m=>(cond (decide (e<m)) (cond (decide ((CZ (d.at' (toNat (i64.wrap ((u64.wrap (i64.wrap (e+m)))/2^(toNat 1))))).j g)<0)) (tA d g k (i64.wrap ((i64.wrap ((u64.wrap (i64.wrap (e+m)))/2^(toNat 1)))+1)) m) (tA d g k e (i64.wrap ((u64.wrap (i64.wrap (e+m)))/2^(toNat 1))))) e)
variable(d:A aj)(g:z)
def CY:Int:=tA d g ((toNat ((d.n:Int)-0))+1) 0 (d.n:Int)
def aad:Bool:=(cond (decide ((CY d g)<(d.n:Int))) ((CZ (d.at' (toNat (CY d g))).j g)==0) false)
def zD:Int:=(CY d g)
def CX:Bool:=(aad d g)
def ajh:a6:=⟨[.v (.af a_),.v au,.fn 186 []],fun d g=>⟨⟨none,.c9 [b (zD d g),.bool (CX d g)]⟩⟩⟩
theorem auY:bg 185 ajh:=bj Tryz.func185
 fun d w _ g z=>bf ⟨.pure,[.tmp 6,.tmp 7],[(.t 0,a),(.t 1,y)],⟨[U,U],[]⟩⟩ (.ad (.ad (.ad (.j ⟨967,[],[],[],.f⟩ (.cy ⟨1991,[],[],[(.t 9,a),(.t 10,a)],some 0,false,967,[],[(.t 9,a)],fun k (s:Int×Int)=>tA d g k s.1 s.2,.f,fun(s:Int×Int)=>(0≤s.1∧s.1≤s.2∧s.2≤(d.n:Int)),fun(s:Int×Int)=>(toNat (s.2-s.1)),some fun(r:Int)=>0≤r∧r≤(d.n:Int)⟩ .z) (.j ⟨192,[],[(.t 7,y)],[],.f⟩ .z .z))))) (let c:=CY d g;(((0≤(0:Int)∧(0:Int)≤(d.n:Int)∧(d.n:Int)≤(d.n:Int)))∧(∀(e:Int) (m:Int),let l:=toNat (m-e);let h:=decide (e<m);let b:=i64.wrap ((u64.wrap (i64.wrap (e+m)))/2^(toNat 1));let f:=i64.wrap (b+1);let j:=decide ((CZ (d.at' (toNat b)).j g)<0);(0≤e∧e≤m∧m≤(d.n:Int))→((h=true→(((0:Int)≤1∧(1:Int)≤64)∧((0:Int)≤b∧b<(d.n:Int))))∧((h=true→((j=true→((0≤f∧f≤m∧m≤(d.n:Int))∧(toNat (m-f))<l))∧(j=false→((0≤e∧e≤b∧b≤(d.n:Int))∧(toNat (b-e))<l))))∧(h=false→(0≤e∧e≤(d.n:Int)))))))∧((0≤c∧c≤(d.n:Int))→((decide (c<(d.n:Int)))=true→((0:Int)≤c∧c<(d.n:Int))))) (b4 (aw auZ aT)) Tryz.func185 (⟨⟨(by omega),(fun e m v=>⟨(fun n=>⟨(by omega),(by have:=aq n;have:=N (e+m);have:=nI (x:=(i64.wrap (e+m))) (by omega) (by omega);have:=nn (u64.wrap (i64.wrap (e+m)));have:=N ((u64.wrap (i64.wrap (e+m)))/2^(toNat 1));omega)⟩),⟨(fun i=>⟨(fun p=>(by have:=aq i;have:=N (e+m);have:=nI (x:=(i64.wrap (e+m))) (by omega) (by omega);have:=nn (u64.wrap (i64.wrap (e+m)));have:=N ((u64.wrap (i64.wrap (e+m)))/2^(toNat 1));have:=N ((i64.wrap ((u64.wrap (i64.wrap (e+m)))/2^(toNat 1)))+1);omega)),(fun q=>(by have:=aq i;have:=N (e+m);have:=nI (x:=(i64.wrap (e+m))) (by omega) (by omega);have:=nn (u64.wrap (i64.wrap (e+m)));have:=N ((u64.wrap (i64.wrap (e+m)))/2^(toNat 1));omega))⟩),(fun t=>(by omega))⟩⟩)⟩,(fun u=>(fun o=>(by have:=aq o;omega)))⟩)
theorem WR(d:A aj)(g:z): ∀k i j,tA d g k i j=mU (fun m=>decide ((CZ (d.at' m).j g)<0)) k i j
 |0,_,_=>rfl
 |k+1,i,j=>by simp only[tA,mU,WR d g k]
theorem Yv(d:A aj)(g:z)(a:d.n≤549755813888):0≤zD d g∧zD d g≤(d.n:Int):=by
 show 0≤tA d g _ _ _∧tA d g _ _ _≤_;rw[WR];exact yX (by omega) _ _ _ (by omega) (by omega) (by omega)
theorem ahZ(d:A aj)(g:z)(h:CX d g=true):zD d g<(d.n:Int):=by
 unfold CX aad at h
 cases e:decide (CY d g<(d.n:Int))with
 |true=>exact aq e
 |false=>rw[e]at h;cases h
def ru(b:Bool)(i:Int)(n:Nat):Prop:=(0≤i∧i≤(n:Int))∧(b=true→i<(n:Int))
theorem aCk{b:Bool}{i:Int}{n:Nat}(h:ru b i n):0≤i∧i≤(n:Int):=h.1
theorem Vg{b:Bool}{i:Int}{n:Nat}(h:ru b i n)(a:(!b)=false):0≤i∧i<(n:Int):=⟨h.1.1,h.2 (by simpa using a)⟩
theorem aCj(d:A aj)(g:z)(a:d.n≤549755813888):ru (CX d g) (zD d g) d.n:=⟨Yv d g a,ahZ d g⟩
def tl(s:A aj):Prop:=s.n≤1000000∧ ∀i,i<s.n→(s.at' i).p.n≤1048576∧(s.at' i).v.n≤1048576∧(s.at' i).ax.n≤1048576
end
section
def h7(d:z)(r:A aj):Int:=(zD r d)
def hO(d:z)(r:A aj):Bool:=(CX r d)
def ai_:b5:=⟨[.p 0,.v au],[(.h 0 0,a),(.h 0 2,a),(.h 0 3,y),(.h 1 0,.ae a_)],[[U,.own 1 0,U,U],[U]],fun d g _ _ r=>⟨⟨none,[],[[b g,.own 1 (r).n,b (h7 d r),.bool (hO d r)],[(aB.ae a_).ab r]]⟩⟩⟩
theorem auR:dB 163 ai_:=dI Tryz.func163
 fun d _ (g:Int) (u:Int) h r _=>dA ⟨.heap,[],[(.h 0 0,a),(.h 0 2,a),(.h 0 3,y),(.h 1 0,.ae a_)],⟨[],[[U,.own 1 0,U,U],[U]]⟩⟩ (.z) True (bK 2 (aw auY aT) bJ) Tryz.func163 (trivial)
theorem vN(g:z)(f:A aj)(a:f.n≤549755813888):0≤h7 g f∧h7 g f≤(f.n:Int):=Yv f g a
theorem yv(g:z)(f:A aj)(h:hO g f=true):h7 g f<(f.n:Int):=ahZ f g h
theorem aCs(g:z)(f:A aj)(h:(!(hO g f))=false):h7 g f<(f.n:Int):=yv g f (by simpa using h)
theorem ig{g:z}{f:A aj}(h:tl f):ru (hO g f) (h7 g f) f.n:=aCj f g (by have:=h.1;omega)
def HD(g:Int)(h:A aj):A aj:=(A.del h (toNat g) (toNat (i64.wrap (g+1))))
def aja:b5:=⟨[.p 0],[(.h 0 0,a),(.h 0 2,a),(.h 0 3,y),(.h 1 0,.ae a_)],[[U,.own 1 0,U,U],[U]],fun(d:Int) (g:Int) u h=>⟨⟨some (h.n≤1000000∧0≤g∧g<(h.n:Int)),[],[[b d,.own 2 ((HD g h)).n,b g,.bool u],[dn],[(aB.ae a_).ab (HD g h)]]⟩⟩⟩
theorem auS:dB 164 aja:=dI Tryz.func164
 fun(d:Int) (g:Int) u h j c=>dA ⟨.lh true [] [.own (.h 0 1) a_ 2],[],[(.h 0 0,a),(.h 0 2,a),(.h 0 3,y),(.h 2 0,.ae a_)],⟨[],[[U,.own 2 0,U,U],[dn],[U]]⟩⟩ (.z) (let b:=i64.wrap (g+1);(0:Int)≤g∧(g:Int)<b∧(b:Int)≤(h.n:Int)) (bK 2 aT (av au0 bJ)) Tryz.func164 (have⟨e,f,i⟩:=c;(by have:=N (g+1);omega))
variable(d:Int)(g:z)(r:Int)(o:Int)(bR:Int)(b0:Bool)(cl:A aj)(q:Int)(t:Bool)(f:A aj)
def HE:Bool:=(cond (decide (r<1)) true (decide (r>(i64.wrap (1073741824-o)))))
def Z3:Int:=(cond (!t) 5 (cond (d==21) 0 (cond (HE r o) 2 0)))
def Z9:z:=⟨#[]⟩
def Z_:Int:=(cond (!t) 0 (cond (d==21) (imax (i64.wrap ((f.at' (toNat q)).aF-o)) 0) 0))
def aaa:A z:=(L:A z)
def aab:A aj:=let a:=f.at' (toNat q);(cond (!t) f (cond (d==21) f (cond (HE r o) f (A.cz f (toNat q) (⟨a.j,a.ai,a.K,a.an,a.p,a.v,a.ax,(i64.wrap (o+r))⟩:aj)))))
def ajb:b5:=⟨[.p 0,.g [a,au,au,au,a]],[(.h 0 0,a),(.h 0 2,a),(.h 0 3,y),(.h 1 0,.ae a_)],[[U,.own 1 0,U,U],[U]],fun(d:Int) _ _ _ (r:Int) (o:Int) (q:Int) t f=>let c:=aab d r o q t f;⟨⟨some (ru t q f.n∧f.n≤1000000),[.agg [b (Z3 d r o t),.str Z9,b (Z_ d o q t f),aH 1 cK aaa]],[[b o,.own 1 (c).n,b q,.bool t],[(aB.ae a_).ab c]]⟩⟩⟩
theorem auT:dB 165 ajb:=dI Tryz.func165
 fun(d:Int) g m u n h p (r:Int) (o:Int) (q:Int) t f s i=>dA (ms:=[.f,.l,(.b .f (.b .f .l)),.l,.l,.l,.l,.f]) ⟨.heap,[.cell 4 99],[(.c 0 0,a),(.c 0 1,au),(.c 0 2,a),(.c 0 3,.af bL),(.h 0 0,a),(.h 0 2,a),(.h 0 3,y),(.h 1 0,.ae a_)],⟨[.agg (us 4 [])],[[U,.own 1 0,U,U],[U]]⟩⟩ (.ad (.ad (.ad (.ad (.s (.j ⟨1125899906842681,[],[(.t 50,y)],[],.f⟩ .z .z) .z))))) ((!t)=false→(((0:Int)≤q∧q<(f.n:Int))∧(((d==21)=true→((toNat q)<f.n))∧((d==21)=false→((HE r o)=false→((toNat q)<f.n)))))) (bK 2 aT bJ) Tryz.func165 (have⟨k,l⟩:=i;(fun b=>⟨(by have:=Vg (by assumption) b;omega),⟨(fun j=>(by have:=Vg (by assumption) b;omega)),(fun c=>(fun e=>(by have:=Vg (by assumption) b;have:=cU c;have:=e;simp [HE]at this;omega)))⟩⟩))
def HF:A aj:=(cond (!b0) (A.ins cl (toNat bR) (⟨g,0,⟨#[]⟩,0,(L:A br),(L:A z),(L:A bO),0⟩:aj)) cl)
def aac(q:z)(t:Int)(f:A br)(w:A z)(ao:A bO)(bR:Int)(b0:Bool)(cl:A aj):A aj:=let e:=HF g bR b0 cl;let b:=toNat bR;let c:=A.cz e b (⟨(e.at' b).j,o,q,t,f,w,ao,(e.at' b).aF⟩:aj);let a:=c.at' b;(cond (d==1) (A.cz c b (⟨a.j,a.ai,a.K,a.an,a.p,a.v,a.ax,0⟩:aj)) c)
theorem TB(g:z)(bR:Int)(b0:Bool)(cl:A aj)(h:ru b0 bR cl.n):0≤bR∧bR<(((HF g bR b0 cl).n:Nat):Int):=by
 unfold HF
 cases b0 with
 |true=>exact⟨h.1.1,h.2 rfl⟩
 |false=>
  refine⟨h.1.1,?_⟩;show bR<((cl.n+1:Nat):Int);have:=h.1.2;omega
def ajf:b5:=⟨[.p 0,.g [a,au,au,au,a],.g [a,au,a,.af cX,.af bL,.af cO]],[(.h 0 0,a),(.h 0 2,a),(.h 0 3,y),(.h 1 0,.ae a_)],[[U,.own 1 0,U,U],[U]],fun(d:Int) g _ _ _ (o:Int) q (t:Int) f w ao (bb:Int) (bR:Int) b0 cl=>let c:=aac d g o q t f w ao bR b0 cl;⟨⟨some (ru b0 bR cl.n∧cl.n≤1000000),[],[[b bb,.own 1 (c).n,b bR,.bool b0],[(aB.ae a_).ab c]]⟩⟩⟩
theorem auX:dB 167 ajf:=dI Tryz.func167
 fun(d:Int) g p u x h z (r:Int) (o:Int) q A (t:Int) f B w C ao s (bb:Int) (bR:Int) b0 cl v e=>dA (ms:=[.l,.l,.l,.f]) ⟨.heap,[],[(.h 0 0,a),(.h 0 2,a),(.h 0 3,y),(.h 1 0,.ae a_)],⟨[],[[U,.own 1 0,U,U],[U]]⟩⟩ (.ad (.j ⟨49,[.b 4],[(.h 1 0,.ae a_)],[],.f⟩ .z .z)) (let c:=HF g bR b0 cl;((!b0)=true→((0:Int)≤bR∧(bR:Int)≤(cl.n:Int)∧cl.n+1≤549755813888∧1=1))∧(((0:Int)≤bR∧bR<(c.n:Int))∧(((toNat bR)<c.n)∧((d==1)=true→((toNat bR)<c.n))))) (bK 2 aT (av au1 bJ)) Tryz.func167 (have⟨l,m⟩:=e;⟨(fun j=>(by have:=aCk (b:=b0) (i:=bR) (n:=cl.n) (by assumption);omega)),⟨(by have:=TB g bR b0 cl (by repeat first|assumption|apply vu|apply vt|apply hp|apply ju|apply And.intro|apply Ce|apply Cd|apply ig);omega),⟨(by have:=TB g bR b0 cl (by repeat first|assumption|apply vu|apply vt|apply hp|apply ju|apply And.intro|apply Ce|apply Cd|apply ig);omega),(fun k=>(by have:=TB g bR b0 cl (by repeat first|assumption|apply vu|apply vt|apply hp|apply ju|apply And.intro|apply Ce|apply Cd|apply ig);omega))⟩⟩⟩)
def HC(g:A aj):Nat→Int→A aj→A aj
 |0,_,_=>default
 |k+1,e,m=>(cond (decide (e<(g.n:Int))) (HC g k (i64.wrap (e+1)) (A.app m (A.lit ([(g.at' (toNat e))]:List aj)))) m)
def apH(g:A aj):A aj:=HC g ((toNat ((g.n:Int)-0))+1) 0 (L:A aj)
def mj:Int:=d
def kv(g:A aj):A aj:=(apH g)
def ai4:b5:=⟨[.g [a,.af a_]],[],[],fun d g=>⟨⟨none,[.agg [b (mj d),.own 0 ((kv g)).n]],[[(aB.ae a_).ab (kv g)]]⟩⟩⟩
theorem auN:dB 148 ai4:=dI Tryz.func148
 fun(d:Int) g l=>dA ⟨.lh false [] [.own (.c 0 1) a_ 0],[.cell 2 46],[(.c 0 0,a),(.h 0 0,.ae a_)],⟨[.agg [U,.own 0 0]],[[U]]⟩⟩ (.ad (.ad (.j ⟨12,[],[],[],.f⟩ (.ad (.cy ⟨14348,[.b 0],[(.h 2 1,a_)],[(.t 13,a),(.h 3 0,.ae a_)],some 0,false,12,[],[(.h 3 0,.ae a_)],fun k (s:Int×A aj)=>HC g k s.1 s.2,.f,fun(s:Int×A aj)=>((0≤s.1∧s.1≤(g.n:Int))∧(s.2.n:Int)≤0+(s.1-0)),fun(s:Int×A aj)=>(toNat ((g.n:Int)-s.1)),some fun(r:A aj)=>(r.n:Int)≤0+max ((g.n:Int)-0) 0⟩ .z)) .z))) ((((0≤(0:Int)∧(0:Int)≤(g.n:Int))∧((0:Nat):Int)≤0+((0:Int)-0)))∧(∀(e:Int) (m:A aj),let c:=decide (e<(g.n:Int));let b:=i64.wrap (e+1);((0≤e∧e≤(g.n:Int))∧(m.n:Int)≤0+(e-0))→((c=true→(((0:Int)≤e∧e<(g.n:Int))∧(m.n+1≤549755813888)))∧((c=true→(((0≤b∧b≤(g.n:Int))∧(((m.n+1):Nat):Int)≤0+(b-0))∧(toNat ((g.n:Int)-b))<(toNat ((g.n:Int)-e))))∧(c=false→((m.n:Int)≤0+max ((g.n:Int)-0) 0)))))) (b4 (aw S4 (aw xP (aw S5 aT)))) Tryz.func148 (⟨(by omega),(fun e m j=>⟨(fun f=>⟨(by have:=aq f;omega),(by have:=aq f;omega)⟩),⟨(fun h=>(by have:=aq h;have:=N (e+1);omega)),(fun i=>(by omega))⟩⟩)⟩)
end
def ZW(t:Int)(f:Int):Bool:=(cond (t !=0) (decide (t≤f)) false)
def iJ(t:Int)(f:Int):Bool:=(ZW t f)
def ai6:b5:=⟨[.g [au,a,au,a,.af cX,.af bL,.af cO,a],.p 0],[(.h 1 0,a),(.h 1 2,a),(.h 1 3,y)],[[.ptr 1 0],[U,.gone,U,U]],fun _ _ _ _ _ _ _ t f w ao=>⟨⟨none,[.bool (iJ t f)],[[.ptr 1 0],[b f,.gone,b w,.bool ao]]⟩⟩⟩
theorem aeI:dB 150 ai6:=dI Tryz.func150
 fun d _ (g:Int) u _ (h:Int) r _ o _ q _ (t:Int) (f:Int) (w:Int) ao=>dA ⟨.heap,[.tmp 3],[(.t 0,y),(.h 1 0,a),(.h 1 2,a),(.h 1 3,y)],⟨[U],[[.ptr 1 0],[U,.gone,U,U]]⟩⟩ (.ad (.j ⟨8,[.b 2],[(.t 3,y)],[],.f⟩ .z .z)) True (bK 2 aT bJ) Tryz.func150 (trivial)
section
def rW(d:Int)(g:Int)(u:Bool)(h:A aj):Nat→Int→Bool×Int×Int×Int×Bool×A aj
 |0,_=>default
 |k+1,e=>(cond (decide (e<(h.n:Int))) (cond (iJ (h.at' (toNat e)).aF d) (true,e,d,g,u,h) (rW d g u h k (i64.wrap (e+1)))) (false,default,default,default,default,default))
variable(d:Int)(g:Int)(u:Bool)(h:A aj)
def vX:Bool×Int×Int×Int×Bool×A aj:=rW d g u h ((toNat ((h.n:Int)-0))+1) 0
def zB:Bool:=(cond (vX d g u h).1 false true)
def m4:Int:=(cond (zB d g u h) (-1) (vX d g u h).2.1)
def P2:Int:=(cond (zB d g u h) d (vX d g u h).2.2.1)
def P3:Int:=(cond (zB d g u h) g (vX d g u h).2.2.2.1)
def P4:Bool:=(cond (zB d g u h) u (vX d g u h).2.2.2.2.1)
def P6:A aj:=(cond (zB d g u h) h (vX d g u h).2.2.2.2.2)
theorem uB{P:Program}{f:FuncId}{b:List J}{H:Heap}{rs a:List J}{al km:Heap}(h:fj P f b H rs al)(c:rs=a)(d:al=km):fj P f b H a km:=by subst c d;exact h
theorem aft(d:Int)(g:Int)(u:Bool)(h:A aj)(s:h.n≤549755813888): ∀(m c i:Nat),i+m=h.n→m≤c→(rW d g u h (c+1) (i:Int)=(false,default,default,default,default,default)∧ ∀t,i≤t→t<h.n→iJ (h.at' t).aF d=false)∨ ∃t,i≤t∧t<h.n∧rW d g u h (c+1) (i:Int)=(true,(t:Int),d,g,u,h)∧iJ (h.at' t).aF d=true∧ ∀f,i≤f→f<t→iJ (h.at' f).aF d=false
 |0,c,i,r,_=>by
  refine .inl ⟨?_,fun t k j=>by omega⟩;show(cond (decide ((i:Int)<(h.n:Int))) _ _)=_;rw[bI (by omega)];rfl
 |m+1,c,i,r,v=>by
  obtain⟨c,rfl⟩: ∃q,c=q+1:=⟨c-1,by omega⟩;have e:rW d g u h (c+1+1) (i:Int)=(cond (iJ (h.at' i).aF d) (true,(i:Int),d,g,u,h) (rW d g u h (c+1) ((i+1:Nat):Int))):=by
   show(cond (decide ((i:Int)<(h.n:Int))) _ _)=_;rw[bT (by omega),fT,N _];rfl
  rw[e]
  cases l:iJ (h.at' i).aF d with
  |true=>exact .inr ⟨i,bx _,by omega,rfl,l,fun f k j=>by omega⟩
  |false=>
   rcases aft d g u h s m c (i+1) (by omega) (by omega)with⟨k,j⟩|⟨t,k,j,n,o,p⟩
   ·refine .inl ⟨k,fun t a b=> ?_⟩
    by_cases q:t=i
    ·subst q;exact l
    ·exact j t (by omega) b
   ·refine .inr ⟨t,by omega,j,n,o,fun f a b=> ?_⟩
    by_cases q:f=i
    ·subst q;exact l
    ·exact p f (by omega) b
theorem UA(d:Int)(g:Int)(u:Bool)(h:A aj)(j:h.n≤549755813888):(P2 d g u h=d∧P3 d g u h=g∧P4 d g u h=u∧P6 d g u h=h)∧
  ((m4 d g u h= -1∧ ∀t,t<h.n→iJ (h.at' t).aF d=false)∨ ∃t:Nat,t<h.n∧m4 d g u h=(t:Int)∧iJ (h.at' t).aF d=true∧ ∀a,a<t→iJ (h.at' a).aF d=false):=by
 unfold P2 P3 P4 P6 m4 zB vX;rcases aft d g u h j h.n (toNat ((h.n:Int)-0)) 0 (by omega) (by omega)with⟨c,b⟩|⟨t,c,b,e,f,i⟩
 ·rw[show rW d g u h (toNat ((h.n:Int)-0)+1) 0=_ from c];exact⟨⟨rfl,rfl,rfl,rfl⟩,.inl ⟨rfl,fun t k=>b t (cA _) k⟩⟩
 ·rw[show rW d g u h (toNat ((h.n:Int)-0)+1) 0=_ from e];exact⟨⟨rfl,rfl,rfl,rfl⟩,.inr ⟨t,b,rfl,f,fun a l=>i a (cA _) l⟩⟩
theorem aoO(d:Int)(g:Int)(u:Bool)(h:A aj)(b:h.n≤549755813888): -1≤m4 d g u h∧m4 d g u h<(h.n:Int):=by
 rcases(UA d g u h b).2 with⟨a,_⟩|⟨t,c,a,_⟩<;>rw[a]<;>omega
def ai9:b5:=⟨[.o 2,.jA 150 [0]],[(.h 1 0,a),(.h 1 2,a),(.h 1 3,y),(.h 2 0,.ae a_)],[[.ptr 1 0],[U,.gone,U,U],[U]],fun d g u h=>⟨⟨none,[b (m4 d g u h)],[[.ptr 1 0],[b d,.gone,b g,.bool u],[(aB.ae a_).ab h]]⟩⟩⟩
theorem auQ:dB 162 ai9:=dI Tryz.func162
 fun(d:Int) (g:Int) u h o=>have⟨j,l,m,bl⟩:=(UA d g u h o).1;uB (rs:=[b (m4 d g u h)]) (al:=[[.ptr 1 0],[b (P2 d g u h),.gone,b (P3 d g u h),.bool (P4 d g u h)],[(aB.ae a_).ab (P6 d g u h)]]) (dA ⟨.heap,[.tmp 4],[(.t 0,a),(.h 1 0,a),(.h 1 2,a),(.h 1 3,y),(.h 2 0,.ae a_)],⟨[U],[[.ptr 1 0],[U,.gone,U,U],[U]]⟩⟩ (.ad (.j ⟨16,[],[],[],.f⟩ (.ad (.cy ⟨403,[],[],[(.t 8,a)],some 0,true,16,[],[],fun k (s:Int)=>rW d g u h k s,.f,fun(s:Int)=>(0≤s∧s≤(h.n:Int)),fun(s:Int)=>(toNat ((h.n:Int)-s)),none⟩ .z)) .z)) (((0≤(0:Int)∧(0:Int)≤(h.n:Int)))∧(∀(e:Int),let i:=decide (e<(h.n:Int));let c:=i64.wrap (e+1);(0≤e∧e≤(h.n:Int))→((i=true→(((0:Int)≤e∧e<(h.n:Int))∧((toNat e)<h.n)))∧(i=true→((iJ (h.at' (toNat e)).aF d)=false→((0≤c∧c≤(h.n:Int))∧(toNat ((h.n:Int)-c))<(toNat ((h.n:Int)-e)))))))) (bK 3 aT (av aeI bJ)) Tryz.func162 (⟨(by omega),(fun e q=>⟨(fun f=>⟨(by have:=aq f;omega),(by have:=aq f;omega)⟩),(fun n=>(fun p=>(by have:=aq n;have:=N (e+1);omega)))⟩)⟩)) rfl (by rw[j,l,m,bl];rfl)
end
section
variable(d:Int)(ar:Int)(cE:Int)(hb:A aj)(g:Int)(u:Bool)(h:A aj)
def zx:A aj:=(cond (!(iJ (hb.at' (toNat cE)).aF d)) (A.cz hb (toNat ar) (hb.at' (toNat cE))) hb)
def vW:Int:=(cond (!(iJ (hb.at' (toNat cE)).aF d)) (i64.wrap (ar+1)) ar)
def zw(d:Int):Nat→Int→Int→A aj→Int×A aj
 |0,_,_,_=>default
 |k+1,ar,cE,hb=>(cond (decide (cE<(hb.n:Int))) (zw d k (vW d ar cE hb) (i64.wrap (cE+1)) (zx d ar cE hb)) (ar,hb))
def CS:Int×A aj:=zw d ((toNat ((h.n:Int)- (i64.wrap ((m4 d g u h)+1))))+1) (m4 d g u h) (i64.wrap ((m4 d g u h)+1)) h
def m3:A aj:=(cond ((m4 d g u h)==(-1)) h (A.cut (A.vy (CS d g u h).2 (toNat (CS d g u h).1) ((⟨⟨#[]⟩,0,⟨#[]⟩,0,(L:A br),(L:A z),(L:A bO),0⟩:aj):aj)) (toNat (CS d g u h).1)))
theorem ayz(d i j:Int)(s:A aj):(zx d i j s).n=s.n:=by
 unfold zx
 cases (!(iJ (s.at' (toNat j)).aF d))<;>rfl
theorem ayA(d i j:Int)(s:A aj)(h:0≤i∧i<549755813888):i≤vW d i j s∧vW d i j s≤i+1:=by
 unfold vW;have:=N (i+1)
 cases (!(iJ (s.at' (toNat j)).aF d))<;>simp only[aN,aQ]<;>omega
def ai5:b5:=⟨[.o 2,.jA 150 [0]],[(.h 1 0,a),(.h 1 2,a),(.h 1 3,y),(.h 2 0,.ae a_)],[[.ptr 1 0],[U,.gone,U,U],[U]],fun(d:Int) (g:Int) u h=>let c:=m3 d g u h;⟨⟨some (h.n≤1000000),[.own 3 (c).n],[[.ptr 1 0],[b d,.gone,b g,.bool u],[dn],[(aB.ae a_).ab c]]⟩⟩⟩
theorem auO:dB 149 ai5:=dI Tryz.func149
 fun(d:Int) (g:Int) u h x w=>dA (ms:=[.f,.l,.l,.l]) ⟨.lh false [] [.own (.t 0) a_ 3],[.tmp 4],[(.h 3 0,.ae a_),(.h 1 0,a),(.h 1 2,a),(.h 1 3,y)],⟨[.own 3 0],[[.ptr 1 0],[U,.gone,U,U],[dn],[U]]⟩⟩ (.ad (.ad (.ad (.j ⟨49,[],[],[],.f⟩ (.ad (.cy ⟨115,[],[],[(.t 5,a),(.t 6,a),(.h 2 0,.ae a_)],some 0,false,49,[],[(.t 5,a),(.h 2 0,.ae a_)],fun k (s:Int×Int×A aj)=>zw d k s.1 s.2.1 s.2.2,.f,fun(s:Int×Int×A aj)=>(0≤s.1∧s.1<s.2.1∧s.2.1≤(s.2.2.n:Int)∧s.2.2.n=h.n),fun(s:Int×Int×A aj)=>(toNat ((s.2.2.n:Int)-s.2.1)),some fun(r:Int×A aj)=>(0≤r.1∧r.1<(r.2.n:Int)∧r.2.n=h.n)⟩ (.ad (.j ⟨1070530803,[],[(.h 2 0,.ae a_),(.t 5,a)],[],.f⟩ .z .z)))) (.s .T0 (.s .T0 .z)))))) (let c:=m4 d g u h;let m:=i64.wrap (c+1);let b:=CS d g u h;(c==(-1))=false→((((0≤c∧c<m∧m≤(h.n:Int)∧h.n=h.n))∧(∀(ar:Int) (cE:Int) (hb:A aj),let l:=vW d ar cE hb;let i:=i64.wrap (cE+1);let f:=zx d ar cE hb;let e:=decide (cE<(hb.n:Int));(0≤ar∧ar<cE∧cE≤(hb.n:Int)∧hb.n=h.n)→((e=true→((((0:Int)≤cE∧cE<(hb.n:Int))∧((toNat cE)<hb.n))∧((!(iJ (hb.at' (toNat cE)).aF d))=true→(((0:Int)≤ar∧ar<(hb.n:Int))∧((toNat ar)<hb.n)))))∧((e=true→((0≤l∧l<i∧i≤(f.n:Int)∧f.n=h.n)∧(toNat ((f.n:Int)-i))<(toNat ((hb.n:Int)-cE))))∧(e=false→((0≤ar∧ar<(hb.n:Int)∧hb.n=h.n)))))))∧(((0≤b.1∧b.1<(b.2.n:Int)∧b.2.n=h.n))→(((0:Int)≤b.1∧b.1<(b.2.n:Int))∧((0:Int)≤b.1∧b.1<(b.2.n:Int)))))) (bK 3 aT (av aeI (av auQ bJ))) Tryz.func149 ((fun n=>⟨⟨(by have:=cU n;have:=aoO d g u h (by omega);have:=N ((m4 d g u h)+1);omega),(fun ar cE hb v=>⟨(fun j=>⟨⟨(by have:=aq j;omega),(by have:=aq j;omega)⟩,(fun p=>⟨(by omega),(by omega)⟩)⟩),⟨(fun o=>(by have:=aq o;have:=ayA d ar cE hb (by omega);have:=ayz d ar cE hb;have:=N (cE+1);omega)),(fun q=>(by omega))⟩⟩)⟩,(fun t=>⟨(by omega),(by omega)⟩)⟩))
end
end Go.Proofs.YtfmgjpcmcjjoiaaGreatDoor
namespace Go.ah
open Go
theorem axQ{x y:UInt8}{a b:List UInt8} :Op.bytesLess (x::a) (y::b)=true↔x<y∨(x=y∧Op.bytesLess a b=true):=by
 simp only[Op.bytesLess,Gg,bY,jP,ri]
theorem afH: ∀{a b c:List UInt8},Op.bytesLess a b=true→Op.bytesLess b c=true→Op.bytesLess a c=true
 |_,_,[],_,h=>by simp [Op.bytesLess]at h
 |[],_,_::_,_,_=>rfl
 |_::_,[],_::_,h,_=>by simp [Op.bytesLess]at h
 |x::a,y::b,z::c,e,d=>by
  rw[axQ]at e d ⊢;rcases e with e|⟨g,e⟩
  ·rcases d with d|⟨f,d⟩
   ·exact .inl (UInt8.lt_trans e d)
   ·subst f;exact .inl e
  ·subst g;rcases d with d|⟨f,d⟩
   ·exact .inl d
   ·exact .inr ⟨f,afH e d⟩
theorem chain{R:Nat→Nat→Prop}(n:Nat)(a: ∀i,i+1<n→R i (i+1))(b: ∀i j k,i<j→j<k→k<n→R i j→R j k→R i k): ∀(d i:Nat),i+d+1<n→R i (i+d+1)
 |0,i,h=>a i h
 |d+1,i,h=>b i (i+d+1) (i+(d+1)+1) (by omega) (by omega) h (chain n a b d i (by omega)) (a (i+d+1) h)
theorem anq{R:Nat→Nat→Prop}(n:Nat)(a: ∀i,i+1<n→R i (i+1))(b: ∀i j k,i<j→j<k→k<n→R i j→R j k→R i k)(i j:Nat)(c:i<j)(d:j<n):R i j:=by
 have:=chain n a b (j-i-1) i (by omega);rwa [show i+(j-i-1)+1=j by omega]at this
theorem YM{a ρ:Type}(F:Nat→Int→a→ρ)(n:Nat)(step:Nat→a→a)(c:a→ρ)(e:n≤549755813888)(b: ∀k i s,F (k+1) i s=bif decide (i<(n:Int))then F k (i64.wrap (i+1)) (step (toNat i) s)else c s):
  ∀(m k i:Nat) (s:a),i+m=n→m≤k→F (k+1) (i:Int) s=c ((List.range' i m).foldl (fun s j=>step j s) s)
 |0,k,i,s,d,_=>by
  rw[b,show decide ((i:Int)<(n:Int))=false by simp;omega];rfl
 |m+1,k,i,s,d,g=>by
  obtain⟨k,rfl⟩: ∃f,k=f+1:=⟨k-1,by omega⟩;rw[b,show decide ((i:Int)<(n:Int))=true by simp;omega];simp only[aN];rw[N ((i:Int)+1)];have:=YM F n step c e b m k (i+1) (step i s) (by omega) (by omega);rw[show(((i+1:Nat)):Int)=(i:Int)+1 by omega]at this;rw[show toNat (i:Int)=i from fT i,this];rfl
theorem apb{a ρ:Type}(F:Nat→Int→a→ρ)(n:Nat)(step:Nat→a→a)(b:a→ρ)(d:n≤549755813888)(c: ∀k i s,F (k+1) i s=bif decide (i<(n:Int))then F k (i64.wrap (i+1)) (step (toNat i) s)else b s)(s:a):
  F (toNat ((n:Int)-0)+1) 0 s=b ((List.range n).foldl (fun s j=>step j s) s):=by
 have:=YM F n step b d c n (toNat ((n:Int)-0)) 0 s (by omega) (by omega);rw[List.range_eq_range'];exact this
section
variable {α:Type}
theorem apc{b:Type}(s:A α)(step:α→b→b)(st:b):(List.range s.n).foldl (fun st j=>step (s.at' j) st) st=s.B.foldl (fun st a=>step a st) st:=by
 unfold A.B;rw[List.foldl_map]
theorem ayU{a b:Nat}(h:a≠b):Nat.beq a b=false:=by
 cases e:Nat.beq a b with
 |false=>rfl
 |true=>exact absurd (dX e) h
theorem aiP(s:A α){i:Nat}(h:i<s.n):s.B.drop i=s.at' i::s.B.drop (i+1):=by
 rw[Gk (by rw[dt];exact h)];simp [A.B]
end
end Go.ah
namespace Go.Proofs.YtfmgjpcmcjjoiaaGreatDoor
open Go Go.RowKit Go.ah
theorem aym{α:Type}(s:A α){t:Nat}{a:α}(h:a∈s.B.take t): ∃i,i<s.n∧i<t∧s.at' i=a:=by
 obtain⟨i,c,b⟩:=List.mem_take_iff_getElem.1 h;rw[dt]at c;refine⟨i,by omega,by omega,?_⟩;rw[←b];simp [A.B]
theorem Mw{α:Type}(s:A α)(t:Nat):s.B[t]? =if t<s.n then some (s.at' t)else none:=by
 by_cases h:t<s.n
 ·rw[bF h,kV s h]
 ·rw[bH h];exact e0 (by rw[dt];omega)
theorem ayT{α:Type}{s t:A α}(h:s.B=t.B):s.n=t.n:=by rw[←dt s,←dt t,h]
section
variable {α γ:Type}
theorem YN(f:α→γ): ∀(l:List α) (a:List γ),l.foldl (fun b x=>b++[f x]) a=a++l.map f
 |[],a=>by simp
 |x::l,a=>by rw[Ge,YN f l];simp
theorem ayg[Inhabited γ](F:Nat→Int→A γ→A γ)(s:A α)(f:α→γ)(d:s.n≤549755813888)(c: ∀k i a,F (k+1) i a=bif decide (i<(s.n:Int))then F k (i64.wrap (i+1)) (A.app a (A.lit [f (s.at' (toNat i))]))else a)(a:A γ):
  (F (toNat ((s.n:Int)-0)+1) 0 a).B=a.B++s.B.map f:=by
 rw[apb F s.n (fun j a=>A.app a (A.lit [f (s.at' j)])) id d (fun k i a=>c k i a) a];rw[←YN f s.B a.B,←apc s (fun x b=>b++[f x])];exact(List.foldl_hom A.B fun st j=>by rw[oI,oJ]).symm
end
structure Fit (now:Int) (s:A aj):Prop where
 n:s.n≤12
 Bq:NC s.n (fun i=>(s.at' i).j)
 ok: ∀i,i<s.n→mz (s.at' i).ai (s.at' i).K (s.at' i).an (s.at' i).p (s.at' i).v (s.at' i).ax=0
 M: ∀i,i<s.n→(s.at' i).p.n≤1048576∧(s.at' i).v.n≤1048576∧(s.at' i).ax.n≤1048576
 u: ∀i,i<s.n→(s.at' i).aF=0∨(now<(s.at' i).aF∧(s.at' i).aF≤1073741824)
theorem aBF{α:Type}(l m:List α)(x y:α){i:Nat}(h:l.length=i):(l++x::m).set i y=l++y::m:=by
 subst h;rw[List.set_append_right _ _ (bx _)];simp
theorem aBE{α:Type}(s:A α)(i:Nat)(y:α)(h:i<s.n):(s.cz i y).B=s.B.take i++y::s.B.drop (i+1):=by
 rw[VF];have b:s.B=s.B.take i++s.at' i::s.B.drop (i+1):=by rw[←aiP s h,q_]
 have a:=aBF (s.B.take i) (s.B.drop (i+1)) (s.at' i) y (i:=i) (by rw[nJ,dt];omega);rw[←b]at a;exact a
end Go.Proofs.YtfmgjpcmcjjoiaaGreatDoor
namespace Go.Proofs.YtfmgjpcmcjjoiaaGreatDoor
open Go Go.Proofs Go.RowKit Go.Shelf Go.ah
abbrev aku:b5:=vF bP
theorem avL:jc Tryz.prog 152 aku.gY:=zc (E:=bP) (z:=(.agg #[.int .i64 0,.int .i64 0,.int .i64 0,.int .i64 0,.string ⟨#[]⟩,.int .i64 0,.slice none 0 0])) (zb (ρ:=za 152 47 135) (b:=80) mixed ⟨ "slices.Delete[[]rostrum/api.Client,rostrum/api.Client]",by kernel_rfl,by kernel_rfl⟩ (by kernel_rfl) (by kernel_rfl)) ⟨_,_,Tryz.func152,rfl,by kernel_rfl⟩ (q8 rfl (by kernel_rfl))
end Go.Proofs.YtfmgjpcmcjjoiaaGreatDoor
namespace Go.Proofs.YtfmgjpcmcjjoiaaGreatDoor
open Go Go.RowKit Go.ah
section
def Ib(d:Int):Int:=d
def Ic(g:z):z:=g
def Ie(u:Int):Int:=u
def Ig(h:A z):A z:=h
def akr:a6:=⟨[.g [a,au,a,.af bL]],fun d g u h=>⟨⟨none,.agg [b (Ib d),.str (Ic g),b (Ie u),aH 1 cK (Ig h)]⟩⟩⟩
theorem aeX:bg 125 akr:=bj Tryz.func125
 fun(d:Int) g _ (u:Int) h _ _=>bf ⟨.pure,[.cell 2 99],[(.c 0 0,a),(.c 0 1,au),(.c 0 2,a),(.c 0 3,.af bL)],⟨[.agg (us 4 [])],[]⟩⟩ (.z) True (b4 (aw xP aT)) Tryz.func125 (trivial)
def zR(d:A aG):Nat→Int→A aG→A aG
 |0,_,_=>default
 |k+1,e,m=>(cond (decide (e<(d.n:Int))) (zR d k (i64.wrap (e+1)) (A.app m (A.lit ([(⟨(d.at' (toNat e)).j,(d.at' (toNat e)).ai,(d.at' (toNat e)).K,(Ib (d.at' (toNat e)).an),(Ic (d.at' (toNat e)).p),(Ie (d.at' (toNat e)).v),(Ig (d.at' (toNat e)).ax)⟩:aG)]:List aG)))) m)
variable(d:A aG)(g:Int)
def QA:A aG:=zR d ((toNat ((d.n:Int)-0))+1) 0 (L:A aG)
def iL:A aG:=(QA d)
def akn:a6:=⟨[.v (.af bP)],fun d=>⟨⟨none,(aB.ae bP).ab (iL d)⟩⟩⟩
theorem avF:bg 120 akn:=bj Tryz.func120
 fun d j _=>bf ⟨.own bP,[.tmp 2],[(.h 0 0,.ae bP)],⟨[],[]⟩⟩ (.ad (.ad (.j ⟨12,[],[],[],.f⟩ (.ad (.cy ⟨460,[],[(.t 3,bP)],[(.t 8,a),(.h 0 0,.ae bP)],some 0,false,12,[],[(.h 0 0,.ae bP)],fun k (s:Int×A aG)=>zR d k s.1 s.2,.f,fun(s:Int×A aG)=>((0≤s.1∧s.1≤(d.n:Int))∧(s.2.n:Int)≤0+(s.1-0)),fun(s:Int×A aG)=>(toNat ((d.n:Int)-s.1)),some fun(r:A aG)=>(r.n:Int)≤0+max ((d.n:Int)-0) 0⟩ .z)) .z))) ((((0≤(0:Int)∧(0:Int)≤(d.n:Int))∧((0:Nat):Int)≤0+((0:Int)-0)))∧(∀(e:Int) (m:A aG),let c:=decide (e<(d.n:Int));let b:=i64.wrap (e+1);((0≤e∧e≤(d.n:Int))∧(m.n:Int)≤0+(e-0))→((c=true→(((0:Int)≤e∧e<(d.n:Int))∧(m.n+1≤549755813888)))∧((c=true→(((0≤b∧b≤(d.n:Int))∧(((m.n+1):Nat):Int)≤0+(b-0))∧(toNat ((d.n:Int)-b))<(toNat ((d.n:Int)-e))))∧(c=false→((m.n:Int)≤0+max ((d.n:Int)-0) 0)))))) (b4 (aw aeX aT)) Tryz.func120 (⟨(by omega),(fun e m i=>⟨(fun f=>⟨(by have:=aq f;omega),(by have:=aq f;omega)⟩),⟨(fun g=>(by have:=aq g;have:=N (e+1);omega)),(fun h=>(by omega))⟩⟩)⟩)
theorem afB(d:A aG)(e:d.n≤549755813888): ∀(m:Nat) (v:Int) (s:A aG),0≤v→v≤d.n→m=toNat ((d.n:Int)-v)→((zR d (m+1) v s).n:Int)=s.n+((d.n:Int)-v)
 |0,v,s,a,b,c=>by
  have: ¬v<(d.n:Int):=by omega
  simp only[zR,this,yC,aQ];omega
 |m+1,v,s,a,b,c=>by
  have f:v<(d.n:Int):=by omega
  have g:=N (v+1);rw[zR];simp only[f,vb,aN];rw[g,afB d e m (v+1) _ (by omega) (by omega) (by omega)];simp only[A.jd,A.ic,fr,hs];omega
theorem uN(d:A aG):d.n≤549755813888→(iL d).n=d.n:=fun h=>by
 have a:((QA d).n:Int)=0+((d.n:Int)-0):=afB d h _ 0 L (by omega) (by omega) rfl;show(QA d).n=_;omega
def o4(d:Int)(t:Int):Bool:=(d==t)
def akq:a6:=⟨[.g [a,a,a,a,au,a,.af bL],.r [a,a,a,au,au,au,a]],fun d _ _ _ _ _ _ t _ _ _ _ _ _=>⟨⟨none,.bool (o4 d t)⟩⟩⟩
theorem avI:bg 124 akq:=bj Tryz.func124
 fun(d:Int) (g:Int) (u:Int) (h:Int) r _ (o:Int) q _ _ (t:Int) (f:Int) (w:Int) ao bb bR (b0:Int)=>bf ⟨.pure,[.tmp 3],[(.t 0,y)],⟨[U],[]⟩⟩ (.z) True e7 Tryz.func124 (trivial)
def o3(d:A aG)(g:Int):Nat→Int→Bool×Int
 |0,_=>default
 |k+1,e=>(cond (decide (e<(d.n:Int))) (cond (o4 (d.at' (toNat e)).j g) (true,e) (o3 d g k (i64.wrap (e+1)))) (false,default))
def QD:Bool×Int:=o3 d g ((toNat ((d.n:Int)-0))+1) 0
def abe:Bool:=(cond (QD d g).1 false true)
def lM:Int:=(cond (abe d g) (-1) (QD d g).2)
def akp:a6:=⟨[.v (.af bP),.fn 124 [[a,a,a,au,au,au,a]]],fun d g _ _ _ _ _ _=>⟨⟨none,b (lM d g)⟩⟩⟩
theorem avH:bg 123 akp:=bj Tryz.func123
 fun d m _ (g:Int) (u:Int) (h:Int) r o q (t:Int)=>bf ⟨.pure,[.tmp 4],[(.t 0,a)],⟨[U],[]⟩⟩ (.ad (.j ⟨16,[],[],[],.f⟩ (.ad (.cy ⟨403,[],[],[(.t 8,a)],some 0,true,16,[],[],fun k (s:Int)=>o3 d g k s,.f,fun(s:Int)=>(0≤s∧s≤(d.n:Int)),fun(s:Int)=>(toNat ((d.n:Int)-s)),none⟩ .z)) .z)) (((0≤(0:Int)∧(0:Int)≤(d.n:Int)))∧(∀(e:Int),let c:=decide (e<(d.n:Int));let b:=i64.wrap (e+1);(0≤e∧e≤(d.n:Int))→((c=true→((0:Int)≤e∧e<(d.n:Int)))∧(c=true→((o4 (d.at' (toNat e)).j g)=false→((0≤b∧b≤(d.n:Int))∧(toNat ((d.n:Int)-b))<(toNat ((d.n:Int)-e)))))))) (b4 (aw avI aT)) Tryz.func123 (⟨(by omega),(fun e l=>⟨(fun f=>(by have:=aq f;omega)),(fun i=>(fun j=>(by have:=aq i;have:=N (e+1);omega)))⟩)⟩)
theorem afu(d:A aG)(g:Int)(v:d.n≤549755813888): ∀(m c i:Nat),i+m=d.n→m≤c→(o3 d g (c+1) (i:Int)=(false,default)∧ ∀t,i≤t→t<d.n→o4 (d.at' t).j g=false)∨ ∃t,i≤t∧t<d.n∧o3 d g (c+1) (i:Int)=(true,(t:Int))∧o4 (d.at' t).j g=true∧ ∀u,i≤u→u<t→o4 (d.at' u).j g=false
 |0,c,i,r,s=>by
  have: ¬((i:Int)<(d.n:Int)):=by omega
  refine .inl ⟨?_,fun t a b=>by omega⟩;simp only[o3,this,yC,aQ]
 |m+1,c,i,r,s=>by
  obtain⟨c,rfl⟩: ∃k,c=k+1:=⟨c-1,by omega⟩;have w:(i:Int)<(d.n:Int):=by omega
  have x:i64.wrap ((i:Int)+1)=((i+1:Nat):Int):=by rw[N _];rfl
  have e:o3 d g (c+1+1) (i:Int)=(cond (o4 (d.at' i).j g) (true,(i:Int)) (o3 d g (c+1) ((i+1:Nat):Int))):=by
   rw[o3];simp only[w,vb,aN,fT,x]
  rw[e]
  cases j:o4 (d.at' i).j g with
  |true=>exact .inr ⟨i,bx _,by omega,rfl,j,fun u a b=>by omega⟩
  |false=>
   simp only[aQ];rcases afu d g v m c (i+1) (by omega) (by omega)with⟨l,f⟩|⟨t,l,f,n,o,p⟩
   ·refine .inl ⟨l,fun t q h=> ?_⟩
    by_cases e:t=i
    ·rw[e];exact j
    ·exact f t (by omega) h
   ·refine .inr ⟨t,by omega,f,n,o,fun u q h=> ?_⟩
    by_cases e:u=i
    ·rw[e];exact j
    ·exact p u (by omega) h
theorem aAT(d:A aG)(g:Int)(h:d.n≤549755813888):(lM d g= -1∧ ∀t,t<d.n→o4 (d.at' t).j g=false)∨ ∃t:Nat,t<d.n∧lM d g=(t:Int)∧o4 (d.at' t).j g=true∧ ∀u,u<t→o4 (d.at' u).j g=false:=by
 unfold lM abe QD;rcases afu d g h d.n (toNat ((d.n:Int)-0)) 0 (by omega) (by omega)with⟨b,a⟩|⟨t,b,a,c,e,f⟩
 ·rw[show o3 d g (toNat ((d.n:Int)-0)+1) 0=_ from b];exact .inl ⟨rfl,fun t i=>a t (cA _) i⟩
 ·rw[show o3 d g (toNat ((d.n:Int)-0)+1) 0=_ from c];exact .inr ⟨t,a,rfl,e,fun u j=>f u (cA _) j⟩
theorem vO(d:A aG)(g:Int)(a:d.n≤549755813888): -1≤lM d g∧lM d g<(d.n:Int):=by
 rcases aAT d g a with⟨h,_⟩|⟨t,b,h,_⟩<;>rw[h]<;>omega
end
section
variable(u:Int)(h:A aG)
def Df(ar:Int)(cE:Int):Int:=(cond (decide ((h.at' (toNat ar)).K<(h.at' (toNat cE)).K)) ar cE)
def QC(h:A aG):Nat→Int→Int→Int
 |0,_,_=>default
 |k+1,ar,cE=>(cond (decide (ar<(h.n:Int))) (QC h k (i64.wrap (ar+1)) (Df h ar cE)) cE)
def Ia:Int:=QC h ((toNat ((h.n:Int)-0))+1) 0 0
def H_:A aG:=(cond ((h.n:Int)==4) (A.del h (toNat (Ia h)) (toNat (i64.wrap ((Ia h)+1)))) h)
def aa_:Int:=(cond (decide (u>1048576)) 6 0)
def aba:z:=⟨#[]⟩
def abb:Int:=(cond (decide (u>1048576)) 0 (i64.wrap ((i64.wrap (u+1))-1)))
def abc:A z:=(L:A z)
def abd:Int:=(cond (decide (u>1048576)) u (i64.wrap (u+1)))
def QB(d:Int)(u:Int)(h:A aG):A aG:=(cond (decide (u>1048576)) h (A.app (H_ h) (A.lit ([(⟨u,0,d,0,⟨#[]⟩,0,(L:A z)⟩:aG)]:List aG))))
theorem amV(h:A aG)(a b:Int):Df h a b=a∨Df h a b=b:=by
 unfold Df
 cases decide ((h.at' (toNat a)).K<(h.at' (toNat b)).K)
 ·exact .inr rfl
 ·exact .inl rfl
theorem ayF(h:A aG):(H_ h).n≤h.n:=by
 unfold H_
 cases ((h.n:Int)==4)
 ·exact bx _
 ·exact Nat.sub_le _ _
def ako:b5:=⟨[.p 0],[(.h 0 0,a),(.h 0 1,.af a_),(.h 0 2,a),(.h 1 0,.ae bP)],[[U,U,U,.own 1 0],[U]],fun(d:Int) g (u:Int) h=>⟨⟨some (h.n≤4),[.agg [b (aa_ u),.str aba,b (abb u),aH 1 cK abc]],[[b d,aH 8 fZ g,b (abd u),.own 2 ((QB d u h)).n],[dn],[(aB.ae bP).ab (QB d u h)]]⟩⟩⟩
theorem avG:dB 122 ako:=dI Tryz.func122
 fun(d:Int) g v (u:Int) h w t=>dA (ms:=[.f,.l,.f,.l,.l,.l,.f,.f]) ⟨.lh true [.b 2] [.own (.h 0 3) bP 2],[.cell 2 99],[(.c 0 0,a),(.c 0 1,au),(.c 0 2,a),(.c 0 3,.af bL),(.h 0 0,a),(.h 0 1,.af a_),(.h 0 2,a),(.h 2 0,.ae bP)],⟨[.agg [U,U,U,U]],[[U,U,U,.own 2 0],[dn],[U]]⟩⟩ (.ad (.ad (.xD ⟨5,[],[(.h 5 0,.ae bP)],[],.f⟩ [.own (.h 0 3) bP 5] (.ad (.s (.ad (.j ⟨13,[],[],[],.f⟩ (.ad (.cy ⟨14680077,[],[],[(.t 23,a),(.t 3,a)],some 0,false,13,[],[(.t 3,a)],fun k (s:Int×Int)=>QC h k s.1 s.2,.f,fun(s:Int×Int)=>(0≤s.1∧s.1≤(h.n:Int)∧0≤s.2∧(s.2<s.1∨s.2=0)),fun(s:Int×Int)=>(toNat ((h.n:Int)-s.1)),some fun(r:Int)=>0≤r∧(r<(h.n:Int)∨r=0)⟩ (.ad (.ad (.j ⟨549753716797,[],[(.t 3,a)],[],.f⟩ .z .z))))) .z)) .z)) .z))) (let b:=Ia h;let l:=i64.wrap (b+1);(decide (u>1048576))=false→((((h.n:Int)==4)=true→((((0≤(0:Int)∧(0:Int)≤(h.n:Int)∧0≤(0:Int)∧((0:Int)<(0:Int)∨(0:Int)=0)))∧(∀(ar:Int) (cE:Int),let i:=Df h ar cE;let f:=decide (ar<(h.n:Int));let c:=i64.wrap (ar+1);(0≤ar∧ar≤(h.n:Int)∧0≤cE∧(cE<ar∨cE=0))→((f=true→((((0:Int)≤ar∧ar<(h.n:Int))∧((toNat ar)<h.n))∧(((0:Int)≤cE∧cE<(h.n:Int))∧((toNat cE)<h.n))))∧((f=true→((0≤c∧c≤(h.n:Int)∧0≤i∧(i<c∨i=0))∧(toNat ((h.n:Int)-c))<(toNat ((h.n:Int)-ar))))∧(f=false→(0≤cE∧(cE<(h.n:Int)∨cE=0)))))))∧((0≤b∧(b<(h.n:Int)∨b=0))→((0:Int)≤b∧(b:Int)<l∧(l:Int)≤(h.n:Int)))))∧((H_ h).n+1≤549755813888))) (bK 2 aT (av avL bJ)) Tryz.func122 ((fun n=>⟨(fun e=>⟨⟨(by omega),(fun ar cE q=>⟨(fun j=>⟨⟨(by have:=aq j;omega),(by have:=aq j;omega)⟩,⟨(by have:=eq_of_beq e;omega),(by have:=eq_of_beq e;omega)⟩⟩),⟨(fun m=>(by have:=aq m;have:=amV h ar cE;have:=N (ar+1);omega)),(fun o=>(by omega))⟩⟩)⟩,(fun p=>(by have:=eq_of_beq e;have:=N ((Ia h)+1);omega))⟩),(by have:=ayF h;omega)⟩))
end
section
def r4(d:Int)(g:A Int)(u:Bool):Bool:=(cond u true (decide ((g.n:Int)<d)))
def jD(d:Int)(g:A Int)(u:Bool):A Int:=(cond (r4 d g u) (L:A Int) (A.part g 0 d))
def zS(d:Int)(g:A Int)(u:Bool):A Int:=(cond (r4 d g u) g (A.part g d (g.n:Int)))
def Ih(d:Int)(g:A Int)(u:Bool):Bool:=(cond (r4 d g u) true u)
def akv:b5:=⟨[.p 0,.v a],[(.h 0 0,.af a8),(.h 0 1,y)],[[U,U]],fun(d:Int) g u=>⟨⟨some (0≤d),[aH 1 cQ (jD d g u)],[[aH 1 cQ (zS d g u),.bool (Ih d g u)]]⟩⟩⟩
theorem S1:dB 154 akv:=dI Tryz.func154
 fun(d:Int) g c u b=>dA ⟨.heap,[.tmp 4],[(.t 0,.af a8),(.h 0 0,.af a8),(.h 0 1,y)],⟨[U],[[U,U]]⟩⟩ (.ad (.s (.j ⟨262163,[],[(.t 18,y)],[],.f⟩ .z .z) .z)) ((r4 d g u)=false→((((0:Int)≤0)∧((0:Int)≤d)∧((d:Int)≤d)∧((d:Int)≤(g.n:Int)))∧(((0:Int)≤d)∧((d:Int)≤(g.n:Int))∧(((g.n:Int):Int)≤(g.n:Int))∧(((g.n:Int):Int)≤(g.n:Int))))) (bK 1 aT bJ) Tryz.func154 ((fun a=>⟨(by have:=a;simp [r4]at this;omega),(by have:=a;simp [r4]at this;omega)⟩))
theorem dM{d:Int}{g:A Int}{u:Bool}(h:aO g):aO (zS d g u):=by
 unfold zS
 cases r4 d g u
 ·exact fun i=>h _
 ·exact h
theorem aC9{d:Int}{g:A Int}{u:Bool}(h:aO g):aO (jD d g u):=by
 unfold jD
 cases r4 d g u
 ·exact fun i=>h _
 ·exact fun i=>⟨by show(0:Int)≤default;decide,by show(default:Int)≤255;decide⟩
theorem axJ(d:Int)(g:A Int)(u:Bool):(jD d g u).n≤toNat d:=by
 unfold jD
 cases r4 d g u
 ·simp only[aQ,A.ll];omega
 ·simp only[aN,l3];omega
def Qh(d:A Int)(g:Bool):Nat→Int→Int→Int
 |0,_,_=>default
 |k+1,e,m=>(cond (decide (m<((jD 8 d g).n:Int))) (Qh d g k (bits .or .u64 (u64.wrap (e*2^(toNat 8))) (u64.wrap ((jD 8 d g).at' (toNat m)))) (i64.wrap (m+1))) e)
variable(d:A Int)(g:Bool)
def ap5:Int:=Qh d g ((toNat (((jD 8 d g).n:Int)-0))+1) 0 0
def fa:Int:=(i64.wrap (u64.wrap ((ap5 d g)-4611686018427387904)))
def bz:A Int:=(zS 8 d g)
def bC:Bool:=(Ih 8 d g)
def ajR:b5:=⟨[.p 0],[(.h 0 0,.af a8),(.h 0 1,y)],[[U,U]],fun d g=>⟨⟨none,[b (fa d g)],[[aH 1 cQ (bz d g),.bool (bC d g)]]⟩⟩⟩
theorem uK:dB 135 ajR:=dI Tryz.func135
 fun d l g=>dA ⟨.heap,[.tmp 2],[(.t 0,a),(.h 0 0,.af a8),(.h 0 1,y)],⟨[U],[[U,U]]⟩⟩ (.ad (.ad (.j ⟨12,[],[],[],.f⟩ (.ad (.cy ⟨908,[],[],[(.t 3,.int .u64),(.t 9,a)],some 0,false,12,[],[(.t 3,.int .u64)],fun k (s:Int×Int)=>Qh d g k s.1 s.2,.f,fun(s:Int×Int)=>(0≤s.2∧s.2≤((jD 8 d g).n:Int)),fun(s:Int×Int)=>(toNat (((jD 8 d g).n:Int)-s.2)),none⟩ .z)) .z))) (let b:=jD 8 d g;(0≤(8:Int))∧(((0≤(0:Int)∧(0:Int)≤(b.n:Int)))∧(∀(e:Int) (m:Int),let f:=decide (m<(b.n:Int));let c:=i64.wrap (m+1);(0≤m∧m≤(b.n:Int))→((f=true→(((0:Int)≤m∧m<(b.n:Int))∧((0:Int)≤8∧(8:Int)≤64)))∧(f=true→((0≤c∧c≤(b.n:Int))∧(toNat ((b.n:Int)-c))<(toNat ((b.n:Int)-m)))))))) (bK 1 aT (av S1 bJ)) Tryz.func135 (⟨(by omega),⟨(by omega),(fun e m j=>⟨(fun h=>⟨(by have:=aq h;omega),(by omega)⟩),(fun i=>(by have:=aq i;have:=axJ 8 d g;have:=N (m+1);omega))⟩)⟩⟩)
theorem eW{d:A Int}{g:Bool}(h:aO d):aO (bz d g):=dM h
def dV:Int:=(cond (decide (0<((jD 1 d g).n:Int))) (i64.wrap ((jD 1 d g).at' (toNat 0))) 0)
def dc:A Int:=(zS 1 d g)
def dv:Bool:=(Ih 1 d g)
def aj1:b5:=⟨[.p 0],[(.h 0 0,.af a8),(.h 0 1,y)],[[U,U]],fun d g=>⟨⟨none,[b (dV d g)],[[aH 1 cQ (dc d g),.bool (dv d g)]]⟩⟩⟩
theorem qI:dB 141 aj1:=dI Tryz.func141
 fun d c g=>dA (ms:=[.f,.l,.l]) ⟨.heap,[.tmp 2],[(.t 0,a),(.h 0 0,.af a8),(.h 0 1,y)],⟨[U],[[U,U]]⟩⟩ (.ad (.s (.ad (.fo .z)) .z)) ((0≤(1:Int))∧((decide (0<((jD 1 d g).n:Int)))=true→((0:Int)≤0∧0<(((jD 1 d g).n:Nat):Int)))) (bK 1 aT (av S1 bJ)) Tryz.func141 (⟨(by omega),(fun b=>(by have:=aq b;omega))⟩)
theorem eY{d:A Int}{g:Bool}(h:aO d):aO (dc d g):=dM h
theorem Bk(d:A Int)(g:Bool)(h:aO d):0≤dV d g∧dV d g≤255:=by
 unfold dV;have a:0≤(jD 1 d g).at' (toNat 0)∧(jD 1 d g).at' (toNat 0)≤255:=aC9 h _
 cases decide (0<((jD 1 d g).n:Int))
 ·simp
 ·simp only[aN];rw[N _];exact a
def o2:z:=(A.toStr (jD (dV d g) (dc d g) (dv d g)))
def ec:A Int:=(zS (dV d g) (dc d g) (dv d g))
def ep:Bool:=(Ih (dV d g) (dc d g) (dv d g))
def ajY:b5:=⟨[.p 0],[(.h 0 0,.af a8),(.h 0 1,y)],[[U,U]],fun d g=>⟨⟨some (aO d),[.str (o2 d g)],[[aH 1 cQ (ec d g),.bool (ep d g)]]⟩⟩⟩
theorem xO:dB 138 ajY:=dI Tryz.func138
 fun d b g a=>dA ⟨.heap,[.tmp 2],[(.t 0,au),(.h 0 0,.af a8),(.h 0 1,y)],⟨[U],[[U,U]]⟩⟩ (.z) (0≤(dV d g)) (bK 1 aT (av qI (av S1 bJ))) Tryz.func138 ((by have:=Bk d g (by repeat first|assumption|apply dM|apply eW|apply eY|apply eX|apply gp|apply c);omega))
theorem eX{d:A Int}{g:Bool}(h:aO d):aO (ec d g):=dM (eY h)
def abN:Int:=(dV d g)
def abO:z:=(o2 (dc d g) (dv d g))
def abP:z:=(o2 (ec (dc d g) (dv d g)) (ep (dc d g) (dv d g)))
def abQ:z:=let b:=ep (dc d g) (dv d g);let a:=ec (dc d g) (dv d g);(o2 (ec a b) (ep a b))
def abR:Int:=let b:=ep (dc d g) (dv d g);let a:=ec (dc d g) (dv d g);(fa (ec (ec a b) (ep a b)) (ep (ec a b) (ep a b)))
def abS:A Int:=let b:=ep (dc d g) (dv d g);let a:=ec (dc d g) (dv d g);(bz (ec (ec a b) (ep a b)) (ep (ec a b) (ep a b)))
def abT:Bool:=let b:=ep (dc d g) (dv d g);let a:=ec (dc d g) (dv d g);(bC (ec (ec a b) (ep a b)) (ep (ec a b) (ep a b)))
def akL:b5:=⟨[.p 0],[(.h 0 0,.af a8),(.h 0 1,y)],[[U,U]],fun d g=>⟨⟨some (aO d),[.agg [b (abN d g),.str (abO d g),.str (abP d g),.str (abQ d g),b (abR d g)]],[[aH 1 cQ (abS d g),.bool (abT d g)]]⟩⟩⟩
theorem avX:dB 194 akL:=dI Tryz.func194
 fun d _ g e=>dA ⟨.heap,[.cell 2 34],[(.c 0 0,a),(.c 0 1,au),(.c 0 2,au),(.c 0 3,au),(.c 0 4,a),(.h 0 0,.af a8),(.h 0 1,y)],⟨[.agg (us 5 [])],[[U,U]]⟩⟩ (.z) (let b:=dc d g;let c:=ec b (dv d g);(aO b)∧((aO c)∧(aO (ec c (ep b (dv d g)))))) (bK 1 aT (av uK (av xO (av qI bJ)))) Tryz.func194 (⟨(by repeat first|assumption|apply dM),⟨(by repeat first|assumption|apply dM),(by repeat first|assumption|apply dM)⟩⟩)
def aqf:A Int:=let a:=bz d g;(cond ((fa d g)!=0) (abS (bz a (bC d g)) (bC a (bC d g))) a)
def aqg:Bool:=let a:=bC d g;(cond ((fa d g)!=0) (abT (bz (bz d g) a) (bC (bz d g) a)) a)
def aqh:Int:=(cond ((fa d g)!=0) (fa (bz d g) (bC d g)) 0)
def aqi:Int:=(cond ((fa d g)!=0) (abN (bz (bz d g) (bC d g)) (bC (bz d g) (bC d g))) 0)
def aqj:z:=(cond ((fa d g)!=0) (abO (bz (bz d g) (bC d g)) (bC (bz d g) (bC d g))) ⟨#[]⟩)
def aqk:z:=(cond ((fa d g)!=0) (abP (bz (bz d g) (bC d g)) (bC (bz d g) (bC d g))) ⟨#[]⟩)
def aql:z:=(cond ((fa d g)!=0) (abQ (bz (bz d g) (bC d g)) (bC (bz d g) (bC d g))) ⟨#[]⟩)
def aqm:Int:=(cond ((fa d g)!=0) (abR (bz (bz d g) (bC d g)) (bC (bz d g) (bC d g))) 0)
def abf:Int:=(fa d g)
def abg:Int:=(aqh d g)
def abh:Int:=(aqi d g)
def abi:z:=(aqj d g)
def abj:z:=(aqk d g)
def abk:z:=(aql d g)
def abl:Int:=(aqm d g)
def abm:A Int:=(aqf d g)
def abn:Bool:=(aqg d g)
def akt:b5:=⟨[.p 0],[(.h 0 0,.af a8),(.h 0 1,y)],[[U,U]],fun d g=>⟨⟨some (aO d),[.agg [b (abf d g),b (abg d g),b (abh d g),.str (abi d g),.str (abj d g),.str (abk d g),b (abl d g)]],[[aH 1 cQ (abm d g),.bool (abn d g)]]⟩⟩⟩
theorem avK:dB 168 akt:=dI Tryz.func168
 fun d _ g c=>dA ⟨.heap,[.cell 2 36],[(.c 0 0,a),(.c 0 1,a),(.c 0 2,a),(.c 0 3,au),(.c 0 4,au),(.c 0 5,au),(.c 0 6,a),(.h 0 0,.af a8),(.h 0 1,y)],⟨[.agg (us 7 [])],[[U,U]]⟩⟩ (.ad (.ad (.j ⟨12,[],[(.h 0 0,.af a8),(.h 0 1,y),(.h 2 1,a),(.h 2 2,a),(.h 2 3,au),(.h 2 4,au),(.h 2 5,au),(.h 2 6,a)],[],.f⟩ .z .z))) (((fa d g)!=0)=true→(aO (bz (bz d g) (bC d g)))) (bK 1 aT (av uK (av avX bJ))) Tryz.func168 ((fun b=>(by repeat first|assumption|apply dM)))
def apU:A Int:=let b:=bC (bz d g) (bC d g);let a:=bz (bz d g) (bC d g);(cond ((dV a b)==0) (abm (dc a b) (dv a b)) (dc a b))
def apW:Bool:=let b:=bC (bz d g) (bC d g);let a:=bz (bz d g) (bC d g);(cond ((dV a b)==0) (abn (dc a b) (dv a b)) (dv a b))
def apX:Bool:=(cond ((dV (bz (bz d g) (bC d g)) (bC (bz d g) (bC d g)))==0) false true)
def apY:Int:=let b:=bC (bz d g) (bC d g);let a:=bz (bz d g) (bC d g);(cond ((dV a b)==0) (abf (dc a b) (dv a b)) 0)
def apZ:Int:=let b:=bC (bz d g) (bC d g);let a:=bz (bz d g) (bC d g);(cond ((dV a b)==0) (abg (dc a b) (dv a b)) 0)
def ap0:Int:=let b:=bC (bz d g) (bC d g);let a:=bz (bz d g) (bC d g);(cond ((dV a b)==0) (abh (dc a b) (dv a b)) 0)
def ap1:z:=let b:=bC (bz d g) (bC d g);let a:=bz (bz d g) (bC d g);(cond ((dV a b)==0) (abi (dc a b) (dv a b)) ⟨#[]⟩)
def ap2:z:=let b:=bC (bz d g) (bC d g);let a:=bz (bz d g) (bC d g);(cond ((dV a b)==0) (abj (dc a b) (dv a b)) ⟨#[]⟩)
def ap3:z:=let b:=bC (bz d g) (bC d g);let a:=bz (bz d g) (bC d g);(cond ((dV a b)==0) (abk (dc a b) (dv a b)) ⟨#[]⟩)
def apV:Int:=let b:=bC (bz d g) (bC d g);let a:=bz (bz d g) (bC d g);(cond ((dV a b)==0) (abl (dc a b) (dv a b)) 0)
def o1:Bool:=let a:=dV (bz (bz d g) (bC d g)) (bC (bz d g) (bC d g));(cond (a==0) true (cond (a==1) true false))
def m5:Int:=(fa d g)
def m6:Int:=(fa (bz d g) (bC d g))
def m7:Bool:=(cond (o1 d g) (apX d g) false)
def m8:Int:=(cond (o1 d g) (apY d g) 0)
def m9:Int:=(cond (o1 d g) (apZ d g) 0)
def m_:Int:=(cond (o1 d g) (ap0 d g) 0)
def na:z:=(cond (o1 d g) (ap1 d g) ⟨#[]⟩)
def nb:z:=(cond (o1 d g) (ap2 d g) ⟨#[]⟩)
def nc:z:=(cond (o1 d g) (ap3 d g) ⟨#[]⟩)
def nd:Int:=(cond (o1 d g) (apV d g) 0)
def n2:Bool:=(cond (o1 d g) true false)
def n3:A Int:=(cond (o1 d g) (apU d g) (dc (bz (bz d g) (bC d g)) (bC (bz d g) (bC d g))))
def n5:Bool:=(cond (o1 d g) (apW d g) (dv (bz (bz d g) (bC d g)) (bC (bz d g) (bC d g))))
def ajI:b5:=⟨[.p 0],[(.h 0 0,.af a8),(.h 0 1,y)],[[U,U]],fun d g=>⟨⟨some (aO d),[.agg [b (m5 d g),b (m6 d g),.bool (m7 d g),b (m8 d g),b (m9 d g),b (m_ d g),.str (na d g),.str (nb d g),.str (nc d g),b (nd d g)],.bool (n2 d g)],[[aH 1 cQ (n3 d g),.bool (n5 d g)]]⟩⟩⟩
theorem ave:dB 153 ajI:=dI Tryz.func153
 fun d _ g f=>dA (ms:=[.l,.l,.f,.f,.f,.f,.f,.f,.f,.f,.f,.f,.f]) ⟨.heap,[.cell 2 53,.tmp 3],[(.c 0 0,a),(.c 0 1,a),(.c 0 2,y),(.c 0 3,a),(.c 0 4,a),(.c 0 5,a),(.c 0 6,au),(.c 0 7,au),(.c 0 8,au),(.c 0 9,a),(.t 1,y),(.h 0 0,.af a8),(.h 0 1,y)],⟨[.agg (us 10 []),U],[[U,U]]⟩⟩ (.ad (.ad (.j ⟨28,[],[(.h 0 0,.af a8),(.h 0 1,y),(.h 2 2,y),(.h 2 3,a),(.h 2 4,a),(.h 2 5,a),(.h 2 6,au),(.h 2 7,au),(.h 2 8,au),(.h 2 9,a)],[],.f⟩ .z .z))) (let c:=bC (bz d g) (bC d g);let b:=bz (bz d g) (bC d g);((dV b c)==0)=true→(aO (dc b c))) (bK 1 aT (av uK (av qI (av avK bJ)))) Tryz.func153 ((fun e=>(by repeat first|assumption|apply dM)))
def ap4(d:Bool)(g:A Int):Bool:=(cond (!d) true (decide ((g.n:Int)>0)))
def ky(d:Bool)(g:A Int)(u:Bool):Int:=(cond u 9 (cond (ap4 d g) 8 0))
def ajJ:b5:=⟨[.p 0,.v y],[(.h 0 0,.af a8),(.h 0 1,y)],[[U,U]],fun d g u=>⟨⟨none,[b (ky d g u)],[[aH 1 cQ g,.bool u]]⟩⟩⟩
theorem aeO:dB 143 ajJ:=dI Tryz.func143
 fun d g _ u=>dA (ms:=[.f,.l,.l]) ⟨.heap,[.tmp 4],[(.t 0,a),(.h 0 0,.af a8),(.h 0 1,y)],⟨[U],[[U,U]]⟩⟩ (.ad (.s (.ad (.ad (.j ⟨1040,[],[(.t 10,y)],[],.f⟩ .z .z))) .z)) True (bK 1 aT bJ) Tryz.func143 (trivial)
def ac4:Int:=(cond (decide ((d.n:Int)>20000)) 0 (cond ((ky (n2 d false) (n3 d false) (n5 d false))!=0) 0 (cond ((hC (m5 d false) (m6 d false) (m7 d false) (m8 d false) (m9 d false) (m_ d false) (na d false) (nb d false) (nc d false) (nd d false))!=0) 0 (m5 d false))))
def ac5:Int:=(cond (decide ((d.n:Int)>20000)) 0 (cond ((ky (n2 d false) (n3 d false) (n5 d false))!=0) 0 (cond ((hC (m5 d false) (m6 d false) (m7 d false) (m8 d false) (m9 d false) (m_ d false) (na d false) (nb d false) (nc d false) (nd d false))!=0) 0 (m6 d false))))
def ac6:Bool:=(cond (decide ((d.n:Int)>20000)) false (cond ((ky (n2 d false) (n3 d false) (n5 d false))!=0) false (cond ((hC (m5 d false) (m6 d false) (m7 d false) (m8 d false) (m9 d false) (m_ d false) (na d false) (nb d false) (nc d false) (nd d false))!=0) false (m7 d false))))
def ac7:Int:=(cond (decide ((d.n:Int)>20000)) 0 (cond ((ky (n2 d false) (n3 d false) (n5 d false))!=0) 0 (cond ((hC (m5 d false) (m6 d false) (m7 d false) (m8 d false) (m9 d false) (m_ d false) (na d false) (nb d false) (nc d false) (nd d false))!=0) 0 (m8 d false))))
def ac8:Int:=(cond (decide ((d.n:Int)>20000)) 0 (cond ((ky (n2 d false) (n3 d false) (n5 d false))!=0) 0 (cond ((hC (m5 d false) (m6 d false) (m7 d false) (m8 d false) (m9 d false) (m_ d false) (na d false) (nb d false) (nc d false) (nd d false))!=0) 0 (m9 d false))))
def ac9:Int:=(cond (decide ((d.n:Int)>20000)) 0 (cond ((ky (n2 d false) (n3 d false) (n5 d false))!=0) 0 (cond ((hC (m5 d false) (m6 d false) (m7 d false) (m8 d false) (m9 d false) (m_ d false) (na d false) (nb d false) (nc d false) (nd d false))!=0) 0 (m_ d false))))
def ac_:z:=(cond (decide ((d.n:Int)>20000)) ⟨#[]⟩ (cond ((ky (n2 d false) (n3 d false) (n5 d false))!=0) ⟨#[]⟩ (cond ((hC (m5 d false) (m6 d false) (m7 d false) (m8 d false) (m9 d false) (m_ d false) (na d false) (nb d false) (nc d false) (nd d false))!=0) ⟨#[]⟩ (na d false))))
def ada:z:=(cond (decide ((d.n:Int)>20000)) ⟨#[]⟩ (cond ((ky (n2 d false) (n3 d false) (n5 d false))!=0) ⟨#[]⟩ (cond ((hC (m5 d false) (m6 d false) (m7 d false) (m8 d false) (m9 d false) (m_ d false) (na d false) (nb d false) (nc d false) (nd d false))!=0) ⟨#[]⟩ (nb d false))))
def adb:z:=(cond (decide ((d.n:Int)>20000)) ⟨#[]⟩ (cond ((ky (n2 d false) (n3 d false) (n5 d false))!=0) ⟨#[]⟩ (cond ((hC (m5 d false) (m6 d false) (m7 d false) (m8 d false) (m9 d false) (m_ d false) (na d false) (nb d false) (nc d false) (nd d false))!=0) ⟨#[]⟩ (nc d false))))
def ade:Int:=(cond (decide ((d.n:Int)>20000)) 0 (cond ((ky (n2 d false) (n3 d false) (n5 d false))!=0) 0 (cond ((hC (m5 d false) (m6 d false) (m7 d false) (m8 d false) (m9 d false) (m_ d false) (na d false) (nb d false) (nc d false) (nd d false))!=0) 0 (nd d false))))
def adf:Int:=let b:=ky (n2 d false) (n3 d false) (n5 d false);let a:=hC (m5 d false) (m6 d false) (m7 d false) (m8 d false) (m9 d false) (m_ d false) (na d false) (nb d false) (nc d false) (nd d false);(cond (decide ((d.n:Int)>20000)) 1 (cond (b !=0) b (cond (a !=0) a 0)))
def alV:a6:=⟨[.v (.af a8)],fun d=>⟨⟨some (aO d),.c9 [.agg [b (ac4 d),b (ac5 d),.bool (ac6 d),b (ac7 d),b (ac8 d),b (ac9 d),.str (ac_ d),.str (ada d),.str (adb d),b (ade d)],b (adf d)]⟩⟩⟩
theorem awG:bg 128 alV:=bj Tryz.func128
 fun d _ _ c=>bf ⟨.pure,[.cell 2 53,.tmp 3],[(.c 0 0,a),(.c 0 1,a),(.c 0 2,y),(.c 0 3,a),(.c 0 4,a),(.c 0 5,a),(.c 0 6,au),(.c 0 7,au),(.c 0 8,au),(.c 0 9,a),(.t 1,a)],⟨[.agg (us 10 []),U],[]⟩⟩ (.z) ((decide ((d.n:Int)>20000))=false→(aO d)) (bK 0 (aw KY aT) (av ave (av aeO bJ))) Tryz.func128 ((fun b=>(by assumption)))
end
section
variable(d:A Int)(g:Bool)(u:A z)
def Im:A Int:=(ec d g)
def abq:Bool:=(ep d g)
def Dj:A z:=(A.app u (A.lit ([(o2 d g)]:List z)))
def aky:b5:=⟨[.p 0,.p 1],[(.h 2 0,.af a8),(.h 2 1,y),(.h 3 0,.ae bL)],[[.own 3 0],[.ptr 2 0],[U,U],[U]],fun d g u=>⟨⟨some (aO d∧u.n≤1000),[],[[.own 3 ((Dj d g u)).n],[.ptr 2 0],[aH 1 cQ (Im d g),.bool (abq d g)],[(aB.ae bL).ab (Dj d g u)]]⟩⟩⟩
theorem avO:dB 157 aky:=dI Tryz.func157
 fun d e g u f a=>dA ⟨.heap,[],[(.h 2 0,.af a8),(.h 2 1,y),(.h 3 0,.ae bL)],⟨[],[[.own 3 0],[.ptr 2 0],[U,U],[U]]⟩⟩ (.z) ((aO d)∧(u.n+1≤549755813888)) (bK 4 aT (av xO bJ)) Tryz.func157 (have⟨b,c⟩:=a;⟨(by assumption),(by omega)⟩)
theorem fQ{d:A Int}{g:Bool}(h:aO d):aO (Im d g):=eX h
theorem axM(d:A Int)(g:Bool)(u:A z):(Dj d g u).n=u.n+1:=rfl
def C9(e:Int)(a1:Bool):Bool:=(cond (decide (e>0)) (!a1) false)
def C8:Nat→Int→A Int→Bool→A z→A Int×Bool×A z
 |0,_,_,_,_=>default
 |k+1,e,m,a1,bA=>(cond (C9 e a1) (C8 k (i64.wrap (e-1)) (Im m a1) (abq m a1) (Dj m a1 bA)) (m,a1,bA))
def Qp:A Int×Bool×A z:=C8 ((toNat (dV d g))+1) (dV d g) (dc d g) (dv d g) u
def Qo:A Int:=(Qp d g u).1
def aat:Bool:=(Qp d g u).2.1
def aau:A z:=(Qp d g u).2.2
def ajW:b5:=⟨[.p 2,.jA 157 [0,1]],[(.h 2 0,.af a8),(.h 2 1,y),(.h 3 0,.ae bL)],[[.own 3 0],[.ptr 2 0],[U,U],[U]],fun d g u=>let a:=aau d g u;⟨⟨some (aO d∧u.n≤10),[],[[.own 3 (a).n],[.ptr 2 0],[aH 1 cQ (Qo d g u),.bool (aat d g u)],[(aB.ae bL).ab a]]⟩⟩⟩
theorem avk:dB 136 ajW:=dI Tryz.func136
 fun d p g u q i=>dA ⟨.heap,[],[(.h 2 0,.af a8),(.h 2 1,y),(.h 3 0,.ae bL)],⟨[],[[.own 3 0],[.ptr 2 0],[U,U],[U]]⟩⟩ (.ad (.cy ⟨19,[],[],[(.t 4,a),(.h 2 0,.af a8),(.h 2 1,y),(.h 3 0,.ae bL)],some 0,false,0,[],[(.h 2 0,.af a8),(.h 2 1,y),(.h 3 0,.ae bL)],fun k (s:Int×A Int×Bool×A z)=>C8 k s.1 s.2.1 s.2.2.1 s.2.2.2,.f,fun(s:Int×A Int×Bool×A z)=>(aO s.2.1∧0≤s.1∧s.1≤255∧(s.2.2.2.n:Int)≤(u.n:Int)+255-s.1),fun(s:Int×A Int×Bool×A z)=>(toNat s.1),none⟩ (.s (.j ⟨33683,[],[(.t 9,y),(.t 15,y)],[],.f⟩ .z .z) .z))) (((aO (dc d g)∧0≤(dV d g)∧(dV d g)≤255∧(u.n:Int)≤(u.n:Int)+255- (dV d g)))∧(∀(e:Int) (m:A Int) (a1:Bool) (bA:A z),let f:=C9 e a1;let b:=i64.wrap (e-1);(aO m∧0≤e∧e≤255∧(bA.n:Int)≤(u.n:Int)+255-e)→((f=true→(aO m∧bA.n≤1000))∧(f=true→((aO (Im m a1)∧0≤b∧b≤255∧(((Dj m a1 bA).n:Nat):Int)≤(u.n:Int)+255-b)∧(toNat b)<(toNat e)))))) (bK 4 aT (av qI (av avO bJ))) Tryz.func136 (have⟨l,n⟩:=i;⟨⟨(by repeat first|assumption|apply dM),(by have:=Bk d g (by repeat first|assumption|apply dM|apply eW|apply eY|apply eX|apply gp|apply r|apply fQ|apply fI|apply fJ);omega)⟩,(fun e m a1 bA h=>have o:=h.1;⟨(fun j=>⟨(by assumption),(by omega)⟩),(fun c=>⟨⟨(by repeat first|assumption|apply dM),(by have:=c;(try simp [C9]at this);have:=axM m a1 bA;have:=N (e-1);omega)⟩,(by have:=c;(try simp [C9]at this);have:=N (e-1);omega)⟩)⟩)⟩)
theorem aia: ∀(m:Nat) (n:Int) (s:A Int) (b:Bool) (l:A z),aO s→aO (C8 m n s b l).1
 |0,_,_,_,_,_=>fun i=>by show(0:Int)≤0∧(0:Int)≤255;omega
 |m+1,n,s,b,l,h=>by
  rw[C8]
  cases C9 n b
  ·exact h
  ·exact aia m _ _ _ _ (fQ h)
theorem fI{d:A Int}{g:Bool}{u:A z}(h:aO d):aO (Qo d g u):=aia _ _ _ _ _ (eY h)
def Qq:A z:=(aau d g (L:A z))
def wb:A Int:=(Qo d g (L:A z))
def Dc:Bool:=(aat d g (L:A z))
def aj2:b5:=⟨[.p 0],[(.h 0 0,.af a8),(.h 0 1,y)],[[U,U]],fun d g=>⟨⟨some (aO d),[aH 1 cK (Qq d g)],[[aH 1 cQ (wb d g),.bool (Dc d g)]]⟩⟩⟩
theorem aeS:dB 142 aj2:=dI Tryz.func142
 fun d b g a=>dA ⟨.heap,[.tmp 2],[(.t 0,.af bL),(.h 0 0,.af a8),(.h 0 1,y)],⟨[U],[[U,U]]⟩⟩ (.ad (.ad (.s (.ir [(.h 2 0,bL)]) .z))) (aO d∧0≤10) (bK 1 aT (av avk bJ)) Tryz.func142 (⟨(by assumption),(by omega)⟩)
theorem fJ{d:A Int}{g:Bool}(h:aO d):aO (wb d g):=fI h
end
section
variable(e:Int)(a1:Bool)(d:A Int)(g:Bool)(r:A Int)(o:Bool)(q:A br)(t:A bO)
def Ii:A Int:=(ec (ec r o) (ep r o))
def abo:Bool:=(ep (ec r o) (ep r o))
def Dh:A br:=(A.app q (A.lit ([(⟨(o2 r o),(o2 (ec r o) (ep r o))⟩:br)]:List br)))
def akw:b5:=⟨[.p 0,.p 1],[(.h 0 0,a),(.h 0 1,au),(.h 0 2,a),(.h 0 4,.af bL),(.h 2 0,.af a8),(.h 2 1,y),(.h 3 0,.ae cX),(.h 4 0,.ae cO)],[[U,U,U,.own 3 0,U,.own 4 0],[.ptr 2 0],[U,U],[U],[U]],fun(d:Int) g (u:Int) h r o q t=>⟨⟨some (aO r∧q.n≤1000),[],[[b d,.str g,b u,.own 3 ((Dh r o q)).n,aH 1 cK h,.own 4 (t).n],[.ptr 2 0],[aH 1 cQ (Ii r o),.bool (abo r o)],[(aB.ae cX).ab (Dh r o q)],[(aB.ae cO).ab t]]⟩⟩⟩
theorem avM:dB 155 akw:=dI Tryz.func155
 fun(d:Int) g f (u:Int) h i r j o q k t l b=>dA ⟨.heap,[],[(.h 0 0,a),(.h 0 1,au),(.h 0 2,a),(.h 0 4,.af bL),(.h 2 0,.af a8),(.h 2 1,y),(.h 3 0,.ae cX),(.h 4 0,.ae cO)],⟨[],[[U,U,U,.own 3 0,U,.own 4 0],[.ptr 2 0],[U,U],[U],[U]]⟩⟩ (.z) ((aO r)∧((aO (ec r o))∧(q.n+1≤549755813888))) (bK 5 aT (av xO bJ)) Tryz.func155 (have⟨c,e⟩:=b;⟨(by assumption),⟨(by repeat first|assumption|apply dM),(by omega)⟩⟩)
theorem gm{r:A Int}{o:Bool}(h:aO r):aO (Ii r o):=eX (eX h)
theorem axK(r:A Int)(o:Bool)(q:A br):(Dh r o q).n=q.n+1:=rfl
def C5:Bool:=(cond (decide (e>0)) (!a1) false)
def C4:Nat→Int→A Int→Bool→A br→A Int×Bool×A br
 |0,_,_,_,_=>default
 |k+1,e,m,a1,bA=>(cond (C5 e a1) (C4 k (i64.wrap (e-1)) (Ii m a1) (abo m a1) (Dh m a1 bA)) (m,a1,bA))
def Ql:A Int×Bool×A br:=C4 ((toNat (dV r o))+1) (dV r o) (dc r o) (dv r o) q
def wa:A Int:=(Ql r o q).1
def zK:Bool:=(Ql r o q).2.1
def aaq:A br:=(Ql r o q).2.2
def ajU:b5:=⟨[.p 2,.jA 155 [0,1]],[(.h 0 0,a),(.h 0 1,au),(.h 0 2,a),(.h 0 4,.af bL),(.h 2 0,.af a8),(.h 2 1,y),(.h 3 0,.ae cX),(.h 4 0,.ae cO)],[[U,U,U,.own 3 0,U,.own 4 0],[.ptr 2 0],[U,U],[U],[U]],fun(d:Int) g (u:Int) h r o q t=>let c:=aaq r o q;⟨⟨some (aO r∧q.n≤10),[],[[b d,.str g,b u,.own 3 (c).n,aH 1 cK h,.own 4 (t).n],[.ptr 2 0],[aH 1 cQ (wa r o q),.bool (zK r o q)],[(aB.ae cX).ab c],[(aB.ae cO).ab t]]⟩⟩⟩
theorem avi:dB 136 ajU:=dI Tryz.func136
 fun(d:Int) g w (u:Int) h x r z o q B t C j=>dA ⟨.heap,[],[(.h 0 0,a),(.h 0 1,au),(.h 0 2,a),(.h 0 4,.af bL),(.h 2 0,.af a8),(.h 2 1,y),(.h 3 0,.ae cX),(.h 4 0,.ae cO)],⟨[],[[U,U,U,.own 3 0,U,.own 4 0],[.ptr 2 0],[U,U],[U],[U]]⟩⟩ (.ad (.cy ⟨19,[],[],[(.t 4,a),(.h 2 0,.af a8),(.h 2 1,y),(.h 3 0,.ae cX)],some 0,false,0,[],[(.h 2 0,.af a8),(.h 2 1,y),(.h 3 0,.ae cX)],fun k (s:Int×A Int×Bool×A br)=>C4 k s.1 s.2.1 s.2.2.1 s.2.2.2,.f,fun(s:Int×A Int×Bool×A br)=>(aO s.2.1∧0≤s.1∧s.1≤255∧(s.2.2.2.n:Int)≤(q.n:Int)+255-s.1),fun(s:Int×A Int×Bool×A br)=>(toNat s.1),none⟩ (.s (.j ⟨33683,[],[(.t 9,y),(.t 15,y)],[],.f⟩ .z .z) .z))) (((aO (dc r o)∧0≤(dV r o)∧(dV r o)≤255∧(q.n:Int)≤(q.n:Int)+255- (dV r o)))∧(∀(e:Int) (m:A Int) (a1:Bool) (bA:A br),let f:=C5 e a1;let b:=i64.wrap (e-1);(aO m∧0≤e∧e≤255∧(bA.n:Int)≤(q.n:Int)+255-e)→((f=true→(aO m∧bA.n≤1000))∧(f=true→((aO (Ii m a1)∧0≤b∧b≤255∧(((Dh m a1 bA).n:Nat):Int)≤(q.n:Int)+255-b)∧(toNat b)<(toNat e)))))) (bK 5 aT (av qI (av avM bJ))) Tryz.func136 (have⟨n,p⟩:=j;⟨⟨(by repeat first|assumption|apply dM),(by have:=Bk r o (by repeat first|assumption|apply dM|apply eW|apply eY|apply eX|apply gp|apply D|apply fQ|apply fI|apply fJ|apply gm|apply fH|apply gn|apply gk|apply gl);omega)⟩,(fun e m a1 bA i=>have v:=i.1;⟨(fun l=>⟨(by assumption),(by omega)⟩),(fun c=>⟨⟨(by repeat first|assumption|apply dM),(by have:=c;(try simp [C5]at this);have:=axK m a1 bA;have:=N (e-1);omega)⟩,(by have:=c;(try simp [C5]at this);have:=N (e-1);omega)⟩)⟩)⟩)
theorem ah9: ∀(m:Nat) (n:Int) (s:A Int) (b:Bool) (l:A br),aO s→aO (C4 m n s b l).1
 |0,_,_,_,_,_=>fun i=>by show(0:Int)≤0∧(0:Int)≤255;omega
 |m+1,n,s,b,l,h=>by
  rw[C4]
  cases C5 n b
  ·exact h
  ·exact ah9 m _ _ _ _ (gm h)
theorem fH{r:A Int}{o:Bool}{q:A br}(h:aO r):aO (wa r o q):=ah9 _ _ _ _ _ (eY h)
def Il:A Int:=(bz (ec r o) (ep r o))
def abp:Bool:=(bC (ec r o) (ep r o))
def Di:A bO:=(A.app t (A.lit ([(⟨(o2 r o),(fa (ec r o) (ep r o))⟩:bO)]:List bO)))
def akx:b5:=⟨[.p 0,.p 1],[(.h 0 0,a),(.h 0 1,au),(.h 0 2,a),(.h 0 4,.af bL),(.h 2 0,.af a8),(.h 2 1,y),(.h 3 0,.ae cX),(.h 4 0,.ae cO)],[[U,U,U,.own 3 0,U,.own 4 0],[.ptr 2 0],[U,U],[U],[U]],fun(d:Int) g (u:Int) h r o q t=>⟨⟨some (aO r∧t.n≤1000),[],[[b d,.str g,b u,.own 3 (q).n,aH 1 cK h,.own 4 ((Di r o t)).n],[.ptr 2 0],[aH 1 cQ (Il r o),.bool (abp r o)],[(aB.ae cX).ab q],[(aB.ae cO).ab (Di r o t)]]⟩⟩⟩
theorem avN:dB 156 akx:=dI Tryz.func156
 fun(d:Int) g f (u:Int) h i r j o q k t l b=>dA ⟨.heap,[],[(.h 0 0,a),(.h 0 1,au),(.h 0 2,a),(.h 0 4,.af bL),(.h 2 0,.af a8),(.h 2 1,y),(.h 3 0,.ae cX),(.h 4 0,.ae cO)],⟨[],[[U,U,U,.own 3 0,U,.own 4 0],[.ptr 2 0],[U,U],[U],[U]]⟩⟩ (.z) ((aO r)∧(t.n+1≤549755813888)) (bK 5 aT (av uK (av xO bJ))) Tryz.func156 (have⟨c,e⟩:=b;⟨(by assumption),(by omega)⟩)
theorem gn{r:A Int}{o:Bool}(h:aO r):aO (Il r o):=eW (eX h)
theorem axL(r:A Int)(o:Bool)(t:A bO):(Di r o t).n=t.n+1:=rfl
def C7:Bool:=(cond (decide (e>0)) (!a1) false)
def C6:Nat→Int→A Int→Bool→A bO→A Int×Bool×A bO
 |0,_,_,_,_=>default
 |k+1,e,m,a1,bA=>(cond (C7 e a1) (C6 k (i64.wrap (e-1)) (Il m a1) (abp m a1) (Di m a1 bA)) (m,a1,bA))
def Qn:A Int×Bool×A bO:=C6 ((toNat (dV r o))+1) (dV r o) (dc r o) (dv r o) t
def Qm:A Int:=(Qn r o t).1
def aar:Bool:=(Qn r o t).2.1
def aas:A bO:=(Qn r o t).2.2
def ajV:b5:=⟨[.p 2,.jA 156 [0,1]],[(.h 0 0,a),(.h 0 1,au),(.h 0 2,a),(.h 0 4,.af bL),(.h 2 0,.af a8),(.h 2 1,y),(.h 3 0,.ae cX),(.h 4 0,.ae cO)],[[U,U,U,.own 3 0,U,.own 4 0],[.ptr 2 0],[U,U],[U],[U]],fun(d:Int) g (u:Int) h r o q t=>let c:=aas r o t;⟨⟨some (aO r∧t.n≤10),[],[[b d,.str g,b u,.own 3 (q).n,aH 1 cK h,.own 4 (c).n],[.ptr 2 0],[aH 1 cQ (Qm r o t),.bool (aar r o t)],[(aB.ae cX).ab q],[(aB.ae cO).ab c]]⟩⟩⟩
theorem avj:dB 136 ajV:=dI Tryz.func136
 fun(d:Int) g w (u:Int) h x r z o q B t C j=>dA ⟨.heap,[],[(.h 0 0,a),(.h 0 1,au),(.h 0 2,a),(.h 0 4,.af bL),(.h 2 0,.af a8),(.h 2 1,y),(.h 3 0,.ae cX),(.h 4 0,.ae cO)],⟨[],[[U,U,U,.own 3 0,U,.own 4 0],[.ptr 2 0],[U,U],[U],[U]]⟩⟩ (.ad (.cy ⟨19,[],[],[(.t 4,a),(.h 2 0,.af a8),(.h 2 1,y),(.h 4 0,.ae cO)],some 0,false,0,[],[(.h 2 0,.af a8),(.h 2 1,y),(.h 4 0,.ae cO)],fun k (s:Int×A Int×Bool×A bO)=>C6 k s.1 s.2.1 s.2.2.1 s.2.2.2,.f,fun(s:Int×A Int×Bool×A bO)=>(aO s.2.1∧0≤s.1∧s.1≤255∧(s.2.2.2.n:Int)≤(t.n:Int)+255-s.1),fun(s:Int×A Int×Bool×A bO)=>(toNat s.1),none⟩ (.s (.j ⟨33683,[],[(.t 9,y),(.t 15,y)],[],.f⟩ .z .z) .z))) (((aO (dc r o)∧0≤(dV r o)∧(dV r o)≤255∧(t.n:Int)≤(t.n:Int)+255- (dV r o)))∧(∀(e:Int) (m:A Int) (a1:Bool) (bA:A bO),let f:=C7 e a1;let b:=i64.wrap (e-1);(aO m∧0≤e∧e≤255∧(bA.n:Int)≤(t.n:Int)+255-e)→((f=true→(aO m∧bA.n≤1000))∧(f=true→((aO (Il m a1)∧0≤b∧b≤255∧(((Di m a1 bA).n:Nat):Int)≤(t.n:Int)+255-b)∧(toNat b)<(toNat e)))))) (bK 5 aT (av qI (av avN bJ))) Tryz.func136 (have⟨n,p⟩:=j;⟨⟨(by repeat first|assumption|apply dM),(by have:=Bk r o (by repeat first|assumption|apply dM|apply eW|apply eY|apply eX|apply gp|apply D|apply fQ|apply fI|apply fJ|apply gm|apply fH|apply gn|apply gk|apply gl);omega)⟩,(fun e m a1 bA i=>have v:=i.1;⟨(fun l=>⟨(by assumption),(by omega)⟩),(fun c=>⟨⟨(by repeat first|assumption|apply dM),(by have:=c;(try simp [C7]at this);have:=axL m a1 bA;have:=N (e-1);omega)⟩,(by have:=c;(try simp [C7]at this);have:=N (e-1);omega)⟩)⟩)⟩)
theorem ah_: ∀(m:Nat) (n:Int) (s:A Int) (b:Bool) (l:A bO),aO s→aO (C6 m n s b l).1
 |0,_,_,_,_,_=>fun i=>by show(0:Int)≤0∧(0:Int)≤255;omega
 |m+1,n,s,b,l,h=>by
  rw[C6]
  cases C7 n b
  ·exact h
  ·exact ah_ m _ _ _ _ (gn h)
theorem gk{r:A Int}{o:Bool}{t:A bO}(h:aO r):aO (Qm r o t):=ah_ _ _ _ _ _ (eY h)
def aaw:Int:=(dV d g)
def aax:z:=(o2 (dc d g) (dv d g))
def aay:Int:=(fa (ec (dc d g) (dv d g)) (ep (dc d g) (dv d g)))
def aaz:A br:=let b:=ep (dc d g) (dv d g);let a:=ec (dc d g) (dv d g);(aaq (bz a b) (bC a b) (L:A br))
def aaA:A z:=let b:=ep (dc d g) (dv d g);let a:=ec (dc d g) (dv d g);(Qq (wa (bz a b) (bC a b) (L:A br)) (zK (bz a b) (bC a b) (L:A br)))
def aaB:A bO:=let e:=ep (dc d g) (dv d g);let c:=ec (dc d g) (dv d g);let b:=bC c e;let a:=bz c e;let h:=zK a b (L:A br);let f:=wa a b (L:A br);(aas (wb f h) (Dc f h) (L:A bO))
def Da:A Int:=let e:=ep (dc d g) (dv d g);let c:=ec (dc d g) (dv d g);let b:=bC c e;let a:=bz c e;let h:=zK a b (L:A br);let f:=wa a b (L:A br);(Qm (wb f h) (Dc f h) (L:A bO))
def HS:Bool:=let e:=ep (dc d g) (dv d g);let c:=ec (dc d g) (dv d g);let b:=bC c e;let a:=bz c e;let h:=zK a b (L:A br);let f:=wa a b (L:A br);(aar (wb f h) (Dc f h) (L:A bO))
def ajZ:b5:=⟨[.p 0],[(.h 0 0,.af a8),(.h 0 1,y)],[[U,U]],fun d g=>⟨⟨some (aO d),[.agg [b (aaw d g),.str (aax d g),b (aay d g),aH 2 fz (aaz d g),aH 1 cK (aaA d g),aH 2 fA (aaB d g)]],[[aH 1 cQ (Da d g),.bool (HS d g)]]⟩⟩⟩
theorem avm:dB 139 ajZ:=dI Tryz.func139
 fun d j g i=>dA ⟨.heap,[.cell 2 125],[(.c 0 0,a),(.c 0 1,au),(.c 0 2,a),(.c 0 3,.af cX),(.c 0 4,.af bL),(.c 0 5,.af cO),(.h 0 0,.af a8),(.h 0 1,y)],⟨[.agg (us 6 [])],[[U,U]]⟩⟩ (.ad (.ad (.s (.ir [(.h 3 3,cX),(.h 3 5,cO)]) .z))) (let c:=dv d g;let b:=dc d g;let f:=bC (ec b c) (ep b c);let e:=bz (ec b c) (ep b c);let h:=wa e f (L:A br);(aO b)∧((aO e∧0≤10)∧((aO h)∧(aO (wb h (zK e f (L:A br)))∧0≤10)))) (bK 1 aT (av uK (av avi (av avj (av xO (av qI (av aeS bJ))))))) Tryz.func139 (⟨(by repeat first|assumption|apply dM),⟨⟨(by repeat first|assumption|apply dM),(by omega)⟩,⟨(by repeat first|assumption|apply fH|apply dM),⟨(by repeat first|assumption|apply fI|apply fH|apply dM),(by omega)⟩⟩⟩⟩)
theorem gl{d:A Int}{g:Bool}(h:aO d):aO (Da d g):=gk (fJ (fH (eW (eX (eY h)))))
end
def ea(d:A Int):Int:=(bits .or .i64 (bits .or .i64 (i64.wrap ((i64.wrap (d.at' (toNat 0)))*2^(toNat 16))) (i64.wrap ((i64.wrap (d.at' (toNat 1)))*2^(toNat 8)))) (i64.wrap (d.at' (toNat 2))))
def ai1:a6:=⟨[.v (.af a8)],fun d=>⟨⟨some (aO d∧3≤d.n),b (ea d)⟩⟩⟩
theorem aeH:bg 109 ai1:=bj Tryz.func109
 fun d f _ b=>bf ⟨.pure,[.tmp 2],[(.t 0,a)],⟨[U],[]⟩⟩ (.z) (((0:Int)≤0∧0<(d.n:Int))∧(((0:Int)≤16∧(16:Int)≤64)∧(((0:Int)≤1∧1<(d.n:Int))∧(((0:Int)≤8∧(8:Int)≤64)∧((0:Int)≤2∧2<(d.n:Int)))))) e7 Tryz.func109 (have⟨c,e⟩:=b;⟨(by omega),⟨(by omega),⟨(by omega),⟨(by omega),(by omega)⟩⟩⟩⟩)
theorem agw(v b k:Nat)(d:v*2^k<9223372036854775808)(f:b<2^k)(g:b<9223372036854775808):bits .or .i64 ((v*2^k:Nat):Int) (b:Int)=((v*2^k:Nat):Int)+b:=by
 have e:=Nat.shiftLeft_add_eq_or_of_lt f v;rw[Nat.shiftLeft_eq]at e;have h:v*2^k+b<9223372036854775808:=by
  rw[e];exact Nat.or_lt_two_pow (n:=63) d g
 unfold bits;simp only[BitVec.toNat_or,BitVec.toNat_ofInt];have a:((((v*2^k:Nat):Int))%((2^i64.bits:Nat):Int)).toNat=v*2^k:=by
  show((((v*2^k:Nat):Int))%18446744073709551616).toNat=v*2^k;omega
 have c:((b:Int)%((2^i64.bits:Nat):Int)).toNat=b:=by
  show((b:Int)%18446744073709551616).toNat=b;omega
 rw[a,c,←e,N _];omega
theorem aob(d:A Int)(h:aO d):ea d=65536*d.at' 0+256*d.at' 1+d.at' 2:=by
 obtain⟨a,e⟩:=Gm (h 0).1;obtain⟨b,f⟩:=Gm (h 1).1;obtain⟨c,g⟩:=Gm (h 2).1;have k:=(h 0).2;have g8:=(h 1).2;have rc:=(h 2).2;unfold ea;show bits .or .i64 (bits .or .i64 (i64.wrap ((i64.wrap (d.at' 0))*65536)) (i64.wrap ((i64.wrap (d.at' 1))*256))) (i64.wrap (d.at' 2))=_;rw[e]at k ⊢;rw[f]at g8 ⊢;rw[g]at rc ⊢;rw[N (a:Int),N (b:Int),N (c:Int),N ((a:Int)*65536),N ((b:Int)*256)];have i:=agw a (b*256) 16 (by omega) (by omega) (by omega);have j:=agw (a*256+b) c 8 (by omega) (by omega) (by omega);rw[show(a:Int)*65536=((a*2^16:Nat):Int) by omega,show(b:Int)*256=((b*256:Nat):Int) by omega,i];rw[show((a*2^16:Nat):Int)+((b*256:Nat):Int)=(((a*256+b)*2^8:Nat):Int) by omega,j];omega
theorem Uz(d:A Int)(h:aO d):0≤ea d∧ea d≤16777215:=by
 have:=h 0;have:=h 1;have:=h 2;rw[aob d h];omega
theorem l8{s:A Int}{l h:Int}(a:aO s):aO (A.part s l h):=fun i=>a _
theorem ax5{v n:Int}(h:decide (i64.wrap (v+3)≤n)=true)(b:0≤v)(a:v≤1000000):v+3≤n:=by
 have:=aq h;rw[N (v+3)]at this;exact this
theorem afQ{v g n:Int}(h:decide (i64.wrap (i64.wrap (v+3)+g)>n)=false)(c:0≤v)(a:v≤1000000):0≤g∧g≤16777215→v+3+g≤n:=fun b=>by
 have:=dQ h;rw[N (v+3),N (v+3+g)]at this;omega
end Go.Proofs.YtfmgjpcmcjjoiaaGreatDoor
