import Derived.Test.YtadmdaokcgjdiaaGreatDoorXj
open Go.IntKind (i64 u64 u8)
open Int (toNat)
set_option maxRecDepth 100000
set_option maxHeartbeats 4000000
set_option linter.all false
noncomputable section
namespace Go.Proofs.YtadmdaokcgjdiaaGreatDoor
open Go Go.RowKit Go.af
section
def KV(h:G bt):Nat->Int->G u->G u
 |0,_,_=>default
 |k+1,e,l=>(cond (decide (e<(h.n:Int))) (KV h k (i64 (e+1)) (G.app l (G.lit ([(h.at' (toNat e)).q]:List u)))) l)
variable(A:u)(g:u)(h:G bt)(o:G u)(c:G bG)
def Bv:G u:=KV h ((toNat ((h.n:Int)-0))+1) 0 o
def KW(c:G bG):Nat->Int->G u->G u
 |0,_,_=>default
 |k+1,bC,a=>(cond (decide (bC<(c.n:Int))) (KW c k (i64 (bC+1)) (G.app a (G.lit ([(c.at' (toNat bC)).q]:List u)))) a)
def arv:G u:=KW c ((toNat ((c.n:Int)-0))+1) 0 (Bv h o)
def Tu:G u:=(arv h o c)
def amn:bq:=⟨[.g [a,al,a,.ab dd,.ab bV,.ab c3]],λ_ _ _ h o c=>⟨⟨some (h.n<=100000000000/\o.n<=100000000000/\c.n<=100000000000),(aH.ad bV).av (Tu h o c)⟩⟩⟩
theorem axr:bx 191 amn:=bA Tryz.func191
 λ(A:Int) g I (r:Int) h J _ o K _ c L _ w=>bD ⟨.own bV,[.tmp 2],[(.h 0 0,.ad bV)],⟨[],[]⟩⟩ (.ae (.ae (.j ⟨14,[],[],[],.f⟩ (.ae (.cX ⟨28686,[],[],[(.t 14,a),(.h 1 0,.ad bV)],some 0,false,14,[],[(.h 1 0,.ad bV)],λk (s:Int×G u)=>KV h k s.1 s.2,.f,λ(s:Int×G u)=>((0<=s.1/\s.1<=(h.n:Int))/\(s.2.n:Int)<=o.n+(s.1-0)),λ(s:Int×G u)=>(toNat ((h.n:Int)-s.1)),some λ(j:G u)=>(j.n:Int)<=o.n+max ((h.n:Int)-0) 0⟩ .z)) (.j ⟨12,[],[],[],.f⟩ (.ae (.cX ⟨234881036,[.b 0],[],[(.t 27,a),(.h 1 0,.ad bV)],some 2,false,12,[],[(.h 1 0,.ad bV)],λk (s:Int×G u)=>KW c k s.1 s.2,.f,λ(s:Int×G u)=>((0<=s.1/\s.1<=(c.n:Int))/\(s.2.n:Int)<=(Bv h o).n+(s.1-0)),λ(s:Int×G u)=>(toNat ((c.n:Int)-s.1)),some λ(j:G u)=>(j.n:Int)<=(Bv h o).n+max ((c.n:Int)-0) 0⟩ .z)) .z)))) (let b:=Bv h o;((((0<=(0:Int)/\(0:Int)<=(h.n:Int))/\(o.n:Int)<=o.n+((0:Int)-0)))/\(∀(e:Int) (l:G u),let m:=decide (e<(h.n:Int));let f:=i64 (e+1);((0<=e/\e<=(h.n:Int))/\(l.n:Int)<=o.n+(e-0))->((m=true->(((0:Int)<=e/\e<(h.n:Int))/\(l.n+1<=549755813888)))/\((m=true->(((0<=f/\f<=(h.n:Int))/\(((l.n+1):Nat):Int)<=o.n+(f-0))/\(toNat ((h.n:Int)-f))<(toNat ((h.n:Int)-e))))/\(m=false->((l.n:Int)<=o.n+max ((h.n:Int)-0) 0))))))/\(((b.n:Int)<=o.n+max ((h.n:Int)-0) 0)->((((0<=(0:Int)/\(0:Int)<=(c.n:Int))/\(b.n:Int)<=b.n+((0:Int)-0)))/\(∀(bC:Int) (d:G u),let n:=decide (bC<(c.n:Int));let i:=i64 (bC+1);((0<=bC/\bC<=(c.n:Int))/\(d.n:Int)<=b.n+(bC-0))->((n=true->(((0:Int)<=bC/\bC<(c.n:Int))/\(d.n+1<=549755813888)))/\((n=true->(((0<=i/\i<=(c.n:Int))/\(((d.n+1):Nat):Int)<=b.n+(i-0))/\(toNat ((c.n:Int)-i))<(toNat ((c.n:Int)-bC))))/\(n=false->((d.n:Int)<=b.n+max ((c.n:Int)-0) 0)))))))) (ct (aJ CC a2)) Tryz.func191 (have⟨D,F,H⟩:=w;⟨⟨Ω,(λe l B=>⟨(λp=>⟨(by have:=an p;omega),Ω⟩),⟨(λq=>(by have:=an q;have:=E (e+1);omega)),(λx=>Ω)⟩⟩)⟩,(λz=>⟨Ω,(λbC d C=>⟨(λt=>⟨(by have:=an t;omega),Ω⟩),⟨(λv=>(by have:=an v;have:=E (bC+1);omega)),(λy=>Ω)⟩⟩)⟩)⟩)
def TD:Bool:=(!((A:u).toList==(A:u).toList))
def amH:bq:=⟨[.v al],λA=>⟨⟨none,.bool (TD A)⟩⟩⟩
theorem axJ:bx 222 amH:=bA Tryz.func222
 λA _=>bD ⟨.pure,[.tmp 2],[(.t 0,K)],⟨[U],[]⟩⟩ (.z) True fx Tryz.func222 (trivial)
def arB:Bool:=let a:=Op.bytesLess ((A:u).toList) ((g:u).toList);(cond (TD A) (cond (!(TD g)) true a) a)
def K0:Bool:=(arB A g)
def amF:bq:=⟨[.v al,.v al],λA g=>⟨⟨none,.bool (K0 A g)⟩⟩⟩
theorem axH:bx 215 amF:=bA Tryz.func215
 λA _ g _=>bD ⟨.pure,[.tmp 4],[(.t 0,K)],⟨[U],[]⟩⟩ (.ae (.j ⟨16,[],[(.t 4,K)],[],.f⟩ .z .z)) True (ct (aJ axJ a2)) Tryz.func215 (trivial)
def TC:Bool:=(!((A:u).toList==(A:u).toList))
def amG:bq:=⟨[.v al],λA=>⟨⟨none,.bool (TC A)⟩⟩⟩
theorem axI:bx 216 amG:=bA Tryz.func216
 λA _=>bD ⟨.pure,[.tmp 2],[(.t 0,K)],⟨[U],[]⟩⟩ (.z) True fx Tryz.func216 (trivial)
def vv(A:G bt)(g:u):Nat->Int->Int->Int
 |0,_,_=>default
 |k+1,e,l=>(cond (decide (e<l)) (cond (decide ((s8 (A.at' (toNat (i64 ((u64 (i64 (e+l)))/2^(toNat 1))))).q g)<0)) (vv A g k (i64 ((i64 ((u64 (i64 (e+l)))/2^(toNat 1)))+1)) l) (vv A g k e (i64 ((u64 (i64 (e+l)))/2^(toNat 1))))) e)
def FA(A:G bt)(g:u):Int:=vv A g ((toNat ((A.n:Int)-0))+1) 0 (A.n:Int)
def adW(A:G bt)(g:u):Bool:=(cond (decide ((FA A g)<(A.n:Int))) ((s8 (A.at' (toNat (FA A g))).q g)==0) false)
def o1(A:G bt)(g:u):Int:=(FA A g)
def vu(A:G bt)(g:u):Bool:=(adW A g)
def amv:bq:=⟨[.v (.ab dd),.g [al,al],.fn 166 []],λA g _=>⟨⟨none,.dp [b (o1 A g),.bool (vu A g)]⟩⟩⟩
theorem axz:bx 200 amv:=bA Tryz.func200
 λA w _ g y r z=>bD ⟨.pure,[.tmp 6,.tmp 7],[(.t 0,a),(.t 1,K)],⟨[U,U],[]⟩⟩ (.ae (.ae (.ae (.j ⟨981,[],[],[],.f⟩ (.cX ⟨2005,[],[],[(.t 9,a),(.t 10,a)],some 0,false,981,[],[(.t 9,a)],λk (s:Int×Int)=>vv A g k s.1 s.2,.f,λ(s:Int×Int)=>(0<=s.1/\s.1<=s.2/\s.2<=(A.n:Int)),λ(s:Int×Int)=>(toNat (s.2-s.1)),some λ(i:Int)=>0<=i/\i<=(A.n:Int)⟩ .z) (.j ⟨192,[.b 0],[(.t 7,K)],[],.f⟩ .z .z))))) (let c:=FA A g;(((0<=(0:Int)/\(0:Int)<=(A.n:Int)/\(A.n:Int)<=(A.n:Int)))/\(∀(e:Int) (l:Int),let m:=toNat (l-e);let f:=decide (e<l);let b:=i64 ((u64 (i64 (e+l)))/2^(toNat 1));let d:=i64 (b+1);let j:=decide ((s8 (A.at' (toNat b)).q g)<0);(0<=e/\e<=l/\l<=(A.n:Int))->((f=true->(((0:Int)<=1/\(1:Int)<=64)/\((0:Int)<=b/\b<(A.n:Int))))/\((f=true->((j=true->((0<=d/\d<=l/\l<=(A.n:Int))/\(toNat (l-d))<m))/\(j=false->((0<=e/\e<=b/\b<=(A.n:Int))/\(toNat (b-e))<m))))/\(f=false->(0<=e/\e<=(A.n:Int)))))))/\((0<=c/\c<=(A.n:Int))->((decide (c<(A.n:Int)))=true->((0:Int)<=c/\c<(A.n:Int))))) (ct (aJ agi a2)) Tryz.func200 (⟨⟨Ω,(λe l v=>⟨(λn=>⟨Ω,(by have:=an n;have:=E (e+l);have:=oB (x:=(i64 (e+l))) Ω Ω;have:=oe (u64 (i64 (e+l)));have:=E ((u64 (i64 (e+l)))/2^(toNat 1));omega)⟩),⟨(λh=>⟨(λp=>(by have:=an h;have:=E (e+l);have:=oB (x:=(i64 (e+l))) Ω Ω;have:=oe (u64 (i64 (e+l)));have:=E ((u64 (i64 (e+l)))/2^(toNat 1));have:=E ((i64 ((u64 (i64 (e+l)))/2^(toNat 1)))+1);omega)),(λq=>(by have:=an h;have:=E (e+l);have:=oB (x:=(i64 (e+l))) Ω Ω;have:=oe (u64 (i64 (e+l)));have:=E ((u64 (i64 (e+l)))/2^(toNat 1));omega))⟩),(λt=>Ω)⟩⟩)⟩,(λu=>(λo=>(by have:=an o;omega)))⟩)
theorem aau(A:G bt)(g:u): ∀k i j,vv A g k i j=nv (λm=>decide ((s8 (A.at' m).q g)<0)) k i j
 |0,_,_=>rfl
 |k+1,i,j=>by simp only[vv,nv,aau A g k]
theorem AM(A:G bt)(g:u)(a:A.n<=549755813888):0<=o1 A g/\o1 A g<=(A.n:Int):=by
 show 0<=vv A g _ _ _/\vv A g _ _ _<=_;rw[aau];exact Ao Ω _ _ _ Ω Ω Ω
theorem YO(A:G bt)(g:u)(h:vu A g=true):o1 A g<(A.n:Int):=by
 unfold vu adW at h
 cases e:decide (FA A g<(A.n:Int))with
 |true=>exact an e
 |false=>rw[e]at h;cases h
def vx(A:G bG)(g:u)(r:Int):Nat->Int->Int->Int
 |0,_,_=>default
 |k+1,e,l=>(cond (decide (e<l)) (cond (decide ((s9 (A.at' (toNat (i64 ((u64 (i64 (e+l)))/2^(toNat 1))))).q (A.at' (toNat (i64 ((u64 (i64 (e+l)))/2^(toNat 1))))).F g r)<0)) (vx A g r k (i64 ((i64 ((u64 (i64 (e+l)))/2^(toNat 1)))+1)) l) (vx A g r k e (i64 ((u64 (i64 (e+l)))/2^(toNat 1))))) e)
def KZ(A:G bG)(g:u)(r:Int):Int:=vx A g r ((toNat ((A.n:Int)-0))+1) 0 (A.n:Int)
def arA(A:G bG)(g:u)(r:Int):Bool:=let a:=A.at' (toNat (KZ A g r));(cond (decide ((KZ A g r)<(A.n:Int))) ((s9 a.q a.F g r)==0) false)
def By(A:G bG)(g:u)(r:Int):Int:=(KZ A g r)
def arz(A:G bG)(g:u)(r:Int):Bool:=(arA A g r)
def amD:bq:=⟨[.v (.ab c3),.g [al,a],.fn 168 []],λA g r=>⟨⟨none,.dp [b (By A g r),.bool (arz A g r)]⟩⟩⟩
theorem axF:bx 208 amD:=bA Tryz.func208
 λA w _ g y (r:Int)=>bD ⟨.pure,[.tmp 6,.tmp 7],[(.t 0,a),(.t 1,K)],⟨[U,U],[]⟩⟩ (.ae (.ae (.ae (.j ⟨981,[],[],[],.f⟩ (.cX ⟨2005,[],[],[(.t 9,a),(.t 10,a)],some 0,false,981,[],[(.t 9,a)],λk (s:Int×Int)=>vx A g r k s.1 s.2,.f,λ(s:Int×Int)=>(0<=s.1/\s.1<=s.2/\s.2<=(A.n:Int)),λ(s:Int×Int)=>(toNat (s.2-s.1)),some λ(i:Int)=>0<=i/\i<=(A.n:Int)⟩ .z) (.j ⟨192,[.b 0],[(.t 7,K)],[],.f⟩ .z .z))))) (let c:=KZ A g r;(((0<=(0:Int)/\(0:Int)<=(A.n:Int)/\(A.n:Int)<=(A.n:Int)))/\(∀(e:Int) (l:Int),let m:=toNat (l-e);let f:=decide (e<l);let b:=i64 ((u64 (i64 (e+l)))/2^(toNat 1));let d:=i64 (b+1);let j:=decide ((s9 (A.at' (toNat b)).q (A.at' (toNat b)).F g r)<0);(0<=e/\e<=l/\l<=(A.n:Int))->((f=true->(((0:Int)<=1/\(1:Int)<=64)/\((0:Int)<=b/\b<(A.n:Int))))/\((f=true->((j=true->((0<=d/\d<=l/\l<=(A.n:Int))/\(toNat (l-d))<m))/\(j=false->((0<=e/\e<=b/\b<=(A.n:Int))/\(toNat (b-e))<m))))/\(f=false->(0<=e/\e<=(A.n:Int)))))))/\((0<=c/\c<=(A.n:Int))->((decide (c<(A.n:Int)))=true->((0:Int)<=c/\c<(A.n:Int))))) (ct (aJ agj a2)) Tryz.func208 (⟨⟨Ω,(λe l v=>⟨(λn=>⟨Ω,(by have:=an n;have:=E (e+l);have:=oB (x:=(i64 (e+l))) Ω Ω;have:=oe (u64 (i64 (e+l)));have:=E ((u64 (i64 (e+l)))/2^(toNat 1));omega)⟩),⟨(λh=>⟨(λp=>(by have:=an h;have:=E (e+l);have:=oB (x:=(i64 (e+l))) Ω Ω;have:=oe (u64 (i64 (e+l)));have:=E ((u64 (i64 (e+l)))/2^(toNat 1));have:=E ((i64 ((u64 (i64 (e+l)))/2^(toNat 1)))+1);omega)),(λq=>(by have:=an h;have:=E (e+l);have:=oB (x:=(i64 (e+l))) Ω Ω;have:=oe (u64 (i64 (e+l)));have:=E ((u64 (i64 (e+l)))/2^(toNat 1));omega))⟩),(λt=>Ω)⟩⟩)⟩,(λu=>(λo=>(by have:=an o;omega)))⟩)
theorem aaw(A:G bG)(g:u)(r:Int): ∀k i j,vx A g r k i j=nv (λm=>decide ((s9 (A.at' m).q (A.at' m).F g r)<0)) k i j
 |0,_,_=>rfl
 |k+1,i,j=>by simp only[vx,nv,aaw A g r k]
theorem aqn(A:G bG)(g:u)(r:Int)(a:A.n<=549755813888):0<=By A g r/\By A g r<=(A.n:Int):=by
 show 0<=vx A g r _ _ _/\vx A g r _ _ _<=_;rw[aaw];exact Ao Ω _ _ _ Ω Ω Ω
def vw(A:G u)(g:u):Nat->Int->Int->Int
 |0,_,_=>default
 |k+1,e,l=>(cond (decide (e<l)) (cond (K0 (A.at' (toNat (i64 ((u64 (i64 (e+l)))/2^(toNat 1))))) g) (vw A g k (i64 ((i64 ((u64 (i64 (e+l)))/2^(toNat 1)))+1)) l) (vw A g k e (i64 ((u64 (i64 (e+l)))/2^(toNat 1))))) e)
def Bx(A:G u)(g:u):Int:=vw A g ((toNat ((A.n:Int)-0))+1) 0 (A.n:Int)
def adX(A:G u)(g:u):Bool:=(cond (decide ((Bx A g)<(A.n:Int))) (cond (((A.at' (toNat (Bx A g))):u).toList==(g:u).toList) true (cond (TC (A.at' (toNat (Bx A g)))) (TC g) false)) false)
def rl(A:G u)(g:u):Int:=(Bx A g)
def xX(A:G u)(g:u):Bool:=(adX A g)
def amA:bq:=⟨[.v (.ab bV),.v al],λA g=>⟨⟨none,.dp [b (rl A g),.bool (xX A g)]⟩⟩⟩
theorem axC:bx 205 amA:=bA Tryz.func205
 λA y _ g z=>bD ⟨.pure,[.tmp 4,.tmp 5],[(.t 0,a),(.t 1,K)],⟨[U,U],[]⟩⟩ (.ae (.ae (.ae (.j ⟨243,[],[],[],.f⟩ (.cX ⟨499,[],[],[(.t 7,a),(.t 8,a)],some 0,false,243,[],[(.t 7,a)],λk (s:Int×Int)=>vw A g k s.1 s.2,.f,λ(s:Int×Int)=>(0<=s.1/\s.1<=s.2/\s.2<=(A.n:Int)),λ(s:Int×Int)=>(toNat (s.2-s.1)),some λ(r:Int)=>0<=r/\r<=(A.n:Int)⟩ .z) (.j ⟨48,[],[(.t 5,K)],[],.f⟩ .z .z))))) (let b:=Bx A g;(((0<=(0:Int)/\(0:Int)<=(A.n:Int)/\(A.n:Int)<=(A.n:Int)))/\(∀(e:Int) (l:Int),let m:=toNat (l-e);let f:=decide (e<l);let c:=i64 ((u64 (i64 (e+l)))/2^(toNat 1));let j:=K0 (A.at' (toNat c)) g;let d:=i64 (c+1);(0<=e/\e<=l/\l<=(A.n:Int))->((f=true->(((0:Int)<=1/\(1:Int)<=64)/\((0:Int)<=c/\c<(A.n:Int))))/\((f=true->((j=true->((0<=d/\d<=l/\l<=(A.n:Int))/\(toNat (l-d))<m))/\(j=false->((0<=e/\e<=c/\c<=(A.n:Int))/\(toNat (c-e))<m))))/\(f=false->(0<=e/\e<=(A.n:Int)))))))/\((0<=b/\b<=(A.n:Int))->((decide (b<(A.n:Int)))=true->(((0:Int)<=b/\b<(A.n:Int))/\((((A.at' (toNat b)):u).toList==(g:u).toList)=false->((0:Int)<=b/\b<(A.n:Int))))))) (ct (aJ axH (aJ axI a2))) Tryz.func205 (⟨⟨Ω,(λe l w=>⟨(λn=>⟨Ω,(by have:=an n;have:=E (e+l);have:=oB (x:=(i64 (e+l))) Ω Ω;have:=oe (u64 (i64 (e+l)));have:=E ((u64 (i64 (e+l)))/2^(toNat 1));omega)⟩),⟨(λh=>⟨(λo=>(by have:=an h;have:=E (e+l);have:=oB (x:=(i64 (e+l))) Ω Ω;have:=oe (u64 (i64 (e+l)));have:=E ((u64 (i64 (e+l)))/2^(toNat 1));have:=E ((i64 ((u64 (i64 (e+l)))/2^(toNat 1)))+1);omega)),(λp=>(by have:=an h;have:=E (e+l);have:=oB (x:=(i64 (e+l))) Ω Ω;have:=oe (u64 (i64 (e+l)));have:=E ((u64 (i64 (e+l)))/2^(toNat 1));omega))⟩),(λq=>Ω)⟩⟩)⟩,(λv=>(λi=>⟨(by have:=an i;omega),(λt=>(by have:=an i;omega))⟩))⟩)
theorem aav(A:G u)(g:u): ∀k i j,vw A g k i j=nv (λm=>(K0 (A.at' m) g)) k i j
 |0,_,_=>rfl
 |k+1,i,j=>by simp only[vw,nv,aav A g k]
theorem f233(A:G u)(g:u)(a:A.n<=549755813888):0<=rl A g/\rl A g<=(A.n:Int):=by
 show 0<=vw A g _ _ _/\vw A g _ _ _<=_;rw[aav];exact Ao Ω _ _ _ Ω Ω Ω
theorem t233(A:G u)(g:u)(h:xX A g=true):rl A g<(A.n:Int):=by
 unfold xX adX at h
 cases e:decide (Bx A g<(A.n:Int))with
 |true=>exact an e
 |false=>rw[e]at h;cases h
end
section
variable(A:Int)(r:u)(h:u)(ai:G bG)(p:G bt)(x:G u)
def Bi:Int:=A
def Bj(g:u):u:=g
def mb(r:Int):Int:=r
def alR:cf:=⟨[.g [a,al,a,.ab dd,.ab bV,.ab c3]],[],[],λA g r h o c=>⟨⟨none,[.agg [b (Bi A),.str (Bj g),b (mb r),.own 0 (h).n,.own 1 (o).n,.own 2 (c).n]],[[(aH.ad dd).av h],[(aH.ad bV).av o],[(aH.ad c3).av c]]⟩⟩⟩
theorem aw2:dV 176 alR:=ea Tryz.func176
 λ(A:Int) g _ (r:Int) h _ o _ c _=>dU ⟨.lO false [.b 0,.b 1] [.own (.c 0 3) dd 0,.own (.c 0 4) bV 1,.own (.c 0 5) c3 2],[.cell 2 115],[(.c 0 0,a),(.c 0 1,al),(.c 0 2,a),(.h 0 0,.ad dd),(.h 1 0,.ad bV),(.h 2 0,.ad c3)],⟨[.agg [U,U,U,.own 0 0,.own 1 0,.own 2 0]],[[U],[U],[U]]⟩⟩ (.z) True (ct (aJ V2 (aJ CC (aJ V3 a2)))) Tryz.func176 (trivial)
def mV:Bool:=(cond (A==4) (vu p r) false)
def p1:Bool:=(cond (A==4) ((p.n:Int)==20) false)
def vr:Bool:=(cond (A==5) (!(vu p r)) false)
def arw:G bt:=(cond (vu p r) (G.del p (toNat (o1 p r)) (toNat (i64 ((o1 p r)+1)))) p)
def Fw:Bool:=(cond (mV A r p) false (cond (p1 A p) false (cond (A==4) false (cond (vr A r p) false (cond (A==5) false true)))))
def adB:Int:=(cond (Fw A r p) oY (cond (mV A r p) oY (cond (p1 A p) (rk 6) (cond (A==4) oY (cond (vr A r p) (rk 5) 0)))))
def adC:u:=(cond (Fw A r p) oZ (cond (mV A r p) oZ (cond (p1 A p) tf (cond (A==4) oZ (cond (vr A r p) tf (p.at' (toNat (o1 p r))).F)))))
def adD:Int:=(cond (Fw A r p) (mU (FB (vu p r))) (cond (mV A r p) (mU 0) (cond (p1 A p) tg (cond (A==4) (mU 1) (cond (vr A r p) tg 0)))))
def adE:G u:=(cond (Fw A r p) o0 (cond (mV A r p) o0 (cond (p1 A p) th (cond (A==4) o0 (cond (vr A r p) th (B:G u))))))
def adF:G bt:=let a:=toNat (o1 p r);(cond (Fw A r p) (arw r p) (cond (mV A r p) (G.cF p a (⟨(p.at' a).q,h⟩:bt)) (cond (p1 A p) p (cond (A==4) (G.ins p a (⟨r,h⟩:bt)) p))))
theorem ahn(A:Int)(r:u)(p:G bt)(h:mV A r p=true):o1 p r<(p.n:Int):=by
 unfold mV at h
 cases e:(A==4)with
 |true=>rw[e]at h;exact YO _ _ h
 |false=>rw[e]at h;cases h
theorem Wp(A:Int)(r:u)(p:G bt)(h:vr A r p=false):A=5->o1 p r<(p.n:Int):=by
 intro a;unfold vr at h;rw[show(A==5)=true from iK.2 a]at h;exact YO _ _ (by simpa using h)
def amo:cf:=⟨[.p 0,.g [a,al,al,al,a]],[(.h 0 0,a),(.h 0 1,al),(.h 0 2,a),(.h 1 0,.ad dd),(.h 2 0,.ad bV),(.h 3 0,.ad c3)],[[U,U,U,.own 1 0,.own 2 0,.own 3 0],[U],[U],[U]],λ(A:Int) _ r h _ (c:Int) v (y:Int) p x ai=>⟨⟨some (p.n<=1000000),[.agg [b (adB A r p),.str (adC A r p),b (adD A r p),aP 1 cU (adE A r p)]],[[b c,.str v,b y,aP 2 fU (adF A r h p),aP 1 cU x,aP 2 fV ai],[dB],[dB],[dB]]⟩⟩⟩
theorem axs:dV 192 amo:=ea Tryz.func192
 λ(A:Int) g t r w h z (o:Int) (c:Int) v B (y:Int) p C x D ai u s=>dU (ms:=[.f,.f,.f,.f,.l,.l,.l,(.b .f (.b .f (.b .f (.b .f .l)))),.l,.l]) ⟨.lO true [] [.lA (.h 0 3) dd,.kill 1,.lA (.h 0 4) bV,.kill 2,.lA (.h 0 5) c3,.kill 3],[.cell 4 55],[(.c 0 0,a),(.c 0 1,al),(.c 0 2,a),(.c 0 3,.ab bV),(.h 0 0,a),(.h 0 1,al),(.h 0 2,a),(.h 0 3,.ab dd),(.h 0 4,.ab bV),(.h 0 5,.ab c3)],⟨[.agg [U,U,U,U]],[[U,U,U,U,U,U],[dB],[dB],[dB]]⟩⟩ (.ae (.ae (.y8 ⟨80,[.b 4],[(.h 8 0,.ad dd)],[],(.b .f (.b .f (.b .f (.b .f (.b .f .l)))))⟩ [.own (.h 0 3) dd 8] (.j ⟨262265,[],[(.t 18,K)],[],.f⟩ .z (.ae (.j ⟨34359738489,[],[(.t 35,K)],[],.f⟩ .z (.ae (.ae (.ae (.j ⟨295147905179352825977,[],[(.t 68,K)],[],.f⟩ .z .z))))))) .z))) (let b:=o1 p r;let l:=i64 (b+1);((mV A r p)=true->(((0:Int)<=b/\b<(p.n:Int))/\((toNat b)<p.n)))/\((mV A r p)=false->((p1 A p)=false->(((A==4)=true->((0:Int)<=b/\(b:Int)<=(p.n:Int)/\p.n+1<=549755813888/\1=1))/\((A==4)=false->((vr A r p)=false->(((A==5)=true->(((0:Int)<=b/\b<(p.n:Int))/\((toNat b)<p.n)))/\((A==5)=false->((vu p r)=true->((0:Int)<=b/\(b:Int)<l/\(l:Int)<=(p.n:Int))))))))))) (b1 4 (aJ CB (aJ Hm (aJ axz (aJ V4 a2)))) (ay axA (ay axB b0))) Tryz.func192 (⟨(λj=>⟨(by have:=ahn _ _ _ j;have:=AM p r Ω;omega),(by have:=ahn _ _ _ j;have:=AM p r Ω;omega)⟩),(λd=>(λe=>⟨(λm=>(by have:=d;simp [mV]at this;have:=e;simp [p1]at this;have:=eq_of_beq m;have:=AM p r Ω;omega)),(λf=>(λi=>⟨(λk=>⟨(by have:=d;simp [mV]at this;have:=e;simp [p1]at this;have:=dc f;have:=Wp _ _ _ i;have:=eq_of_beq k;have:=AM p r Ω;omega),(by have:=d;simp [mV]at this;have:=e;simp [p1]at this;have:=dc f;have:=Wp _ _ _ i;have:=eq_of_beq k;have:=AM p r Ω;omega)⟩),(λn=>(λq=>(by have:=d;simp [mV]at this;have:=e;simp [p1]at this;have:=dc f;have:=Wp _ _ _ i;have:=dc n;have:=YO _ _ q;have:=AM p r Ω;first|omega|(have:=E ((o1 p r)+1);omega))))⟩))⟩))⟩)
def n7:Bool:=(cond (decide (A<=8)) ((x.n:Int)==20) false)
def adL:G u:=(cond (A==9) (G.part x 0 (i64 ((x.n:Int)-1))) (G.part x 1 (x.n:Int)))
def arx:u:=(cond (A==9) (x.at' (toNat (i64 ((x.n:Int)-1)))) (x.at' (toNat 0)))
def Fx:Bool:=(cond (n7 A x) false (cond (A==7) false (cond (A==8) false true)))
def adG:Int:=(cond (Fx A x) 0 (cond (n7 A x) (rk 6) oY))
def adH:u:=(cond (Fx A x) (arx A x) (cond (n7 A x) tf oZ))
def adI:Int:=(cond (Fx A x) 0 (cond (n7 A x) tg (mU (i64 ((x.n:Int)+1)))))
def adJ:G u:=(cond (Fx A x) (B:G u) (cond (n7 A x) th o0))
def adK:G u:=(cond (Fx A x) (adL A x) (cond (n7 A x) x (cond (A==7) (G.app x (G.lit ([h]:List u))) (G.ins x (toNat 0) h))))
def amp:cf:=⟨[.p 0,.g [a,al,al,al,a]],[(.h 0 0,a),(.h 0 1,al),(.h 0 2,a),(.h 1 0,.ad dd),(.h 2 0,.ad bV),(.h 3 0,.ad c3)],[[U,U,U,.own 1 0,.own 2 0,.own 3 0],[U],[U],[U]],λ(A:Int) _ _ h _ (c:Int) v (y:Int) p x ai=>⟨⟨some (x.n<=1000000/\((7<=A/\A<=8)\/1<=x.n)),[.agg [b (adG A x),.str (adH A x),b (adI A x),aP 1 cU (adJ A x)]],[[b c,.str v,b y,aP 2 fU p,aP 1 cU (adK A h x),aP 2 fV ai],[dB],[dB],[dB]]⟩⟩⟩
theorem axt:dV 193 amp:=ea Tryz.func193
 λ(A:Int) g s r u h w (o:Int) (c:Int) v z (y:Int) p B x C ai t m=>dU (ms:=[(.b .f (.b .f .l)),(.b .f (.b .f .l)),(.b .f (.b .f .l)),(.b .f (.b .f .l)),.l,.l,.l,.l,.f,.l]) ⟨.lO true [] [.lA (.h 0 3) dd,.kill 1,.lA (.h 0 4) bV,.kill 2,.lA (.h 0 5) c3,.kill 3],[.cell 4 55],[(.c 0 0,a),(.c 0 1,al),(.c 0 2,a),(.c 0 3,.ab bV),(.h 0 0,a),(.h 0 1,al),(.h 0 2,a),(.h 0 3,.ab dd),(.h 0 4,.ab bV),(.h 0 5,.ab c3)],⟨[.agg [U,U,U,U]],[[U,U,U,U,U,U],[dB],[dB],[dB]]⟩⟩ (.ae (.ae (.ae (.j ⟨80,[.b 4],[(.h 0 4,.ab bV),(.t 6,al)],[],(.b .f (.b .f (.b .f .l)))⟩ (.j ⟨67108985,[],[(.t 26,K)],[],.f⟩ .z (.ae (.ae (.ae (.ae (.ae (.ae (.s (.jb [(.h 0 4,bV)]) (.jb [(.h 0 4,bV)]))))))))) .z)))) (let d:=i64 ((x.n:Int)-1);(n7 A x)=false->(((A==7)=true->(x.n+1<=549755813888))/\((A==7)=false->(((A==8)=true->((0:Int)<=0/\(0:Int)<=(x.n:Int)/\x.n+1<=549755813888/\1=1))/\((A==8)=false->(((A==9)=true->(((0:Int)<=d/\d<(x.n:Int))/\(((0:Int)<=0)/\((0:Int)<=d)/\((d:Int)<=d)/\((d:Int)<=(x.n:Int)))))/\((A==9)=false->(((0:Int)<=0/\0<(x.n:Int))/\(((0:Int)<=1)/\((1:Int)<=(x.n:Int))/\(((x.n:Int):Int)<=(x.n:Int))/\(((x.n:Int):Int)<=(x.n:Int))))))))))) (b1 4 (aJ CB (aJ Hm a2)) (ay agv b0)) Tryz.func193 (have⟨n,q⟩:=m;(λb=>⟨(λk=>(by have:=b;simp [n7]at this;have:=eq_of_beq k;omega)),(λe=>⟨(λl=>(by have:=b;simp [n7]at this;have:=dc e;have:=eq_of_beq l;omega)),(λf=>⟨(λi=>⟨(by have:=b;simp [n7]at this;have:=dc e;have:=dc f;have:=eq_of_beq i;first|omega|(have:=E ((x.n:Int)-1);omega)),(by have:=b;simp [n7]at this;have:=dc e;have:=dc f;have:=eq_of_beq i;first|omega|(have:=E ((x.n:Int)-1);omega))⟩),(λj=>⟨(by have:=b;simp [n7]at this;have:=dc e;have:=dc f;have:=dc j;omega),(by have:=b;simp [n7]at this;have:=dc e;have:=dc f;have:=dc j;omega)⟩)⟩)⟩)⟩))
def ti:Bool:=(cond (A==11) (cond (!(xX x h)) ((x.n:Int)==20) false) false)
def xW:Bool:=(cond (A==11) (!(xX x h)) false)
def KX:Bool:=(cond (A==12) (xX x h) false)
def ary:G u:=(cond (KX A h x) (G.del x (toNat (rl x h)) (toNat (i64 ((rl x h)+1)))) x)
def Fy:Bool:=(cond (ti A h x) false (cond (xW A h x) false (cond (A==11) false true)))
def adM:Int:=(cond (Fy A h x) oY (cond (ti A h x) (rk 6) oY))
def adN:u:=(cond (Fy A h x) oZ (cond (ti A h x) tf oZ))
def adO:Int:=(cond (Fy A h x) (mU (FB (xX x h))) (cond (ti A h x) tg (cond (xW A h x) (mU 1) (mU 0))))
def adP:G u:=(cond (Fy A h x) o0 (cond (ti A h x) th o0))
def adQ:G u:=(cond (Fy A h x) (ary A h x) (cond (ti A h x) x (cond (xW A h x) (G.ins x (toNat (rl x h)) h) x)))
theorem azQ(A:Int)(h:u)(x:G u)(a:KX A h x=true):rl x h<(x.n:Int):=by
 unfold KX at a
 cases e:(A==12)with
 |true=>rw[e]at a;exact t233 _ _ a
 |false=>rw[e]at a;cases a
def amq:cf:=⟨[.p 0,.g [a,al,al,al,a]],[(.h 0 0,a),(.h 0 1,al),(.h 0 2,a),(.h 1 0,.ad dd),(.h 2 0,.ad bV),(.h 3 0,.ad c3)],[[U,U,U,.own 1 0,.own 2 0,.own 3 0],[U],[U],[U]],λ(A:Int) _ _ h _ (c:Int) v (y:Int) p x ai=>⟨⟨some (x.n<=1000000),[.agg [b (adM A h x),.str (adN A h x),b (adO A h x),aP 1 cU (adP A h x)]],[[b c,.str v,b y,aP 2 fU p,aP 1 cU (adQ A h x),aP 2 fV ai],[dB],[dB],[dB]]⟩⟩⟩
theorem axu:dV 194 amq:=ea Tryz.func194
 λ(A:Int) g m r q h s (o:Int) (c:Int) v t (y:Int) p u x w ai n l=>dU (ms:=[(.b .f (.b .f .l)),(.b .f (.b .f .l)),.f,(.b .f (.b .f .l)),.l,.l,.l,.l,.f,.l]) ⟨.lO true [] [.lA (.h 0 3) dd,.kill 1,.lA (.h 0 4) bV,.kill 2,.lA (.h 0 5) c3,.kill 3],[.cell 4 55],[(.c 0 0,a),(.c 0 1,al),(.c 0 2,a),(.c 0 3,.ab bV),(.h 0 0,a),(.h 0 1,al),(.h 0 2,a),(.h 0 3,.ab dd),(.h 0 4,.ab bV),(.h 0 5,.ab c3)],⟨[.agg [U,U,U,U]],[[U,U,U,U,U,U],[dB],[dB],[dB]]⟩⟩ (.ae (.ae (.y8 ⟨80,[],[(.h 8 0,.ad bV)],[],(.b .f (.b .f (.b .f .l)))⟩ [.own (.h 0 4) bV 8] (.j ⟨131193,[],[(.t 17,K)],[],.f⟩ .z (.ae (.j ⟨17179869305,[],[(.t 34,K)],[],.f⟩ .z (.ae (.ae (.ae (.j ⟨1152921504606847089,[.b 4],[(.t 60,K)],[],.f⟩ .z .z))))))) .z))) (let b:=rl x h;let e:=i64 (b+1);(ti A h x)=false->(((xW A h x)=true->((0:Int)<=b/\(b:Int)<=(x.n:Int)/\x.n+1<=549755813888/\1=1))/\((xW A h x)=false->((A==11)=false->((KX A h x)=true->((0:Int)<=b/\(b:Int)<e/\(e:Int)<=(x.n:Int))))))) (b1 4 (aJ CB (aJ Hm (aJ V4 (aJ axC a2)))) (ay agv (ay axD b0))) Tryz.func194 ((λd=>⟨(λf=>(by have:=d;simp [ti]at this;have:=f;(try simp [xW]at this);have:=f233 x h Ω;omega)),(λi=>(λj=>(λk=>(by have:=d;simp [ti]at this;have:=i;simp [xW]at this;have:=dc j;have:=azQ _ _ _ k;have:=f233 x h Ω;first|omega|(have:=E ((rl x h)+1);omega)))))⟩))
def vs:Bool:=(cond (A==16) (decide ((jV ai h)<0)) false)
def vt:Bool:=(cond (A==14) (cond (decide ((jV ai h)<0)) ((ai.n:Int)==20) false) false)
def Bw:G bG:=(cond (decide ((jV ai h)>=0)) (G.del ai (toNat (jV ai h)) (toNat (i64 ((jV ai h)+1)))) ai)
def adR:Int:=(cond (vs A h ai) (rk 5) (cond (A==16) oY (cond (vt A h ai) (rk 6) oY)))
def adS:u:=(cond (vs A h ai) tf (cond (A==16) oZ (cond (vt A h ai) tf oZ)))
def adT:Int:=(cond (vs A h ai) tg (cond (A==16) (mU (jV ai h)) (cond (vt A h ai) tg (cond (A==15) (mU (FB (decide ((jV ai h)>=0)))) (mU (FB (decide ((jV ai h)<0))))))))
def adU:G u:=(cond (vs A h ai) th (cond (A==16) o0 (cond (vt A h ai) th o0)))
def adV(o:Int)(ai:G bG):G bG:=let a:=Bw h ai;(cond (vs A h ai) ai (cond (A==16) ai (cond (vt A h ai) ai (cond (A==15) a (G.ins a (toNat (By a h o)) (⟨h,o⟩:bG))))))
theorem f144(A:G bG)(g:u)(b:A.n<=549755813888): -1<=jV A g/\jV A g<(A.n:Int):=by
 have e:Bo A g=scan (λi=>xV (A.at' (toNat i)).q g) (λi=>i) A.n 0:=oz (λk i=>Bn A g k i) A.n _ _ b λ_ _=>rfl;unfold jV KM Tb;rw[e]
 cases h:(scan (λi=>xV (A.at' (toNat i)).q g) (λi=>i) A.n 0).1 with
 |true=>
  obtain⟨j,c,d,_,a⟩:=OC _ _ h;show-1<=(scan _ _ _ _).2/\(scan _ _ _ _).2<_;rw[a];omega
 |false=>show-1<=(-1:Int)/\(-1:Int)<_;omega
theorem aqm(h:u)(ai:G bG)(a:ai.n<=549755813888):((Bw h ai).n:Int)<=(ai.n:Int):=by
 unfold Bw
 cases decide (jV ai h>=0)
 .exact aZ _
 .show(((G.del ai _ _).n:Nat):Int)<=_;unfold G.del;simp only[];omega
def amr:cf:=⟨[.p 0,.g [a,al,al,al,a]],[(.h 0 0,a),(.h 0 1,al),(.h 0 2,a),(.h 1 0,.ad dd),(.h 2 0,.ad bV),(.h 3 0,.ad c3)],[[U,U,U,.own 1 0,.own 2 0,.own 3 0],[U],[U],[U]],λ(A:Int) _ _ h (o:Int) (c:Int) v (y:Int) p x ai=>⟨⟨some (ai.n<=1000000),[.agg [b (adR A h ai),.str (adS A h ai),b (adT A h ai),aP 1 cU (adU A h ai)]],[[b c,.str v,b y,aP 2 fU p,aP 1 cU x,aP 2 fV (adV A h o ai)],[dB],[dB],[dB]]⟩⟩⟩
theorem axv:dV 195 amr:=ea Tryz.func195
 λ(A:Int) g n r s h t (o:Int) (c:Int) v u (y:Int) p w x z ai q m=>dU (ms:=[(.b .f (.b .f (.b .f .l))),(.b .f (.b .f (.b .f .l))),.f,(.b .f (.b .f (.b .f .l))),.l,.l,.l,.l,.l,.f]) ⟨.lO true [] [.lA (.h 0 3) dd,.kill 1,.lA (.h 0 4) bV,.kill 2,.lA (.h 0 5) c3,.kill 3],[.cell 4 55],[(.c 0 0,a),(.c 0 1,al),(.c 0 2,a),(.c 0 3,.ab bV),(.h 0 0,a),(.h 0 1,al),(.h 0 2,a),(.h 0 3,.ab dd),(.h 0 4,.ab bV),(.h 0 5,.ab c3)],⟨[.agg [U,U,U,U]],[[U,U,U,U,U,U],[dB],[dB],[dB]]⟩⟩ (.ae (.ae (.s (.j ⟨65593,[],[(.t 16,K)],[],.f⟩ .z (.ae (.ae (.ae (.j ⟨2147483705,[],[(.t 31,K)],[],.f⟩ .z .z))))) (.y8 ⟨57,[],[(.h 8 0,.ad c3)],[],.f⟩ [.own (.h 0 5) c3 8] .z .z)))) (let d:=Bw h ai;let b:=jV ai h;let j:=i64 (b+1);(vs A h ai)=false->((A==16)=false->((vt A h ai)=false->(((decide (b>=0))=true->((0:Int)<=b/\(b:Int)<j/\(j:Int)<=(ai.n:Int)))/\((A==15)=false->((0:Int)<=(By d h o)/\((By d h o):Int)<=(d.n:Int)/\d.n+1<=549755813888/\1=1)))))) (b1 4 (aJ agk (aJ CB (aJ Hm (aJ V4 (aJ axF a2))))) (ay axE (ay axG b0))) Tryz.func195 ((λe=>(λf=>(λi=>⟨(λk=>(by have:=e;simp [vs]at this;have:=dc f;have:=i;simp [vt]at this;have:=an k;have:=f144 ai h Ω;first|omega|(have:=E ((jV ai h)+1);omega))),(λl=>(by have:=e;simp [vs]at this;have:=dc f;have:=i;simp [vt]at this;have:=dc l;have:=aqm h ai Ω;have:=aqn (Bw h ai) h o Ω;omega))⟩))))
end
section
def ET(A:u)(p:u):Int:=(vm A p)
def ak0:bq:=⟨[.g [al,a,al,a,.ab dd,.ab bV,.ab c3,a],.v al],λA _ _ _ _ _ _ _ p=>⟨⟨none,b (ET A p)⟩⟩⟩
def awA:bx 174 ak0:=bA Tryz.func174
 λA _ (g:Int) r _ (h:Int) o _ _ c _ _ v _ _ (y:Int) p _=>bD ⟨.pure,[.tmp 4],[(.t 0,a)],⟨[U],[]⟩⟩ (.z) True (ct (aJ Nb a2)) Tryz.func174 (trivial)
def vl(A:G N)(g:u):Nat->Int->Int->Int
 |0,_,_=>default
 |k+1,e,l=>(cond (decide (e<l)) (cond (decide ((ET (A.at' (toNat (i64 ((u64 (i64 (e+l)))/2^(toNat 1))))).q g)<0)) (vl A g k (i64 ((i64 ((u64 (i64 (e+l)))/2^(toNat 1)))+1)) l) (vl A g k e (i64 ((u64 (i64 (e+l)))/2^(toNat 1))))) e)
variable(A:G N)(g:u)
def ES:Int:=vl A g ((toNat ((A.n:Int)-0))+1) 0 (A.n:Int)
def acL:Bool:=(cond (decide ((ES A g)<(A.n:Int))) ((ET (A.at' (toNat (ES A g))).q g)==0) false)
def A9:Int:=(ES A g)
def ER:Bool:=(acL A g)
def akZ:bq:=⟨[.v (.ab bp),.v al,.fn 174 []],λA g=>⟨⟨none,.dp [b (A9 A g),.bool (ER A g)]⟩⟩⟩
def awz:bx 173 akZ:=bA Tryz.func173
 λA v _ g w=>bD ⟨.pure,[.tmp 6,.tmp 7],[(.t 0,a),(.t 1,K)],⟨[U,U],[]⟩⟩ (.ae (.ae (.ae (.j ⟨967,[],[],[],.f⟩ (.cX ⟨1991,[],[],[(.t 9,a),(.t 10,a)],some 0,false,967,[],[(.t 9,a)],λk (s:Int×Int)=>vl A g k s.1 s.2,.f,λ(s:Int×Int)=>(0<=s.1/\s.1<=s.2/\s.2<=(A.n:Int)),λ(s:Int×Int)=>(toNat (s.2-s.1)),some λ(r:Int)=>0<=r/\r<=(A.n:Int)⟩ .z) (.j ⟨192,[],[(.t 7,K)],[],.f⟩ .z .z))))) (let c:=ES A g;(((0<=(0:Int)/\(0:Int)<=(A.n:Int)/\(A.n:Int)<=(A.n:Int)))/\(∀(e:Int) (l:Int),let j:=toNat (l-e);let f:=decide (e<l);let b:=i64 ((u64 (i64 (e+l)))/2^(toNat 1));let d:=i64 (b+1);let i:=decide ((ET (A.at' (toNat b)).q g)<0);(0<=e/\e<=l/\l<=(A.n:Int))->((f=true->(((0:Int)<=1/\(1:Int)<=64)/\((0:Int)<=b/\b<(A.n:Int))))/\((f=true->((i=true->((0<=d/\d<=l/\l<=(A.n:Int))/\(toNat (l-d))<j))/\(i=false->((0<=e/\e<=b/\b<=(A.n:Int))/\(toNat (b-e))<j))))/\(f=false->(0<=e/\e<=(A.n:Int)))))))/\((0<=c/\c<=(A.n:Int))->((decide (c<(A.n:Int)))=true->((0:Int)<=c/\c<(A.n:Int))))) (ct (aJ awA a2)) Tryz.func173 (⟨⟨Ω,(λe l u=>⟨(λm=>⟨Ω,(by have:=an m;have:=E (e+l);have:=oB (x:=(i64 (e+l))) Ω Ω;have:=oe (u64 (i64 (e+l)));have:=E ((u64 (i64 (e+l)))/2^(toNat 1));omega)⟩),⟨(λh=>⟨(λo=>(by have:=an h;have:=E (e+l);have:=oB (x:=(i64 (e+l))) Ω Ω;have:=oe (u64 (i64 (e+l)));have:=E ((u64 (i64 (e+l)))/2^(toNat 1));have:=E ((i64 ((u64 (i64 (e+l)))/2^(toNat 1)))+1);omega)),(λp=>(by have:=an h;have:=E (e+l);have:=oB (x:=(i64 (e+l))) Ω Ω;have:=oe (u64 (i64 (e+l)));have:=E ((u64 (i64 (e+l)))/2^(toNat 1));omega))⟩),(λq=>Ω)⟩⟩)⟩,(λt=>(λn=>(by have:=an n;omega)))⟩)
def aat(A:G N)(g:u): ∀k i j,vl A g k i j=nv (λm=>decide ((ET (A.at' m).q g)<0)) k i j
 |0,_,_=>rfl
 |k+1,i,j=>by simp only[vl,nv,aat A g k]
def abO(A:G N)(g:u)(a:A.n<=549755813888):0<=A9 A g/\A9 A g<=(A.n:Int):=by
 show 0<=vl A g _ _ _/\vl A g _ _ _<=_;rw[aat];exact Ao Ω _ _ _ Ω Ω Ω
def ajB(A:G N)(g:u)(h:ER A g=true):A9 A g<(A.n:Int):=by
 unfold ER acL at h
 cases e:decide (ES A g<(A.n:Int))with
 |true=>exact an e
 |false=>rw[e]at h;cases h
def sE(b:Bool)(i:Int)(n:Nat):Prop:=(0<=i/\i<=(n:Int))/\(b=true->i<(n:Int))
def aD7{b:Bool}{i:Int}{n:Nat}(h:sE b i n):0<=i/\i<=(n:Int):=h.1
def YS{b:Bool}{i:Int}{n:Nat}(h:sE b i n)(a:(!b)=false):0<=i/\i<(n:Int):=⟨h.1.1,h.2 (by simpa using a)⟩
def aD6(A:G N)(g:u)(a:A.n<=549755813888):sE (ER A g) (A9 A g) A.n:=⟨abO A g a,ajB A g⟩
def u4(s:G N):Prop:=s.n<=1000000/\ ∀i,i<s.n->(s.at' i).w.n<=1048576/\(s.at' i).C.n<=1048576/\(s.at' i).P.n<=1048576
end
section
def iA(A:u)(o:G N):Int:=(A9 o A)
def h6(A:u)(o:G N):Bool:=(ER o A)
def akR:cf:=⟨[.p 0,.v al],[(.h 0 0,a),(.h 0 2,a),(.h 0 3,K),(.h 1 0,.ad bp)],[[U,.own 1 0,U,U],[U]],λA g _ _ o=>⟨⟨none,[],[[b g,.own 1 (o).n,b (iA A o),.bool (h6 A o)],[(aH.ad bp).av o]]⟩⟩⟩
def aws:dV 151 akR:=ea Tryz.func151
 λA _ (g:Int) (r:Int) h o _=>dU ⟨.heap,[],[(.h 0 0,a),(.h 0 2,a),(.h 0 3,K),(.h 1 0,.ad bp)],⟨[],[[U,.own 1 0,U,U],[U]]⟩⟩ (.z) True (b1 2 (aJ awz a2) b0) Tryz.func151 (trivial)
def xu(g:u)(p:G N)(a:p.n<=549755813888):0<=iA g p/\iA g p<=(p.n:Int):=abO p g a
def zO(g:u)(p:G N)(h:h6 g p=true):iA g p<(p.n:Int):=ajB p g h
def aEd(g:u)(p:G N)(h:(!(h6 g p))=false):iA g p<(p.n:Int):=zO g p (by simpa using h)
def lV{g:u}{p:G N}(h:u4 p):sE (h6 g p) (iA g p) p.n:=aD6 p g (by have:=h.1;omega)
def EM(g:Int)(h:G N):G N:=(G.del h (toNat g) (toNat (i64 (g+1))))
def akS:cf:=⟨[.p 0],[(.h 0 0,a),(.h 0 2,a),(.h 0 3,K),(.h 1 0,.ad bp)],[[U,.own 1 0,U,U],[U]],λ(A:Int) (g:Int) r h=>⟨⟨some (h.n<=1000000/\0<=g/\g<(h.n:Int)),[],[[b A,.own 2 ((EM g h)).n,b g,.bool r],[dB],[(aH.ad bp).av (EM g h)]]⟩⟩⟩
def awt:dV 152 akS:=ea Tryz.func152
 λ(A:Int) (g:Int) r h i c=>dU ⟨.lO true [] [.own (.h 0 1) bp 2],[],[(.h 0 0,a),(.h 0 2,a),(.h 0 3,K),(.h 2 0,.ad bp)],⟨[],[[U,.own 2 0,U,U],[dB],[U]]⟩⟩ (.z) (let b:=i64 (g+1);(0:Int)<=g/\(g:Int)<b/\(b:Int)<=(h.n:Int)) (b1 2 a2 (ay awB b0)) Tryz.func152 (have⟨d,e,f⟩:=c;(by have:=E (g+1);omega))
variable(A:Int)(g:u)(o:Int)(c:Int)(bY:Int)(b9:Bool)(ch:G N)(v:Int)(y:Bool)(p:G N)
def Ky:Bool:=(cond (decide (o<1)) true (decide (o>(i64 (1073741824-c)))))
def acF:Int:=(cond (!y) 5 (cond (A==21) 0 (cond (Ky o c) 2 0)))
def acG:u:=⟨#[]⟩
def acH:Int:=(cond (!y) 0 (cond (A==21) (imax (i64 ((p.at' (toNat v)).aw-c)) 0) 0))
def acI:G u:=(B:G u)
def acJ:G N:=let a:=p.at' (toNat v);(cond (!y) p (cond (A==21) p (cond (Ky o c) p (G.cF p (toNat v) (⟨a.q,a.F,a.z,a.M,a.w,a.C,a.P,(i64 (c+o))⟩:N)))))
def akT:cf:=⟨[.p 0,.g [a,al,al,al,a]],[(.h 0 0,a),(.h 0 2,a),(.h 0 3,K),(.h 1 0,.ad bp)],[[U,.own 1 0,U,U],[U]],λ(A:Int) _ _ _ (o:Int) (c:Int) (v:Int) y p=>let d:=acJ A o c v y p;⟨⟨some (sE y v p.n/\p.n<=1000000),[.agg [b (acF A o c y),.str acG,b (acH A c v y p),aP 1 cU acI]],[[b c,.own 1 (d).n,b v,.bool y],[(aH.ad bp).av d]]⟩⟩⟩
def awu:dV 153 akT:=ea Tryz.func153
 λ(A:Int) g l r m h n (o:Int) (c:Int) (v:Int) y p q f=>dU (ms:=[.f,.l,(.b .f (.b .f .l)),.l,.l,.l,.l,.f]) ⟨.heap,[.cell 4 55],[(.c 0 0,a),(.c 0 1,al),(.c 0 2,a),(.c 0 3,.ab bV),(.h 0 0,a),(.h 0 2,a),(.h 0 3,K),(.h 1 0,.ad bp)],⟨[.agg (us 4 [])],[[U,.own 1 0,U,U],[U]]⟩⟩ (.ae (.ae (.ae (.ae (.s (.j ⟨1125899906842681,[],[(.t 50,K)],[],.f⟩ .z .z) .z))))) ((!y)=false->(((0:Int)<=v/\v<(p.n:Int))/\(((A==21)=true->((toNat v)<p.n))/\((A==21)=false->((Ky o c)=false->((toNat v)<p.n)))))) (b1 2 a2 b0) Tryz.func153 (have⟨j,k⟩:=f;(λb=>⟨(by have:=YS Ψ b;omega),⟨(λi=>(by have:=YS Ψ b;omega)),(λd=>(λe=>(by have:=YS Ψ b;have:=dc d;have:=e;simp [Ky]at this;omega)))⟩⟩))
def A8:G N:=(cond (!b9) (G.ins ch (toNat bY) (⟨g,0,⟨#[]⟩,0,(B:G bt),(B:G u),(B:G bG),0⟩:N)) ch)
def acK(v:u)(y:Int)(p:G bt)(x:G u)(ai:G bG)(bY:Int)(b9:Bool)(ch:G N):G N:=let e:=A8 g bY b9 ch;let b:=toNat bY;let d:=G.cF e b (⟨(e.at' b).q,c,v,y,p,x,ai,(e.at' b).aw⟩:N);let a:=d.at' b;(cond (A==1) (G.cF d b (⟨a.q,a.F,a.z,a.M,a.w,a.C,a.P,0⟩:N)) d)
def WB(g:u)(bY:Int)(b9:Bool)(ch:G N)(h:sE b9 bY ch.n):0<=bY/\bY<(((A8 g bY b9 ch).n:Nat):Int):=by
 unfold A8
 cases b9 with
 |true=>exact⟨h.1.1,h.2 rfl⟩
 |false=>
  refine⟨h.1.1,?_⟩;show bY<((ch.n+1:Nat):Int);have:=h.1.2;omega
def akX:cf:=⟨[.p 0,.g [a,al,al,al,a],.g [a,al,a,.ab dd,.ab bV,.ab c3]],[(.h 0 0,a),(.h 0 2,a),(.h 0 3,K),(.h 1 0,.ad bp)],[[U,.own 1 0,U,U],[U]],λ(A:Int) g _ _ _ (c:Int) v (y:Int) p x ai (bn:Int) (bY:Int) b9 ch=>let d:=acK A g c v y p x ai bY b9 ch;⟨⟨some (sE b9 bY ch.n/\ch.n<=1000000),[],[[b bn,.own 1 (d).n,b bY,.bool b9],[(aH.ad bp).av d]]⟩⟩⟩
def awy:dV 155 akX:=ea Tryz.func155
 λ(A:Int) g m r t h u (o:Int) (c:Int) v w (y:Int) p z x B ai q (bn:Int) (bY:Int) b9 ch s e=>dU (ms:=[.l,.l,.l,.f]) ⟨.heap,[],[(.h 0 0,a),(.h 0 2,a),(.h 0 3,K),(.h 1 0,.ad bp)],⟨[],[[U,.own 1 0,U,U],[U]]⟩⟩ (.ae (.j ⟨49,[.b 4],[(.h 1 0,.ad bp)],[],.f⟩ .z .z)) (let d:=A8 g bY b9 ch;((!b9)=true->((0:Int)<=bY/\(bY:Int)<=(ch.n:Int)/\ch.n+1<=549755813888/\1=1))/\(((0:Int)<=bY/\bY<(d.n:Int))/\(((toNat bY)<d.n)/\((A==1)=true->((toNat bY)<d.n))))) (b1 2 a2 (ay awC b0)) Tryz.func155 (have⟨k,l⟩:=e;⟨(λf=>(by have:=aD7 (b:=b9) (i:=bY) (n:=ch.n) Ψ;omega)),⟨(by have:=WB g bY b9 ch (by repeat first|assumption|apply xc|apply xb|apply j3|apply ov|apply And.intro|apply Ed|apply Ec|apply lV);omega),⟨(by have:=WB g bY b9 ch (by repeat first|assumption|apply xc|apply xb|apply j3|apply ov|apply And.intro|apply Ed|apply Ec|apply lV);omega),(λj=>(by have:=WB g bY b9 ch (by repeat first|assumption|apply xc|apply xb|apply j3|apply ov|apply And.intro|apply Ed|apply Ec|apply lV);omega))⟩⟩⟩)
def A1(g:G N):Nat->Int->G N->G N
 |0,_,_=>default
 |k+1,e,l=>(cond (decide (e<(g.n:Int))) (A1 g k (i64 (e+1)) (G.app l (G.lit ([(g.at' (toNat e))]:List N)))) l)
def aq_(g:G N):G N:=A1 g ((toNat ((g.n:Int)-0))+1) 0 (B:G N)
def jd:Int:=A
def iS(g:G N):G N:=(aq_ g)
def akL:cf:=⟨[.g [a,.ab bp]],[],[],λA g=>⟨⟨none,[.agg [b (jd A),.own 0 ((iS g)).n]],[[(aH.ad bp).av (iS g)]]⟩⟩⟩
def awo:dV 136 akL:=ea Tryz.func136
 λ(A:Int) g j=>dU ⟨.lO false [] [.own (.c 0 1) bp 0],[.cell 2 46],[(.c 0 0,a),(.h 0 0,.ad bp)],⟨[.agg [U,.own 0 0]],[[U]]⟩⟩ (.ae (.ae (.j ⟨12,[],[],[],.f⟩ (.ae (.cX ⟨14348,[.b 0],[(.h 2 1,bp)],[(.t 13,a),(.h 3 0,.ad bp)],some 0,false,12,[],[(.h 3 0,.ad bp)],λk (s:Int×G N)=>A1 g k s.1 s.2,.f,λ(s:Int×G N)=>((0<=s.1/\s.1<=(g.n:Int))/\(s.2.n:Int)<=0+(s.1-0)),λ(s:Int×G N)=>(toNat ((g.n:Int)-s.1)),some λ(r:G N)=>(r.n:Int)<=0+max ((g.n:Int)-0) 0⟩ .z)) .z))) ((((0<=(0:Int)/\(0:Int)<=(g.n:Int))/\((0:Nat):Int)<=0+((0:Int)-0)))/\(∀(e:Int) (l:G N),let c:=decide (e<(g.n:Int));let b:=i64 (e+1);((0<=e/\e<=(g.n:Int))/\(l.n:Int)<=0+(e-0))->((c=true->(((0:Int)<=e/\e<(g.n:Int))/\(l.n+1<=549755813888)))/\((c=true->(((0<=b/\b<=(g.n:Int))/\(((l.n+1):Nat):Int)<=0+(b-0))/\(toNat ((g.n:Int)-b))<(toNat ((g.n:Int)-e))))/\(c=false->((l.n:Int)<=0+max ((g.n:Int)-0) 0)))))) (ct (aJ V2 (aJ CC (aJ V3 a2)))) Tryz.func136 (⟨Ω,(λe l i=>⟨(λd=>⟨(by have:=an d;omega),(by have:=an d;omega)⟩),⟨(λf=>(by have:=an f;have:=E (e+1);omega)),(λh=>Ω)⟩⟩)⟩)
end
def acA(y:Int)(p:Int):Bool:=(cond (y !=0) (decide (y<=p)) false)
def je(y:Int)(p:Int):Bool:=(acA y p)
def akN:cf:=⟨[.g [al,a,al,a,.ab dd,.ab bV,.ab c3,a],.p 0],[(.h 1 0,a),(.h 1 2,a),(.h 1 3,K)],[[.ptr 1 0],[U,.gone,U,U]],λ_ _ _ _ _ _ _ y p x ai=>⟨⟨none,[.bool (je y p)],[[.ptr 1 0],[b p,.gone,b x,.bool ai]]⟩⟩⟩
def age:dV 138 akN:=ea Tryz.func138
 λA _ (g:Int) r _ (h:Int) o _ c _ v _ (y:Int) (p:Int) (x:Int) ai=>dU ⟨.heap,[.tmp 3],[(.t 0,K),(.h 1 0,a),(.h 1 2,a),(.h 1 3,K)],⟨[U],[[.ptr 1 0],[U,.gone,U,U]]⟩⟩ (.ae (.j ⟨8,[.b 2],[(.t 3,K)],[],.f⟩ .z .z)) True (b1 2 a2 b0) Tryz.func138 (trivial)
section
def s5(A:Int)(g:Int)(r:Bool)(h:G N):Nat->Int->Bool×Int×Int×Int×Bool×G N
 |0,_=>default
 |k+1,e=>(cond (decide (e<(h.n:Int))) (cond (je (h.at' (toNat e)).aw A) (true,e,A,g,r,h) (s5 A g r h k (i64 (e+1)))) (false,default,default,default,default,default))
variable(A:Int)(g:Int)(r:Bool)(h:G N)
def xI:Bool×Int×Int×Int×Bool×G N:=s5 A g r h ((toNat ((h.n:Int)-0))+1) 0
def A6:Bool:=(cond (xI A g r h).1 false true)
def n5:Int:=(cond (A6 A g r h) (-1) (xI A g r h).2.1)
def Sy:Int:=(cond (A6 A g r h) A (xI A g r h).2.2.1)
def Sz:Int:=(cond (A6 A g r h) g (xI A g r h).2.2.2.1)
def SA:Bool:=(cond (A6 A g r h) r (xI A g r h).2.2.2.2.1)
def SB:G N:=(cond (A6 A g r h) h (xI A g r h).2.2.2.2.2)
theorem yW{P:Program}{f:FuncId}{b:List J}{H:Heap}{rs a:List J}{H' kL:Heap}(h:fL P f b H rs H')(c:rs=a)(d:H'=kL):fL P f b H a kL:=by subst c d;exact h
theorem agZ(A:Int)(g:Int)(r:Bool)(h:G N)(p:h.n<=549755813888): ∀(m c i:Nat),i+m=h.n->m<=c->(s5 A g r h (c+1) (i:Int)=(false,default,default,default,default,default)/\ ∀t,i<=t->t<h.n->je (h.at' t).aw A=false)\/ ∃t,i<=t/\t<h.n/\s5 A g r h (c+1) (i:Int)=(true,(t:Int),A,g,r,h)/\je (h.at' t).aw A=true/\ ∀u,i<=u->u<t->je (h.at' u).aw A=false
 |0,c,i,o,_=>by
  refine .inl ⟨?_,λt f d=>by omega⟩;show(cond (decide ((i:Int)<(h.n:Int))) _ _)=_;rw[bj Ω];rfl
 |m+1,c,i,o,s=>by
  obtain⟨c,rfl⟩: ∃q,c=q+1:=⟨c-1,Ω⟩;have e:s5 A g r h (c+1+1) (i:Int)=(cond (je (h.at' i).aw A) (true,(i:Int),A,g,r,h) (s5 A g r h (c+1) ((i+1:Nat):Int))):=by
   show(cond (decide ((i:Int)<(h.n:Int))) _ _)=_;rw[bM Ω,gi,E _];rfl
  rw[e]
  cases j:je (h.at' i).aw A with
  |true=>exact .inr ⟨i,bN _,Ω,rfl,j,λu f d=>by omega⟩
  |false=>
   rcases agZ A g r h p m c (i+1) Ω Ω with⟨f,d⟩|⟨t,f,d,k,l,n⟩
   .refine .inl ⟨f,λt a b=> ?_⟩
    by_cases q:t=i
    .subst q;exact j
    .exact d t Ω b
   .refine .inr ⟨t,Ω,d,k,l,λu a b=> ?_⟩
    by_cases q:u=i
    .subst q;exact j
    .exact n u Ω b
theorem X8(A:Int)(g:Int)(r:Bool)(h:G N)(f:h.n<=549755813888):(Sy A g r h=A/\Sz A g r h=g/\SA A g r h=r/\SB A g r h=h)/\
  ((n5 A g r h= -1/\ ∀t,t<h.n->je (h.at' t).aw A=false)\/ ∃t:Nat,t<h.n/\n5 A g r h=(t:Int)/\je (h.at' t).aw A=true/\ ∀u,u<t->je (h.at' u).aw A=false):=by
 unfold Sy Sz SA SB n5 A6 xI;rcases agZ A g r h f h.n (toNat ((h.n:Int)-0)) 0 Ω Ω with⟨b,a⟩|⟨t,b,a,c,d,e⟩
 .rw[show s5 A g r h (toNat ((h.n:Int)-0)+1) 0=_ from b];exact⟨⟨rfl,rfl,rfl,rfl⟩,.inl ⟨rfl,λt i=>a t (cp _) i⟩⟩
 .rw[show s5 A g r h (toNat ((h.n:Int)-0)+1) 0=_ from c];exact⟨⟨rfl,rfl,rfl,rfl⟩,.inr ⟨t,a,rfl,d,λu j=>e u (cp _) j⟩⟩
theorem aql(A:Int)(g:Int)(r:Bool)(h:G N)(b:h.n<=549755813888): -1<=n5 A g r h/\n5 A g r h<(h.n:Int):=by
 rcases(X8 A g r h b).2 with⟨a,_⟩|⟨t,c,a,_⟩<;>rw[a]<;>omega
def akQ:cf:=⟨[.o 2,.jU 138 [0]],[(.h 1 0,a),(.h 1 2,a),(.h 1 3,K),(.h 2 0,.ad bp)],[[.ptr 1 0],[U,.gone,U,U],[U]],λA g r h=>⟨⟨none,[b (n5 A g r h)],[[.ptr 1 0],[b A,.gone,b g,.bool r],[(aH.ad bp).av h]]⟩⟩⟩
theorem awr:dV 150 akQ:=ea Tryz.func150
 λ(A:Int) (g:Int) r h n=>have⟨i,j,l,bk⟩:=(X8 A g r h n).1;yW (rs:=[b (n5 A g r h)]) (H':=[[.ptr 1 0],[b (Sy A g r h),.gone,b (Sz A g r h),.bool (SA A g r h)],[(aH.ad bp).av (SB A g r h)]]) (dU ⟨.heap,[.tmp 4],[(.t 0,a),(.h 1 0,a),(.h 1 2,a),(.h 1 3,K),(.h 2 0,.ad bp)],⟨[U],[[.ptr 1 0],[U,.gone,U,U],[U]]⟩⟩ (.ae (.j ⟨16,[],[],[],.f⟩ (.ae (.cX ⟨403,[],[],[(.t 8,a)],some 0,true,16,[],[],λk (s:Int)=>s5 A g r h k s,.f,λ(s:Int)=>(0<=s/\s<=(h.n:Int)),λ(s:Int)=>(toNat ((h.n:Int)-s)),none⟩ .z)) .z)) (((0<=(0:Int)/\(0:Int)<=(h.n:Int)))/\(∀(e:Int),let f:=decide (e<(h.n:Int));let c:=i64 (e+1);(0<=e/\e<=(h.n:Int))->((f=true->(((0:Int)<=e/\e<(h.n:Int))/\((toNat e)<h.n)))/\(f=true->((je (h.at' (toNat e)).aw A)=false->((0<=c/\c<=(h.n:Int))/\(toNat ((h.n:Int)-c))<(toNat ((h.n:Int)-e)))))))) (b1 3 a2 (ay age b0)) Tryz.func150 (⟨Ω,(λe p=>⟨(λd=>⟨(by have:=an d;omega),(by have:=an d;omega)⟩),(λm=>(λo=>(by have:=an m;have:=E (e+1);omega)))⟩)⟩)) rfl (by rw[i,j,l,bk];rfl)
end
section
variable(A:Int)(aB:Int)(cQ:Int)(hx:G N)(g:Int)(r:Bool)(h:G N)
def A2:G N:=(cond (!(je (hx.at' (toNat cQ)).aw A)) (G.cF hx (toNat aB) (hx.at' (toNat cQ))) hx)
def xH:Int:=(cond (!(je (hx.at' (toNat cQ)).aw A)) (i64 (aB+1)) aB)
def vi(A:Int):Nat->Int->Int->G N->Int×G N
 |0,_,_,_=>default
 |k+1,aB,cQ,hx=>(cond (decide (cQ<(hx.n:Int))) (vi A k (xH A aB cQ hx) (i64 (cQ+1)) (A2 A aB cQ hx)) (aB,hx))
def EI:Int×G N:=vi A ((toNat ((h.n:Int)- (i64 ((n5 A g r h)+1))))+1) (n5 A g r h) (i64 ((n5 A g r h)+1)) h
def lD:G N:=(cond ((n5 A g r h)==(-1)) h (G.cut (G.xf (EI A g r h).2 (toNat (EI A g r h).1) ((⟨⟨#[]⟩,0,⟨#[]⟩,0,(B:G bt),(B:G u),(B:G bG),0⟩:N):N)) (toNat (EI A g r h).1)))
theorem aAn(A i j:Int)(s:G N):(A2 A i j s).n=s.n:=by
 unfold A2
 cases (!(je (s.at' (toNat j)).aw A))<;>rfl
theorem aAo(A i j:Int)(s:G N)(h:0<=i/\i<549755813888):i<=xH A i j s/\xH A i j s<=i+1:=by
 unfold xH;have:=E (i+1)
 cases (!(je (s.at' (toNat j)).aw A))<;>simp only[aR,aX]<;>omega
def akM:cf:=⟨[.o 2,.jU 138 [0]],[(.h 1 0,a),(.h 1 2,a),(.h 1 3,K),(.h 2 0,.ad bp)],[[.ptr 1 0],[U,.gone,U,U],[U]],λ(A:Int) (g:Int) r h=>let c:=lD A g r h;⟨⟨some (h.n<=1000000),[.own 3 (c).n],[[.ptr 1 0],[b A,.gone,b g,.bool r],[dB],[(aH.ad bp).av c]]⟩⟩⟩
theorem awp:dV 137 akM:=ea Tryz.func137
 λ(A:Int) (g:Int) r h w v=>dU (ms:=[.f,.l,.l,.l]) ⟨.lO false [] [.own (.t 0) bp 3],[.tmp 4],[(.h 3 0,.ad bp),(.h 1 0,a),(.h 1 2,a),(.h 1 3,K)],⟨[.own 3 0],[[.ptr 1 0],[U,.gone,U,U],[dB],[U]]⟩⟩ (.ae (.ae (.ae (.j ⟨49,[],[],[],.f⟩ (.ae (.cX ⟨115,[],[],[(.t 5,a),(.t 6,a),(.h 2 0,.ad bp)],some 0,false,49,[],[(.t 5,a),(.h 2 0,.ad bp)],λk (s:Int×Int×G N)=>vi A k s.1 s.2.1 s.2.2,.f,λ(s:Int×Int×G N)=>(0<=s.1/\s.1<s.2.1/\s.2.1<=(s.2.2.n:Int)/\s.2.2.n=h.n),λ(s:Int×Int×G N)=>(toNat ((s.2.2.n:Int)-s.2.1)),some λ(c:Int×G N)=>(0<=c.1/\c.1<(c.2.n:Int)/\c.2.n=h.n)⟩ (.ae (.j ⟨1070530803,[],[(.h 2 0,.ad bp),(.t 5,a)],[],.f⟩ .z .z)))) (.s .Xp (.s .Xp .z)))))) (let d:=n5 A g r h;let m:=i64 (d+1);let b:=EI A g r h;(d==(-1))=false->((((0<=d/\d<m/\m<=(h.n:Int)/\h.n=h.n))/\(∀(aB:Int) (cQ:Int) (hx:G N),let l:=xH A aB cQ hx;let i:=i64 (cQ+1);let f:=A2 A aB cQ hx;let e:=decide (cQ<(hx.n:Int));(0<=aB/\aB<cQ/\cQ<=(hx.n:Int)/\hx.n=h.n)->((e=true->((((0:Int)<=cQ/\cQ<(hx.n:Int))/\((toNat cQ)<hx.n))/\((!(je (hx.at' (toNat cQ)).aw A))=true->(((0:Int)<=aB/\aB<(hx.n:Int))/\((toNat aB)<hx.n)))))/\((e=true->((0<=l/\l<i/\i<=(f.n:Int)/\f.n=h.n)/\(toNat ((f.n:Int)-i))<(toNat ((hx.n:Int)-cQ))))/\(e=false->((0<=aB/\aB<(hx.n:Int)/\hx.n=h.n)))))))/\(((0<=b.1/\b.1<(b.2.n:Int)/\b.2.n=h.n))->(((0:Int)<=b.1/\b.1<(b.2.n:Int))/\((0:Int)<=b.1/\b.1<(b.2.n:Int)))))) (b1 3 a2 (ay age (ay awr b0))) Tryz.func137 ((λn=>⟨⟨(by have:=dc n;have:=aql A g r h Ω;have:=E ((n5 A g r h)+1);omega),(λaB cQ hx u=>⟨(λj=>⟨⟨(by have:=an j;omega),(by have:=an j;omega)⟩,(λp=>⟨Ω,Ω⟩)⟩),⟨(λo=>(by have:=an o;have:=aAo A aB cQ hx Ω;have:=aAn A aB cQ hx;have:=E (cQ+1);omega)),(λq=>Ω)⟩⟩)⟩,(λt=>⟨Ω,Ω⟩)⟩))
end
end Go.Proofs.YtadmdaokcgjdiaaGreatDoor
namespace Go.af
open Go
def azx{x y:UInt8}{a b:List UInt8} :Op.bytesLess (x::a) (y::b)=true↔x<y\/(x=y/\Op.bytesLess a b=true):=by
 simp only[Op.bytesLess,IJ,b4,j7,iK]
def ahd: ∀{a b c:List UInt8},Op.bytesLess a b=true->Op.bytesLess b c=true->Op.bytesLess a c=true
 |_,_,[],_,h=>by simp [Op.bytesLess]at h
 |[],_,_::_,_,_=>rfl
 |_::_,[],_::_,h,_=>by simp [Op.bytesLess]at h
 |x::a,y::b,z::c,e,d=>by
  rw[azx]at e d |-;rcases e with e|⟨g,e⟩
  .rcases d with d|⟨f,d⟩
   .exact .inl (UInt8.lt_trans e d)
   .subst f;exact .inl e
  .subst g;rcases d with d|⟨f,d⟩
   .exact .inl d
   .exact .inr ⟨f,ahd e d⟩
def chain{R:Nat->Nat->Prop}(n:Nat)(a: ∀i,i+1<n->R i (i+1))(b: ∀i j k,i<j->j<k->k<n->R i j->R j k->R i k): ∀(d i:Nat),i+d+1<n->R i (i+d+1)
 |0,i,h=>a i h
 |d+1,i,h=>b i (i+d+1) (i+(d+1)+1) Ω Ω h (chain n a b d i Ω) (a (i+d+1) h)
def ao8{R:Nat->Nat->Prop}(n:Nat)(a: ∀i,i+1<n->R i (i+1))(b: ∀i j k,i<j->j<k->k<n->R i j->R j k->R i k)(i j:Nat)(c:i<j)(d:j<n):R i j:=by
 have:=chain n a b (j-i-1) i Ω;rwa [show i+(j-i-1)+1=j by omega]at this
def ab4{a ρ:Type}(F:Nat->Int->a->ρ)(n:Nat)(step:Nat->a->a)(c:a->ρ)(e:n<=549755813888)(b: ∀k i s,F (k+1) i s=bif decide (i<(n:Int))then F k (i64 (i+1)) (step (toNat i) s)else c s):
  ∀(m k i:Nat) (s:a),i+m=n->m<=k->F (k+1) (i:Int) s=c ((List.range' i m).foldl (λs j=>step j s) s)
 |0,k,i,s,d,_=>by
  rw[b,show decide ((i:Int)<(n:Int))=false by simp;omega];rfl
 |m+1,k,i,s,d,g=>by
  obtain⟨k,rfl⟩: ∃f,k=f+1:=⟨k-1,Ω⟩;rw[b,show decide ((i:Int)<(n:Int))=true by simp;omega];simp only[aR];rw[E ((i:Int)+1)];have:=ab4 F n step c e b m k (i+1) (step i s) Ω Ω;rw[show(((i+1:Nat)):Int)=(i:Int)+1 by omega]at this;rw[show toNat (i:Int)=i from gi i,this];rfl
def aqJ{a ρ:Type}(F:Nat->Int->a->ρ)(n:Nat)(step:Nat->a->a)(b:a->ρ)(d:n<=549755813888)(c: ∀k i s,F (k+1) i s=bif decide (i<(n:Int))then F k (i64 (i+1)) (step (toNat i) s)else b s)(s:a):
  F (toNat ((n:Int)-0)+1) 0 s=b ((List.range n).foldl (λs j=>step j s) s):=by
 have:=ab4 F n step b d c n (toNat ((n:Int)-0)) 0 s Ω Ω;rw[List.range_eq_range'];exact this
section
variable {α:Type}
def aqK{b:Type}(s:G α)(step:α->b->b)(st:b):(List.range s.n).foldl (λst j=>step (s.at' j) st) st=s.B.foldl (λst a=>step a st) st:=by
 unfold G.B;rw[List.foldl_map]
def aAJ{a b:Nat}(h:a≠b):Nat.beq a b=false:=by
 cases e:Nat.beq a b with
 |false=>rfl
 |true=>exact absurd (eg e) h
def Zi(s:G α)(i:Nat)(c:i<s.n):(s.del i (i+1)).B=s.B.take i++s.B.drop (i+1):=by
 apply List.ext_getElem
 .simp only[bc,dq,iJ,pB];show s.n- (i+1-i)=_;omega
 .intro j a b;have d:j<s.n- (i+1-i):=by rw[bc]at a;exact a
  have e:(s.del i (i+1)).B[j]=(s.del i (i+1)).at' j:=by simp [G.B]
  rw[e];simp only[G.del];rcases fE j i with g|g
  .rw[aaB g,List.getElem_append_left (by simp [bc];omega)];simp [G.B]
  .rw[aaz g,List.getElem_append_right (by simp [bc];omega)];simp only[List.getElem_drop,G.B,List.getElem_map,List.getElem_range,aX,iJ,List.length_map,List.length_range]
   congr 1;omega
def akv(s:G α){i:Nat}(h:i<s.n):s.B.drop i=s.at' i::s.B.drop (i+1):=by
 rw[qR (by rw[bc];exact h)];simp [G.B]
end
end Go.af
namespace Go.Proofs.YtadmdaokcgjdiaaGreatDoor
open Go Go.RowKit Go.af
def az6{α:Type}(s:G α){t:Nat}{a:α}(h:a∈s.B.take t): ∃i,i<s.n/\i<t/\s.at' i=a:=by
 obtain⟨i,c,b⟩:=List.mem_take_iff_getElem.1 h;rw[bc]at c;refine⟨i,Ω,Ω,?_⟩;rw[<-b];simp [G.B]
def O5{α:Type}(s:G α)(t:Nat):s.B[t]? =if t<s.n then some (s.at' t)else none:=by
 by_cases h:t<s.n
 .rw[a5 h,hz s h]
 .rw[aS h];exact eX (by rw[bc];omega)
def aAI{α:Type}{s t:G α}(h:s.B=t.B):s.n=t.n:=by rw[<-bc s,<-bc t,h]
section
variable {α γ:Type}
def ab5(f:α->γ): ∀(l:List α) (a:List γ),l.foldl (λb x=>b++[f x]) a=a++l.map f
 |[],a=>by simp
 |x::l,a=>by rw[IH,ab5 f l];simp
def az1[Inhabited γ](F:Nat->Int->G γ->G γ)(s:G α)(f:α->γ)(d:s.n<=549755813888)(c: ∀k i a,F (k+1) i a=bif decide (i<(s.n:Int))then F k (i64 (i+1)) (G.app a (G.lit [f (s.at' (toNat i))]))else a)(a:G γ):
  (F (toNat ((s.n:Int)-0)+1) 0 a).B=a.B++s.B.map f:=by
 rw[aqJ F s.n (λj a=>G.app a (G.lit [f (s.at' j)])) id d (λk i a=>c k i a) a];rw[<-ab5 f s.B a.B,<-aqK s (λx b=>b++[f x])];exact(List.foldl_hom G.B λst j=>by rw[iL,iq]).symm
end
structure Fit (now:Int) (s:G N):Prop where
 n:s.n<=12
 wJ:P8 s.n (λi=>(s.at' i).q)
 ok: ∀i,i<s.n->iT (s.at' i).F (s.at' i).z (s.at' i).M (s.at' i).w (s.at' i).C (s.at' i).P=0
 V: ∀i,i<s.n->(s.at' i).w.n<=1048576/\(s.at' i).C.n<=1048576/\(s.at' i).P.n<=1048576
 u: ∀i,i<s.n->(s.at' i).aw=0\/(now<(s.at' i).aw/\(s.at' i).aw<=1073741824)
def aDu{α:Type}(l m:List α)(x y:α){i:Nat}(h:l.length=i):(l++x::m).set i y=l++y::m:=by
 subst h;rw[List.set_append_right _ _ (bN _)];simp
def aDt{α:Type}(s:G α)(i:Nat)(y:α)(h:i<s.n):(s.cF i y).B=s.B.take i++y::s.B.drop (i+1):=by
 rw[Zj];have b:s.B=s.B.take i++s.at' i::s.B.drop (i+1):=by rw[<-akv s h,qL]
 have a:=aDu (s.B.take i) (s.B.drop (i+1)) (s.at' i) y (i:=i) (by rw[iJ,bc];omega);rw[<-b]at a;exact a
end Go.Proofs.YtadmdaokcgjdiaaGreatDoor
namespace Go.Proofs.YtadmdaokcgjdiaaGreatDoor
open Go Go.Proofs Go.RowKit Go.Shelf Go.af
abbrev amd:cf:=xn bZ
def axm:ju Tryz.prog 140 amd.hd:=AF (E:=bZ) (z:=(.agg #[.int .i64 0,.int .i64 0,.int .i64 0,.int .i64 0,.string ⟨#[]⟩,.int .i64 0,.slice none 0 0])) (AE (ρ:=AD 140 47 125) (b:=80) mixed ⟨ "slices.Delete[[]rostrum/api.Client,rostrum/api.Client]",Ξ,Ξ⟩ Ξ Ξ) ⟨_,_,Tryz.func140,rfl,Ξ⟩ (sn rfl Ξ)
end Go.Proofs.YtadmdaokcgjdiaaGreatDoor
namespace Go.Proofs.YtadmdaokcgjdiaaGreatDoor
open Go Go.RowKit Go.af
section
def KO(A:Int):Int:=A
def KP(g:u):u:=g
def KQ(r:Int):Int:=r
def KR(h:G u):G u:=h
def ama:bq:=⟨[.g [a,al,a,.ab bV]],λA g r h=>⟨⟨none,.agg [b (KO A),.str (KP g),b (KQ r),aP 1 cU (KR h)]⟩⟩⟩
def agu:bx 113 ama:=bA Tryz.func113
 λ(A:Int) g _ (r:Int) h _ _=>bD ⟨.pure,[.cell 2 55],[(.c 0 0,a),(.c 0 1,al),(.c 0 2,a),(.c 0 3,.ab bV)],⟨[.agg (us 4 [])],[]⟩⟩ (.z) True (ct (aJ CC a2)) Tryz.func113 (trivial)
def xU(A:G ar):Nat->Int->G ar->G ar
 |0,_,_=>default
 |k+1,e,l=>(cond (decide (e<(A.n:Int))) (xU A k (i64 (e+1)) (G.app l (G.lit ([(⟨(A.at' (toNat e)).q,(A.at' (toNat e)).F,(A.at' (toNat e)).z,(KO (A.at' (toNat e)).M),(KP (A.at' (toNat e)).w),(KQ (A.at' (toNat e)).C),(KR (A.at' (toNat e)).P)⟩:ar)]:List ar)))) l)
variable(A:G ar)(g:Int)
def Tg:G ar:=xU A ((toNat ((A.n:Int)-0))+1) 0 (B:G ar)
def gy:G ar:=(Tg A)
def al7:bq:=⟨[.v (.ab bZ)],λA=>⟨⟨none,(aH.ad bZ).av (gy A)⟩⟩⟩
def axg:bx 108 al7:=bA Tryz.func108
 λA i _=>bD ⟨.own bZ,[.tmp 2],[(.h 0 0,.ad bZ)],⟨[],[]⟩⟩ (.ae (.ae (.j ⟨12,[],[],[],.f⟩ (.ae (.cX ⟨460,[],[(.t 3,bZ)],[(.t 8,a),(.h 0 0,.ad bZ)],some 0,false,12,[],[(.h 0 0,.ad bZ)],λk (s:Int×G ar)=>xU A k s.1 s.2,.f,λ(s:Int×G ar)=>((0<=s.1/\s.1<=(A.n:Int))/\(s.2.n:Int)<=0+(s.1-0)),λ(s:Int×G ar)=>(toNat ((A.n:Int)-s.1)),some λ(r:G ar)=>(r.n:Int)<=0+max ((A.n:Int)-0) 0⟩ .z)) .z))) ((((0<=(0:Int)/\(0:Int)<=(A.n:Int))/\((0:Nat):Int)<=0+((0:Int)-0)))/\(∀(e:Int) (l:G ar),let c:=decide (e<(A.n:Int));let b:=i64 (e+1);((0<=e/\e<=(A.n:Int))/\(l.n:Int)<=0+(e-0))->((c=true->(((0:Int)<=e/\e<(A.n:Int))/\(l.n+1<=549755813888)))/\((c=true->(((0<=b/\b<=(A.n:Int))/\(((l.n+1):Nat):Int)<=0+(b-0))/\(toNat ((A.n:Int)-b))<(toNat ((A.n:Int)-e))))/\(c=false->((l.n:Int)<=0+max ((A.n:Int)-0) 0)))))) (ct (aJ agu a2)) Tryz.func108 (⟨Ω,(λe l h=>⟨(λd=>⟨(by have:=an d;omega),(by have:=an d;omega)⟩),⟨(λf=>(by have:=an f;have:=E (e+1);omega)),(λg=>Ω)⟩⟩)⟩)
def ag7(A:G ar)(d:A.n<=549755813888): ∀(m:Nat) (v:Int) (s:G ar),0<=v->v<=A.n->m=toNat ((A.n:Int)-v)->((xU A (m+1) v s).n:Int)=s.n+((A.n:Int)-v)
 |0,v,s,a,b,c=>by
  have: ¬v<(A.n:Int):=by omega
  simp only[xU,this,zU,aX];omega
 |m+1,v,s,a,b,c=>by
  have e:v<(A.n:Int):=by omega
  have f:=E (v+1);rw[xU];simp only[e,wU,aR];rw[f,ag7 A d m (v+1) _ Ω Ω Ω];simp only[G.pI,G.na,dy,fs];omega
def ui(A:G ar):A.n<=549755813888->(gy A).n=A.n:=λh=>by
 have a:((Tg A).n:Int)=0+((A.n:Int)-0):=ag7 A h _ 0 B Ω Ω rfl;show(Tg A).n=_;omega
def pZ(A:Int)(y:Int):Bool:=(A==y)
def al_:bq:=⟨[.g [a,a,a,a,al,a,.ab bV],.r [a,a,a,al,al,al,a]],λA _ _ _ _ _ _ y _ _ _ _ _ _=>⟨⟨none,.bool (pZ A y)⟩⟩⟩
def axj:bx 112 al_:=bA Tryz.func112
 λ(A:Int) (g:Int) (r:Int) (h:Int) o _ (c:Int) v _ _ (y:Int) (p:Int) (x:Int) ai bn bY (b9:Int)=>bD ⟨.pure,[.tmp 3],[(.t 0,K)],⟨[U],[]⟩⟩ (.z) True fx Tryz.func112 (trivial)
def pY(A:G ar)(g:Int):Nat->Int->Bool×Int
 |0,_=>default
 |k+1,e=>(cond (decide (e<(A.n:Int))) (cond (pZ (A.at' (toNat e)).q g) (true,e) (pY A g k (i64 (e+1)))) (false,default))
def Tj:Bool×Int:=pY A g ((toNat ((A.n:Int)-0))+1) 0
def ads:Bool:=(cond (Tj A g).1 false true)
def mc:Int:=(cond (ads A g) (-1) (Tj A g).2)
def al9:bq:=⟨[.v (.ab bZ),.fn 112 [[a,a,a,al,al,al,a]]],λA g _ _ _ _ _ _=>⟨⟨none,b (mc A g)⟩⟩⟩
def axi:bx 111 al9:=bA Tryz.func111
 λA m _ (g:Int) (r:Int) (h:Int) o c v (y:Int)=>bD ⟨.pure,[.tmp 4],[(.t 0,a)],⟨[U],[]⟩⟩ (.ae (.j ⟨16,[],[],[],.f⟩ (.ae (.cX ⟨403,[],[],[(.t 8,a)],some 0,true,16,[],[],λk (s:Int)=>pY A g k s,.f,λ(s:Int)=>(0<=s/\s<=(A.n:Int)),λ(s:Int)=>(toNat ((A.n:Int)-s)),none⟩ .z)) .z)) (((0<=(0:Int)/\(0:Int)<=(A.n:Int)))/\(∀(e:Int),let d:=decide (e<(A.n:Int));let b:=i64 (e+1);(0<=e/\e<=(A.n:Int))->((d=true->((0:Int)<=e/\e<(A.n:Int)))/\(d=true->((pZ (A.at' (toNat e)).q g)=false->((0<=b/\b<=(A.n:Int))/\(toNat ((A.n:Int)-b))<(toNat ((A.n:Int)-e)))))))) (ct (aJ axj a2)) Tryz.func111 (⟨Ω,(λe l=>⟨(λf=>(by have:=an f;omega)),(λi=>(λj=>(by have:=an i;have:=E (e+1);omega)))⟩)⟩)
def ag0(A:G ar)(g:Int)(s:A.n<=549755813888): ∀(m c i:Nat),i+m=A.n->m<=c->(pY A g (c+1) (i:Int)=(false,default)/\ ∀t,i<=t->t<A.n->pZ (A.at' t).q g=false)\/ ∃t,i<=t/\t<A.n/\pY A g (c+1) (i:Int)=(true,(t:Int))/\pZ (A.at' t).q g=true/\ ∀u,i<=u->u<t->pZ (A.at' u).q g=false
 |0,c,i,q,r=>by
  have: ¬((i:Int)<(A.n:Int)):=by omega
  refine .inl ⟨?_,λt a b=>by omega⟩;simp only[pY,this,zU,aX]
 |m+1,c,i,q,r=>by
  obtain⟨c,rfl⟩: ∃k,c=k+1:=⟨c-1,Ω⟩;have v:(i:Int)<(A.n:Int):=by omega
  have w:i64 ((i:Int)+1)=((i+1:Nat):Int):=by rw[E _];rfl
  have e:pY A g (c+1+1) (i:Int)=(cond (pZ (A.at' i).q g) (true,(i:Int)) (pY A g (c+1) ((i+1:Nat):Int))):=by
   rw[pY];simp only[v,wU,aR,gi,w]
  rw[e]
  cases h:pZ (A.at' i).q g with
  |true=>exact .inr ⟨i,bN _,Ω,rfl,h,λu a b=>by omega⟩
  |false=>
   simp only[aX];rcases ag0 A g s m c (i+1) Ω Ω with⟨j,d⟩|⟨t,j,d,l,n,o⟩
   .refine .inl ⟨j,λt p f=> ?_⟩
    by_cases e:t=i
    .rw[e];exact h
    .exact d t Ω f
   .refine .inr ⟨t,Ω,d,l,n,λu p f=> ?_⟩
    by_cases e:u=i
    .rw[e];exact h
    .exact o u Ω f
def aCy(A:G ar)(g:Int)(f:A.n<=549755813888):(mc A g= -1/\ ∀t,t<A.n->pZ (A.at' t).q g=false)\/ ∃t:Nat,t<A.n/\mc A g=(t:Int)/\pZ (A.at' t).q g=true/\ ∀u,u<t->pZ (A.at' u).q g=false:=by
 unfold mc ads Tj;rcases ag0 A g f A.n (toNat ((A.n:Int)-0)) 0 Ω Ω with⟨b,a⟩|⟨t,b,a,c,d,e⟩
 .rw[show pY A g (toNat ((A.n:Int)-0)+1) 0=_ from b];exact .inl ⟨rfl,λt h=>a t (cp _) h⟩
 .rw[show pY A g (toNat ((A.n:Int)-0)+1) 0=_ from c];exact .inr ⟨t,a,rfl,d,λu i=>e u (cp _) i⟩
def xv(A:G ar)(g:Int)(a:A.n<=549755813888): -1<=mc A g/\mc A g<(A.n:Int):=by
 rcases aCy A g a with⟨h,_⟩|⟨t,b,h,_⟩<;>rw[h]<;>omega
end
section
variable(r:Int)(h:G ar)
def Fs(aB:Int)(cQ:Int):Int:=(cond (decide ((h.at' (toNat aB)).z<(h.at' (toNat cQ)).z)) aB cQ)
def Ti(h:G ar):Nat->Int->Int->Int
 |0,_,_=>default
 |k+1,aB,cQ=>(cond (decide (aB<(h.n:Int))) (Ti h k (i64 (aB+1)) (Fs h aB cQ)) cQ)
def KN:Int:=Ti h ((toNat ((h.n:Int)-0))+1) 0 0
def Bq:G ar:=(cond ((h.n:Int)==4) (G.del h (toNat (KN h)) (toNat (i64 ((KN h)+1)))) h)
def adn:Int:=(cond (decide (r>1048576)) 6 0)
def ado:u:=⟨#[]⟩
def adp:Int:=(cond (decide (r>1048576)) 0 (i64 ((i64 (r+1))-1)))
def adq:G u:=(B:G u)
def adr:Int:=(cond (decide (r>1048576)) r (i64 (r+1)))
def Th(A:Int)(r:Int)(h:G ar):G ar:=(cond (decide (r>1048576)) h (G.app (Bq h) (G.lit ([(⟨r,0,A,0,⟨#[]⟩,0,(B:G u)⟩:ar)]:List ar))))
theorem aom(h:G ar)(a b:Int):Fs h a b=a\/Fs h a b=b:=by
 unfold Fs
 cases decide ((h.at' (toNat a)).z<(h.at' (toNat b)).z)
 .exact .inr rfl
 .exact .inl rfl
theorem aAt(h:G ar):(Bq h).n<=h.n:=by
 unfold Bq
 cases ((h.n:Int)==4)
 .exact bN _
 .exact Nat.sub_le _ _
def al8:cf:=⟨[.p 0],[(.h 0 0,a),(.h 0 1,.ab bp),(.h 0 2,a),(.h 1 0,.ad bZ)],[[U,U,U,.own 1 0],[U]],λ(A:Int) g (r:Int) h=>⟨⟨some (h.n<=4),[.agg [b (adn r),.str ado,b (adp r),aP 1 cU adq]],[[b A,aP 8 gU g,b (adr r),.own 2 ((Th A r h)).n],[dB],[(aH.ad bZ).av (Th A r h)]]⟩⟩⟩
theorem axh:dV 110 al8:=ea Tryz.func110
 λ(A:Int) g u (r:Int) h v t=>dU (ms:=[.f,.l,.f,.l,.l,.l,.f,.f]) ⟨.lO true [.b 2] [.own (.h 0 3) bZ 2],[.cell 2 55],[(.c 0 0,a),(.c 0 1,al),(.c 0 2,a),(.c 0 3,.ab bV),(.h 0 0,a),(.h 0 1,.ab bp),(.h 0 2,a),(.h 2 0,.ad bZ)],⟨[.agg [U,U,U,U]],[[U,U,U,.own 2 0],[dB],[U]]⟩⟩ (.ae (.ae (.y8 ⟨5,[],[(.h 5 0,.ad bZ)],[],.f⟩ [.own (.h 0 3) bZ 5] (.ae (.s (.ae (.j ⟨13,[],[],[],.f⟩ (.ae (.cX ⟨14680077,[],[],[(.t 23,a),(.t 3,a)],some 0,false,13,[],[(.t 3,a)],λk (s:Int×Int)=>Ti h k s.1 s.2,.f,λ(s:Int×Int)=>(0<=s.1/\s.1<=(h.n:Int)/\0<=s.2/\(s.2<s.1\/s.2=0)),λ(s:Int×Int)=>(toNat ((h.n:Int)-s.1)),some λ(e:Int)=>0<=e/\(e<(h.n:Int)\/e=0)⟩ (.ae (.ae (.j ⟨549753716797,[],[(.t 3,a)],[],.f⟩ .z .z))))) .z)) .z)) .z))) (let b:=KN h;let l:=i64 (b+1);(decide (r>1048576))=false->((((h.n:Int)==4)=true->((((0<=(0:Int)/\(0:Int)<=(h.n:Int)/\0<=(0:Int)/\((0:Int)<(0:Int)\/(0:Int)=0)))/\(∀(aB:Int) (cQ:Int),let i:=Fs h aB cQ;let f:=decide (aB<(h.n:Int));let c:=i64 (aB+1);(0<=aB/\aB<=(h.n:Int)/\0<=cQ/\(cQ<aB\/cQ=0))->((f=true->((((0:Int)<=aB/\aB<(h.n:Int))/\((toNat aB)<h.n))/\(((0:Int)<=cQ/\cQ<(h.n:Int))/\((toNat cQ)<h.n))))/\((f=true->((0<=c/\c<=(h.n:Int)/\0<=i/\(i<c\/i=0))/\(toNat ((h.n:Int)-c))<(toNat ((h.n:Int)-aB))))/\(f=false->(0<=cQ/\(cQ<(h.n:Int)\/cQ=0)))))))/\((0<=b/\(b<(h.n:Int)\/b=0))->((0:Int)<=b/\(b:Int)<l/\(l:Int)<=(h.n:Int)))))/\((Bq h).n+1<=549755813888))) (b1 2 a2 (ay axm b0)) Tryz.func110 ((λn=>⟨(λd=>⟨⟨Ω,(λaB cQ q=>⟨(λj=>⟨⟨(by have:=an j;omega),(by have:=an j;omega)⟩,⟨(by have:=eq_of_beq d;omega),(by have:=eq_of_beq d;omega)⟩⟩),⟨(λm=>(by have:=an m;have:=aom h aB cQ;have:=E (aB+1);omega)),(λo=>Ω)⟩⟩)⟩,(λp=>(by have:=eq_of_beq d;have:=E ((KN h)+1);omega))⟩),(by have:=aAt h;omega)⟩))
end
section
def p0(A:Int)(g:G Int)(r:Bool):Bool:=(cond r true (decide ((g.n:Int)<A)))
def fF(A:Int)(g:G Int)(r:Bool):G Int:=(cond (p0 A g r) (B:G Int) (G.part g 0 A))
def vq(A:Int)(g:G Int)(r:Bool):G Int:=(cond (p0 A g r) g (G.part g A (g.n:Int)))
def Br(A:Int)(g:G Int)(r:Bool):Bool:=(cond (p0 A g r) true r)
def ame:cf:=⟨[.p 0,.v a],[(.h 0 0,.ab bo),(.h 0 1,K)],[[U,U]],λ(A:Int) g r=>⟨⟨some (0<=A),[aP 1 cZ (fF A g r)],[[aP 1 cZ (vq A g r),.bool (Br A g r)]]⟩⟩⟩
def V1:dV 142 ame:=ea Tryz.func142
 λ(A:Int) g c r b=>dU ⟨.heap,[.tmp 4],[(.t 0,.ab bo),(.h 0 0,.ab bo),(.h 0 1,K)],⟨[U],[[U,U]]⟩⟩ (.ae (.s (.j ⟨262163,[],[(.t 18,K)],[],.f⟩ .z .z) .z)) ((p0 A g r)=false->((((0:Int)<=0)/\((0:Int)<=A)/\((A:Int)<=A)/\((A:Int)<=(g.n:Int)))/\(((0:Int)<=A)/\((A:Int)<=(g.n:Int))/\(((g.n:Int):Int)<=(g.n:Int))/\(((g.n:Int):Int)<=(g.n:Int))))) (b1 1 a2 b0) Tryz.func142 ((λa=>⟨(by have:=a;simp [p0]at this;omega),(by have:=a;simp [p0]at this;omega)⟩))
def dS{A:Int}{g:G Int}{r:Bool}(h:aK g):aK (vq A g r):=by
 unfold vq
 cases p0 A g r
 .exact λi=>h _
 .exact h
def aEy{A:Int}{g:G Int}{r:Bool}(h:aK g):aK (fF A g r):=by
 unfold fF
 cases p0 A g r
 .exact λi=>h _
 .exact λi=>⟨by show(0:Int)<=default;decide,by show(default:Int)<=255;decide⟩
def azq(A:Int)(g:G Int)(r:Bool):(fF A g r).n<=toNat A:=by
 unfold fF
 cases p0 A g r
 .simp only[aX,G.uw];omega
 .simp only[aR,CP];omega
def Bc(A:G Int)(g:Bool):Nat->Int->Int->Int
 |0,_,_=>default
 |k+1,e,l=>(cond (decide (l<((fF 8 A g).n:Int))) (Bc A g k (bits .or .u64 (u64 (e*2^(toNat 8))) (u64 ((fF 8 A g).at' (toNat l)))) (i64 (l+1))) e)
variable(A:G Int)(g:Bool)
def SU:Int:=Bc A g ((toNat (((fF 8 A g).n:Int)-0))+1) 0 0
def cW:Int:=(i64 (u64 ((SU A g)-4611686018427387904)))
def aL:G Int:=(vq 8 A g)
def aM:Bool:=(Br 8 A g)
def alA:cf:=⟨[.p 0],[(.h 0 0,.ab bo),(.h 0 1,K)],[[U,U]],λA g=>⟨⟨none,[b (cW A g)],[[aP 1 cZ (aL A g),.bool (aM A g)]]⟩⟩⟩
def wu:dV 123 alA:=ea Tryz.func123
 λA j g=>dU ⟨.heap,[.tmp 2],[(.t 0,a),(.h 0 0,.ab bo),(.h 0 1,K)],⟨[U],[[U,U]]⟩⟩ (.ae (.ae (.j ⟨12,[],[],[],.f⟩ (.ae (.cX ⟨908,[],[],[(.t 3,.int .u64),(.t 9,a)],some 0,false,12,[],[(.t 3,.int .u64)],λk (s:Int×Int)=>Bc A g k s.1 s.2,.f,λ(s:Int×Int)=>(0<=s.2/\s.2<=((fF 8 A g).n:Int)),λ(s:Int×Int)=>(toNat (((fF 8 A g).n:Int)-s.2)),none⟩ .z)) .z))) (let b:=fF 8 A g;(0<=(8:Int))/\(((0<=(0:Int)/\(0:Int)<=(b.n:Int)))/\(∀(e:Int) (l:Int),let d:=decide (l<(b.n:Int));let c:=i64 (l+1);(0<=l/\l<=(b.n:Int))->((d=true->(((0:Int)<=l/\l<(b.n:Int))/\((0:Int)<=8/\(8:Int)<=64)))/\(d=true->((0<=c/\c<=(b.n:Int))/\(toNat ((b.n:Int)-c))<(toNat ((b.n:Int)-l)))))))) (b1 1 a2 (ay V1 b0)) Tryz.func123 (⟨Ω,⟨Ω,(λe l i=>⟨(λf=>⟨(by have:=an f;omega),Ω⟩),(λh=>(by have:=an h;have:=azq 8 A g;have:=E (l+1);omega))⟩)⟩⟩)
def d_{A:G Int}{g:Bool}(h:aK A):aK (aL A g):=dS h
def cD:Int:=(cond (decide (0<((fF 1 A g).n:Int))) (i64 ((fF 1 A g).at' (toNat 0))) 0)
def cc:G Int:=(vq 1 A g)
def cl:Bool:=(Br 1 A g)
def alK:cf:=⟨[.p 0],[(.h 0 0,.ab bo),(.h 0 1,K)],[[U,U]],λA g=>⟨⟨none,[b (cD A g)],[[aP 1 cZ (cc A g),.bool (cl A g)]]⟩⟩⟩
def r2:dV 129 alK:=ea Tryz.func129
 λA c g=>dU (ms:=[.f,.l,.l]) ⟨.heap,[.tmp 2],[(.t 0,a),(.h 0 0,.ab bo),(.h 0 1,K)],⟨[U],[[U,U]]⟩⟩ (.ae (.s (.ae (.m_ .z)) .z)) ((0<=(1:Int))/\((decide (0<((fF 1 A g).n:Int)))=true->((0:Int)<=0/\0<(((fF 1 A g).n:Nat):Int)))) (b1 1 a2 (ay V1 b0)) Tryz.func129 (⟨Ω,(λb=>(by have:=an b;omega))⟩)
def eB{A:G Int}{g:Bool}(h:aK A):aK (cc A g):=dS h
def C6(A:G Int)(g:Bool)(h:aK A):0<=cD A g/\cD A g<=255:=by
 unfold cD;have a:0<=(fF 1 A g).at' (toNat 0)/\(fF 1 A g).at' (toNat 0)<=255:=aEy h _
 cases decide (0<((fF 1 A g).n:Int))
 .simp
 .simp only[aR];rw[E _];exact a
def h8:u:=(G.toStr (fF (cD A g) (cc A g) (cl A g)))
def cC:G Int:=(vq (cD A g) (cc A g) (cl A g))
def cN:Bool:=(Br (cD A g) (cc A g) (cl A g))
def alH:cf:=⟨[.p 0],[(.h 0 0,.ab bo),(.h 0 1,K)],[[U,U]],λA g=>⟨⟨some (aK A),[.str (h8 A g)],[[aP 1 cZ (cC A g),.bool (cN A g)]]⟩⟩⟩
def y9:dV 126 alH:=ea Tryz.func126
 λA b g a=>dU ⟨.heap,[.tmp 2],[(.t 0,al),(.h 0 0,.ab bo),(.h 0 1,K)],⟨[U],[[U,U]]⟩⟩ (.z) (0<=(cD A g)) (b1 1 a2 (ay r2 (ay V1 b0))) Tryz.func126 ((by have:=C6 A g (by repeat first|assumption|apply dS|apply d_|apply eB|apply eu|apply gP|apply c);omega))
def eu{A:G Int}{g:Bool}(h:aK A):aK (cC A g):=dS (eB h)
def Tv:Int:=(cD A g)
def Tw:u:=(h8 (cc A g) (cl A g))
def Tx:u:=(h8 (cC (cc A g) (cl A g)) (cN (cc A g) (cl A g)))
def Ty:u:=let b:=cN (cc A g) (cl A g);let a:=cC (cc A g) (cl A g);(h8 (cC a b) (cN a b))
def Tz:Int:=let b:=cN (cc A g) (cl A g);let a:=cC (cc A g) (cl A g);(cW (cC (cC a b) (cN a b)) (cN (cC a b) (cN a b)))
def TA:G Int:=let b:=cN (cc A g) (cl A g);let a:=cC (cc A g) (cl A g);(aL (cC (cC a b) (cN a b)) (cN (cC a b) (cN a b)))
def TB:Bool:=let b:=cN (cc A g) (cl A g);let a:=cC (cc A g) (cl A g);(aM (cC (cC a b) (cN a b)) (cN (cC a b) (cN a b)))
def amu:cf:=⟨[.p 0],[(.h 0 0,.ab bo),(.h 0 1,K)],[[U,U]],λA g=>⟨⟨some (aK A),[.agg [b (Tv A g),.str (Tw A g),.str (Tx A g),.str (Ty A g),b (Tz A g)]],[[aP 1 cZ (TA A g),.bool (TB A g)]]⟩⟩⟩
def axy:dV 182 amu:=ea Tryz.func182
 λA _ g d=>dU ⟨.heap,[.cell 2 35],[(.c 0 0,a),(.c 0 1,al),(.c 0 2,al),(.c 0 3,al),(.c 0 4,a),(.h 0 0,.ab bo),(.h 0 1,K)],⟨[.agg (us 5 [])],[[U,U]]⟩⟩ (.z) (let b:=cc A g;let c:=cC b (cl A g);(aK b)/\((aK c)/\(aK (cC c (cN b (cl A g)))))) (b1 1 a2 (ay wu (ay y9 (ay r2 b0)))) Tryz.func182 (⟨(by repeat first|assumption|apply dS),⟨(by repeat first|assumption|apply dS),(by repeat first|assumption|apply dS)⟩⟩)
def adt:G Int:=(cond ((cW A g)!=0) (TA (aL (aL A g) (aM A g)) (aM (aL A g) (aM A g))) (aL A g))
def adu:Bool:=(cond ((cW A g)!=0) (TB (aL (aL A g) (aM A g)) (aM (aL A g) (aM A g))) (aM A g))
def adv:Int:=(cond ((cW A g)!=0) (cW (aL A g) (aM A g)) 0)
def adw:Int:=(cond ((cW A g)!=0) (Tv (aL (aL A g) (aM A g)) (aM (aL A g) (aM A g))) 0)
def adx:u:=(cond ((cW A g)!=0) (Tw (aL (aL A g) (aM A g)) (aM (aL A g) (aM A g))) ⟨#[]⟩)
def ady:u:=(cond ((cW A g)!=0) (Tx (aL (aL A g) (aM A g)) (aM (aL A g) (aM A g))) ⟨#[]⟩)
def adz:u:=(cond ((cW A g)!=0) (Ty (aL (aL A g) (aM A g)) (aM (aL A g) (aM A g))) ⟨#[]⟩)
def adA:Int:=(cond ((cW A g)!=0) (Tz (aL (aL A g) (aM A g)) (aM (aL A g) (aM A g))) 0)
def Tk:Int:=(cW A g)
def Tm:Int:=(adv A g)
def Tn:Int:=(adw A g)
def To:u:=(adx A g)
def Tp:u:=(ady A g)
def Tq:u:=(adz A g)
def Tr:Int:=(adA A g)
def Ts:G Int:=(adt A g)
def Tt:Bool:=(adu A g)
def amc:cf:=⟨[.p 0],[(.h 0 0,.ab bo),(.h 0 1,K)],[[U,U]],λA g=>⟨⟨some (aK A),[.agg [b (Tk A g),b (Tm A g),b (Tn A g),.str (To A g),.str (Tp A g),.str (Tq A g),b (Tr A g)]],[[aP 1 cZ (Ts A g),.bool (Tt A g)]]⟩⟩⟩
def axl:dV 156 amc:=ea Tryz.func156
 λA _ g c=>dU ⟨.heap,[.cell 2 37],[(.c 0 0,a),(.c 0 1,a),(.c 0 2,a),(.c 0 3,al),(.c 0 4,al),(.c 0 5,al),(.c 0 6,a),(.h 0 0,.ab bo),(.h 0 1,K)],⟨[.agg (us 7 [])],[[U,U]]⟩⟩ (.ae (.ae (.j ⟨12,[],[(.h 0 0,.ab bo),(.h 0 1,K),(.h 2 1,a),(.h 2 2,a),(.h 2 3,al),(.h 2 4,al),(.h 2 5,al),(.h 2 6,a)],[],.f⟩ .z .z))) (((cW A g)!=0)=true->(aK (aL (aL A g) (aM A g)))) (b1 1 a2 (ay wu (ay axy b0))) Tryz.func156 ((λb=>(by repeat first|assumption|apply dS)))
def SG:G Int:=(cond ((cD (aL (aL A g) (aM A g)) (aM (aL A g) (aM A g)))==0) (Ts (cc (aL (aL A g) (aM A g)) (aM (aL A g) (aM A g))) (cl (aL (aL A g) (aM A g)) (aM (aL A g) (aM A g)))) (cc (aL (aL A g) (aM A g)) (aM (aL A g) (aM A g))))
def SI:Bool:=(cond ((cD (aL (aL A g) (aM A g)) (aM (aL A g) (aM A g)))==0) (Tt (cc (aL (aL A g) (aM A g)) (aM (aL A g) (aM A g))) (cl (aL (aL A g) (aM A g)) (aM (aL A g) (aM A g)))) (cl (aL (aL A g) (aM A g)) (aM (aL A g) (aM A g))))
def SJ:Bool:=(cond ((cD (aL (aL A g) (aM A g)) (aM (aL A g) (aM A g)))==0) false true)
def SK:Int:=(cond ((cD (aL (aL A g) (aM A g)) (aM (aL A g) (aM A g)))==0) (Tk (cc (aL (aL A g) (aM A g)) (aM (aL A g) (aM A g))) (cl (aL (aL A g) (aM A g)) (aM (aL A g) (aM A g)))) 0)
def SL:Int:=(cond ((cD (aL (aL A g) (aM A g)) (aM (aL A g) (aM A g)))==0) (Tm (cc (aL (aL A g) (aM A g)) (aM (aL A g) (aM A g))) (cl (aL (aL A g) (aM A g)) (aM (aL A g) (aM A g)))) 0)
def SM:Int:=(cond ((cD (aL (aL A g) (aM A g)) (aM (aL A g) (aM A g)))==0) (Tn (cc (aL (aL A g) (aM A g)) (aM (aL A g) (aM A g))) (cl (aL (aL A g) (aM A g)) (aM (aL A g) (aM A g)))) 0)
def SN:u:=(cond ((cD (aL (aL A g) (aM A g)) (aM (aL A g) (aM A g)))==0) (To (cc (aL (aL A g) (aM A g)) (aM (aL A g) (aM A g))) (cl (aL (aL A g) (aM A g)) (aM (aL A g) (aM A g)))) ⟨#[]⟩)
def SO:u:=(cond ((cD (aL (aL A g) (aM A g)) (aM (aL A g) (aM A g)))==0) (Tp (cc (aL (aL A g) (aM A g)) (aM (aL A g) (aM A g))) (cl (aL (aL A g) (aM A g)) (aM (aL A g) (aM A g)))) ⟨#[]⟩)
def SP:u:=(cond ((cD (aL (aL A g) (aM A g)) (aM (aL A g) (aM A g)))==0) (Tq (cc (aL (aL A g) (aM A g)) (aM (aL A g) (aM A g))) (cl (aL (aL A g) (aM A g)) (aM (aL A g) (aM A g)))) ⟨#[]⟩)
def SH:Int:=(cond ((cD (aL (aL A g) (aM A g)) (aM (aL A g) (aM A g)))==0) (Tr (cc (aL (aL A g) (aM A g)) (aM (aL A g) (aM A g))) (cl (aL (aL A g) (aM A g)) (aM (aL A g) (aM A g)))) 0)
def ma:Bool:=(cond ((cD (aL (aL A g) (aM A g)) (aM (aL A g) (aM A g)))==0) true (cond ((cD (aL (aL A g) (aM A g)) (aM (aL A g) (aM A g)))==1) true false))
def lE:Int:=(cW A g)
def lF:Int:=(cW (aL A g) (aM A g))
def kT:Bool:=(cond (ma A g) (SJ A g) false)
def kU:Int:=(cond (ma A g) (SK A g) 0)
def kV:Int:=(cond (ma A g) (SL A g) 0)
def kW:Int:=(cond (ma A g) (SM A g) 0)
def kX:u:=(cond (ma A g) (SN A g) ⟨#[]⟩)
def kY:u:=(cond (ma A g) (SO A g) ⟨#[]⟩)
def kZ:u:=(cond (ma A g) (SP A g) ⟨#[]⟩)
def k0:Int:=(cond (ma A g) (SH A g) 0)
def lG:Bool:=(cond (ma A g) true false)
def k1:G Int:=(cond (ma A g) (SG A g) (cc (aL (aL A g) (aM A g)) (aM (aL A g) (aM A g))))
def lH:Bool:=(cond (ma A g) (SI A g) (cl (aL (aL A g) (aM A g)) (aM (aL A g) (aM A g))))
def alq:cf:=⟨[.p 0],[(.h 0 0,.ab bo),(.h 0 1,K)],[[U,U]],λA g=>⟨⟨some (aK A),[.agg [b (lE A g),b (lF A g),.bool (kT A g),b (kU A g),b (kV A g),b (kW A g),.str (kX A g),.str (kY A g),.str (kZ A g),b (k0 A g)],.bool (lG A g)],[[aP 1 cZ (k1 A g),.bool (lH A g)]]⟩⟩⟩
def awQ:dV 141 alq:=ea Tryz.func141
 λA _ g e=>dU (ms:=[.l,.l,.f,.f,.f,.f,.f,.f,.f,.f,.f,.f,.f]) ⟨.heap,[.cell 2 97,.tmp 3],[(.c 0 0,a),(.c 0 1,a),(.c 0 2,K),(.c 0 3,a),(.c 0 4,a),(.c 0 5,a),(.c 0 6,al),(.c 0 7,al),(.c 0 8,al),(.c 0 9,a),(.t 1,K),(.h 0 0,.ab bo),(.h 0 1,K)],⟨[.agg (us 10 []),U],[[U,U]]⟩⟩ (.ae (.ae (.j ⟨28,[],[(.h 0 0,.ab bo),(.h 0 1,K),(.h 2 2,K),(.h 2 3,a),(.h 2 4,a),(.h 2 5,a),(.h 2 6,al),(.h 2 7,al),(.h 2 8,al),(.h 2 9,a)],[],.f⟩ .z .z))) (let c:=aM (aL A g) (aM A g);let b:=aL (aL A g) (aM A g);((cD b c)==0)=true->(aK (cc b c))) (b1 1 a2 (ay wu (ay r2 (ay axl b0)))) Tryz.func141 ((λd=>(by repeat first|assumption|apply dS)))
def SQ(A:Bool)(g:G Int):Bool:=(cond (!A) true (decide ((g.n:Int)>0)))
def gm(A:Bool)(g:G Int)(r:Bool):Int:=(cond r 9 (cond (SQ A g) 8 0))
def alr:cf:=⟨[.p 0,.v K],[(.h 0 0,.ab bo),(.h 0 1,K)],[[U,U]],λA g r=>⟨⟨none,[b (gm A g r)],[[aP 1 cZ g,.bool r]]⟩⟩⟩
def agl:dV 131 alr:=ea Tryz.func131
 λA g _ r=>dU (ms:=[.f,.l,.l]) ⟨.heap,[.tmp 4],[(.t 0,a),(.h 0 0,.ab bo),(.h 0 1,K)],⟨[U],[[U,U]]⟩⟩ (.ae (.s (.ae (.ae (.j ⟨1040,[],[(.t 10,K)],[],.f⟩ .z .z))) .z)) True (b1 1 a2 b0) Tryz.func131 (trivial)
def L5:Int:=(cond (decide ((A.n:Int)>20000)) 0 (cond ((gm (lG A false) (k1 A false) (lH A false))!=0) 0 (cond ((fc (lE A false) (lF A false) (kT A false) (kU A false) (kV A false) (kW A false) (kX A false) (kY A false) (kZ A false) (k0 A false))!=0) 0 (lE A false))))
def L6:Int:=(cond (decide ((A.n:Int)>20000)) 0 (cond ((gm (lG A false) (k1 A false) (lH A false))!=0) 0 (cond ((fc (lE A false) (lF A false) (kT A false) (kU A false) (kV A false) (kW A false) (kX A false) (kY A false) (kZ A false) (k0 A false))!=0) 0 (lF A false))))
def L7:Bool:=(cond (decide ((A.n:Int)>20000)) false (cond ((gm (lG A false) (k1 A false) (lH A false))!=0) false (cond ((fc (lE A false) (lF A false) (kT A false) (kU A false) (kV A false) (kW A false) (kX A false) (kY A false) (kZ A false) (k0 A false))!=0) false (kT A false))))
def L8:Int:=(cond (decide ((A.n:Int)>20000)) 0 (cond ((gm (lG A false) (k1 A false) (lH A false))!=0) 0 (cond ((fc (lE A false) (lF A false) (kT A false) (kU A false) (kV A false) (kW A false) (kX A false) (kY A false) (kZ A false) (k0 A false))!=0) 0 (kU A false))))
def L9:Int:=(cond (decide ((A.n:Int)>20000)) 0 (cond ((gm (lG A false) (k1 A false) (lH A false))!=0) 0 (cond ((fc (lE A false) (lF A false) (kT A false) (kU A false) (kV A false) (kW A false) (kX A false) (kY A false) (kZ A false) (k0 A false))!=0) 0 (kV A false))))
def L_:Int:=(cond (decide ((A.n:Int)>20000)) 0 (cond ((gm (lG A false) (k1 A false) (lH A false))!=0) 0 (cond ((fc (lE A false) (lF A false) (kT A false) (kU A false) (kV A false) (kW A false) (kX A false) (kY A false) (kZ A false) (k0 A false))!=0) 0 (kW A false))))
def Ma:u:=(cond (decide ((A.n:Int)>20000)) ⟨#[]⟩ (cond ((gm (lG A false) (k1 A false) (lH A false))!=0) ⟨#[]⟩ (cond ((fc (lE A false) (lF A false) (kT A false) (kU A false) (kV A false) (kW A false) (kX A false) (kY A false) (kZ A false) (k0 A false))!=0) ⟨#[]⟩ (kX A false))))
def Mb:u:=(cond (decide ((A.n:Int)>20000)) ⟨#[]⟩ (cond ((gm (lG A false) (k1 A false) (lH A false))!=0) ⟨#[]⟩ (cond ((fc (lE A false) (lF A false) (kT A false) (kU A false) (kV A false) (kW A false) (kX A false) (kY A false) (kZ A false) (k0 A false))!=0) ⟨#[]⟩ (kY A false))))
def Mc:u:=(cond (decide ((A.n:Int)>20000)) ⟨#[]⟩ (cond ((gm (lG A false) (k1 A false) (lH A false))!=0) ⟨#[]⟩ (cond ((fc (lE A false) (lF A false) (kT A false) (kU A false) (kV A false) (kW A false) (kX A false) (kY A false) (kZ A false) (k0 A false))!=0) ⟨#[]⟩ (kZ A false))))
def Md:Int:=(cond (decide ((A.n:Int)>20000)) 0 (cond ((gm (lG A false) (k1 A false) (lH A false))!=0) 0 (cond ((fc (lE A false) (lF A false) (kT A false) (kU A false) (kV A false) (kW A false) (kX A false) (kY A false) (kZ A false) (k0 A false))!=0) 0 (k0 A false))))
def Me:Int:=(cond (decide ((A.n:Int)>20000)) 1 (cond ((gm (lG A false) (k1 A false) (lH A false))!=0) (gm (lG A false) (k1 A false) (lH A false)) (cond ((fc (lE A false) (lF A false) (kT A false) (kU A false) (kV A false) (kW A false) (kX A false) (kY A false) (kZ A false) (k0 A false))!=0) (fc (lE A false) (lF A false) (kT A false) (kU A false) (kV A false) (kW A false) (kX A false) (kY A false) (kZ A false) (k0 A false)) 0)))
def anu:bq:=⟨[.v (.ab bo)],λA=>⟨⟨some (aK A),.dp [.agg [b (L5 A),b (L6 A),.bool (L7 A),b (L8 A),b (L9 A),b (L_ A),.str (Ma A),.str (Mb A),.str (Mc A),b (Md A)],b (Me A)]⟩⟩⟩
def ayl:bx 116 anu:=bA Tryz.func116
 λA _ _ c=>bD ⟨.pure,[.cell 2 97,.tmp 3],[(.c 0 0,a),(.c 0 1,a),(.c 0 2,K),(.c 0 3,a),(.c 0 4,a),(.c 0 5,a),(.c 0 6,al),(.c 0 7,al),(.c 0 8,al),(.c 0 9,a),(.t 1,a)],⟨[.agg (us 10 []),U],[]⟩⟩ (.z) ((decide ((A.n:Int)>20000))=false->(aK A)) (b1 0 (aJ Nd a2) (ay awQ (ay agl b0))) Tryz.func116 ((λb=>Ψ))
end
section
variable(A:G Int)(g:Bool)(r:G u)
def Bu:G Int:=(cC A g)
def KU:Bool:=(cN A g)
def Fv:G u:=(G.app r (G.lit ([(h8 A g)]:List u)))
def amh:cf:=⟨[.p 0,.p 1],[(.h 2 0,.ab bo),(.h 2 1,K),(.h 3 0,.ad bV)],[[.own 3 0],[.ptr 2 0],[U,U],[U]],λA g r=>⟨⟨some (aK A/\r.n<=1000),[],[[.own 3 ((Fv A g r)).n],[.ptr 2 0],[aP 1 cZ (Bu A g),.bool (KU A g)],[(aH.ad bV).av (Fv A g r)]]⟩⟩⟩
def axp:dV 145 amh:=ea Tryz.func145
 λA d g r e a=>dU ⟨.heap,[],[(.h 2 0,.ab bo),(.h 2 1,K),(.h 3 0,.ad bV)],⟨[],[[.own 3 0],[.ptr 2 0],[U,U],[U]]⟩⟩ (.z) ((aK A)/\(r.n+1<=549755813888)) (b1 4 a2 (ay y9 b0)) Tryz.func145 (have⟨b,c⟩:=a;⟨Ψ,Ω⟩)
def gq{A:G Int}{g:Bool}(h:aK A):aK (Bu A g):=eu h
def azt(A:G Int)(g:Bool)(r:G u):(Fv A g r).n=r.n+1:=rfl
def Fh(e:Int)(bg:Bool):Bool:=(cond (decide (e>0)) (!bg) false)
def xQ:Nat->Int->G Int->Bool->G u->G Int×Bool×G u
 |0,_,_,_,_=>default
 |k+1,e,l,bg,bO=>(cond (Fh e bg) (xQ k (i64 (e-1)) (Bu l bg) (KU l bg) (Fv l bg bO)) (l,bg,bO))
def S1:G Int×Bool×G u:=xQ ((toNat (cD A g))+1) (cD A g) (cc A g) (cl A g) r
def S0:G Int:=(S1 A g r).1
def acS:Bool:=(S1 A g r).2.1
def acT:G u:=(S1 A g r).2.2
def alF:cf:=⟨[.p 2,.jU 145 [0,1]],[(.h 2 0,.ab bo),(.h 2 1,K),(.h 3 0,.ad bV)],[[.own 3 0],[.ptr 2 0],[U,U],[U]],λA g r=>let a:=acT A g r;⟨⟨some (aK A/\r.n<=10),[],[[.own 3 (a).n],[.ptr 2 0],[aP 1 cZ (S0 A g r),.bool (acS A g r)],[(aH.ad bV).av a]]⟩⟩⟩
def awW:dV 124 alF:=ea Tryz.func124
 λA o g r p h=>dU ⟨.heap,[],[(.h 2 0,.ab bo),(.h 2 1,K),(.h 3 0,.ad bV)],⟨[],[[.own 3 0],[.ptr 2 0],[U,U],[U]]⟩⟩ (.ae (.cX ⟨19,[],[],[(.t 4,a),(.h 2 0,.ab bo),(.h 2 1,K),(.h 3 0,.ad bV)],some 0,false,0,[],[(.h 2 0,.ab bo),(.h 2 1,K),(.h 3 0,.ad bV)],λk (s:Int×G Int×Bool×G u)=>xQ k s.1 s.2.1 s.2.2.1 s.2.2.2,.f,λ(s:Int×G Int×Bool×G u)=>(aK s.2.1/\0<=s.1/\s.1<=255/\(s.2.2.2.n:Int)<=(r.n:Int)+255-s.1),λ(s:Int×G Int×Bool×G u)=>(toNat s.1),none⟩ (.s (.j ⟨33683,[],[(.t 9,K),(.t 15,K)],[],.f⟩ .z .z) .z))) (((aK (cc A g)/\0<=(cD A g)/\(cD A g)<=255/\(r.n:Int)<=(r.n:Int)+255- (cD A g)))/\(∀(e:Int) (l:G Int) (bg:Bool) (bO:G u),let d:=Fh e bg;let b:=i64 (e-1);(aK l/\0<=e/\e<=255/\(bO.n:Int)<=(r.n:Int)+255-e)->((d=true->(aK l/\bO.n<=1000))/\(d=true->((aK (Bu l bg)/\0<=b/\b<=255/\(((Fv l bg bO).n:Nat):Int)<=(r.n:Int)+255-b)/\(toNat b)<(toNat e)))))) (b1 4 a2 (ay r2 (ay axp b0))) Tryz.func124 (have⟨j,m⟩:=h;⟨⟨(by repeat first|assumption|apply dS),(by have:=C6 A g (by repeat first|assumption|apply dS|apply d_|apply eB|apply eu|apply gP|apply q|apply gq|apply gd|apply gf);omega)⟩,(λe l bg bO f=>have n:=f.1;⟨(λi=>⟨Ψ,Ω⟩),(λc=>⟨⟨(by repeat first|assumption|apply dS),(by have:=c;(try simp [Fh]at this);have:=azt l bg bO;have:=E (e-1);omega)⟩,(by have:=c;(try simp [Fh]at this);have:=E (e-1);omega)⟩)⟩)⟩)
def ajT: ∀(m:Nat) (n:Int) (s:G Int) (b:Bool) (l:G u),aK s->aK (xQ m n s b l).1
 |0,_,_,_,_,_=>λi=>by show(0:Int)<=0/\(0:Int)<=255;omega
 |m+1,n,s,b,l,h=>by
  rw[xQ]
  cases Fh n b
  .exact h
  .exact ajT m _ _ _ _ (gq h)
def gd{A:G Int}{g:Bool}{r:G u}(h:aK A):aK (S0 A g r):=ajT _ _ _ _ _ (eB h)
def xS:G u:=(acT A g (B:G u))
def tc:G Int:=(S0 A g (B:G u))
def xT:Bool:=(acS A g (B:G u))
def alL:cf:=⟨[.p 0],[(.h 0 0,.ab bo),(.h 0 1,K)],[[U,U]],λA g=>⟨⟨some (aK A),[aP 1 cU (xS A g)],[[aP 1 cZ (tc A g),.bool (xT A g)]]⟩⟩⟩
def agp:dV 130 alL:=ea Tryz.func130
 λA b g a=>dU ⟨.heap,[.tmp 2],[(.t 0,.ab bV),(.h 0 0,.ab bo),(.h 0 1,K)],⟨[U],[[U,U]]⟩⟩ (.ae (.ae (.s (.jb [(.h 2 0,bV)]) .z))) (aK A/\0<=10) (b1 1 a2 (ay awW b0)) Tryz.func130 (⟨Ψ,Ω⟩)
def gf{A:G Int}{g:Bool}(h:aK A):aK (tc A g):=gd h
end
section
variable(e:Int)(bg:Bool)(A:G Int)(g:Bool)(o:G Int)(c:Bool)(v:G bt)(y:G bG)
def Bs:G Int:=(cC (cC o c) (cN o c))
def KS:Bool:=(cN (cC o c) (cN o c))
def Ft:G bt:=(G.app v (G.lit ([(⟨(h8 o c),(h8 (cC o c) (cN o c))⟩:bt)]:List bt)))
def amf:cf:=⟨[.p 0,.p 1],[(.h 0 0,a),(.h 0 1,al),(.h 0 2,a),(.h 0 4,.ab bV),(.h 2 0,.ab bo),(.h 2 1,K),(.h 3 0,.ad dd),(.h 4 0,.ad c3)],[[U,U,U,.own 3 0,U,.own 4 0],[.ptr 2 0],[U,U],[U],[U]],λ(A:Int) g (r:Int) h o c v y=>⟨⟨some (aK o/\v.n<=1000),[],[[b A,.str g,b r,.own 3 ((Ft o c v)).n,aP 1 cU h,.own 4 (y).n],[.ptr 2 0],[aP 1 cZ (Bs o c),.bool (KS o c)],[(aH.ad dd).av (Ft o c v)],[(aH.ad c3).av y]]⟩⟩⟩
def axn:dV 143 amf:=ea Tryz.func143
 λ(A:Int) g f (r:Int) h i o j c v k y l b=>dU ⟨.heap,[],[(.h 0 0,a),(.h 0 1,al),(.h 0 2,a),(.h 0 4,.ab bV),(.h 2 0,.ab bo),(.h 2 1,K),(.h 3 0,.ad dd),(.h 4 0,.ad c3)],⟨[],[[U,U,U,.own 3 0,U,.own 4 0],[.ptr 2 0],[U,U],[U],[U]]⟩⟩ (.z) ((aK o)/\((aK (cC o c))/\(v.n+1<=549755813888))) (b1 5 a2 (ay y9 b0)) Tryz.func143 (have⟨d,e⟩:=b;⟨Ψ,⟨(by repeat first|assumption|apply dS),Ω⟩⟩)
def gN{o:G Int}{c:Bool}(h:aK o):aK (Bs o c):=eu (eu h)
def azr(o:G Int)(c:Bool)(v:G bt):(Ft o c v).n=v.n+1:=rfl
def Fb:Bool:=(cond (decide (e>0)) (!bg) false)
def xO:Nat->Int->G Int->Bool->G bt->G Int×Bool×G bt
 |0,_,_,_,_=>default
 |k+1,e,l,bg,bO=>(cond (Fb e bg) (xO k (i64 (e-1)) (Bs l bg) (KS l bg) (Ft l bg bO)) (l,bg,bO))
def SX:G Int×Bool×G bt:=xO ((toNat (cD o c))+1) (cD o c) (cc o c) (cl o c) v
def rj:G Int:=(SX o c v).1
def ta:Bool:=(SX o c v).2.1
def Fa:G bt:=(SX o c v).2.2
def alD:cf:=⟨[.p 2,.jU 143 [0,1]],[(.h 0 0,a),(.h 0 1,al),(.h 0 2,a),(.h 0 4,.ab bV),(.h 2 0,.ab bo),(.h 2 1,K),(.h 3 0,.ad dd),(.h 4 0,.ad c3)],[[U,U,U,.own 3 0,U,.own 4 0],[.ptr 2 0],[U,U],[U],[U]],λ(A:Int) g (r:Int) h o c v y=>let d:=Fa o c v;⟨⟨some (aK o/\v.n<=10),[],[[b A,.str g,b r,.own 3 (d).n,aP 1 cU h,.own 4 (y).n],[.ptr 2 0],[aP 1 cZ (rj o c v),.bool (ta o c v)],[(aH.ad dd).av d],[(aH.ad c3).av y]]⟩⟩⟩
def awU:dV 124 alD:=ea Tryz.func124
 λ(A:Int) g t (r:Int) h u o w c v x y z j=>dU ⟨.heap,[],[(.h 0 0,a),(.h 0 1,al),(.h 0 2,a),(.h 0 4,.ab bV),(.h 2 0,.ab bo),(.h 2 1,K),(.h 3 0,.ad dd),(.h 4 0,.ad c3)],⟨[],[[U,U,U,.own 3 0,U,.own 4 0],[.ptr 2 0],[U,U],[U],[U]]⟩⟩ (.ae (.cX ⟨19,[],[],[(.t 4,a),(.h 2 0,.ab bo),(.h 2 1,K),(.h 3 0,.ad dd)],some 0,false,0,[],[(.h 2 0,.ab bo),(.h 2 1,K),(.h 3 0,.ad dd)],λk (s:Int×G Int×Bool×G bt)=>xO k s.1 s.2.1 s.2.2.1 s.2.2.2,.f,λ(s:Int×G Int×Bool×G bt)=>(aK s.2.1/\0<=s.1/\s.1<=255/\(s.2.2.2.n:Int)<=(v.n:Int)+255-s.1),λ(s:Int×G Int×Bool×G bt)=>(toNat s.1),none⟩ (.s (.j ⟨33683,[],[(.t 9,K),(.t 15,K)],[],.f⟩ .z .z) .z))) (((aK (cc o c)/\0<=(cD o c)/\(cD o c)<=255/\(v.n:Int)<=(v.n:Int)+255- (cD o c)))/\(∀(e:Int) (l:G Int) (bg:Bool) (bO:G bt),let f:=Fb e bg;let b:=i64 (e-1);(aK l/\0<=e/\e<=255/\(bO.n:Int)<=(v.n:Int)+255-e)->((f=true->(aK l/\bO.n<=1000))/\(f=true->((aK (Bs l bg)/\0<=b/\b<=255/\(((Ft l bg bO).n:Nat):Int)<=(v.n:Int)+255-b)/\(toNat b)<(toNat e)))))) (b1 5 a2 (ay r2 (ay axn b0))) Tryz.func124 (have⟨n,p⟩:=j;⟨⟨(by repeat first|assumption|apply dS),(by have:=C6 o c (by repeat first|assumption|apply dS|apply d_|apply eB|apply eu|apply gP|apply B|apply gq|apply gd|apply gf|apply gN|apply gb|apply gO|apply gL|apply gM);omega)⟩,(λe l bg bO i=>have q:=i.1;⟨(λm=>⟨Ψ,Ω⟩),(λd=>⟨⟨(by repeat first|assumption|apply dS),(by have:=d;(try simp [Fb]at this);have:=azr l bg bO;have:=E (e-1);omega)⟩,(by have:=d;(try simp [Fb]at this);have:=E (e-1);omega)⟩)⟩)⟩)
def ajR: ∀(m:Nat) (n:Int) (s:G Int) (b:Bool) (l:G bt),aK s->aK (xO m n s b l).1
 |0,_,_,_,_,_=>λi=>by show(0:Int)<=0/\(0:Int)<=255;omega
 |m+1,n,s,b,l,h=>by
  rw[xO]
  cases Fb n b
  .exact h
  .exact ajR m _ _ _ _ (gN h)
def gb{o:G Int}{c:Bool}{v:G bt}(h:aK o):aK (rj o c v):=ajR _ _ _ _ _ (eB h)
def Bt:G Int:=(aL (cC o c) (cN o c))
def KT:Bool:=(aM (cC o c) (cN o c))
def Fu:G bG:=(G.app y (G.lit ([(⟨(h8 o c),(cW (cC o c) (cN o c))⟩:bG)]:List bG)))
def amg:cf:=⟨[.p 0,.p 1],[(.h 0 0,a),(.h 0 1,al),(.h 0 2,a),(.h 0 4,.ab bV),(.h 2 0,.ab bo),(.h 2 1,K),(.h 3 0,.ad dd),(.h 4 0,.ad c3)],[[U,U,U,.own 3 0,U,.own 4 0],[.ptr 2 0],[U,U],[U],[U]],λ(A:Int) g (r:Int) h o c v y=>⟨⟨some (aK o/\y.n<=1000),[],[[b A,.str g,b r,.own 3 (v).n,aP 1 cU h,.own 4 ((Fu o c y)).n],[.ptr 2 0],[aP 1 cZ (Bt o c),.bool (KT o c)],[(aH.ad dd).av v],[(aH.ad c3).av (Fu o c y)]]⟩⟩⟩
def axo:dV 144 amg:=ea Tryz.func144
 λ(A:Int) g f (r:Int) h i o j c v k y l b=>dU ⟨.heap,[],[(.h 0 0,a),(.h 0 1,al),(.h 0 2,a),(.h 0 4,.ab bV),(.h 2 0,.ab bo),(.h 2 1,K),(.h 3 0,.ad dd),(.h 4 0,.ad c3)],⟨[],[[U,U,U,.own 3 0,U,.own 4 0],[.ptr 2 0],[U,U],[U],[U]]⟩⟩ (.z) ((aK o)/\(y.n+1<=549755813888)) (b1 5 a2 (ay wu (ay y9 b0))) Tryz.func144 (have⟨d,e⟩:=b;⟨Ψ,Ω⟩)
def gO{o:G Int}{c:Bool}(h:aK o):aK (Bt o c):=d_ (eu h)
def azs(o:G Int)(c:Bool)(y:G bG):(Fu o c y).n=y.n+1:=rfl
def Fg:Bool:=(cond (decide (e>0)) (!bg) false)
def xP:Nat->Int->G Int->Bool->G bG->G Int×Bool×G bG
 |0,_,_,_,_=>default
 |k+1,e,l,bg,bO=>(cond (Fg e bg) (xP k (i64 (e-1)) (Bt l bg) (KT l bg) (Fu l bg bO)) (l,bg,bO))
def SZ:G Int×Bool×G bG:=xP ((toNat (cD o c))+1) (cD o c) (cc o c) (cl o c) y
def Fe:G Int:=(SZ o c y).1
def SY:Bool:=(SZ o c y).2.1
def Ff:G bG:=(SZ o c y).2.2
def alE:cf:=⟨[.p 2,.jU 144 [0,1]],[(.h 0 0,a),(.h 0 1,al),(.h 0 2,a),(.h 0 4,.ab bV),(.h 2 0,.ab bo),(.h 2 1,K),(.h 3 0,.ad dd),(.h 4 0,.ad c3)],[[U,U,U,.own 3 0,U,.own 4 0],[.ptr 2 0],[U,U],[U],[U]],λ(A:Int) g (r:Int) h o c v y=>let d:=Ff o c y;⟨⟨some (aK o/\y.n<=10),[],[[b A,.str g,b r,.own 3 (v).n,aP 1 cU h,.own 4 (d).n],[.ptr 2 0],[aP 1 cZ (Fe o c y),.bool (SY o c y)],[(aH.ad dd).av v],[(aH.ad c3).av d]]⟩⟩⟩
def awV:dV 124 alE:=ea Tryz.func124
 λ(A:Int) g t (r:Int) h u o w c v x y z j=>dU ⟨.heap,[],[(.h 0 0,a),(.h 0 1,al),(.h 0 2,a),(.h 0 4,.ab bV),(.h 2 0,.ab bo),(.h 2 1,K),(.h 3 0,.ad dd),(.h 4 0,.ad c3)],⟨[],[[U,U,U,.own 3 0,U,.own 4 0],[.ptr 2 0],[U,U],[U],[U]]⟩⟩ (.ae (.cX ⟨19,[],[],[(.t 4,a),(.h 2 0,.ab bo),(.h 2 1,K),(.h 4 0,.ad c3)],some 0,false,0,[],[(.h 2 0,.ab bo),(.h 2 1,K),(.h 4 0,.ad c3)],λk (s:Int×G Int×Bool×G bG)=>xP k s.1 s.2.1 s.2.2.1 s.2.2.2,.f,λ(s:Int×G Int×Bool×G bG)=>(aK s.2.1/\0<=s.1/\s.1<=255/\(s.2.2.2.n:Int)<=(y.n:Int)+255-s.1),λ(s:Int×G Int×Bool×G bG)=>(toNat s.1),none⟩ (.s (.j ⟨33683,[],[(.t 9,K),(.t 15,K)],[],.f⟩ .z .z) .z))) (((aK (cc o c)/\0<=(cD o c)/\(cD o c)<=255/\(y.n:Int)<=(y.n:Int)+255- (cD o c)))/\(∀(e:Int) (l:G Int) (bg:Bool) (bO:G bG),let f:=Fg e bg;let b:=i64 (e-1);(aK l/\0<=e/\e<=255/\(bO.n:Int)<=(y.n:Int)+255-e)->((f=true->(aK l/\bO.n<=1000))/\(f=true->((aK (Bt l bg)/\0<=b/\b<=255/\(((Fu l bg bO).n:Nat):Int)<=(y.n:Int)+255-b)/\(toNat b)<(toNat e)))))) (b1 5 a2 (ay r2 (ay axo b0))) Tryz.func124 (have⟨n,p⟩:=j;⟨⟨(by repeat first|assumption|apply dS),(by have:=C6 o c (by repeat first|assumption|apply dS|apply d_|apply eB|apply eu|apply gP|apply B|apply gq|apply gd|apply gf|apply gN|apply gb|apply gO|apply gL|apply gM);omega)⟩,(λe l bg bO i=>have q:=i.1;⟨(λm=>⟨Ψ,Ω⟩),(λd=>⟨⟨(by repeat first|assumption|apply dS),(by have:=d;(try simp [Fg]at this);have:=azs l bg bO;have:=E (e-1);omega)⟩,(by have:=d;(try simp [Fg]at this);have:=E (e-1);omega)⟩)⟩)⟩)
def ajS: ∀(m:Nat) (n:Int) (s:G Int) (b:Bool) (l:G bG),aK s->aK (xP m n s b l).1
 |0,_,_,_,_,_=>λi=>by show(0:Int)<=0/\(0:Int)<=255;omega
 |m+1,n,s,b,l,h=>by
  rw[xP]
  cases Fg n b
  .exact h
  .exact ajS m _ _ _ _ (gO h)
def gL{o:G Int}{c:Bool}{y:G bG}(h:aK o):aK (Fe o c y):=ajS _ _ _ _ _ (eB h)
def Fj:Int:=(cD A g)
def Fk:u:=(h8 (cc A g) (cl A g))
def Fl:Int:=(cW (cC (cc A g) (cl A g)) (cN (cc A g) (cl A g)))
def Be:G bt:=let b:=cN (cc A g) (cl A g);let a:=cC (cc A g) (cl A g);(Fa (aL a b) (aM a b) (B:G bt))
def Bf:G u:=let b:=cN (cc A g) (cl A g);let a:=cC (cc A g) (cl A g);(xS (rj (aL a b) (aM a b) (B:G bt)) (ta (aL a b) (aM a b) (B:G bt)))
def Bg:G bG:=let d:=cN (cc A g) (cl A g);let c:=cC (cc A g) (cl A g);let b:=aM c d;let a:=aL c d;let f:=ta a b (B:G bt);let e:=rj a b (B:G bt);(Ff (tc e f) (xT e f) (B:G bG))
def tb:G Int:=let d:=cN (cc A g) (cl A g);let c:=cC (cc A g) (cl A g);let b:=aM c d;let a:=aL c d;let f:=ta a b (B:G bt);let e:=rj a b (B:G bt);(Fe (tc e f) (xT e f) (B:G bG))
def xR:Bool:=let d:=cN (cc A g) (cl A g);let c:=cC (cc A g) (cl A g);let b:=aM c d;let a:=aL c d;let f:=ta a b (B:G bt);let e:=rj a b (B:G bt);(SY (tc e f) (xT e f) (B:G bG))
def alI:cf:=⟨[.p 0],[(.h 0 0,.ab bo),(.h 0 1,K)],[[U,U]],λA g=>⟨⟨some (aK A),[.agg [b (Fj A g),.str (Fk A g),b (Fl A g),aP 2 fU (Be A g),aP 1 cU (Bf A g),aP 2 fV (Bg A g)]],[[aP 1 cZ (tb A g),.bool (xR A g)]]⟩⟩⟩
def awY:dV 127 alI:=ea Tryz.func127
 λA i g h=>dU ⟨.heap,[.cell 2 115],[(.c 0 0,a),(.c 0 1,al),(.c 0 2,a),(.c 0 3,.ab dd),(.c 0 4,.ab bV),(.c 0 5,.ab c3),(.h 0 0,.ab bo),(.h 0 1,K)],⟨[.agg (us 6 [])],[[U,U]]⟩⟩ (.ae (.ae (.s (.jb [(.h 3 3,dd),(.h 3 5,c3)]) .z))) (let c:=cl A g;let b:=cc A g;let e:=aM (cC b c) (cN b c);let d:=aL (cC b c) (cN b c);let f:=rj d e (B:G bt);(aK b)/\((aK d/\0<=10)/\((aK f)/\(aK (tc f (ta d e (B:G bt)))/\0<=10)))) (b1 1 a2 (ay wu (ay awU (ay awV (ay y9 (ay r2 (ay agp b0))))))) Tryz.func127 (⟨(by repeat first|assumption|apply dS),⟨⟨(by repeat first|assumption|apply dS),Ω⟩,⟨(by repeat first|assumption|apply gb|apply dS),⟨(by repeat first|assumption|apply gd|apply gb|apply dS),Ω⟩⟩⟩⟩)
def gM{A:G Int}{g:Bool}(h:aK A):aK (tb A g):=gL (gf (gb (d_ (eu (eB h)))))
end
def eG(A:G Int):Int:=(bits .or .i64 (bits .or .i64 (i64 ((i64 (A.at' (toNat 0)))*2^(toNat 16))) (i64 ((i64 (A.at' (toNat 1)))*2^(toNat 8)))) (i64 (A.at' (toNat 2))))
def akI:bq:=⟨[.v (.ab bo)],λA=>⟨⟨some (aK A/\3<=A.n),b (eG A)⟩⟩⟩
def agd:bx 96 akI:=bA Tryz.func96
 λA e _ b=>bD ⟨.pure,[.tmp 2],[(.t 0,a)],⟨[U],[]⟩⟩ (.z) (((0:Int)<=0/\0<(A.n:Int))/\(((0:Int)<=16/\(16:Int)<=64)/\(((0:Int)<=1/\1<(A.n:Int))/\(((0:Int)<=8/\(8:Int)<=64)/\((0:Int)<=2/\2<(A.n:Int)))))) fx Tryz.func96 (have⟨c,d⟩:=b;⟨Ω,⟨Ω,⟨Ω,⟨Ω,Ω⟩⟩⟩⟩)
def ah6(v b k:Nat)(d:v*2^k<9223372036854775808)(f:b<2^k)(g:b<9223372036854775808):bits .or .i64 ((v*2^k:Nat):Int) (b:Int)=((v*2^k:Nat):Int)+b:=by
 have e:=Nat.shiftLeft_add_eq_or_of_lt f v;rw[Nat.shiftLeft_eq]at e;have h:v*2^k+b<9223372036854775808:=by
  rw[e];exact Nat.or_lt_two_pow (n:=63) d g
 unfold bits;simp only[BitVec.toNat_or,BitVec.toNat_ofInt];have a:((((v*2^k:Nat):Int))%((2^i64.bits:Nat):Int)).toNat=v*2^k:=by
  show((((v*2^k:Nat):Int))%18446744073709551616).toNat=v*2^k;omega
 have c:((b:Int)%((2^i64.bits:Nat):Int)).toNat=b:=by
  show((b:Int)%18446744073709551616).toNat=b;omega
 rw[a,c,<-e,E _];omega
def abv(A:G Int)(h:aK A):eG A=65536*A.at' 0+256*A.at' 1+A.at' 2:=by
 obtain⟨a,d⟩:=wY (h 0).1;obtain⟨b,e⟩:=wY (h 1).1;obtain⟨c,f⟩:=wY (h 2).1;have e6:=(h 0).2;have f_:=(h 1).2;have rc:=(h 2).2;unfold eG;show bits .or .i64 (bits .or .i64 (i64 ((i64 (A.at' 0))*65536)) (i64 ((i64 (A.at' 1))*256))) (i64 (A.at' 2))=_;rw[d]at e6 |-;rw[e]at f_ |-;rw[f]at rc |-;rw[E (a:Int),E (b:Int),E (c:Int),E ((a:Int)*65536),E ((b:Int)*256)];have g:=ah6 a (b*256) 16 Ω Ω Ω;have i:=ah6 (a*256+b) c 8 Ω Ω Ω;rw[show(a:Int)*65536=((a*2^16:Nat):Int) by omega,show(b:Int)*256=((b*256:Nat):Int) by omega,g];rw[show((a*2^16:Nat):Int)+((b*256:Nat):Int)=(((a*256+b)*2^8:Nat):Int) by omega,i];omega
def aiB(A:G Int)(h:aK A):0<=eG A/\eG A<=16777215:=by
 have:=h 0;have:=h 1;have:=h 2;rw[abv A h];omega
def lW{s:G Int}{l h:Int}(a:aK s):aK (G.part s l h):=λi=>a _
def azK{v n:Int}(h:decide (i64 (v+3)<=n)=true)(b:0<=v)(a:v<=1000000):v+3<=n:=by
 have:=an h;rw[E (v+3)]at this;exact this
def ahm{v g n:Int}(h:decide (i64 (i64 (v+3)+g)>n)=false)(c:0<=v)(a:v<=1000000):0<=g/\g<=16777215->v+3+g<=n:=λb=>by
 have:=hX h;rw[E (v+3),E (v+3+g)]at this;omega
end Go.Proofs.YtadmdaokcgjdiaaGreatDoor
