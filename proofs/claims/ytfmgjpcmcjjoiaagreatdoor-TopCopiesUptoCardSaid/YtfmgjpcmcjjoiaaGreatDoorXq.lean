/- Part of a proof: walks of the program. -/
import Derived.Test.YtfmgjpcmcjjoiaaGreatDoorXk
import Derived.Test.YtfmgjpcmcjjoiaaGreatDoorXl
open Go.IntKind (i64 u64 u8)
open Int (toNat)
set_option maxRecDepth 100000
set_option maxHeartbeats 4000000
set_option linter.all false
noncomputable section
namespace Go.Proofs.YtfmgjpcmcjjoiaaGreatDoor
open Go Go.RowKit Go.ah
abbrev hv:=dx b8
instance:Inhabited hv:=⟨dx.lF b8⟩
def Vj(C:ak):hv:=(C.a.bm,C.a.up,C.a.bU,C.a.ro,C.a.aX,C.a.dH,C.a.l,C.a.lt,C.a.li,C.a.c8,C.a.gR,C.a.gS,C.a.fG,C.a.gT,C.a.fF,C.a.eO,C.a.eC,C.a.et,C.a.eD,C.a.co,C.a.v0,C.a.v1,C.a.v2,C.a.eb,C.a.dF,C.a.dW,C.a.g6,C.a.q1,C.a.fp,C.a.bd,C.a.bh,C.b.bm,C.b.up,C.b.bU,C.b.ro,C.b.aX,C.b.dH,C.b.l,C.b.lt,C.b.li,C.b.c8,C.b.gR,C.b.gS,C.b.fG,C.b.gT,C.b.fF,C.b.eO,C.b.eC,C.b.et,C.b.eD,C.b.co,C.b.v0,C.b.v1,C.b.v2,C.b.eb,C.b.dF,C.b.dW,C.b.g6,C.b.q1,C.b.fp,C.b.bd,C.b.bh,C.c.bm,C.c.up,C.c.bU,C.c.ro,C.c.aX,C.c.dH,C.c.l,C.c.lt,C.c.li,C.c.c8,C.c.gR,C.c.gS,C.c.fG,C.c.gT,C.c.fF,C.c.eO,C.c.eC,C.c.et,C.c.eD,C.c.co,C.c.v0,C.c.v1,C.c.v2,C.c.eb,C.c.dF,C.c.dW,C.c.g6,C.c.q1,C.c.fp,C.c.bd,C.c.bh,C.a.ws,C.a.bS,C.b.ws,C.b.bS,C.c.ws,C.c.bS,C.s,C.told,C.a2)
def bc(x:hv):ak:=let a:=x.2.2.2.2.2.2.2.2;let b:=a.2.2.2.2.2.2.2.2;let c:=b.2.2.2.2.2.2.2.2;let d:=c.2.2.2.2.2.2.2.2;let e:=d.2.2.2.2.2.2.2.2;let f:=e.2.2.2.2.2.2.2.2;let g:=f.2.2.2.2.2.2.2.2;let h:=g.2.2.2.2.2.2.2.2;let i:=h.2.2.2.2.2.2.2.2;let j:=i.2.2.2.2.2.2.2.2;let k:=j.2.2.2.2.2.2.2.2;let l:=k.2.2.2.2.2.2.2.2;⟨⟨x.1,x.2.1,x.2.2.1,x.2.2.2.1,x.2.2.2.2.1,x.2.2.2.2.2.1,x.2.2.2.2.2.2.1,x.2.2.2.2.2.2.2.1,a.1,a.2.1,a.2.2.1,a.2.2.2.1,a.2.2.2.2.1,a.2.2.2.2.2.1,a.2.2.2.2.2.2.1,a.2.2.2.2.2.2.2.1,b.1,b.2.1,b.2.2.1,b.2.2.2.1,b.2.2.2.2.1,b.2.2.2.2.2.1,b.2.2.2.2.2.2.1,b.2.2.2.2.2.2.2.1,c.1,c.2.1,c.2.2.1,c.2.2.2.1,c.2.2.2.2.1,k.2.2.2.2.2.1,c.2.2.2.2.2.1,c.2.2.2.2.2.2.1,k.2.2.2.2.2.2.1⟩,⟨c.2.2.2.2.2.2.2.1,d.1,d.2.1,d.2.2.1,d.2.2.2.1,d.2.2.2.2.1,d.2.2.2.2.2.1,d.2.2.2.2.2.2.1,d.2.2.2.2.2.2.2.1,e.1,e.2.1,e.2.2.1,e.2.2.2.1,e.2.2.2.2.1,e.2.2.2.2.2.1,e.2.2.2.2.2.2.1,e.2.2.2.2.2.2.2.1,f.1,f.2.1,f.2.2.1,f.2.2.2.1,f.2.2.2.2.1,f.2.2.2.2.2.1,f.2.2.2.2.2.2.1,f.2.2.2.2.2.2.2.1,g.1,g.2.1,g.2.2.1,g.2.2.2.1,k.2.2.2.2.2.2.2.1,g.2.2.2.2.1,g.2.2.2.2.2.1,l.1⟩,⟨g.2.2.2.2.2.2.1,g.2.2.2.2.2.2.2.1,h.1,h.2.1,h.2.2.1,h.2.2.2.1,h.2.2.2.2.1,h.2.2.2.2.2.1,h.2.2.2.2.2.2.1,h.2.2.2.2.2.2.2.1,i.1,i.2.1,i.2.2.1,i.2.2.2.1,i.2.2.2.2.1,i.2.2.2.2.2.1,i.2.2.2.2.2.2.1,i.2.2.2.2.2.2.2.1,j.1,j.2.1,j.2.2.1,j.2.2.2.1,j.2.2.2.2.1,j.2.2.2.2.2.1,j.2.2.2.2.2.2.1,j.2.2.2.2.2.2.2.1,k.1,k.2.1,k.2.2.1,l.2.1,k.2.2.2.1,k.2.2.2.2.1,l.2.2.1⟩,l.2.2.2.1,l.2.2.2.2.1,l.2.2.2.2.2⟩
section
def QT(g:A aj):Nat→Int→A aj→A aj
 |0,_,_=>default
 |k+1,e,m=>(cond (decide (e<(g.n:Int))) (QT g k (i64.wrap (e+1)) (A.app m (A.lit ([(g.at' (toNat e))]:List aj)))) m)
variable(g:A aj)(h:A aG)
def abY:A aj:=QT g ((toNat ((g.n:Int)-0))+1) 0 (L:A aj)
def QU(h:A aG):Nat→Int→A aG→A aG
 |0,_,_=>default
 |k+1,a5,a=>(cond (decide (a5<(h.n:Int))) (QU h k (i64.wrap (a5+1)) (A.app a (A.lit ([(h.at' (toNat a5))]:List aG)))) a)
def aqE:A aG:=QU h ((toNat ((h.n:Int)-0))+1) 0 (L:A aG)
def tQ(d:Int):Int:=d
def tR:A aj:=(abY g)
def tS(u:Int):Int:=u
def tT:A aG:=(aqE h)
def ak4:a6:=⟨[.g [a,.af a_,a,.af bP]],fun d g u h=>⟨⟨none,.agg [b (tQ d),aH 8 fZ (tR g),b (tS u),aH 7 gK (tT h)]⟩⟩⟩
theorem ae2:bg 36 ak4:=bj Tryz.func36
 fun(d:Int) g y _ (u:Int) h z _=>bf ⟨.pure,[.cell 2 49],[(.c 0 0,a),(.c 0 1,.af a_),(.c 0 2,a),(.c 0 3,.af bP)],⟨[.agg (us 4 [])],[]⟩⟩ (.ad (.ad (.j ⟨14,[],[],[],.f⟩ (.ad (.cy ⟨1835022,[],[(.h 2 1,a_)],[(.t 20,a),(.h 3 0,.ae a_)],some 0,false,14,[],[(.h 3 0,.ae a_)],fun k (s:Int×A aj)=>QT g k s.1 s.2,.f,fun(s:Int×A aj)=>((0≤s.1∧s.1≤(g.n:Int))∧(s.2.n:Int)≤0+(s.1-0)),fun(s:Int×A aj)=>(toNat ((g.n:Int)-s.1)),some fun(r:A aj)=>(r.n:Int)≤0+max ((g.n:Int)-0) 0⟩ .z)) (.j ⟨12,[],[],[],.f⟩ (.ad (.cy ⟨63050394783186956,[.b 0],[(.h 2 3,bP)],[(.t 55,a),(.h 4 0,.ae bP)],some 2,false,12,[],[(.h 4 0,.ae bP)],fun k (s:Int×A aG)=>QU h k s.1 s.2,.f,fun(s:Int×A aG)=>((0≤s.1∧s.1≤(h.n:Int))∧(s.2.n:Int)≤0+(s.1-0)),fun(s:Int×A aG)=>(toNat ((h.n:Int)-s.1)),some fun(r:A aG)=>(r.n:Int)≤0+max ((h.n:Int)-0) 0⟩ .z)) .z)))) (((((0≤(0:Int)∧(0:Int)≤(g.n:Int))∧((0:Nat):Int)≤0+((0:Int)-0)))∧(∀(e:Int) (m:A aj),let i:=decide (e<(g.n:Int));let c:=i64.wrap (e+1);((0≤e∧e≤(g.n:Int))∧(m.n:Int)≤0+(e-0))→((i=true→(((0:Int)≤e∧e<(g.n:Int))∧(m.n+1≤549755813888)))∧((i=true→(((0≤c∧c≤(g.n:Int))∧(((m.n+1):Nat):Int)≤0+(c-0))∧(toNat ((g.n:Int)-c))<(toNat ((g.n:Int)-e))))∧(i=false→((m.n:Int)≤0+max ((g.n:Int)-0) 0))))))∧(((((abY g).n:Nat):Int)≤0+max ((g.n:Int)-0) 0)→((((0≤(0:Int)∧(0:Int)≤(h.n:Int))∧((0:Nat):Int)≤0+((0:Int)-0)))∧(∀(a5:Int) (b:A aG),let j:=decide (a5<(h.n:Int));let f:=i64.wrap (a5+1);((0≤a5∧a5≤(h.n:Int))∧(b.n:Int)≤0+(a5-0))→((j=true→(((0:Int)≤a5∧a5<(h.n:Int))∧(b.n+1≤549755813888)))∧((j=true→(((0≤f∧f≤(h.n:Int))∧(((b.n+1):Nat):Int)≤0+(f-0))∧(toNat ((h.n:Int)-f))<(toNat ((h.n:Int)-a5))))∧(j=false→((b.n:Int)≤0+max ((h.n:Int)-0) 0)))))))) (b4 (aw S4 (aw xP (aw S5 aT)))) Tryz.func36 (⟨⟨(by omega),(fun e m w=>⟨(fun l=>⟨(by have:=aq l;omega),(by have:=aq l;omega)⟩),⟨(fun o=>(by have:=aq o;have:=N (e+1);omega)),(fun q=>(by omega))⟩⟩)⟩,(fun v=>⟨(by omega),(fun a5 b x=>⟨(fun n=>⟨(by have:=aq n;omega),(by have:=aq n;omega)⟩),⟨(fun p=>(by have:=aq p;have:=N (a5+1);omega)),(fun t=>(by omega))⟩⟩)⟩)⟩)
end
section
variable(d:Int)(eZ:Int)(g:Int)(u:A aJ)
def aqM:Bool:=(cond (decide (eZ>d)) true false)
def r_(a:A aJ):Bool:=(cond (decide (eZ>d)) (decide ((qg (a.at' (toNat eZ)).j (a.at' (toNat (i64.wrap (eZ-1)))).j)<0)) false)
def D_(d:Int):Nat→Int→A aJ→Int×A aJ×Int×Int×Bool×Bool×Bool
 |0,_,_=>default
 |k+1,eZ,a=>(cond (r_ d eZ a) (D_ d k (i64.wrap (eZ-1)) (A.cz (A.cz a (toNat eZ) (a.at' (toNat (i64.wrap (eZ-1))))) (toNat (i64.wrap (eZ-1))) (a.at' (toNat eZ)))) (eZ,a,eZ,d,(decide (eZ>d)),(aqM d eZ),(r_ d eZ a)))
def Q5(e:Int)(m:A aJ):Int×A aJ×Int×Int×Bool×Bool×Bool:=D_ d ((toNat (e-d))+1) e m
def D9(d:Int)(g:Int):Nat→Int→A aJ→A aJ
 |0,_,_=>default
 |k+1,e,m=>(cond (decide (e<g)) (D9 d g k (i64.wrap (e+1)) (Q5 d e m).2.1) m)
def Q6:A aJ:=D9 d g ((toNat (g- (i64.wrap (d+1))))+1) (i64.wrap (d+1)) u
def wM:A aJ:=(Q6 d g u)
theorem TJ(d:Int): ∀(k:Nat) (v:Int) (s:A aJ),v≤900000→ -1≤d→toNat (v-d)<k→(D_ d k v s).2.1.n=s.n
 |0,_,_,_,_,a=>absurd a (eH _)
 |k+1,v,s,f,b,a=>by
  rw[D_]
  cases e:r_ d v s
  ·rw[aQ]
  ·have g:v>d:=by
    unfold r_ at e
    by_cases c:v>d
    ·exact c
    ·rw[bI c]at e;cases e
   rw[aN,N (v-1)];exact TJ d k (v-1) _ (by omega) b (by omega)
theorem ayb(d v:Int)(s:A aJ):(v≤900000∧ -1≤d)→(Q5 d v s).2.1.n=s.n:=fun h=>TJ d (toNat (v-d)+1) v s h.1 h.2 (by omega)
theorem agf(d g:Int)(h:0≤d∧g≤900000): ∀(k:Nat) (v:Int) (s:A aJ),d≤v→v≤900001→toNat (g-v)<k→(D9 d g k v s).n=s.n
 |0,_,_,_,_,a=>absurd a (eH _)
 |k+1,v,s,c,f,a=>by
  rw[D9]
  by_cases e:v<g
  ·rw[bT e,aN,N (v+1)];have b:=TJ d (toNat (v-d)+1) v s (by omega) (by omega) (by omega);exact(agf d g h k (v+1) _ (by omega) (by omega) (by omega)).trans b
  ·rw[bI e,aQ]
theorem ayO(d g:Int)(u:A aJ)(a:0≤d∧d≤g∧g≤(u.n:Int)∧u.n≤900000):(wM d g u).n=u.n:=by
 show(Q6 d g u).n=u.n;unfold Q6;rw[N (d+1)];exact agf d g ⟨a.1,by omega⟩ _ _ _ (by omega) (by omega) (by omega)
def ak8:b5:=⟨[.o 0,.v a,.v a,.jA 34 []],[(.h 0 0,.ae ct)],[[U]],fun(d:Int) (g:Int) u=>⟨⟨some (0≤d∧d≤g∧g≤(u.n:Int)∧u.n≤900000),[],[[(aB.ae ct).ab (A.cut (wM d g u) u.n)]]⟩⟩⟩
theorem awi:dB 76 ak8:=dI Tryz.func76
 fun(d:Int) (g:Int) u G p=>have q:=A.y9 (ayO d g u p);uB (rs:=[]) (al:=[[(aB.ae ct).ab (wM d g u)]]) (dA ⟨.heap,[],[(.h 0 0,.ae ct)],⟨[],[[U]]⟩⟩ (.ad (.cy ⟨271,[],[],[(.t 8,a),(.h 0 0,.ae ct)],some 0,false,0,[],[(.h 0 0,.ae ct)],fun k (s:Int×A aJ)=>D9 d g k s.1 s.2,.f,fun(s:Int×A aJ)=>((d+1≤s.1∧(s.1≤g∨s.1=d+1))∧(s.2.n:Int)=u.n),fun(s:Int×A aJ)=>(toNat (g-s.1)),none⟩ (.ad (.j ⟨17183961871,[],[],[],.f⟩ (.ad (.cy ⟨160527,[],[],[(.t 9,a),(.h 0 0,.ae ct)],some 2,false,17183961871,[],[(.t 9,a),(.h 0 0,.ae ct),(.t 18,a),(.t 19,a),(.t 20,y),(.t 21,y),(.t 34,y)],fun k (s:Int×A aJ)=>D_ d k s.1 s.2,.f,fun(s:Int×A aJ)=>((d≤s.1∧s.1<g)∧(s.2.n:Int)=u.n),fun(s:Int×A aJ)=>(toNat (s.1-d)),some fun(r:Int×A aJ×Int×Int×Bool×Bool×Bool)=>(r.2.1.n:Int)=u.n⟩ (.s (.j ⟨17183961871,[],[(.t 21,y),(.t 34,y)],[],.f⟩ .z .z) .z))) .z)))) (let i:=i64.wrap (d+1);(((d+1≤i∧(i≤g∨i=d+1))∧(u.n:Int)=u.n))∧(∀(e:Int) (m:A aJ),let f:=i64.wrap (e+1);((d+1≤e∧(e≤g∨e=d+1))∧(m.n:Int)=u.n)→(((decide (e<g))=true→((((d≤e∧e<g)∧(m.n:Int)=u.n))∧(∀(eZ:Int) (b:A aJ),let j:=toNat eZ;let h:=r_ d eZ b;let c:=i64.wrap (eZ-1);let l:=toNat c;((d≤eZ∧eZ<g)∧(b.n:Int)=u.n)→((((decide (eZ>d))=true→(((0:Int)≤eZ∧eZ<(b.n:Int))∧((j<b.n)∧(((0:Int)≤c∧c<(b.n:Int))∧(l<b.n)))))∧(h=true→(((0:Int)≤c∧c<(b.n:Int))∧((l<b.n)∧(((0:Int)≤eZ∧eZ<(b.n:Int))∧((j<b.n)∧(((0:Int)≤eZ∧eZ<(b.n:Int))∧((j<b.n)∧(((0:Int)≤c∧c<(b.n:Int))∧(l<b.n))))))))))∧((h=true→(((d≤c∧c<g)∧(b.n:Int)=u.n)∧(toNat (c-d))<(toNat (eZ-d))))∧(h=false→((b.n:Int)=u.n)))))))∧((decide (e<g))=true→(((d+1≤f∧(f≤g∨f=d+1))∧(((Q5 d e m).2.1.n:Nat):Int)=u.n)∧(toNat (g-f))<(toNat (g-e))))))) (bK 1 (aw ae1 aT) bJ) Tryz.func76 (have⟨C,D,E,F⟩:=p;⟨(by have:=N (d+1);omega),(fun e m z=>⟨(fun n=>⟨(by have:=aq n;omega),(fun eZ b B=>⟨⟨(fun t=>⟨(by omega),⟨(by omega),⟨(by have:=aq t;have:=N (eZ-1);omega),(by have:=N (eZ-1);omega)⟩⟩⟩),(fun o=>⟨(by have:=o;(try simp [r_]at this);have:=N (eZ-1);omega),⟨(by have:=N (eZ-1);omega),⟨(by omega),⟨(by omega),⟨(by omega),⟨(by omega),⟨(by have:=o;(try simp [r_]at this);have:=N (eZ-1);omega),(by have:=N (eZ-1);omega)⟩⟩⟩⟩⟩⟩⟩)⟩,⟨(fun v=>(by have:=v;(try simp [r_]at this);have:=N (eZ-1);omega)),(fun w=>(by have:=aq n;have:=w;simp [r_]at this;omega))⟩⟩)⟩),(fun x=>(by have:=aq x;have:=ayb d e m;have:=N (e+1);omega))⟩)⟩)) rfl (show([[(aB.ae ct).ab (wM d g u)]]:Heap)=[[(aB.ae ct).ab (A.cut (wM d g u) u.n)]] by rw[q])
end
end Go.Proofs.YtfmgjpcmcjjoiaaGreatDoor
