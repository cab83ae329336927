/- Part of a proof: walks of the program. -/
import Derived.Test.YtfmgjpcmcjjoiaaGreatDoorXk
import Derived.Test.YtfmgjpcmcjjoiaaGreatDoorXl
open Go.IntKind (i64 u64 u8)
open Int (toNat)
set_option maxRecDepth 100000
set_option maxHeartbeats 4000000
set_option linter.all false
noncomputable section
namespace Go.Proofs.YtfmgjpcmcjjoiaaGreatDoor
open Go Go.RowKit Go.Vc
abbrev j3:=dp bP
instance:Inhabited j3:=⟨dp.mo bP⟩
def Zp(C:Cr):j3:=(C.a.me,C.a.up,C.a.ck,C.a.ro,C.a.te,C.a.vo,C.a.lb,C.a.lt,C.a.li,C.a.si,C.a.sg,C.a.sn,C.a.se,C.a.sx,C.a.sc,C.a.mn,C.a.mE,C.a.mx,C.a.mc,C.a.co,C.a.v0,C.a.v1,C.a.v2,C.a.p0,C.a.p1,C.a.p2,C.a.q0,C.a.q1,C.a.q2,C.a.td,C.a.ts,C.b.me,C.b.up,C.b.ck,C.b.ro,C.b.te,C.b.vo,C.b.lb,C.b.lt,C.b.li,C.b.si,C.b.sg,C.b.sn,C.b.se,C.b.sx,C.b.sc,C.b.mn,C.b.mE,C.b.mx,C.b.mc,C.b.co,C.b.v0,C.b.v1,C.b.v2,C.b.p0,C.b.p1,C.b.p2,C.b.q0,C.b.q1,C.b.q2,C.b.td,C.b.ts,C.c.me,C.c.up,C.c.ck,C.c.ro,C.c.te,C.c.vo,C.c.lb,C.c.lt,C.c.li,C.c.si,C.c.sg,C.c.sn,C.c.se,C.c.sx,C.c.sc,C.c.mn,C.c.mE,C.c.mx,C.c.mc,C.c.co,C.c.v0,C.c.v1,C.c.v2,C.c.p0,C.c.p1,C.c.p2,C.c.q0,C.c.q1,C.c.q2,C.c.td,C.c.ts,C.a.ws,C.a.ou,C.b.ws,C.b.ou,C.c.ws,C.c.ou,C.ax,C.told,C.aY)
def bR(x:j3):Cr:=let a:=x.2.2.2.2.2.2.2.2;let b:=a.2.2.2.2.2.2.2.2;let c:=b.2.2.2.2.2.2.2.2;let d:=c.2.2.2.2.2.2.2.2;let e:=d.2.2.2.2.2.2.2.2;let f:=e.2.2.2.2.2.2.2.2;let g:=f.2.2.2.2.2.2.2.2;let h:=g.2.2.2.2.2.2.2.2;let i:=h.2.2.2.2.2.2.2.2;let j:=i.2.2.2.2.2.2.2.2;let k:=j.2.2.2.2.2.2.2.2;let l:=k.2.2.2.2.2.2.2.2;⟨⟨x.1,x.2.1,x.2.2.1,x.2.2.2.1,x.2.2.2.2.1,x.2.2.2.2.2.1,x.2.2.2.2.2.2.1,x.2.2.2.2.2.2.2.1,a.1,a.2.1,a.2.2.1,a.2.2.2.1,a.2.2.2.2.1,a.2.2.2.2.2.1,a.2.2.2.2.2.2.1,a.2.2.2.2.2.2.2.1,b.1,b.2.1,b.2.2.1,b.2.2.2.1,b.2.2.2.2.1,b.2.2.2.2.2.1,b.2.2.2.2.2.2.1,b.2.2.2.2.2.2.2.1,c.1,c.2.1,c.2.2.1,c.2.2.2.1,c.2.2.2.2.1,k.2.2.2.2.2.1,c.2.2.2.2.2.1,c.2.2.2.2.2.2.1,k.2.2.2.2.2.2.1⟩,⟨c.2.2.2.2.2.2.2.1,d.1,d.2.1,d.2.2.1,d.2.2.2.1,d.2.2.2.2.1,d.2.2.2.2.2.1,d.2.2.2.2.2.2.1,d.2.2.2.2.2.2.2.1,e.1,e.2.1,e.2.2.1,e.2.2.2.1,e.2.2.2.2.1,e.2.2.2.2.2.1,e.2.2.2.2.2.2.1,e.2.2.2.2.2.2.2.1,f.1,f.2.1,f.2.2.1,f.2.2.2.1,f.2.2.2.2.1,f.2.2.2.2.2.1,f.2.2.2.2.2.2.1,f.2.2.2.2.2.2.2.1,g.1,g.2.1,g.2.2.1,g.2.2.2.1,k.2.2.2.2.2.2.2.1,g.2.2.2.2.1,g.2.2.2.2.2.1,l.1⟩,⟨g.2.2.2.2.2.2.1,g.2.2.2.2.2.2.2.1,h.1,h.2.1,h.2.2.1,h.2.2.2.1,h.2.2.2.2.1,h.2.2.2.2.2.1,h.2.2.2.2.2.2.1,h.2.2.2.2.2.2.2.1,i.1,i.2.1,i.2.2.1,i.2.2.2.1,i.2.2.2.2.1,i.2.2.2.2.2.1,i.2.2.2.2.2.2.1,i.2.2.2.2.2.2.2.1,j.1,j.2.1,j.2.2.1,j.2.2.2.1,j.2.2.2.2.1,j.2.2.2.2.2.1,j.2.2.2.2.2.2.1,j.2.2.2.2.2.2.2.1,k.1,k.2.1,k.2.2.1,l.2.1,k.2.2.2.1,k.2.2.2.2.1,l.2.2.1⟩,l.2.2.2.1,l.2.2.2.2.1,l.2.2.2.2.2⟩
section
def Us(x1:Sl ar):Nat→Int→Sl ar→Sl ar
 |0,_,_=>default
 |k+1,af,ak=>(bif(decide (af<(x1.n:Int)))then(Us x1 k (i64.wrap (af+1)) (Sl.app ak (Sl.lit ([(x1.at' (toNat af))]:List ar))))else ak)
variable(x1:Sl ar)(x3:Sl aG)
def afh:Sl ar:=Us x1 ((toNat ((x1.n:Int)-0))+1) 0 (al:Sl ar)
def Ut(x3:Sl aG):Nat→Int→Sl aG→Sl aG
 |0,_,_=>default
 |k+1,aW,dQ=>(bif(decide (aW<(x3.n:Int)))then(Ut x3 k (i64.wrap (aW+1)) (Sl.app dQ (Sl.lit ([(x3.at' (toNat aW))]:List aG))))else dQ)
def aq4:Sl aG:=Ut x3 ((toNat ((x3.n:Int)-0))+1) 0 (al:Sl aG)
def Gl(x0:Int):Int:=x0
def Gm:Sl ar:=(afh x1)
def Gn(x2:Int):Int:=x2
def Gp:Sl aG:=(aq4 x3)
def amD:Fq:=⟨[.g [kI,.sl aZ,kI,.sl bG]],fun x0 x1 x2 x3=>⟨⟨none,.agg [ae (Gl x0),aL 8 gn (Gm x1),ae (Gn x2),aL 7 gP (Gp x3)]⟩⟩⟩
theorem avO:ba 36 amD:=bf Tryz.func36
 fun(x0:Int) x1 n1 _ (x2:Int) x3 n3 _=>bj ⟨.pure,[.cell 2 49],[(.c 0 0,kI),(.c 0 1,.sl aZ),(.c 0 2,kI),(.c 0 3,.sl bG)],⟨[.agg (us 4 [])],[]⟩⟩ (.ai (.ai (.j ⟨14,[],[],[],.f⟩ (.ai (.lp ⟨1835022,[],[(.h 2 1,aZ)],[(.t 20,kI),(.h 3 0,.ah aZ)],some 0,false,14,[],[(.h 3 0,.ah aZ)],fun k (s:Int×Sl ar)=>Us x1 k s.1 s.2,.f,fun(s:Int×Sl ar)=>((0≤s.1∧s.1≤(x1.n:Int))∧(s.2.n:Int)≤0+(s.1-0)),fun(s:Int×Sl ar)=>(toNat ((x1.n:Int)-s.1)),some fun(r:Sl ar)=>(r.n:Int)≤0+max ((x1.n:Int)-0) 0⟩ .z)) (.j ⟨12,[],[],[],.f⟩ (.ai (.lp ⟨63050394783186956,[.b 0],[(.h 2 3,bG)],[(.t 55,kI),(.h 4 0,.ah bG)],some 2,false,12,[],[(.h 4 0,.ah bG)],fun k (s:Int×Sl aG)=>Ut x3 k s.1 s.2,.f,fun(s:Int×Sl aG)=>((0≤s.1∧s.1≤(x3.n:Int))∧(s.2.n:Int)≤0+(s.1-0)),fun(s:Int×Sl aG)=>(toNat ((x3.n:Int)-s.1)),some fun(r:Sl aG)=>(r.n:Int)≤0+max ((x3.n:Int)-0) 0⟩ .z)) .z)))) (((((0≤(0:Int)∧(0:Int)≤(x1.n:Int))∧((0:Nat):Int)≤0+((0:Int)-0)))∧(∀(af:Int) (ak:Sl ar),let za:=decide (af<(x1.n:Int));let z6:=i64.wrap (af+1);((0≤af∧af≤(x1.n:Int))∧(ak.n:Int)≤0+(af-0))→((za=true→(((0:Int)≤af∧af<(x1.n:Int))∧(ak.n+1≤549755813888)))∧((za=true→(((0≤z6∧z6≤(x1.n:Int))∧(((ak.n+1):Nat):Int)≤0+(z6-0))∧(toNat ((x1.n:Int)-z6))<(toNat ((x1.n:Int)-af))))∧(za=false→((ak.n:Int)≤0+max ((x1.n:Int)-0) 0))))))∧(((((afh x1).n:Nat):Int)≤0+max ((x1.n:Int)-0) 0)→((((0≤(0:Int)∧(0:Int)≤(x3.n:Int))∧((0:Nat):Int)≤0+((0:Int)-0)))∧(∀(aW:Int) (dQ:Sl aG),let zb:=decide (aW<(x3.n:Int));let z8:=i64.wrap (aW+1);((0≤aW∧aW≤(x3.n:Int))∧(dQ.n:Int)≤0+(aW-0))→((zb=true→(((0:Int)≤aW∧aW<(x3.n:Int))∧(dQ.n+1≤549755813888)))∧((zb=true→(((0≤z8∧z8≤(x3.n:Int))∧(((dQ.n+1):Nat):Int)≤0+(z8-0))∧(toNat ((x3.n:Int)-z8))<(toNat ((x3.n:Int)-aW))))∧(zb=false→((dQ.n:Int)≤0+max ((x3.n:Int)-0) 0)))))))) (bU (aH WO (aH DC (aH WQ aQ)))) Tryz.func36 (⟨⟨(by omega),(fun af ak dX=>⟨(fun h2=>⟨(by have:=ay h2;omega),(by have:=ay h2;omega)⟩),⟨(fun h3=>(by have:=ay h3;have:=aq (af+1);omega)),(fun h4=>(by omega))⟩⟩)⟩,(fun Vt=>⟨(by omega),(fun aW dQ MV=>⟨(fun h7=>⟨(by have:=ay h7;omega),(by have:=ay h7;omega)⟩),⟨(fun h8=>(by have:=ay h8;have:=aq (aW+1);omega)),(fun h9=>(by omega))⟩⟩)⟩)⟩)
end
section
variable(x0:Int)(fi:Int)(x1:Int)(x2:Sl aS)
def arE:Bool:=(bif(decide (fi>x0))then true else false)
def tL(hP:Sl aS):Bool:=(bif(decide (fi>x0))then(decide ((q_ (hP.at' (toNat fi)).c0 (hP.at' (toNat (i64.wrap (fi-1)))).c0)<0))else false)
def G2(x0:Int):Nat→Int→Sl aS→Int×Sl aS×Int×Int×Bool×Bool×Bool
 |0,_,_=>default
 |k+1,fi,hP=>(bif(tL x0 fi hP)then(G2 x0 k (i64.wrap (fi-1)) (Sl.cp (Sl.cp hP (toNat fi) (hP.at' (toNat (i64.wrap (fi-1))))) (toNat (i64.wrap (fi-1))) (hP.at' (toNat fi))))else(fi,hP,fi,x0,(decide (fi>x0)),(arE x0 fi),(tL x0 fi hP)))
def UI(af:Int)(ak:Sl aS):Int×Sl aS×Int×Int×Bool×Bool×Bool:=G2 x0 ((toNat (af-x0))+1) af ak
def G1(x0:Int)(x1:Int):Nat→Int→Sl aS→Sl aS
 |0,_,_=>default
 |k+1,af,ak=>(bif(decide (af<x1))then(G1 x0 x1 k (i64.wrap (af+1)) (UI x0 af ak).2.1)else ak)
def UJ:Sl aS:=G1 x0 x1 ((toNat (x1- (i64.wrap (x0+1))))+1) (i64.wrap (x0+1)) x2
def xY:Sl aS:=(UJ x0 x1 x2)
theorem XQ(x0:Int): ∀(k:Nat) (v:Int) (s:Sl aS),v≤900000→ -1≤x0→toNat (v-x0)<k→(G2 x0 k v s).2.1.n=s.n
 |0,_,_,_,_,hk=>absurd hk (fC _)
 |k+1,v,s,h0,h1,hk=>by
  rw[G2]
  cases e:tL x0 v s
  ·rw[aCI]
  ·have hv:v>x0:=by
    unfold tL at e
    by_cases c:v>x0
    ·exact c
    ·rw[cq c]at e;cases e
   rw[aCJ,aq (v-1)];exact XQ x0 k (v-1) _ (by omega) h1 (by omega)
theorem axF(x0 v:Int)(s:Sl aS):(v≤900000∧ -1≤x0)→(UI x0 v s).2.1.n=s.n:=fun h=>XQ x0 (toNat (v-x0)+1) v s h.1 h.2 (by omega)
theorem air(x0 x1:Int)(h:0≤x0∧x1≤900000): ∀(k:Nat) (v:Int) (s:Sl aS),x0≤v→v≤900001→toNat (x1-v)<k→(G1 x0 x1 k v s).n=s.n
 |0,_,_,_,_,hk=>absurd hk (fC _)
 |k+1,v,s,h0,h1,hk=>by
  rw[G1]
  by_cases e:v<x1
  ·rw[cx e,aCJ,aq (v+1)];have hi:=XQ x0 (toNat (v-x0)+1) v s (by omega) (by omega) (by omega);exact(air x0 x1 h k (v+1) _ (by omega) (by omega) (by omega)).trans hi
  ·rw[cq e,aCI]
theorem ayg(x0 x1:Int)(x2:Sl aS)(hp:0≤x0∧x0≤x1∧x1≤(x2.n:Int)∧x2.n≤900000):(xY x0 x1 x2).n=x2.n:=by
 show(UJ x0 x1 x2).n=x2.n;unfold UJ;rw[aq (x0+1)];exact air x0 x1 ⟨hp.1,by omega⟩ _ _ _ (by omega) (by omega) (by omega)
def amG:Hq:=⟨[.o 0,.v kI,.v kI,.fp 34 []],[(.h 0 0,.ah cr)],[[U]],fun(x0:Int) (x1:Int) x2=>⟨⟨some (0≤x0∧x0≤x1∧x1≤(x2.n:Int)∧x2.n≤900000),[],[[(Kd.ah cr).av (Sl.cut (xY x0 x1 x2) x2.n)]]⟩⟩⟩
theorem avW:dz 76 amG:=dE Tryz.func76
 fun(x0:Int) (x1:Int) x2 n2 hp=>have e0:=Sl.A3 (ayg x0 x1 x2 hp);zA (rs:=[]) (H':=[[(Kd.ah cr).av (xY x0 x1 x2)]]) (dy ⟨.heap,[],[(.h 0 0,.ah cr)],⟨[],[[U]]⟩⟩ (.ai (.lp ⟨271,[],[],[(.t 8,kI),(.h 0 0,.ah cr)],some 0,false,0,[],[(.h 0 0,.ah cr)],fun k (s:Int×Sl aS)=>G1 x0 x1 k s.1 s.2,.f,fun(s:Int×Sl aS)=>((x0+1≤s.1∧(s.1≤x1∨s.1=x0+1))∧(s.2.n:Int)=x2.n),fun(s:Int×Sl aS)=>(toNat (x1-s.1)),none⟩ (.ai (.j ⟨17183961871,[],[],[],.f⟩ (.ai (.lp ⟨160527,[],[],[(.t 9,kI),(.h 0 0,.ah cr)],some 2,false,17183961871,[],[(.t 9,kI),(.h 0 0,.ah cr),(.t 18,kI),(.t 19,kI),(.t 20,kB),(.t 21,kB),(.t 34,kB)],fun k (s:Int×Sl aS)=>G2 x0 k s.1 s.2,.f,fun(s:Int×Sl aS)=>((x0≤s.1∧s.1<x1)∧(s.2.n:Int)=x2.n),fun(s:Int×Sl aS)=>(toNat (s.1-x0)),some fun(r:Int×Sl aS×Int×Int×Bool×Bool×Bool)=>(r.2.1.n:Int)=x2.n⟩ (.s (.j ⟨17183961871,[],[(.t 21,kB),(.t 34,kB)],[],.f⟩ .z .z) .z))) .z)))) (let zb:=i64.wrap (x0+1);(((x0+1≤zb∧(zb≤x1∨zb=x0+1))∧(x2.n:Int)=x2.n))∧(∀(af:Int) (ak:Sl aS),let z8:=i64.wrap (af+1);((x0+1≤af∧(af≤x1∨af=x0+1))∧(ak.n:Int)=x2.n)→(((decide (af<x1))=true→((((x0≤af∧af<x1)∧(ak.n:Int)=x2.n))∧(∀(fi:Int) (hP:Sl aS),let zc:=toNat fi;let za:=tL x0 fi hP;let z6:=i64.wrap (fi-1);let zd:=toNat z6;((x0≤fi∧fi<x1)∧(hP.n:Int)=x2.n)→((((decide (fi>x0))=true→(((0:Int)≤fi∧fi<(hP.n:Int))∧((zc<hP.n)∧(((0:Int)≤z6∧z6<(hP.n:Int))∧(zd<hP.n)))))∧(za=true→(((0:Int)≤z6∧z6<(hP.n:Int))∧((zd<hP.n)∧(((0:Int)≤fi∧fi<(hP.n:Int))∧((zc<hP.n)∧(((0:Int)≤fi∧fi<(hP.n:Int))∧((zc<hP.n)∧(((0:Int)≤z6∧z6<(hP.n:Int))∧(zd<hP.n))))))))))∧((za=true→(((x0≤z6∧z6<x1)∧(hP.n:Int)=x2.n)∧(toNat (z6-x0))<(toNat (fi-x0))))∧(za=false→((hP.n:Int)=x2.n)))))))∧((decide (af<x1))=true→(((x0+1≤z8∧(z8≤x1∨z8=x0+1))∧(((UI x0 af ak).2.1.n:Nat):Int)=x2.n)∧(toNat (x1-z8))<(toNat (x1-af))))))) (bB 1 (aH ahy aQ) bA) Tryz.func76 (have⟨cn,dv,ia,mH⟩:=hp;⟨(by have:=aq (x0+1);omega),(fun af ak dX=>⟨(fun h2=>⟨(by have:=ay h2;omega),(fun fi hP hI3=>⟨⟨(fun h4=>⟨(by omega),⟨(by omega),⟨(by have:=ay h4;have:=aq (fi-1);omega),(by have:=aq (fi-1);omega)⟩⟩⟩),(fun h5=>⟨(by have:=h5;(try simp [tL]at this);have:=aq (fi-1);omega),⟨(by have:=aq (fi-1);omega),⟨(by omega),⟨(by omega),⟨(by omega),⟨(by omega),⟨(by have:=h5;(try simp [tL]at this);have:=aq (fi-1);omega),(by have:=aq (fi-1);omega)⟩⟩⟩⟩⟩⟩⟩)⟩,⟨(fun h6=>(by have:=h6;(try simp [tL]at this);have:=aq (fi-1);omega)),(fun h7=>(by have:=ay h2;have:=h7;simp [tL]at this;omega))⟩⟩)⟩),(fun h8=>(by have:=ay h8;have:=axF x0 af ak;have:=aq (af+1);omega))⟩)⟩)) rfl (show([[(Kd.ah cr).av (xY x0 x1 x2)]]:Heap)=[[(Kd.ah cr).av (Sl.cut (xY x0 x1 x2) x2.n)]] by rw[e0])
end
end Go.Proofs.YtfmgjpcmcjjoiaaGreatDoor
