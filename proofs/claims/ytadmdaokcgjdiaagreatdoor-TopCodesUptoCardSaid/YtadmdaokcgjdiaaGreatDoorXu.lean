import Derived.Test.YtadmdaokcgjdiaaGreatDoorXs
open Go.IntKind (i64 u64 u8)
open Int (toNat)
set_option maxRecDepth 100000
set_option maxHeartbeats 4000000
set_option linter.all false
noncomputable section
namespace Go.Proofs.YtadmdaokcgjdiaaGreatDoor
open Go Go.RowKit Go.af
section
variable(i:Nat)(j:Nat)(ms:aj)(C:aA)(d:H)(L:G aj)(ah:G bF)(au:G aU)
def BB:Bool:=(cond (ms.z==1) true (ms.z==2))
def jW:Bool:=(cond (!(BB ms)) (decide (ms.M>d.ao)) false)
def p4:G hc:=(cond (jW ms d) (K_ (ez ms.M (-1) d)).ws d.ws)
def kp:Int:=(cond (jW ms d) 0 d.ro)
def n8:Int:=(cond (jW ms d) (ez ms.M (-1) d).ao d.ao)
def TQ:Int:=(cond (jW ms d) (ez ms.M (-1) d).b3 d.b3)
def ye:G Int:=(cond (jW ms d) (ez ms.M (-1) d).a_ d.a_)
def TR:Int:=(cond (jW ms d) (ez ms.M (-1) d).br d.br)
def tn:Bool:=(cond (jW ms d) (cond (!(lI ms.M (-1) d)) false true) true)
def fv:H:={d with ro:=(kp ms d),ao:=(n8 ms d),b3:=(TQ ms d),ws:=(p4 ms d),a_:=(ye ms d),br:=(TR ms d)}
def yd:Bool:=(cond ((kp ms d)==1) (ms.M==(i64 ((n8 ms d)+1))) false)
def jC:H:=(H.kF j (fv ms d))
def rp:H:=(H.bif (!d.up) d (H.bif (tn ms d) (H.bif (ms.z==1) (vD (⟨(j:Int),(i:Int),ms.z,ms.M,ms.w,ms.C,ms.P,ms.aw,ms.f,ms.aD,ms.bX,ms.b_,ms.b2,ms.cm,ms.bb⟩:aj) (fv ms d)) (H.bif (ms.z==2) (H.bif (yd ms d) (H.bif (kq (jC j ms d)) (mg (jC j ms d)) (jC j ms d)) (fv ms d)) (H.bif (decide (ms.M<(n8 ms d))) (H.bif (ms.z !=8) (rq (j:Int) (fv ms d)) (fv ms d)) (H.bif (ms.z==3) (p6 (⟨(j:Int),(i:Int),ms.z,ms.M,ms.w,ms.C,ms.P,ms.aw,ms.f,ms.aD,ms.bX,ms.b_,ms.b2,ms.cm,ms.bb⟩:aj) (fv ms d)) (H.bif (ms.z==4) (H.bif ((kp ms d)==2) (H.bif (kq (jC j ms d)) (tq (jC j ms d)) (jC j ms d)) (fv ms d)) (H.bif (ms.z==5) (k4 (⟨(j:Int),(i:Int),ms.z,ms.M,ms.w,ms.C,ms.P,ms.aw,ms.f,ms.aD,ms.bX,ms.b_,ms.b2,ms.cm,ms.bb⟩:aj) (jX (fv ms d)) L ah au) (H.bif (ms.z==7) (k6 (⟨(j:Int),(i:Int),ms.z,ms.M,ms.w,ms.C,ms.P,ms.aw,ms.f,ms.aD,ms.bX,ms.b_,ms.b2,ms.cm,ms.bb⟩:aj) (jX (fv ms d))) (H.bif (ms.z==6) (H.bif ((kp ms d)==3) (vG (⟨(j:Int),(i:Int),ms.z,ms.M,ms.w,ms.C,ms.P,ms.aw,ms.f,ms.aD,ms.bX,ms.b_,ms.b2,ms.cm,ms.bb⟩:aj) (fv ms d) L ah au) (fv ms d)) (fv ms d))))))))) (ez ms.M (-1) d)))
def ya:G aj:=(cond (!d.up) L (cond (tn ms d) (cond (ms.z==1) L (cond (ms.z==2) (cond (yd ms d) (cond (kq (jC j ms d)) L L) L) (cond (decide (ms.M<(n8 ms d))) (cond (ms.z !=8) L L) (cond (ms.z==3) L (cond (ms.z==4) (cond ((kp ms d)==2) (cond (kq (jC j ms d)) L L) L) (cond (ms.z==5) (F5 (⟨(j:Int),(i:Int),ms.z,ms.M,ms.w,ms.C,ms.P,ms.aw,ms.f,ms.aD,ms.bX,ms.b_,ms.b2,ms.cm,ms.bb⟩:aj) (jX (fv ms d)) L ah au) (cond (ms.z==7) L (cond (ms.z==6) (cond ((kp ms d)==3) (F9 (⟨(j:Int),(i:Int),ms.z,ms.M,ms.w,ms.C,ms.P,ms.aw,ms.f,ms.aD,ms.bX,ms.b_,ms.b2,ms.cm,ms.bb⟩:aj) (fv ms d) L ah au) L) L)))))))) L))
def yc:G bF:=(cond (!d.up) ah (cond (tn ms d) (cond (ms.z==1) ah (cond (ms.z==2) (cond (yd ms d) (cond (kq (jC j ms d)) ah ah) ah) (cond (decide (ms.M<(n8 ms d))) (cond (ms.z !=8) ah ah) (cond (ms.z==3) ah (cond (ms.z==4) (cond ((kp ms d)==2) (cond (kq (jC j ms d)) ah ah) ah) (cond (ms.z==5) (F7 (⟨(j:Int),(i:Int),ms.z,ms.M,ms.w,ms.C,ms.P,ms.aw,ms.f,ms.aD,ms.bX,ms.b_,ms.b2,ms.cm,ms.bb⟩:aj) (jX (fv ms d)) L ah au) (cond (ms.z==7) ah (cond (ms.z==6) (cond ((kp ms d)==3) (Ga (⟨(j:Int),(i:Int),ms.z,ms.M,ms.w,ms.C,ms.P,ms.aw,ms.f,ms.aD,ms.bX,ms.b_,ms.b2,ms.cm,ms.bb⟩:aj) (fv ms d) L ah au) ah) ah)))))))) ah))
def yb:G aU:=(cond (!d.up) au (cond (tn ms d) (cond (ms.z==1) au (cond (ms.z==2) (cond (yd ms d) (cond (kq (jC j ms d)) au au) au) (cond (decide (ms.M<(n8 ms d))) (cond (ms.z !=8) au au) (cond (ms.z==3) au (cond (ms.z==4) (cond ((kp ms d)==2) (cond (kq (jC j ms d)) (T0 (jC j ms d) au) au) au) (cond (ms.z==5) (F6 (⟨(j:Int),(i:Int),ms.z,ms.M,ms.w,ms.C,ms.P,ms.aw,ms.f,ms.aD,ms.bX,ms.b_,ms.b2,ms.cm,ms.bb⟩:aj) (jX (fv ms d)) L ah au) (cond (ms.z==7) au (cond (ms.z==6) (cond ((kp ms d)==3) (F_ (⟨(j:Int),(i:Int),ms.z,ms.M,ms.w,ms.C,ms.P,ms.aw,ms.f,ms.aD,ms.bX,ms.b_,ms.b2,ms.cm,ms.bb⟩:aj) (fv ms d) L ah au) au) au)))))))) au))
def aEW(ms:aj)(d:H)(h:d.ws.n<=3000):(jX (fv ms d)).ws.n<=3000:=by
 have a:(B:G hc).n<=3000:=cp _;have e:(p4 ms d).n<=3000:=by
  unfold p4
  cases jW ms d
  .exact h
  .exact a
 show(cond ((fv ms d).ro==2) (B:G hc) (p4 ms d)).n<=3000
 cases ((fv ms d).ro==2)
 .exact e
 .exact a
def Y6(ms:aj)(d:H)(h:d.ws.n<=3000):(p4 ms d).n<=3000:=by
 have a:(B:G hc).n<=3000:=cp _;unfold p4
 cases jW ms d
 .exact h
 .exact a
def Pv:dr:=⟨[.p 0,.g [a,a,a,a,a,a,K,a,.ab dk,a,a,a,.ab bp,a,.ab bZ]],ck,e0,eN,λ(b:Int) (c:Int) (k:Int) (l:Int) (m:Int) (n:Int) o (p:Int) q (r:Int) (d:Int) (e:Int) f (g:Int) h=>cP λC=>⟨⟨some (jS (C.d i)/\hb (⟨b,c,k,l,m,n,o,p,q,r,d,e,f,g,h⟩:aj)/\C.told.n<=541000000000/\C.bh.n<=549000000000),[],cu [10,2,11,4,12,6,7,8,9] 3 (C.put i (rp i j (⟨b,c,k,l,m,n,o,p,q,r,d,e,f,g,h⟩:aj) (C.d i) C.ag C.told C.bh) (ya i j (⟨b,c,k,l,m,n,o,p,q,r,d,e,f,g,h⟩:aj) (C.d i) C.ag C.told C.bh) (yc i j (⟨b,c,k,l,m,n,o,p,q,r,d,e,f,g,h⟩:aj) (C.d i) C.ag C.told C.bh) (yb i j (⟨b,c,k,l,m,n,o,p,q,r,d,e,f,g,h⟩:aj) (C.d i) C.ag C.told C.bh))⟩⟩⟩
def qY:cT:=⟨.eR true [.b 10] [.own (.h 0 29) du 10,.own (.h 0 62) du 11,.own (.h 0 95) du 12] (zM i [10,2,11,4,12,6,7,8,9] 3 [] 0 C) (zd i [10,2,11,4,12,6,7,8,9]),[],[]++xj i [10,2,11,4,12,6,7,8,9],⟨[],[]⟩⟩
def tN:cw (qY i C).cg:=let d:=C.d i;let f:=fv ms d;let e:=jC j ms d;let b:=aO.set (2*i) 45;let c:=C.set i f;(.ae (.ae (.ae (.j ⟨57,[],[(.t 5,K)],[],.f⟩ .z (.bs ⟨([.ptr 0 0,U,U,.ptr 10 0,.ptr 0 (33*i+0),.bool (BB ms)]++(us 147 ([]))),cy aO 1 C [(10,(jo (j:Int) (i:Int) ms))]⟩ (.y8 ⟨25,[],[(.h 45 0,.ad du),(.h 0 (33*i+3),a),(.h 0 (33*i+4),a),(.h 0 (33*i+5),a),(.h 0 (33*i+30),.ab bo),(.h 0 (33*i+31),a)],[],.f⟩ [.own (.h 0 (33*i+29)) du 45] (.j ⟨34359738393,[],[(.t 35,K)],[],.f⟩ .z (.bs ⟨([.ptr 0 0,U,U,.ptr 10 0,.ptr 0 (33*i+0)]++(us 30 (([.bool (jW ms d)]++(us 117 ([])))))),cy aO 1 C [(10,(jo (j:Int) (i:Int) ms))]⟩ (.s (.s (.ae (.bs ⟨([.ptr 0 0,U,U,.ptr 10 0,.ptr 0 (33*i+0)]++(us 35 (([.bool (!(lI ms.M (-1) d))]++(us 112 ([])))))),cy aO 1 (C.set i (ez ms.M (-1) d)) [(10,(jo (j:Int) (i:Int) ms))]⟩ .z)) .z) .z))) (.bs ⟨([.ptr 0 0,U,U,.ptr 10 0,.ptr 0 (33*i+0)]++(us 148 ([]))),cy b 36 c [(10,(jo (j:Int) (i:Int) ms))]⟩ (.ae (.ae (.ae (.bs ⟨([.ptr 0 0,U,U,.ptr 10 0,.ptr 0 (33*i+0)]++(us 45 (([.bool (ms.z==2)]++(us 102 ([])))))),cy b 36 c [(10,(jo (j:Int) (i:Int) ms))]⟩ (.s (.j ⟨295147905179352825880,[],[(.t 68,K)],[],.f⟩ .z (.bs ⟨([U,U,U,.ptr 10 0,.ptr 0 (33*i+0)]++(us 63 (([.bool (yd ms d)]++(us 84 ([])))))),cy b 36 c [(10,(jo (j:Int) (i:Int) ms))]⟩ (.s (.ae (.ae (.bs ⟨([U,U,U,U,.ptr 0 (33*i+0)]++(us 71 (([.bool (kq e)]++(us 76 ([])))))),cy b 36 (C.set i e) [(10,(jo (j:Int) (i:Int) ms))]⟩ .z))) .z))) (.ae (.bs ⟨([.ptr 0 0,U,U,.ptr 10 0,.ptr 0 (33*i+0)]++(us 74 (([.bool (decide (ms.M<(n8 ms d)))]++(us 73 ([])))))),cy b 36 c [(10,(jo (j:Int) (i:Int) ms))]⟩ (.ae (.ae (.bs ⟨([.ptr 0 0,U,U,.ptr 10 0,.ptr 0 (33*i+0)]++(us 89 (([.bool (ms.z==3)]++(us 58 ([])))))),cy b 36 c [(10,(jo (j:Int) (i:Int) ms))]⟩ (.ae (.ae (.bs ⟨([.ptr 0 0,U,U,.ptr 10 0,.ptr 0 (33*i+0)]++(us 96 (([.bool (ms.z==4)]++(us 51 ([])))))),cy b 36 c [(10,(jo (j:Int) (i:Int) ms))]⟩ (.s (.ae (.s (.ae (.ae (.bs ⟨([.ptr 0 0,U,U,U,.ptr 0 (33*i+0)]++(us 112 (([.bool (kq e)]++(us 35 ([])))))),cy b 36 (C.set i e) [(10,(jo (j:Int) (i:Int) ms))]⟩ .z))) .z)) (.ae (.bs ⟨([.ptr 0 0,U,U,.ptr 10 0,.ptr 0 (33*i+0)]++(us 116 (([.bool (ms.z==5)]++(us 31 ([])))))),cy b 36 c [(10,(jo (j:Int) (i:Int) ms))]⟩ (.s (.ae (.bs ⟨([.ptr 0 0,U,U,.ptr 10 0,.ptr 0 (33*i+0)]++(us 148 ([]))),cy (aO.set (2*i) 78) 69 (C.set i (jX f)) [(10,(jo (j:Int) (i:Int) ms)),(45,[dB])]⟩ .z)) (.ae (.bs ⟨([.ptr 0 0,U,U,.ptr 10 0,.ptr 0 (33*i+0)]++(us 126 (([.bool (ms.z==7)]++(us 21 ([])))))),cy b 36 c [(10,(jo (j:Int) (i:Int) ms))]⟩ (.s (.ae (.bs ⟨([U,U,U,.ptr 10 0,.ptr 0 (33*i+0)]++(us 148 ([]))),cy (aO.set (2*i) 78) 69 (C.set i (jX f)) [(10,(jo (j:Int) (i:Int) ms)),(45,[dB])]⟩ .z)) (.ae (.bs ⟨([.ptr 0 0,U,U,.ptr 10 0,.ptr 0 (33*i+0)]++(us 135 (([.bool (ms.z==6)]++(us 12 ([])))))),cy b 36 c [(10,(jo (j:Int) (i:Int) ms))]⟩ .z)))))))))))))))))))))))))))))
def qx(i:Nat)(j:Nat)(ms:aj)(C:aA):Prop:=((!(C.d i).up)=false->((tn ms (C.d i))=true->((ms.z==1)=false->(((ms.z==2)=true->((yd ms (C.d i))=true->((kq (jC j ms (C.d i)))=true->(0<=(C.d i).bf/\(C.d i).bf<3))))/\((ms.z==2)=false->((decide (ms.M<(n8 ms (C.d i))))=false->((ms.z==3)=false->(((ms.z==4)=true->(((kp ms (C.d i))==2)=true->((kq (jC j ms (C.d i)))=true->(C.bh.n<=549000000000/\0<=(C.d i).j/\(C.d i).j+((C.d i).li.n:Int)+1<=4194304))))/\((ms.z==4)=false->(((ms.z==5)=true->(ei (C.d i).li/\ei ms.f/\C.told.n<=541000000000/\(jX (fv ms (C.d i))).ws.n<=3000/\0<=(C.d i).j/\(C.d i).j<=(C.d i).co/\(C.d i).co<=4194304))/\((ms.z==5)=false->(((ms.z==7)=true->(ms.aD<=4194304))/\((ms.z==7)=false->((ms.z==6)=true->(((kp ms (C.d i))==3)=true->(0<=(j:Int)/\(j:Int)<3/\C.told.n<=541000000000/\(p4 ms (C.d i)).n<=3000/\0<=(C.d i).j/\(C.d i).j<=(C.d i).co/\(C.d i).co<=4194304/\(C.d i).j+((C.d i).li.n:Int)<=4194304/\(C.d i).li.n<=200))))))))))))))))
def uq(i:Nat)(e:i<3)(j:Nat)(B:j<3)(ms:aj)(C:aA)(d:eP C)(H:ms.f.n<=549755813888)(F:ms.b2.n<=549755813888)(G:ms.bb.n<=549755813888)(f:jS (C.d i)/\hb ms/\C.told.n<=541000000000/\C.bh.n<=549000000000):qx i j ms C:=by
 have c:=g4 d i e;unfold fS at c;unfold qx;exact have⟨a,b,D,E⟩:=f;have:=a.bf;have:=a.j;have:=a.hM;have:=a.co;have:=a.gG;have:=a.ee;have:=a.ws;have:=a.li;have:=b.ky;have:=b.bR;have:=b.li;have:=aEW ms (C.d i) a.ws;have:=Y6 ms (C.d i) a.ws;((λg=>(λt=>(λu=>⟨(λv=>(λw=>(λx=>Ω))),(λy=>(λz=>(λA=>⟨(λh=>(λk=>(λl=>Ω))),(λm=>⟨(λn=>⟨Ψ,Ψ,Ω⟩),(λo=>⟨(λp=>Ω),(λq=>(λr=>(λs=>Ω)))⟩)⟩)⟩)))⟩))))
def qW(i j:Nat):Prop:= ∀(ms:aj) (e:ms.f.n<=549755813888) (c:ms.b2.n<=549755813888) (d:ms.bb.n<=549755813888) (C:aA) (a:eP C) (b:jS (C.d i)/\hb ms/\C.told.n<=541000000000/\C.bh.n<=549000000000),fL Tryz.prog 31 ((Pv i j).args ((jo (j:Int) (i:Int) ms)++ix C)) ((Pv i j).dh (((jo (j:Int) (i:Int) ms)++ix C).drop (Pv i j).dR)) [] (cu [10,2,11,4,12,6,7,8,9] 3 (C.put i (rp i j ms (C.d i) C.ag C.told C.bh) (ya i j ms (C.d i) C.ag C.told C.bh) (yc i j ms (C.d i) C.ag C.told C.bh) (yb i j ms (C.d i) C.ag C.told C.bh)))
def ayD:qW 0 0:=by
 intro ms e c d C a b;refine eC (qY 0 C) (tN 0 0 ms C) (qx 0 0 ms C) (b1 10 a2 (ay (qo 0 Ω) (ay (r3 0 Ω) (ay (tZ 0 Ω) (ay (t_ 0 Ω) (ay (ua 0 Ω) (ay (qp 0 Ω) (ay (ub 0 Ω) (ay (uc 0 Ω) (ay (ud 0 Ω) (ay (ue 0 Ω) (ay (uf 0 Ω) (ay (ug 0 Ω) b0))))))))))))) Tryz.func31 [] ?_ ?_ (uq 0 Ω 0 Ω ms C a e c d b)
 .kernel_rfl
 .kernel_rfl
def ayE:qW 0 1:=by
 intro ms e c d C a b;refine eC (qY 0 C) (tN 0 1 ms C) (qx 0 1 ms C) (b1 10 a2 (ay (qo 0 Ω) (ay (r3 0 Ω) (ay (tZ 0 Ω) (ay (t_ 0 Ω) (ay (ua 0 Ω) (ay (qp 0 Ω) (ay (ub 0 Ω) (ay (uc 0 Ω) (ay (ud 0 Ω) (ay (ue 0 Ω) (ay (uf 0 Ω) (ay (ug 0 Ω) b0))))))))))))) Tryz.func31 [] ?_ ?_ (uq 0 Ω 1 Ω ms C a e c d b)
 .kernel_rfl
 .kernel_rfl
def ayF:qW 0 2:=by
 intro ms e c d C a b;refine eC (qY 0 C) (tN 0 2 ms C) (qx 0 2 ms C) (b1 10 a2 (ay (qo 0 Ω) (ay (r3 0 Ω) (ay (tZ 0 Ω) (ay (t_ 0 Ω) (ay (ua 0 Ω) (ay (qp 0 Ω) (ay (ub 0 Ω) (ay (uc 0 Ω) (ay (ud 0 Ω) (ay (ue 0 Ω) (ay (uf 0 Ω) (ay (ug 0 Ω) b0))))))))))))) Tryz.func31 [] ?_ ?_ (uq 0 Ω 2 Ω ms C a e c d b)
 .kernel_rfl
 .kernel_rfl
def ayG:qW 1 0:=by
 intro ms e c d C a b;refine eC (qY 1 C) (tN 1 0 ms C) (qx 1 0 ms C) (b1 10 a2 (ay (qo 1 Ω) (ay (r3 1 Ω) (ay (tZ 1 Ω) (ay (t_ 1 Ω) (ay (ua 1 Ω) (ay (qp 1 Ω) (ay (ub 1 Ω) (ay (uc 1 Ω) (ay (ud 1 Ω) (ay (ue 1 Ω) (ay (uf 1 Ω) (ay (ug 1 Ω) b0))))))))))))) Tryz.func31 [] ?_ ?_ (uq 1 Ω 0 Ω ms C a e c d b)
 .kernel_rfl
 .kernel_rfl
def ayH:qW 1 1:=by
 intro ms e c d C a b;refine eC (qY 1 C) (tN 1 1 ms C) (qx 1 1 ms C) (b1 10 a2 (ay (qo 1 Ω) (ay (r3 1 Ω) (ay (tZ 1 Ω) (ay (t_ 1 Ω) (ay (ua 1 Ω) (ay (qp 1 Ω) (ay (ub 1 Ω) (ay (uc 1 Ω) (ay (ud 1 Ω) (ay (ue 1 Ω) (ay (uf 1 Ω) (ay (ug 1 Ω) b0))))))))))))) Tryz.func31 [] ?_ ?_ (uq 1 Ω 1 Ω ms C a e c d b)
 .kernel_rfl
 .kernel_rfl
def ayI:qW 1 2:=by
 intro ms e c d C a b;refine eC (qY 1 C) (tN 1 2 ms C) (qx 1 2 ms C) (b1 10 a2 (ay (qo 1 Ω) (ay (r3 1 Ω) (ay (tZ 1 Ω) (ay (t_ 1 Ω) (ay (ua 1 Ω) (ay (qp 1 Ω) (ay (ub 1 Ω) (ay (uc 1 Ω) (ay (ud 1 Ω) (ay (ue 1 Ω) (ay (uf 1 Ω) (ay (ug 1 Ω) b0))))))))))))) Tryz.func31 [] ?_ ?_ (uq 1 Ω 2 Ω ms C a e c d b)
 .kernel_rfl
 .kernel_rfl
def ayJ:qW 2 0:=by
 intro ms e c d C a b;refine eC (qY 2 C) (tN 2 0 ms C) (qx 2 0 ms C) (b1 10 a2 (ay (qo 2 Ω) (ay (r3 2 Ω) (ay (tZ 2 Ω) (ay (t_ 2 Ω) (ay (ua 2 Ω) (ay (qp 2 Ω) (ay (ub 2 Ω) (ay (uc 2 Ω) (ay (ud 2 Ω) (ay (ue 2 Ω) (ay (uf 2 Ω) (ay (ug 2 Ω) b0))))))))))))) Tryz.func31 [] ?_ ?_ (uq 2 Ω 0 Ω ms C a e c d b)
 .kernel_rfl
 .kernel_rfl
def ayK:qW 2 1:=by
 intro ms e c d C a b;refine eC (qY 2 C) (tN 2 1 ms C) (qx 2 1 ms C) (b1 10 a2 (ay (qo 2 Ω) (ay (r3 2 Ω) (ay (tZ 2 Ω) (ay (t_ 2 Ω) (ay (ua 2 Ω) (ay (qp 2 Ω) (ay (ub 2 Ω) (ay (uc 2 Ω) (ay (ud 2 Ω) (ay (ue 2 Ω) (ay (uf 2 Ω) (ay (ug 2 Ω) b0))))))))))))) Tryz.func31 [] ?_ ?_ (uq 2 Ω 1 Ω ms C a e c d b)
 .kernel_rfl
 .kernel_rfl
def ayL:qW 2 2:=by
 intro ms e c d C a b;refine eC (qY 2 C) (tN 2 2 ms C) (qx 2 2 ms C) (b1 10 a2 (ay (qo 2 Ω) (ay (r3 2 Ω) (ay (tZ 2 Ω) (ay (t_ 2 Ω) (ay (ua 2 Ω) (ay (qp 2 Ω) (ay (ub 2 Ω) (ay (uc 2 Ω) (ay (ud 2 Ω) (ay (ue 2 Ω) (ay (uf 2 Ω) (ay (ug 2 Ω) b0))))))))))))) Tryz.func31 [] ?_ ?_ (uq 2 Ω 2 Ω ms C a e c d b)
 .kernel_rfl
 .kernel_rfl
def uh(i:Nat)(a:i<3)(j:Nat)(b:j<3):qW i j:=by
 rcases ca a with rfl|rfl|rfl<;>rcases ca b with rfl|rfl|rfl
 .exact ayD
 .exact ayE
 .exact ayF
 .exact ayG
 .exact ayH
 .exact ayI
 .exact ayJ
 .exact ayK
 .exact ayL
end
end Go.Proofs.YtadmdaokcgjdiaaGreatDoor
