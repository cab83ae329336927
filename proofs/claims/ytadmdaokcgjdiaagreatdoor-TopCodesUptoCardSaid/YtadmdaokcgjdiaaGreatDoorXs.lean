import Derived.Test.YtadmdaokcgjdiaaGreatDoorXp
import Derived.Test.YtadmdaokcgjdiaaGreatDoorXq
import Derived.Test.YtadmdaokcgjdiaaGreatDoorXr
open Go.IntKind (i64 u64 u8)
open Int (toNat)
set_option maxRecDepth 100000
set_option maxHeartbeats 4000000
set_option linter.all false
noncomputable section
namespace Go.Proofs.YtadmdaokcgjdiaaGreatDoor
open Go Go.RowKit Go.af
section
variable(i:Nat)(aQ:j9)(d:H)
def ad2:H:=let a:=hQ (⟨d.ao,(gV d),false,aQ.q,aQ.F,aQ.z,aQ.M,aQ.w,aQ.C,aQ.P⟩:R) d;{a with ws:=(G.app d.ws (G.lit ([(⟨(bP a),d.ao,aQ.q,aQ.F,aQ.z,aQ.M,aQ.w,aQ.C,aQ.P⟩:hc)]:List hc)))}
def k2:H:=(H.bif (!d.up) d (H.bif (d.ro !=3) d (H.bif (!(o3 (⟨d.ao,(gV d),false,aQ.q,aQ.F,aQ.z,aQ.M,aQ.w,aQ.C,aQ.P⟩:R) d)) (hQ (⟨d.ao,(gV d),false,aQ.q,aQ.F,aQ.z,aQ.M,aQ.w,aQ.C,aQ.P⟩:R) d) (ad2 aQ d))))
def p3(ah:G bF):G bF:=(cond (!d.up) (F2 aQ 13 d ah) (cond (d.ro !=3) (F2 aQ 12 d ah) (cond (!(o3 (⟨d.ao,(gV d),false,aQ.q,aQ.F,aQ.z,aQ.M,aQ.w,aQ.C,aQ.P⟩:R) d)) (F2 aQ 6 (hQ (⟨d.ao,(gV d),false,aQ.q,aQ.F,aQ.z,aQ.M,aQ.w,aQ.C,aQ.P⟩:R) d) ah) ah)))
def Ps:dr:=⟨[.p 0,.fC 0 (33*i),.g [a,a,a,al,al,al,a]],ck,e0,eN,λ(b:Int) (c:Int) (d:Int) e f g (h:Int)=>cP λC=>⟨⟨some (C.told.n<=549000000000/\(⟨b,c,d,e,f,g,h⟩:j9).M.size<=10000000000/\(⟨b,c,d,e,f,g,h⟩:j9).w.size<=10000000000/\(⟨b,c,d,e,f,g,h⟩:j9).C.size<=10000000000/\(C.d i).ws.n<=549000000000),[],cu aO 0 (C.put i (k2 (⟨b,c,d,e,f,g,h⟩:j9) (C.d i)) C.ag (p3 (⟨b,c,d,e,f,g,h⟩:j9) (C.d i) C.told) C.bh)⟩⟩⟩
def ZI:cT:=⟨.eR true [] [] (gJ i aO 0 [] 0) (gF i aO),[],[]++fT i aO,⟨[],[]⟩⟩
def as_(C:aA):cw (ZI i).cg:=let a:=C.d i;let c:=hQ (⟨a.ao,(gV a),false,aQ.q,aQ.F,aQ.z,aQ.M,aQ.w,aQ.C,aQ.P⟩:R) a;(.ae (.ae (.ae (.ae (.bs ⟨([.ptr 0 0,.ptr 0 (33*i+0),U,U,U,.ptr 10 0]++(us 33 (([.bool (a.ro !=3)]++(us 25 ([])))))),cy aO 1 C [(10,[b aQ.q,b aQ.F,b aQ.z,.str aQ.M,.str aQ.w,.str aQ.C,b aQ.P])]⟩ (.ae (.s (.mw [(0,(33*i+4))]) (.bs ⟨([.ptr 0 0,.ptr 0 (33*i+0),U,U,U,.ptr 10 0]++(us 43 (([.bool (!(o3 (⟨a.ao,(gV a),false,aQ.q,aQ.F,aQ.z,aQ.M,aQ.w,aQ.C,aQ.P⟩:R) a))]++(us 15 ([])))))),cy aO 1 (C.set i c) [(10,[b aQ.q,b aQ.F,b aQ.z,.str aQ.M,.str aQ.w,.str aQ.C,b aQ.P])]⟩ (.ae (.ae (.bs ⟨([U,.ptr 0 (33*i+0),U,U,U,.ptr 10 0,b (bP c)]++(us 58 ([]))),cy aO 1 (C.set i c) [(10,[b aQ.q,b aQ.F,b aQ.z,.str aQ.M,.str aQ.w,.str aQ.C,b aQ.P])]⟩ .z)))))))))))
def XD(i:Nat)(aQ:j9)(C:aA):Prop:=(((!(C.d i).up)=true->(C.told.n<=549000000000))/\((!(C.d i).up)=false->((((C.d i).ro !=3)=true->(C.told.n<=549000000000))/\(((C.d i).ro !=3)=false->((lv (⟨(C.d i).ao,(gV (C.d i)),false,aQ.q,aQ.F,aQ.z,aQ.M,aQ.w,aQ.C,aQ.P⟩:R))/\(((!(o3 (⟨(C.d i).ao,(gV (C.d i)),false,aQ.q,aQ.F,aQ.z,aQ.M,aQ.w,aQ.C,aQ.P⟩:R) (C.d i)))=true->(C.told.n<=549000000000))/\((!(o3 (⟨(C.d i).ao,(gV (C.d i)),false,aQ.q,aQ.F,aQ.z,aQ.M,aQ.w,aQ.C,aQ.P⟩:R) (C.d i)))=false->((C.d i).ws.n+1<=549755813888))))))))
def aA8(i:Nat)(c:i<3)(aQ:j9)(C:aA)(b:eP C)(q:aQ.M.size<=549755813888)(r:aQ.w.size<=549755813888)(s:aQ.C.size<=549755813888)(d:C.told.n<=549000000000/\aQ.M.size<=10000000000/\aQ.w.size<=10000000000/\aQ.C.size<=10000000000/\(C.d i).ws.n<=549000000000):XD i aQ C:=by
 have a:=g4 b i c;unfold fS at a;unfold XD;exact have⟨l,m,n,o,p⟩:=d;(⟨(λe=>Ω),(λf=>⟨(λg=>Ω),(λh=>⟨(by repeat first|assumption|apply r1),⟨(λj=>Ω),(λk=>Ω)⟩⟩)⟩)⟩)
def ayB(i:Nat)(a:i<3)(aQ:j9)(e:aQ.M.size<=549755813888)(f:aQ.w.size<=549755813888)(g:aQ.C.size<=549755813888):e8 Tryz.prog 29 (Ps i) ck [] (cP λC=>⟨⟨some (C.told.n<=549000000000/\aQ.M.size<=10000000000/\aQ.w.size<=10000000000/\aQ.C.size<=10000000000/\(C.d i).ws.n<=549000000000),[],cu aO 0 (C.put i (k2 aQ (C.d i)) C.ag (p3 aQ (C.d i) C.told) C.bh)⟩⟩) [b aQ.q,b aQ.F,b aQ.z,.str aQ.M,.str aQ.w,.str aQ.C,b aQ.P]:=by
 refine gC λC c=>λd=>eC (ZI i) (as_ i aQ C) (XD i aQ C) (b1 10 a2 (ay (axS i a) (ay (agA i a) (ay (agB i a) (ay (y_ i a) b0))))) Tryz.func29 (List.replicate 31 .f++List.replicate 62 .l++[.f,.f]++List.replicate 5 .l++[.f]++[.l]) ?_ ?_ (aA8 i a aQ C c e f g d)
 .rcases ca a with rfl|rfl|rfl<;>kernel_rfl
 .rcases ca a with rfl|rfl|rfl<;>kernel_rfl
def aBM(i:Nat)(c:i<3):gr 29 (Ps i):=
 jR (bE:=[a,a,a,al,al,al,a]) λs b=>Eq.mp (by rcases ca c with rfl|rfl|rfl<;>kernel_rfl) (ayB i c ⟨s.1,s.2.1,s.2.2.1,s.2.2.2.1,s.2.2.2.2.1,s.2.2.2.2.2.1,s.2.2.2.2.2.2.1⟩ (b.2.2.2.1 rfl) (b.2.2.2.2.1 rfl) (b.2.2.2.2.2.1 rfl))
def axP(i:Nat)(a:i<3):gu 29 (Ps i):=gQ gB Tryz.func29 (aBM i a)
end
section
variable(i:Nat)(d:H)
def jD:H:={d with ro:=3}
def k3:H:=let a:=i64 ((bP (jD d))+1);{(jD d)with dO:=a,dD:=a,dG:=a,hq:=0,q1:=0,fQ:=0}
def T0(au:G aU):G aU:=(G.app au (G.lit ([(⟨d.ao,d.bf⟩:aU)]:List aU)))
def tq:H:=let b:=i64 ((bP (jD d))+1);let a:=hQ (⟨d.ao,(gV (k3 d)),true,0,0,0,⟨#[]⟩,⟨#[]⟩,⟨#[]⟩,0⟩:R) (k3 d);{d with ro:=3,j:=a.j,lt:=a.lt,li:=a.li,dO:=b,dD:=b,dG:=b,hq:=0,q1:=0,fQ:=0,a_:=a.a_,br:=a.br,bd:=(p8 a).bd}
def mA:(⟨#[]⟩:u).size<=10000000000:=by decide
def aon(d:H)(a:0<=d.j)(b:d.j+(d.li.n:Int)+1<=4194304):0<=(i64 ((bP (jD d))+1))/\(i64 ((bP (jD d))+1))<=4194304:=by
 have f:0<=bP (jD d)/\bP (jD d)<=4194303:=by
  show 0<=ks d.j d.lt d.li/\ks d.j d.lt d.li<=4194303;have c:=E (d.j+(d.li.n:Int));unfold ks
  cases (cE d.j d.lt d.li !=0)with
  |true=>exact⟨aZ 0,by show(0:Int)<=4194303;omega⟩
  |false=>
   show 0<=pU d.j d.li/\pU d.j d.li<=4194303;unfold pU
   cases decide ((d.li.n:Int)>0)with
   |true=>rw[aR];omega
   |false=>rw[aX];omega
 have e:=E (bP (jD d)+1);omega
def apM(it:R)(d:H):(hQ it (k3 d)).dO=(i64 ((bP (jD d))+1))/\(hQ it (k3 d)).dD=(i64 ((bP (jD d))+1))/\(hQ it (k3 d)).dG=(i64 ((bP (jD d))+1)):=⟨rfl,rfl,rfl⟩
def PI:dr:=⟨[.p 0,.fC 0 (33*i)],ck,e0,eN,cP λC=>⟨⟨some (C.bh.n<=549000000000/\0<=(C.d i).j/\(C.d i).j+((C.d i).li.n:Int)+1<=4194304),[],cu aO 0 (C.put i (tq (C.d i)) C.ag C.told (T0 (C.d i) C.bh))⟩⟩⟩
def ZR:cT:=⟨.eR true [] [] (gJ i aO 0 [] 0) (gF i aO),[],[]++fT i aO,⟨[],[]⟩⟩
def ati(C:aA):cw (ZR i).cg:=let a:=C.d i;let c:=G.lit ([(⟨a.ao,a.bf⟩:aU)]:List aU);(.ae (.ae (.bs ⟨([.ptr 0 0,.ptr 0 (33*i+0),U,U,b (bP (jD a))]++(us 55 ([]))),cy aO 0 (C.set i (jD a)) []⟩ (.s (.ae (.un 3 (.s (.ae (.s (.c true .z) .z)) (.s (.ae (.s (.c true .z) .z)) (.s (.ae (.s (.c true .z) .z)) (.ae (.s (.c false .z) .z))))))) (.ae (.s (.mw [(0,(33*i+4))]) (.bs ⟨([U,.ptr 0 (33*i+0)]++(us 58 ([]))),cy aO 1 (C.put i (hQ (⟨a.ao,(gV (k3 a)),true,0,0,0,⟨#[]⟩,⟨#[]⟩,⟨#[]⟩,0⟩:R) (k3 a)) C.ag C.told (G.app C.bh c)) [(10,[(aH.ad cY).av c])]⟩ .z)))))))
def XJ(i:Nat)(C:aA):Prop:=((C.bh.n+1<=549755813888)/\((lv (⟨(C.d i).ao,(gV (k3 (C.d i))),true,0,0,0,⟨#[]⟩,⟨#[]⟩,⟨#[]⟩,0⟩:R))/\(0<=(i64 ((bP (jD (C.d i)))+1))/\(i64 ((bP (jD (C.d i)))+1))<=4194304/\0<=(i64 ((bP (jD (C.d i)))+1))/\(i64 ((bP (jD (C.d i)))+1))<=4194304/\0<=(i64 ((bP (jD (C.d i)))+1))/\(i64 ((bP (jD (C.d i)))+1))<=4194304)))
def aBe(i:Nat)(c:i<3)(C:aA)(b:eP C)(d:C.bh.n<=549000000000/\0<=(C.d i).j/\(C.d i).j+((C.d i).li.n:Int)+1<=4194304):XJ i C:=by
 have a:=g4 b i c;unfold fS at a;unfold XJ;exact have⟨g,e,f⟩:=d;have:=aon (C.d i) e f;have:=apM (⟨(C.d i).ao,(gV (k3 (C.d i))),true,0,0,0,⟨#[]⟩,⟨#[]⟩,⟨#[]⟩,0⟩:R) (C.d i);(⟨Ω,⟨(by repeat first|assumption|apply r1|apply mA),(by first|omega|(have:=E ((bP (jD (C.d i)))+1);omega))⟩⟩)
def ayY(i:Nat)(a:i<3):e8 Tryz.prog 53 (PI i) ck [] (cP λC=>⟨⟨some (C.bh.n<=549000000000/\0<=(C.d i).j/\(C.d i).j+((C.d i).li.n:Int)+1<=4194304),[],cu aO 0 (C.put i (tq (C.d i)) C.ag C.told (T0 (C.d i) C.bh))⟩⟩) []:=by
 refine gC λC b=>λc=>eC (ZR i) (ati i C) (XJ i C) (b1 10 a2 (ay (agA i a) (ay (agB i a) (ay (y_ i a) (ay (agE i a) b0))))) Tryz.func53 [] ?_ ?_ (aBe i a C b c)
 .rcases ca a with rfl|rfl|rfl<;>kernel_rfl
 .rcases ca a with rfl|rfl|rfl<;>kernel_rfl
def aB0(i:Nat)(a:i<3):gr 53 (PI i):=
 ayY i a
def uc(i:Nat)(a:i<3):gu 53 (PI i):=gQ gB Tryz.func53 (aB0 i a)
end
section
variable(i:Nat)(ac:a7)(d:H)
def vA:Bool:=(cond (d.ro !=3) (decide (d.ao<1048576)) false)
def me:H:={d with ro:=1,v0:=(d.bf==0),v1:=(d.bf==1),v2:=(d.bf==2)}
def o2:H:=(H.bif (ac.q==2) (H.bif (vA d) (o4 (⟨0,0,1,(i64 (d.ao+1)),(bP (me d)),(p5 (me d)),false,0,(B:G R),0,0,0,(B:G N),0,(B:G ar)⟩:aj) (me d)) d) (H.bif (ac.q==3) (H.bif (d.ro==3) (p8 d) d) (H.bif (ac.q==4) (rA d) (H.bif (ac.q==9) (hF ac.z d) (H.bif (ac.q==11) (lJ d) d)))))
def yf(L:G aj):G aj:=(cond (ac.q==2) L (cond (ac.q==3) L (cond (ac.q==4) (BN d L) L)))
def Pw:dr:=⟨[.p 0,.fC 0 (33*i),.g [a,a,a,a,a,a,al,al,al,a]],ck,e0,eN,λ(b:Int) (c:Int) (d:Int) (e:Int) (f:Int) (g:Int) h j k (l:Int)=>cP λC=>⟨⟨some (jS (C.d i)),[],cu ((aO.set (2*i) 10).set (2*i+1) 11) 2 (C.put i (o2 (⟨b,c,d,e,f,g,h,j,k,l⟩:a7) (C.d i)) (yf (⟨b,c,d,e,f,g,h,j,k,l⟩:a7) (C.d i) C.ag) C.told C.bh)⟩⟩⟩
def ZJ:cT:=⟨.eR true [.b 10] [.own (.h 0 (33*i+29)) du 10,.own (.h 0 (33*i+32)) cJ 11] (gJ i ((aO.set (2*i) 10).set (2*i+1) 11) 2 [] 0) (gF i ((aO.set (2*i) 10).set (2*i+1) 11)),[],[]++fT i ((aO.set (2*i) 10).set (2*i+1) 11),⟨[],[]⟩⟩
def ata(C:aA):cw (ZJ i).cg:=let a:=me (C.d i);(.ae (.ae (.ae (.s (.j ⟨8388610,[.b 10],[(.t 23,K)],[],.f⟩ .z (.bs ⟨([U,.ptr 0 (33*i+0)]++(us 21 (([.bool (vA (C.d i))]++(us 51 ([])))))),cy aO 0 C []⟩ (.s (.ae (.ae (.bs ⟨([U,.ptr 0 (33*i+0),U,U,U,U,b (bP a),b (p5 a)]++(us 67 ([]))),cy aO 0 (C.set i a) []⟩ .z))) .z))) (.ae (.bs ⟨([.ptr 0 0,.ptr 0 (33*i+0),U,U,U,.ptr 10 0,U,U,U,b ac.q]++(us 40 (([.bool (ac.q==3)]++(us 24 ([])))))),cy aO 1 C [(10,[b ac.q,b ac.F,b ac.z,b ac.M,b ac.w,b ac.C,.str ac.P,.str ac.aw,.str ac.f,b ac.aD])]⟩ (.ae (.ae (.bs ⟨([.ptr 0 0,.ptr 0 (33*i+0),U,U,U,.ptr 10 0,U,U,U,b ac.q]++(us 49 (([.bool (ac.q==4)]++(us 15 ([])))))),cy aO 1 C [(10,[b ac.q,b ac.F,b ac.z,b ac.M,b ac.w,b ac.C,.str ac.P,.str ac.aw,.str ac.f,b ac.aD])]⟩ (.ae (.ae (.bs ⟨([.ptr 0 0,.ptr 0 (33*i+0),U,U,U,.ptr 10 0,U,U,U,b ac.q]++(us 54 (([.bool (ac.q==9)]++(us 10 ([])))))),cy aO 1 C [(10,[b ac.q,b ac.F,b ac.z,b ac.M,b ac.w,b ac.C,.str ac.P,.str ac.aw,.str ac.f,b ac.aD])]⟩ (.ae (.ae (.bs ⟨([U,.ptr 0 (33*i+0)]++(us 69 ([.bool (ac.q==11),U,U,U]))),cy aO 1 C [(10,[b ac.q,b ac.F,b ac.z,b ac.M,b ac.w,b ac.C,.str ac.P,.str ac.aw,.str ac.f,b ac.aD])]⟩ .z)))))))))))))))
def XE(i:Nat)(ac:a7)(C:aA):Prop:=(((ac.q==2)=true->((vA (C.d i))=true->((0:Int)<=(C.d i).bf/\((C.d i).bf:Int)<3)))/\((ac.q==2)=false->(((ac.q==3)=true->(((C.d i).ro==3)=true->(0<=(C.d i).dO/\(C.d i).dO<=4194304/\0<=(C.d i).dD/\(C.d i).dD<=4194304/\0<=(C.d i).dG/\(C.d i).dG<=4194304)))/\((ac.q==3)=false->((ac.q==4)=false->(((ac.q==9)=true->(aK (C.d i).a_))/\((ac.q==9)=false->((ac.q==11)=true->((C.d i).co<=4194304)))))))))
def aA9(i:Nat)(d:i<3)(ac:a7)(C:aA)(c:eP C)(p:ac.P.size<=549755813888)(q:ac.aw.size<=549755813888)(r:ac.f.size<=549755813888)(a:jS (C.d i)):XE i ac C:=by
 have b:=g4 c i d;unfold fS at b;unfold XE;exact have:=a.bf;have:=a.j;have:=a.hM;have:=a.co;have:=a.gG;have:=a.ee;have:=a.ws;have:=a.pp;have:=a.li;have:=a.u8;(⟨(λe=>(λg=>Ω)),(λh=>⟨(λj=>(λk=>Ω)),(λl=>(λm=>⟨(λn=>(by first|(with_reducible (repeat first|assumption|apply dS|apply d_|apply eB|apply eu|apply gP|apply s|apply gq|apply gd|apply gf|apply gN|apply gb|apply gO|apply gL|apply gM|apply g6|apply ht|apply hv|apply hH|apply lW|apply ll|apply ig|apply ON);done)|assumption)),(λo=>(λf=>Ω))⟩))⟩)⟩)
def ayM(i:Nat)(a:i<3)(ac:a7)(e:ac.P.size<=549755813888)(f:ac.aw.size<=549755813888)(g:ac.f.size<=549755813888):e8 Tryz.prog 32 (Pw i) ck [] (cP λC=>⟨⟨some (jS (C.d i)),[],cu ((aO.set (2*i) 10).set (2*i+1) 11) 2 (C.put i (o2 ac (C.d i)) (yf ac (C.d i) C.ag) C.told C.bh)⟩⟩) [b ac.q,b ac.F,b ac.z,b ac.M,b ac.w,b ac.C,.str ac.P,.str ac.aw,.str ac.f,b ac.aD]:=by
 refine gC λC c=>λd=>eC (ZJ i) (ata i ac C) (XE i ac C) (b1 10 (aJ agC a2) (ay (y_ i a) (ay (agD i a) (ay (agE i a) (ay (axT i a) (ay (axU i a) (ay (axV i a) b0))))))) Tryz.func32 (List.replicate 31 .f++List.replicate 62 .l++[.f,.f]++List.replicate 4 .l++[(.b .l (.b .l (.b .f .l)))]++[.l,.l]) ?_ ?_ (aA9 i a ac C c e f g d)
 .rcases ca a with rfl|rfl|rfl<;>kernel_rfl
 .rcases ca a with rfl|rfl|rfl<;>kernel_rfl
def aBO(i:Nat)(c:i<3):gr 32 (Pw i):=
 jR (bE:=[a,a,a,a,a,a,al,al,al,a]) λs b=>Eq.mp (by rcases ca c with rfl|rfl|rfl<;>kernel_rfl) (ayM i c ⟨s.1,s.2.1,s.2.2.1,s.2.2.2.1,s.2.2.2.2.1,s.2.2.2.2.2.1,s.2.2.2.2.2.2.1,s.2.2.2.2.2.2.2.1,s.2.2.2.2.2.2.2.2.1,s.2.2.2.2.2.2.2.2.2.1⟩ (b.2.2.2.2.2.2.1 rfl) (b.2.2.2.2.2.2.2.1 rfl) (b.2.2.2.2.2.2.2.2.1 rfl))
def axQ(i:Nat)(a:i<3):gu 32 (Pw i):=gQ gB Tryz.func32 (aBO i a)
end
def fM(s:G aj):Prop:=s.n<=300/\ ∀j,j<s.n->hb (s.at' j)
structure b7 (n:H):Prop where
 i:jS n
 o:fM n.bd
structure P7 (m:aj):Prop where
 ky:0<=m.w/\m.w<=1048576
 bR:0<=m.aD/\m.aD<=1048576
 li:ei m.f
def wz{a b t d e k:Int}{f:Bool}(c:0<=d/\d<=1048576):P7 ⟨a,b,k,t,d,e,f,0,B,0,0,0,B,0,B⟩:=⟨c,(by decide:(0:Int)<=0/\(0:Int)<=1048576),mr⟩
def jS.h_{n:H}(h:jS n)(m:H)(e:(m.bf,m.j,m.co,m.li,m.dO,m.dD,m.dG,m.bR,m.hq,m.q1,m.fQ)=(n.bf,n.j,n.co,n.li,n.dO,n.dD,n.dG,n.bR,n.hq,n.q1,n.fQ))(k:aK m.a_)(l:m.ws.n<=3000):jS m:=by
 simp only[pz]at e;obtain⟨c,a,bk,b,cZ,i,j,d,f,g,RL⟩:=e;exact⟨by rw[c];exact h.bf,by rw[a];exact h.j,by rw[a,bk];exact h.hM,by rw[bk];exact h.co,by rw[b];exact h.gG,by rw[a,b];exact h.ee,l,by rw[cZ,i,j];exact h.pp,by rw[b];exact h.li,k,by rw[d];exact h.bR,by rw[f,g,RL];exact h.hr⟩
def oo{c:Bool}{a b:H}(d:c=true->b7 a)(e:c=false->b7 b):b7 (H.bif c a b):=by
 rw[H.eY]
 cases c
 .exact e rfl
 .exact d rfl
def qn{A:Int}{ms:aj}{d:H}(h:b7 d)(f:0<=A/\A<3)(a:P7 ms):b7 (dJ A ms d):=by
 refine⟨h.i.h_ _ Ξ h.i.u8 h.i.ws,?_⟩;show fM (Gj A ms d);unfold Gj
 by_cases c:(d.bd.n:Int)<300
 .rw[bM c,aR];refine⟨?_,λj b=> ?_⟩
  .show d.bd.n+1<=300;omega
  .show hb (cond (Nat.blt j d.bd.n) (d.bd.at' j) _)
   cases e:Nat.blt j d.bd.n with
   |true=>exact h.o.2 j (by simpa[iY]using e)
   |false=>
    have i:j<d.bd.n+1:=b;have: ¬j<d.bd.n:=λhh=>by
     rw[show Nat.blt j d.bd.n=true by rw[iY];exact hh]at e
     cases e
    have g:j-d.bd.n=0:=by omega
    simp only[aX,g];exact⟨h.i.bf,f,a.ky,a.bR,a.li⟩
 .rw[bj c,aX];exact h.o
def af9{rc:bm}{d:H}(h:b7 d):b7 (fO rc d):=⟨h.i.h_ _ Ξ (uL h.i.u8) h.i.ws,h.o⟩
def VX{A g:Int}{d:H}(h:b7 d):b7 (ez A g d):=⟨h.i.h_ _ Ξ (uL h.i.u8) h.i.ws,h.o⟩
def af6{d:H}(h:b7 d):b7 (jX d):=⟨h.i.h_ _ Ξ h.i.u8 (by
  show(cond (d.ro==2) (B:G hc) d.ws).n<=3000
  cases (d.ro==2)
  .exact h.i.ws
  .exact cp _),h.o⟩
def VY{A:Int}{d:H}(h:b7 d)(a:0<=A/\A<3):b7 (rq A d):=qn h a (wz Δ)
def avX{ms:aj}{d:H}(h:b7 d)(a:0<=ms.q/\ms.q<3):b7 (vD ms d):=by
 have b:=qn (ms:=⟨0,0,2,ms.M,0,0,false,0,B,0,0,0,B,0,B⟩) h a (wz Δ);have c:=VY h a;refine⟨h.i.h_ _ Ξ h.i.u8 h.i.ws,?_⟩;show fM (cond (Ld ms d) _ _)
 cases Ld ms d
 .exact c.o
 .exact b.o
def af7{ms:aj}{d:H}(h:b7 d)(b:P7 ms):b7 (o4 ms d):=by
 have a:b7 (yj ms d):=by
  refine⟨h.i.h_ _ Ξ h.i.u8 h.i.ws,?_⟩;show fM (cond (0 !=d.bf) (dJ 0 ms d).bd d.bd)
  cases (0 !=d.bf)
  .exact h.o
  .exact(qn h Δ b).o
 have c:b7 (yk ms d):=by
  refine⟨a.i.h_ _ Ξ a.i.u8 a.i.ws,?_⟩;show fM (cond (1 !=d.bf) (dJ 1 ms (yj ms d)).bd (Gb ms d))
  cases (1 !=d.bf)
  .exact a.o
  .exact(qn a Δ b).o
 refine⟨h.i.h_ _ Ξ h.i.u8 h.i.ws,?_⟩;show fM (cond (2 !=d.bf) (dJ 2 ms (yk ms d)).bd (Gc ms d))
 cases (2 !=d.bf)
 .exact c.o
 .exact(qn c Δ b).o
def Q_{d:H}(h:jS d):0<=bP d/\bP d<=1048576:=by
 have:=Jg d ⟨h.j,by have:=h.ee;omega⟩;have:=h.ee;omega
def avY{d:H}(h:b7 d):b7 (mg d):=by
 have b:aK (F4 d):=by
  unfold F4
  cases (d.ao==1048576)
  .exact uL h.i.u8
  .exact h.i.u8
 have c:b7 (mX d):=⟨h.i.h_ _ Ξ b h.i.ws,h.o⟩;have a:b7 (BE d):=⟨h.i.h_ _ Ξ b h.i.ws,h.o⟩;unfold mg;exact oo (λ_=>c) λ_=>af7 a (wz (Q_ a.i))
def avZ{ms:aj}{d:H}(h:b7 d)(b:0<=ms.q/\ms.q<3):b7 (p6 ms d):=by
 have c:aK (Lf ms d):=by
  unfold Lf
  cases (!(rI d.j d.lt d.li ms.w ms.C))<;>cases decide (d.b3>=0)<;>cases (d.b3 !=ms.q)<;>cases decide (d.b3<0)<;>first|exact h.i.u8|exact uL h.i.u8
 have a:b7 (rr ms d):=⟨h.i.h_ _ Ξ c h.i.ws,h.o⟩;unfold p6;exact oo (λ_=>VY a b) λ_=>qn a b (wz Δ)
end Go.Proofs.YtadmdaokcgjdiaaGreatDoor
