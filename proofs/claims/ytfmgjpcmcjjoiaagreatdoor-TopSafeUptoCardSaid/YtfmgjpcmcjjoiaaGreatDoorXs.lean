import Derived.Test.YtfmgjpcmcjjoiaaGreatDoorXp
import Derived.Test.YtfmgjpcmcjjoiaaGreatDoorXq
import Derived.Test.YtfmgjpcmcjjoiaaGreatDoorXr
open Go.IntKind (i64 u64 u8)
open Int (toNat)
set_option maxRecDepth 100000
set_option maxHeartbeats 4000000
set_option linter.all false
noncomputable section
namespace Go.Proofs.YtfmgjpcmcjjoiaaGreatDoor
open Go Go.RowKit Go.af
section
variable(i:Nat)(aL:ke)(d:H)
def ab5:H:=let a:=ik (⟨d.a6,(il d),false,aL.q,aL.C,aL.z,aL.I,aL.w,aL.m,aL.N⟩:aq) d;{a with ws:=(G.app d.ws (G.lit ([(⟨(b7 a),d.a6,aL.q,aL.C,aL.z,aL.I,aL.w,aL.m,aL.N⟩:hz)]:List hz)))}
def sf:H:=(H.bif (!d.up) d (H.bif (d.ro !=3) d (H.bif (!(sh (⟨d.a6,(il d),false,aL.q,aL.C,aL.z,aL.I,aL.w,aL.m,aL.N⟩:aq) d)) (ik (⟨d.a6,(il d),false,aL.q,aL.C,aL.z,aL.I,aL.w,aL.m,aL.N⟩:aq) d) (ab5 aL d))))
def Af(O:G bF):G bF:=(cond (!d.up) (EE aL 13 d O) (cond (d.ro !=3) (EE aL 12 d O) (cond (!(sh (⟨d.a6,(il d),false,aL.q,aL.C,aL.z,aL.I,aL.w,aL.m,aL.N⟩:aq) d)) (EE aL 6 (ik (⟨d.a6,(il d),false,aL.q,aL.C,aL.z,aL.I,aL.w,aL.m,aL.N⟩:aq) d) O) O)))
def NN:c8:=⟨[.p 0,.fa 0 (33*i),.g [a,a,a,ai,ai,ai,a]],b4,eH,eu,fun(b:Int) (c:Int) (d:Int) e f g (h:Int)=>cA fun C=>⟨⟨some (C.told.n≤549000000000∧(⟨b,c,d,e,f,g,h⟩:ke).I.size≤10000000000∧(⟨b,c,d,e,f,g,h⟩:ke).w.size≤10000000000∧(⟨b,c,d,e,f,g,h⟩:ke).m.size≤10000000000∧(C.d i).ws.n≤549000000000),[],ca aH 0 (C.put i (sf (⟨b,c,d,e,f,g,h⟩:ke) (C.d i)) C.ag (Af (⟨b,c,d,e,f,g,h⟩:ke) (C.d i) C.told) C.a8)⟩⟩⟩
def XK:cG:=⟨.eB true [] [] (ga i aH 0 [] 0) (fY i aH),[],[]++fy i aH,⟨[],[]⟩⟩
def aqE(C:ak):cb (XK i).b1:=let a:=C.d i;let c:=ik (⟨a.a6,(il a),false,aL.q,aL.C,aL.z,aL.I,aL.w,aL.m,aL.N⟩:aq) a;(.ae (.ae (.ae (.ae (.bO ⟨([.ptr 0 0,.ptr 0 (33*i+0),U,U,U,.ptr 10 0]++(us 33 (([.bool (a.ro !=3)]++(us 25 ([])))))),cd aH 1 C [(10,[b aL.q,b aL.C,b aL.z,.str aL.I,.str aL.w,.str aL.m,b aL.N])]⟩ (.ae (.s (.lG [(0,(33*i+4))]) (.bO ⟨([.ptr 0 0,.ptr 0 (33*i+0),U,U,U,.ptr 10 0]++(us 43 (([.bool (!(sh (⟨a.a6,(il a),false,aL.q,aL.C,aL.z,aL.I,aL.w,aL.m,aL.N⟩:aq) a))]++(us 15 ([])))))),cd aH 1 (C.set i c) [(10,[b aL.q,b aL.C,b aL.z,.str aL.I,.str aL.w,.str aL.m,b aL.N])]⟩ (.ae (.ae (.bO ⟨([U,.ptr 0 (33*i+0),U,U,U,.ptr 10 0,b (b7 c)]++(us 58 ([]))),cd aH 1 (C.set i c) [(10,[b aL.q,b aL.C,b aL.z,.str aL.I,.str aL.w,.str aL.m,b aL.N])]⟩ .z)))))))))))
def Vp(i:Nat)(aL:ke)(C:ak):Prop:=(((!(C.d i).up)=true→(C.told.n≤549000000000))∧((!(C.d i).up)=false→((((C.d i).ro !=3)=true→(C.told.n≤549000000000))∧(((C.d i).ro !=3)=false→((kS (⟨(C.d i).a6,(il (C.d i)),false,aL.q,aL.C,aL.z,aL.I,aL.w,aL.m,aL.N⟩:aq))∧(((!(sh (⟨(C.d i).a6,(il (C.d i)),false,aL.q,aL.C,aL.z,aL.I,aL.w,aL.m,aL.N⟩:aq) (C.d i)))=true→(C.told.n≤549000000000))∧((!(sh (⟨(C.d i).a6,(il (C.d i)),false,aL.q,aL.C,aL.z,aL.I,aL.w,aL.m,aL.N⟩:aq) (C.d i)))=false→((C.d i).ws.n+1≤549755813888))))))))
theorem ayu(i:Nat)(c:i<3)(aL:ke)(C:ak)(b:ez C)(q:aL.I.size≤549755813888)(r:aL.w.size≤549755813888)(s:aL.m.size≤549755813888)(d:C.told.n≤549000000000∧aL.I.size≤10000000000∧aL.w.size≤10000000000∧aL.m.size≤10000000000∧(C.d i).ws.n≤549000000000):Vp i aL C:=by
 have a:=gE b i c;unfold fw at a;unfold Vp;exact have⟨l,m,n,o,p⟩:=d;(⟨(fun e=>(by omega)),(fun f=>⟨(fun g=>(by omega)),(fun h=>⟨(by repeat first|assumption|apply qO),⟨(fun j=>(by omega)),(fun k=>(by omega))⟩⟩)⟩)⟩)
theorem av2(i:Nat)(a:i<3)(aL:ke)(e:aL.I.size≤549755813888)(f:aL.w.size≤549755813888)(g:aL.m.size≤549755813888):eP Tryz.prog 42 (NN i) b4 [] (cA fun C=>⟨⟨some (C.told.n≤549000000000∧aL.I.size≤10000000000∧aL.w.size≤10000000000∧aL.m.size≤10000000000∧(C.d i).ws.n≤549000000000),[],ca aH 0 (C.put i (sf aL (C.d i)) C.ag (Af aL (C.d i) C.told) C.a8)⟩⟩) [b aL.q,b aL.C,b aL.z,.str aL.I,.str aL.w,.str aL.m,b aL.N]:=by
 refine fW fun C c=>fun d=>ef (XK i) (aqE i aL C) (Vp i aL C) (bJ 10 aT (aj (avp i a) (aj (aex i a) (aj (aey i a) (aj (xV i a) bI))))) Tryz.func42 (List.replicate 31 .f++List.replicate 62 .l++[.f,.f]++List.replicate 5 .l++[.f]++[.l]) ?_ ?_ (ayu i a aL C c e f g d)
 ·rcases bV a with rfl|rfl|rfl<;>kernel_rfl
 ·rcases bV a with rfl|rfl|rfl<;>kernel_rfl
theorem ay7(i:Nat)(c:i<3):fO 42 (NN i):=
 jq (bm:=[a,a,a,ai,ai,ai,a]) fun s b=>Eq.mp (by rcases bV c with rfl|rfl|rfl<;>kernel_rfl) (av2 i c ⟨s.1,s.2.1,s.2.2.1,s.2.2.2.1,s.2.2.2.2.1,s.2.2.2.2.2.1,s.2.2.2.2.2.2.1⟩ (b.2.2.2.1 rfl) (b.2.2.2.2.1 rfl) (b.2.2.2.2.2.1 rfl))
theorem avm(i:Nat)(a:i<3):fP 42 (NN i):=gj fV Tryz.func42 (ay7 i a)
end
section
variable(i:Nat)(d:H)
def i_:H:={d with ro:=3}
def m9:H:=let a:=i64.wrap ((b7 (i_ d))+1);{(i_ d)with dX:=a,dz:=a,dF:=a,g1:=0,q1:=0,fh:=0}
def Sn(ar:G aM):G aM:=(G.app ar (G.lit ([(⟨d.a6,d.bh⟩:aM)]:List aM)))
def w6:H:=let b:=i64.wrap ((b7 (i_ d))+1);let a:=ik (⟨d.a6,(il (m9 d)),true,0,0,0,⟨#[]⟩,⟨#[]⟩,⟨#[]⟩,0⟩:aq) (m9 d);{d with ro:=3,j:=a.j,lt:=a.lt,li:=a.li,dX:=b,dz:=b,dF:=b,g1:=0,q1:=0,fh:=0,aX:=a.aX,bc:=a.bc,bw:=(uG a).bw}
theorem lK:(⟨#[]⟩:u).size≤10000000000:=by decide
theorem amb(d:H)(a:0≤d.j)(b:d.j+(d.li.n:Int)+1≤4194304):0≤(i64.wrap ((b7 (i_ d))+1))∧(i64.wrap ((b7 (i_ d))+1))≤4194304:=by
 have f:0≤b7 (i_ d)∧b7 (i_ d)≤4194303:=by
  show 0≤j1 d.j d.lt d.li∧j1 d.j d.lt d.li≤4194303;have c:=E (d.j+(d.li.n:Int));unfold j1
  cases (cz d.j d.lt d.li !=0)with
  |true=>exact⟨cR 0,by show(0:Int)≤4194303;omega⟩
  |false=>
   show 0≤oW d.j d.li∧oW d.j d.li≤4194303;unfold oW
   cases decide ((d.li.n:Int)>0)with
   |true=>rw[aQ];omega
   |false=>rw[aS];omega
 have e:=E (b7 (i_ d)+1);omega
theorem anC(it:aq)(d:H):(ik it (m9 d)).dX=(i64.wrap ((b7 (i_ d))+1))∧(ik it (m9 d)).dz=(i64.wrap ((b7 (i_ d))+1))∧(ik it (m9 d)).dF=(i64.wrap ((b7 (i_ d))+1)):=⟨rfl,rfl,rfl⟩
def N3:c8:=⟨[.p 0,.fa 0 (33*i)],b4,eH,eu,cA fun C=>⟨⟨some (C.a8.n≤549000000000∧0≤(C.d i).j∧(C.d i).j+((C.d i).li.n:Int)+1≤4194304),[],ca aH 0 (C.put i (w6 (C.d i)) C.ag C.told (Sn (C.d i) C.a8))⟩⟩⟩
def XT:cG:=⟨.eB true [] [] (ga i aH 0 [] 0) (fY i aH),[],[]++fy i aH,⟨[],[]⟩⟩
def aqN(C:ak):cb (XT i).b1:=let a:=C.d i;let c:=G.lit ([(⟨a.a6,a.bh⟩:aM)]:List aM);(.ae (.ae (.bO ⟨([.ptr 0 0,.ptr 0 (33*i+0),U,U,b (b7 (i_ a))]++(us 55 ([]))),cd aH 0 (C.set i (i_ a)) []⟩ (.s (.ae (.un 3 (.s (.ae (.s (.c true .z) .z)) (.s (.ae (.s (.c true .z) .z)) (.s (.ae (.s (.c true .z) .z)) (.ae (.s (.c false .z) .z))))))) (.ae (.s (.lG [(0,(33*i+4))]) (.bO ⟨([U,.ptr 0 (33*i+0)]++(us 58 ([]))),cd aH 1 (C.put i (ik (⟨a.a6,(il (m9 a)),true,0,0,0,⟨#[]⟩,⟨#[]⟩,⟨#[]⟩,0⟩:aq) (m9 a)) C.ag C.told (G.app C.a8 c)) [(10,[(aB.ad cJ).av c])]⟩ .z)))))))
def Vv(i:Nat)(C:ak):Prop:=((C.a8.n+1≤549755813888)∧((kS (⟨(C.d i).a6,(il (m9 (C.d i))),true,0,0,0,⟨#[]⟩,⟨#[]⟩,⟨#[]⟩,0⟩:aq))∧(0≤(i64.wrap ((b7 (i_ (C.d i)))+1))∧(i64.wrap ((b7 (i_ (C.d i)))+1))≤4194304∧0≤(i64.wrap ((b7 (i_ (C.d i)))+1))∧(i64.wrap ((b7 (i_ (C.d i)))+1))≤4194304∧0≤(i64.wrap ((b7 (i_ (C.d i)))+1))∧(i64.wrap ((b7 (i_ (C.d i)))+1))≤4194304)))
theorem ayB(i:Nat)(c:i<3)(C:ak)(b:ez C)(d:C.a8.n≤549000000000∧0≤(C.d i).j∧(C.d i).j+((C.d i).li.n:Int)+1≤4194304):Vv i C:=by
 have a:=gE b i c;unfold fw at a;unfold Vv;exact have⟨g,e,f⟩:=d;have:=amb (C.d i) e f;have:=anC (⟨(C.d i).a6,(il (m9 (C.d i))),true,0,0,0,⟨#[]⟩,⟨#[]⟩,⟨#[]⟩,0⟩:aq) (C.d i);(⟨(by omega),⟨(by repeat first|assumption|apply qO|apply lK),(by first|omega|(have:=E ((b7 (i_ (C.d i)))+1);omega))⟩⟩)
theorem awo(i:Nat)(a:i<3):eP Tryz.prog 65 (N3 i) b4 [] (cA fun C=>⟨⟨some (C.a8.n≤549000000000∧0≤(C.d i).j∧(C.d i).j+((C.d i).li.n:Int)+1≤4194304),[],ca aH 0 (C.put i (w6 (C.d i)) C.ag C.told (Sn (C.d i) C.a8))⟩⟩) []:=by
 refine fW fun C b=>fun c=>ef (XT i) (aqN i C) (Vv i C) (bJ 10 aT (aj (aex i a) (aj (aey i a) (aj (xV i a) (aj (aeB i a) bI))))) Tryz.func65 [] ?_ ?_ (ayB i a C b c)
 ·rcases bV a with rfl|rfl|rfl<;>kernel_rfl
 ·rcases bV a with rfl|rfl|rfl<;>kernel_rfl
theorem azk(i:Nat)(a:i<3):fO 65 (N3 i):=
 awo i a
theorem sX(i:Nat)(a:i<3):fP 65 (N3 i):=gj fV Tryz.func65 (azk i a)
end
section
variable(i:Nat)(ac:aJ)(d:H)
def Js:Bool:=(cond (d.ro !=3) (decide (d.a6<1048576)) false)
def Am:H:={d with ro:=1,v0:=(d.bh==0),v1:=(d.bh==1),v2:=(d.bh==2)}
def l6:H:=(H.bif (ac.q==2) (H.bif (Js d) (uF (⟨0,0,1,(i64.wrap (d.a6+1)),(b7 (Am d)),(uz (Am d)),false,0,(D:G aq),0,0,0,(D:G L),0,(D:G aw)⟩:ah) (Am d)) d) (H.bif (ac.q==3) (H.bif (d.ro==3) (uG d) d) (H.bif (ac.q==4) (n1 d) (H.bif (ac.q==9) (l7 ac.z d) (H.bif (ac.q==11) (o5 d) d)))))
def uy(F:G ah):G ah:=(cond (ac.q==2) F (cond (ac.q==3) F (cond (ac.q==4) (JC d F) F)))
def NQ:c8:=⟨[.p 0,.fa 0 (33*i),.g [a,a,a,a,a,a,ai,ai,ai,a]],b4,eH,eu,fun(b:Int) (c:Int) (d:Int) (e:Int) (f:Int) (g:Int) h j k (l:Int)=>cA fun C=>⟨⟨some (js (C.d i)),[],ca ((aH.set (2*i) 10).set (2*i+1) 11) 2 (C.put i (l6 (⟨b,c,d,e,f,g,h,j,k,l⟩:aJ) (C.d i)) (uy (⟨b,c,d,e,f,g,h,j,k,l⟩:aJ) (C.d i) C.ag) C.told C.a8)⟩⟩⟩
def XL:cG:=⟨.eB true [.b 10] [.own (.h 0 (33*i+29)) dd 10,.own (.h 0 (33*i+32)) cw 11] (ga i ((aH.set (2*i) 10).set (2*i+1) 11) 2 [] 0) (fY i ((aH.set (2*i) 10).set (2*i+1) 11)),[],[]++fy i ((aH.set (2*i) 10).set (2*i+1) 11),⟨[],[]⟩⟩
def aqF(C:ak):cb (XL i).b1:=let a:=Am (C.d i);(.ae (.ae (.ae (.s (.j ⟨8388610,[.b 10],[(.t 23,l)],[],.f⟩ .z (.bO ⟨([U,.ptr 0 (33*i+0)]++(us 21 (([.bool (Js (C.d i))]++(us 51 ([])))))),cd aH 0 C []⟩ (.s (.ae (.ae (.bO ⟨([U,.ptr 0 (33*i+0),U,U,U,U,b (b7 a),b (uz a)]++(us 67 ([]))),cd aH 0 (C.set i a) []⟩ .z))) .z))) (.ae (.bO ⟨([.ptr 0 0,.ptr 0 (33*i+0),U,U,U,.ptr 10 0,U,U,U,b ac.q]++(us 40 (([.bool (ac.q==3)]++(us 24 ([])))))),cd aH 1 C [(10,[b ac.q,b ac.C,b ac.z,b ac.I,b ac.w,b ac.m,.str ac.N,.str ac.ao,.str ac.i,b ac.aC])]⟩ (.ae (.ae (.bO ⟨([.ptr 0 0,.ptr 0 (33*i+0),U,U,U,.ptr 10 0,U,U,U,b ac.q]++(us 49 (([.bool (ac.q==4)]++(us 15 ([])))))),cd aH 1 C [(10,[b ac.q,b ac.C,b ac.z,b ac.I,b ac.w,b ac.m,.str ac.N,.str ac.ao,.str ac.i,b ac.aC])]⟩ (.ae (.ae (.bO ⟨([.ptr 0 0,.ptr 0 (33*i+0),U,U,U,.ptr 10 0,U,U,U,b ac.q]++(us 54 (([.bool (ac.q==9)]++(us 10 ([])))))),cd aH 1 C [(10,[b ac.q,b ac.C,b ac.z,b ac.I,b ac.w,b ac.m,.str ac.N,.str ac.ao,.str ac.i,b ac.aC])]⟩ (.ae (.ae (.bO ⟨([U,.ptr 0 (33*i+0)]++(us 69 ([.bool (ac.q==11),U,U,U]))),cd aH 1 C [(10,[b ac.q,b ac.C,b ac.z,b ac.I,b ac.w,b ac.m,.str ac.N,.str ac.ao,.str ac.i,b ac.aC])]⟩ .z)))))))))))))))
def Vq(i:Nat)(ac:aJ)(C:ak):Prop:=(((ac.q==2)=true→((Js (C.d i))=true→((0:Int)≤(C.d i).bh∧((C.d i).bh:Int)<3)))∧((ac.q==2)=false→(((ac.q==3)=true→(((C.d i).ro==3)=true→(0≤(C.d i).dX∧(C.d i).dX≤4194304∧0≤(C.d i).dz∧(C.d i).dz≤4194304∧0≤(C.d i).dF∧(C.d i).dF≤4194304)))∧((ac.q==3)=false→((ac.q==4)=false→(((ac.q==9)=true→(aD (C.d i).aX))∧((ac.q==9)=false→((ac.q==11)=true→((C.d i).co≤4194304)))))))))
theorem ayv(i:Nat)(d:i<3)(ac:aJ)(C:ak)(c:ez C)(p:ac.N.size≤549755813888)(q:ac.ao.size≤549755813888)(r:ac.i.size≤549755813888)(a:js (C.d i)):Vq i ac C:=by
 have b:=gE c i d;unfold fw at b;unfold Vq;exact have:=a.bh;have:=a.j;have:=a.ha;have:=a.co;have:=a.fZ;have:=a.dP;have:=a.ws;have:=a.pp;have:=a.li;have:=a.u8;(⟨(fun e=>(fun g=>(by omega))),(fun h=>⟨(fun j=>(fun k=>(by omega))),(fun l=>(fun m=>⟨(fun n=>(by first|(with_reducible (repeat first|assumption|apply dG|apply dY|apply ee|apply ea|apply gh|apply s|apply fM|apply fF|apply fG|apply gf|apply fE|apply gg|apply gb|apply gd|apply gJ|apply g4|apply g5|apply hg|apply ld|apply kK|apply h8|apply M0);done)|assumption)),(fun o=>(fun f=>(by omega)))⟩))⟩)⟩)
theorem awc(i:Nat)(a:i<3)(ac:aJ)(e:ac.N.size≤549755813888)(f:ac.ao.size≤549755813888)(g:ac.i.size≤549755813888):eP Tryz.prog 45 (NQ i) b4 [] (cA fun C=>⟨⟨some (js (C.d i)),[],ca ((aH.set (2*i) 10).set (2*i+1) 11) 2 (C.put i (l6 ac (C.d i)) (uy ac (C.d i) C.ag) C.told C.a8)⟩⟩) [b ac.q,b ac.C,b ac.z,b ac.I,b ac.w,b ac.m,.str ac.N,.str ac.ao,.str ac.i,b ac.aC]:=by
 refine fW fun C c=>fun d=>ef (XL i) (aqF i ac C) (Vq i ac C) (bJ 10 (aG aez aT) (aj (xV i a) (aj (aeA i a) (aj (aeB i a) (aj (avq i a) (aj (avr i a) (aj (avs i a) bI))))))) Tryz.func45 (List.replicate 31 .f++List.replicate 62 .l++[.f,.f]++List.replicate 4 .l++[(.b .l (.b .l (.b .f .l)))]++[.l,.l]) ?_ ?_ (ayv i a ac C c e f g d)
 ·rcases bV a with rfl|rfl|rfl<;>kernel_rfl
 ·rcases bV a with rfl|rfl|rfl<;>kernel_rfl
theorem ay9(i:Nat)(c:i<3):fO 45 (NQ i):=
 jq (bm:=[a,a,a,a,a,a,ai,ai,ai,a]) fun s b=>Eq.mp (by rcases bV c with rfl|rfl|rfl<;>kernel_rfl) (awc i c ⟨s.1,s.2.1,s.2.2.1,s.2.2.2.1,s.2.2.2.2.1,s.2.2.2.2.2.1,s.2.2.2.2.2.2.1,s.2.2.2.2.2.2.2.1,s.2.2.2.2.2.2.2.2.1,s.2.2.2.2.2.2.2.2.2.1⟩ (b.2.2.2.2.2.2.1 rfl) (b.2.2.2.2.2.2.2.1 rfl) (b.2.2.2.2.2.2.2.2.1 rfl))
theorem avn(i:Nat)(a:i<3):fP 45 (NQ i):=gj fV Tryz.func45 (ay9 i a)
end
def fo(s:G ah):Prop:=s.n≤300∧ ∀j,j<s.n→gQ (s.at' j)
structure bQ (n:H):Prop where
 i:js n
 o:fo n.bw
structure Oq (m:ah):Prop where
 od:0≤m.w∧m.w≤1048576
 bX:0≤m.aC∧m.aC≤1048576
 li:dS m.i
theorem vk{a b t d e k:Int}{f:Bool}(c:0≤d∧d≤1048576):Oq ⟨a,b,k,t,d,e,f,0,D,0,0,0,D,0,D⟩:=⟨c,(by decide:(0:Int)≤0∧(0:Int)≤1048576),lF⟩
theorem js.hJ{n:H}(h:js n)(m:H)(e:(m.bh,m.j,m.co,m.li,m.dX,m.dz,m.dF,m.bX,m.g1,m.q1,m.fh)=(n.bh,n.j,n.co,n.li,n.dX,n.dz,n.dF,n.bX,n.g1,n.q1,n.fh))(k:aD m.aX)(l:m.ws.n≤3000):js m:=by
 simp only[tz]at e;obtain⟨c,a,aZ,b,cN,i,j,d,f,g,Qg⟩:=e;exact⟨by rw[c];exact h.bh,by rw[a];exact h.j,by rw[a,aZ];exact h.ha,by rw[aZ];exact h.co,by rw[b];exact h.fZ,by rw[a,b];exact h.dP,l,by rw[cN,i,j];exact h.pp,by rw[b];exact h.li,k,by rw[d];exact h.bX,by rw[f,g,Qg];exact h.g2⟩
theorem nm{c:Bool}{a b:H}(d:c=true→bQ a)(e:c=false→bQ b):bQ (H.bif c a b):=by
 rw[H.fx]
 cases c
 ·exact e rfl
 ·exact d rfl
theorem ph{A:Int}{ms:ah}{d:H}(h:bQ d)(f:0≤A∧A<3)(a:Oq ms):bQ (et A ms d):=by
 refine⟨h.i.hJ _ (by kernel_rfl) h.i.u8 h.i.ws,?_⟩;show fo (JG A ms d);unfold JG
 by_cases c:(d.bw.n:Int)<300
 ·rw[bS c,aQ];refine⟨?_,fun j b=> ?_⟩
  ·show d.bw.n+1≤300;omega
  ·show gQ (cond (Nat.blt j d.bw.n) (d.bw.at' j) _)
   cases e:Nat.blt j d.bw.n with
   |true=>exact h.o.2 j (by simpa[hj]using e)
   |false=>
    have i:j<d.bw.n+1:=b;have: ¬j<d.bw.n:=fun hh=>by
     rw[show Nat.blt j d.bw.n=true by rw[hj];exact hh]at e
     cases e
    have g:j-d.bw.n=0:=by omega
    simp only[aS,g];exact⟨h.i.bh,f,a.od,a.bX,a.li⟩
 ·rw[bp c,aS];exact h.o
theorem ad7{rc:bo}{d:H}(h:bQ d):bQ (fr rc d):=⟨h.i.hJ _ (by kernel_rfl) (tr h.i.u8) h.i.ws,h.o⟩
theorem T_{A g:Int}{d:H}(h:bQ d):bQ (fq A g d):=⟨h.i.hJ _ (by kernel_rfl) (tr h.i.u8) h.i.ws,h.o⟩
theorem ad4{d:H}(h:bQ d):bQ (jZ d):=⟨h.i.hJ _ (by kernel_rfl) h.i.u8 (by
  show(cond (d.ro==2) (D:G hz) d.ws).n≤3000
  cases (d.ro==2)
  ·exact h.i.ws
  ·exact cf _),h.o⟩
theorem Ua{A:Int}{d:H}(h:bQ d)(a:0≤A∧A<3):bQ (qh A d):=ph h a (vk (by decide))
theorem atp{ms:ah}{d:H}(h:bQ d)(a:0≤ms.q∧ms.q<3):bQ (uA ms d):=by
 have b:=ph (ms:=⟨0,0,2,ms.I,0,0,false,0,D,0,0,0,D,0,D⟩) h a (vk (by decide));have c:=Ua h a;refine⟨h.i.hJ _ (by kernel_rfl) h.i.u8 h.i.ws,?_⟩;show fo (cond (Jv ms d) _ _)
 cases Jv ms d
 ·exact c.o
 ·exact b.o
theorem ad5{ms:ah}{d:H}(h:bQ d)(b:Oq ms):bQ (uF ms d):=by
 have a:bQ (Aw ms d):=by
  refine⟨h.i.hJ _ (by kernel_rfl) h.i.u8 h.i.ws,?_⟩;show fo (cond (0 !=d.bh) (et 0 ms d).bw d.bw)
  cases (0 !=d.bh)
  ·exact h.o
  ·exact(ph h (by decide) b).o
 have c:bQ (Ax ms d):=by
  refine⟨a.i.hJ _ (by kernel_rfl) a.i.u8 a.i.ws,?_⟩;show fo (cond (1 !=d.bh) (et 1 ms (Aw ms d)).bw (JA ms d))
  cases (1 !=d.bh)
  ·exact a.o
  ·exact(ph a (by decide) b).o
 refine⟨h.i.hJ _ (by kernel_rfl) h.i.u8 h.i.ws,?_⟩;show fo (cond (2 !=d.bh) (et 2 ms (Ax ms d)).bw (JB ms d))
 cases (2 !=d.bh)
 ·exact c.o
 ·exact(ph c (by decide) b).o
theorem PG{d:H}(h:js d):0≤b7 d∧b7 d≤1048576:=by
 have:=HC d ⟨h.j,by have:=h.dP;omega⟩;have:=h.dP;omega
theorem atq{d:H}(h:bQ d):bQ (sj d):=by
 have b:aD (Jw d):=by
  unfold Jw
  cases (d.a6==1048576)
  ·exact tr h.i.u8
  ·exact h.i.u8
 have c:bQ (uB d):=⟨h.i.hJ _ (by kernel_rfl) b h.i.ws,h.o⟩;have a:bQ (Aq d):=⟨h.i.hJ _ (by kernel_rfl) b h.i.ws,h.o⟩;unfold sj;exact nm (fun _=>c) fun _=>ad5 a (vk (PG a.i))
theorem atr{ms:ah}{d:H}(h:bQ d)(b:0≤ms.q∧ms.q<3):bQ (sk ms d):=by
 have c:aD (Jy ms d):=by
  unfold Jy
  cases (!(su d.j d.lt d.li ms.w ms.m))<;>cases decide (d.cC≥0)<;>cases (d.cC !=ms.q)<;>cases decide (d.cC<0)<;>first|exact h.i.u8|exact tr h.i.u8
 have a:bQ (sl ms d):=⟨h.i.hJ _ (by kernel_rfl) c h.i.ws,h.o⟩;unfold sk;exact nm (fun _=>Ua a b) fun _=>ph a b (vk (by decide))
end Go.Proofs.YtfmgjpcmcjjoiaaGreatDoor
