import Derived.Test.YtfmgjpcmcjjoiaaGreatDoorXj
open Go.IntKind (i64 u64 u8)
open Int (toNat)
set_option maxRecDepth 100000
set_option maxHeartbeats 4000000
set_option linter.all false
noncomputable section
namespace Go.Proofs.YtfmgjpcmcjjoiaaGreatDoor
open Go Go.RowKit Go.af
section
variable(i:Nat)(A:Int)(ms:ah)(d:H)
def JG:G ah:=(cond (decide ((d.bw.n:Int)<300)) (G.app d.bw (G.lit ([(⟨d.bh,A,ms.z,ms.I,ms.w,ms.m,ms.N,ms.ao,ms.i,ms.aC,ms.bU,ms.bY,ms.bN,ms.cc,ms.aY⟩:ah)]:List ah))) d.bw)
def et:H:={d with bw:=(JG A ms d)}
def Of:c8:=⟨[.fa 0 (33*i),.v a,.g [a,a,a,a,a,a,l,a,.ab dh,a,a,a,.ab bd,a,.ab bT]],b4,eH,eu,fun(A:Int) (b:Int) (j:Int) (k:Int) (m:Int) (n:Int) (o:Int) p (q:Int) r (c:Int) (d:Int) (e:Int) f (g:Int) h=>cA fun C=>⟨⟨none,[],ca aH 0 (C.set i (et A (⟨b,j,k,m,n,o,p,q,r,c,d,e,f,g,h⟩:ah) (C.d i)))⟩⟩⟩
def alG:cG:=⟨.eB true [] [] (ga i aH 0 [] 0) (fY i aH),[],[]++fy i aH,⟨[],[]⟩⟩
def age(i:Nat)(C:ak):Prop:=((decide ((((C.d i).bw.n:Nat):Int)<300))=true→((C.d i).bw.n+1≤549755813888))
theorem ayK(i:Nat)(d:i<3)(C:ak)(c:ez C):age i C:=by
 have b:=gE c i d;unfold fw at b;exact((fun a=>(by have:=al a;omega)))
theorem awA(i:Nat)(a:i<3)(A:Int)(ms:ah):eP Tryz.prog 90 (Of i) b4 [] (cA fun C=>⟨⟨none,[],ca aH 0 (C.set i (et A ms (C.d i)))⟩⟩) [b A,b ms.q,b ms.C,b ms.z,b ms.I,b ms.w,b ms.m,.bool ms.N,b ms.ao,aI 10 dU ms.i,b ms.aC,b ms.bU,b ms.bY,aI 8 gp ms.bN,b ms.cc,aI 7 gV ms.aY]:=by
 refine fW fun C c=>ef (alG i) (.z) (age i C) (bJ 10 aT bI) Tryz.func90 (List.replicate 94 .l++[.f]++List.replicate 7 .l) ?_ ?_ (ayK i a C c)
 ·rcases bV a with rfl|rfl|rfl<;>kernel_rfl
 ·rcases bV a with rfl|rfl|rfl<;>kernel_rfl
theorem azw(i:Nat)(b:i<3):fO 90 (Of i):=
 jq (bm:=[a,a,a,a,a,a,a,l,a,.ab dh,a,a,a,.ab bd,a,.ab bT]) fun s c=>Eq.mp (by rcases bV b with rfl|rfl|rfl<;>kernel_rfl) (awA i b s.1 ⟨s.2.1,s.2.2.1,s.2.2.2.1,s.2.2.2.2.1,s.2.2.2.2.2.1,s.2.2.2.2.2.2.1,s.2.2.2.2.2.2.2.1,s.2.2.2.2.2.2.2.2.1,s.2.2.2.2.2.2.2.2.2.1,s.2.2.2.2.2.2.2.2.2.2.1,s.2.2.2.2.2.2.2.2.2.2.2.1,s.2.2.2.2.2.2.2.2.2.2.2.2.1,s.2.2.2.2.2.2.2.2.2.2.2.2.2.1,s.2.2.2.2.2.2.2.2.2.2.2.2.2.2.1,s.2.2.2.2.2.2.2.2.2.2.2.2.2.2.2.1⟩)
theorem xW(i:Nat)(a:i<3):fP 90 (Of i):=gj fV Tryz.func90 (azw i a)
end
section
variable(i:Nat)(C:ak)(d:H)
def Ju:H:={d with ro:=0,ws:=(D:G hz)}
def NW:c8:=⟨[.fa 0 (33*i)],b4,eH,eu,cA fun C=>⟨⟨none,[],ca (aH.set (2*i) 10) 1 (C.set i (Ju (C.d i)))⟩⟩⟩
def alB:cG:=⟨.eB true [] [.kill (2*i+1),.own (.h 0 (33*i+29)) dd 10] (ga i (aH.set (2*i) 10) 1 [] 0) (fY i (aH.set (2*i) 10)),[],[]++fy i (aH.set (2*i) 10),⟨[],[]⟩⟩
theorem awi(i:Nat)(a:i<3):eP Tryz.prog 59 (NW i) b4 [] (cA fun C=>⟨⟨none,[],ca (aH.set (2*i) 10) 1 (C.set i (Ju (C.d i)))⟩⟩) []:=by
 refine fW fun C b=>ef (alB i) (.z) True (bJ 10 aT bI) Tryz.func59 [] ?_ ?_ trivial
 ·rcases bV a with rfl|rfl|rfl<;>kernel_rfl
 ·rcases bV a with rfl|rfl|rfl<;>kernel_rfl
theorem aze(i:Nat)(a:i<3):fO 59 (NW i):=
 awi i a
theorem qQ(i:Nat)(a:i<3):fP 59 (NW i):=gj fV Tryz.func59 (aze i a)
def qh(A:Int)(d:H):H:={d with bw:=(et A (⟨0,0,8,d.a6,0,0,false,0,(D:G aq),0,0,0,(D:G L),0,(D:G aw)⟩:ah) d).bw}
def N1:c8:=⟨[.fa 0 (33*i),.v a],b4,eH,eu,fun(A:Int)=>cA fun C=>⟨⟨none,[],ca aH 0 (C.set i (qh A (C.d i)))⟩⟩⟩
def alC:cG:=⟨.eB true [] [] (ga i aH 0 [] 0) (fY i aH),[],[]++fy i aH,⟨[],[]⟩⟩
theorem awm(i:Nat)(a:i<3)(A:Int):eP Tryz.prog 63 (N1 i) b4 [] (cA fun C=>⟨⟨none,[],ca aH 0 (C.set i (qh A (C.d i)))⟩⟩) [b A]:=by
 refine fW fun C c=>ef (alC i) (.z) True (bJ 10 aT (aj (xW i a) bI)) Tryz.func63 [] ?_ ?_ trivial
 ·rcases bV a with rfl|rfl|rfl<;>kernel_rfl
 ·rcases bV a with rfl|rfl|rfl<;>kernel_rfl
theorem azi(i:Nat)(b:i<3):fO 63 (N1 i):=
 jq (bm:=[a]) fun s c=>Eq.mp (by rcases bV b with rfl|rfl|rfl<;>kernel_rfl) (awm i b s.1)
theorem pk(i:Nat)(a:i<3):fP 63 (N1 i):=gj fV Tryz.func63 (azi i a)
def Sj:Int:=(cond d.v0 1 0)
def Sk:Int:=(cond d.v1 (i64.wrap ((Sj d)+1)) (Sj d))
def acb:Int:=(cond d.v2 (i64.wrap ((Sk d)+1)) (Sk d))
def jY:Bool:=(decide ((acb d)≥2))
def NZ:c8:=⟨[.fa 0 (33*i)],b4,eH,eu,cA fun C=>⟨⟨none,[.bool (jY (C.d i))],ca aH 0 C⟩⟩⟩
def XQ:cG:=⟨.eB true [] [] (ga i aH 0 [0] 1) (fY i aH),[.tmp 2],[(.t 0,l)]++fy i aH,⟨[],[]⟩⟩
def aqK:cb (XQ i).b1:=let c:=C.d i;(.ae (.ae (.s (.ae (.un 3 (.s (.ae (.s (.c true .z) (.j ⟨15916,[],[(.t 3,a)],[],.f⟩ .z (.bO ⟨([U,U,.lit false,b (Sj c),U,.bool c.v0,U,U,U,.agg [.bool c.v0,.bool c.v1,.bool c.v2],b 0,.bool true,.bool c.v0,.bool c.v0]++(us 5 ([]))),cd aH 0 C []⟩ .z)))) (.s (.ae (.s (.c true .z) (.j ⟨81452,[],[(.t 3,a)],[],.f⟩ .z (.bO ⟨[U,U,.lit false,b (Sk c),U,.bool c.v1,U,U,U,.agg [.bool c.v0,.bool c.v1,.bool c.v2],b 1,.bool true,.bool c.v1,.bool c.v1,U,U,b 1,U,U],cd aH 0 C []⟩ .z)))) (.s (.ae (.s (.c true .z) (.j ⟨81452,[],[(.t 3,a)],[],.f⟩ .z (.bO ⟨[U,U,.lit false,b (acb c),U,.bool c.v2,U,U,U,.agg [.bool c.v0,.bool c.v1,.bool c.v2],b 2,.bool true,.bool c.v2,.bool c.v2,U,U,b 2,U,U],cd aH 0 C []⟩ .z)))) (.ae (.s (.c false .z) .z))))))) .z)))
theorem awk(i:Nat)(a:i<3):eP Tryz.prog 61 (NZ i) b4 [] (cA fun C=>⟨⟨none,[.bool (jY (C.d i))],ca aH 0 C⟩⟩) []:=by
 refine fW fun C b=>ef (XQ i) (aqK i C) True (bJ 10 aT bI) Tryz.func61 [] ?_ ?_ trivial
 ·rcases bV a with rfl|rfl|rfl<;>kernel_rfl
 ·rcases bV a with rfl|rfl|rfl<;>kernel_rfl
theorem azg(i:Nat)(a:i<3):fO 61 (NZ i):=
 awk i a
theorem sU(i:Nat)(a:i<3):fP 61 (NZ i):=gj fV Tryz.func61 (azg i a)
def ab_:Int:=(cond (decide ((d.li.n:Int)>0)) (imax (imax d.bO d.e5) (d.li.at' (toNat (i64.wrap ((d.li.n:Int)-1)))).C) (imax d.bO d.e5))
def il:Int:=(ab_ d)
def NT:c8:=⟨[.fa 0 (33*i)],b4,eH,eu,cA fun C=>⟨⟨none,[b (il (C.d i))],ca aH 0 C⟩⟩⟩
def XN:cG:=⟨.eB true [] [] (ga i aH 0 [0] 1) (fY i aH),[.tmp 2],[(.t 0,a)]++fy i aH,⟨[],[]⟩⟩
def aqH:cb (XN i).b1:=(.ae (.ae (.j ⟨12,[],[(.t 3,a)],[],.f⟩ .z (.bO ⟨([U,U,b 0,b (ab_ (C.d i))]++(us 33 ([]))),cd aH 0 C []⟩ .z))))
def agd(i:Nat)(C:ak):Prop:=let a:=i64.wrap (((C.d i).li.n:Int)-1);((decide (((C.d i).li.n:Int)>0))=true→((0:Int)≤a∧a<(((C.d i).li.n:Nat):Int)))
theorem ayy(i:Nat)(d:i<3)(C:ak)(c:ez C):agd i C:=by
 have b:=gE c i d;unfold fw at b;exact((fun a=>(by have:=al a;have:=E (((C.d i).li.n:Int)-1);omega)))
theorem awf(i:Nat)(a:i<3):eP Tryz.prog 56 (NT i) b4 [] (cA fun C=>⟨⟨none,[b (il (C.d i))],ca aH 0 C⟩⟩) []:=by
 refine fW fun C c=>ef (XN i) (aqH i C) (agd i C) (bJ 10 aT bI) Tryz.func56 [] ?_ ?_ (ayy i a C c)
 ·rcases bV a with rfl|rfl|rfl<;>kernel_rfl
 ·rcases bV a with rfl|rfl|rfl<;>kernel_rfl
theorem azb(i:Nat)(a:i<3):fO 56 (NT i):=
 awf i a
theorem aey(i:Nat)(a:i<3):fP 56 (NT i):=gj fV Tryz.func56 (azb i a)
def apF:Int:=(cond (d.ro==2) 0 d.ro)
def apG:G hz:=(cond (d.ro==2) (Ju d).ws d.ws)
def jZ:H:={d with ro:=(apF d),ws:=(apG d)}
def N4:c8:=⟨[.fa 0 (33*i)],b4,eH,eu,cA fun C=>⟨⟨none,[],ca (aH.set (2*i) 10) 1 (C.set i (jZ (C.d i)))⟩⟩⟩
def alD:cG:=⟨.eB true [] [.own (.h 0 (33*i+29)) dd 10] (ga i (aH.set (2*i) 10) 1 [] 0) (fY i (aH.set (2*i) 10)),[],[]++fy i (aH.set (2*i) 10),⟨[],[]⟩⟩
theorem awp(i:Nat)(a:i<3):eP Tryz.prog 66 (N4 i) b4 [] (cA fun C=>⟨⟨none,[],ca (aH.set (2*i) 10) 1 (C.set i (jZ (C.d i)))⟩⟩) []:=by
 refine fW fun C b=>ef (alD i) (.z) True (bJ 10 aT (aj (qQ i a) bI)) Tryz.func66 ([.l,.l,.l]++[.f]++List.replicate 89 .l++[.f]++List.replicate 8 .l) ?_ ?_ trivial
 ·rcases bV a with rfl|rfl|rfl<;>kernel_rfl
 ·rcases bV a with rfl|rfl|rfl<;>kernel_rfl
theorem azl(i:Nat)(a:i<3):fO 66 (N4 i):=
 awp i a
theorem sY(i:Nat)(a:i<3):fP 66 (N4 i):=gj fV Tryz.func66 (azl i a)
end
section
variable(i:Nat)(ms:ah)(d:H)
def JA:G ah:=(cond (0 !=d.bh) (et 0 ms d).bw d.bw)
def Aw:H:={(et 0 ms d)with bw:=(JA ms d)}
def JB:G ah:=(cond (1 !=d.bh) (et 1 ms (Aw ms d)).bw (JA ms d))
def Ax:H:={(et 1 ms (Aw ms d))with bw:=(JB ms d)}
def St:G ah:=(cond (2 !=d.bh) (et 2 ms (Ax ms d)).bw (JB ms d))
def apQ:H:={(et 2 ms (Ax ms d))with bw:=(St ms d)}
def uF:H:={d with bw:=(St ms d)}
def N9:c8:=⟨[.fa 0 (33*i),.g [a,a,a,a,a,a,l,a,.ab dh,a,a,a,.ab bd,a,.ab bT]],b4,eH,eu,fun(b:Int) (c:Int) (j:Int) (k:Int) (m:Int) (n:Int) o (p:Int) q (r:Int) (d:Int) (e:Int) f (g:Int) h=>cA fun C=>⟨⟨none,[],ca aH 0 (C.set i (uF (⟨b,c,j,k,m,n,o,p,q,r,d,e,f,g,h⟩:ah) (C.d i)))⟩⟩⟩
def XX:cG:=⟨.eB true [] [] (ga i aH 0 [] 0) (fY i aH),[],[]++fy i aH,⟨[],[]⟩⟩
def aqR(C:ak):cb (XX i).b1:=let a:=C.d i;(.ae (.ae (.un 3 (.s (.ae (.s (.c true .z) (.j ⟨16377,[],[(.h (2*i+2) 0,.ad cw)],[],.f⟩ .z (.bO ⟨([.ptr 0 (33*i+0),U,U,.ptr 10 0,b 0,b 0,.bool true,b 0,b 0,.ptr 0 (33*i+0),.ptr 0 (33*i+0),.ptr 0 (33*i+0),b a.bh,.bool (0 !=a.bh)]++(us 5 ([]))),cd aH 1 (C.set i (Aw ms a)) [(10,(ig ms))]⟩ .z)))) (.s (.ae (.s (.c true .z) (.j ⟨278521,[],[(.h (2*i+2) 0,.ad cw)],[],.f⟩ .z (.bO ⟨[.ptr 0 (33*i+0),U,U,.ptr 10 0,b 1,b 1,.bool true,b 1,b 1,.ptr 0 (33*i+0),.ptr 0 (33*i+0),.ptr 0 (33*i+0),b a.bh,.bool (1 !=a.bh),U,U,U,U,b 1],cd aH 1 (C.set i (Ax ms a)) [(10,(ig ms))]⟩ .z)))) (.s (.ae (.s (.c true .z) (.j ⟨278521,[],[(.h (2*i+2) 0,.ad cw)],[],.f⟩ .z (.bO ⟨[.ptr 0 (33*i+0),U,U,.ptr 10 0,b 2,b 2,.bool true,b 2,b 2,.ptr 0 (33*i+0),.ptr 0 (33*i+0),.ptr 0 (33*i+0),b a.bh,.bool (2 !=a.bh),U,U,U,U,b 2],cd aH 1 (C.set i (apQ ms a)) [(10,(ig ms))]⟩ .z)))) (.ae (.s (.c false .z) .z))))))))
theorem awt(i:Nat)(a:i<3)(ms:ah):eP Tryz.prog 71 (N9 i) b4 [] (cA fun C=>⟨⟨none,[],ca aH 0 (C.set i (uF ms (C.d i)))⟩⟩) (ig ms):=by
 refine fW fun C b=>ef (XX i) (aqR i ms C) True (bJ 10 aT (aj (xW i a) bI)) Tryz.func71 [] ?_ ?_ trivial
 ·rcases bV a with rfl|rfl|rfl<;>kernel_rfl
 ·rcases bV a with rfl|rfl|rfl<;>kernel_rfl
theorem azp(i:Nat)(b:i<3):fO 71 (N9 i):=
 jq (bm:=[a,a,a,a,a,a,l,a,.ab dh,a,a,a,.ab bd,a,.ab bT]) fun s c=>Eq.mp (by rcases bV b with rfl|rfl|rfl<;>kernel_rfl) (awt i b ⟨s.1,s.2.1,s.2.2.1,s.2.2.2.1,s.2.2.2.2.1,s.2.2.2.2.2.1,s.2.2.2.2.2.2.1,s.2.2.2.2.2.2.2.1,s.2.2.2.2.2.2.2.2.1,s.2.2.2.2.2.2.2.2.2.1,s.2.2.2.2.2.2.2.2.2.2.1,s.2.2.2.2.2.2.2.2.2.2.2.1,s.2.2.2.2.2.2.2.2.2.2.2.2.1,s.2.2.2.2.2.2.2.2.2.2.2.2.2.1,s.2.2.2.2.2.2.2.2.2.2.2.2.2.2.1⟩)
theorem aeA(i:Nat)(a:i<3):fP 71 (N9 i):=gj fV Tryz.func71 (azp i a)
end
section
variable(i:Nat)(d:H)
def EN:G ah:=(cond (0==d.bh) d.bw (cond (decide ((i64.wrap (d.dX-1))<d.j)) (et 0 (⟨0,0,7,d.a6,0,0,false,0,(D:G aq),d.bX,d.gG,d.gH,d.eU,d.gI,d.eT⟩:ah) d).bw (et 0 (⟨0,0,5,d.a6,(i64.wrap (d.dX-1)),(iE d.j d.lt d.li (i64.wrap (d.dX-1))),false,d.co,(qw d.j d.lt d.li (i64.wrap (d.dX-1)) 8),0,0,0,(D:G L),0,(D:G aw)⟩:ah) d).bw))
def uH:H:=let a:=i64.wrap (d.dX-1);{(et 0 (⟨0,0,5,d.a6,a,(iE d.j d.lt d.li a),false,d.co,(qw d.j d.lt d.li a 8),0,0,0,(D:G L),0,(D:G aw)⟩:ah) d)with bw:=(EN d)}
def EO:G ah:=(cond (1==d.bh) (EN d) (cond (decide ((i64.wrap (d.dz-1))<d.j)) (et 1 (⟨0,0,7,d.a6,0,0,false,0,(D:G aq),d.bX,d.gG,d.gH,d.eU,d.gI,d.eT⟩:ah) (uH d)).bw (et 1 (⟨0,0,5,d.a6,(i64.wrap (d.dz-1)),(iE d.j d.lt d.li (i64.wrap (d.dz-1))),false,d.co,(qw d.j d.lt d.li (i64.wrap (d.dz-1)) 8),0,0,0,(D:G L),0,(D:G aw)⟩:ah) (uH d)).bw))
def uI:H:=let a:=i64.wrap (d.dz-1);{(et 1 (⟨0,0,5,d.a6,a,(iE d.j d.lt d.li a),false,d.co,(qw d.j d.lt d.li a 8),0,0,0,(D:G L),0,(D:G aw)⟩:ah) (uH d))with bw:=(EO d)}
def EP:G ah:=(cond (2==d.bh) (EO d) (cond (decide ((i64.wrap (d.dF-1))<d.j)) (et 2 (⟨0,0,7,d.a6,0,0,false,0,(D:G aq),d.bX,d.gG,d.gH,d.eU,d.gI,d.eT⟩:ah) (uI d)).bw (et 2 (⟨0,0,5,d.a6,(i64.wrap (d.dF-1)),(iE d.j d.lt d.li (i64.wrap (d.dF-1))),false,d.co,(qw d.j d.lt d.li (i64.wrap (d.dF-1)) 8),0,0,0,(D:G L),0,(D:G aw)⟩:ah) (uI d)).bw))
def apR:H:=let a:=i64.wrap (d.dF-1);{(et 2 (⟨0,0,5,d.a6,a,(iE d.j d.lt d.li a),false,d.co,(qw d.j d.lt d.li a 8),0,0,0,(D:G L),0,(D:G aw)⟩:ah) (uI d))with bw:=(EP d)}
def uG:H:={d with bw:=(EP d)}
def N_:c8:=⟨[.fa 0 (33*i)],b4,eH,eu,cA fun C=>let a:=C.d i;⟨⟨some (0≤a.dX∧a.dX≤4194304∧0≤a.dz∧a.dz≤4194304∧0≤a.dF∧a.dF≤4194304),[],ca aH 0 (C.set i (uG a))⟩⟩⟩
def XY:cG:=⟨.eB true [] [] (ga i aH 0 [] 0) (fY i aH),[],[]++fy i aH,⟨[],[]⟩⟩
def aqS(C:ak):cb (XY i).b1:=let a:=C.d i;let e:=i64.wrap (a.dF-1);let d:=i64.wrap (a.dz-1);let c:=i64.wrap (a.dX-1);(.ae (.un 3 (.s (.ae (.s (.c true .z) (.j ⟨130821,[],[(.h (2*i+2) 0,.ad cw)],[],.f⟩ (.ae (.ae (.ae (.s (.ae (.s (.s (.lG [(0,(33*i+4)),(0,(33*i+9)),(0,(33*i+10)),(0,(33*i+11)),(0,(33*i+12)),(0,(33*i+13)),(0,(33*i+14))]) (.bO ⟨([.ptr 0 (33*i+0),U,b 0,b c,U,U,U,U,b 0,.bool true,b 0,b 0,.ptr 0 (33*i+0),.ptr 0 (33*i+0),.ptr 0 (33*i+0),b a.bh,.bool (0==a.bh),.ptr 0 (33*i+0),b 0,.ptr 0 (33*i+0),.ptr 0 (33*i+23),.ptr 0 (33*i+23),b a.dX,b c,b c,.ptr 0 (33*i+0),.ptr 0 (33*i+0),.ptr 0 (33*i+6),.ptr 0 (33*i+6),b a.j,.bool (decide (c<a.j)),.ptr 0 (33*i+0),b 0,.ptr 0 (33*i+0),.ptr 0 (33*i+0),.ptr 0 (33*i+4),b a.a6,.ptr 0 (33*i+0),.ptr 0 (33*i+0),.ptr 0 (33*i+9),.agg [b a.bX,b a.gG,b a.gH,aI 8 gp a.eU,b a.gI,aI 7 gV a.eT],.agg [b 0,b 0,b 7,b a.a6,b 0,b 0,.bool false,b 0,.aA,b a.bX,b a.gG,b a.gH,aI 8 gp a.eU,b a.gI,aI 7 gV a.eT]]++(us 35 ([]))),cd aH 0 (C.set i (et 0 (⟨0,0,7,a.a6,0,0,false,0,(D:G aq),a.bX,a.gG,a.gH,a.eU,a.gI,a.eT⟩:ah) a)) []⟩ .z)) .z)) (.ae (.ae (.lG [(0,(33*i+4)),(0,(33*i+19))]))))))) (.bO ⟨([.ptr 0 (33*i+0),U,b 0]++(us 5 (([b 0,.bool true,b 0,b 0,.ptr 0 (33*i+0),.ptr 0 (33*i+0),.ptr 0 (33*i+0),b a.bh,.bool (0==a.bh)]++(us 60 ([])))))),cd aH 0 (C.set i (uH a)) []⟩ .z)))) (.s (.ae (.s (.c true .z) (.j ⟨75557863725914323549957,[],[(.h (2*i+2) 0,.ad cw)],[],.f⟩ (.ae (.ae (.ae (.s (.ae (.s (.s (.lG [(0,(33*i+4)),(0,(33*i+9)),(0,(33*i+10)),(0,(33*i+11)),(0,(33*i+12)),(0,(33*i+13)),(0,(33*i+14))]) (.bO ⟨([.ptr 0 (33*i+0),U,b 1,b d,U,U,U,U,b 1,.bool true,b 1,b 1,.ptr 0 (33*i+0),.ptr 0 (33*i+0),.ptr 0 (33*i+0),b a.bh,.bool (1==a.bh),.ptr 0 (33*i+0),b 1,.ptr 0 (33*i+0),.ptr 0 (33*i+23),.ptr 0 (33*i+24),b a.dz,b d,b d,.ptr 0 (33*i+0),.ptr 0 (33*i+0),.ptr 0 (33*i+6),.ptr 0 (33*i+6),b a.j,.bool (decide (d<a.j)),.ptr 0 (33*i+0),b 1,.ptr 0 (33*i+0),.ptr 0 (33*i+0),.ptr 0 (33*i+4),b a.a6,.ptr 0 (33*i+0),.ptr 0 (33*i+0),.ptr 0 (33*i+9),.agg [b a.bX,b a.gG,b a.gH,aI 8 gp a.eU,b a.gI,aI 7 gV a.eT],.agg [b 0,b 0,b 7,b a.a6,b 0,b 0,.bool false,b 0,.aA,b a.bX,b a.gG,b a.gH,aI 8 gp a.eU,b a.gI,aI 7 gV a.eT]]++(us 34 ([b 1]))),cd aH 0 (C.set i (et 1 (⟨0,0,7,a.a6,0,0,false,0,(D:G aq),a.bX,a.gG,a.gH,a.eU,a.gI,a.eT⟩:ah) (uH a))) []⟩ .z)) .z)) (.ae (.ae (.lG [(0,(33*i+4)),(0,(33*i+19))]))))))) (.bO ⟨([.ptr 0 (33*i+0),U,b 1]++(us 5 (([b 1,.bool true,b 1,b 1,.ptr 0 (33*i+0),.ptr 0 (33*i+0),.ptr 0 (33*i+0),b a.bh,.bool (1==a.bh)]++(us 59 ([b 1])))))),cd aH 0 (C.set i (uI a)) []⟩ .z)))) (.s (.ae (.s (.c true .z) (.j ⟨75557863725914323549957,[],[(.h (2*i+2) 0,.ad cw)],[],.f⟩ (.ae (.ae (.ae (.s (.ae (.s (.s (.lG [(0,(33*i+4)),(0,(33*i+9)),(0,(33*i+10)),(0,(33*i+11)),(0,(33*i+12)),(0,(33*i+13)),(0,(33*i+14))]) (.bO ⟨([.ptr 0 (33*i+0),U,b 2,b e,U,U,U,U,b 2,.bool true,b 2,b 2,.ptr 0 (33*i+0),.ptr 0 (33*i+0),.ptr 0 (33*i+0),b a.bh,.bool (2==a.bh),.ptr 0 (33*i+0),b 2,.ptr 0 (33*i+0),.ptr 0 (33*i+23),.ptr 0 (33*i+25),b a.dF,b e,b e,.ptr 0 (33*i+0),.ptr 0 (33*i+0),.ptr 0 (33*i+6),.ptr 0 (33*i+6),b a.j,.bool (decide (e<a.j)),.ptr 0 (33*i+0),b 2,.ptr 0 (33*i+0),.ptr 0 (33*i+0),.ptr 0 (33*i+4),b a.a6,.ptr 0 (33*i+0),.ptr 0 (33*i+0),.ptr 0 (33*i+9),.agg [b a.bX,b a.gG,b a.gH,aI 8 gp a.eU,b a.gI,aI 7 gV a.eT],.agg [b 0,b 0,b 7,b a.a6,b 0,b 0,.bool false,b 0,.aA,b a.bX,b a.gG,b a.gH,aI 8 gp a.eU,b a.gI,aI 7 gV a.eT]]++(us 34 ([b 2]))),cd aH 0 (C.set i (et 2 (⟨0,0,7,a.a6,0,0,false,0,(D:G aq),a.bX,a.gG,a.gH,a.eU,a.gI,a.eT⟩:ah) (uI a))) []⟩ .z)) .z)) (.ae (.ae (.lG [(0,(33*i+4)),(0,(33*i+19))]))))))) (.bO ⟨([.ptr 0 (33*i+0),U,b 2]++(us 5 (([b 2,.bool true,b 2,b 2,.ptr 0 (33*i+0),.ptr 0 (33*i+0),.ptr 0 (33*i+0),b a.bh,.bool (2==a.bh)]++(us 59 ([b 2])))))),cd aH 0 (C.set i (apR a)) []⟩ .z)))) (.ae (.s (.c false .z) .z)))))))
def Vz(i:Nat)(C:ak):Prop:=(((0==(C.d i).bh)=false→((decide ((i64.wrap ((C.d i).dX-1))<(C.d i).j))=false→((i64.wrap ((C.d i).dX-1))≤9223372036854775807∧ -9223372036854775808≤(i64.wrap ((C.d i).dX-1))∧(8:Int)≤9223372036854775807∧ -9223372036854775808≤(8:Int))))∧(((1==(C.d i).bh)=false→((decide ((i64.wrap ((C.d i).dz-1))<(C.d i).j))=false→((i64.wrap ((C.d i).dz-1))≤9223372036854775807∧ -9223372036854775808≤(i64.wrap ((C.d i).dz-1))∧(8:Int)≤9223372036854775807∧ -9223372036854775808≤(8:Int))))∧((2==(C.d i).bh)=false→((decide ((i64.wrap ((C.d i).dF-1))<(C.d i).j))=false→((i64.wrap ((C.d i).dF-1))≤9223372036854775807∧ -9223372036854775808≤(i64.wrap ((C.d i).dF-1))∧(8:Int)≤9223372036854775807∧ -9223372036854775808≤(8:Int))))))
theorem ayF(i:Nat)(c:i<3)(C:ak)(b:ez C)(d:0≤(C.d i).dX∧(C.d i).dX≤4194304∧0≤(C.d i).dz∧(C.d i).dz≤4194304∧0≤(C.d i).dF∧(C.d i).dF≤4194304):Vz i C:=by
 have a:=gE b i c;unfold fw at a;unfold Vz;exact have⟨l,m,n,o,p,q⟩:=d;(⟨(fun e=>(fun f=>(by have:=E ((C.d i).dX-1);omega))),⟨(fun g=>(fun h=>(by have:=E ((C.d i).dz-1);omega))),(fun j=>(fun k=>(by have:=E ((C.d i).dF-1);omega)))⟩⟩)
theorem awu(i:Nat)(a:i<3):eP Tryz.prog 72 (N_ i) b4 [] (cA fun C=>⟨⟨some (0≤(C.d i).dX∧(C.d i).dX≤4194304∧0≤(C.d i).dz∧(C.d i).dz≤4194304∧0≤(C.d i).dF∧(C.d i).dF≤4194304),[],ca aH 0 (C.set i (uG (C.d i)))⟩⟩) []:=by
 refine fW fun C b=>fun c=>ef (XY i) (aqS i C) (Vz i C) (bJ 10 (aG LL (aG avM aT)) (aj (xW i a) bI)) Tryz.func72 [] ?_ ?_ (ayF i a C b c)
 ·rcases bV a with rfl|rfl|rfl<;>kernel_rfl
 ·rcases bV a with rfl|rfl|rfl<;>kernel_rfl
theorem azq(i:Nat)(a:i<3):fO 72 (N_ i):=
 awu i a
theorem aeB(i:Nat)(a:i<3):fP 72 (N_ i):=gj fV Tryz.func72 (azq i a)
end
def acv:Int:=0
def acw:G L:=(D:G L)
def acx:Int:=1
def acy:G aw:=(D:G aw)
def Xt:ba:=⟨[],⟨⟨none,.agg [b acv,aI 8 gp acw,b acx,aI 7 gV acy]⟩⟩⟩
theorem azz:M8 41 Xt:=
 bu ⟨.pure,[.cell 0 49],[(.c 0 0,a),(.c 0 1,.ab bd),(.c 0 2,a),(.c 0 3,.ab bT)],⟨[.agg (us 4 [])],[]⟩⟩ (.z) True fb Tryz.func41 (trivial)
theorem avy:bn 41 Xt:=bq Tryz.func41 azz
def EZ:Int:=0
def E0:Int:=(-1)
def xg:Int:=0
def AH:Int:=0
def uP:Int:=acv
def uQ:G L:=acw
def uR:Int:=acx
def uS:G aw:=acy
def xh:Int:=0
def xi:Int:=0
def xf:G aq:=(D:G aq)
def Xu:ba:=⟨[],⟨⟨none,.agg [b EZ,b E0,b xg,b AH,b uP,aI 8 gp uQ,b uR,aI 7 gV uS,b xh,b xi,aI 10 dU xf]⟩⟩⟩
theorem azA:M8 30 Xu:=
 bu ⟨.pure,[.cell 0 94],[(.c 0 0,a),(.c 0 1,a),(.c 0 2,a),(.c 0 3,a),(.c 0 4,a),(.c 0 5,.ab bd),(.c 0 6,a),(.c 0 7,.ab bT),(.c 0 8,a),(.c 0 9,a),(.c 0 10,.ab dh)],⟨[.agg (us 11 [])],[]⟩⟩ (.z) True (cu (aG avy aT)) Tryz.func30 (trivial)
theorem aeE:bn 30 Xu:=bq Tryz.func30 azA
theorem amZ{A g:Int}{r:Bool}{h o c:Int}{v y p:u}{x:Int}(a:(sr A g r h o c v y p x !=0)=false):0≤g:=by
 have a:=bB a;unfold sr at a
 cases b:xq A g with
 |true=>rw[b]at a;simp at a
 |false=>
  simp [xq,rZ,jV,Dw]at b;omega
theorem loops(g:Int)(r:G aq)(y:r.n≤549755813888): ∀(m k:Nat) (i t u:Int),0≤i→i+(m:Int)=r.n→m≤k→(i=0→t=g∧u=0)→(0<i→t=(r.at' (toNat (i-1))).q∧u=(r.at' (toNat (i-1))).C∧g≤t)→
  o8 r (k+1) t u i=ss g r (k+1) i
 |0,k,i,t,u,j,v,x,_,_=>by
  have e:decide (i<(r.n:Int))=false:=by simp;omega
  simp only[o8,ss,e,aS]
 |m+1,k,i,t,u,j,v,x,A,z=>by
  obtain⟨k,rfl⟩: ∃B,k=B+1:=⟨k-1,by omega⟩;have e:decide (i<(r.n:Int))=true:=by simp;omega
  have C:i64.wrap (i+1)=i+1:=E _;have D:i64.wrap (i-1)=i-1:=E _;rw[o8,ss,e];simp only[aQ];have p:uU r t u i=(cond (l9 g r i) true (na r i)):=by
   simp only[uU,l9,na,aqa,D]
   cases s:(sr (r.at' i.toNat).q (r.at' i.toNat).C (r.at' i.toNat).z (r.at' i.toNat).I (r.at' i.toNat).w (r.at' i.toNat).m (r.at' i.toNat).N (r.at' i.toNat).ao (r.at' i.toNat).i (r.at' i.toNat).aC !=0)with
   |true=>rfl
   |false=>
    have F:=amZ s;simp only[aS]
    by_cases w:i=0
    ·obtain⟨rfl,rfl⟩:=A w;have d:decide (i>0)=false:=by simp;omega
     rw[d];have o: ¬(r.at' i.toNat).C<0:=by omega
     by_cases c:(r.at' i.toNat).q<t<;>simp [c,o]
    ·obtain⟨l,n,f⟩:=z (by omega);have d:decide (i>0)=true:=by simp;omega
     rw[d,←l,←n];simp only[aQ]
     by_cases c:(r.at' i.toNat).q<t<;>by_cases q:(r.at' i.toNat).q<g<;>simp [c,q]<;>omega
  rw[p]
  cases a:l9 g r i with
  |true=>rfl
  |false=>
   simp only[aS]
   cases H:na r i with
   |true=>rfl
   |false=>
    simp only[aS];rw[C];have f:g≤(r.at' i.toNat).q:=by
     simp only[l9]at a;generalize (sr _ _ _ _ _ _ _ _ _ _ !=0)=b at a
     cases b with
     |true=>cases a
     |false=>
      have:=hy a;omega
    refine loops g r y m k (i+1) _ _ (by omega) (by omega) (by omega) (fun h=>by omega) fun _=> ?_;rw[show i+1-1=i by omega];exact⟨rfl,rfl,f⟩
theorem acO(A g:Int)(r:G aq)(n:r.n≤549755813888)(p: -9223372036854775808≤A∧A≤9223372036854775807):cz A g r=uV A g r:=by
 have o:AO g r=AP g r:=loops g r n r.n _ 0 g 0 (cR _) (by omega) (by omega) (fun _=>⟨rfl,rfl⟩) (fun h=>by omega);have m:n5 A g r=uW A g r:=by
  simp only[n5,uW,jV,Dw]
  by_cases a:A<0
  ·have i: ¬0≤A:=by omega
   simp [a,i]
  ·have i:0≤A:=by omega
   by_cases b:g<0
   ·have j: ¬0≤g:=by omega
    simp [a,i,b,j]
   ·have j:0≤g:=by omega
    by_cases c:g>1048576
    ·have k: ¬g≤1048576:=by omega
     simp [a,b,c,k,i,j]
    ·have k:g≤1048576:=by omega
     by_cases d:(r.n:Int)>200
     ·simp [a,i,b,j,c,k,d]
     ·rw[E (1048576- (r.n:Int))]
      by_cases e:A≤1048576
      ·rw[E (A+(r.n:Int))]
       by_cases f:A>1048576- (r.n:Int)
       ·have l:A+(r.n:Int)>1048576:=by omega
        simp [a,i,b,j,c,k,d,e,f,l]
       ·have l: ¬A+(r.n:Int)>1048576:=by omega
        simp [a,i,b,j,c,k,d,e,f,l]
      ·have f:A>1048576- (r.n:Int):=by omega
       simp [a,i,b,j,c,k,d,e,f]
 simp only[cz,uV,Kk,Km,m,o]
section
variable(A:Int)(g:Int)(r:Int)(h:Int)(o:Int)(c:Int)(v:u)(y:u)(p:u)(x:Int)
def aaK:Bool:=(cond (A==6) (A==6) (cond (A==7) (A==7) (A==8)))
def aaL:Bool:=(cond (A==5) (A==5) (A==9))
def l0:Bool:=(cond (aaK A) false (cond (aaL A) true (cond (A==12) false true)))
def l1:Bool:=(cond (aaK A) true (cond (aaL A) true false))
def ai5:ba:=⟨[.v a],fun A=>⟨⟨none,.c7 [.bool (l0 A),.bool (l1 A)]⟩⟩⟩
theorem aua:bn 40 ai5:=bq Tryz.func40
 fun(A:Int)=>bu (ms:=[.f,(.b .f (.b .f .l))]) ⟨.pure,[.tmp 2,.tmp 3],[(.t 0,l),(.t 1,l)],⟨[U,U],[]⟩⟩ (.ae (.s (.ae (.j ⟨60,[],[(.t 5,l)],[],.f⟩ .z (.ae (.j ⟨540,[],[(.t 9,l)],[],.f⟩ .z .z)))) .z)) True fb Tryz.func40 (trivial)
def E5:Bool:=(cond (decide (A<1)) true (decide (A>12)))
def AQ:Bool:=(cond (l0 A) (cond (decide (g<0)) true (cond (decide (g≥3)) true (cond (l1 A) (cond (decide (r<0)) true (decide (r>400000))) false))) (cond (l1 A) (cond (decide (r<0)) true (decide (r>400000))) false))
def xt:Bool:=(cond (!(l0 A)) (cond (g !=0) true (cond (!(l1 A)) (cond (r !=0) true (cond (A !=1) (!((h==0)&&((o==0)&&((c==0)&&(((v:u).toList==(⟨#[]⟩:u).toList)&&(((y:u).toList==(⟨#[]⟩:u).toList)&&(((p:u).toList==(⟨#[]⟩:u).toList)&&((x==0)&&true)))))))) false)) (cond (A !=1) (!((h==0)&&((o==0)&&((c==0)&&(((v:u).toList==(⟨#[]⟩:u).toList)&&(((y:u).toList==(⟨#[]⟩:u).toList)&&(((p:u).toList==(⟨#[]⟩:u).toList)&&((x==0)&&true)))))))) false))) (cond (!(l1 A)) (cond (r !=0) true (cond (A !=1) (!((h==0)&&((o==0)&&((c==0)&&(((v:u).toList==(⟨#[]⟩:u).toList)&&(((y:u).toList==(⟨#[]⟩:u).toList)&&(((p:u).toList==(⟨#[]⟩:u).toList)&&((x==0)&&true)))))))) false)) (cond (A !=1) (!((h==0)&&((o==0)&&((c==0)&&(((v:u).toList==(⟨#[]⟩:u).toList)&&(((y:u).toList==(⟨#[]⟩:u).toList)&&(((p:u).toList==(⟨#[]⟩:u).toList)&&((x==0)&&true)))))))) false)))
def n6:Int:=(cond (E5 A) 3 (cond (AQ A g r) 2 (cond (xt A g r h o c v y p x) 8 (cond (A==1) (hd h o c v y p x) 0))))
def ak9:ba:=⟨[.g [a,a,a,a,a,a,ai,ai,ai,a]],fun A g r h o c v y p x=>⟨⟨none,b (n6 A g r h o c v y p x)⟩⟩⟩
theorem avL:bn 28 ak9:=bq Tryz.func28
 fun(A:Int) (g:Int) (r:Int) (h:Int) (o:Int) (c:Int) v _ y _ p _ (x:Int)=>bu ⟨.pure,[.tmp 2],[(.t 0,a)],⟨[U],[]⟩⟩ (.ae (.s (.j ⟨4102,[],[(.t 12,l)],[],.f⟩ .z .z) (.ae (.s (.j ⟨524318,[],[(.t 19,l)],[],.f⟩ .z (.ae (.j ⟨17592186044422,[],[(.t 44,l)],[],.f⟩ .z .z))) .z)))) True (cu (aG Uk (aG aua aT))) Tryz.func28 (trivial)
end
section
def wP(A:Int):Int:=A
def R2:Bool:=false
def Eo:Int:=0
def wZ:Int:=0
def Es(g:Int):Int:=g
def Et(r:Int):Int:=r
def Eu(x:Int):Int:=x
def Ev(R:Int):Int:=R
def Ew(bz:G aq):G aq:=bz
variable(h:Int)(c:Int)(v:G L)(y:Int)(p:G aw)
def Ey:Int:=h
def Ee(o:Int):Int:=o
def Ef:Int:=c
def Eg:G L:=v
def Eh:Int:=y
def Ei:G aw:=p
def Ej:Int:=c
def Ek:G L:=v
def El:Int:=y
def Em:G aw:=p
def En:Int:=h
def wQ:Bool:=false
def wR:Bool:=false
def wS:Bool:=false
def wT:Int:=0
def wU:Int:=0
def wV:Int:=0
def wW:Int:=0
def wX:Int:=0
def wY:Int:=0
def Ep:G Int:=(D:G Int)
def Er:Int:=0
def akG:ba:=⟨[.v a,.g [a,a,a,a,a,.ab bd,a,.ab bT,a,a,.ab dh]],fun A g r h o c v y p x R bz=>⟨⟨none,.agg [b (wP A),.bool R2,b Eo,b wZ,b (Es g),b (Et r),b (Eu x),b (Ev R),aI 10 dU (Ew bz),b (Ey h),b (Ee o),b (Ef c),aI 8 gp (Eg v),b (Eh y),aI 7 gV (Ei p),b (Ej c),aI 8 gp (Ek v),b (El y),aI 7 gV (Em p),b (En h),.bool wQ,.bool wR,.bool wS,b wT,b wU,b wV,b wW,b wX,b wY,.aA,aI 1 cN Ep,b Er,.aA]⟩⟩⟩
theorem aet:bn 29 akG:=bq Tryz.func29
 fun(A:Int) (g:Int) (r:Int) (h:Int) (o:Int) (c:Int) v _ _ (y:Int) p _ _ (x:Int) (R:Int) bz _ _=>bu ⟨.pure,[.cell 4 88],[(.c 0 0,a),(.c 0 1,l),(.c 0 2,a),(.c 0 3,a),(.c 0 4,a),(.c 0 5,a),(.c 0 6,a),(.c 0 7,a),(.c 0 8,.ab dh),(.c 0 9,a),(.c 0 10,a),(.c 0 11,a),(.c 0 12,.ab bd),(.c 0 13,a),(.c 0 14,.ab bT),(.c 0 15,a),(.c 0 16,.ab bd),(.c 0 17,a),(.c 0 18,.ab bT),(.c 0 19,a),(.c 0 20,l),(.c 0 21,l),(.c 0 22,l),(.c 0 23,a),(.c 0 24,a),(.c 0 25,a),(.c 0 26,a),(.c 0 27,a),(.c 0 28,a),(.c 0 30,.ab a5),(.c 0 31,a)],⟨[.agg [U,U,U,U,U,U,U,U,U,U,U,U,U,U,U,U,U,U,U,U,U,U,U,U,U,U,U,U,U,.aA,U,U,.aA]],[]⟩⟩ (.z) True fb Tryz.func29 (trivial)
end
end Go.Proofs.YtfmgjpcmcjjoiaaGreatDoor
namespace Go.Proofs.YtfmgjpcmcjjoiaaGreatDoor
open Go Go.Proofs Go.RowKit Go.Shelf Go.af
abbrev akK:b0:=wb cw
theorem aev:iR Tryz.prog 43 akK.gR:=zf (E:=cw) (z:=(.agg #[.int .i64 0,.int .i64 0,.int .i64 0,.int .i64 0,.int .i64 0,.int .i64 0,.bool false,.int .i64 0,.slice none 0 0,.int .i64 0,.int .i64 0,.int .i64 0,.slice none 0 0,.int .i64 0,.slice none 0 0])) (ze (ρ:=zd 43 86 117) (b:=168) mixed ⟨ "slices.Delete[[]rostrum/api.Message,rostrum/api.Message]",by kernel_rfl,by kernel_rfl⟩ (by kernel_rfl) (by kernel_rfl)) ⟨_,_,Tryz.func43,rfl,by kernel_rfl⟩ (rf rfl (by kernel_rfl))
end Go.Proofs.YtfmgjpcmcjjoiaaGreatDoor
namespace Go.Proofs.YtfmgjpcmcjjoiaaGreatDoor
open Go Go.RowKit Go.af
def qd(A:Int)(r:Int):Int:=(i64.wrap (A-r))
def akI:ba:=⟨[.g [a,a],.g [a,a]],fun A _ r _=>⟨⟨none,b (qd A r)⟩⟩⟩
theorem aeu:bn 34 akI:=bq Tryz.func34
 fun(A:Int) (g:Int) (r:Int) (h:Int)=>bu ⟨.pure,[.tmp 4],[(.t 0,a)],⟨[U],[]⟩⟩ (.z) True fb Tryz.func34 (trivial)
theorem G.zb{α:Type}{s:G α}{n:Nat}(h:s.n=n):G.cut s n=s:=by subst h;rfl
theorem half{x:Int}(a:0≤x)(b:x≤4611686018427387904):i64.wrap (u64.wrap (i64.wrap x)/2^(toNat 1))=x/2:=by
 have e:(2:Int)^(toNat 1)=2:=rfl;rw[e,E x];have u:u64.wrap x=x%18446744073709551616:=rfl;rw[u,E (x%18446744073709551616/2)];omega
end Go.Proofs.YtfmgjpcmcjjoiaaGreatDoor
