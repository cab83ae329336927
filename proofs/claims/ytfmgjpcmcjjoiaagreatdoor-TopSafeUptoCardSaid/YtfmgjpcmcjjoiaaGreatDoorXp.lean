import Derived.Test.YtfmgjpcmcjjoiaaGreatDoorXn
open Go.IntKind (i64 u64 u8)
open Int (toNat)
set_option maxRecDepth 100000
set_option maxHeartbeats 4000000
set_option linter.all false
noncomputable section
namespace Go.Proofs.YtfmgjpcmcjjoiaaGreatDoor
open Go Go.RowKit Go.af
section
variable(i:Nat)(it:aq)(d:H)
def EF:G Int:=(cond ((hI d.j d.lt d.li (b7 d) (gq d) (G.lit ([it]:List aq)))!=0) d.aX (cond (!(im d.j d.lt d.li (b7 d) (gq d) (G.lit ([it]:List aq)))) d.aX (cond ((dp d.j d.lt d.li (b7 d) (gq d) (G.lit ([it]:List aq)))==0) d.aX (fr (⟨2,0,0,(i64.wrap ((b7 d)+1)),it.q,it.C,it.z,it.I,it.w,it.m,it.N,it.ao,it.i,it.aC,0,0,0,(D:G L),0,(D:G aw)⟩:bo) d).aX)))
def Sg:Int:=(cond ((hI d.j d.lt d.li (b7 d) (gq d) (G.lit ([it]:List aq)))!=0) d.bc (cond (!(im d.j d.lt d.li (b7 d) (gq d) (G.lit ([it]:List aq)))) d.bc (cond ((dp d.j d.lt d.li (b7 d) (gq d) (G.lit ([it]:List aq)))==0) d.bc (fr (⟨2,0,0,(i64.wrap ((b7 d)+1)),it.q,it.C,it.z,it.I,it.w,it.m,it.N,it.ao,it.i,it.aC,0,0,0,(D:G L),0,(D:G aw)⟩:bo) d).bc)))
def sg:Bool:=(cond ((hI d.j d.lt d.li (b7 d) (gq d) (G.lit ([it]:List aq)))!=0) true (cond (!(im d.j d.lt d.li (b7 d) (gq d) (G.lit ([it]:List aq)))) true (cond ((dp d.j d.lt d.li (b7 d) (gq d) (G.lit ([it]:List aq)))==0) true (!(gD (⟨2,0,0,(i64.wrap ((b7 d)+1)),it.q,it.C,it.z,it.I,it.w,it.m,it.N,it.ao,it.i,it.aC,0,0,0,(D:G L),0,(D:G aw)⟩:bo) d)))))
def apE:H:={(fr (⟨2,0,0,(i64.wrap ((b7 d)+1)),it.q,it.C,it.z,it.I,it.w,it.m,it.N,it.ao,it.i,it.aC,0,0,0,(D:G L),0,(D:G aw)⟩:bo) d)with aX:=(EF it d),bc:=(Sg it d)}
def sh:Bool:=(cond (sg it d) false true)
def Ao:Int:=(cond (sg it d) d.j (b9 d.j d.lt d.li (b7 d) (gq d) (G.lit ([it]:List aq))))
def ab9:Int:=(cond (sg it d) d.lt (sA d.j d.lt d.li (b7 d) (gq d) (G.lit ([it]:List aq))))
def Ap:G aq:=(cond (sg it d) d.li (bZ d.j d.lt d.li (b7 d) (gq d) (G.lit ([it]:List aq))))
def ik:H:={d with j:=(Ao it d),lt:=(ab9 it d),li:=(Ap it d),aX:=(EF it d),bc:=(Sg it d)}
def NS:c8:=⟨[.fa 0 (33*i),.g [a,a,l,a,a,a,ai,ai,ai,a]],b4,eH,eu,fun(b:Int) (c:Int) d (e:Int) (f:Int) (g:Int) h j k (m:Int)=>cA fun C=>⟨⟨some (kS (⟨b,c,d,e,f,g,h,j,k,m⟩:aq)),[.bool (sh (⟨b,c,d,e,f,g,h,j,k,m⟩:aq) (C.d i))],ca aH 0 (C.set i (ik (⟨b,c,d,e,f,g,h,j,k,m⟩:aq) (C.d i)))⟩⟩⟩
def XM:cG:=⟨.eB true [] [] (ga i aH 0 [0] 1) (fY i aH),[.tmp 4],[(.t 0,l)]++fy i aH,⟨[],[]⟩⟩
def aqG(C:ak):cb (XM i).b1:=let e:=G.lit ([it]:List aq);let c:=C.d i;let f:=gq c;let d:=b7 c;let j:=bZ c.j c.lt c.li d f e;let h:=sA c.j c.lt c.li d f e;let g:=b9 c.j c.lt c.li d f e;(.ae (.ae (.bO ⟨([.ptr 0 (33*i+0),U,U,.ptr 10 0,.lit false,b d]++(us 48 ([]))),cd aH 1 C [(10,[b it.q,b it.C,.bool it.z,b it.I,b it.w,b it.m,.str it.N,.str it.ao,.str it.i,b it.aC])]⟩ (.s (.lG [(0,(33*i+6)),(0,(33*i+7)),(0,(33*i+8))]) (.bO ⟨([.ptr 0 (33*i+0),U,U,.ptr 10 0,.lit false,b d,U,.ptr 12 0,.bool (im c.j c.lt c.li d f e),b (dp c.j c.lt c.li d f e),b (hI c.j c.lt c.li d f e)]++(us 43 ([]))),cd aH 3 C [(10,[b it.q,b it.C,.bool it.z,b it.I,b it.w,b it.m,.str it.N,.str it.ao,.str it.i,b it.aC]),(11,[.ad true 10 1 fun q=>dU (G.at' e q)]),(12,[b g,b h,aI 10 dU j])]⟩ (.s (.j ⟨562949953421457,[.b 10,.b 11],[(.h 0 (33*i+30),.ab a5),(.h 0 (33*i+31),a),(.t 49,l)],[],.f⟩ .z (.bO ⟨([.ptr 0 (33*i+0),U,U,U,.lit false,U,U,.ptr 12 0]++(us 41 ([.bool (sg it c),U,U,U,U]))),cd aH 3 (C.set i (apE it c)) [(12,[b g,b h,aI 10 dU j])]⟩ .z)) .z))))))
def Vs(i:Nat)(it:aq)(C:ak):Prop:=(((hI (C.d i).j (C.d i).lt (C.d i).li (b7 (C.d i)) (gq (C.d i)) (G.lit ([it]:List aq)))!=0)=false→((!(im (C.d i).j (C.d i).lt (C.d i).li (b7 (C.d i)) (gq (C.d i)) (G.lit ([it]:List aq))))=false→(((dp (C.d i).j (C.d i).lt (C.d i).li (b7 (C.d i)) (gq (C.d i)) (G.lit ([it]:List aq)))==0)=false→(oE (⟨2,0,0,(i64.wrap ((b7 (C.d i))+1)),it.q,it.C,it.z,it.I,it.w,it.m,it.N,it.ao,it.i,it.aC,0,0,0,(D:G L),0,(D:G aw)⟩:bo)))))
theorem ayx(i:Nat)(c:i<3)(it:aq)(C:ak)(b:ez C)(h:it.N.size≤549755813888)(j:it.ao.size≤549755813888)(k:it.i.size≤549755813888)(g:kS it):Vs i it C:=by
 have a:=gE b i c;unfold fw at a;unfold Vs;exact((fun d=>(fun e=>(fun f=>(by repeat first|assumption|apply te)))))
theorem awe(i:Nat)(a:i<3)(it:aq)(e:it.N.size≤549755813888)(f:it.ao.size≤549755813888)(g:it.i.size≤549755813888):eP Tryz.prog 55 (NS i) b4 [] (cA fun C=>⟨⟨some (kS it),[.bool (sh it (C.d i))],ca aH 0 (C.set i (ik it (C.d i)))⟩⟩) [b it.q,b it.C,.bool it.z,b it.I,b it.w,b it.m,.str it.N,.str it.ao,.str it.i,b it.aC]:=by
 refine fW fun C c=>fun d=>ef (XM i) (aqG i it C) (Vs i it C) (bJ 10 (aG aeI aT) (aj (xV i a) (aj (avu i a) (aj (FQ i a) bI)))) Tryz.func55 ([.f]++List.replicate 6 .l++[.f,.f,.f]++List.replicate 93 .l) ?_ ?_ (ayx i a it C c e f g d)
 ·rcases bV a with rfl|rfl|rfl<;>kernel_rfl
 ·rcases bV a with rfl|rfl|rfl<;>kernel_rfl
theorem aza(i:Nat)(c:i<3):fO 55 (NS i):=
 jq (bm:=[a,a,l,a,a,a,ai,ai,ai,a]) fun s b=>Eq.mp (by rcases bV c with rfl|rfl|rfl<;>kernel_rfl) (awe i c ⟨s.1,s.2.1,s.2.2.1,s.2.2.2.1,s.2.2.2.2.1,s.2.2.2.2.2.1,s.2.2.2.2.2.2.1,s.2.2.2.2.2.2.2.1,s.2.2.2.2.2.2.2.2.1,s.2.2.2.2.2.2.2.2.2.1⟩ (b.2.2.2.2.2.2.1 rfl) (b.2.2.2.2.2.2.2.1 rfl) (b.2.2.2.2.2.2.2.2.1 rfl))
theorem aex(i:Nat)(a:i<3):fP 55 (NS i):=gj fV Tryz.func55 (aza i a)
end
section
variable(i:Nat)(C:ak)(d:H)(F:G ah)(O:G bF)(ar:G aM)(e:Int)
def apV:Bool:=(cond (0 !=d.bh) true false)
def acr:Bool:=(cond (0 !=d.bh) (decide (d.g1≥e)) false)
def JI:Int:=(cond (acr d e) 2 1)
def apW:Bool:=(cond (1 !=d.bh) true false)
def acs:Bool:=(cond (1 !=d.bh) (decide (d.q1≥e)) false)
def JJ:Int:=(cond (acs d e) (i64.wrap ((JI d e)+1)) (JI d e))
def SC:Bool:=(cond (2 !=d.bh) true false)
def acu:Bool:=(cond (2 !=d.bh) (decide (d.fh≥e)) false)
def SD:Int:=(cond (acu d e) (i64.wrap ((JJ d e)+1)) (JJ d e))
def acq:Bool:=(cond (decide ((SD d e)≥2)) true false)
def sn:Bool:=(cond (decide ((SD d e)≥2)) ((iE d.j d.lt d.li e)==d.a6) false)
def k4(d:H)(F:G ah)(O:G bF)(ar:G aM):Nat→Int→Bool×ru
 |0,_=>default
 |k+1,e=>(cond (decide (e>d.co)) (cond (sn d e) (true,(yA (o6 e d O) F (xb e d O) ar)) (k4 d F O ar k (i64.wrap (e-1)))) (false,default))
def n2:Bool×ru:=k4 d F O ar ((toNat ((b7 d)-d.co))+1) (b7 d)
def m_:H:=(H.bif (n2 d F O ar).1 (Bt (n2 d F O ar).2) d)
def xc:G ah:=(cond (n2 d F O ar).1 (aeP (n2 d F O ar).2) F)
def xe:G bF:=(cond (n2 d F O ar).1 (aeT (n2 d F O ar).2) O)
def xd:G aM:=(cond (n2 d F O ar).1 (aeS (n2 d F O ar).2) ar)
def Oh:c8:=⟨[.p 0,.fa 0 (33*i)],b4,eH,eu,cA fun C=>let a:=C.d i;⟨⟨some (C.told.n≤541000000000∧a.ws.n≤3000∧0≤a.j∧a.j≤a.co∧a.co≤4194304∧a.j+(a.li.n:Int)≤4194304∧a.li.n≤200),[],ca aH 0 (C.put i (m_ a C.ag C.told C.a8) (xc a C.ag C.told C.a8) (xe a C.ag C.told C.a8) (xd a C.ag C.told C.a8))⟩⟩⟩
def X3:cG:=⟨.eB true [] [] (yw i aH 0 [] 0 C) (x0 i aH),[],[]++v5 i aH,⟨[],[]⟩⟩
def aqX:cb (X3 i C).b1:=let c:=C.d i;(.ae (.bO ⟨([.ptr 0 0,.ptr 0 (33*i+0),U,U,b (b7 c)]++(us 65 ([]))),cd aH 0 C []⟩ (.ae (.x3 ⟨67,[],[],[(.t 6,a)],some 0,true,0,[],[],fun k (s:Int)=>k4 c C.ag C.told C.a8 k s,.f,fun(s:Int)=>(s≤c.j+(c.li.n:Int)),fun(s:Int)=>(toNat (s-c.co)),none⟩ (fun(d:Int)=>let o:=sv c.j c.lt c.li d;let h:=acu c d;let f:=decide (d>c.co);let g:=iE c.j c.lt c.li d;let e:=SD c d;let n:=us 8 (([b d,.ptr 0 (33*i+0),.ptr 0 (33*i+0),.ptr 0 (33*i+19),b c.co,.bool f,U,U,b 0,.bool true,b 0,b 0,.ptr 0 (33*i+0),.ptr 0 (33*i+0),.ptr 0 (33*i+0),b c.bh,.bool (0 !=c.bh),.bool (apV c)]++(us 8 (([.bool (acr c d)]++(us 26 ([])))))));let m:=us 8 (([b d,.ptr 0 (33*i+0),.ptr 0 (33*i+0),.ptr 0 (33*i+19),b c.co,.bool f,U,U,b 2,.bool true,b 2,b 2,.ptr 0 (33*i+0),.ptr 0 (33*i+0),.ptr 0 (33*i+0),b c.bh,.bool (2 !=c.bh),.bool (SC c)]++(us 8 (([.bool h,U,U,b 2]++(us 23 ([])))))));let j:=us 8 (([b d,.ptr 0 (33*i+0),.ptr 0 (33*i+0),.ptr 0 (33*i+19),b c.co,.bool f,U,U,b 1,.bool true,b 1,b 1,.ptr 0 (33*i+0),.ptr 0 (33*i+0),.ptr 0 (33*i+0),b c.bh,.bool (1 !=c.bh),.bool (apW c)]++(us 8 (([.bool (acs c d),U,U,b 1]++(us 23 ([])))))));(.ae (.s (.ae (.s (.ae (.un 3 (.s (.ae (.s (.c true .z) (.j ⟨8830427464131,[],[(.t 7,a)],[],.f⟩ (.ae (.j ⟨8830427464131,[],[(.t 34,l),(.t 43,l)],[],.f⟩ .z (.bO ⟨([.ptr 0 0,.ptr 0 (33*i+0),U,U,U,U,b d,b 1,b 0]++n),cd aH 0 C []⟩ .z))) (.bO ⟨([.ptr 0 0,.ptr 0 (33*i+0),U,U,U,U,b d,b (JI c d),b 0]++n),cd aH 0 C []⟩ .z)))) (.s (.ae (.s (.c true .z) (.j ⟨79199171641795,[],[(.t 7,a)],[],.f⟩ (.ae (.j ⟨79199171641795,[],[(.t 34,l),(.t 43,l)],[],.f⟩ .z (.bO ⟨([.ptr 0 0,.ptr 0 (33*i+0),U,U,U,U,b d,b (JI c d),b 1]++j),cd aH 0 C []⟩ .z))) (.bO ⟨([.ptr 0 0,.ptr 0 (33*i+0),U,U,U,U,b d,b (JJ c d),b 1]++j),cd aH 0 C []⟩ .z)))) (.s (.ae (.s (.c true .z) (.j ⟨79199171641795,[],[(.t 7,a)],[],.f⟩ (.ae (.j ⟨79199171641795,[],[(.t 34,l),(.t 43,l)],[],.f⟩ .z (.bO ⟨([.ptr 0 0,.ptr 0 (33*i+0),U,U,U,U,b d,b (JJ c d),b 2]++m),cd aH 0 C []⟩ .z))) (.bO ⟨([.ptr 0 0,.ptr 0 (33*i+0),U,U,U,U,b d,b e,b 2]++m),cd aH 0 C []⟩ .z)))) (.ae (.s (.c false .z) .z))))))) (.ae (.j ⟨37460739424662717379,[],[(.t 58,l),(.t 65,l)],[],.f⟩ .z (.bO ⟨([.ptr 0 0,.ptr 0 (33*i+0),U,U,U,U,b d,b e,b 2,b g]++(us 7 (([b d,.ptr 0 (33*i+0),.ptr 0 (33*i+0),.ptr 0 (33*i+19),b c.co,.bool f,U,U,b 3,.bool false,b 2,b 2,.ptr 0 (33*i+0),.ptr 0 (33*i+0),.ptr 0 (33*i+0),b c.bh,.bool (2 !=c.bh),.bool (SC c)]++(us 8 (([.bool h,U,U,b 3,U,.ptr 0 (33*i+0),.ptr 0 (33*i+0),.ptr 0 (33*i+6),.agg [b c.j,b c.lt,aI 10 dU c.li],b d,U,b g,b o,b e,.bool (decide (e≥2)),.bool (acq c d)]++(us 6 ([.bool (sn c d),U,U,U,U]))))))))),cd aH 0 C []⟩ (.s (.ae (.bO ⟨([.ptr 0 0,.ptr 0 (33*i+0),U,U,U,U,b d,b e,b 2,b g]++(us 7 (([b d,.ptr 0 (33*i+0),.ptr 0 (33*i+0),.ptr 0 (33*i+19),b c.co,.bool f,U,U,b 3,.bool false,b 2,b 2,.ptr 0 (33*i+0),.ptr 0 (33*i+0),.ptr 0 (33*i+0),b c.bh,.bool (2 !=c.bh),.bool (SC c)]++(us 8 (([.bool h,U,U,b 3,U,.ptr 0 (33*i+0),.ptr 0 (33*i+0),.ptr 0 (33*i+6),.agg [b c.j,b c.lt,aI 10 dU c.li],b d,U,b g,b o,b e,.bool (decide (e≥2)),.bool (acq c d)]++(us 6 ([.bool (sn c d),.ptr 0 0,.ptr 0 (33*i+0),b d,U]))))))))),cd aH 0 (C.put i (o6 d c C.told) C.ag (xb d c C.told) C.a8) []⟩ .z)) .z)))))) .z)))))))
def VF(i:Nat)(C:ak):Prop:=((((b7 (C.d i))≤(C.d i).j+((C.d i).li.n:Int)))∧(∀(e:Int),(e≤(C.d i).j+((C.d i).li.n:Int))→(((decide (e>(C.d i).co))=true→((sn (C.d i) e)=true→(C.told.n≤541000000000∧(C.d i).ws.n≤3000∧0≤(C.d i).j∧(C.d i).j≤(C.d i).co∧(C.d i).co≤4194304∧e≤(C.d i).j+((C.d i).li.n:Int)∧(C.d i).li.n≤200)))∧((decide (e>(C.d i).co))=true→((sn (C.d i) e)=false→(((i64.wrap (e-1))≤(C.d i).j+((C.d i).li.n:Int))∧(toNat ((i64.wrap (e-1))- (C.d i).co))<(toNat (e- (C.d i).co))))))))
theorem ayM(i:Nat)(f:i<3)(C:ak)(d:ez C)(g:C.told.n≤541000000000∧(C.d i).ws.n≤3000∧0≤(C.d i).j∧(C.d i).j≤(C.d i).co∧(C.d i).co≤4194304∧(C.d i).j+((C.d i).li.n:Int)≤4194304∧(C.d i).li.n≤200):VF i C:=by
 have c:=gE d i f;unfold fw at c;unfold VF;exact have⟨l,m,n,o,p,q,r⟩:=g;have:=HC (C.d i) (by omega);(⟨(by omega),(fun e k=>⟨(fun h=>(fun j=>(by omega))),(fun a=>(fun b=>(by have:=al a;have:=b;simp [sn]at this;first|omega|(have:=E (e-1);omega))))⟩)⟩)
theorem awC(i:Nat)(a:i<3):eP Tryz.prog 93 (Oh i) b4 [] (cA fun C=>⟨⟨some (C.told.n≤541000000000∧(C.d i).ws.n≤3000∧0≤(C.d i).j∧(C.d i).j≤(C.d i).co∧(C.d i).co≤4194304∧(C.d i).j+((C.d i).li.n:Int)≤4194304∧(C.d i).li.n≤200),[],ca aH 0 (C.put i (m_ (C.d i) C.ag C.told C.a8) (xc (C.d i) C.ag C.told C.a8) (xe (C.d i) C.ag C.told C.a8) (xd (C.d i) C.ag C.told C.a8))⟩⟩) []:=by
 refine fW fun C b=>fun c=>ef (X3 i C) (aqX i C) (VF i C) (bJ 10 (aG LL aT) (aj (xV i a) (aj (aeD i a) bI))) Tryz.func93 [] ?_ ?_ (ayM i a C b c)
 ·rcases bV a with rfl|rfl|rfl<;>kernel_rfl
 ·rcases bV a with rfl|rfl|rfl<;>kernel_rfl
theorem azy(i:Nat)(a:i<3):fO 93 (Oh i):=
 awC i a
theorem avv(i:Nat)(a:i<3):fP 93 (Oh i):=gj fV Tryz.func93 (azy i a)
end
section
variable(i:Nat)(j:Nat)(ms:ah)(d:H)(F:G ah)(O:G bF)(ar:G aM)
def w9:H:=(H.aA6 j (imax (H.aqo j d) (i64.wrap (ms.w+1))) (imax (H.acX j d) ms.w) d)
def Ss:H:=(H.sp j (i64.wrap ((imax (H.acX j d) ms.w)+1)) d)
def Jz:H:=(H.bif ms.N (m_ (w9 j ms d) F O ar) (Ss j ms d))
def Sp:G ah:=(cond ms.N (xc (w9 j ms d) F O ar) F)
def Sr:G bF:=(cond ms.N (xe (w9 j ms d) F O ar) O)
def Sq:G aM:=(cond ms.N (xd (w9 j ms d) F O ar) ar)
def N8:c8:=⟨[.p 0,.fa 0 (33*i),.g [a,a,a,a,a,a,l,a,.ab dh,a,a,a,.ab bd,a,.ab bT]],b4,eH,eu,fun(c:Int) (d:Int) (m:Int) (n:Int) (o:Int) (p:Int) q (r:Int) s (t:Int) (e:Int) (f:Int) g (h:Int) k=>cA fun C=>let b:=C.d i;⟨⟨some (C.told.n≤541000000000∧b.ws.n≤3000∧0≤b.j∧b.j≤b.co∧b.co≤4194304∧b.j+(b.li.n:Int)≤4194304∧b.li.n≤200),[],ca aH 0 (C.put i (Jz j (⟨c,d,m,n,o,p,q,r,s,t,e,f,g,h,k⟩:ah) b C.ag C.told C.a8) (Sp j (⟨c,d,m,n,o,p,q,r,s,t,e,f,g,h,k⟩:ah) b C.ag C.told C.a8) (Sr j (⟨c,d,m,n,o,p,q,r,s,t,e,f,g,h,k⟩:ah) b C.ag C.told C.a8) (Sq j (⟨c,d,m,n,o,p,q,r,s,t,e,f,g,h,k⟩:ah) b C.ag C.told C.a8))⟩⟩⟩
def XW:cG:=⟨.eB true [] [] (ga i aH 0 [] 0) (fY i aH),[],[]++fy i aH,⟨[],[]⟩⟩
def aqQ(C:ak):cb (XW i).b1:=let a:=w9 j ms (C.d i);(.ae (.s (.ae (.s (.ae (.ae (.ae (.bO ⟨([U,.ptr 0 (33*i+0),U,U,U,.ptr 10 0]++(us 55 ([]))),cd aH 1 (C.put i (m_ a C.ag C.told C.a8) (xc a C.ag C.told C.a8) (xe a C.ag C.told C.a8) (xd a C.ag C.told C.a8)) [(10,(iN (j:Int) ms.C ms))]⟩ .z)))) .z)) .z))
def Vy(i:Nat)(j:Nat)(ms:ah)(C:ak):Prop:=(ms.N=true→(C.told.n≤541000000000∧(C.d i).ws.n≤3000∧0≤(C.d i).j∧(C.d i).j≤(C.d i).co∧(C.d i).co≤4194304∧(C.d i).j+((C.d i).li.n:Int)≤4194304∧(C.d i).li.n≤200))
theorem ayE(i:Nat)(c:i<3)(j:Nat)(f:j<3)(ms:ah)(C:ak)(b:ez C)(r:ms.i.n≤549755813888)(p:ms.bN.n≤549755813888)(q:ms.aY.n≤549755813888)(d:C.told.n≤541000000000∧(C.d i).ws.n≤3000∧0≤(C.d i).j∧(C.d i).j≤(C.d i).co∧(C.d i).co≤4194304∧(C.d i).j+((C.d i).li.n:Int)≤4194304∧(C.d i).li.n≤200):Vy i j ms C:=by
 have a:=gE b i c;unfold fw at a;unfold Vy;exact have⟨g,h,k,l,m,n,o⟩:=d;((fun e=>(by omega)))
theorem Ur(i:Nat)(a:i<3)(j:Nat)(b:j<3)(ms:ah)(g:ms.i.n≤549755813888)(e:ms.bN.n≤549755813888)(f:ms.aY.n≤549755813888)(C:ak)(c:ez C)(d:C.told.n≤541000000000∧(C.d i).ws.n≤3000∧0≤(C.d i).j∧(C.d i).j≤(C.d i).co∧(C.d i).co≤4194304∧(C.d i).j+((C.d i).li.n:Int)≤4194304∧(C.d i).li.n≤200):fm Tryz.prog 69 ((N8 i j).args ((iN (j:Int) ms.C ms)++hX C)) ((N8 i j).c3 (((iN (j:Int) ms.C ms)++hX C).drop (N8 i j).dE)) [] (ca aH 0 (C.put i (Jz j ms (C.d i) C.ag C.told C.a8) (Sp j ms (C.d i) C.ag C.told C.a8) (Sr j ms (C.d i) C.ag C.told C.a8) (Sq j ms (C.d i) C.ag C.told C.a8))):=by
 refine ef (XW i) (aqQ i j ms C) (Vy i j ms C) (bJ 10 aT (aj (avv i a) bI)) Tryz.func69 (List.replicate 31 .f++List.replicate 62 .l++[.f,.f]++List.replicate 4 .l++[.f,.f,.f]) ?_ ?_ (ayE i a j b ms C c g e f d)
 ·rcases bV a with rfl|rfl|rfl<;>rcases bV b with rfl|rfl|rfl<;>kernel_rfl
 ·rcases bV a with rfl|rfl|rfl<;>rcases bV b with rfl|rfl|rfl<;>kernel_rfl
def uE:H:=(Jz (toNat ms.q) ms d F O ar)
def EK:G ah:=(Sp (toNat ms.q) ms d F O ar)
def EM:G bF:=(Sr (toNat ms.q) ms d F O ar)
def EL:G aM:=(Sq (toNat ms.q) ms d F O ar)
def N7:c8:=⟨[.p 0,.fa 0 (33*i),.g [a,a,a,a,a,a,l,a,.ab dh,a,a,a,.ab bd,a,.ab bT]],b4,eH,eu,fun(c:Int) (d:Int) (k:Int) (m:Int) (n:Int) (o:Int) p (q:Int) r (s:Int) (e:Int) (f:Int) g (h:Int) j=>cA fun C=>let b:=C.d i;⟨⟨some (0≤(⟨c,d,k,m,n,o,p,q,r,s,e,f,g,h,j⟩:ah).q∧(⟨c,d,k,m,n,o,p,q,r,s,e,f,g,h,j⟩:ah).q<3∧C.told.n≤541000000000∧b.ws.n≤3000∧0≤b.j∧b.j≤b.co∧b.co≤4194304∧b.j+(b.li.n:Int)≤4194304∧b.li.n≤200),[],ca aH 0 ((C.put i (uE (⟨c,d,k,m,n,o,p,q,r,s,e,f,g,h,j⟩:ah) b C.ag C.told C.a8) (EK (⟨c,d,k,m,n,o,p,q,r,s,e,f,g,h,j⟩:ah) b C.ag C.told C.a8) (EM (⟨c,d,k,m,n,o,p,q,r,s,e,f,g,h,j⟩:ah) b C.ag C.told C.a8) (EL (⟨c,d,k,m,n,o,p,q,r,s,e,f,g,h,j⟩:ah) b C.ag C.told C.a8)):ak)⟩⟩⟩
theorem aws(i:Nat)(a:i<3)(ms:ah)(u:ms.i.n≤549755813888)(s:ms.bN.n≤549755813888)(t:ms.aY.n≤549755813888):eP Tryz.prog 69 (N7 i) b4 [] (cA fun C=>⟨⟨some (0≤ms.q∧ms.q<3∧C.told.n≤541000000000∧(C.d i).ws.n≤3000∧0≤(C.d i).j∧(C.d i).j≤(C.d i).co∧(C.d i).co≤4194304∧(C.d i).j+((C.d i).li.n:Int)≤4194304∧(C.d i).li.n≤200),[],ca aH 0 ((C.put i (uE ms (C.d i) C.ag C.told C.a8) (EK ms (C.d i) C.ag C.told C.a8) (EM ms (C.d i) C.ag C.told C.a8) (EL ms (C.d i) C.ag C.told C.a8)):ak)⟩⟩) (ig ms):=by
 refine fW fun C r b=> ?_;obtain⟨a0,c,j,k,l,m,n,o,p,q,d,e,f,g,h⟩:=ms;have v:a0=0∨a0=1∨a0=2:=by
  have w:0≤a0:=b.1;have x:a0<3:=b.2.1;omega
 rcases v with rfl|rfl|rfl
 ·exact Eq.mp (by rcases bV a with rfl|rfl|rfl<;>kernel_rfl) (Ur i a 0 (by omega) ⟨0,c,j,k,l,m,n,o,p,q,d,e,f,g,h⟩ u s t C r b.2.2)
 ·exact Eq.mp (by rcases bV a with rfl|rfl|rfl<;>kernel_rfl) (Ur i a 1 (by omega) ⟨1,c,j,k,l,m,n,o,p,q,d,e,f,g,h⟩ u s t C r b.2.2)
 ·exact Eq.mp (by rcases bV a with rfl|rfl|rfl<;>kernel_rfl) (Ur i a 2 (by omega) ⟨2,c,j,k,l,m,n,o,p,q,d,e,f,g,h⟩ u s t C r b.2.2)
theorem azo(i:Nat)(c:i<3):fO 69 (N7 i):=
 jq (bm:=[a,a,a,a,a,a,l,a,.ab dh,a,a,a,.ab bd,a,.ab bT]) fun s b=>Eq.mp (by rcases bV c with rfl|rfl|rfl<;>kernel_rfl) (aws i c ⟨s.1,s.2.1,s.2.2.1,s.2.2.2.1,s.2.2.2.2.1,s.2.2.2.2.2.1,s.2.2.2.2.2.2.1,s.2.2.2.2.2.2.2.1,s.2.2.2.2.2.2.2.2.1,s.2.2.2.2.2.2.2.2.2.1,s.2.2.2.2.2.2.2.2.2.2.1,s.2.2.2.2.2.2.2.2.2.2.2.1,s.2.2.2.2.2.2.2.2.2.2.2.2.1,s.2.2.2.2.2.2.2.2.2.2.2.2.2.1,s.2.2.2.2.2.2.2.2.2.2.2.2.2.2.1⟩ (b.2.2.2.2.2.2.2.2.1 rfl) (b.2.2.2.2.2.2.2.2.2.2.2.2.1 rfl) (b.2.2.2.2.2.2.2.2.2.2.2.2.2.2.1 rfl))
theorem s3(i:Nat)(a:i<3):fP 69 (N7 i):=gj fV Tryz.func69 (azo i a)
end
section
variable(i:Nat)(ac:aJ)(C:ak)(d:H)
def apw(F:G ah):Int:=(cond (decide ((F.n:Int)>0)) (ac.z.tmod (F.n:Int)) (-1))
def apx:H:={d with up:=true}
def R9:H:=(apx d)
def NK:c8:=⟨[.p 0,.g [a,a,a,a,a,a,ai,ai,ai,a]],b4,eH,eu,fun(b:Int) (c:Int) (d:Int) (e:Int) (f:Int) (g:Int) h j k (l:Int)=>cA fun C=>⟨⟨some (eO C (⟨b,c,d,e,f,g,h,j,k,l⟩:aJ)),[],ca [10,13,11,14,12,15,16,8,9] 7 (C.set i (R9 (C.d i)))⟩⟩⟩
def XH:cG:=⟨.eB true [.b 10] [.own (.h 0 99) cw 16,.own (.h 0 29) dd 10,.own (.h 0 62) dd 11,.own (.h 0 95) dd 12,.own (.h 0 32) cw 13,.own (.h 0 65) cw 14,.own (.h 0 98) cw 15] (yw i [10,13,11,14,12,15,16,8,9] 7 [] 0 C) (x0 i [10,13,11,14,12,15,16,8,9]),[],[]++v5 i [10,13,11,14,12,15,16,8,9],⟨[],[]⟩⟩
def aqB:cb (XH i C).b1:=(.ae (.ae (.ae (.j ⟨57,[],[(.t 5,a)],[],.f⟩ .z (.bO ⟨([.ptr 0 0,U,U,.ptr 10 0,.ptr 0 (33*i+0),b (apw ac C.ag)]++(us 135 ([]))),cd aH 1 C [(10,[b 10,b (i:Int),b ac.z,b ac.I,b ac.w,b ac.m,.str ac.N,.str ac.ao,.str ac.i,b ac.aC])]⟩ (.ae (.ae (.c false (.ae (.c false (.ae (.c true .z))))))))))))
def Vm(i:Nat)(ac:aJ)(C:ak):Prop:=((decide ((C.ag.n:Int)>0))=true→(((C.ag.n:Int):Int)≠0))
theorem ayr(i:Nat)(e:i<3)(ac:aJ)(C:ak)(d:ez C)(f:ac.N.size≤549755813888)(g:ac.ao.size≤549755813888)(h:ac.i.size≤549755813888)(a:eO C ac):Vm i ac C:=by
 have c:=gE d i e;unfold fw at c;unfold Vm;exact have:=nI a i;have:=(nI a i).j;have:=(nI a i).ws;have:=oN a;have:=a.2.yq;have:=a.2.yr;have:=a.2.ys;have:=a.2.lI;((fun b=>(by have:=al b;omega)))
theorem Uq(i:Nat)(a:i<3)(ac:aJ)(e:ac.N.size≤549755813888)(f:ac.ao.size≤549755813888)(g:ac.i.size≤549755813888)(C:ak)(c:ez C)(d:eO C ac):fm Tryz.prog 31 ((NK i).args ([b 10,b (i:Int),b ac.z,b ac.I,b ac.w,b ac.m,.str ac.N,.str ac.ao,.str ac.i,b ac.aC]++hX C)) ((NK i).c3 (([b 10,b (i:Int),b ac.z,b ac.I,b ac.w,b ac.m,.str ac.N,.str ac.ao,.str ac.i,b ac.aC]++hX C).drop (NK i).dE)) [] (ca [10,13,11,14,12,15,16,8,9] 7 (C.set i (R9 (C.d i)))):=by
 refine ef (XH i C) (aqB i ac C) (Vm i ac C) (bJ 10 aT bI) Tryz.func31 [] ?_ ?_ (ayr i a ac C c e f g d)
 ·rcases bV a with rfl|rfl|rfl<;>kernel_rfl
 ·rcases bV a with rfl|rfl|rfl<;>kernel_rfl
end
end Go.Proofs.YtfmgjpcmcjjoiaaGreatDoor
