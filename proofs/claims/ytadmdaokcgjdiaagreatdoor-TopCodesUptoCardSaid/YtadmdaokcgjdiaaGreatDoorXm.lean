import Derived.Test.YtadmdaokcgjdiaaGreatDoorXk
open Go.IntKind (i64 u64 u8)
open Int (toNat)
set_option maxRecDepth 100000
set_option maxHeartbeats 4000000
set_option linter.all false
noncomputable section
namespace Go.Proofs.YtadmdaokcgjdiaaGreatDoor
open Go Go.RowKit Go.af
def xM(A:G u):Nat->Int->G Int->G Int
 |0,_,_=>default
 |k+1,e,l=>(cond (decide (e<(A.n:Int))) (xM A k (i64 (e+1)) (c7 (A.at' (toNat e)) l)) l)
def SS(A:G u)(g:G Int):G Int:=xM A ((toNat ((A.n:Int)-0))+1) 0 (cH (A.n:Int) g)
def jA(A:G u)(g:G Int):G Int:=(SS A g)
def aly:cf:=⟨[.p 0,.v (.ab bV)],[(.h 1 0,.ad bo)],[[.own 1 0],[U]],λA g=>⟨⟨some (sF A/\g.n<=250000000000),[],[[.own 1 ((jA A g)).n],[(aH.ad bo).av (jA A g)]]⟩⟩⟩
def agn:dV 122 aly:=ea Tryz.func122
 λA o g p j=>dU ⟨.heap,[],[(.h 1 0,.ad bo)],⟨[],[[.own 1 0],[U]]⟩⟩ (.ae (.ae (.cX ⟨7169,[],[],[(.t 12,a),(.h 1 0,.ad bo)],some 0,false,0,[],[(.h 1 0,.ad bo)],λk (s:Int×G Int)=>xM A k s.1 s.2,.f,λ(s:Int×G Int)=>(0<=s.1/\s.1<=(A.n:Int)/\(s.2.n:Int)<=(g.n:Int)+1+s.1*21),λ(s:Int×G Int)=>(toNat ((A.n:Int)-s.1)),none⟩ .z))) ((g.n<=400000000000)/\(((0<=(0:Int)/\(0:Int)<=(A.n:Int)/\(((cH (A.n:Int) g).n:Nat):Int)<=(g.n:Int)+1+(0:Int)*21))/\(∀(e:Int) (l:G Int),let h:=A.at' (toNat e);let f:=decide (e<(A.n:Int));let b:=i64 (e+1);(0<=e/\e<=(A.n:Int)/\(l.n:Int)<=(g.n:Int)+1+e*21)->((f=true->(((0:Int)<=e/\e<(A.n:Int))/\(l.n<=300000000000/\h.size<=10000000000)))/\(f=true->((0<=b/\b<=(A.n:Int)/\(((c7 h l).n:Nat):Int)<=(g.n:Int)+1+b*21)/\(toNat ((A.n:Int)-b))<(toNat ((A.n:Int)-e)))))))) (b1 2 a2 (ay CA (ay Nc b0))) Tryz.func122 (have⟨c,n⟩:=j;⟨Ω,⟨(by have:=iD (A.n:Int) g;omega),(λe l m=>⟨(λd=>⟨(by have:=an d;omega),(by have:=an d;have:=c.1;have:=c.2 (toNat e) Ω;omega)⟩),(λi=>(by have:=an i;have:=c.2 (toNat e) Ω;have:=iV (A.at' (toNat e)) l;have:=E (e+1);omega))⟩)⟩⟩)
def IA(l:G u):List Int:=uE (l.n:Int)++cat (λi=>ga (l.at' i)) l.n 0
def wN{x:u}(h:x.size<=20):(ga x).length<=21:=by rw[aD5 x Ω];omega
def YU{l:G u}(h:sF l):(IA l).length<=421:=by
 unfold IA;have a:=h.1;have b:=Aq (f:=λi=>ga (l.at' i)) (D:=21) l.n 0 λj _ c=>wN (h.2 j Ω);rw[dq,OB];omega
def O3(l:G u)(w:G Int)(h:sF l):(jA l w).B=w.B++IA l:=by
 have a:(jA l w).B=(cH (l.n:Int) w).B++cat (λi=>ga (l.at' i)) l.n 0:=
  CH (xM l) l.n 21 (w.n+1) (λi s=>c7 (l.at' (toNat i)) s) (λi=>ga (l.at' i)) (by have:=h.1;omega) (λ_ _ _=>rfl) (λi s b _=>by
   have c:=h.2 i b;simp only[gi];exact⟨zS s Ω,wN c⟩) _ (by rw[iD];exact bN _)
 rw[a,zR,fk];rfl
def Wi(A:G u)(g:G Int)(h:sF A):(jA A g).n<=g.n+421:=by
 rw[<-bc,O3 _ _ h,dq,bc];have:=YU h;omega
section
def xL(h:G bt):Nat->Int->G Int->G Int
 |0,_,_=>default
 |k+1,e,l=>(cond (decide (e<(h.n:Int))) (xL h k (i64 (e+1)) (c7 (h.at' (toNat e)).F (c7 (h.at' (toNat e)).q l))) l)
variable(A:Int)(g:u)(r:Int)(h:G bt)(o:G u)(c:G bG)(v:G Int)
def ri:G Int:=xL h ((toNat ((h.n:Int)-0))+1) 0 (cH (h.n:Int) (bu r (c7 g (cH A v))))
def Bb(c:G bG):Nat->Int->G Int->G Int
 |0,_,_=>default
 |k+1,bC,a=>(cond (decide (bC<(c.n:Int))) (Bb c k (i64 (bC+1)) (bu (c.at' (toNat bC)).F (c7 (c.at' (toNat bC)).q a))) a)
def E8:G Int:=Bb c ((toNat ((c.n:Int)-0))+1) 0 (cH (c.n:Int) (jA o (ri A g r h v)))
def oU:G Int:=(E8 A g r h o c v)
def alx:cf:=⟨[.p 0,.g [a,al,a,.ab dd,.ab bV,.ab c3]],[(.h 1 0,.ad bo)],[[.own 1 0],[U]],λ(A:Int) g (r:Int) h o c v=>let b:=oU A g r h o c v;⟨⟨some (sH g r h o c/\v.n<=200000000000),[],[[.own 1 (b).n],[(aH.ad bo).av b]]⟩⟩⟩
theorem awR:dV 121 alx:=ea Tryz.func121
 λ(A:Int) g J (r:Int) h K o L c M v N z=>dU ⟨.heap,[],[(.h 1 0,.ad bo)],⟨[],[[.own 1 0],[U]]⟩⟩ (.ae (.ae (.ae (.ae (.ae (.j ⟨9,[],[],[],.f⟩ (.ae (.cX ⟨469762057,[],[],[(.t 28,a),(.h 1 0,.ad bo)],some 0,false,9,[],[(.h 1 0,.ad bo)],λk (s:Int×G Int)=>xL h k s.1 s.2,.f,λ(s:Int×G Int)=>(0<=s.1/\s.1<=(h.n:Int)/\(s.2.n:Int)<=(v.n:Int)+40+s.1*42),λ(s:Int×G Int)=>(toNat ((h.n:Int)-s.1)),some λ(B:G Int)=>(B.n:Int)<=(v.n:Int)+880⟩ .z)) (.ae (.ae (.ae (.cX ⟨15762598695796737,[.b 2],[],[(.t 53,a),(.h 1 0,.ad bo)],some 2,false,0,[],[(.h 1 0,.ad bo)],λk (s:Int×G Int)=>Bb c k s.1 s.2,.f,λ(s:Int×G Int)=>(0<=s.1/\s.1<=(c.n:Int)/\(s.2.n:Int)<=(v.n:Int)+1400+s.1*29),λ(s:Int×G Int)=>(toNat ((c.n:Int)-s.1)),none⟩ .z)))))))))) (let u:=c7 g (cH A v);let n:=ri A g r h v;(v.n<=400000000000)/\(((cH A v).n<=300000000000/\g.size<=10000000000)/\((u.n<=400000000000)/\(((bu r u).n<=400000000000)/\((((0<=(0:Int)/\(0:Int)<=(h.n:Int)/\(((cH (h.n:Int) (bu r u)).n:Nat):Int)<=(v.n:Int)+40+(0:Int)*42))/\(∀(e:Int) (l:G Int),let t:=decide (e<(h.n:Int));let i:=i64 (e+1);let f:=h.at' (toNat e);(0<=e/\e<=(h.n:Int)/\(l.n:Int)<=(v.n:Int)+40+e*42)->((t=true->(((0:Int)<=e/\e<(h.n:Int))/\((l.n<=300000000000/\f.q.size<=10000000000)/\((c7 f.q l).n<=300000000000/\f.F.size<=10000000000))))/\((t=true->((0<=i/\i<=(h.n:Int)/\(((c7 f.F (c7 f.q l)).n:Nat):Int)<=(v.n:Int)+40+i*42)/\(toNat ((h.n:Int)-i))<(toNat ((h.n:Int)-e))))/\(t=false->((l.n:Int)<=(v.n:Int)+880))))))/\(((n.n:Int)<=(v.n:Int)+880)->((sF o/\n.n<=250000000000)/\(((jA o n).n<=400000000000)/\(((0<=(0:Int)/\(0:Int)<=(c.n:Int)/\(((cH (c.n:Int) (jA o n)).n:Nat):Int)<=(v.n:Int)+1400+(0:Int)*29))/\(∀(bC:Int) (d:G Int),let w:=decide (bC<(c.n:Int));let m:=c.at' (toNat bC);let j:=i64 (bC+1);(0<=bC/\bC<=(c.n:Int)/\(d.n:Int)<=(v.n:Int)+1400+bC*29)->((w=true->(((0:Int)<=bC/\bC<(c.n:Int))/\((d.n<=300000000000/\m.q.size<=10000000000)/\((c7 m.q d).n<=400000000000))))/\(w=true->((0<=j/\j<=(c.n:Int)/\(((bu m.F (c7 m.q d)).n:Nat):Int)<=(v.n:Int)+1400+j*29)/\(toNat ((c.n:Int)-j))<(toNat ((c.n:Int)-bC))))))))))))))) (b1 2 a2 (ay Hl (ay CA (ay Nc (ay agn b0))))) Tryz.func121 (have⟨b,I⟩:=z;⟨Ω,⟨(by have:=b.1;have:=iD A v;omega),⟨(by have:=b.1;have:=iV g (cH A v);have:=iD A v;omega),⟨(by have:=b.1;have:=eS r (c7 g (cH A v));have:=iV g (cH A v);have:=iD A v;omega),⟨⟨(by have:=b.1;have:=iD (h.n:Int) (bu r (c7 g (cH A v)));have:=eS r (c7 g (cH A v));have:=iV g (cH A v);have:=iD A v;omega),(λe l F=>⟨(λp=>⟨(by have:=an p;omega),⟨(by have:=an p;have:=b.2.1;have:=b.2.2.1 (toNat e) Ω;omega),(by have:=an p;have:=b.2.1;have:=b.2.2.1 (toNat e) Ω;have:=iV (h.at' (toNat e)).q l;omega)⟩⟩),⟨(λx=>(by have:=an x;have:=b.2.2.1 (toNat e) Ω;have:=iV (h.at' (toNat e)).F (c7 (h.at' (toNat e)).q l);have:=iV (h.at' (toNat e)).q l;have:=E (e+1);omega)),(λC=>(by have:=b.2.1;omega))⟩⟩)⟩,(λD=>⟨⟨(by repeat first|assumption|apply j3),Ω⟩,⟨(by have:=Wi o (ri A g r h v) (by repeat first|assumption|apply xc|apply xb|apply j3);omega),⟨(by have:=iD (c.n:Int) (jA o (ri A g r h v));have:=Wi o (ri A g r h v) (by repeat first|assumption|apply xc|apply xb|apply j3);omega),(λbC d H=>⟨(λq=>⟨(by have:=an q;omega),⟨(by have:=an q;have:=b.2.1;have:=b.2.2.2.2 (toNat bC) Ω;omega),(by have:=an q;have:=b.2.1;have:=b.2.2.2.2 (toNat bC) Ω;have:=iV (c.at' (toNat bC)).q d;omega)⟩⟩),(λy=>(by have:=an y;have:=b.2.2.2.2 (toNat bC) Ω;have:=eS (c.at' (toNat bC)).F (c7 (c.at' (toNat bC)).q d);have:=iV (c.at' (toNat bC)).q d;have:=E (bC+1);omega))⟩)⟩⟩⟩)⟩⟩⟩⟩⟩)
end
def C0(s:G bt)(i:Nat):List Int:=ga (s.at' i).q++ga (s.at' i).F
def uF(s:G bG)(i:Nat):List Int:=ga (s.at' i).q++aC (s.at' i).F
def dT(A:Int)(g:u)(r:Int)(h:G bt)(o:G u)(c:G bG):List Int:=
 uE A++(ga g++(aC r++(uE (h.n:Int)++(cat (C0 h) h.n 0++(IA o++(uE (c.n:Int)++cat (uF c) c.n 0))))))
def ain{s:G bt}{i:Nat}(h:(s.at' i).q.size<=20/\(s.at' i).F.size<=20):(C0 s i).length<=42:=by
 have a:=wN h.1;have b:=wN h.2;unfold C0;rw[dq];omega
def ajq{s:G bG}{i:Nat}(h:(s.at' i).q.size<=20):(uF s i).length<=29:=by
 have a:=wN h;unfold uF;rw[dq,HF];omega
def aj1{A:Int}{g:u}{r:Int}{h:G bt}{o:G u}{c:G bG}(i:sH g r h o c):(dT A g r h o c).length<=2000:=by
 have a:=wN i.1.1;have b:=YU (j3 i);have l:=Aq (f:=C0 h) (D:=42) h.n 0 λj _ k=>ain (i.2.2.1 j Ω);have d:=Aq (f:=uF c) (D:=29) c.n 0 λj _ k=>ajq (i.2.2.2.2 j Ω).1;have e:=i.2.1;unfold dT;simp only[dq,OB,HF];omega
def Zf(A:Int)(g:u)(r:Int)(h:G bt)(o:G u)(c:G bG)(w:G Int)(a:sH g r h o c):(oU A g r h o c w).B=w.B++dT A g r h o c:=by
 have j:=a.2.1;have e:(ri A g r h w).B=(cH (h.n:Int) (bu r (c7 g (cH A w)))).B++cat (C0 h) h.n 0:=
  CH (xL h) h.n 42 _ (λi s=>c7 (h.at' (toNat i)).F (c7 (h.at' (toNat i)).q s)) (C0 h) Ω (λ_ _ _=>rfl) (λi s b _=>by
   have d:=a.2.2.1 i b;simp only[gi];exact⟨by rw[zS _ Ω,zS _ Ω,fk];rfl,ain d⟩) _ (bN _)
 have f:(E8 A g r h o c w).B=(cH (c.n:Int) (jA o (ri A g r h w))).B++cat (uF c) c.n 0:=
  CH (Bb c) c.n 29 _ (λi s=>bu (c.at' (toNat i)).F (c7 (c.at' (toNat i)).q s)) (uF c) Ω (λ_ _ _=>rfl) (λi s b _=>by
   have d:=a.2.2.2.2 i b;simp only[gi];exact⟨by rw[uN _ Ω Ω,zS _ Ω,fk];rfl,ajq d.1⟩) _ (bN _)
 have k:=a.1;show(E8 A g r h o c w).B=_;rw[f,zR,O3 _ _ (j3 a),e,zR,uN _ Ω Ω,zS _ Ω,zR];simp only[dT,fk]
def ag6(A:Int)(g:u)(r:Int)(h:G bt)(o:G u)(c:G bG)(w:G Int)(a:sH g r h o c):(oU A g r h o c w).n<=w.n+2000:=by
 rw[<-bc,Zf _ _ _ _ _ _ _ a,dq,bc];have:=aj1 (A:=A) a;omega
def AQ{s:G N}(h:gk (aP 8 gU s)):dA s:=⟨h.len,λi a=>⟨(h.at (j:=4) (x:=aP 2 fU (s.at' i).w) a Ω rfl).len,(h.at (j:=5) (x:=aP 1 cU (s.at' i).C) a Ω rfl).len,(h.at (j:=6) (x:=aP 2 fV (s.at' i).P) a Ω rfl).len⟩⟩
def Ev{s:G ar}(h:gk (aP 7 hi s)):eH s:=⟨h.len,λi a=>(h.at (j:=6) (x:=aP 1 cU (s.at' i).P) a Ω rfl).len⟩
section
def yL(g:G N):Nat->Int->G Int->G Int
 |0,_,_=>default
 |k+1,aB,cQ=>let a:=g.at' (toNat aB);(cond (decide (aB<(g.n:Int))) (yL g k (i64 (aB+1)) (bu a.aw (oU a.F a.z a.M a.w a.C a.P (c7 a.q cQ)))) cQ)
variable(A:Int)(g:G N)(r:Int)(h:G ar)
def rM:G Int:=yL g ((toNat ((g.n:Int)-0))+1) 0 (cH (g.n:Int) (bu A (B:G Int)))
def Cc(h:G ar):Nat->Int->G Int->G Int
 |0,_,_=>default
 |k+1,bl,b=>let a:=h.at' (toNat bl);(cond (decide (bl<(h.n:Int))) (Cc h k (i64 (bl+1)) (jA a.P (bu a.C (c7 a.w (cH a.M (bu a.z (bu a.F (bu a.q b)))))))) b)
def vW:G Int:=Cc h ((toNat ((h.n:Int)-0))+1) 0 (cH (h.n:Int) (bu r (rM A g)))
def jE:G Int:=(cond ((ed A g r h)!=0) (B:G Int) (vW A g r h))
def asu:Int:=(cond ((ed A g r h)!=0) (ed A g r h) 0)
def anx:bq:=⟨[.g [a,.ab bp,a,.ab bZ]],λA g r h=>⟨⟨none,.dp [aP 1 cZ (jE A g r h),b (asu A g r h)]⟩⟩⟩
theorem agQ:bx 100 anx:=bA Tryz.func100
 λ(A:Int) g M z (r:Int) h N C=>bD ⟨.pure,[.tmp 2,.tmp 3],[(.t 0,.ab bo),(.t 1,a)],⟨[U,U],[]⟩⟩ (.ae (.ae (.ae (.s (.jb [(.h 1 0,bo)]) (.ae (.j ⟨46,[],[],[],.f⟩ (.ae (.cX ⟨7516192814,[],[],[(.t 32,a),(.h 2 0,.ad bo)],some 0,false,46,[],[(.h 2 0,.ad bo)],λk (s:Int×G Int)=>yL g k s.1 s.2,.f,λ(s:Int×G Int)=>(0<=s.1/\s.1<=(g.n:Int)/\(s.2.n:Int)<=10+s.1*2100),λ(s:Int×G Int)=>(toNat ((g.n:Int)-s.1)),some λ(H:G Int)=>(H.n:Int)<=25300⟩ .z)) (.ae (.ae (.j ⟨44,[],[],[],.f⟩ (.ae (.cX ⟨4035225266123964460,[.b 0],[],[(.t 61,a),(.h 2 0,.ad bo)],some 2,false,44,[],[(.h 2 0,.ad bo)],λk (s:Int×G Int)=>Cc h k s.1 s.2,.f,λ(s:Int×G Int)=>(0<=s.1/\s.1<=(h.n:Int)/\(s.2.n:Int)<=25400+s.1*500),λ(s:Int×G Int)=>(toNat ((h.n:Int)-s.1)),none⟩ .z)) .z))))))))) (let y:=bu A (B:G Int);let p:=rM A g;((ed A g r h)!=0)=false->((0<=400000000000)/\((y.n<=400000000000)/\((((0<=(0:Int)/\(0:Int)<=(g.n:Int)/\(((cH (g.n:Int) y).n:Nat):Int)<=10+(0:Int)*2100))/\(∀(aB:Int) (cQ:G Int),let t:=decide (aB<(g.n:Int));let n:=i64 (aB+1);let e:=g.at' (toNat aB);let w:=oU e.F e.z e.M e.w e.C e.P (c7 e.q cQ);(0<=aB/\aB<=(g.n:Int)/\(cQ.n:Int)<=10+aB*2100)->((t=true->(((0:Int)<=aB/\aB<(g.n:Int))/\((cQ.n<=300000000000/\e.q.size<=10000000000)/\((sH e.z e.M e.w e.C e.P/\(c7 e.q cQ).n<=200000000000)/\(w.n<=400000000000)))))/\((t=true->((0<=n/\n<=(g.n:Int)/\(((bu e.aw w).n:Nat):Int)<=10+n*2100)/\(toNat ((g.n:Int)-n))<(toNat ((g.n:Int)-aB))))/\(t=false->((cQ.n:Int)<=25300))))))/\(((p.n:Int)<=25300)->((p.n<=400000000000)/\(((bu r p).n<=400000000000)/\(((0<=(0:Int)/\(0:Int)<=(h.n:Int)/\(((cH (h.n:Int) (bu r p)).n:Nat):Int)<=25400+(0:Int)*500))/\(∀(bl:Int) (c:G Int),let x:=decide (bl<(h.n:Int));let o:=i64 (bl+1);let j:=h.at' (toNat bl);let v:=bu j.q c;let q:=bu j.z (bu j.F v);let u:=c7 j.w (cH j.M q);(0<=bl/\bl<=(h.n:Int)/\(c.n:Int)<=25400+bl*500)->((x=true->(((0:Int)<=bl/\bl<(h.n:Int))/\((c.n<=400000000000)/\((v.n<=400000000000)/\(((bu j.F v).n<=400000000000)/\((q.n<=400000000000)/\(((cH j.M q).n<=300000000000/\j.w.size<=10000000000)/\((u.n<=400000000000)/\(sF j.P/\(bu j.C u).n<=250000000000)))))))))/\(x=true->((0<=o/\o<=(h.n:Int)/\(((jA j.P (bu j.C u)).n:Nat):Int)<=25400+o*500)/\(toNat ((h.n:Int)-o))<(toNat ((h.n:Int)-bl)))))))))))))) (b1 0 (aJ Nq a2) (ay Hl (ay CA (ay Nc (ay awR (ay agn b0)))))) Tryz.func100 (have:=AQ z;have:=Ev C;(λd=>⟨Ω,⟨(by have:=eS A (B:G Int);have:(B:G Int).n=0:=rfl;omega),⟨⟨(by have:=iD (g.n:Int) (bu A (B:G Int));have:=eS A (B:G Int);have:(B:G Int).n=0:=rfl;omega),(λaB cQ K=>⟨(λl=>⟨(by have:=an l;omega),⟨(by have b:=g2 _ _ _ _ (by first|assumption|exact iu.z Ψ) (by first|assumption|exact ir.y Ψ) (bK d);have:=b.1;have:=an l;have f:=b.2.1 (toNat aB) Ω;have:=f.1;omega),⟨⟨(by have b:=g2 _ _ _ _ (by first|assumption|exact iu.z Ψ) (by first|assumption|exact ir.y Ψ) (bK d);have:=b.1;have:=an l;have f:=b.2.1 (toNat aB) Ω;have:=f.1;have:=f.2.1;have:=f.2.2;assumption),(by have b:=g2 _ _ _ _ (by first|assumption|exact iu.z Ψ) (by first|assumption|exact ir.y Ψ) (bK d);have:=b.1;have:=an l;have f:=b.2.1 (toNat aB) Ω;have:=f.1;have:=iV (g.at' (toNat aB)).q cQ;omega)⟩,(by have b:=g2 _ _ _ _ (by first|assumption|exact iu.z Ψ) (by first|assumption|exact ir.y Ψ) (bK d);have:=b.1;have:=an l;have f:=b.2.1 (toNat aB) Ω;have:=f.1;have:=f.2.1;have:=ag6 (g.at' (toNat aB)).F (g.at' (toNat aB)).z (g.at' (toNat aB)).M (g.at' (toNat aB)).w (g.at' (toNat aB)).C (g.at' (toNat aB)).P (c7 (g.at' (toNat aB)).q cQ) (by repeat first|assumption|apply sX|apply sY|apply uK|apply q9|apply wq|apply mA|apply r1|apply uz|apply uy|apply sd|apply rR|apply rS|apply ig|apply uI|apply xl|apply lV|apply j3|apply ov|apply And.intro);have:=iV (g.at' (toNat aB)).q cQ;omega)⟩⟩⟩),⟨(λD=>(by have b:=g2 _ _ _ _ (by first|assumption|exact iu.z Ψ) (by first|assumption|exact ir.y Ψ) (bK d);have:=an D;have f:=b.2.1 (toNat aB) Ω;have:=f.1;have:=f.2.1;have:=eS (g.at' (toNat aB)).aw (oU (g.at' (toNat aB)).F (g.at' (toNat aB)).z (g.at' (toNat aB)).M (g.at' (toNat aB)).w (g.at' (toNat aB)).C (g.at' (toNat aB)).P (c7 (g.at' (toNat aB)).q cQ));have:=ag6 (g.at' (toNat aB)).F (g.at' (toNat aB)).z (g.at' (toNat aB)).M (g.at' (toNat aB)).w (g.at' (toNat aB)).C (g.at' (toNat aB)).P (c7 (g.at' (toNat aB)).q cQ) (by repeat first|assumption|apply sX|apply sY|apply uK|apply q9|apply wq|apply mA|apply r1|apply uz|apply uy|apply sd|apply rR|apply rS|apply ig|apply uI|apply xl|apply lV|apply j3|apply ov|apply And.intro);have:=iV (g.at' (toNat aB)).q cQ;have:=E (aB+1);omega)),(λI=>(by have b:=g2 _ _ _ _ (by first|assumption|exact iu.z Ψ) (by first|assumption|exact ir.y Ψ) (bK d);have:=b.1;omega))⟩⟩)⟩,(λJ=>⟨Ω,⟨(by have:=eS r (rM A g);omega),⟨(by have:=iD (h.n:Int) (bu r (rM A g));have:=eS r (rM A g);omega),(λbl c L=>⟨(λm=>⟨(by have:=an m;omega),⟨(by have b:=g2 _ _ _ _ (by first|assumption|exact iu.z Ψ) (by first|assumption|exact ir.y Ψ) (bK d);have:=b.1;omega),⟨(by have b:=g2 _ _ _ _ (by first|assumption|exact iu.z Ψ) (by first|assumption|exact ir.y Ψ) (bK d);have:=b.1;have:=eS (h.at' (toNat bl)).q c;omega),⟨(by have b:=g2 _ _ _ _ (by first|assumption|exact iu.z Ψ) (by first|assumption|exact ir.y Ψ) (bK d);have:=b.1;have:=eS (h.at' (toNat bl)).F (bu (h.at' (toNat bl)).q c);have:=eS (h.at' (toNat bl)).q c;omega),⟨(by have b:=g2 _ _ _ _ (by first|assumption|exact iu.z Ψ) (by first|assumption|exact ir.y Ψ) (bK d);have:=b.1;have:=eS (h.at' (toNat bl)).z (bu (h.at' (toNat bl)).F (bu (h.at' (toNat bl)).q c));have:=eS (h.at' (toNat bl)).F (bu (h.at' (toNat bl)).q c);have:=eS (h.at' (toNat bl)).q c;omega),⟨(by have b:=g2 _ _ _ _ (by first|assumption|exact iu.z Ψ) (by first|assumption|exact ir.y Ψ) (bK d);have:=b.1;have:=an m;have i:=b.2.2 (toNat bl) Ω;have:=i.2.1;have:=iD (h.at' (toNat bl)).M (bu (h.at' (toNat bl)).z (bu (h.at' (toNat bl)).F (bu (h.at' (toNat bl)).q c)));have:=eS (h.at' (toNat bl)).z (bu (h.at' (toNat bl)).F (bu (h.at' (toNat bl)).q c));have:=eS (h.at' (toNat bl)).F (bu (h.at' (toNat bl)).q c);have:=eS (h.at' (toNat bl)).q c;omega),⟨(by have b:=g2 _ _ _ _ (by first|assumption|exact iu.z Ψ) (by first|assumption|exact ir.y Ψ) (bK d);have:=b.1;have:=an m;have i:=b.2.2 (toNat bl) Ω;have:=i.2.1;have:=iV (h.at' (toNat bl)).w (cH (h.at' (toNat bl)).M (bu (h.at' (toNat bl)).z (bu (h.at' (toNat bl)).F (bu (h.at' (toNat bl)).q c))));have:=iD (h.at' (toNat bl)).M (bu (h.at' (toNat bl)).z (bu (h.at' (toNat bl)).F (bu (h.at' (toNat bl)).q c)));have:=eS (h.at' (toNat bl)).z (bu (h.at' (toNat bl)).F (bu (h.at' (toNat bl)).q c));have:=eS (h.at' (toNat bl)).F (bu (h.at' (toNat bl)).q c);have:=eS (h.at' (toNat bl)).q c;omega),⟨(by have b:=g2 _ _ _ _ (by first|assumption|exact iu.z Ψ) (by first|assumption|exact ir.y Ψ) (bK d);have:=b.1;have:=an m;have i:=b.2.2 (toNat bl) Ω;have:=i.1;have:=i.2.1;have:=i.2.2;assumption),(by have b:=g2 _ _ _ _ (by first|assumption|exact iu.z Ψ) (by first|assumption|exact ir.y Ψ) (bK d);have:=b.1;have:=an m;have i:=b.2.2 (toNat bl) Ω;have:=i.2.1;have:=eS (h.at' (toNat bl)).C (c7 (h.at' (toNat bl)).w (cH (h.at' (toNat bl)).M (bu (h.at' (toNat bl)).z (bu (h.at' (toNat bl)).F (bu (h.at' (toNat bl)).q c)))));have:=iV (h.at' (toNat bl)).w (cH (h.at' (toNat bl)).M (bu (h.at' (toNat bl)).z (bu (h.at' (toNat bl)).F (bu (h.at' (toNat bl)).q c))));have:=iD (h.at' (toNat bl)).M (bu (h.at' (toNat bl)).z (bu (h.at' (toNat bl)).F (bu (h.at' (toNat bl)).q c)));have:=eS (h.at' (toNat bl)).z (bu (h.at' (toNat bl)).F (bu (h.at' (toNat bl)).q c));have:=eS (h.at' (toNat bl)).F (bu (h.at' (toNat bl)).q c);have:=eS (h.at' (toNat bl)).q c;omega)⟩⟩⟩⟩⟩⟩⟩⟩),(λF=>(by have b:=g2 _ _ _ _ (by first|assumption|exact iu.z Ψ) (by first|assumption|exact ir.y Ψ) (bK d);have:=an F;have i:=b.2.2 (toNat bl) Ω;have:=i.2.1;have:=i.2.2;have:=Wi (h.at' (toNat bl)).P (bu (h.at' (toNat bl)).C (c7 (h.at' (toNat bl)).w (cH (h.at' (toNat bl)).M (bu (h.at' (toNat bl)).z (bu (h.at' (toNat bl)).F (bu (h.at' (toNat bl)).q c)))))) (by repeat first|assumption|apply sX|apply sY|apply uK|apply q9|apply wq|apply mA|apply r1|apply uz|apply uy|apply sd|apply rR|apply rS|apply ig|apply uI|apply xl|apply lV|apply j3|apply ov|apply And.intro);have:=eS (h.at' (toNat bl)).C (c7 (h.at' (toNat bl)).w (cH (h.at' (toNat bl)).M (bu (h.at' (toNat bl)).z (bu (h.at' (toNat bl)).F (bu (h.at' (toNat bl)).q c)))));have:=iV (h.at' (toNat bl)).w (cH (h.at' (toNat bl)).M (bu (h.at' (toNat bl)).z (bu (h.at' (toNat bl)).F (bu (h.at' (toNat bl)).q c))));have:=iD (h.at' (toNat bl)).M (bu (h.at' (toNat bl)).z (bu (h.at' (toNat bl)).F (bu (h.at' (toNat bl)).q c)));have:=eS (h.at' (toNat bl)).z (bu (h.at' (toNat bl)).F (bu (h.at' (toNat bl)).q c));have:=eS (h.at' (toNat bl)).F (bu (h.at' (toNat bl)).q c);have:=eS (h.at' (toNat bl)).q c;have:=E (bl+1);omega))⟩)⟩⟩⟩)⟩⟩⟩))
end
def hD(s:G N)(i:Nat):List Int:=ga (s.at' i).q++(dT (s.at' i).F (s.at' i).z (s.at' i).M (s.at' i).w (s.at' i).C (s.at' i).P++aC (s.at' i).aw)
def zb(s:G ar)(i:Nat):List Int:=aC (s.at' i).q++(aC (s.at' i).F++(aC (s.at' i).z++(uE (s.at' i).M++(ga (s.at' i).w++(aC (s.at' i).C++IA (s.at' i).P)))))
def NH(A:Int)(g:G N)(r:Int)(h:G ar):List Int:=aC A++(uE (g.n:Int)++(cat (hD g) g.n 0++(aC r++(uE (h.n:Int)++cat (zb h) h.n 0))))
def abA{s:G N}{i:Nat}(h:IX (s.at' i)):(hD s i).length<=2100:=by
 have a:=wN h.1;have b:=aj1 (A:=(s.at' i).F) h.2.1;unfold hD;simp only[dq,HF];omega
def agV{s:G ar}{i:Nat}(h:P3 (s.at' i)):(zb s i).length<=500:=by
 have a:=wN h.2.1.2.1;have b:=YU h.2.2;unfold zb;simp only[dq,HF,OB];omega
def az5{A:Int}{g:G N}{r:Int}{h:G ar}(b:I5 A g r h):(NH A g r h).length<=28000:=by
 have a:=b.1;have c:=Aq (f:=hD g) (D:=2100) g.n 0 λj _ e=>abA (b.2.1 j Ω);have d:=Aq (f:=zb h) (D:=500) h.n 0 λj _ e=>agV (b.2.2 j Ω);unfold NH;simp only[dq,HF,OB];omega
def aku{A:Int}{g:G N}{r:Int}{h:G ar}(b:I5 A g r h):(vW A g r h).B=NH A g r h:=by
 have j:=b.1;have d:(rM A g).B=(cH (g.n:Int) (bu A (B:G Int))).B++cat (hD g) g.n 0:=
  CH (yL g) g.n 2100 _ (λi s=>bu (g.at' (toNat i)).aw (oU (g.at' (toNat i)).F (g.at' (toNat i)).z (g.at' (toNat i)).M (g.at' (toNat i)).w (g.at' (toNat i)).C (g.at' (toNat i)).P (c7 (g.at' (toNat i)).q s))) (hD g) Ω (λ_ _ _=>rfl) (λi s c _=>by
   have a:=b.2.1 i c;have f:=a.1;have l:=a.2.2;simp only[gi];refine⟨?_,abA a⟩;rw[uN _ Ω Ω,Zf _ _ _ _ _ _ _ a.2.1,zS _ Ω];simp only[hD,fk]) _ (bN _)
 have e:(vW A g r h).B=(cH (h.n:Int) (bu r (rM A g))).B++cat (zb h) h.n 0:=
  CH (Cc h) h.n 500 _ (λi s=>jA (h.at' (toNat i)).P (bu (h.at' (toNat i)).C (c7 (h.at' (toNat i)).w (cH (h.at' (toNat i)).M (bu (h.at' (toNat i)).z (bu (h.at' (toNat i)).F (bu (h.at' (toNat i)).q s))))))) (zb h) Ω (λ_ _ _=>rfl) (λi s c _=>by
   have a:=b.2.2 i c;have f:=a.1;have k:=a.2.1;simp only[gi];refine⟨?_,agV a⟩;rw[O3 _ _ a.2.2,uN _ Ω Ω,zS _ Ω,zR,uN _ Ω Ω,uN _ Ω Ω,uN _ Ω Ω];simp only[zb,fk]) _ (bN _)
 rw[e,zR,uN _ Ω Ω,d,zR,uN _ Ω Ω,w2];simp only[NH,fk,qP]
def anT(A c8:Int)(c4:G N)(c9:Int)(c5:G ar):Prop:=A≠1->A≠2->I5 c8 c4 c9 c5
def t153{x:Int}(h:(!(n6 x))=false):1<=x/\x<=1048576:=by
 unfold n6 KB at h
 by_cases a:x>=1
 .by_cases b:x<=1048576
  .omega
  .simp [b]at h
 .simp [a]at h
def Yf{A g r h o c:Int}{v:Bool}{y p x:Int}{ai bn bY:u}{b9 ch dj c8:Int}{c4:G N}{c9:Int}{c5:G ar}(a:fA A g r h o c v y p x ai bn bY b9 ch dj c8 c4 c9 c5=0):
  (A=1/\(1<=g/\g<=1048576)/\ -1<=r/\r<3)\/(A=2/\(1<=h/\h<=1048576)/\fc o c v y p x ai bn bY b9=0)\/(A=3/\(1<=ch/\ch<=1048576)/\(1<=dj/\dj<=1048576)/\ed c8 c4 c9 c5=0):=by
 unfold fA at a;obtain⟨j,a⟩:=dv a Δ;obtain⟨_,a⟩:=dv a Δ;unfold UG at j;obtain⟨k,l⟩:=c2 j;have n:=df k;have z:=df l
 by_cases d:A=1
 .left;rw[d]at a;simp only[pA,aR]at a;obtain⟨m,_⟩:=dv a Δ;unfold Cd at m;obtain⟨b,m⟩:=c2 m;obtain⟨f,i⟩:=c2 m;have q:=df f;have d3:=df i;exact⟨d,t153 b,Ω,Ω⟩
 .rw[fl.2 d]at a;simp only[aX]at a
  by_cases e:A=2
  .right;left;rw[e]at a;simp only[pA,aR]at a;obtain⟨b,a⟩:=dv a Δ;exact⟨e,t153 b,a⟩
  .right;right;rw[fl.2 e]at a;simp only[aX]at a;unfold mm at a;obtain⟨b,a⟩:=dv a Δ;unfold GD at b;obtain⟨f,i⟩:=c2 b;exact⟨Ω,t153 f,t153 i,a⟩
def apc{A g r h o c:Int}{v:Bool}{y p x:Int}{ai bn bY:u}{b9 ch dj c8:Int}{c4:G N}{c9:Int}{c5:G ar}(i:dA c4)(f:eH c5)(a:fA A g r h o c v y p x ai bn bY b9 ch dj c8 c4 c9 c5=0):anT A c8 c4 c9 c5:=λb d=>by
 rcases Yf a with⟨e,_⟩|⟨e,_⟩|⟨_,_,_,e⟩
 .exact absurd e b
 .exact absurd e d
 .exact g2 _ _ _ _ i f e
def OS:(0:Int)<=0/\(0:Int)<=255:=by decide
def wR:aK (B:G Int):=λ_=>OS
def YW:aK (default:G Int):=λ_=>OS
def wP{a b:G Int}(c:aK a)(d:aK b):aK (G.app a b):=λi=>by
 show 0<=(cond (Nat.blt i a.n) (a.at' i) (b.at' (i-a.n)))/\(cond (Nat.blt i a.n) (a.at' i) (b.at' (i-a.n)))<=255
 cases Nat.blt i a.n
 .exact d _
 .exact c _
def ajX(x:Int):0<=u8 x/\u8 x<=255:=by
 have h:u8 x=x%256:=rfl;rw[h];omega
def YZ(x:Int):aK (G.lit [u8 x]):=λi=>by
 cases i with
 |zero=>exact ajX x
 |succ i=>exact OS
def aEs(s:u):aK (G.ofStr s):=λi=>by
 show 0<=((s.data.toList.getD i 0).toNat:Int)/\((s.data.toList.getD i 0).toNat:Int)<=255;have:=(s.data.toList.getD i 0).toNat_lt;omega
def wQ{F:Nat->Int->G Int->G Int}{c:Int->Bool}{e:Int->Int}{st:Int->G Int->G Int}(a: ∀i t,F 0 i t=default)(b: ∀k i t,F (k+1) i t=bif c i then F k (e i) (st i t)else t)(d: ∀i t,aK t->aK (st i t)): ∀k i t,aK t->aK (F k i t)
 |0,i,t,_=>by rw[a];exact YW
 |k+1,i,t,h=>by
  rw[b]
  cases c i
  .exact h
  .exact wQ a b d k _ _ (d i t h)
def qG(x:Int){s:G Int}(h:aK s):aK (cH x s):=wP h (YZ x)
def mB(x:Int){s:G Int}(h:aK s):aK (bu x s):=by
 unfold bu acR;exact wQ (λ_ _=>rfl) (λ_ _ _=>rfl) (λi t a=>wP a (YZ _)) _ _ _ h
def sk(x:u){s:G Int}(h:aK s):aK (c7 x s):=wP (qG _ h) (aEs x)
def ajP(x:G u){s:G Int}(h:aK s):aK (jA x s):=by
 unfold jA SS;exact wQ (λ_ _=>rfl) (λ_ _ _=>rfl) (λi t a=>sk _ a) _ _ _ (qG _ h)
def aEm(A:Int)(g:u)(r:Int)(h:G bt)(o:G u)(c:G bG){s:G Int}(b:aK s):aK (oU A g r h o c s):=by
 have d:aK (ri A g r h s):=by
  unfold ri;exact wQ (λ_ _=>rfl) (λ_ _ _=>rfl) (λi t a=>sk _ (sk _ a)) _ _ _ (qG _ (mB _ (sk _ (qG _ b))))
 unfold oU E8;exact wQ (λ_ _=>rfl) (λ_ _ _=>rfl) (λi t a=>mB _ (sk _ a)) _ _ _ (qG _ (ajP _ d))
def ig(A:Int)(g:G N)(r:Int)(h:G ar):aK (jE A g r h):=by
 have b:aK (rM A g):=by
  unfold rM;exact wQ (λ_ _=>rfl) (λ_ _ _=>rfl) (λi t a=>mB _ (aEm _ _ _ _ _ _ (sk _ a))) _ _ _ (qG _ (mB _ wR))
 have c:aK (vW A g r h):=by
  unfold vW;exact wQ (λ_ _=>rfl) (λ_ _ _=>rfl) (λi t a=>ajP _ (mB _ (sk _ (qG _ (mB _ (mB _ (mB _ a))))))) _ _ _ (qG _ (mB _ b))
 unfold jE
 cases (ed A g r h !=0)
 .exact c
 .exact wR
def z5(s:G (G Int)):Prop:=s.n<=10/\ ∀i,i<s.n->(s.at' i).n<=1000000
def Rp{a b c:G Int}(e:a.n<=1000000)(f:b.n<=1000000)(g:c.n<=1000000):z5 (G.lit [a,b,c]):=by
 refine⟨by show 3<=10;omega,λi d=> ?_⟩;have d:i<3:=d;have:i=0\/i=1\/i=2:=by omega
 rcases this with rfl|rfl|rfl
 .exact e
 .exact f
 .exact g
def Rq{a b c d:G Int}(f:a.n<=1000000)(g:b.n<=1000000)(h:c.n<=1000000)(j:d.n<=1000000):z5 (G.lit [a,b,c,d]):=by
 refine⟨by show 4<=10;omega,λi e=> ?_⟩;have e:i<4:=e;have:i=0\/i=1\/i=2\/i=3:=by omega
 rcases this with rfl|rfl|rfl|rfl
 .exact f
 .exact g
 .exact h
 .exact j
def ag8(A g:Int)(r:Bool)(h o c:Int)(v y p:u)(x:Int):v.size<=10000000000/\y.size<=10000000000/\p.size<=10000000000->(qd A g r h o c v y p x).n<=40000000000:=λa=>by
 unfold qd
 cases (fc A g r h o c v y p x !=0)
 .simp only[aX];unfold EX Fp Fz
  cases r
  .simp only[aX]
   cases decide (h>0)
   .simp only[aX,eS,iD,CP];omega
   .simp only[aR,eS,iD,iV,CP];omega
  .simp only[aR,eS,iD,CP];omega
 .simp only[aR,CP];omega
def ag9(A:Int)(g:G N)(r:Int)(h:G ar)(a:dA g/\eH h):(jE A g r h).n<=28000:=by
 unfold jE
 by_cases e:ed A g r h=0
 .have b:=g2 A g r h a.1 a.2 e;rw[show(ed A g r h !=0)=false by simp [e]];simp only[aX];rw[<-bc,aku b];exact az5 b
 .rw[show(ed A g r h !=0)=true by simp [e]];simp only[aR,CP];omega
def S4(A:G (G Int)):Nat->Int->Int->Int
 |0,_,_=>default
 |k+1,e,l=>(cond (decide (l<(A.n:Int))) (S4 A k (i64 (e+((A.at' (toNat l)).n:Int))) (i64 (l+1))) e)
def ark(A:G (G Int)):Int:=S4 A ((toNat ((A.n:Int)-0))+1) 0 0
def KF(A:G (G Int)):Nat->Int->G Int->G Int
 |0,_,_=>default
 |k+1,a,b=>(cond (decide (a<(A.n:Int))) (KF A k (i64 (a+1)) (G.app b (A.at' (toNat a)))) b)
def KG(A:G (G Int)):G Int:=KF A ((toNat ((A.n:Int)-0))+1) 0 (B:G Int)
def te(A:G (G Int)):G Int:=(KG A)
def alP:bq:=⟨[.v (.ab Zq)],λA=>⟨⟨some (z5 A),(aH.ad bo).av (te A)⟩⟩⟩
def agr:bx 105 alP:=bA Tryz.func105
 λA B _ c=>bD ⟨.own bo,[.tmp 2],[(.h 0 0,.ad bo)],⟨[],[]⟩⟩ (.ae (.ae (.j ⟨13,[],[],[],.f⟩ (.ae (.cX ⟨3597,[],[],[(.t 3,a),(.t 11,a)],some 0,false,13,[],[(.t 3,a)],λk (s:Int×Int)=>S4 A k s.1 s.2,.f,λ(s:Int×Int)=>(0<=s.2/\s.2<=(A.n:Int)/\0<=s.1/\s.1<=s.2*1000000),λ(s:Int×Int)=>(toNat ((A.n:Int)-s.2)),some λ(r:Int)=>(0<=r/\r<=10000000)⟩ .z)) (.ae (.j ⟨68,[],[],[],.f⟩ (.ae (.cX ⟨234881092,[],[],[(.t 27,a),(.h 0 0,.ad bo)],some 2,false,68,[],[(.h 0 0,.ad bo)],λk (s:Int×G Int)=>KF A k s.1 s.2,.f,λ(s:Int×G Int)=>(0<=s.1/\s.1<=(A.n:Int)/\(s.2.n:Int)<=s.1*1000000),λ(s:Int×G Int)=>(toNat ((A.n:Int)-s.1)),none⟩ .z)) .z))))) (let i:=ark A;(((0<=(0:Int)/\(0:Int)<=(A.n:Int)/\0<=(0:Int)/\(0:Int)<=(0:Int)*1000000))/\(∀(e:Int) (l:Int),let j:=decide (l<(A.n:Int));let g:=i64 (l+1);let f:=i64 (e+((A.at' (toNat l)).n:Int));(0<=l/\l<=(A.n:Int)/\0<=e/\e<=l*1000000)->((j=true->(((0:Int)<=l/\l<(A.n:Int))/\((decide (f<0))=true->False)))/\((j=true->((decide (f<0))=false->((0<=g/\g<=(A.n:Int)/\0<=f/\f<=g*1000000)/\(toNat ((A.n:Int)-g))<(toNat ((A.n:Int)-l)))))/\(j=false->((0<=e/\e<=10000000)))))))/\(((0<=i/\i<=10000000))->((0<=i/\i<=549755813888)/\(((0<=(0:Int)/\(0:Int)<=(A.n:Int)/\((0:Nat):Int)<=(0:Int)*1000000))/\(∀(b:Int) (d:G Int),let p:=A.at' (toNat b);let o:=decide (b<(A.n:Int));let h:=i64 (b+1);(0<=b/\b<=(A.n:Int)/\(d.n:Int)<=b*1000000)->((o=true->(((0:Int)<=b/\b<(A.n:Int))/\(d.n+p.n<=549755813888)))/\(o=true->((0<=h/\h<=(A.n:Int)/\(((d.n+p.n):Nat):Int)<=h*1000000)/\(toNat ((A.n:Int)-h))<(toNat ((A.n:Int)-b)))))))))) (ct (aJ axq a2)) Tryz.func105 (⟨⟨Ω,(λe l y=>⟨(λm=>⟨(by have:=an m;omega),(λt=>(by have:=an m;have:=an t;have:=c.2 (toNat l) Ω;have:=E (e+((A.at' (toNat l)).n:Int));omega))⟩),⟨(λu=>(λv=>(by have:=an u;have:=c.2 (toNat l) Ω;have:=E (l+1);have:=E (e+((A.at' (toNat l)).n:Int));omega))),(λw=>(by have:=c.1;omega))⟩⟩)⟩,(λx=>⟨Ω,⟨Ω,(λb d z=>⟨(λn=>⟨(by have:=an n;omega),(by have:=an n;have:=c.1;have:=c.2 (toNat b) Ω;omega)⟩),(λq=>(by have:=an q;have:=c.2 (toNat b) Ω;have:=E (b+1);omega))⟩)⟩⟩)⟩)
def h9(A:Int):G Int:=(G.lit ([(u8 (A/2^(toNat 16))),(u8 (A/2^(toNat 8))),(u8 A)]:List Int))
def alQ:bq:=⟨[.v a],λA=>⟨⟨none,(aH.ad bo).av (h9 A)⟩⟩⟩
def ags:bx 106 alQ:=bA Tryz.func106
 λ(A:Int)=>bD ⟨.own bo,[.tmp 2],[(.h 0 0,.ad bo)],⟨[],[]⟩⟩ (.z) (((0:Int)<=16/\(16:Int)<=64)/\((0:Int)<=8/\(8:Int)<=64)) fx Tryz.func106 (⟨Ω,Ω⟩)
def ph(A:Int):(h9 A).n=3:=rfl
def jB(A:Int)(g:Int)(r:Int)(h:Int)(o:Int)(c:Int)(v:Bool)(y:Int)(p:Int)(x:Int)(ai:u)(bn:u)(bY:u)(b9:Int)(ch:Int)(dj:Int)(c8:Int)(c4:G N)(c9:Int)(c5:G ar):G Int:=(cond (A==1) (G.app (G.app (G.lit ([1]:List Int)) (h9 g)) (G.lit ([(u8 (i64 (r+1)))]:List Int))) (cond (A==2) (G.app (G.app (G.lit ([2]:List Int)) (h9 h)) (qd o c v y p x ai bn bY b9)) (te (G.lit ([(G.lit ([3]:List Int)),(h9 ch),(h9 dj),(jE c8 c4 c9 c5)]:List (G Int))))))
def alO:bq:=⟨[.g [a,a,a,a,a,a,K,a,a,a,al,al,al,a,a,a,a,.ab bp,a,.ab bZ]],λ(A:Int) (g:Int) (r:Int) (h:Int) (o:Int) (c:Int) v (y:Int) (p:Int) (x:Int) ai bn bY (b9:Int) (ch:Int) (dj:Int) (c8:Int) c4 (c9:Int) c5=>⟨⟨some (ai.size<=10000000000/\bn.size<=10000000000/\bY.size<=10000000000),(aH.ad bo).av (jB A g r h o c v y p x ai bn bY b9 ch dj c8 c4 c9 c5)⟩⟩⟩
def aw1:bx 104 alO:=bA Tryz.func104
 λ(A:Int) (g:Int) (r:Int) (h:Int) (o:Int) (c:Int) v (y:Int) (p:Int) (x:Int) ai q bn s bY t (b9:Int) (ch:Int) (dj:Int) (c8:Int) c4 u a (c9:Int) c5 w b f=>bD ⟨.own bo,[.tmp 2],[(.h 0 0,.ad bo)],⟨[],[]⟩⟩ (.z) ((((A==1)=true->((1+(h9 g).n<=549755813888)/\((1+(h9 g).n)+1<=549755813888)))/\((A==1)=false->((A==2)=true->((ai.size<=10000000000/\bn.size<=10000000000/\bY.size<=10000000000)/\((1+(h9 h).n<=549755813888)/\((1+(h9 h).n)+(qd o c v y p x ai bn bY b9).n<=549755813888))))))/\((A==1)=false->((A==2)=false->(z5 (G.lit ([(G.lit ([3]:List Int)),(h9 ch),(h9 dj),(jE c8 c4 c9 c5)]:List (G Int))))))) (ct (aJ Nn (aJ agQ (aJ agr (aJ ags a2))))) Tryz.func104 (have⟨l,m,n⟩:=f;have:=AQ a;have:=Ev b;⟨⟨(λi=>⟨(by have:=ph g;omega),(by have:=ph g;omega)⟩),(λj=>(λk=>⟨Ω,⟨(by have:=ph h;omega),(by have:=ph h;have:=ag8 o c v y p x ai bn bY b9;omega)⟩⟩))⟩,(λd=>(λe=>(by have:=dc d;have:=dc e;have:=ph ch;have:=ph dj;have:=ag9 c8 c4 c9 c5 (by repeat first|assumption|apply sX|apply sY|apply uK|apply q9|apply wq|apply mA|apply r1|apply uz|apply uy|apply sd|apply rR|apply rS|apply ig|apply uI|apply xl|apply lV|apply j3|apply ov|apply And.intro);have:(G.lit ([3]:List Int)).n=1:=rfl;have:(G.lit ([(G.lit ([3]:List Int)),(h9 ch),(h9 dj),(jE c8 c4 c9 c5)]:List (G Int))).n=4:=rfl;(first|exact Rp Ω Ω Ω|exact Rq Ω Ω Ω Ω|assumption))))⟩)
def Zg(s:G (G Int))(h:z5 s):(te s).B=cat (λi=>(s.at' i).B) s.n 0:=by
 have a:(KG s).B=(B:G Int).B++cat (λi=>(s.at' i).B) s.n 0:=
  CH (KF s) s.n 1000000 0 (λi t=>G.app t (s.at' (toNat i))) (λi=>(s.at' i).B) (by have:=h.1;omega) (λ_ _ _=>rfl) (λi t b _=>by
   have:=h.2 i b;simp only[gi];exact⟨iL _ _,by rw[bc];omega⟩) _ (bN _)
 show(KG s).B=_;rw[a,w2,qP]
def akq{a b c:G Int}(d:a.n<=1000000)(e:b.n<=1000000)(f:c.n<=1000000):(te (G.lit [a,b,c])).B=a.B++(b.B++c.B):=by
 rw[Zg _ (Rp d e f)];show a.B++(b.B++(c.B++[]))=_;rw[im]
def Zh{a b c d:G Int}(e:a.n<=1000000)(f:b.n<=1000000)(g:c.n<=1000000)(h:d.n<=1000000):(te (G.lit [a,b,c,d])).B=a.B++(b.B++(c.B++d.B)):=by
 rw[Zg _ (Rq e f g h)];show a.B++(b.B++(c.B++(d.B++[])))=_;rw[im]
def azn(A g r h o c:Int)(v:Bool)(y p x:Int)(ai bn bY:u)(b9 ch dj c8:Int)(c4:G N)(c9:Int)(c5:G ar)(a:dA c4/\eH c5):
  ai.size<=10000000000/\bn.size<=10000000000/\bY.size<=10000000000->(jB A g r h o c v y p x ai bn bY b9 ch dj c8 c4 c9 c5).n<=50000000000:=λb=>by
 unfold jB
 cases (A==1)
 .simp only[aX]
  cases (A==2)
  .simp only[aX];have l:=ag9 c8 c4 c9 c5 a;rw[<-bc,Zh (by show 1<=_;omega) (by rw[ph];omega) (by rw[ph];omega) Ω];simp only[dq,bc,ph,G.na,dy,fs];omega
  .have l:=ag8 o c v y p x ai bn bY b9 b;simp only[aR,G.pI,G.na,ph,dy,fs];omega
 .simp only[aR,G.pI,G.na,ph,dy,fs];omega
section
variable(A:G Int)(g:Int)(r:Int)(h:Int)(o:Int)(c:Int)(v:Int)(y:Int)(p:Bool)(x:Int)(ai:Int)(bn:Int)(bY:u)(b9:u)(ch:u)(dj:Int)(c8:Int)(c4:Int)(c9:Int)(c5:G N)(gg:Int)(gh:G ar)
def vk:Bool:=(cond (decide (g<0)) true (cond (decide (g>(A.n:Int))) true (decide ((A.n:Int)>400000))))
def bH:G Int:=(cond (vk A g) (B:G Int) A)
def kk:Int:=(cond (vk A g) 0 g)
def hE:Bool:=(cond (vk A g) false true)
def akP:bq:=⟨[.g [.ab bo,a]],λA g=>⟨⟨none,.dp [.agg [aP 1 cZ (bH A g),b (kk A g)],.bool (hE A g)]⟩⟩⟩
theorem M9:bx 95 akP:=bA Tryz.func95
 λA _ _ (g:Int)=>bD ⟨.pure,[.cell 2 78,.tmp 3],[(.c 0 0,.ab bo),(.c 0 1,a),(.t 1,K)],⟨[.agg (us 2 []),U],[]⟩⟩ (.ae (.s (.j ⟨1048590,[],[(.t 20,K)],[],.f⟩ .z .z) .z)) True (ct (aJ ago a2)) Tryz.func95 (trivial)
theorem rT(A:G Int)(g:Int)(h:hE A g=true):(0<=kk A g/\kk A g<=((bH A g).n:Int))/\(bH A g).n<=400000:=by
 unfold hE at h
 cases a:vk A g with
 |true=>rw[a]at h;simp at h
 |false=>
  simp only[kk,bH,a,aX];simp [vk]at a;omega
theorem ll{A:G Int}{g:Int}(h:aK A):aK (bH A g):=by
 unfold bH
 cases vk A g
 .exact h
 .exact λ_=>⟨aZ 0,(by decide:(0:Int)<=255)⟩
def yN:G Int:=(cond (!(hE A g)) (B:G Int) (cond ((fA r h o c v y p x ai bn bY b9 ch dj c8 c4 c9 c5 gg gh)!=0) (B:G Int) (cond (decide ((i64 ((i64 (((bH A g).n:Int)+3))+(((jB r h o c v y p x ai bn bY b9 ch dj c8 c4 c9 c5 gg gh).n:Nat):Int)))>400000)) (B:G Int) (te (G.lit ([(bH A g),(h9 (((jB r h o c v y p x ai bn bY b9 ch dj c8 c4 c9 c5 gg gh).n:Nat):Int)),(jB r h o c v y p x ai bn bY b9 ch dj c8 c4 c9 c5 gg gh)]:List (G Int)))))))
def Mh:Int:=(cond (!(hE A g)) 0 (cond ((fA r h o c v y p x ai bn bY b9 ch dj c8 c4 c9 c5 gg gh)!=0) 0 (cond (decide ((i64 ((i64 (((bH A g).n:Int)+3))+(((jB r h o c v y p x ai bn bY b9 ch dj c8 c4 c9 c5 gg gh).n:Nat):Int)))>400000)) 0 (kk A g))))
def vZ:Int:=(cond (!(hE A g)) 13 (cond ((fA r h o c v y p x ai bn bY b9 ch dj c8 c4 c9 c5 gg gh)!=0) (fA r h o c v y p x ai bn bY b9 ch dj c8 c4 c9 c5 gg gh) (cond (decide ((i64 ((i64 (((bH A g).n:Int)+3))+(((jB r h o c v y p x ai bn bY b9 ch dj c8 c4 c9 c5 gg gh).n:Nat):Int)))>400000)) 6 0)))
def anC:bq:=⟨[.g [.ab bo,a],.g [a,a,a,a,a,a,K,a,a,a,al,al,al,a,a,a,a,.ab bp,a,.ab bZ]],λA (g:Int) (r:Int) (h:Int) (o:Int) (c:Int) (v:Int) (y:Int) p (x:Int) (ai:Int) (bn:Int) bY b9 ch (dj:Int) (c8:Int) (c4:Int) (c9:Int) c5 (gg:Int) gh=>⟨⟨some (bY.size<=10000000000/\b9.size<=10000000000/\ch.size<=10000000000),.dp [.agg [aP 1 cZ (yN A g r h o c v y p x ai bn bY b9 ch dj c8 c4 c9 c5 gg gh),b (Mh A g r h o c v y p x ai bn bY b9 ch dj c8 c4 c9 c5 gg gh)],b (vZ A g r h o c v y p x ai bn bY b9 ch dj c8 c4 c9 c5 gg gh)]⟩⟩⟩
theorem ayn:bx 90 anC:=bA Tryz.func90
 λA s _ (g:Int) (r:Int) (h:Int) (o:Int) (c:Int) (v:Int) (y:Int) p (x:Int) (ai:Int) (bn:Int) bY t b9 u ch w (dj:Int) (c8:Int) (c4:Int) (c9:Int) c5 z d (gg:Int) gh B e k=>bD ⟨.pure,[.cell 4 78,.tmp 5],[(.c 0 0,.ab bo),(.c 0 1,a),(.t 1,a)],⟨[.agg (us 2 []),U],[]⟩⟩ (.z) (let b:=jB r h o c v y p x ai bn bY b9 ch dj c8 c4 c9 c5 gg gh;(!(hE A g))=false->(((fA r h o c v y p x ai bn bY b9 ch dj c8 c4 c9 c5 gg gh)!=0)=false->((bY.size<=10000000000/\b9.size<=10000000000/\ch.size<=10000000000)/\((decide ((i64 ((i64 (((bH A g).n:Int)+3))+(b.n:Int)))>400000))=false->(z5 (G.lit ([(bH A g),(h9 (b.n:Int)),b]:List (G Int)))))))) (ct (aJ Wa (aJ M9 (aJ aw1 (aJ agr (aJ ags a2)))))) Tryz.func90 (have⟨m,n,q⟩:=k;have:=AQ d;have:=Ev e;(λf=>(λi=>⟨Ω,(λj=>(by have:=rT _ _ (by simpa using f);have l:=apc (by first|assumption|exact iu.z Ψ) (by first|assumption|exact ir.y Ψ) (bK i);have:=hX j;have:=ph (((jB r h o c v y p x ai bn bY b9 ch dj c8 c4 c9 c5 gg gh).n:Nat):Int);have:=azn r h o c v y p x ai bn bY b9 ch dj c8 c4 c9 c5 gg gh (by repeat first|assumption|apply sX|apply sY|apply uK|apply q9|apply wq|apply mA|apply r1|apply uz|apply uy|apply sd|apply rR|apply rS|apply ig|apply uI|apply xl|apply lV|apply j3|apply ov|apply And.intro);have:(G.lit ([(bH A g),(h9 (((jB r h o c v y p x ai bn bY b9 ch dj c8 c4 c9 c5 gg gh).n:Nat):Int)),(jB r h o c v y p x ai bn bY b9 ch dj c8 c4 c9 c5 gg gh)]:List (G Int))).n=3:=rfl;have:=E (((bH A g).n:Int)+3);have:=E ((i64 (((bH A g).n:Int)+3))+(((jB r h o c v y p x ai bn bY b9 ch dj c8 c4 c9 c5 gg gh).n:Nat):Int));(first|exact Rp Ω Ω Ω|exact Rq Ω Ω Ω Ω|assumption)))⟩)))
end
section
variable(A:G Int)(g:Int)(r:Int)
def BX:G Int:=(cond (!(hE A g)) (B:G Int) (bH A g))
def Lp:Int:=(cond (!(hE A g)) 0 ((bH A g).n:Int))
def asa:Int:=(cond (!(hE A g)) 13 0)
def amT:bq:=⟨[.g [.ab bo,a]],λA g=>⟨⟨none,.dp [.agg [aP 1 cZ (BX A g),b (Lp A g)],b (asa A g)]⟩⟩⟩
def ax2:bx 82 amT:=bA Tryz.func82
 λA _ _ (g:Int)=>bD ⟨.pure,[.cell 2 78,.tmp 3],[(.c 0 0,.ab bo),(.c 0 1,a),(.t 1,a)],⟨[.agg (us 2 []),U],[]⟩⟩ (.z) True (ct (aJ M9 a2)) Tryz.func82 (trivial)
def qb:G Int:=(cond (!(hE A g)) (B:G Int) (cond (decide (r<0)) (B:G Int) (G.part (bH A g) 0 (i64 ((kk A g)+(ff r (i64 (((bH A g).n:Int)- (kk A g)))))))))
def vR:Int:=(cond (!(hE A g)) 0 (cond (decide (r<0)) 0 (i64 ((kk A g)+(ff r (i64 (((bH A g).n:Int)- (kk A g))))))))
def asg:Int:=(cond (!(hE A g)) 13 (cond (decide (r<0)) 2 0))
def ane:bq:=⟨[.g [.ab bo,a],.v a],λA g r=>⟨⟨none,.dp [.agg [aP 1 cZ (qb A g r),b (vR A g r)],b (asg A g r)]⟩⟩⟩
def ayi:bx 83 ane:=bA Tryz.func83
 λA e _ (g:Int) (r:Int)=>bD ⟨.pure,[.cell 4 78,.tmp 5],[(.c 0 0,.ab bo),(.c 0 1,a),(.t 1,a)],⟨[.agg (us 2 []),U],[]⟩⟩ (.z) (let b:=i64 ((kk A g)+(ff r (i64 (((bH A g).n:Int)- (kk A g)))));(!(hE A g))=false->((decide (r<0))=false->(((0:Int)<=0)/\((0:Int)<=b)/\((b:Int)<=b)/\((b:Int)<=(((bH A g).n:Nat):Int))))) (ct (aJ M9 a2)) Tryz.func83 ((λc=>(λd=>(by have:=rT _ _ (by simpa using c);have:=hX d;have:=lP r (i64 (((bH A g).n:Int)- (kk A g)));have:=E (((bH A g).n:Int)- (kk A g));have:=E ((kk A g)+(ff r (i64 (((bH A g).n:Int)- (kk A g)))));omega))))
end
structure lv (x:R):Prop where
 zG:x.P.size<=10000000000
 zH:x.aw.size<=10000000000
 zI:x.f.size<=10000000000
structure pG (r:bm):Prop where
 aDj:r.bX.size<=10000000000
 aDk:r.b_.size<=10000000000
 aDl:r.b2.size<=10000000000
def uz(a b c d:Int):pG ⟨a,b,c,d,0,0,false,0,0,0,⟨#[]⟩,⟨#[]⟩,⟨#[]⟩,0,0,0,0,B,0,B⟩:=⟨cp _,cp _,cp _⟩
def uy{a b f d A g:Int}{r:Bool}{h o c:Int}{v y p:u}{x:Int}(e:lv ⟨A,g,r,h,o,c,v,y,p,x⟩):pG ⟨a,b,f,d,A,g,r,h,o,c,v,y,p,x,0,0,0,B,0,B⟩:=⟨e.zG,e.zH,e.zI⟩
def sd{a b c d e f g:Int}{s:G N}{k:Int}{l:G ar} :pG ⟨a,b,c,d,0,0,false,0,0,0,⟨#[]⟩,⟨#[]⟩,⟨#[]⟩,0,e,f,g,s,k,l⟩:=⟨cp _,cp _,cp _⟩
def Jn{α:Type}{s:G α}(c:Bool)(a b:G α)(h:s=bif c then a else b):s.n=a.n\/s.n=b.n:=by
 subst h
 cases c
 .exact .inr rfl
 .exact .inl rfl
section
variable(i:Nat)(d:H)
def bP:Int:=(ks d.j d.lt d.li)
def p5:Int:=(yI d.j d.lt d.li)
def PA:dr:=⟨[.fC 0 (33*i)],ck,e0,eN,cP λC=>⟨⟨none,[b (bP (C.d i)),b (p5 (C.d i))],cu aO 0 C⟩⟩⟩
def anL:cT:=⟨.eR true [] [] (gJ i aO 0 [0,0] 2) (gF i aO),[.tmp 2,.tmp 3],[(.t 0,a),(.t 1,a)]++fT i aO,⟨[],[]⟩⟩
def ayQ(i:Nat)(a:i<3):e8 Tryz.prog 45 (PA i) ck [] (cP λC=>⟨⟨none,[b (bP (C.d i)),b (p5 (C.d i))],cu aO 0 C⟩⟩) []:=by
 refine gC λC c=>eC (anL i) (.z) True (b1 10 (aJ agJ a2) b0) Tryz.func45 [] ?_ ?_ trivial
 .rcases ca a with rfl|rfl|rfl<;>kernel_rfl
 .rcases ca a with rfl|rfl|rfl<;>kernel_rfl
def aBS(i:Nat)(a:i<3):gr 45 (PA i):=
 ayQ i a
def y_(i:Nat)(a:i<3):gu 45 (PA i):=gQ gB Tryz.func45 (aBS i a)
def eM:Int:=(p5 d)
def PU:dr:=⟨[.fC 0 (33*i)],ck,e0,eN,cP λC=>⟨⟨none,[b (eM (C.d i))],cu aO 0 C⟩⟩⟩
def ZZ:cT:=⟨.eR true [] [] (gJ i aO 0 [0] 1) (gF i aO),[.tmp 2],[(.t 0,a)]++fT i aO,⟨[],[]⟩⟩
def atq(C:aA):cw (ZZ i).cg:=(.ae (.ae (.bs ⟨([U,U,b 0,U,b (p5 (C.d i))]++(us 6 ([]))),cy aO 0 C []⟩ .z)))
def ay8(i:Nat)(a:i<3):e8 Tryz.prog 72 (PU i) ck [] (cP λC=>⟨⟨none,[b (eM (C.d i))],cu aO 0 C⟩⟩) []:=by
 refine gC λC c=>eC (ZZ i) (atq i C) True (b1 10 a2 (ay (y_ i a) b0)) Tryz.func72 [] ?_ ?_ trivial
 .rcases ca a with rfl|rfl|rfl<;>kernel_rfl
 .rcases ca a with rfl|rfl|rfl<;>kernel_rfl
def aB_(i:Nat)(a:i<3):gr 72 (PU i):=
 ay8 i a
def axX(i:Nat)(a:i<3):gu 72 (PU i):=gQ gB Tryz.func72 (aB_ i a)
end
section
variable(i:Nat)(rc:bm)(d:H)
def gn:Bool:=(cond ((vZ d.a_ d.br rc.q rc.F rc.z rc.M rc.w rc.C rc.P rc.aw rc.f rc.aD rc.bX rc.b_ rc.b2 rc.cm rc.bb rc.cO rc.eK rc.ek rc.eL rc.en)!=0) false true)
def vK:G Int:=(cond ((vZ d.a_ d.br rc.q rc.F rc.z rc.M rc.w rc.C rc.P rc.aw rc.f rc.aD rc.bX rc.b_ rc.b2 rc.cm rc.bb rc.cO rc.eK rc.ek rc.eL rc.en)!=0) d.a_ (yN d.a_ d.br rc.q rc.F rc.z rc.M rc.w rc.C rc.P rc.aw rc.f rc.aD rc.bX rc.b_ rc.b2 rc.cm rc.bb rc.cO rc.eK rc.ek rc.eL rc.en))
def Gi:Int:=(cond ((vZ d.a_ d.br rc.q rc.F rc.z rc.M rc.w rc.C rc.P rc.aw rc.f rc.aD rc.bX rc.b_ rc.b2 rc.cm rc.bb rc.cO rc.eK rc.ek rc.eL rc.en)!=0) d.br (Mh d.a_ d.br rc.q rc.F rc.z rc.M rc.w rc.C rc.P rc.aw rc.f rc.aD rc.bX rc.b_ rc.b2 rc.cm rc.bb rc.cO rc.eK rc.ek rc.eL rc.en))
def fO:H:={d with a_:=(vK rc d),br:=(Gi rc d)}
def PV:dr:=⟨[.fC 0 (33*i),.g [a,a,a,a,a,a,K,a,a,a,al,al,al,a,a,a,a,.ab bp,a,.ab bZ]],ck,e0,eN,λ(b:Int) (c:Int) (o:Int) (p:Int) (q:Int) (r:Int) s (t:Int) (u:Int) (v:Int) d e f (g:Int) (h:Int) (j:Int) (k:Int) l (m:Int) n=>cP λC=>⟨⟨some (pG (⟨b,c,o,p,q,r,s,t,u,v,d,e,f,g,h,j,k,l,m,n⟩:bm)),[.bool (gn (⟨b,c,o,p,q,r,s,t,u,v,d,e,f,g,h,j,k,l,m,n⟩:bm) (C.d i))],cu aO 0 (C.set i (fO (⟨b,c,o,p,q,r,s,t,u,v,d,e,f,g,h,j,k,l,m,n⟩:bm) (C.d i)))⟩⟩⟩
def anQ:cT:=⟨.eR true [] [] (gJ i aO 0 [0] 1) (gF i aO),[.tmp 4],[(.t 0,K)]++fT i aO,⟨[],[]⟩⟩
def XR(i:Nat)(rc:bm)(C:aA):Prop:=(rc.bX.size<=10000000000/\rc.b_.size<=10000000000/\rc.b2.size<=10000000000)
def aBm(i:Nat)(d:i<3)(rc:bm)(C:aA)(c:eP C)(e:rc.bX.size<=549755813888)(f:rc.b_.size<=549755813888)(g:rc.b2.size<=549755813888)(h:rc.ek.n<=549755813888)(j:rc.en.n<=549755813888)(a:pG rc):XR i rc C:=by
 have b:=g4 c i d;unfold fS at b;unfold XR;exact have:=a.aDj;have:=a.aDk;have:=a.aDl;(Ω)
def ay9(i:Nat)(a:i<3)(rc:bm)(e:rc.bX.size<=549755813888)(f:rc.b_.size<=549755813888)(g:rc.b2.size<=549755813888)(h:rc.ek.n<=549755813888)(j:rc.en.n<=549755813888):e8 Tryz.prog 73 (PV i) ck [] (cP λC=>⟨⟨some (pG rc),[.bool (gn rc (C.d i))],cu aO 0 (C.set i (fO rc (C.d i)))⟩⟩) [b rc.q,b rc.F,b rc.z,b rc.M,b rc.w,b rc.C,.bool rc.P,b rc.aw,b rc.f,b rc.aD,.str rc.bX,.str rc.b_,.str rc.b2,b rc.cm,b rc.bb,b rc.cO,b rc.eK,aP 8 gU rc.ek,b rc.eL,aP 7 hi rc.en]:=by
 refine gC λC c=>λd=>eC (anQ i) (.z) (XR i rc C) (b1 10 (aJ ayn a2) b0) Tryz.func73 ([.f]++List.replicate 29 .l++[.f,.f]++List.replicate 71 .l) ?_ ?_ (aBm i a rc C c e f g h j d)
 .rcases ca a with rfl|rfl|rfl<;>kernel_rfl
 .rcases ca a with rfl|rfl|rfl<;>kernel_rfl
def aCa(i:Nat)(c:i<3):gr 73 (PV i):=
 jR (bE:=[a,a,a,a,a,a,K,a,a,a,al,al,al,a,a,a,a,.ab bp,a,.ab bZ]) λs b=>Eq.mp (by rcases ca c with rfl|rfl|rfl<;>kernel_rfl) (ay9 i c ⟨s.1,s.2.1,s.2.2.1,s.2.2.2.1,s.2.2.2.2.1,s.2.2.2.2.2.1,s.2.2.2.2.2.2.1,s.2.2.2.2.2.2.2.1,s.2.2.2.2.2.2.2.2.1,s.2.2.2.2.2.2.2.2.2.1,s.2.2.2.2.2.2.2.2.2.2.1,s.2.2.2.2.2.2.2.2.2.2.2.1,s.2.2.2.2.2.2.2.2.2.2.2.2.1,s.2.2.2.2.2.2.2.2.2.2.2.2.2.1,s.2.2.2.2.2.2.2.2.2.2.2.2.2.2.1,s.2.2.2.2.2.2.2.2.2.2.2.2.2.2.2.1,s.2.2.2.2.2.2.2.2.2.2.2.2.2.2.2.2.1,s.2.2.2.2.2.2.2.2.2.2.2.2.2.2.2.2.2.1,s.2.2.2.2.2.2.2.2.2.2.2.2.2.2.2.2.2.2.1,s.2.2.2.2.2.2.2.2.2.2.2.2.2.2.2.2.2.2.2.1⟩ (b.2.2.2.2.2.2.2.2.2.2.1 rfl) (b.2.2.2.2.2.2.2.2.2.2.2.1 rfl) (b.2.2.2.2.2.2.2.2.2.2.2.2.1 rfl) (b.2.2.2.2.2.2.2.2.2.2.2.2.2.2.2.2.2.1 rfl) (b.2.2.2.2.2.2.2.2.2.2.2.2.2.2.2.2.2.2.2.1 rfl))
def Hn(i:Nat)(a:i<3):gu 73 (PV i):=gQ gB Tryz.func73 (aCa i a)
end
section
variable(i:Nat)(d:H)(L:G aj)
def BO(e:Int)(l:G aj):G aj:=(cond (decide ((l.n:Int)<300)) (G.app l (G.lit ([(d.bd.at' (toNat e))]:List aj))) l)
def p9(d:H):Nat->Int->G aj->G aj
 |0,_,_=>default
 |k+1,e,l=>(cond (decide (e<(d.bd.n:Int))) (p9 d k (i64 (e+1)) (BO d e l)) l)
def ar5:G aj:=p9 d ((toNat ((d.bd.n:Int)-0))+1) 0 L
def BN:G aj:=(ar5 d L)
def rA:H:={d with a_:=(BX d.a_ d.br),br:=(Lp d.a_ d.br),bd:=(B:G aj)}
def PR:dr:=⟨[.p 0,.fC 0 (33*i)],ck,e0,eN,cP λC=>⟨⟨none,[],cu (aO.set (2*i+1) 10) 1 (C.put i (rA (C.d i)) (BN (C.d i) C.ag) C.told C.bh)⟩⟩⟩
def ZX:cT:=⟨.eR true [] [.kill (2*i+2),.own (.h 0 (33*i+32)) cJ 10] (gJ i (aO.set (2*i+1) 10) 1 [] 0) (gF i (aO.set (2*i+1) 10)),[],[]++fT i (aO.set (2*i+1) 10),⟨[],[]⟩⟩
def ato(C:aA):cw (ZX i).cg:=(.ae (.j ⟨2,[],[],[],.f⟩ (.ae (.cX ⟨7340035,[],[],[(.t 22,a),(.h 7 0,.ad cJ)],some 0,false,2,[],[(.h 7 0,.ad cJ)],λk (s:Int×G aj)=>p9 (C.d i) k s.1 s.2,.f,λ(s:Int×G aj)=>((0<=s.1/\s.1<=(((C.d i).bd.n:Nat):Int))/\(s.2.n:Int)<=C.ag.n+(s.1-0)),λ(s:Int×G aj)=>(toNat ((((C.d i).bd.n:Nat):Int)-s.1)),some λ(r:G aj)=>(r.n:Int)<=C.ag.n+max ((((C.d i).bd.n:Nat):Int)-0) 0⟩ (.ae (.ae (.j ⟨3757047843,[.b 11],[(.h 7 0,.ad cJ)],[],.f⟩ .z .z))))) .z))
def XO(i:Nat)(C:aA):Prop:=((((0<=(0:Int)/\(0:Int)<=(((C.d i).bd.n:Nat):Int))/\(C.ag.n:Int)<=C.ag.n+((0:Int)-0)))/\(∀(e:Int) (l:G aj),((0<=e/\e<=(((C.d i).bd.n:Nat):Int))/\(l.n:Int)<=C.ag.n+(e-0))->(((decide (e<(((C.d i).bd.n:Nat):Int)))=true->((((0:Int)<=e/\e<(((C.d i).bd.n:Nat):Int))/\((toNat e)<(C.d i).bd.n))/\((decide ((l.n:Int)<300))=true->(l.n+1<=549755813888))))/\(((decide (e<(((C.d i).bd.n:Nat):Int)))=true->(((0<=(i64 (e+1))/\(i64 (e+1))<=(((C.d i).bd.n:Nat):Int))/\(((BO (C.d i) e l).n:Nat):Int)<=C.ag.n+((i64 (e+1))-0))/\(toNat ((((C.d i).bd.n:Nat):Int)- (i64 (e+1))))<(toNat ((((C.d i).bd.n:Nat):Int)-e))))/\((decide (e<(((C.d i).bd.n:Nat):Int)))=false->((l.n:Int)<=C.ag.n+max ((((C.d i).bd.n:Nat):Int)-0) 0))))))
def aBj(i:Nat)(h:i<3)(C:aA)(f:eP C):XO i C:=by
 have d:=g4 f i h;unfold fS at d;unfold XO;exact(⟨Ω,(λe l k=>⟨(λa=>⟨⟨(by have:=an a;omega),(by have:=an a;omega)⟩,(λb=>(by have:=an b;omega))⟩),⟨(λc=>(by have:=an c;have g:=Jn (s:=(BO (C.d i) e l)) _ _ _ rfl;(try simp only[G.pI,G.na,G.uw,dy,fs]at g);have:=E (e+1);omega)),(λj=>Ω)⟩⟩)⟩)
def ay5(i:Nat)(a:i<3):e8 Tryz.prog 61 (PR i) ck [] (cP λC=>⟨⟨none,[],cu (aO.set (2*i+1) 10) 1 (C.put i (rA (C.d i)) (BN (C.d i) C.ag) C.told C.bh)⟩⟩) []:=by
 refine gC λC b=>eC (ZX i) (ato i C) (XO i C) (b1 10 (aJ ax2 a2) b0) Tryz.func61 [] ?_ ?_ (aBj i a C b)
 .rcases ca a with rfl|rfl|rfl<;>kernel_rfl
 .rcases ca a with rfl|rfl|rfl<;>kernel_rfl
def aB7(i:Nat)(a:i<3):gr 61 (PR i):=
 ay5 i a
def axT(i:Nat)(a:i<3):gu 61 (PR i):=gQ gB Tryz.func61 (aB7 i a)
end
def r1{t k a b c z:Int}{d:Bool}{e f g:u}(h:e.size<=10000000000)(i:f.size<=10000000000)(j:g.size<=10000000000):lv ⟨t,k,d,a,b,c,e,f,g,z⟩:=⟨h,i,j⟩
section
variable(A:Int)(r:u)(h:u)(o:Int)(c:Int)(v:u)(y:Int)(p:G bt)(x:G u)(ai:G bG)
def vp:Int:=(cond (A==1) oY (cond (A==2) 0 (cond (A==3) (cond (!(jf (i64 (y+o)))) (rk 7) oY) (cond (A==17) oY (cond (A==18) 0 (cond (c==3) (adB A r p) (cond (c==4) (adG A x) (cond (c==5) (adM A h x) (adR A h ai)))))))))
def acZ:u:=(cond (A==1) oZ (cond (A==2) v (cond (A==3) (cond (!(jf (i64 (y+o)))) tf oZ) (cond (A==17) oZ (cond (A==18) ⟨#[]⟩ (cond (c==3) (adC A r p) (cond (c==4) (adH A x) (cond (c==5) (adN A h x) (adS A h ai)))))))))
def ac0:Int:=let a:=i64 (y+o);(cond (A==1) (mU 0) (cond (A==2) 0 (cond (A==3) (cond (!(jf a)) tg (mU a)) (cond (A==17) (mU (km p x ai)) (cond (A==18) 0 (cond (c==3) (adD A r p) (cond (c==4) (adI A x) (cond (c==5) (adO A h x) (adT A h ai)))))))))
def ac1:G u:=(cond (A==1) o0 (cond (A==2) (B:G u) (cond (A==3) (cond (!(jf (i64 (y+o)))) th o0) (cond (A==17) o0 (cond (A==18) (Tu p x ai) (cond (c==3) (adE A r p) (cond (c==4) (adJ A x) (cond (c==5) (adP A h x) (adU A h ai)))))))))
def S5:Int:=(cond (A==1) 1 c)
def ac2:u:=(cond (A==1) h v)
def ac3:Int:=let a:=i64 (y+o);(cond (A==1) 0 (cond (A==2) y (cond (A==3) (cond (!(jf a)) y a) y)))
def S6:G bt:=(cond (A==1) (B:G bt) (cond (A==2) p (cond (A==3) p (cond (A==17) p (cond (A==18) p (cond (c==3) (adF A r h p) p))))))
def S7:G u:=(cond (A==1) (B:G u) (cond (A==2) x (cond (A==3) x (cond (A==17) x (cond (A==18) x (cond (c==3) x (cond (c==4) (adK A h x) (cond (c==5) (adQ A h x) x))))))))
def S_:G bG:=(cond (A==1) (B:G bG) (cond (A==2) ai (cond (A==3) ai (cond (A==17) ai (cond (A==18) ai (cond (c==3) ai (cond (c==4) ai (cond (c==5) ai (adV A h o ai)))))))))
def alV:cf:=⟨[.p 0,.g [a,al,al,al,a]],[(.h 0 0,a),(.h 0 1,al),(.h 0 2,a),(.h 1 0,.ad dd),(.h 2 0,.ad bV),(.h 3 0,.ad c3)],[[U,U,U,.own 1 0,.own 2 0,.own 3 0],[U],[U],[U]],λ(A:Int) _ r h (o:Int) (c:Int) v (y:Int) p x ai=>⟨⟨some (p.n<=1000000/\x.n<=1000000/\ai.n<=1000000/\(c≠4\/(7<=A/\A<=8)\/1<=x.n)),[.agg [b (vp A r h o c y p x ai),.str (acZ A r h o c v y p x ai),b (ac0 A r h o c y p x ai),aP 1 cU (ac1 A r h o c y p x ai)]],[[b (S5 A c),.str (ac2 A h v),b (ac3 A o y),aP 2 fU (S6 A r h c p),aP 1 cU (S7 A h c x),aP 2 fV (S_ A h o c ai)],[dB],[dB],[dB]]⟩⟩⟩
theorem aw5:dV 180 alV:=ea Tryz.func180
 λ(A:Int) g I r K h L (o:Int) (c:Int) v M (y:Int) p N x O ai J d=>dU (ms:=[.f,.f,.f,.f,(.b .f .l),(.b .f .l),(.b .f (.b .f (.b .f .l))),(.b .f (.b .f (.b .l (.b .f (.b .f (.b .f .l)))))),(.b .f (.b .f (.b .l .f))),(.b .f (.b .f (.b .l .f)))]) ⟨.lO true [] [.lA (.h 0 3) dd,.kill 1,.lA (.h 0 4) bV,.kill 2,.lA (.h 0 5) c3,.kill 3],[.cell 4 55],[(.c 0 0,a),(.c 0 1,al),(.c 0 2,a),(.c 0 3,.ab bV),(.h 0 0,a),(.h 0 1,al),(.h 0 2,a),(.h 0 3,.ab dd),(.h 0 4,.ab bV),(.h 0 5,.ab c3)],⟨[.agg [U,U,U,U]],[[U,U,U,U,U,U],[dB],[dB],[dB]]⟩⟩ (.z) (((A==1)=false->((A==2)=false->((A==3)=false->((A==17)=false->((A==18)=true->(p.n<=100000000000/\x.n<=100000000000/\ai.n<=100000000000))))))/\((A==1)=false->((A==2)=false->((A==3)=false->((A==17)=false->((A==18)=false->((((c==3)=true->(p.n<=1000000))/\((c==3)=false->(((c==4)=true->(x.n<=1000000/\((7<=A/\A<=8)\/1<=x.n)))/\((c==4)=false->((c==5)=true->(x.n<=1000000))))))/\((c==3)=false->((c==4)=false->((c==5)=false->(ai.n<=1000000))))))))))) (b1 4 (aJ M_ (aJ V0 (aJ CB (aJ Hm (aJ axr a2))))) (ay axs (ay axt (ay axu (ay axv b0))))) Tryz.func180 (have⟨E,F,G,H⟩:=d;⟨(λe=>(λs=>(λt=>(λu=>(λw=>Ω))))),(λz=>(λB=>(λC=>(λD=>(λf=>⟨⟨(λi=>Ω),(λj=>⟨(λb=>(by have:=eq_of_beq b;omega)),(λk=>(λl=>Ω))⟩)⟩,(λm=>(λn=>(λq=>Ω)))⟩)))))⟩)
end
structure anW (A:Int) (g:u) (r:Int) (Yo:G bt) (Yp:G u) (Ys:G bG):Prop where
 k:1<=A/\A<=6
 t:A≠1->g=⟨#[]⟩
 i:A≠2->r=0
 a3:A≠3->Yo.n=0
 a4:A≠4->A≠5->Yp.n=0
 fu:A≠6->Ys.n=0
 jv:A=3->1<=Yo.n/\Yo.n<=20
 mK:A=4\/A=5->1<=Yp.n/\Yp.n<=20
 l6:A=6->1<=Ys.n/\Ys.n<=20
def aax{x:u}(h:(!(x.toList==(⟨#[]⟩:u).toList))=false):x=⟨#[]⟩:=by
 have h:x.toList=(⟨#[]⟩:u).toList:=by simpa using h
 have a:x.data.toList=[]:=by
  have e: ∀y:u,y.toList=y.data.toList:=λy=>ByteArray.toList_eq y;rw[e,e]at h;exact h
 cases x with
 |mk d=>cases d with
  |mk l=>simp at a;subst a;rfl
def aDs(A:Int)(g:u)(r:Int)(b:G bt)(c:G u)(d:G bG)(t:b.n<=1048576)(v:c.n<=1048576)(w:d.n<=1048576)(h:iT A g r b c d=0):anW A g r b c d:=by
 unfold iT at h;obtain⟨l,h⟩:=dv h Δ;obtain⟨a,h⟩:=dv h Δ;obtain⟨j,_⟩:=dv h Δ;unfold tD at l;obtain⟨n,o⟩:=c2 l;have C:=df n;have z:=df o;unfold m0 aeJ aeK tE tF tG at a;obtain⟨m,a⟩:=c2 a;obtain⟨f,a⟩:=c2 a;unfold o_ at j;have k:A=1\/A=2\/A=3\/A=4\/A=5\/A=6:=by omega
 have D:(B:G bt).n=0:=rfl;have E:(B:G u).n=0:=rfl;have F:(B:G bG).n=0:=rfl;have a:=df a;have p:3<=A-> ¬(km b c d<1)/\ ¬(km b c d>20):=λi=>by
  rw[bM (show A>=3 by omega)]at j;obtain⟨q,s⟩:=c2 j;exact⟨df q,df s⟩
 rw[YN _ _ _ t v w]at p;have x:A≠1->g=⟨#[]⟩:=λi=>by
  rw[show(A==1)=false from fl.2 i]at m;exact aax m
 have y:A≠2->r=0:=λi=>by
  rw[show(A==2)=false from fl.2 i]at f;have f:=bK f;revert f
  cases (A==1)<;>exact id
 rcases k with e|e|e|e|e|e<;>subst e<;>
 simp only[pA,Int.reduceBEq,aR,aX]at a<;>
 rw[YN _ _ _ Ω Ω Ω]at a<;>
 exact⟨Ω,x,y,Ω,Ω,Ω,Ω,Ω,Ω⟩
section
variable(A:Int)(g:u)(r:Int)(h:G bt)(o:G u)(c:G bG)(v:Int)(y:u)(p:u)(x:u)(ai:Int)
def AY:Bool:=(cond (A==0) (cond ((g:u).toList==(⟨#[]⟩:u).toList) (cond (r==0) ((km h o c)==0) false) false) false)
def l_:Bool:=(cond ((iT A g r h o c)!=0) (!(AY A g r h o c)) false)
def Su:Bool:=(cond (AY A g r h o c) (!(Bl v)) false)
def acy:Bool:=(cond ((Bk v)!=0) ((Bk v)!=A) false)
def aq8:Bool:=(cond (decide (v>=17)) (decide (A<3)) false)
def aq9:Bool:=(cond (acy A v) (acy A v) (aq8 A v))
def kj:Int:=(cond (AY A g r h o c) (Bk v) (Bi A))
def nJ:Bool:=(cond (Su A g r h o c v) false (cond (AY A g r h o c) true (cond (aq9 A v) false true)))
def AZ:Bool:=let a:=kj A g r h o c v;(cond (decide ((S5 v a)>=3)) ((km (S6 v p x a h) (S7 v x a o) (S_ v x ai a c))==0) false)
def aq2:Int:=(cond (AZ A g r h o c v p x ai) 0 (S5 v (kj A g r h o c v)))
def aq3:u:=(cond (AZ A g r h o c v p x ai) ⟨#[]⟩ (ac2 v x (Bj g)))
def aq4:Int:=(cond (AZ A g r h o c v p x ai) 0 (ac3 v ai (mb r)))
def aq5:G bt:=(cond (AZ A g r h o c v p x ai) (B:G bt) (S6 v p x (kj A g r h o c v) h))
def aq6:G u:=(cond (AZ A g r h o c v p x ai) (B:G u) (S7 v x (kj A g r h o c v) o))
def aq7:G bG:=(cond (AZ A g r h o c v p x ai) (B:G bG) (S_ v x ai (kj A g r h o c v) c))
def JZ:Int:=(cond (l_ A g r h o c) 0 (cond ((fw v y p x ai)!=0) 0 (cond (decide (v>18)) 0 (cond (nJ A g r h o c v) (cond ((vp v p x ai (kj A g r h o c v) (mb r) h o c)!=0) (Bi A) (Bi (aq2 A g r h o c v p x ai))) (Bi A)))))
def acu:u:=(cond (l_ A g r h o c) ⟨#[]⟩ (cond ((fw v y p x ai)!=0) ⟨#[]⟩ (cond (decide (v>18)) ⟨#[]⟩ (cond (nJ A g r h o c v) (cond ((vp v p x ai (kj A g r h o c v) (mb r) h o c)!=0) (Bj g) (Bj (aq3 A g r h o c v p x ai))) (Bj g)))))
def acv:Int:=(cond (l_ A g r h o c) 0 (cond ((fw v y p x ai)!=0) 0 (cond (decide (v>18)) 0 (cond (nJ A g r h o c v) (cond ((vp v p x ai (kj A g r h o c v) (mb r) h o c)!=0) (mb r) (mb (aq4 A g r h o c v p x ai))) (mb r)))))
def Sq:G bt:=(cond (l_ A g r h o c) (B:G bt) (cond ((fw v y p x ai)!=0) (B:G bt) (cond (decide (v>18)) (B:G bt) (cond (nJ A g r h o c v) (cond ((vp v p x ai (kj A g r h o c v) (mb r) h o c)!=0) h (aq5 A g r h o c v p x ai)) h))))
def Sr:G u:=(cond (l_ A g r h o c) (B:G u) (cond ((fw v y p x ai)!=0) (B:G u) (cond (decide (v>18)) (B:G u) (cond (nJ A g r h o c v) (cond ((vp v p x ai (kj A g r h o c v) (mb r) h o c)!=0) o (aq6 A g r h o c v p x ai)) o))))
def Ss:G bG:=(cond (l_ A g r h o c) (B:G bG) (cond ((fw v y p x ai)!=0) (B:G bG) (cond (decide (v>18)) (B:G bG) (cond (nJ A g r h o c v) (cond ((vp v p x ai (kj A g r h o c v) (mb r) h o c)!=0) c (aq7 A g r h o c v p x ai)) c))))
def EF:Int:=(cond (l_ A g r h o c) 0 (cond ((fw v y p x ai)!=0) 0 (cond (decide (v>18)) 0 (cond (nJ A g r h o c v) (vp v p x ai (kj A g r h o c v) (mb r) h o c) (cond (Su A g r h o c v) (rk 5) (rk 4))))))
def acw:u:=(cond (l_ A g r h o c) ⟨#[]⟩ (cond ((fw v y p x ai)!=0) ⟨#[]⟩ (cond (decide (v>18)) ⟨#[]⟩ (cond (nJ A g r h o c v) (acZ v p x ai (kj A g r h o c v) (Bj g) (mb r) h o c) tf))))
def acx:Int:=(cond (l_ A g r h o c) 0 (cond ((fw v y p x ai)!=0) 0 (cond (decide (v>18)) 0 (cond (nJ A g r h o c v) (ac0 v p x ai (kj A g r h o c v) (mb r) h o c) tg))))
def St:G u:=(cond (l_ A g r h o c) (B:G u) (cond ((fw v y p x ai)!=0) (B:G u) (cond (decide (v>18)) (B:G u) (cond (nJ A g r h o c v) (ac1 v p x ai (kj A g r h o c v) (mb r) h o c) th))))
def aq1:Int:=(cond (l_ A g r h o c) (iT A g r h o c) (cond ((fw v y p x ai)!=0) (fw v y p x ai) (cond (decide (v>18)) 3 0)))
theorem d185{x:Int}(h:Bl x=true):Bk x≠4\/(7<=x/\x<=8):=by
 by_cases g:x=7
 .omega
 by_cases i:x=8
 .omega
 refine .inl λe=> ?_;unfold Bl acY at h;have k:x=1\/x=3\/x=4\/x=11\/x=14:=by
  by_cases a:x=1
  .omega
  by_cases b:x=3
  .omega
  by_cases c:x=4
  .omega
  by_cases d:x=11
  .omega
  by_cases f:x=14
  .omega
  simp [a,b,c,d,f,g,i]at h
 rcases k with k|k|k|k|k<;>subst k<;>simp [Bk,acU,acV,acW,acX]at e
theorem d101(A:Int)(g:u)(r:Int)(h:G bt)(o:G u)(c:G bG)(v:Int)(d:l_ A g r h o c=false)(b:nJ A g r h o c v=true)(i:h.n<=1048576)(j:o.n<=1048576)(k:c.n<=1048576):
  h.n<=20/\o.n<=20/\c.n<=20/\((kj A g r h o c v)≠4\/(7<=v/\v<=8)\/1<=o.n):=by
 unfold nJ Su at b;unfold l_ at d;unfold kj
 cases e:AY A g r h o c with
 |true=>
  simp only[e,aR]at b |-;have m:Bl v=true:=by
   cases a:Bl v with
   |true=>rfl
   |false=>rw[a]at b;cases b
  unfold AY at e;have f:(km h o c==0)=true:=by
   cases a:(km h o c==0)with
   |true=>rfl
   |false=>rw[a]at e;revert e;cases (A==0)<;>cases (g.toList==(⟨#[]⟩:u).toList)<;>cases (r==0)<;>simp
  have f:=eq_of_beq f;rw[YN _ _ _ i j k]at f;have:=d185 m;omega
 |false=>
  simp only[e,aX,Bool.not_false]at b d |-;have l:iT A g r h o c=0:=by
   cases a:(iT A g r h o c !=0)with
   |false=>exact bK a
   |true=>rw[a]at d;cases d
  have n:=(apb _ _ _ _ _ _ i j k l).2.1;have s:=(aDs _ _ _ _ _ _ i j k l).mK;unfold Bi;omega
def akF:bq:=⟨[.g [a,al,a,.ab dd,.ab bV,.ab c3],.g [a,al,al,al,a]],λ(A:Int) g (r:Int) h o c (v:Int) y p x (ai:Int)=>⟨⟨some (h.n<=1048576/\o.n<=1048576/\c.n<=1048576),.dp [.agg [b (JZ A g r h o c v y p x ai),.str (acu A g r h o c v y p x ai),b (acv A g r h o c v y p x ai),aP 2 fU (Sq A g r h o c v y p x ai),aP 1 cU (Sr A g r h o c v y p x ai),aP 2 fV (Ss A g r h o c v y p x ai)],.agg [b (EF A g r h o c v y p x ai),.str (acw A g r h o c v y p x ai),b (acx A g r h o c v y p x ai),aP 1 cU (St A g r h o c v y p x ai)],b (aq1 A g r h o c v y p x ai)]⟩⟩⟩
theorem awj:bx 154 akF:=bA Tryz.func154
 λ(A:Int) g m (r:Int) h n _ o q _ c s _ (v:Int) y t p u x w (ai:Int) i=>bD (ms:=[(.b .f (.b .f (.b .f (.b .f .l)))),(.b .f (.b .f (.b .f (.b .f .l)))),(.b .f (.b .f (.b .f (.b .f .l)))),(.b .f (.b .f (.b .f (.b .f .l)))),(.b .f (.b .f (.b .f (.b .f .l)))),(.b .f (.b .f (.b .f (.b .f .l)))),(.b .f (.b .f (.b .f (.b .l .f)))),(.b .f (.b .f (.b .f (.b .l .l)))),(.b .f (.b .f (.b .f (.b .l .l)))),(.b .f (.b .f (.b .f (.b .l .l)))),(.b .f (.b .f (.b .f .l)))]) ⟨.pure,[.cell 4 115,.cell 5 55,.tmp 6],[(.c 0 0,a),(.c 0 1,al),(.c 0 2,a),(.c 0 3,.ab dd),(.c 0 4,.ab bV),(.c 0 5,.ab c3),(.c 1 0,a),(.c 1 1,al),(.c 1 2,a),(.c 1 3,.ab bV),(.t 2,a)],⟨[.agg (us 6 []),.agg (us 4 []),U],[]⟩⟩ (.ae (.j ⟨252,[],[(.t 7,K)],[],.f⟩ .z (.s (.ae (.j ⟨274877907452,[],[(.t 38,K)],[],.f⟩ .z .z)) (.ae (.ae (.ae (.ae (.j ⟨1148,[],[(.h 7 0,a)],[],.f⟩ (.j ⟨576460752303426812,[],[(.t 59,K)],[],.f⟩ .z (.ae (.ae (.ae (.j ⟨9444732965739290428540,[],[(.t 73,K)],[],.f⟩ (.j ⟨9444732965739290428540,[],[(.t 73,K)],[],.f⟩ .z (.ae (.j ⟨9444732965739290428540,[],[(.t 73,K)],[],.f⟩ .z .z))) .z))))) (.ae (.ae (.j ⟨5232,[],[(.h 7 0,a),(.h 7 1,al),(.h 7 2,a),(.h 7 3,.ab dd),(.h 7 4,.ab bV),(.h 7 5,.ab c3)],[],.f⟩ (.j ⟨162259276829213363391578010293360,[.b 0,.b 1,.b 4,.b 5,.b 6],[(.t 107,K)],[],.f⟩ .z .z) .z))))))))))) ((l_ A g r h o c)=false->(((fw v y p x ai)!=0)=false->((decide (v>18))=false->((nJ A g r h o c v)=true->(h.n<=1000000/\o.n<=1000000/\c.n<=1000000/\((kj A g r h o c v)≠4\/(7<=v/\v<=8)\/1<=o.n)))))) (b1 0 (aJ V7 (aJ agL (aJ V0 (aJ aw3 (aJ aw4 (aJ CB a2)))))) (ay aw2 (ay aw5 b0))) Tryz.func154 (have⟨j,k,l⟩:=i;(λb=>(λd=>(λe=>(λf=>(by have:=b;simp [l_]at this;have:=bK d;have:=hX e;have:=d101 _ _ _ _ _ _ _ Ψ f Ω Ω Ω;omega))))))
end
section
def Kx(p:G N):Nat->Int->G u->G u
 |0,_,_=>default
 |k+1,e,l=>(cond (decide (e<(p.n:Int))) (Kx p k (i64 (e+1)) (G.app l (G.lit ([(p.at' (toNat e)).q]:List u)))) l)
variable(A:Int)(g:u)(r:u)(h:u)(o:Int)(c:Int)(p:G N)
def acE:G u:=Kx p ((toNat ((p.n:Int)-0))+1) 0 (B:G u)
def oS:Bool:=(cond (A==20) (A==20) (A==21))
def re:Int:=(cond (h6 g p) (p.at' (toNat (iA g p))).F 0)
def rf:u:=(cond (h6 g p) (p.at' (toNat (iA g p))).z ⟨#[]⟩)
def rh:Int:=(cond (h6 g p) (p.at' (toNat (iA g p))).M 0)
def pQ:G bt:=(cond (h6 g p) (p.at' (toNat (iA g p))).w (B:G bt))
def pR:G u:=(cond (h6 g p) (p.at' (toNat (iA g p))).C (B:G u))
def pS:G bG:=(cond (h6 g p) (p.at' (toNat (iA g p))).P (B:G bG))
def A3:Bool:=(cond ((JZ (re g p) (rf g p) (rh g p) (pQ g p) (pR g p) (pS g p) A g r h o)==0) (h6 g p) false)
def Sw:Bool:=(cond (!(h6 g p)) ((p.n:Int)==12) false)
def arc:G N:=let f:=pS g p;let e:=pR g p;let d:=pQ g p;let c:=rh g p;let b:=rf g p;let a:=re g p;let i:=JZ a b c d e f A g r h o;(cond ((EF a b c d e f A g r h o)!=0) p (cond (A3 A g r h o p) (EM (iA g p) p) (cond (i !=0) (acK A g i (acu a b c d e f A g r h o) (acv a b c d e f A g r h o) (Sq a b c d e f A g r h o) (Sr a b c d e f A g r h o) (Ss a b c d e f A g r h o) (iA g p) (h6 g p) p) p)))
def EJ:Bool:=(cond ((EF (re g p) (rf g p) (rh g p) (pQ g p) (pR g p) (pS g p) A g r h o)!=0) true (cond (A3 A g r h o p) true (cond (Sw g p) false true)))
def acB:Int:=(cond (A==22) 0 (cond (A==19) 0 (cond (oS A) (acF A o c (h6 g p)) (cond (EJ A g r h o p) (EF (re g p) (rf g p) (rh g p) (pQ g p) (pR g p) (pS g p) A g r h o) 6))))
def acC:u:=(cond (A==22) ⟨#[]⟩ (cond (A==19) ⟨#[]⟩ (cond (oS A) acG (cond (EJ A g r h o p) (acw (re g p) (rf g p) (rh g p) (pQ g p) (pR g p) (pS g p) A g r h o) ⟨#[]⟩))))
def acD:Int:=(cond (A==22) 0 (cond (A==19) (cond (!(h6 g p)) 0 1) (cond (oS A) (acH A c (iA g p) (h6 g p) p) (cond (EJ A g r h o p) (acx (re g p) (rf g p) (rh g p) (pQ g p) (pR g p) (pS g p) A g r h o) 0))))
def Sv:G u:=(cond (A==22) (acE p) (cond (A==19) (B:G u) (cond (oS A) acI (cond (EJ A g r h o p) (St (re g p) (rf g p) (rh g p) (pQ g p) (pR g p) (pS g p) A g r h o) (B:G u)))))
def ara:Int:=(iA g p)
def arb:Bool:=(h6 g p)
def vj:G N:=(cond (A==22) p (cond (A==19) (cond (!(h6 g p)) p (EM (iA g p) p)) (cond (oS A) (acJ A o c (iA g p) (h6 g p) p) (cond (EJ A g r h o p) (arc A g r h o p) p))))
theorem aDX(A:Int)(g r h:u)(o:Int)(p:G N)(a:A3 A g r h o p=true):iA g p<(p.n:Int):=by
 refine zO g p ?_;unfold A3 at a
 cases e:h6 g p with
 |true=>rfl
 |false=>rw[e]at a;simp at a
theorem aAp(g:u)(p:G N)(h:u4 p):(((pQ g p).n:Nat):Int)<=1048576:=by
 unfold pQ
 cases e:h6 g p with
 |false=>show((0:Nat):Int)<=_;omega
 |true=>
  have a:=xu g p (by have:=h.1;omega);have b:=zO g p e;have:=h.2 (toNat (iA g p)) Ω;simp only[aR];omega
theorem aAq(g:u)(p:G N)(h:u4 p):(((pR g p).n:Nat):Int)<=1048576:=by
 unfold pR
 cases e:h6 g p with
 |false=>show((0:Nat):Int)<=_;omega
 |true=>
  have a:=xu g p (by have:=h.1;omega);have b:=zO g p e;have:=h.2 (toNat (iA g p)) Ω;simp only[aR];omega
theorem aAr(g:u)(p:G N)(h:u4 p):(((pS g p).n:Nat):Int)<=1048576:=by
 unfold pS
 cases e:h6 g p with
 |false=>show((0:Nat):Int)<=_;omega
 |true=>
  have a:=xu g p (by have:=h.1;omega);have b:=zO g p e;have:=h.2 (toNat (iA g p)) Ω;simp only[aR];omega
def akO:cf:=⟨[.p 0,.g [a,al,al,al,a]],[(.h 0 0,a),(.h 0 2,a),(.h 0 3,K),(.h 1 0,.ad bp)],[[U,.own 1 0,U,U],[U]],λ(A:Int) g r h (o:Int) (c:Int) _ _ p=>let d:=vj A g r h o c p;⟨⟨some (u4 p/\p.n<=1000000),[.agg [b (acB A g r h o c p),.str (acC A g r h o p),b (acD A g r h o c p),aP 1 cU (Sv A g r h o p)]],[[b c,.own 2 (d).n,b (ara g p),.bool (arb g p)],[dB],[(aH.ad bp).av d]]⟩⟩⟩
theorem awq:dV 139 akO:=ea Tryz.func139
 λ(A:Int) g Y r Z h aAw (o:Int) (c:Int) (v:Int) y p HD M=>dU (ms:=[(.b .f (.b .l .f)),(.b .f (.b .l .f)),.f,(.b .f (.b .l .f)),.l,.l,.l,.f]) ⟨.lO true [.b 2] [.own (.h 0 1) bp 2],[.cell 4 55],[(.c 0 0,a),(.c 0 1,al),(.c 0 2,a),(.c 0 3,.ab bV),(.h 0 0,a),(.h 0 2,a),(.h 0 3,K),(.h 2 0,.ad bp)],⟨[.agg [U,U,U,U]],[[U,.own 2 0,U,U],[dB],[U]]⟩⟩ (.ae (.ae (.s (.ae (.ae (.s (.ae (.j ⟨57,[],[],[],.f⟩ (.ae (.cX ⟨117440569,[],[(.h 4 3,bV)],[(.t 26,a),(.h 5 0,.ad bV)],some 1,false,57,[],[(.h 5 0,.ad bV)],λk (s:Int×G u)=>Kx p k s.1 s.2,.f,λ(s:Int×G u)=>((0<=s.1/\s.1<=(p.n:Int))/\(s.2.n:Int)<=0+(s.1-0)),λ(s:Int×G u)=>(toNat ((p.n:Int)-s.1)),some λ(N:G u)=>(N.n:Int)<=0+max ((p.n:Int)-0) 0⟩ .z)) .z)) (.ae (.ae (.j ⟨1125899906842649,[],[(.t 50,K)],[],.f⟩ .z .z)))))) (.ae (.j ⟨281,[],[(.h 4 0,a),(.h 4 1,al),(.h 4 2,a),(.h 4 3,.ab dd),(.h 4 4,.ab bV),(.h 4 5,.ab c3)],[],.f⟩ .z (.ae (.y8 ⟨1040,[.b 2,.b 4,.b 5],[(.h 41 0,.ad bp)],[],(.b .f (.b .f (.b .f .l)))⟩ [.own (.h 0 1) bp 41] (.ae (.ae (.j ⟨9671406556917033397650969,[.b 4],[(.t 83,K)],[],.f⟩ .z (.ae (.j ⟨39614081257132168796771976729,[],[(.t 95,K)],[],.f⟩ .z .z))))) .z))))))) (let C:=A3 A g r h o p;let w:=pS g p;let t:=pR g p;let q:=pQ g p;let m:=h6 g p;let b:=iA g p;(((A==22)=true->((((0<=(0:Int)/\(0:Int)<=(p.n:Int))/\((0:Nat):Int)<=0+((0:Int)-0)))/\(∀(e:Int) (l:G u),let n:=decide (e<(p.n:Int));let j:=i64 (e+1);((0<=e/\e<=(p.n:Int))/\(l.n:Int)<=0+(e-0))->((n=true->((((0:Int)<=e/\e<(p.n:Int))/\((toNat e)<p.n))/\(l.n+1<=549755813888)))/\((n=true->(((0<=j/\j<=(p.n:Int))/\(((l.n+1):Nat):Int)<=0+(j-0))/\(toNat ((p.n:Int)-j))<(toNat ((p.n:Int)-e))))/\(n=false->((l.n:Int)<=0+max ((p.n:Int)-0) 0)))))))/\((A==22)=false->(((A==19)=true->((!m)=false->(p.n<=1000000/\0<=b/\b<(p.n:Int))))/\((A==19)=false->((oS A)=true->(sE m b p.n/\p.n<=1000000))))))/\((A==22)=false->((A==19)=false->((oS A)=false->((m=true->(((0:Int)<=b/\b<(p.n:Int))/\((toNat b)<p.n)))/\((q.n<=1048576/\t.n<=1048576/\w.n<=1048576)/\(((EF (re g p) (rf g p) (rh g p) q t w A g r h o)!=0)=false->((C=true->(p.n<=1000000/\0<=b/\b<(p.n:Int)))/\(C=false->((Sw g p)=false->(((JZ (re g p) (rf g p) (rh g p) q t w A g r h o)!=0)=true->(sE m b p.n/\p.n<=1000000)))))))))))) (b1 2 (aJ awj a2) (ay aws (ay awt (ay awu (ay awy b0))))) Tryz.func139 (have⟨W,X⟩:=M;⟨⟨(λO=>⟨Ω,(λe l V=>⟨(λB=>⟨⟨(by have:=an B;omega),(by have:=an B;omega)⟩,Ω⟩),⟨(λJ=>(by have:=an J;have:=E (e+1);omega)),(λQ=>Ω)⟩⟩)⟩),(λR=>⟨(λS=>(λL=>(by have:=aEd _ _ L;have:=xu g p Ω;omega))),(λT=>(λP=>⟨(by repeat first|assumption|apply lV),Ω⟩))⟩)⟩,(λd=>(λf=>(λi=>⟨(λx=>⟨(by have:=dc d;have:=dc f;have:=i;simp [oS]at this;have:=zO _ _ x;have:=xu g p Ω;omega),(by have:=dc d;have:=dc f;have:=i;simp [oS]at this;have:=zO _ _ x;have:=xu g p Ω;omega)⟩),⟨(by have:=dc d;have:=dc f;have:=i;simp [oS]at this;have:=aAp g p (by repeat first|assumption|apply lV|apply xc|apply xb|apply j3|apply ov|apply And.intro|apply Ed|apply Ec);have:=aAq g p (by repeat first|assumption|apply lV|apply xc|apply xb|apply j3|apply ov|apply And.intro|apply Ed|apply Ec);have:=aAr g p (by repeat first|assumption|apply lV|apply xc|apply xb|apply j3|apply ov|apply And.intro|apply Ed|apply Ec);omega),(λz=>⟨(λD=>(by have:=dc d;have:=dc f;have:=i;simp [oS]at this;have:=bK z;have:=aDX _ _ _ _ _ _ D;have:=xu g p Ω;omega)),(λF=>(λH=>(λI=>⟨(by repeat first|assumption|apply lV),(by have:=dc d;have:=dc f;have:=i;simp [oS]at this;have:=bK z;have:=F;simp [A3]at this;have:=H;simp [Sw]at this;have:=bne_iff_ne.1 I;omega)⟩)))⟩)⟩⟩)))⟩)
end
def Zc(s:G N)(a:s.n<=549755813888):(iS s).B=s.B:=by
 have:=az1 (A1 s) s (λx=>x) a (λ_ _ _=>rfl) B;rw[List.map_id',w2,qP]at this;exact this
def HB(s:G N)(a:s.n<=549755813888):(iS s).n=s.n:=aAI (Zc s a)
def take_one{α:Type}(s:G α){j:Nat}(h:j<s.n):s.B.take (j+1)=s.B.take j++[s.at' j]:=by
 rw[List.take_add_one,O5,a5 h];rfl
def aD4{α:Type}(s:G α)(i:Nat)(x:α)(h:i<s.n):(s.cF i x).B.take (i+1)=s.B.take i++[x]:=by
 rw[aDt s i x h,List.take_append,List.take_of_length_le (by rw[iJ];omega)];rw[iJ,bc,show i+1-min i s.n=1 by omega];rfl
def akw{α:Type}(s:G α)(i:Nat)(z:α)(h:i<=s.n):(G.cut (G.xf s i z) i).B=s.B.take i:=by
 apply w0;intro q;rw[O5,IK]
 by_cases a:q<i
 .have e:Nat.blt q i=true:=by simpa[iY]using a
  rw[a5 (show q<(G.cut (G.xf s i z) i).n from a),a5 a,O5,a5 Ω];show some (cond (Nat.blt q i) (s.at' q) z)=some (s.at' q);rw[e];rfl
 .rw[aS (show¬q<(G.cut (G.xf s i z) i).n from a),aS a]
section
variable (A:Int)
def pf(e:N):Bool:= !(je e.aw A)
def Wm(s:G N)(l:s.n<=1000000): ∀(m a i j:Nat) (S:G N),j+m=s.n->m<=a->i<j->S.n=s.n->(∀q,j<=q->q<s.n->S.at' q=s.at' q)->S.B.take i=(s.B.take j).filter (pf A)->
  ∃(h:Nat) (d:G N),vi A (a+1) (i:Int) (j:Int) S=((h:Int),d)/\h<s.n/\d.n=s.n/\d.B.take h=s.B.filter (pf A)
 |0,a,i,j,S,p,_,o,c,_,b=>by
  refine⟨i,S,?_,Ω,c,?_⟩
  .show(cond (decide ((j:Int)<(S.n:Int))) _ _)=_;rw[bj Ω];rfl
  .rw[b,List.take_of_length_le (by rw[bc];omega)]
 |m+1,a,i,j,S,p,t,o,c,g,b=>by
  obtain⟨a,rfl⟩: ∃q,a=q+1:=⟨a-1,Ω⟩;have e:vi A (a+1+1) (i:Int) (j:Int) S=vi A (a+1) (xH A (i:Int) (j:Int) S) ((j+1:Nat):Int) (A2 A (i:Int) (j:Int) S):=by
   show(cond (decide ((j:Int)<(S.n:Int))) _ _)=_;rw[bM Ω,E _];rfl
  rw[e];unfold A2 xH;rw[gi,gi,g j (bN _) Ω];have r:(!(je (s.at' j).aw A))=pf A (s.at' j):=rfl;rw[r]
  cases k:pf A (s.at' j)with
  |true=>
   simp only[aR];rw[E _];refine Wm s l m a (i+1) (j+1) _ Ω Ω Ω c (λq n f=> ?_) ?_
   .show(cond (Nat.beq q i) (s.at' j) (S.at' q))=s.at' q;rw[aAJ Ω];exact g q Ω f
   .rw[aD4 S i _ Ω,b,take_one s Ω,IT,List.filter_cons_of_pos (by simpa using k),List.filter_nil]
  |false=>
   simp only[aX];refine Wm s l m a i (j+1) S Ω Ω Ω c (λq n f=>g q Ω f) ?_;rw[b,take_one s Ω,IT,List.filter_cons_of_neg (by simp [k]),List.filter_nil,im]
def NK{α:Type}{s:G α}{e:α}(h:e∈s.B): ∃i,i<s.n/\s.at' i=e:=by
 simp only[G.B,px,uR]at h;exact h
def Zd(g:Int)(r:Bool)(s:G N)(m:s.n<=1000000):(lD A g r s).B=s.B.filter (pf A):=by
 unfold lD EI;rcases(X8 A g r s Ω).2 with⟨h,a⟩|⟨t,p,h,n,a⟩
 .rw[h];show s.B=_;refine(List.filter_eq_self.2 λe b=> ?_).symm;obtain⟨i,l,rfl⟩:=NK b;show(!(je (s.at' i).aw A))=true;rw[a i l];rfl
 .rw[h];have d:(((t:Int)== -1))=false:=fl.2 Ω;rw[d];simp only[aX];have f:i64 ((t:Int)+1)=((t+1:Nat):Int):=by rw[E _];omega
  rw[f];obtain⟨u,c,j,v,w,k⟩:=Wm A s m (s.n- (t+1)) (toNat ((s.n:Int)- ((t+1:Nat):Int))) t (t+1) s Ω Ω Ω rfl (λ_ _ _=>rfl) (by
   rw[take_one s p,IT,List.filter_cons_of_neg (by simp [pf,n]),List.filter_nil,im];refine(List.filter_eq_self.2 λe b=> ?_).symm;obtain⟨q,x,o,rfl⟩:=az6 s b;show(!(je (s.at' q).aw A))=true;rw[a q o];rfl)
  rw[j];simp only;rw[gi,akw c u _ Ω,k]
end
def DP(l:List N):Prop:=l.Pairwise λa b=>Op.bytesLess a.q.toList b.q.toList=true
def aC2{s:G N}(h:P8 s.n (λi=>(s.at' i).q)):DP s.B:=by
 unfold DP;rw[List.pairwise_iff_getElem];intro i j b a c;rw[bc]at b a;simp only[G.B,List.getElem_map,List.getElem_range];exact h i j c a
def aC3{s:G N}(h:DP s.B):P8 s.n (λi=>(s.at' i).q):=by
 intro i j a b;unfold DP at h;rw[List.pairwise_iff_getElem]at h;have:=h i j (by rw[bc];omega) (by rw[bc];exact b) a;simpa[G.B]using this
structure O7 (A:Int) (s:G N):Prop where
 now:0<=A/\A<=1073741824
 n:s.n<=12
 wJ:DP s.B
 ok: ∀e∈s.B,iT e.F e.z e.M e.w e.C e.P=0
 V: ∀e∈s.B,e.w.n<=1048576/\e.C.n<=1048576/\e.P.n<=1048576
 u: ∀e∈s.B,e.aw=0\/(A<e.aw/\e.aw<=1073741824)
def de{A:Int}{s:G N}(l:dA s)(h:hU A s=0):O7 A s:=by
 have w:=l.1;obtain⟨⟨m,t⟩,n⟩:=aaW A s l h;unfold hU at h;obtain⟨_,h⟩:=dv h Δ;have r:GC A s=scan (λi=>m3 s i||ob A s i) (λ_=>13) s.n 0:=oz (qg A s) s.n _ _ Ω λk i=>by
  show(cond (decide (i<(s.n:Int))) (cond (m3 s i) (true,13) (cond (ob A s i) (true,13) (qg A s k (i64 (i+1))))) (false,default))=_;rw[D4]
 unfold L4 at h;rw[JN r]at h;obtain⟨hh,_⟩:=dv h Δ;have g: ∀i,i<s.n->m3 s (i:Int)=false/\ob A s (i:Int)=false:=λi d=>by
  have q:=rW hh i d;simpa only[DB]using q
 have u: ∀i,i<s.n->(s.at' i).w.n<=1048576/\(s.at' i).C.n<=1048576/\(s.at' i).P.n<=1048576:=λi d=>by
  obtain⟨_,v,_⟩:=n i d;obtain⟨x,y,z⟩:=v.2.1;exact⟨Ω,Ω,Ω⟩
 refine⟨m,t,aC2 λi j o p=> ?_,λe f=> ?_,λe f=> ?_,λe f=> ?_⟩
 .refine ao8 (R:=λi j=>Op.bytesLess (s.at' i).q.toList (s.at' j).q.toList=true) s.n (λi d=> ?_) (λ_ _ _ _ _ _=>ahd) i j o p;have q1:=(g (i+1) d).1;unfold m3 at q1;obtain⟨_,q1⟩:=c2 q1;obtain⟨_,q1⟩:=c2 q1;obtain⟨_,q1⟩:=c2 q1;rw[bM (show((i+1:Nat):Int)>0 by omega)]at q1;rw[show i64 (((i+1:Nat):Int)-1)=(i:Int) by rw[E _];omega]at q1;simpa using q1
 .obtain⟨i,d,rfl⟩:=NK f;have q1:=(g i d).1;unfold m3 at q1;simp only[gi]at q1;obtain⟨_,q1⟩:=c2 q1;obtain⟨_,q1⟩:=c2 q1;obtain⟨d3,_⟩:=c2 q1;exact bK d3
 .obtain⟨i,d,rfl⟩:=NK f;exact u i d
 .obtain⟨i,d,rfl⟩:=NK f;have q1:=(g i d).2;unfold ob at q1;simp only[gi]at q1
  cases c:((s.at' i).aw !=0)with
  |false=>exact .inl (bK c)
  |true=>
   rw[c]at q1;obtain⟨a,b⟩:=c2 q1;have a:=df a;have b:=df b;exact .inr ⟨Ω,Ω⟩
def fit{A now:Int}{s t:G N}(h:O7 A s)(f:t.B=s.B.filter (pf now)):Fit now t:=by
 have b: ∀i,i<t.n->t.at' i∈s.B/\pf now (t.at' i)=true:=λi a=>by
  have:t.at' i∈t.B:=by simp only[G.B,px,uR];exact⟨i,a,rfl⟩
  rw[f,II]at this;exact this
 refine⟨?_,aC3 (by rw[f];exact h.wJ.filter _),λi a=>h.ok _ (b i a).1,λi a=>h.V _ (b i a).1,λi a=> ?_⟩
 .have c:=List.length_filter_le (pf now) s.B;rw[<-f,bc,bc]at c;have:=h.n;omega
 .have d:=(b i a).2;rcases h.u _ (b i a).1 with c|⟨_,g⟩
  .exact .inl c
  .by_cases e:(t.at' i).aw=0
   .exact .inl e
   .unfold pf je acA at d;rw[show((t.at' i).aw !=0)=true from bne_iff_ne.2 e]at d;have:decide ((t.at' i).aw<=now)=false:=by simpa using d
    have:=df this;exact .inr ⟨Ω,g⟩
def aDK{now:Int}{t:G N}(h:Fit now t):u4 t:=⟨by have:=h.n;omega,h.V⟩
def aaU{A:Int}{g:G N}(a:dA g)(h:(hU A g !=0)=false):O7 A g:=de a (bK h)
def ahE(g:G N){A:Int}(h:dA g/\(hU A g !=0)=false):(iS g).n<=12:=by
 have:=(aaU h.1 h.2).n;rw[HB g Ω];exact this
def ako{g:G N}(now a:Int)(b:Bool)(c:g.n<=1000000):(lD now a b (iS g)).B=g.B.filter (pf now):=by
 rw[Zd now a b _ (by rw[HB g Ω];exact c),Zc g Ω]
def ahF(now a:Int)(b:Bool)(s:G N)(c:s.n<=1000000):(lD now a b s).n<=s.n:=by
 have h:=congrArg List.length (Zd now a b s c);have:=List.length_filter_le (pf now) s.B;rw[bc]at h this;omega
def aqC{A:Int}{g:G N}{now a:Int}{b:Bool}(d:dA g)(h:(hU A g !=0)=false):Fit now (lD now a b (iS g)):=by
 have c:=aaU d h;exact fit c (ako now a b (by have:=c.n;omega))
def uI{A:Int}{g:G N}{now a:Int}{b:Bool}(c:dA g)(h:(hU A g !=0)=false):u4 (lD now a b (iS g)):=aDK (aqC c h)
section
variable(A:Int)(g:G N)(r:Int)(h:Int)(o:u)(c:u)(v:u)(y:Int)
def rb:Bool:=(cond (decide (r<0)) true (decide (r>1073741824)))
def nI:Int:=(cond ((hU A g)!=0) 0 (cond (rb r) 0 (cond ((fw h o c v y)!=0) 0 (jd (imax (jd A) r)))))
def oR:G N:=(cond ((hU A g)!=0) (B:G N) (cond (rb r) (B:G N) (cond ((fw h o c v y)!=0) (B:G N) (iS (vj h o c v y (imax (jd A) r) (lD (imax (jd A) r) 0 false (iS g)))))))
def Sm:Int:=(cond ((hU A g)!=0) 0 (cond (rb r) 0 (cond ((fw h o c v y)!=0) 0 (acB h o c v y (imax (jd A) r) (lD (imax (jd A) r) 0 false (iS g))))))
def Sn:u:=(cond ((hU A g)!=0) ⟨#[]⟩ (cond (rb r) ⟨#[]⟩ (cond ((fw h o c v y)!=0) ⟨#[]⟩ (acC h o c v y (lD (imax (jd A) r) 0 false (iS g))))))
def Sp:Int:=(cond ((hU A g)!=0) 0 (cond (rb r) 0 (cond ((fw h o c v y)!=0) 0 (acD h o c v y (imax (jd A) r) (lD (imax (jd A) r) 0 false (iS g))))))
def AX:G u:=(cond ((hU A g)!=0) (B:G u) (cond (rb r) (B:G u) (cond ((fw h o c v y)!=0) (B:G u) (Sv h o c v y (lD (imax (jd A) r) 0 false (iS g))))))
def aq0:Int:=(cond ((hU A g)!=0) (hU A g) (cond (rb r) 2 (cond ((fw h o c v y)!=0) (fw h o c v y) 0)))
def akH:bq:=⟨[.g [a,.ab bp],.v a,.g [a,al,al,al,a]],λA g r h o c v y=>⟨⟨none,.dp [.agg [b (nI A g r h o c v y),aP 8 gU (oR A g r h o c v y)],.agg [b (Sm A g r h o c v y),.str (Sn A g r h o c v y),b (Sp A g r h o c v y),aP 1 cU (AX A g r h o c v y)],b (aq0 A g r h o c v y)]⟩⟩⟩
theorem awl:bx 109 akH:=bA Tryz.func109
 λ(A:Int) g j i (r:Int) (h:Int) o k c l v m (y:Int)=>bD ⟨.pure,[.cell 6 46,.cell 7 55,.tmp 8],[(.c 0 0,a),(.c 0 1,.ab bp),(.c 1 0,a),(.c 1 1,al),(.c 1 2,a),(.c 1 3,.ab bV),(.t 2,a)],⟨[.agg (us 2 []),.agg (us 4 []),U],[]⟩⟩ (.ae (.ae (.s (.j ⟨33554922,[],[(.t 25,K)],[],.f⟩ .z .z) (.ae (.ae (.ae (.ae (.ae (.s (.jb [(.h 5 1,bp)]) .z))))))))) (let f:=lD (imax (jd A) r) 0 false (iS g);((hU A g)!=0)=false->((rb r)=false->(((fw h o c v y)!=0)=false->(((iS g).n<=1000000)/\(u4 f/\f.n<=1000000))))) (b1 0 (aJ V7 (aJ agN a2)) (ay awo (ay awp (ay awq b0)))) Tryz.func109 (have:=AQ i;(λb=>(λd=>(λe=>⟨(by have:=bK b;have:=d;simp [rb]at this;have:=bK e;have:=ahE g (by repeat first|assumption|apply sX|apply sY|apply uK|apply q9|apply wq|apply mA|apply r1|apply uz|apply uy|apply sd|apply rR|apply rS|apply ig|apply uI|apply xl|apply lV|apply j3|apply ov|apply And.intro);omega),⟨(by repeat first|assumption|apply uI),(by have:=bK b;have:=d;simp [rb]at this;have:=bK e;have:=y5 (jd A) r;have:=ahE g (by repeat first|assumption|apply sX|apply sY|apply uK|apply q9|apply wq|apply mA|apply r1|apply uz|apply uy|apply sd|apply rR|apply rS|apply ig|apply uI|apply xl|apply lV|apply j3|apply ov|apply And.intro);have:=ahF (imax (jd A) r) 0 false (iS g) Ω;omega)⟩⟩))))
end
section
variable(A:Int)(g:G N)(r:Int)(h:G ar)(o:Int)(c:Int)(v:Int)(y:Int)(p:u)(x:u)(ai:u)(bn:Int)
def kn:Bool:=(cond (decide (o<0)) true (decide (o>1073741824)))
def Td:Int:=let b:=mc (gy h) c;let a:=nI A g o 22 ⟨#[]⟩ ⟨#[]⟩ ⟨#[]⟩ 0;(cond ((ed A g r h)!=0) 0 (cond (kn o) 0 (cond ((g3 c v y p x ai bn)!=0) 0 (cond (c==0) a (cond (decide (b<0)) a (cond (v==((gy h).at' (toNat b)).F) a (cond (v !=(i64 (((gy h).at' (toNat b)).F+1))) a (nI a (oR A g o 22 ⟨#[]⟩ ⟨#[]⟩ ⟨#[]⟩ 0) o y p x ai bn))))))))
def Te:G N:=let b:=mc (gy h) c;let a:=oR A g o 22 ⟨#[]⟩ ⟨#[]⟩ ⟨#[]⟩ 0;(cond ((ed A g r h)!=0) (B:G N) (cond (kn o) (B:G N) (cond ((g3 c v y p x ai bn)!=0) (B:G N) (cond (c==0) a (cond (decide (b<0)) a (cond (v==((gy h).at' (toNat b)).F) a (cond (v !=(i64 (((gy h).at' (toNat b)).F+1))) a (oR (nI A g o 22 ⟨#[]⟩ ⟨#[]⟩ ⟨#[]⟩ 0) a o y p x ai bn))))))))
def adi:Int:=(cond ((ed A g r h)!=0) 0 (cond (kn o) 0 (cond ((g3 c v y p x ai bn)!=0) 0 (cond (c==0) (adr r) r))))
def Tf:G ar:=let b:=gy h;let i:=oR A g o 22 ⟨#[]⟩ ⟨#[]⟩ ⟨#[]⟩ 0;let e:=nI A g o 22 ⟨#[]⟩ ⟨#[]⟩ ⟨#[]⟩ 0;let a:=toNat (mc b c);let d:=b.at' a;let k:=G.cF b a (⟨d.q,v,d.z,d.M,d.w,d.C,d.P⟩:ar);let f:=k.at' a;let j:=G.cF k a (⟨f.q,f.F,(nI e i o y p x ai bn),f.M,f.w,f.C,f.P⟩:ar);(cond ((ed A g r h)!=0) (B:G ar) (cond (kn o) (B:G ar) (cond ((g3 c v y p x ai bn)!=0) (B:G ar) (cond (c==0) (Th e r b) (cond (decide ((mc b c)<0)) b (cond (v==d.F) b (cond (v !=(i64 (d.F+1))) b (G.cF j a (⟨(j.at' a).q,(j.at' a).F,(j.at' a).z,(KO (Sm e i o y p x ai bn)),(KP (Sn e i o y p x ai bn)),(KQ (Sp e i o y p x ai bn)),(KR (AX e i o y p x ai bn))⟩:ar)))))))))
def adj:Int:=let a:=gy h;let d:=mc a c;let b:=toNat d;(cond ((ed A g r h)!=0) 0 (cond (kn o) 0 (cond ((g3 c v y p x ai bn)!=0) 0 (cond (c==0) (adn r) (cond (decide (d<0)) 11 (cond (v==(a.at' b).F) (KO (a.at' b).M) (cond (v !=(i64 ((a.at' b).F+1))) 10 (Sm (nI A g o 22 ⟨#[]⟩ ⟨#[]⟩ ⟨#[]⟩ 0) (oR A g o 22 ⟨#[]⟩ ⟨#[]⟩ ⟨#[]⟩ 0) o y p x ai bn))))))))
def adk:u:=let a:=gy h;let d:=mc a c;let b:=toNat d;(cond ((ed A g r h)!=0) ⟨#[]⟩ (cond (kn o) ⟨#[]⟩ (cond ((g3 c v y p x ai bn)!=0) ⟨#[]⟩ (cond (c==0) ado (cond (decide (d<0)) ⟨#[]⟩ (cond (v==(a.at' b).F) (KP (a.at' b).w) (cond (v !=(i64 ((a.at' b).F+1))) ⟨#[]⟩ (Sn (nI A g o 22 ⟨#[]⟩ ⟨#[]⟩ ⟨#[]⟩ 0) (oR A g o 22 ⟨#[]⟩ ⟨#[]⟩ ⟨#[]⟩ 0) o y p x ai bn))))))))
def adl:Int:=let a:=gy h;let d:=mc a c;let b:=toNat d;(cond ((ed A g r h)!=0) 0 (cond (kn o) 0 (cond ((g3 c v y p x ai bn)!=0) 0 (cond (c==0) (adp r) (cond (decide (d<0)) 0 (cond (v==(a.at' b).F) (KQ (a.at' b).C) (cond (v !=(i64 ((a.at' b).F+1))) 0 (Sp (nI A g o 22 ⟨#[]⟩ ⟨#[]⟩ ⟨#[]⟩ 0) (oR A g o 22 ⟨#[]⟩ ⟨#[]⟩ ⟨#[]⟩ 0) o y p x ai bn))))))))
def adm:G u:=let a:=gy h;let d:=mc a c;let b:=toNat d;(cond ((ed A g r h)!=0) (B:G u) (cond (kn o) (B:G u) (cond ((g3 c v y p x ai bn)!=0) (B:G u) (cond (c==0) adq (cond (decide (d<0)) (B:G u) (cond (v==(a.at' b).F) (KR (a.at' b).P) (cond (v !=(i64 ((a.at' b).F+1))) (B:G u) (AX (nI A g o 22 ⟨#[]⟩ ⟨#[]⟩ ⟨#[]⟩ 0) (oR A g o 22 ⟨#[]⟩ ⟨#[]⟩ ⟨#[]⟩ 0) o y p x ai bn))))))))
def aru:Int:=let a:=g3 c v y p x ai bn;(cond ((ed A g r h)!=0) (ed A g r h) (cond (kn o) 2 (cond (a !=0) a 0)))
def al6:bq:=⟨[.g [a,.ab bp,a,.ab bZ],.v a,.g [a,a,a,al,al,al,a]],λA g r h o c v y p x ai bn=>⟨⟨none,.dp [.agg [b (Td A g r h o c v y p x ai bn),aP 8 gU (Te A g r h o c v y p x ai bn),b (adi A g r h o c v y p x ai bn),aP 7 hi (Tf A g r h o c v y p x ai bn)],.agg [b (adj A g r h o c v y p x ai bn),.str (adk A g r h o c v y p x ai bn),b (adl A g r h o c v y p x ai bn),aP 1 cU (adm A g r h o c v y p x ai bn)],b (aru A g r h o c v y p x ai bn)]⟩⟩⟩
theorem axf:bx 92 al6:=bA Tryz.func92
 λ(A:Int) g C t (r:Int) h E u (o:Int) (c:Int) (v:Int) (y:Int) p F x G ai D (bn:Int)=>bD (ms:=[.f,.f,(.b .f (.b .f (.b .f (.b .f .l)))),.f,.f,.f,.f,.f,(.b .f (.b .f (.b .f .l)))]) ⟨.pure,[.cell 6 49,.cell 7 55,.tmp 8],[(.c 0 0,a),(.c 0 1,.ab bp),(.c 0 2,a),(.c 0 3,.ab bZ),(.c 1 0,a),(.c 1 1,al),(.c 1 2,a),(.c 1 3,.ab bV),(.t 2,a)],⟨[.agg (us 4 []),.agg (us 4 []),U],[]⟩⟩ (.ae (.ae (.s (.j ⟨1073742314,[],[(.t 30,K)],[],.f⟩ .z .z) (.ae (.ae (.ae (.ae (.s (.h5 5 1 (.gl [.t 46,.t 51,.t 56] [])) .z)))))))) (let d:=gy h;let m:=mc d c;let l:=toNat m;let n:=d.at' l;((ed A g r h)!=0)=false->((kn o)=false->(((g3 c v y p x ai bn)!=0)=false->(((c==0)=true->(d.n<=4))/\((c==0)=false->((decide (m<0))=false->(((0:Int)<=m/\m<(d.n:Int))/\(((l<d.n)/\(((v==n.F)=true->(l<d.n))/\((v==n.F)=false->(l<d.n))))/\((v==n.F)=false->((v !=(i64 (n.F+1)))=false->((l<d.n)/\((l<d.n)/\(l<d.n))))))))))))) (b1 0 (aJ V8 (aJ Nq (aJ awl (aJ axg (aJ axi (aJ agu a2)))))) (ay axh b0)) Tryz.func92 (have:=AQ t;have:=Ev u;(λe=>(λf=>(λi=>⟨(λw=>(by have b:=g2 _ _ _ _ (by first|assumption|exact iu.z Ψ) (by first|assumption|exact ir.y Ψ) (bK e);have:=b.1;have:=f;simp [kn]at this;have:=bK i;have:=eq_of_beq w;have:=ui h;omega)),(λj=>(λk=>⟨(by have b:=g2 _ _ _ _ (by first|assumption|exact iu.z Ψ) (by first|assumption|exact ir.y Ψ) (bK e);have:=b.1;have:=f;simp [kn]at this;have:=bK i;have:=dc j;have:=hX k;have:=ui h;have:=xv (gy h) c Ω;omega),⟨⟨(by have b:=g2 _ _ _ _ (by first|assumption|exact iu.z Ψ) (by first|assumption|exact ir.y Ψ) (bK e);have:=b.1;have:=f;simp [kn]at this;have:=bK i;have:=dc j;have:=hX k;have:=ui h;have:=xv (gy h) c Ω;omega),⟨(λz=>(by have b:=g2 _ _ _ _ (by first|assumption|exact iu.z Ψ) (by first|assumption|exact ir.y Ψ) (bK e);have:=b.1;have:=f;simp [kn]at this;have:=bK i;have:=dc j;have:=hX k;have:=eq_of_beq z;have:=ui h;have:=xv (gy h) c Ω;omega)),(λB=>(by have b:=g2 _ _ _ _ (by first|assumption|exact iu.z Ψ) (by first|assumption|exact ir.y Ψ) (bK e);have:=b.1;have:=f;simp [kn]at this;have:=bK i;have:=dc j;have:=hX k;have:=dc B;have:=ui h;have:=xv (gy h) c Ω;omega))⟩⟩,(λs=>(λq=>⟨(by have b:=g2 _ _ _ _ (by first|assumption|exact iu.z Ψ) (by first|assumption|exact ir.y Ψ) (bK e);have:=b.1;have:=f;simp [kn]at this;have:=bK i;have:=dc j;have:=hX k;have:=dc s;have:=bK q;have:=ui h;have:=xv (gy h) c Ω;omega),⟨(by have b:=g2 _ _ _ _ (by first|assumption|exact iu.z Ψ) (by first|assumption|exact ir.y Ψ) (bK e);have:=b.1;have:=f;simp [kn]at this;have:=bK i;have:=dc j;have:=hX k;have:=dc s;have:=bK q;have:=ui h;have:=xv (gy h) c Ω;omega),(by have b:=g2 _ _ _ _ (by first|assumption|exact iu.z Ψ) (by first|assumption|exact ir.y Ψ) (bK e);have:=b.1;have:=f;simp [kn]at this;have:=bK i;have:=dc j;have:=hX k;have:=dc s;have:=bK q;have:=ui h;have:=xv (gy h) c Ω;omega)⟩⟩))⟩⟩))⟩))))
end
end Go.Proofs.YtadmdaokcgjdiaaGreatDoor
