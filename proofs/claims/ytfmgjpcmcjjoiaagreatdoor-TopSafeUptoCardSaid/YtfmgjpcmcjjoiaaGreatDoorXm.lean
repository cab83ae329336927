import Derived.Test.YtfmgjpcmcjjoiaaGreatDoorXk
open Go.IntKind (i64 u64 u8)
open Int (toNat)
set_option maxRecDepth 100000
set_option maxHeartbeats 4000000
set_option linter.all false
noncomputable section
namespace Go.Proofs.YtfmgjpcmcjjoiaaGreatDoor
open Go Go.RowKit Go.af
def wD(A:G u):Nat→Int→G Int→G Int
 |0,_,_=>default
 |k+1,e,f=>(cond (decide (e<(A.n:Int))) (wD A k (i64.wrap (e+1)) (cV (A.at' (toNat e)) f)) f)
def Ri(A:G u)(g:G Int):G Int:=wD A ((toNat ((A.n:Int)-0))+1) 0 (ct (A.n:Int) g)
def iY(A:G u)(g:G Int):G Int:=(Ri A g)
def ajv:b0:=⟨[.p 0,.v (.ab bK)],[(.h 1 0,.ad a5)],[[.own 1 0],[U]],fun A g=>⟨⟨some (rA A∧g.n≤250000000000),[],[[.own 1 ((iY A g)).n],[(aB.ad a5).av (iY A g)]]⟩⟩⟩
theorem aek:dJ 134 ajv:=dL Tryz.func134
 fun A o g p l=>dI ⟨.heap,[],[(.h 1 0,.ad a5)],⟨[],[[.own 1 0],[U]]⟩⟩ (.ae (.ae (.cW ⟨7169,[],[],[(.t 12,a),(.h 1 0,.ad a5)],some 0,false,0,[],[(.h 1 0,.ad a5)],fun k (s:Int×G Int)=>wD A k s.1 s.2,.f,fun(s:Int×G Int)=>(0≤s.1∧s.1≤(A.n:Int)∧(s.2.n:Int)≤(g.n:Int)+1+s.1*21),fun(s:Int×G Int)=>(toNat ((A.n:Int)-s.1)),none⟩ .z))) ((g.n≤400000000000)∧(((0≤(0:Int)∧(0:Int)≤(A.n:Int)∧(((ct (A.n:Int) g).n:Nat):Int)≤(g.n:Int)+1+(0:Int)*21))∧(∀(e:Int) (f:G Int),let i:=A.at' (toNat e);let h:=decide (e<(A.n:Int));let b:=i64.wrap (e+1);(0≤e∧e≤(A.n:Int)∧(f.n:Int)≤(g.n:Int)+1+e*21)→((h=true→(((0:Int)≤e∧e<(A.n:Int))∧(f.n≤300000000000∧i.size≤10000000000)))∧(h=true→((0≤b∧b≤(A.n:Int)∧(((cV i f).n:Nat):Int)≤(g.n:Int)+1+b*21)∧(toNat ((A.n:Int)-b))<(toNat ((A.n:Int)-e)))))))) (bJ 2 aT (aj Bc (aj LJ bI))) Tryz.func134 (have⟨c,n⟩:=l;⟨(by omega),⟨(by have:=h4 (A.n:Int) g;omega),(fun e f m=>⟨(fun d=>⟨(by have:=al d;omega),(by have:=al d;have:=c.1;have:=c.2 (toNat e) (by omega);omega)⟩),(fun j=>(by have:=al j;have:=c.2 (toNat e) (by omega);have:=iq (A.at' (toNat e)) f;have:=E (e+1);omega))⟩)⟩⟩)
def GV(l:G u):List Int:=tj (l.n:Int)++cat (fun i=>fu (l.at' i)) l.n 0
theorem vt{x:u}(h:x.size≤20):(fu x).length≤21:=by rw[aBs x (by omega)];omega
theorem WG{l:G u}(h:rA l):(GV l).length≤421:=by
 unfold GV;have a:=h.1;have b:=y4 (f:=fun i=>fu (l.at' i)) (D:=21) l.n 0 fun j _ c=>vt (h.2 j (by omega));rw[dC,MN];omega
theorem Nn(l:G u)(w:G Int)(h:rA l):(iY l w).B=w.B++GV l:=by
 have a:(iY l w).B=(ct (l.n:Int) w).B++cat (fun i=>fu (l.at' i)) l.n 0:=
  Bj (wD l) l.n 21 (w.n+1) (fun i s=>cV (l.at' (toNat i)) s) (fun i=>fu (l.at' i)) (by have:=h.1;omega) (fun _ _ _=>rfl) (fun i s b _=>by
   have c:=h.2 i b;simp only[fN];exact⟨yE s (by omega),vt c⟩) _ (by rw[h4];exact bC _)
 rw[a,yD,eZ];rfl
theorem Uv(A:G u)(g:G Int)(h:rA A):(iY A g).n≤g.n+421:=by
 rw[←a_,Nn _ _ h,dC,a_];have:=WG h;omega
section
def wC(h:G bl):Nat→Int→G Int→G Int
 |0,_,_=>default
 |k+1,e,f=>(cond (decide (e<(h.n:Int))) (wC h k (i64.wrap (e+1)) (cV (h.at' (toNat e)).C (cV (h.at' (toNat e)).q f))) f)
variable(A:Int)(g:u)(r:Int)(h:G bl)(o:G u)(c:G bH)(v:G Int)
def p_:G Int:=wC h ((toNat ((h.n:Int)-0))+1) 0 (ct (h.n:Int) (bb r (cV g (ct A v))))
def zM(c:G bH):Nat→Int→G Int→G Int
 |0,_,_=>default
 |k+1,bk,a=>(cond (decide (bk<(c.n:Int))) (zM c k (i64.wrap (bk+1)) (bb (c.at' (toNat bk)).C (cV (c.at' (toNat bk)).q a))) a)
def DN:G Int:=zM c ((toNat ((c.n:Int)-0))+1) 0 (ct (c.n:Int) (iY o (p_ A g r h v)))
def nQ:G Int:=(DN A g r h o c v)
def aju:b0:=⟨[.p 0,.g [a,ai,a,.ab c5,.ab bK,.ab cS]],[(.h 1 0,.ad a5)],[[.own 1 0],[U]],fun(A:Int) g (r:Int) h o c v=>let b:=nQ A g r h o c v;⟨⟨some (rC g r h o c∧v.n≤200000000000),[],[[.own 1 (b).n],[(aB.ad a5).av b]]⟩⟩⟩
theorem aun:dJ 133 aju:=dL Tryz.func133
 fun(A:Int) g J (r:Int) h K o L c M v N z=>dI ⟨.heap,[],[(.h 1 0,.ad a5)],⟨[],[[.own 1 0],[U]]⟩⟩ (.ae (.ae (.ae (.ae (.ae (.j ⟨9,[],[],[],.f⟩ (.ae (.cW ⟨469762057,[],[],[(.t 28,a),(.h 1 0,.ad a5)],some 0,false,9,[],[(.h 1 0,.ad a5)],fun k (s:Int×G Int)=>wC h k s.1 s.2,.f,fun(s:Int×G Int)=>(0≤s.1∧s.1≤(h.n:Int)∧(s.2.n:Int)≤(v.n:Int)+40+s.1*42),fun(s:Int×G Int)=>(toNat ((h.n:Int)-s.1)),some fun(B:G Int)=>(B.n:Int)≤(v.n:Int)+880⟩ .z)) (.ae (.ae (.ae (.cW ⟨15762598695796737,[.b 2],[],[(.t 53,a),(.h 1 0,.ad a5)],some 2,false,0,[],[(.h 1 0,.ad a5)],fun k (s:Int×G Int)=>zM c k s.1 s.2,.f,fun(s:Int×G Int)=>(0≤s.1∧s.1≤(c.n:Int)∧(s.2.n:Int)≤(v.n:Int)+1400+s.1*29),fun(s:Int×G Int)=>(toNat ((c.n:Int)-s.1)),none⟩ .z)))))))))) (let u:=cV g (ct A v);let n:=p_ A g r h v;(v.n≤400000000000)∧(((ct A v).n≤300000000000∧g.size≤10000000000)∧((u.n≤400000000000)∧(((bb r u).n≤400000000000)∧((((0≤(0:Int)∧(0:Int)≤(h.n:Int)∧(((ct (h.n:Int) (bb r u)).n:Nat):Int)≤(v.n:Int)+40+(0:Int)*42))∧(∀(e:Int) (f:G Int),let t:=decide (e<(h.n:Int));let j:=i64.wrap (e+1);let i:=h.at' (toNat e);(0≤e∧e≤(h.n:Int)∧(f.n:Int)≤(v.n:Int)+40+e*42)→((t=true→(((0:Int)≤e∧e<(h.n:Int))∧((f.n≤300000000000∧i.q.size≤10000000000)∧((cV i.q f).n≤300000000000∧i.C.size≤10000000000))))∧((t=true→((0≤j∧j≤(h.n:Int)∧(((cV i.C (cV i.q f)).n:Nat):Int)≤(v.n:Int)+40+j*42)∧(toNat ((h.n:Int)-j))<(toNat ((h.n:Int)-e))))∧(t=false→((f.n:Int)≤(v.n:Int)+880))))))∧(((n.n:Int)≤(v.n:Int)+880)→((rA o∧n.n≤250000000000)∧(((iY o n).n≤400000000000)∧(((0≤(0:Int)∧(0:Int)≤(c.n:Int)∧(((ct (c.n:Int) (iY o n)).n:Nat):Int)≤(v.n:Int)+1400+(0:Int)*29))∧(∀(bk:Int) (d:G Int),let w:=decide (bk<(c.n:Int));let m:=c.at' (toNat bk);let l:=i64.wrap (bk+1);(0≤bk∧bk≤(c.n:Int)∧(d.n:Int)≤(v.n:Int)+1400+bk*29)→((w=true→(((0:Int)≤bk∧bk<(c.n:Int))∧((d.n≤300000000000∧m.q.size≤10000000000)∧((cV m.q d).n≤400000000000))))∧(w=true→((0≤l∧l≤(c.n:Int)∧(((bb m.C (cV m.q d)).n:Nat):Int)≤(v.n:Int)+1400+l*29)∧(toNat ((c.n:Int)-l))<(toNat ((c.n:Int)-bk))))))))))))))) (bJ 2 aT (aj FO (aj Bc (aj LJ (aj aek bI))))) Tryz.func133 (have⟨b,I⟩:=z;⟨(by omega),⟨(by have:=b.1;have:=h4 A v;omega),⟨(by have:=b.1;have:=iq g (ct A v);have:=h4 A v;omega),⟨(by have:=b.1;have:=eC r (cV g (ct A v));have:=iq g (ct A v);have:=h4 A v;omega),⟨⟨(by have:=b.1;have:=h4 (h.n:Int) (bb r (cV g (ct A v)));have:=eC r (cV g (ct A v));have:=iq g (ct A v);have:=h4 A v;omega),(fun e f F=>⟨(fun p=>⟨(by have:=al p;omega),⟨(by have:=al p;have:=b.2.1;have:=b.2.2.1 (toNat e) (by omega);omega),(by have:=al p;have:=b.2.1;have:=b.2.2.1 (toNat e) (by omega);have:=iq (h.at' (toNat e)).q f;omega)⟩⟩),⟨(fun x=>(by have:=al x;have:=b.2.2.1 (toNat e) (by omega);have:=iq (h.at' (toNat e)).C (cV (h.at' (toNat e)).q f);have:=iq (h.at' (toNat e)).q f;have:=E (e+1);omega)),(fun C=>(by have:=b.2.1;omega))⟩⟩)⟩,(fun D=>⟨⟨(by repeat first|assumption|apply jF),(by omega)⟩,⟨(by have:=Uv o (p_ A g r h v) (by repeat first|assumption|apply vT|apply vS|apply jF);omega),⟨(by have:=h4 (c.n:Int) (iY o (p_ A g r h v));have:=Uv o (p_ A g r h v) (by repeat first|assumption|apply vT|apply vS|apply jF);omega),(fun bk d H=>⟨(fun q=>⟨(by have:=al q;omega),⟨(by have:=al q;have:=b.2.1;have:=b.2.2.2.2 (toNat bk) (by omega);omega),(by have:=al q;have:=b.2.1;have:=b.2.2.2.2 (toNat bk) (by omega);have:=iq (c.at' (toNat bk)).q d;omega)⟩⟩),(fun y=>(by have:=al y;have:=b.2.2.2.2 (toNat bk) (by omega);have:=eC (c.at' (toNat bk)).C (cV (c.at' (toNat bk)).q d);have:=iq (c.at' (toNat bk)).q d;have:=E (bk+1);omega))⟩)⟩⟩⟩)⟩⟩⟩⟩⟩)
end
def BH(s:G bl)(i:Nat):List Int:=fu (s.at' i).q++fu (s.at' i).C
def tk(s:G bH)(i:Nat):List Int:=fu (s.at' i).q++au (s.at' i).C
def dH(A:Int)(g:u)(r:Int)(h:G bl)(o:G u)(c:G bH):List Int:=
 tj A++(fu g++(au r++(tj (h.n:Int)++(cat (BH h) h.n 0++(GV o++(tj (c.n:Int)++cat (tk c) c.n 0))))))
theorem agl{s:G bl}{i:Nat}(h:(s.at' i).q.size≤20∧(s.at' i).C.size≤20):(BH s i).length≤42:=by
 have a:=vt h.1;have b:=vt h.2;unfold BH;rw[dC];omega
theorem aht{s:G bH}{i:Nat}(h:(s.at' i).q.size≤20):(tk s i).length≤29:=by
 have a:=vt h;unfold tk;rw[dC,F5];omega
theorem ahY{A:Int}{g:u}{r:Int}{h:G bl}{o:G u}{c:G bH}(i:rC g r h o c):(dH A g r h o c).length≤2000:=by
 have a:=vt i.1.1;have b:=WG (jF i);have l:=y4 (f:=BH h) (D:=42) h.n 0 fun j _ k=>agl (i.2.2.1 j (by omega));have d:=y4 (f:=tk c) (D:=29) c.n 0 fun j _ k=>aht (i.2.2.2.2 j (by omega)).1;have e:=i.2.1;unfold dH;simp only[dC,MN,F5];omega
theorem W0(A:Int)(g:u)(r:Int)(h:G bl)(o:G u)(c:G bH)(w:G Int)(a:rC g r h o c):(nQ A g r h o c w).B=w.B++dH A g r h o c:=by
 have j:=a.2.1;have e:(p_ A g r h w).B=(ct (h.n:Int) (bb r (cV g (ct A w)))).B++cat (BH h) h.n 0:=
  Bj (wC h) h.n 42 _ (fun i s=>cV (h.at' (toNat i)).C (cV (h.at' (toNat i)).q s)) (BH h) (by omega) (fun _ _ _=>rfl) (fun i s b _=>by
   have d:=a.2.2.1 i b;simp only[fN];exact⟨by rw[yE _ (by omega),yE _ (by omega),eZ];rfl,agl d⟩) _ (bC _)
 have f:(DN A g r h o c w).B=(ct (c.n:Int) (iY o (p_ A g r h w))).B++cat (tk c) c.n 0:=
  Bj (zM c) c.n 29 _ (fun i s=>bb (c.at' (toNat i)).C (cV (c.at' (toNat i)).q s)) (tk c) (by omega) (fun _ _ _=>rfl) (fun i s b _=>by
   have d:=a.2.2.2.2 i b;simp only[fN];exact⟨by rw[tt _ (by omega) (by omega),yE _ (by omega),eZ];rfl,aht d.1⟩) _ (bC _)
 have k:=a.1;show(DN A g r h o c w).B=_;rw[f,yD,Nn _ _ (jF a),e,yD,tt _ (by omega) (by omega),yE _ (by omega),yD];simp only[dH,eZ]
theorem ae3(A:Int)(g:u)(r:Int)(h:G bl)(o:G u)(c:G bH)(w:G Int)(a:rC g r h o c):(nQ A g r h o c w).n≤w.n+2000:=by
 rw[←a_,W0 _ _ _ _ _ _ _ a,dC,a_];have:=ahY (A:=A) a;omega
theorem C8{s:G L}(h:fI (aI 8 gp s)):dt s:=⟨h.len,fun i a=>⟨(h.at (j:=4) (x:=aI 2 fz (s.at' i).w) a (by omega) rfl).len,(h.at (j:=5) (x:=aI 1 cK (s.at' i).m) a (by omega) rfl).len,(h.at (j:=6) (x:=aI 2 fA (s.at' i).N) a (by omega) rfl).len⟩⟩
theorem Iq{s:G aw}(h:fI (aI 7 gV s)):ey s:=⟨h.len,fun i a=>(h.at (j:=6) (x:=aI 1 cK (s.at' i).N) a (by omega) rfl).len⟩
section
def xw(g:G L):Nat→Int→G Int→G Int
 |0,_,_=>default
 |k+1,az,cB=>let a:=g.at' (toNat az);(cond (decide (az<(g.n:Int))) (xw g k (i64.wrap (az+1)) (bb a.ao (nQ a.C a.z a.I a.w a.m a.N (cV a.q cB)))) cB)
variable(A:Int)(g:G L)(r:Int)(h:G aw)
def qB:G Int:=xw g ((toNat ((g.n:Int)-0))+1) 0 (ct (g.n:Int) (bb A (D:G Int)))
def AT(h:G aw):Nat→Int→G Int→G Int
 |0,_,_=>default
 |k+1,a1,b=>let a:=h.at' (toNat a1);(cond (decide (a1<(h.n:Int))) (AT h k (i64.wrap (a1+1)) (iY a.N (bb a.m (cV a.w (ct a.I (bb a.z (bb a.C (bb a.q b)))))))) b)
def uY:G Int:=AT h ((toNat ((h.n:Int)-0))+1) 0 (ct (h.n:Int) (bb r (qB A g)))
def jz:G Int:=(cond ((dV A g r h)!=0) (D:G Int) (uY A g r h))
def aqh:Int:=(cond ((dV A g r h)!=0) (dV A g r h) 0)
def alm:ba:=⟨[.g [a,.ab bd,a,.ab bT]],fun A g r h=>⟨⟨none,.c7 [aI 1 cN (jz A g r h),b (aqh A g r h)]⟩⟩⟩
theorem aeM:bn 113 alm:=bq Tryz.func113
 fun(A:Int) g M z (r:Int) h N B=>bu ⟨.pure,[.tmp 2,.tmp 3],[(.t 0,.ab a5),(.t 1,a)],⟨[U,U],[]⟩⟩ (.ae (.ae (.ae (.s (.ix [(.h 1 0,a5)]) (.ae (.j ⟨46,[],[],[],.f⟩ (.ae (.cW ⟨7516192814,[],[],[(.t 32,a),(.h 2 0,.ad a5)],some 0,false,46,[],[(.h 2 0,.ad a5)],fun k (s:Int×G Int)=>xw g k s.1 s.2,.f,fun(s:Int×G Int)=>(0≤s.1∧s.1≤(g.n:Int)∧(s.2.n:Int)≤10+s.1*2100),fun(s:Int×G Int)=>(toNat ((g.n:Int)-s.1)),some fun(H:G Int)=>(H.n:Int)≤25300⟩ .z)) (.ae (.ae (.j ⟨44,[],[],[],.f⟩ (.ae (.cW ⟨4035225266123964460,[.b 0],[],[(.t 61,a),(.h 2 0,.ad a5)],some 2,false,44,[],[(.h 2 0,.ad a5)],fun k (s:Int×G Int)=>AT h k s.1 s.2,.f,fun(s:Int×G Int)=>(0≤s.1∧s.1≤(h.n:Int)∧(s.2.n:Int)≤25400+s.1*500),fun(s:Int×G Int)=>(toNat ((h.n:Int)-s.1)),none⟩ .z)) .z))))))))) (let y:=bb A (D:G Int);let p:=qB A g;((dV A g r h)!=0)=false→((0≤400000000000)∧((y.n≤400000000000)∧((((0≤(0:Int)∧(0:Int)≤(g.n:Int)∧(((ct (g.n:Int) y).n:Nat):Int)≤10+(0:Int)*2100))∧(∀(az:Int) (cB:G Int),let t:=decide (az<(g.n:Int));let n:=i64.wrap (az+1);let e:=g.at' (toNat az);let w:=nQ e.C e.z e.I e.w e.m e.N (cV e.q cB);(0≤az∧az≤(g.n:Int)∧(cB.n:Int)≤10+az*2100)→((t=true→(((0:Int)≤az∧az<(g.n:Int))∧((cB.n≤300000000000∧e.q.size≤10000000000)∧((rC e.z e.I e.w e.m e.N∧(cV e.q cB).n≤200000000000)∧(w.n≤400000000000)))))∧((t=true→((0≤n∧n≤(g.n:Int)∧(((bb e.ao w).n:Nat):Int)≤10+n*2100)∧(toNat ((g.n:Int)-n))<(toNat ((g.n:Int)-az))))∧(t=false→((cB.n:Int)≤25300))))))∧(((p.n:Int)≤25300)→((p.n≤400000000000)∧(((bb r p).n≤400000000000)∧(((0≤(0:Int)∧(0:Int)≤(h.n:Int)∧(((ct (h.n:Int) (bb r p)).n:Nat):Int)≤25400+(0:Int)*500))∧(∀(a1:Int) (c:G Int),let x:=decide (a1<(h.n:Int));let o:=i64.wrap (a1+1);let j:=h.at' (toNat a1);let v:=bb j.q c;let q:=bb j.z (bb j.C v);let u:=cV j.w (ct j.I q);(0≤a1∧a1≤(h.n:Int)∧(c.n:Int)≤25400+a1*500)→((x=true→(((0:Int)≤a1∧a1<(h.n:Int))∧((c.n≤400000000000)∧((v.n≤400000000000)∧(((bb j.C v).n≤400000000000)∧((q.n≤400000000000)∧(((ct j.I q).n≤300000000000∧j.w.size≤10000000000)∧((u.n≤400000000000)∧(rA j.N∧(bb j.m u).n≤250000000000)))))))))∧(x=true→((0≤o∧o≤(h.n:Int)∧(((iY j.N (bb j.m u)).n:Nat):Int)≤25400+o*500)∧(toNat ((h.n:Int)-o))<(toNat ((h.n:Int)-a1)))))))))))))) (bJ 0 (aG LN aT) (aj FO (aj Bc (aj LJ (aj aun (aj aek bI)))))) Tryz.func113 (have:=C8 z;have:=Iq B;(fun d=>⟨(by omega),⟨(by have:=eC A (D:G Int);have:(D:G Int).n=0:=rfl;omega),⟨⟨(by have:=h4 (g.n:Int) (bb A (D:G Int));have:=eC A (D:G Int);have:(D:G Int).n=0:=rfl;omega),(fun az cB K=>⟨(fun l=>⟨(by have:=al l;omega),⟨(by have b:=gU _ _ _ _ (by first|assumption|exact hU.z (by assumption)) (by first|assumption|exact hT.y (by assumption)) (bB d);have:=b.1;have:=al l;have f:=b.2.1 (toNat az) (by omega);have:=f.1;omega),⟨⟨(by have b:=gU _ _ _ _ (by first|assumption|exact hU.z (by assumption)) (by first|assumption|exact hT.y (by assumption)) (bB d);have:=b.1;have:=al l;have f:=b.2.1 (toNat az) (by omega);have:=f.1;have:=f.2.1;have:=f.2.2;assumption),(by have b:=gU _ _ _ _ (by first|assumption|exact hU.z (by assumption)) (by first|assumption|exact hT.y (by assumption)) (bB d);have:=b.1;have:=al l;have f:=b.2.1 (toNat az) (by omega);have:=f.1;have:=iq (g.at' (toNat az)).q cB;omega)⟩,(by have b:=gU _ _ _ _ (by first|assumption|exact hU.z (by assumption)) (by first|assumption|exact hT.y (by assumption)) (bB d);have:=b.1;have:=al l;have f:=b.2.1 (toNat az) (by omega);have:=f.1;have:=f.2.1;have:=ae3 (g.at' (toNat az)).C (g.at' (toNat az)).z (g.at' (toNat az)).I (g.at' (toNat az)).w (g.at' (toNat az)).m (g.at' (toNat az)).N (cV (g.at' (toNat az)).q cB) (by repeat first|assumption|apply rR|apply rS|apply tq|apply p3|apply vf|apply lK|apply qO|apply tf|apply te|apply q3|apply qF|apply qG|apply h8|apply tn|apply v_|apply lb|apply jF|apply ns|apply And.intro);have:=iq (g.at' (toNat az)).q cB;omega)⟩⟩⟩),⟨(fun C=>(by have b:=gU _ _ _ _ (by first|assumption|exact hU.z (by assumption)) (by first|assumption|exact hT.y (by assumption)) (bB d);have:=al C;have f:=b.2.1 (toNat az) (by omega);have:=f.1;have:=f.2.1;have:=eC (g.at' (toNat az)).ao (nQ (g.at' (toNat az)).C (g.at' (toNat az)).z (g.at' (toNat az)).I (g.at' (toNat az)).w (g.at' (toNat az)).m (g.at' (toNat az)).N (cV (g.at' (toNat az)).q cB));have:=ae3 (g.at' (toNat az)).C (g.at' (toNat az)).z (g.at' (toNat az)).I (g.at' (toNat az)).w (g.at' (toNat az)).m (g.at' (toNat az)).N (cV (g.at' (toNat az)).q cB) (by repeat first|assumption|apply rR|apply rS|apply tq|apply p3|apply vf|apply lK|apply qO|apply tf|apply te|apply q3|apply qF|apply qG|apply h8|apply tn|apply v_|apply lb|apply jF|apply ns|apply And.intro);have:=iq (g.at' (toNat az)).q cB;have:=E (az+1);omega)),(fun I=>(by have b:=gU _ _ _ _ (by first|assumption|exact hU.z (by assumption)) (by first|assumption|exact hT.y (by assumption)) (bB d);have:=b.1;omega))⟩⟩)⟩,(fun J=>⟨(by omega),⟨(by have:=eC r (qB A g);omega),⟨(by have:=h4 (h.n:Int) (bb r (qB A g));have:=eC r (qB A g);omega),(fun a1 c L=>⟨(fun m=>⟨(by have:=al m;omega),⟨(by have b:=gU _ _ _ _ (by first|assumption|exact hU.z (by assumption)) (by first|assumption|exact hT.y (by assumption)) (bB d);have:=b.1;omega),⟨(by have b:=gU _ _ _ _ (by first|assumption|exact hU.z (by assumption)) (by first|assumption|exact hT.y (by assumption)) (bB d);have:=b.1;have:=eC (h.at' (toNat a1)).q c;omega),⟨(by have b:=gU _ _ _ _ (by first|assumption|exact hU.z (by assumption)) (by first|assumption|exact hT.y (by assumption)) (bB d);have:=b.1;have:=eC (h.at' (toNat a1)).C (bb (h.at' (toNat a1)).q c);have:=eC (h.at' (toNat a1)).q c;omega),⟨(by have b:=gU _ _ _ _ (by first|assumption|exact hU.z (by assumption)) (by first|assumption|exact hT.y (by assumption)) (bB d);have:=b.1;have:=eC (h.at' (toNat a1)).z (bb (h.at' (toNat a1)).C (bb (h.at' (toNat a1)).q c));have:=eC (h.at' (toNat a1)).C (bb (h.at' (toNat a1)).q c);have:=eC (h.at' (toNat a1)).q c;omega),⟨(by have b:=gU _ _ _ _ (by first|assumption|exact hU.z (by assumption)) (by first|assumption|exact hT.y (by assumption)) (bB d);have:=b.1;have:=al m;have i:=b.2.2 (toNat a1) (by omega);have:=i.2.1;have:=h4 (h.at' (toNat a1)).I (bb (h.at' (toNat a1)).z (bb (h.at' (toNat a1)).C (bb (h.at' (toNat a1)).q c)));have:=eC (h.at' (toNat a1)).z (bb (h.at' (toNat a1)).C (bb (h.at' (toNat a1)).q c));have:=eC (h.at' (toNat a1)).C (bb (h.at' (toNat a1)).q c);have:=eC (h.at' (toNat a1)).q c;omega),⟨(by have b:=gU _ _ _ _ (by first|assumption|exact hU.z (by assumption)) (by first|assumption|exact hT.y (by assumption)) (bB d);have:=b.1;have:=al m;have i:=b.2.2 (toNat a1) (by omega);have:=i.2.1;have:=iq (h.at' (toNat a1)).w (ct (h.at' (toNat a1)).I (bb (h.at' (toNat a1)).z (bb (h.at' (toNat a1)).C (bb (h.at' (toNat a1)).q c))));have:=h4 (h.at' (toNat a1)).I (bb (h.at' (toNat a1)).z (bb (h.at' (toNat a1)).C (bb (h.at' (toNat a1)).q c)));have:=eC (h.at' (toNat a1)).z (bb (h.at' (toNat a1)).C (bb (h.at' (toNat a1)).q c));have:=eC (h.at' (toNat a1)).C (bb (h.at' (toNat a1)).q c);have:=eC (h.at' (toNat a1)).q c;omega),⟨(by have b:=gU _ _ _ _ (by first|assumption|exact hU.z (by assumption)) (by first|assumption|exact hT.y (by assumption)) (bB d);have:=b.1;have:=al m;have i:=b.2.2 (toNat a1) (by omega);have:=i.1;have:=i.2.1;have:=i.2.2;assumption),(by have b:=gU _ _ _ _ (by first|assumption|exact hU.z (by assumption)) (by first|assumption|exact hT.y (by assumption)) (bB d);have:=b.1;have:=al m;have i:=b.2.2 (toNat a1) (by omega);have:=i.2.1;have:=eC (h.at' (toNat a1)).m (cV (h.at' (toNat a1)).w (ct (h.at' (toNat a1)).I (bb (h.at' (toNat a1)).z (bb (h.at' (toNat a1)).C (bb (h.at' (toNat a1)).q c)))));have:=iq (h.at' (toNat a1)).w (ct (h.at' (toNat a1)).I (bb (h.at' (toNat a1)).z (bb (h.at' (toNat a1)).C (bb (h.at' (toNat a1)).q c))));have:=h4 (h.at' (toNat a1)).I (bb (h.at' (toNat a1)).z (bb (h.at' (toNat a1)).C (bb (h.at' (toNat a1)).q c)));have:=eC (h.at' (toNat a1)).z (bb (h.at' (toNat a1)).C (bb (h.at' (toNat a1)).q c));have:=eC (h.at' (toNat a1)).C (bb (h.at' (toNat a1)).q c);have:=eC (h.at' (toNat a1)).q c;omega)⟩⟩⟩⟩⟩⟩⟩⟩),(fun F=>(by have b:=gU _ _ _ _ (by first|assumption|exact hU.z (by assumption)) (by first|assumption|exact hT.y (by assumption)) (bB d);have:=al F;have i:=b.2.2 (toNat a1) (by omega);have:=i.2.1;have:=i.2.2;have:=Uv (h.at' (toNat a1)).N (bb (h.at' (toNat a1)).m (cV (h.at' (toNat a1)).w (ct (h.at' (toNat a1)).I (bb (h.at' (toNat a1)).z (bb (h.at' (toNat a1)).C (bb (h.at' (toNat a1)).q c)))))) (by repeat first|assumption|apply rR|apply rS|apply tq|apply p3|apply vf|apply lK|apply qO|apply tf|apply te|apply q3|apply qF|apply qG|apply h8|apply tn|apply v_|apply lb|apply jF|apply ns|apply And.intro);have:=eC (h.at' (toNat a1)).m (cV (h.at' (toNat a1)).w (ct (h.at' (toNat a1)).I (bb (h.at' (toNat a1)).z (bb (h.at' (toNat a1)).C (bb (h.at' (toNat a1)).q c)))));have:=iq (h.at' (toNat a1)).w (ct (h.at' (toNat a1)).I (bb (h.at' (toNat a1)).z (bb (h.at' (toNat a1)).C (bb (h.at' (toNat a1)).q c))));have:=h4 (h.at' (toNat a1)).I (bb (h.at' (toNat a1)).z (bb (h.at' (toNat a1)).C (bb (h.at' (toNat a1)).q c)));have:=eC (h.at' (toNat a1)).z (bb (h.at' (toNat a1)).C (bb (h.at' (toNat a1)).q c));have:=eC (h.at' (toNat a1)).C (bb (h.at' (toNat a1)).q c);have:=eC (h.at' (toNat a1)).q c;have:=E (a1+1);omega))⟩)⟩⟩⟩)⟩⟩⟩))
end
def hb(s:G L)(i:Nat):List Int:=fu (s.at' i).q++(dH (s.at' i).C (s.at' i).z (s.at' i).I (s.at' i).w (s.at' i).m (s.at' i).N++au (s.at' i).ao)
def xY(s:G aw)(i:Nat):List Int:=au (s.at' i).q++(au (s.at' i).C++(au (s.at' i).z++(tj (s.at' i).I++(fu (s.at' i).w++(au (s.at' i).m++GV (s.at' i).N)))))
def LY(A:Int)(g:G L)(r:Int)(h:G aw):List Int:=au A++(tj (g.n:Int)++(cat (hb g) g.n 0++(au r++(tj (h.n:Int)++cat (xY h) h.n 0))))
theorem Zx{s:G L}{i:Nat}(h:Hj (s.at' i)):(hb s i).length≤2100:=by
 have a:=vt h.1;have b:=ahY (A:=(s.at' i).C) h.2.1;unfold hb;simp only[dC,F5];omega
theorem aeR{s:G aw}{i:Nat}(h:Om (s.at' i)):(xY s i).length≤500:=by
 have a:=vt h.2.1.2.1;have b:=WG h.2.2;unfold xY;simp only[dC,F5,MN];omega
theorem axt{A:Int}{g:G L}{r:Int}{h:G aw}(b:Hr A g r h):(LY A g r h).length≤28000:=by
 have a:=b.1;have c:=y4 (f:=hb g) (D:=2100) g.n 0 fun j _ e=>Zx (b.2.1 j (by omega));have d:=y4 (f:=xY h) (D:=500) h.n 0 fun j _ e=>aeR (b.2.2 j (by omega));unfold LY;simp only[dC,F5,MN];omega
theorem aiu{A:Int}{g:G L}{r:Int}{h:G aw}(b:Hr A g r h):(uY A g r h).B=LY A g r h:=by
 have j:=b.1;have d:(qB A g).B=(ct (g.n:Int) (bb A (D:G Int))).B++cat (hb g) g.n 0:=
  Bj (xw g) g.n 2100 _ (fun i s=>bb (g.at' (toNat i)).ao (nQ (g.at' (toNat i)).C (g.at' (toNat i)).z (g.at' (toNat i)).I (g.at' (toNat i)).w (g.at' (toNat i)).m (g.at' (toNat i)).N (cV (g.at' (toNat i)).q s))) (hb g) (by omega) (fun _ _ _=>rfl) (fun i s c _=>by
   have a:=b.2.1 i c;have f:=a.1;have l:=a.2.2;simp only[fN];refine⟨?_,Zx a⟩;rw[tt _ (by omega) (by omega),W0 _ _ _ _ _ _ _ a.2.1,yE _ (by omega)];simp only[hb,eZ]) _ (bC _)
 have e:(uY A g r h).B=(ct (h.n:Int) (bb r (qB A g))).B++cat (xY h) h.n 0:=
  Bj (AT h) h.n 500 _ (fun i s=>iY (h.at' (toNat i)).N (bb (h.at' (toNat i)).m (cV (h.at' (toNat i)).w (ct (h.at' (toNat i)).I (bb (h.at' (toNat i)).z (bb (h.at' (toNat i)).C (bb (h.at' (toNat i)).q s))))))) (xY h) (by omega) (fun _ _ _=>rfl) (fun i s c _=>by
   have a:=b.2.2 i c;have f:=a.1;have k:=a.2.1;simp only[fN];refine⟨?_,aeR a⟩;rw[Nn _ _ a.2.2,tt _ (by omega) (by omega),yE _ (by omega),yD,tt _ (by omega) (by omega),tt _ (by omega) (by omega),tt _ (by omega) (by omega)];simp only[xY,eZ]) _ (bC _)
 rw[e,yD,tt _ (by omega) (by omega),d,yD,tt _ (by omega) (by omega),vG];simp only[LY,eZ,pK]
def alI(A df:Int)(c_:G L)(dg:Int)(da:G aw):Prop:=A≠1→A≠2→Hr df c_ dg da
theorem t153{x:Int}(h:(!(nP x))=false):1≤x∧x≤1048576:=by
 unfold nP I1 at h
 by_cases a:x≥1
 ·by_cases b:x≤1048576
  ·omega
  ·simp [b]at h
 ·simp [a]at h
theorem V3{A g r h o c:Int}{v:Bool}{y p x:Int}{R bz bP:u}{b2 ck dq df:Int}{c_:G L}{dg:Int}{da:G aw}(a:ff A g r h o c v y p x R bz bP b2 ck dq df c_ dg da=0):
  (A=1∧(1≤g∧g≤1048576)∧ -1≤r∧r<3)∨(A=2∧(1≤h∧h≤1048576)∧e_ o c v y p x R bz bP b2=0)∨(A=3∧(1≤ck∧ck≤1048576)∧(1≤dq∧dq≤1048576)∧dV df c_ dg da=0):=by
 unfold ff at a;obtain⟨j,a⟩:=dv a (by decide);obtain⟨_,a⟩:=dv a (by decide);unfold SO at j;obtain⟨k,l⟩:=cP j;have n:=db k;have z:=db l
 by_cases d:A=1
 ·left;rw[d]at a;simp only[pM,aQ]at a;obtain⟨m,_⟩:=dv a (by decide);unfold AU at m;obtain⟨b,m⟩:=cP m;obtain⟨f,i⟩:=cP m;have q:=db f;have d3:=db i;exact⟨d,t153 b,by omega,by omega⟩
 ·rw[hx.2 d]at a;simp only[aS]at a
  by_cases e:A=2
  ·right;left;rw[e]at a;simp only[pM,aQ]at a;obtain⟨b,a⟩:=dv a (by decide);exact⟨e,t153 b,a⟩
  ·right;right;rw[hx.2 e]at a;simp only[aS]at a;unfold lC at a;obtain⟨b,a⟩:=dv a (by decide);unfold E7 at b;obtain⟨f,i⟩:=cP b;exact⟨by omega,t153 f,t153 i,a⟩
theorem am2{A g r h o c:Int}{v:Bool}{y p x:Int}{R bz bP:u}{b2 ck dq df:Int}{c_:G L}{dg:Int}{da:G aw}(i:dt c_)(f:ey da)(a:ff A g r h o c v y p x R bz bP b2 ck dq df c_ dg da=0):alI A df c_ dg da:=fun b d=>by
 rcases V3 a with⟨e,_⟩|⟨e,_⟩|⟨_,_,_,e⟩
 ·exact absurd e b
 ·exact absurd e d
 ·exact gU _ _ _ _ i f e
theorem M5:(0:Int)≤0∧(0:Int)≤255:=by decide
theorem vw:aD (D:G Int):=fun _=>M5
theorem WI:aD (default:G Int):=fun _=>M5
theorem vu{a b:G Int}(c:aD a)(d:aD b):aD (G.app a b):=fun i=>by
 show 0≤(cond (Nat.blt i a.n) (a.at' i) (b.at' (i-a.n)))∧(cond (Nat.blt i a.n) (a.at' i) (b.at' (i-a.n)))≤255
 cases Nat.blt i a.n
 ·exact d _
 ·exact c _
theorem ahU(x:Int):0≤u8.wrap x∧u8.wrap x≤255:=by
 have h:u8.wrap x=x%256:=rfl;rw[h];omega
theorem WL(x:Int):aD (G.lit [u8.wrap x]):=fun i=>by
 cases i with
 |zero=>exact ahU x
 |succ i=>exact M5
theorem aBP(s:u):aD (G.ofStr s):=fun i=>by
 show 0≤((s.data.toList.getD i 0).toNat:Int)∧((s.data.toList.getD i 0).toNat:Int)≤255;have:=(s.data.toList.getD i 0).toNat_lt;omega
theorem vv{F:Nat→Int→G Int→G Int}{c:Int→Bool}{e:Int→Int}{st:Int→G Int→G Int}(a: ∀i t,F 0 i t=default)(b: ∀k i t,F (k+1) i t=bif c i then F k (e i) (st i t)else t)(d: ∀i t,aD t→aD (st i t)): ∀k i t,aD t→aD (F k i t)
 |0,i,t,_=>by rw[a];exact WI
 |k+1,i,t,h=>by
  rw[b]
  cases c i
  ·exact h
  ·exact vv a b d k _ _ (d i t h)
theorem pD(x:Int){s:G Int}(h:aD s):aD (ct x s):=vu h (WL x)
theorem lL(x:Int){s:G Int}(h:aD s):aD (bb x s):=by
 unfold bb aaQ;exact vv (fun _ _=>rfl) (fun _ _ _=>rfl) (fun i t a=>vu a (WL _)) _ _ _ h
theorem ra(x:u){s:G Int}(h:aD s):aD (cV x s):=vu (pD _ h) (aBP x)
theorem ahM(x:G u){s:G Int}(h:aD s):aD (iY x s):=by
 unfold iY Ri;exact vv (fun _ _=>rfl) (fun _ _ _=>rfl) (fun i t a=>ra _ a) _ _ _ (pD _ h)
theorem aBJ(A:Int)(g:u)(r:Int)(h:G bl)(o:G u)(c:G bH){s:G Int}(b:aD s):aD (nQ A g r h o c s):=by
 have d:aD (p_ A g r h s):=by
  unfold p_;exact vv (fun _ _=>rfl) (fun _ _ _=>rfl) (fun i t a=>ra _ (ra _ a)) _ _ _ (pD _ (lL _ (ra _ (pD _ b))))
 unfold nQ DN;exact vv (fun _ _=>rfl) (fun _ _ _=>rfl) (fun i t a=>lL _ (ra _ a)) _ _ _ (pD _ (ahM _ d))
theorem h8(A:Int)(g:G L)(r:Int)(h:G aw):aD (jz A g r h):=by
 have b:aD (qB A g):=by
  unfold qB;exact vv (fun _ _=>rfl) (fun _ _ _=>rfl) (fun i t a=>lL _ (aBJ _ _ _ _ _ _ (ra _ a))) _ _ _ (pD _ (lL _ vw))
 have c:aD (uY A g r h):=by
  unfold uY;exact vv (fun _ _=>rfl) (fun _ _ _=>rfl) (fun i t a=>ahM _ (lL _ (ra _ (pD _ (lL _ (lL _ (lL _ a))))))) _ _ _ (pD _ (lL _ b))
 unfold jz
 cases (dV A g r h !=0)
 ·exact c
 ·exact vw
def yO(s:G (G Int)):Prop:=s.n≤10∧ ∀i,i<s.n→(s.at' i).n≤1000000
theorem PU{a b c:G Int}(e:a.n≤1000000)(f:b.n≤1000000)(g:c.n≤1000000):yO (G.lit [a,b,c]):=by
 refine⟨by show 3≤10;omega,fun i d=> ?_⟩;have d:i<3:=d;have:i=0∨i=1∨i=2:=by omega
 rcases this with rfl|rfl|rfl
 ·exact e
 ·exact f
 ·exact g
theorem PV{a b c d:G Int}(f:a.n≤1000000)(g:b.n≤1000000)(h:c.n≤1000000)(j:d.n≤1000000):yO (G.lit [a,b,c,d]):=by
 refine⟨by show 4≤10;omega,fun i e=> ?_⟩;have e:i<4:=e;have:i=0∨i=1∨i=2∨i=3:=by omega
 rcases this with rfl|rfl|rfl|rfl
 ·exact f
 ·exact g
 ·exact h
 ·exact j
theorem ae5(A g:Int)(r:Bool)(h o c:Int)(v y p:u)(x:Int):v.size≤10000000000∧y.size≤10000000000∧p.size≤10000000000→(o9 A g r h o c v y p x).n≤40000000000:=fun a=>by
 unfold o9
 cases (e_ A g r h o c v y p x !=0)
 ·simp only[aS];unfold DC D2 Ea
  cases r
  ·simp only[aS]
   cases decide (h>0)
   ·simp only[aS,eC,h4,Bv];omega
   ·simp only[aQ,eC,h4,iq,Bv];omega
  ·simp only[aQ,eC,h4,Bv];omega
 ·simp only[aQ,Bv];omega
theorem ae6(A:Int)(g:G L)(r:Int)(h:G aw)(a:dt g∧ey h):(jz A g r h).n≤28000:=by
 unfold jz
 by_cases e:dV A g r h=0
 ·have b:=gU A g r h a.1 a.2 e;rw[show(dV A g r h !=0)=false by simp [e]];simp only[aS];rw[←a_,aiu b];exact axt b
 ·rw[show(dV A g r h !=0)=true by simp [e]];simp only[aQ,Bv];omega
def Rs(A:G (G Int)):Nat→Int→Int→Int
 |0,_,_=>default
 |k+1,e,f=>(cond (decide (f<(A.n:Int))) (Rs A k (i64.wrap (e+((A.at' (toNat f)).n:Int))) (i64.wrap (f+1))) e)
def ao_(A:G (G Int)):Int:=Rs A ((toNat ((A.n:Int)-0))+1) 0 0
def I5(A:G (G Int)):Nat→Int→G Int→G Int
 |0,_,_=>default
 |k+1,a,b=>(cond (decide (a<(A.n:Int))) (I5 A k (i64.wrap (a+1)) (G.app b (A.at' (toNat a)))) b)
def I6(A:G (G Int)):G Int:=I5 A ((toNat ((A.n:Int)-0))+1) 0 (D:G Int)
def r7(A:G (G Int)):G Int:=(I6 A)
def ajM:ba:=⟨[.v (.ab Xr)],fun A=>⟨⟨some (yO A),(aB.ad a5).av (r7 A)⟩⟩⟩
theorem aeo:bn 117 ajM:=bq Tryz.func117
 fun A B _ c=>bu ⟨.own a5,[.tmp 2],[(.h 0 0,.ad a5)],⟨[],[]⟩⟩ (.ae (.ae (.j ⟨13,[],[],[],.f⟩ (.ae (.cW ⟨3597,[],[],[(.t 3,a),(.t 11,a)],some 0,false,13,[],[(.t 3,a)],fun k (s:Int×Int)=>Rs A k s.1 s.2,.f,fun(s:Int×Int)=>(0≤s.2∧s.2≤(A.n:Int)∧0≤s.1∧s.1≤s.2*1000000),fun(s:Int×Int)=>(toNat ((A.n:Int)-s.2)),some fun(r:Int)=>(0≤r∧r≤10000000)⟩ .z)) (.ae (.j ⟨68,[],[],[],.f⟩ (.ae (.cW ⟨234881092,[],[],[(.t 27,a),(.h 0 0,.ad a5)],some 2,false,68,[],[(.h 0 0,.ad a5)],fun k (s:Int×G Int)=>I5 A k s.1 s.2,.f,fun(s:Int×G Int)=>(0≤s.1∧s.1≤(A.n:Int)∧(s.2.n:Int)≤s.1*1000000),fun(s:Int×G Int)=>(toNat ((A.n:Int)-s.1)),none⟩ .z)) .z))))) (let j:=ao_ A;(((0≤(0:Int)∧(0:Int)≤(A.n:Int)∧0≤(0:Int)∧(0:Int)≤(0:Int)*1000000))∧(∀(e:Int) (f:Int),let l:=decide (f<(A.n:Int));let h:=i64.wrap (f+1);let g:=i64.wrap (e+((A.at' (toNat f)).n:Int));(0≤f∧f≤(A.n:Int)∧0≤e∧e≤f*1000000)→((l=true→(((0:Int)≤f∧f<(A.n:Int))∧((decide (g<0))=true→False)))∧((l=true→((decide (g<0))=false→((0≤h∧h≤(A.n:Int)∧0≤g∧g≤h*1000000)∧(toNat ((A.n:Int)-h))<(toNat ((A.n:Int)-f)))))∧(l=false→((0≤e∧e≤10000000)))))))∧(((0≤j∧j≤10000000))→((0≤j∧j≤549755813888)∧(((0≤(0:Int)∧(0:Int)≤(A.n:Int)∧((0:Nat):Int)≤(0:Int)*1000000))∧(∀(b:Int) (d:G Int),let p:=A.at' (toNat b);let o:=decide (b<(A.n:Int));let i:=i64.wrap (b+1);(0≤b∧b≤(A.n:Int)∧(d.n:Int)≤b*1000000)→((o=true→(((0:Int)≤b∧b<(A.n:Int))∧(d.n+p.n≤549755813888)))∧(o=true→((0≤i∧i≤(A.n:Int)∧(((d.n+p.n):Nat):Int)≤i*1000000)∧(toNat ((A.n:Int)-i))<(toNat ((A.n:Int)-b)))))))))) (cu (aG auY aT)) Tryz.func117 (⟨⟨(by omega),(fun e f y=>⟨(fun m=>⟨(by have:=al m;omega),(fun t=>(by have:=al m;have:=al t;have:=c.2 (toNat f) (by omega);have:=E (e+((A.at' (toNat f)).n:Int));omega))⟩),⟨(fun u=>(fun v=>(by have:=al u;have:=c.2 (toNat f) (by omega);have:=E (f+1);have:=E (e+((A.at' (toNat f)).n:Int));omega))),(fun w=>(by have:=c.1;omega))⟩⟩)⟩,(fun x=>⟨(by omega),⟨(by omega),(fun b d z=>⟨(fun n=>⟨(by have:=al n;omega),(by have:=al n;have:=c.1;have:=c.2 (toNat b) (by omega);omega)⟩),(fun q=>(by have:=al q;have:=c.2 (toNat b) (by omega);have:=E (b+1);omega))⟩)⟩⟩)⟩)
def hH(A:Int):G Int:=(G.lit ([(u8.wrap (A/2^(toNat 16))),(u8.wrap (A/2^(toNat 8))),(u8.wrap A)]:List Int))
def ajN:ba:=⟨[.v a],fun A=>⟨⟨none,(aB.ad a5).av (hH A)⟩⟩⟩
theorem aep:bn 118 ajN:=bq Tryz.func118
 fun(A:Int)=>bu ⟨.own a5,[.tmp 2],[(.h 0 0,.ad a5)],⟨[],[]⟩⟩ (.z) (((0:Int)≤16∧(16:Int)≤64)∧((0:Int)≤8∧(8:Int)≤64)) fb Tryz.func118 (⟨(by omega),(by omega)⟩)
theorem oe(A:Int):(hH A).n=3:=rfl
def jx(A:Int)(g:Int)(r:Int)(h:Int)(o:Int)(c:Int)(v:Bool)(y:Int)(p:Int)(x:Int)(R:u)(bz:u)(bP:u)(b2:Int)(ck:Int)(dq:Int)(df:Int)(c_:G L)(dg:Int)(da:G aw):G Int:=(cond (A==1) (G.app (G.app (G.lit ([1]:List Int)) (hH g)) (G.lit ([(u8.wrap (i64.wrap (r+1)))]:List Int))) (cond (A==2) (G.app (G.app (G.lit ([2]:List Int)) (hH h)) (o9 o c v y p x R bz bP b2)) (r7 (G.lit ([(G.lit ([3]:List Int)),(hH ck),(hH dq),(jz df c_ dg da)]:List (G Int))))))
def ajL:ba:=⟨[.g [a,a,a,a,a,a,l,a,a,a,ai,ai,ai,a,a,a,a,.ab bd,a,.ab bT]],fun(A:Int) (g:Int) (r:Int) (h:Int) (o:Int) (c:Int) v (y:Int) (p:Int) (x:Int) R bz bP (b2:Int) (ck:Int) (dq:Int) (df:Int) c_ (dg:Int) da=>⟨⟨some (R.size≤10000000000∧bz.size≤10000000000∧bP.size≤10000000000),(aB.ad a5).av (jx A g r h o c v y p x R bz bP b2 ck dq df c_ dg da)⟩⟩⟩
theorem auy:bn 116 ajL:=bq Tryz.func116
 fun(A:Int) (g:Int) (r:Int) (h:Int) (o:Int) (c:Int) v (y:Int) (p:Int) (x:Int) R q bz s bP t (b2:Int) (ck:Int) (dq:Int) (df:Int) c_ u a (dg:Int) da w b f=>bu ⟨.own a5,[.tmp 2],[(.h 0 0,.ad a5)],⟨[],[]⟩⟩ (.z) ((((A==1)=true→((1+(hH g).n≤549755813888)∧((1+(hH g).n)+1≤549755813888)))∧((A==1)=false→((A==2)=true→((R.size≤10000000000∧bz.size≤10000000000∧bP.size≤10000000000)∧((1+(hH h).n≤549755813888)∧((1+(hH h).n)+(o9 o c v y p x R bz bP b2).n≤549755813888))))))∧((A==1)=false→((A==2)=false→(yO (G.lit ([(G.lit ([3]:List Int)),(hH ck),(hH dq),(jz df c_ dg da)]:List (G Int))))))) (cu (aG LM (aG aeM (aG aeo (aG aep aT))))) Tryz.func116 (have⟨l,m,n⟩:=f;have:=C8 a;have:=Iq b;⟨⟨(fun i=>⟨(by have:=oe g;omega),(by have:=oe g;omega)⟩),(fun j=>(fun k=>⟨(by omega),⟨(by have:=oe h;omega),(by have:=oe h;have:=ae5 o c v y p x R bz bP b2;omega)⟩⟩))⟩,(fun d=>(fun e=>(by have:=cZ d;have:=cZ e;have:=oe ck;have:=oe dq;have:=ae6 df c_ dg da (by repeat first|assumption|apply rR|apply rS|apply tq|apply p3|apply vf|apply lK|apply qO|apply tf|apply te|apply q3|apply qF|apply qG|apply h8|apply tn|apply v_|apply lb|apply jF|apply ns|apply And.intro);have:(G.lit ([3]:List Int)).n=1:=rfl;have:(G.lit ([(G.lit ([3]:List Int)),(hH ck),(hH dq),(jz df c_ dg da)]:List (G Int))).n=4:=rfl;(first|exact PU (by omega) (by omega) (by omega)|exact PV (by omega) (by omega) (by omega) (by omega)|assumption))))⟩)
theorem W_(s:G (G Int))(h:yO s):(r7 s).B=cat (fun i=>(s.at' i).B) s.n 0:=by
 have a:(I6 s).B=(D:G Int).B++cat (fun i=>(s.at' i).B) s.n 0:=
  Bj (I5 s) s.n 1000000 0 (fun i t=>G.app t (s.at' (toNat i))) (fun i=>(s.at' i).B) (by have:=h.1;omega) (fun _ _ _=>rfl) (fun i t b _=>by
   have:=h.2 i b;simp only[fN];exact⟨jm _ _,by rw[a_];omega⟩) _ (bC _)
 show(I6 s).B=_;rw[a,vG,pK]
theorem aiq{a b c:G Int}(d:a.n≤1000000)(e:b.n≤1000000)(f:c.n≤1000000):(r7 (G.lit [a,b,c])).B=a.B++(b.B++c.B):=by
 rw[W_ _ (PU d e f)];show a.B++(b.B++(c.B++[]))=_;rw[h_]
theorem Xi{a b c d:G Int}(e:a.n≤1000000)(f:b.n≤1000000)(g:c.n≤1000000)(h:d.n≤1000000):(r7 (G.lit [a,b,c,d])).B=a.B++(b.B++(c.B++d.B)):=by
 rw[W_ _ (PV e f g h)];show a.B++(b.B++(c.B++(d.B++[])))=_;rw[h_]
theorem awO(A g r h o c:Int)(v:Bool)(y p x:Int)(R bz bP:u)(b2 ck dq df:Int)(c_:G L)(dg:Int)(da:G aw)(a:dt c_∧ey da):
  R.size≤10000000000∧bz.size≤10000000000∧bP.size≤10000000000→(jx A g r h o c v y p x R bz bP b2 ck dq df c_ dg da).n≤50000000000:=fun b=>by
 unfold jx
 cases (A==1)
 ·simp only[aS]
  cases (A==2)
  ·simp only[aS];have l:=ae6 df c_ dg da a;rw[←a_,Xi (by show 1≤_;omega) (by rw[oe];omega) (by rw[oe];omega) (by omega)];simp only[dC,a_,oe,G.mj,dr,fH];omega
  ·have l:=ae5 o c v y p x R bz bP b2 b;simp only[aQ,G.oH,G.mj,oe,dr,fH];omega
 ·simp only[aQ,G.oH,G.mj,oe,dr,fH];omega
section
variable(A:G Int)(g:Int)(r:Int)(h:Int)(o:Int)(c:Int)(v:Int)(y:Int)(p:Bool)(x:Int)(R:Int)(bz:Int)(bP:u)(b2:u)(ck:u)(dq:Int)(df:Int)(c_:Int)(dg:Int)(da:G L)(hs:Int)(ht:G aw)
def uc:Bool:=(cond (decide (g<0)) true (cond (decide (g>(A.n:Int))) true (decide ((A.n:Int)>400000))))
def br:G Int:=(cond (uc A g) (D:G Int) A)
def jU:Int:=(cond (uc A g) 0 g)
def hc:Bool:=(cond (uc A g) false true)
def aiO:ba:=⟨[.g [.ab a5,a]],fun A g=>⟨⟨none,.c7 [.agg [aI 1 cN (br A g),b (jU A g)],.bool (hc A g)]⟩⟩⟩
theorem LF:bn 108 aiO:=bq Tryz.func108
 fun A _ _ (g:Int)=>bu ⟨.pure,[.cell 2 85,.tmp 3],[(.c 0 0,.ab a5),(.c 0 1,a),(.t 1,l)],⟨[.agg (us 2 []),U],[]⟩⟩ (.ae (.s (.j ⟨1048590,[],[(.t 20,l)],[],.f⟩ .z .z) .z)) True (cu (aG ael aT)) Tryz.func108 (trivial)
theorem qH(A:G Int)(g:Int)(h:hc A g=true):(0≤jU A g∧jU A g≤((br A g).n:Int))∧(br A g).n≤400000:=by
 unfold hc at h
 cases a:uc A g with
 |true=>rw[a]at h;simp at h
 |false=>
  simp only[jU,br,a,aS];simp [uc]at a;omega
theorem kK{A:G Int}{g:Int}(h:aD A):aD (br A g):=by
 unfold br
 cases uc A g
 ·exact h
 ·exact fun _=>⟨cR 0,(by decide:(0:Int)≤255)⟩
def xz:G Int:=(cond (!(hc A g)) (D:G Int) (cond ((ff r h o c v y p x R bz bP b2 ck dq df c_ dg da hs ht)!=0) (D:G Int) (cond (decide ((i64.wrap ((i64.wrap (((br A g).n:Int)+3))+(((jx r h o c v y p x R bz bP b2 ck dq df c_ dg da hs ht).n:Nat):Int)))>400000)) (D:G Int) (r7 (G.lit ([(br A g),(hH (((jx r h o c v y p x R bz bP b2 ck dq df c_ dg da hs ht).n:Nat):Int)),(jx r h o c v y p x R bz bP b2 ck dq df c_ dg da hs ht)]:List (G Int)))))))
def KF:Int:=(cond (!(hc A g)) 0 (cond ((ff r h o c v y p x R bz bP b2 ck dq df c_ dg da hs ht)!=0) 0 (cond (decide ((i64.wrap ((i64.wrap (((br A g).n:Int)+3))+(((jx r h o c v y p x R bz bP b2 ck dq df c_ dg da hs ht).n:Nat):Int)))>400000)) 0 (jU A g))))
def xA:Int:=(cond (!(hc A g)) 13 (cond ((ff r h o c v y p x R bz bP b2 ck dq df c_ dg da hs ht)!=0) (ff r h o c v y p x R bz bP b2 ck dq df c_ dg da hs ht) (cond (decide ((i64.wrap ((i64.wrap (((br A g).n:Int)+3))+(((jx r h o c v y p x R bz bP b2 ck dq df c_ dg da hs ht).n:Nat):Int)))>400000)) 6 0)))
def alq:ba:=⟨[.g [.ab a5,a],.g [a,a,a,a,a,a,l,a,a,a,ai,ai,ai,a,a,a,a,.ab bd,a,.ab bT]],fun A (g:Int) (r:Int) (h:Int) (o:Int) (c:Int) (v:Int) (y:Int) p (x:Int) (R:Int) (bz:Int) bP b2 ck (dq:Int) (df:Int) (c_:Int) (dg:Int) da (hs:Int) ht=>⟨⟨some (bP.size≤10000000000∧b2.size≤10000000000∧ck.size≤10000000000),.c7 [.agg [aI 1 cN (xz A g r h o c v y p x R bz bP b2 ck dq df c_ dg da hs ht),b (KF A g r h o c v y p x R bz bP b2 ck dq df c_ dg da hs ht)],b (xA A g r h o c v y p x R bz bP b2 ck dq df c_ dg da hs ht)]⟩⟩⟩
theorem avP:bn 103 alq:=bq Tryz.func103
 fun A s _ (g:Int) (r:Int) (h:Int) (o:Int) (c:Int) (v:Int) (y:Int) p (x:Int) (R:Int) (bz:Int) bP t b2 u ck w (dq:Int) (df:Int) (c_:Int) (dg:Int) da z d (hs:Int) ht B e k=>bu ⟨.pure,[.cell 4 85,.tmp 5],[(.c 0 0,.ab a5),(.c 0 1,a),(.t 1,a)],⟨[.agg (us 2 []),U],[]⟩⟩ (.z) (let b:=jx r h o c v y p x R bz bP b2 ck dq df c_ dg da hs ht;(!(hc A g))=false→(((ff r h o c v y p x R bz bP b2 ck dq df c_ dg da hs ht)!=0)=false→((bP.size≤10000000000∧b2.size≤10000000000∧ck.size≤10000000000)∧((decide ((i64.wrap ((i64.wrap (((br A g).n:Int)+3))+(b.n:Int)))>400000))=false→(yO (G.lit ([(br A g),(hH (b.n:Int)),b]:List (G Int)))))))) (cu (aG Un (aG LF (aG auy (aG aeo (aG aep aT)))))) Tryz.func103 (have⟨m,n,q⟩:=k;have:=C8 d;have:=Iq e;(fun f=>(fun i=>⟨(by omega),(fun j=>(by have:=qH _ _ (by simpa using f);have l:=am2 (by first|assumption|exact hU.z (by assumption)) (by first|assumption|exact hT.y (by assumption)) (bB i);have:=hy j;have:=oe (((jx r h o c v y p x R bz bP b2 ck dq df c_ dg da hs ht).n:Nat):Int);have:=awO r h o c v y p x R bz bP b2 ck dq df c_ dg da hs ht (by repeat first|assumption|apply rR|apply rS|apply tq|apply p3|apply vf|apply lK|apply qO|apply tf|apply te|apply q3|apply qF|apply qG|apply h8|apply tn|apply v_|apply lb|apply jF|apply ns|apply And.intro);have:(G.lit ([(br A g),(hH (((jx r h o c v y p x R bz bP b2 ck dq df c_ dg da hs ht).n:Nat):Int)),(jx r h o c v y p x R bz bP b2 ck dq df c_ dg da hs ht)]:List (G Int))).n=3:=rfl;have:=E (((br A g).n:Int)+3);have:=E ((i64.wrap (((br A g).n:Int)+3))+(((jx r h o c v y p x R bz bP b2 ck dq df c_ dg da hs ht).n:Nat):Int));(first|exact PU (by omega) (by omega) (by omega)|exact PV (by omega) (by omega) (by omega) (by omega)|assumption)))⟩)))
end
section
variable(A:G Int)(g:Int)(r:Int)
def AI:G Int:=(cond (!(hc A g)) (D:G Int) (br A g))
def JK:Int:=(cond (!(hc A g)) 0 ((br A g).n:Int))
def apY:Int:=(cond (!(hc A g)) 13 0)
def akQ:ba:=⟨[.g [.ab a5,a]],fun A g=>⟨⟨none,.c7 [.agg [aI 1 cN (AI A g),b (JK A g)],b (apY A g)]⟩⟩⟩
theorem avz:bn 96 akQ:=bq Tryz.func96
 fun A _ _ (g:Int)=>bu ⟨.pure,[.cell 2 85,.tmp 3],[(.c 0 0,.ab a5),(.c 0 1,a),(.t 1,a)],⟨[.agg (us 2 []),U],[]⟩⟩ (.z) True (cu (aG LF aT)) Tryz.func96 (trivial)
def o7:G Int:=(cond (!(hc A g)) (D:G Int) (cond (decide (r<0)) (D:G Int) (G.part (br A g) 0 (i64.wrap ((jU A g)+(fs r (i64.wrap (((br A g).n:Int)- (jU A g)))))))))
def uT:Int:=(cond (!(hc A g)) 0 (cond (decide (r<0)) 0 (i64.wrap ((jU A g)+(fs r (i64.wrap (((br A g).n:Int)- (jU A g))))))))
def ap7:Int:=(cond (!(hc A g)) 13 (cond (decide (r<0)) 2 0))
def ak4:ba:=⟨[.g [.ab a5,a],.v a],fun A g r=>⟨⟨none,.c7 [.agg [aI 1 cN (o7 A g r),b (uT A g r)],b (ap7 A g r)]⟩⟩⟩
theorem avK:bn 97 ak4:=bq Tryz.func97
 fun A e _ (g:Int) (r:Int)=>bu ⟨.pure,[.cell 4 85,.tmp 5],[(.c 0 0,.ab a5),(.c 0 1,a),(.t 1,a)],⟨[.agg (us 2 []),U],[]⟩⟩ (.z) (let b:=i64.wrap ((jU A g)+(fs r (i64.wrap (((br A g).n:Int)- (jU A g)))));(!(hc A g))=false→((decide (r<0))=false→(((0:Int)≤0)∧((0:Int)≤b)∧((b:Int)≤b)∧((b:Int)≤(((br A g).n:Nat):Int))))) (cu (aG LF aT)) Tryz.func97 ((fun c=>(fun d=>(by have:=qH _ _ (by simpa using c);have:=hy d;have:=ob r (i64.wrap (((br A g).n:Int)- (jU A g)));have:=E (((br A g).n:Int)- (jU A g));have:=E ((jU A g)+(fs r (i64.wrap (((br A g).n:Int)- (jU A g)))));omega))))
end
structure kS (x:aq):Prop where
 yq:x.N.size≤10000000000
 yr:x.ao.size≤10000000000
 ys:x.i.size≤10000000000
structure oE (r:bo):Prop where
 aAG:r.bU.size≤10000000000
 aAH:r.bY.size≤10000000000
 aAJ:r.bN.size≤10000000000
theorem tf(a b c d:Int):oE ⟨a,b,c,d,0,0,false,0,0,0,⟨#[]⟩,⟨#[]⟩,⟨#[]⟩,0,0,0,0,D,0,D⟩:=⟨cf _,cf _,cf _⟩
theorem te{a b f d A g:Int}{r:Bool}{h o c:Int}{v y p:u}{x:Int}(e:kS ⟨A,g,r,h,o,c,v,y,p,x⟩):oE ⟨a,b,f,d,A,g,r,h,o,c,v,y,p,x,0,0,0,D,0,D⟩:=⟨e.yq,e.yr,e.ys⟩
theorem q3{a b c d e f g:Int}{s:G L}{k:Int}{l:G aw} :oE ⟨a,b,c,d,0,0,false,0,0,0,⟨#[]⟩,⟨#[]⟩,⟨#[]⟩,0,e,f,g,s,k,l⟩:=⟨cf _,cf _,cf _⟩
theorem HI{α:Type}{s:G α}(c:Bool)(a b:G α)(h:s=bif c then a else b):s.n=a.n∨s.n=b.n:=by
 subst h
 cases c
 ·exact .inr rfl
 ·exact .inl rfl
section
variable(i:Nat)(d:H)
def b7:Int:=(j1 d.j d.lt d.li)
def uz:Int:=(acP d.j d.lt d.li)
def NU:c8:=⟨[.fa 0 (33*i)],b4,eH,eu,cA fun C=>⟨⟨none,[b (b7 (C.d i)),b (uz (C.d i))],ca aH 0 C⟩⟩⟩
def alA:cG:=⟨.eB true [] [] (ga i aH 0 [0,0] 2) (fY i aH),[.tmp 2,.tmp 3],[(.t 0,a),(.t 1,a)]++fy i aH,⟨[],[]⟩⟩
theorem awg(i:Nat)(a:i<3):eP Tryz.prog 57 (NU i) b4 [] (cA fun C=>⟨⟨none,[b (b7 (C.d i)),b (uz (C.d i))],ca aH 0 C⟩⟩) []:=by
 refine fW fun C c=>ef (alA i) (.z) True (bJ 10 (aG aeF aT) bI) Tryz.func57 [] ?_ ?_ trivial
 ·rcases bV a with rfl|rfl|rfl<;>kernel_rfl
 ·rcases bV a with rfl|rfl|rfl<;>kernel_rfl
theorem azc(i:Nat)(a:i<3):fO 57 (NU i):=
 awg i a
theorem xV(i:Nat)(a:i<3):fP 57 (NU i):=gj fV Tryz.func57 (azc i a)
def gq:Int:=(uz d)
def Od:c8:=⟨[.fa 0 (33*i)],b4,eH,eu,cA fun C=>⟨⟨none,[b (gq (C.d i))],ca aH 0 C⟩⟩⟩
def X1:cG:=⟨.eB true [] [] (ga i aH 0 [0] 1) (fY i aH),[.tmp 2],[(.t 0,a)]++fy i aH,⟨[],[]⟩⟩
def aqV(C:ak):cb (X1 i).b1:=(.ae (.ae (.bO ⟨([U,U,b 0,U,b (uz (C.d i))]++(us 6 ([]))),cd aH 0 C []⟩ .z)))
theorem awy(i:Nat)(a:i<3):eP Tryz.prog 86 (Od i) b4 [] (cA fun C=>⟨⟨none,[b (gq (C.d i))],ca aH 0 C⟩⟩) []:=by
 refine fW fun C c=>ef (X1 i) (aqV i C) True (bJ 10 aT (aj (xV i a) bI)) Tryz.func86 [] ?_ ?_ trivial
 ·rcases bV a with rfl|rfl|rfl<;>kernel_rfl
 ·rcases bV a with rfl|rfl|rfl<;>kernel_rfl
theorem azu(i:Nat)(a:i<3):fO 86 (Od i):=
 awy i a
theorem avu(i:Nat)(a:i<3):fP 86 (Od i):=gj fV Tryz.func86 (azu i a)
end
section
variable(i:Nat)(rc:bo)(d:H)
def gD:Bool:=(cond ((xA d.aX d.bc rc.q rc.C rc.z rc.I rc.w rc.m rc.N rc.ao rc.i rc.aC rc.bU rc.bY rc.bN rc.cc rc.aY rc.cU rc.eI rc.ei rc.eJ rc.ej)!=0) false true)
def uN:G Int:=(cond ((xA d.aX d.bc rc.q rc.C rc.z rc.I rc.w rc.m rc.N rc.ao rc.i rc.aC rc.bU rc.bY rc.bN rc.cc rc.aY rc.cU rc.eI rc.ei rc.eJ rc.ej)!=0) d.aX (xz d.aX d.bc rc.q rc.C rc.z rc.I rc.w rc.m rc.N rc.ao rc.i rc.aC rc.bU rc.bY rc.bN rc.cc rc.aY rc.cU rc.eI rc.ei rc.eJ rc.ej))
def EW:Int:=(cond ((xA d.aX d.bc rc.q rc.C rc.z rc.I rc.w rc.m rc.N rc.ao rc.i rc.aC rc.bU rc.bY rc.bN rc.cc rc.aY rc.cU rc.eI rc.ei rc.eJ rc.ej)!=0) d.bc (KF d.aX d.bc rc.q rc.C rc.z rc.I rc.w rc.m rc.N rc.ao rc.i rc.aC rc.bU rc.bY rc.bN rc.cc rc.aY rc.cU rc.eI rc.ei rc.eJ rc.ej))
def fr:H:={d with aX:=(uN rc d),bc:=(EW rc d)}
def Oe:c8:=⟨[.fa 0 (33*i),.g [a,a,a,a,a,a,l,a,a,a,ai,ai,ai,a,a,a,a,.ab bd,a,.ab bT]],b4,eH,eu,fun(b:Int) (c:Int) (p:Int) (q:Int) (r:Int) (s:Int) t (u:Int) (v:Int) (w:Int) d e f (g:Int) (h:Int) (j:Int) (k:Int) m (n:Int) o=>cA fun C=>⟨⟨some (oE (⟨b,c,p,q,r,s,t,u,v,w,d,e,f,g,h,j,k,m,n,o⟩:bo)),[.bool (gD (⟨b,c,p,q,r,s,t,u,v,w,d,e,f,g,h,j,k,m,n,o⟩:bo) (C.d i))],ca aH 0 (C.set i (fr (⟨b,c,p,q,r,s,t,u,v,w,d,e,f,g,h,j,k,m,n,o⟩:bo) (C.d i)))⟩⟩⟩
def alF:cG:=⟨.eB true [] [] (ga i aH 0 [0] 1) (fY i aH),[.tmp 4],[(.t 0,l)]++fy i aH,⟨[],[]⟩⟩
def VD(i:Nat)(rc:bo)(C:ak):Prop:=(rc.bU.size≤10000000000∧rc.bY.size≤10000000000∧rc.bN.size≤10000000000)
theorem ayJ(i:Nat)(d:i<3)(rc:bo)(C:ak)(c:ez C)(e:rc.bU.size≤549755813888)(f:rc.bY.size≤549755813888)(g:rc.bN.size≤549755813888)(h:rc.ei.n≤549755813888)(j:rc.ej.n≤549755813888)(a:oE rc):VD i rc C:=by
 have b:=gE c i d;unfold fw at b;unfold VD;exact have:=a.aAG;have:=a.aAH;have:=a.aAJ;((by omega))
theorem awz(i:Nat)(a:i<3)(rc:bo)(e:rc.bU.size≤549755813888)(f:rc.bY.size≤549755813888)(g:rc.bN.size≤549755813888)(h:rc.ei.n≤549755813888)(j:rc.ej.n≤549755813888):eP Tryz.prog 87 (Oe i) b4 [] (cA fun C=>⟨⟨some (oE rc),[.bool (gD rc (C.d i))],ca aH 0 (C.set i (fr rc (C.d i)))⟩⟩) [b rc.q,b rc.C,b rc.z,b rc.I,b rc.w,b rc.m,.bool rc.N,b rc.ao,b rc.i,b rc.aC,.str rc.bU,.str rc.bY,.str rc.bN,b rc.cc,b rc.aY,b rc.cU,b rc.eI,aI 8 gp rc.ei,b rc.eJ,aI 7 gV rc.ej]:=by
 refine fW fun C c=>fun d=>ef (alF i) (.z) (VD i rc C) (bJ 10 (aG avP aT) bI) Tryz.func87 ([.f]++List.replicate 29 .l++[.f,.f]++List.replicate 71 .l) ?_ ?_ (ayJ i a rc C c e f g h j d)
 ·rcases bV a with rfl|rfl|rfl<;>kernel_rfl
 ·rcases bV a with rfl|rfl|rfl<;>kernel_rfl
theorem azv(i:Nat)(c:i<3):fO 87 (Oe i):=
 jq (bm:=[a,a,a,a,a,a,l,a,a,a,ai,ai,ai,a,a,a,a,.ab bd,a,.ab bT]) fun s b=>Eq.mp (by rcases bV c with rfl|rfl|rfl<;>kernel_rfl) (awz i c ⟨s.1,s.2.1,s.2.2.1,s.2.2.2.1,s.2.2.2.2.1,s.2.2.2.2.2.1,s.2.2.2.2.2.2.1,s.2.2.2.2.2.2.2.1,s.2.2.2.2.2.2.2.2.1,s.2.2.2.2.2.2.2.2.2.1,s.2.2.2.2.2.2.2.2.2.2.1,s.2.2.2.2.2.2.2.2.2.2.2.1,s.2.2.2.2.2.2.2.2.2.2.2.2.1,s.2.2.2.2.2.2.2.2.2.2.2.2.2.1,s.2.2.2.2.2.2.2.2.2.2.2.2.2.2.1,s.2.2.2.2.2.2.2.2.2.2.2.2.2.2.2.1,s.2.2.2.2.2.2.2.2.2.2.2.2.2.2.2.2.1,s.2.2.2.2.2.2.2.2.2.2.2.2.2.2.2.2.2.1,s.2.2.2.2.2.2.2.2.2.2.2.2.2.2.2.2.2.2.1,s.2.2.2.2.2.2.2.2.2.2.2.2.2.2.2.2.2.2.2.1⟩ (b.2.2.2.2.2.2.2.2.2.2.1 rfl) (b.2.2.2.2.2.2.2.2.2.2.2.1 rfl) (b.2.2.2.2.2.2.2.2.2.2.2.2.1 rfl) (b.2.2.2.2.2.2.2.2.2.2.2.2.2.2.2.2.2.1 rfl) (b.2.2.2.2.2.2.2.2.2.2.2.2.2.2.2.2.2.2.2.1 rfl))
theorem FQ(i:Nat)(a:i<3):fP 87 (Oe i):=gj fV Tryz.func87 (azv i a)
end
section
variable(i:Nat)(d:H)(F:G ah)
def JD(e:Int)(f:G ah):G ah:=(cond (decide ((f.n:Int)<300)) (G.app f (G.lit ([(d.bw.at' (toNat e))]:List ah))) f)
def uJ(d:H):Nat→Int→G ah→G ah
 |0,_,_=>default
 |k+1,e,f=>(cond (decide (e<(d.bw.n:Int))) (uJ d k (i64.wrap (e+1)) (JD d e f)) f)
def apS:G ah:=uJ d ((toNat ((d.bw.n:Int)-0))+1) 0 F
def JC:G ah:=(apS d F)
def n1:H:={d with aX:=(AI d.aX d.bc),bc:=(JK d.aX d.bc),bw:=(D:G ah)}
def Oa:c8:=⟨[.p 0,.fa 0 (33*i)],b4,eH,eu,cA fun C=>⟨⟨none,[],ca (aH.set (2*i+1) 10) 1 (C.put i (n1 (C.d i)) (JC (C.d i) C.ag) C.told C.a8)⟩⟩⟩
def XZ:cG:=⟨.eB true [] [.kill (2*i+2),.own (.h 0 (33*i+32)) cw 10] (ga i (aH.set (2*i+1) 10) 1 [] 0) (fY i (aH.set (2*i+1) 10)),[],[]++fy i (aH.set (2*i+1) 10),⟨[],[]⟩⟩
def aqT(C:ak):cb (XZ i).b1:=(.ae (.j ⟨2,[],[],[],.f⟩ (.ae (.cW ⟨7340035,[],[],[(.t 22,a),(.h 7 0,.ad cw)],some 0,false,2,[],[(.h 7 0,.ad cw)],fun k (s:Int×G ah)=>uJ (C.d i) k s.1 s.2,.f,fun(s:Int×G ah)=>((0≤s.1∧s.1≤(((C.d i).bw.n:Nat):Int))∧(s.2.n:Int)≤C.ag.n+(s.1-0)),fun(s:Int×G ah)=>(toNat ((((C.d i).bw.n:Nat):Int)-s.1)),some fun(r:G ah)=>(r.n:Int)≤C.ag.n+max ((((C.d i).bw.n:Nat):Int)-0) 0⟩ (.ae (.ae (.j ⟨3757047843,[.b 11],[(.h 7 0,.ad cw)],[],.f⟩ .z .z))))) .z))
def VA(i:Nat)(C:ak):Prop:=((((0≤(0:Int)∧(0:Int)≤(((C.d i).bw.n:Nat):Int))∧(C.ag.n:Int)≤C.ag.n+((0:Int)-0)))∧(∀(e:Int) (f:G ah),((0≤e∧e≤(((C.d i).bw.n:Nat):Int))∧(f.n:Int)≤C.ag.n+(e-0))→(((decide (e<(((C.d i).bw.n:Nat):Int)))=true→((((0:Int)≤e∧e<(((C.d i).bw.n:Nat):Int))∧((toNat e)<(C.d i).bw.n))∧((decide ((f.n:Int)<300))=true→(f.n+1≤549755813888))))∧(((decide (e<(((C.d i).bw.n:Nat):Int)))=true→(((0≤(i64.wrap (e+1))∧(i64.wrap (e+1))≤(((C.d i).bw.n:Nat):Int))∧(((JD (C.d i) e f).n:Nat):Int)≤C.ag.n+((i64.wrap (e+1))-0))∧(toNat ((((C.d i).bw.n:Nat):Int)- (i64.wrap (e+1))))<(toNat ((((C.d i).bw.n:Nat):Int)-e))))∧((decide (e<(((C.d i).bw.n:Nat):Int)))=false→((f.n:Int)≤C.ag.n+max ((((C.d i).bw.n:Nat):Int)-0) 0))))))
theorem ayG(i:Nat)(j:i<3)(C:ak)(g:ez C):VA i C:=by
 have d:=gE g i j;unfold fw at d;unfold VA;exact(⟨(by omega),(fun e f l=>⟨(fun a=>⟨⟨(by have:=al a;omega),(by have:=al a;omega)⟩,(fun b=>(by have:=al b;omega))⟩),⟨(fun c=>(by have:=al c;have h:=HI (s:=(JD (C.d i) e f)) _ _ _ rfl;(try simp only[G.oH,G.mj,G.tc,dr,fH]at h);have:=E (e+1);omega)),(fun k=>(by omega))⟩⟩)⟩)
theorem awv(i:Nat)(a:i<3):eP Tryz.prog 73 (Oa i) b4 [] (cA fun C=>⟨⟨none,[],ca (aH.set (2*i+1) 10) 1 (C.put i (n1 (C.d i)) (JC (C.d i) C.ag) C.told C.a8)⟩⟩) []:=by
 refine fW fun C b=>ef (XZ i) (aqT i C) (VA i C) (bJ 10 (aG avz aT) bI) Tryz.func73 [] ?_ ?_ (ayG i a C b)
 ·rcases bV a with rfl|rfl|rfl<;>kernel_rfl
 ·rcases bV a with rfl|rfl|rfl<;>kernel_rfl
theorem azr(i:Nat)(a:i<3):fO 73 (Oa i):=
 awv i a
theorem avq(i:Nat)(a:i<3):fP 73 (Oa i):=gj fV Tryz.func73 (azr i a)
end
theorem qO{t k a b c z:Int}{d:Bool}{e f g:u}(h:e.size≤10000000000)(i:f.size≤10000000000)(j:g.size≤10000000000):kS ⟨t,k,d,a,b,c,e,f,g,z⟩:=⟨h,i,j⟩
section
variable(A:Int)(r:u)(h:u)(o:Int)(c:Int)(v:u)(y:Int)(p:G bl)(x:G u)(R:G bH)
def uh:Int:=(cond (A==1) nU (cond (A==2) 0 (cond (A==3) (cond (!(iA (i64.wrap (y+o)))) (qb 7) nU) (cond (A==17) nU (cond (A==18) 0 (cond (c==3) (abA A r p) (cond (c==4) (abF A x) (cond (c==5) (abL A h x) (abQ A h R)))))))))
def aaY:u:=(cond (A==1) nV (cond (A==2) v (cond (A==3) (cond (!(iA (i64.wrap (y+o)))) r8 nV) (cond (A==17) nV (cond (A==18) ⟨#[]⟩ (cond (c==3) (abB A r p) (cond (c==4) (abG A x) (cond (c==5) (abM A h x) (abR A h R)))))))))
def aaZ:Int:=let a:=i64.wrap (y+o);(cond (A==1) (l2 0) (cond (A==2) 0 (cond (A==3) (cond (!(iA a)) r9 (l2 a)) (cond (A==17) (l2 (jW p x R)) (cond (A==18) 0 (cond (c==3) (abC A r p) (cond (c==4) (abH A x) (cond (c==5) (abN A h x) (abS A h R)))))))))
def aa0:G u:=(cond (A==1) nW (cond (A==2) (D:G u) (cond (A==3) (cond (!(iA (i64.wrap (y+o)))) r_ nW) (cond (A==17) nW (cond (A==18) (RQ p x R) (cond (c==3) (abD A r p) (cond (c==4) (abI A x) (cond (c==5) (abO A h x) (abT A h R)))))))))
def Rt:Int:=(cond (A==1) 1 c)
def aa1:u:=(cond (A==1) h v)
def aa2:Int:=let a:=i64.wrap (y+o);(cond (A==1) 0 (cond (A==2) y (cond (A==3) (cond (!(iA a)) y a) y)))
def Rv:G bl:=(cond (A==1) (D:G bl) (cond (A==2) p (cond (A==3) p (cond (A==17) p (cond (A==18) p (cond (c==3) (abE A r h p) p))))))
def Rw:G u:=(cond (A==1) (D:G u) (cond (A==2) x (cond (A==3) x (cond (A==17) x (cond (A==18) x (cond (c==3) x (cond (c==4) (abJ A h x) (cond (c==5) (abP A h x) x))))))))
def Rx:G bH:=(cond (A==1) (D:G bH) (cond (A==2) R (cond (A==3) R (cond (A==17) R (cond (A==18) R (cond (c==3) R (cond (c==4) R (cond (c==5) R (abU A h o R)))))))))
def ajS:b0:=⟨[.p 0,.g [a,ai,ai,ai,a]],[(.h 0 0,a),(.h 0 1,ai),(.h 0 2,a),(.h 1 0,.ad c5),(.h 2 0,.ad bK),(.h 3 0,.ad cS)],[[U,U,U,.own 1 0,.own 2 0,.own 3 0],[U],[U],[U]],fun(A:Int) _ r h (o:Int) (c:Int) v (y:Int) p x R=>⟨⟨some (p.n≤1000000∧x.n≤1000000∧R.n≤1000000∧(c≠4∨(7≤A∧A≤8)∨1≤x.n)),[.agg [b (uh A r h o c y p x R),.str (aaY A r h o c v y p x R),b (aaZ A r h o c y p x R),aI 1 cK (aa0 A r h o c y p x R)]],[[b (Rt A c),.str (aa1 A h v),b (aa2 A o y),aI 2 fz (Rv A r h c p),aI 1 cK (Rw A h c x),aI 2 fA (Rx A h o c R)],[dk],[dk],[dk]]⟩⟩⟩
theorem auC:dJ 192 ajS:=dL Tryz.func192
 fun(A:Int) g I r K h L (o:Int) (c:Int) v M (y:Int) p N x O R J d=>dI (ms:=[.f,.f,.f,.f,(.b .f .l),(.b .f .l),(.b .f (.b .f (.b .f .l))),(.b .f (.b .f (.b .l (.b .f (.b .f (.b .f .l)))))),(.b .f (.b .f (.b .l .f))),(.b .f (.b .f (.b .l .f)))]) ⟨.k7 true [] [.kX (.h 0 3) c5,.kill 1,.kX (.h 0 4) bK,.kill 2,.kX (.h 0 5) cS,.kill 3],[.cell 4 99],[(.c 0 0,a),(.c 0 1,ai),(.c 0 2,a),(.c 0 3,.ab bK),(.h 0 0,a),(.h 0 1,ai),(.h 0 2,a),(.h 0 3,.ab c5),(.h 0 4,.ab bK),(.h 0 5,.ab cS)],⟨[.agg [U,U,U,U]],[[U,U,U,U,U,U],[dk],[dk],[dk]]⟩⟩ (.z) (((A==1)=false→((A==2)=false→((A==3)=false→((A==17)=false→((A==18)=true→(p.n≤100000000000∧x.n≤100000000000∧R.n≤100000000000))))))∧((A==1)=false→((A==2)=false→((A==3)=false→((A==17)=false→((A==18)=false→((((c==3)=true→(p.n≤1000000))∧((c==3)=false→(((c==4)=true→(x.n≤1000000∧((7≤A∧A≤8)∨1≤x.n)))∧((c==4)=false→((c==5)=true→(x.n≤1000000))))))∧((c==3)=false→((c==4)=false→((c==5)=false→(R.n≤1000000))))))))))) (bJ 4 (aG LG (aG Uc (aG Bd (aG FP (aG auZ aT))))) (aj au0 (aj au1 (aj au2 (aj au3 bI))))) Tryz.func192 (have⟨E,F,G,H⟩:=d;⟨(fun e=>(fun s=>(fun t=>(fun u=>(fun w=>(by omega)))))),(fun z=>(fun B=>(fun C=>(fun D=>(fun f=>⟨⟨(fun i=>(by omega)),(fun j=>⟨(fun b=>(by have:=eq_of_beq b;omega)),(fun k=>(fun l=>(by omega)))⟩)⟩,(fun m=>(fun n=>(fun q=>(by omega))))⟩)))))⟩)
end
structure alL (A:Int) (g:u) (r:Int) (Wc:G bl) (Wd:G u) (Wf:G bH):Prop where
 k:1≤A∧A≤6
 t:A≠1→g=⟨#[]⟩
 i:A≠2→r=0
 a3:A≠3→Wc.n=0
 a4:A≠4→A≠5→Wd.n=0
 e2:A≠6→Wf.n=0
 iS:A=3→1≤Wc.n∧Wc.n≤20
 lU:A=4∨A=5→1≤Wd.n∧Wd.n≤20
 ll:A=6→1≤Wf.n∧Wf.n≤20
theorem Yw{x:u}(h:(!(x.toList==(⟨#[]⟩:u).toList))=false):x=⟨#[]⟩:=by
 have h:x.toList=(⟨#[]⟩:u).toList:=by simpa using h
 have a:x.data.toList=[]:=by
  have e: ∀y:u,y.toList=y.data.toList:=fun y=>ByteArray.toList_eq y;rw[e,e]at h;exact h
 cases x with
 |mk d=>cases d with
  |mk l=>simp at a;subst a;rfl
theorem aAR(A:Int)(g:u)(r:Int)(b:G bl)(c:G u)(d:G bH)(t:b.n≤1048576)(v:c.n≤1048576)(w:d.n≤1048576)(h:jb A g r b c d=0):alL A g r b c d:=by
 unfold jb at h;obtain⟨l,h⟩:=dv h (by decide);obtain⟨a,h⟩:=dv h (by decide);obtain⟨j,_⟩:=dv h (by decide);unfold sw at l;obtain⟨n,o⟩:=cP l;have B:=db n;have z:=db o;unfold l_ acR acS sx sy sz at a;obtain⟨m,a⟩:=cP a;obtain⟨f,a⟩:=cP a;unfold n7 at j;have k:A=1∨A=2∨A=3∨A=4∨A=5∨A=6:=by omega
 have C:(D:G bl).n=0:=rfl;have E:(D:G u).n=0:=rfl;have F:(D:G bH).n=0:=rfl;have a:=db a;have p:3≤A→ ¬(jW b c d<1)∧ ¬(jW b c d>20):=fun i=>by
  rw[bS (show A≥3 by omega)]at j;obtain⟨q,s⟩:=cP j;exact⟨db q,db s⟩
 rw[WA _ _ _ t v w]at p;have x:A≠1→g=⟨#[]⟩:=fun i=>by
  rw[show(A==1)=false from hx.2 i]at m;exact Yw m
 have y:A≠2→r=0:=fun i=>by
  rw[show(A==2)=false from hx.2 i]at f;have f:=bB f;revert f
  cases (A==1)<;>exact id
 rcases k with e|e|e|e|e|e<;>subst e<;>
 simp only[pM,Int.reduceBEq,aQ,aS]at a<;>
 rw[WA _ _ _ (by omega) (by omega) (by omega)]at a<;>
 exact⟨by omega,x,y,by omega,by omega,by omega,by omega,by omega,by omega⟩
section
variable(A:Int)(g:u)(r:Int)(h:G bl)(o:G u)(c:G bH)(v:Int)(y:u)(p:u)(x:u)(R:Int)
def zx:Bool:=(cond (A==0) (cond ((g:u).toList==(⟨#[]⟩:u).toList) (cond (r==0) ((jW h o c)==0) false) false) false)
def lr:Bool:=(cond ((jb A g r h o c)!=0) (!(zx A g r h o c)) false)
def QW:Bool:=(cond (zx A g r h o c) (!(zW v)) false)
def aaw:Bool:=(cond ((zV v)!=0) ((zV v)!=A) false)
def aoY:Bool:=(cond (decide (v≥17)) (decide (A<3)) false)
def aoZ:Bool:=(cond (aaw A v) (aaw A v) (aoY A v))
def jT:Int:=(cond (zx A g r h o c) (zV v) (zT A))
def mM:Bool:=(cond (QW A g r h o c v) false (cond (zx A g r h o c) true (cond (aoZ A v) false true)))
def zy:Bool:=let a:=jT A g r h o c v;(cond (decide ((Rt v a)≥3)) ((jW (Rv v p x a h) (Rw v x a o) (Rx v x R a c))==0) false)
def aoS:Int:=(cond (zy A g r h o c v p x R) 0 (Rt v (jT A g r h o c v)))
def aoT:u:=(cond (zy A g r h o c v p x R) ⟨#[]⟩ (aa1 v x (zU g)))
def aoU:Int:=(cond (zy A g r h o c v p x R) 0 (aa2 v R (lv r)))
def aoV:G bl:=(cond (zy A g r h o c v p x R) (D:G bl) (Rv v p x (jT A g r h o c v) h))
def aoW:G u:=(cond (zy A g r h o c v p x R) (D:G u) (Rw v x (jT A g r h o c v) o))
def aoX:G bH:=(cond (zy A g r h o c v p x R) (D:G bH) (Rx v x R (jT A g r h o c v) c))
def Ix:Int:=(cond (lr A g r h o c) 0 (cond ((e3 v y p x R)!=0) 0 (cond (decide (v>18)) 0 (cond (mM A g r h o c v) (cond ((uh v p x R (jT A g r h o c v) (lv r) h o c)!=0) (zT A) (zT (aoS A g r h o c v p x R))) (zT A)))))
def aas:u:=(cond (lr A g r h o c) ⟨#[]⟩ (cond ((e3 v y p x R)!=0) ⟨#[]⟩ (cond (decide (v>18)) ⟨#[]⟩ (cond (mM A g r h o c v) (cond ((uh v p x R (jT A g r h o c v) (lv r) h o c)!=0) (zU g) (zU (aoT A g r h o c v p x R))) (zU g)))))
def aat:Int:=(cond (lr A g r h o c) 0 (cond ((e3 v y p x R)!=0) 0 (cond (decide (v>18)) 0 (cond (mM A g r h o c v) (cond ((uh v p x R (jT A g r h o c v) (lv r) h o c)!=0) (lv r) (lv (aoU A g r h o c v p x R))) (lv r)))))
def QS:G bl:=(cond (lr A g r h o c) (D:G bl) (cond ((e3 v y p x R)!=0) (D:G bl) (cond (decide (v>18)) (D:G bl) (cond (mM A g r h o c v) (cond ((uh v p x R (jT A g r h o c v) (lv r) h o c)!=0) h (aoV A g r h o c v p x R)) h))))
def QT:G u:=(cond (lr A g r h o c) (D:G u) (cond ((e3 v y p x R)!=0) (D:G u) (cond (decide (v>18)) (D:G u) (cond (mM A g r h o c v) (cond ((uh v p x R (jT A g r h o c v) (lv r) h o c)!=0) o (aoW A g r h o c v p x R)) o))))
def QU:G bH:=(cond (lr A g r h o c) (D:G bH) (cond ((e3 v y p x R)!=0) (D:G bH) (cond (decide (v>18)) (D:G bH) (cond (mM A g r h o c v) (cond ((uh v p x R (jT A g r h o c v) (lv r) h o c)!=0) c (aoX A g r h o c v p x R)) c))))
def Di:Int:=(cond (lr A g r h o c) 0 (cond ((e3 v y p x R)!=0) 0 (cond (decide (v>18)) 0 (cond (mM A g r h o c v) (uh v p x R (jT A g r h o c v) (lv r) h o c) (cond (QW A g r h o c v) (qb 5) (qb 4))))))
def aau:u:=(cond (lr A g r h o c) ⟨#[]⟩ (cond ((e3 v y p x R)!=0) ⟨#[]⟩ (cond (decide (v>18)) ⟨#[]⟩ (cond (mM A g r h o c v) (aaY v p x R (jT A g r h o c v) (zU g) (lv r) h o c) r8))))
def aav:Int:=(cond (lr A g r h o c) 0 (cond ((e3 v y p x R)!=0) 0 (cond (decide (v>18)) 0 (cond (mM A g r h o c v) (aaZ v p x R (jT A g r h o c v) (lv r) h o c) r9))))
def QV:G u:=(cond (lr A g r h o c) (D:G u) (cond ((e3 v y p x R)!=0) (D:G u) (cond (decide (v>18)) (D:G u) (cond (mM A g r h o c v) (aa0 v p x R (jT A g r h o c v) (lv r) h o c) r_))))
def aoR:Int:=(cond (lr A g r h o c) (jb A g r h o c) (cond ((e3 v y p x R)!=0) (e3 v y p x R) (cond (decide (v>18)) 3 0)))
theorem d185{x:Int}(h:zW x=true):zV x≠4∨(7≤x∧x≤8):=by
 by_cases g:x=7
 ·omega
 by_cases i:x=8
 ·omega
 refine .inl fun e=> ?_;unfold zW aaX at h;have k:x=1∨x=3∨x=4∨x=11∨x=14:=by
  by_cases a:x=1
  ·omega
  by_cases b:x=3
  ·omega
  by_cases c:x=4
  ·omega
  by_cases d:x=11
  ·omega
  by_cases f:x=14
  ·omega
  simp [a,b,c,d,f,g,i]at h
 rcases k with k|k|k|k|k<;>subst k<;>simp [zV,aaT,aaU,aaV,aaW]at e
theorem d101(A:Int)(g:u)(r:Int)(h:G bl)(o:G u)(c:G bH)(v:Int)(d:lr A g r h o c=false)(b:mM A g r h o c v=true)(i:h.n≤1048576)(j:o.n≤1048576)(k:c.n≤1048576):
  h.n≤20∧o.n≤20∧c.n≤20∧((jT A g r h o c v)≠4∨(7≤v∧v≤8)∨1≤o.n):=by
 unfold mM QW at b;unfold lr at d;unfold jT
 cases e:zx A g r h o c with
 |true=>
  simp only[e,aQ]at b ⊢;have m:zW v=true:=by
   cases a:zW v with
   |true=>rfl
   |false=>rw[a]at b;cases b
  unfold zx at e;have f:(jW h o c==0)=true:=by
   cases a:(jW h o c==0)with
   |true=>rfl
   |false=>rw[a]at e;revert e;cases (A==0)<;>cases (g.toList==(⟨#[]⟩:u).toList)<;>cases (r==0)<;>simp
  have f:=eq_of_beq f;rw[WA _ _ _ i j k]at f;have:=d185 m;omega
 |false=>
  simp only[e,aS,Bool.not_false]at b d ⊢;have l:jb A g r h o c=0:=by
   cases a:(jb A g r h o c !=0)with
   |false=>exact bB a
   |true=>rw[a]at d;cases d
  have n:=(am1 _ _ _ _ _ _ i j k l).2.1;have s:=(aAR _ _ _ _ _ _ i j k l).lU;unfold zT;omega
def aiE:ba:=⟨[.g [a,ai,a,.ab c5,.ab bK,.ab cS],.g [a,ai,ai,ai,a]],fun(A:Int) g (r:Int) h o c (v:Int) y p x (R:Int)=>⟨⟨some (h.n≤1048576∧o.n≤1048576∧c.n≤1048576),.c7 [.agg [b (Ix A g r h o c v y p x R),.str (aas A g r h o c v y p x R),b (aat A g r h o c v y p x R),aI 2 fz (QS A g r h o c v y p x R),aI 1 cK (QT A g r h o c v y p x R),aI 2 fA (QU A g r h o c v y p x R)],.agg [b (Di A g r h o c v y p x R),.str (aau A g r h o c v y p x R),b (aav A g r h o c v y p x R),aI 1 cK (QV A g r h o c v y p x R)],b (aoR A g r h o c v y p x R)]⟩⟩⟩
theorem atM:bn 166 aiE:=bq Tryz.func166
 fun(A:Int) g n (r:Int) h q _ o s _ c t _ (v:Int) y u p w x z (R:Int) i=>bu (ms:=[(.b .f (.b .f (.b .f (.b .f .l)))),(.b .f (.b .f (.b .f (.b .f .l)))),(.b .f (.b .f (.b .f (.b .f .l)))),(.b .f (.b .f (.b .f (.b .f .l)))),(.b .f (.b .f (.b .f (.b .f .l)))),(.b .f (.b .f (.b .f (.b .f .l)))),(.b .f (.b .f (.b .f (.b .l .f)))),(.b .f (.b .f (.b .f (.b .l .l)))),(.b .f (.b .f (.b .f (.b .l .l)))),(.b .f (.b .f (.b .f (.b .l .l)))),(.b .f (.b .f (.b .f .l)))]) ⟨.pure,[.cell 4 125,.cell 5 99,.tmp 6],[(.c 0 0,a),(.c 0 1,ai),(.c 0 2,a),(.c 0 3,.ab c5),(.c 0 4,.ab bK),(.c 0 5,.ab cS),(.c 1 0,a),(.c 1 1,ai),(.c 1 2,a),(.c 1 3,.ab bK),(.t 2,a)],⟨[.agg (us 6 []),.agg (us 4 []),U],[]⟩⟩ (.ae (.j ⟨252,[],[(.t 7,l)],[],.f⟩ .z (.s (.ae (.j ⟨274877907452,[],[(.t 38,l)],[],.f⟩ .z .z)) (.ae (.ae (.ae (.ae (.j ⟨1148,[],[(.h 7 0,a)],[],.f⟩ (.j ⟨576460752303426812,[],[(.t 59,l)],[],.f⟩ .z (.ae (.ae (.ae (.j ⟨9444732965739290428540,[],[(.t 73,l)],[],.f⟩ (.j ⟨9444732965739290428540,[],[(.t 73,l)],[],.f⟩ .z (.ae (.j ⟨9444732965739290428540,[],[(.t 73,l)],[],.f⟩ .z .z))) .z))))) (.ae (.ae (.j ⟨5232,[],[(.h 7 0,a),(.h 7 1,ai),(.h 7 2,a),(.h 7 3,.ab c5),(.h 7 4,.ab bK),(.h 7 5,.ab cS)],[],.f⟩ (.j ⟨162259276829213363391578010293360,[.b 0,.b 1,.b 4,.b 5,.b 6],[(.t 107,l)],[],.f⟩ .z .z) .z))))))))))) ((lr A g r h o c)=false→(((e3 v y p x R)!=0)=false→((decide (v>18))=false→((mM A g r h o c v)=true→(h.n≤1000000∧o.n≤1000000∧c.n≤1000000∧((jT A g r h o c v)≠4∨(7≤v∧v≤8)∨1≤o.n)))))) (bJ 0 (aG Uj (aG aeH (aG Uc (aG auA (aG auB (aG Bd aT)))))) (aj auz (aj auC bI))) Tryz.func166 (have⟨j,k,m⟩:=i;(fun b=>(fun d=>(fun e=>(fun f=>(by have:=b;simp [lr]at this;have:=bB d;have:=hy e;have:=d101 _ _ _ _ _ _ _ (by assumption) f (by omega) (by omega) (by omega);omega))))))
end
section
def IW(p:G L):Nat→Int→G u→G u
 |0,_,_=>default
 |k+1,e,f=>(cond (decide (e<(p.n:Int))) (IW p k (i64.wrap (e+1)) (G.app f (G.lit ([(p.at' (toNat e)).q]:List u)))) f)
variable(A:Int)(g:u)(r:u)(h:u)(o:Int)(c:Int)(p:G L)
def aaC:G u:=IW p ((toNat ((p.n:Int)-0))+1) 0 (D:G u)
def nN:Bool:=(cond (A==20) (A==20) (A==21))
def p7:Int:=(cond (hF g p) (p.at' (toNat (h0 g p))).C 0)
def p8:u:=(cond (hF g p) (p.at' (toNat (h0 g p))).z ⟨#[]⟩)
def p9:Int:=(cond (hF g p) (p.at' (toNat (h0 g p))).I 0)
def oS:G bl:=(cond (hF g p) (p.at' (toNat (h0 g p))).w (D:G bl))
def oT:G u:=(cond (hF g p) (p.at' (toNat (h0 g p))).m (D:G u))
def oU:G bH:=(cond (hF g p) (p.at' (toNat (h0 g p))).N (D:G bH))
def zC:Bool:=(cond ((Ix (p7 g p) (p8 g p) (p9 g p) (oS g p) (oT g p) (oU g p) A g r h o)==0) (hF g p) false)
def QY:Bool:=(cond (!(hF g p)) ((p.n:Int)==12) false)
def ao3:G L:=let f:=oU g p;let e:=oT g p;let d:=oS g p;let c:=p9 g p;let b:=p8 g p;let a:=p7 g p;let i:=Ix a b c d e f A g r h o;(cond ((Di a b c d e f A g r h o)!=0) p (cond (zC A g r h o p) (Dt (h0 g p) p) (cond (i !=0) (aaI A g i (aas a b c d e f A g r h o) (aat a b c d e f A g r h o) (QS a b c d e f A g r h o) (QT a b c d e f A g r h o) (QU a b c d e f A g r h o) (h0 g p) (hF g p) p) p)))
def Dq:Bool:=(cond ((Di (p7 g p) (p8 g p) (p9 g p) (oS g p) (oT g p) (oU g p) A g r h o)!=0) true (cond (zC A g r h o p) true (cond (QY g p) false true)))
def aaz:Int:=(cond (A==22) 0 (cond (A==19) 0 (cond (nN A) (aaD A o c (hF g p)) (cond (Dq A g r h o p) (Di (p7 g p) (p8 g p) (p9 g p) (oS g p) (oT g p) (oU g p) A g r h o) 6))))
def aaA:u:=(cond (A==22) ⟨#[]⟩ (cond (A==19) ⟨#[]⟩ (cond (nN A) aaE (cond (Dq A g r h o p) (aau (p7 g p) (p8 g p) (p9 g p) (oS g p) (oT g p) (oU g p) A g r h o) ⟨#[]⟩))))
def aaB:Int:=(cond (A==22) 0 (cond (A==19) (cond (!(hF g p)) 0 1) (cond (nN A) (aaF A c (h0 g p) (hF g p) p) (cond (Dq A g r h o p) (aav (p7 g p) (p8 g p) (p9 g p) (oS g p) (oT g p) (oU g p) A g r h o) 0))))
def QX:G u:=(cond (A==22) (aaC p) (cond (A==19) (D:G u) (cond (nN A) aaG (cond (Dq A g r h o p) (QV (p7 g p) (p8 g p) (p9 g p) (oS g p) (oT g p) (oU g p) A g r h o) (D:G u)))))
def ao1:Int:=(h0 g p)
def ao2:Bool:=(hF g p)
def ub:G L:=(cond (A==22) p (cond (A==19) (cond (!(hF g p)) p (Dt (h0 g p) p)) (cond (nN A) (aaH A o c (h0 g p) (hF g p) p) (cond (Dq A g r h o p) (ao3 A g r h o p) p))))
theorem aBk(A:Int)(g r h:u)(o:Int)(p:G L)(a:zC A g r h o p=true):h0 g p<(p.n:Int):=by
 refine yz g p ?_;unfold zC at a
 cases e:hF g p with
 |true=>rfl
 |false=>rw[e]at a;simp at a
theorem axJ(g:u)(p:G L)(h:tO p):(((oS g p).n:Nat):Int)≤1048576:=by
 unfold oS
 cases e:hF g p with
 |false=>show((0:Nat):Int)≤_;omega
 |true=>
  have a:=wi g p (by have:=h.1;omega);have b:=yz g p e;have:=h.2 (toNat (h0 g p)) (by omega);simp only[aQ];omega
theorem axK(g:u)(p:G L)(h:tO p):(((oT g p).n:Nat):Int)≤1048576:=by
 unfold oT
 cases e:hF g p with
 |false=>show((0:Nat):Int)≤_;omega
 |true=>
  have a:=wi g p (by have:=h.1;omega);have b:=yz g p e;have:=h.2 (toNat (h0 g p)) (by omega);simp only[aQ];omega
theorem axL(g:u)(p:G L)(h:tO p):(((oU g p).n:Nat):Int)≤1048576:=by
 unfold oU
 cases e:hF g p with
 |false=>show((0:Nat):Int)≤_;omega
 |true=>
  have a:=wi g p (by have:=h.1;omega);have b:=yz g p e;have:=h.2 (toNat (h0 g p)) (by omega);simp only[aQ];omega
def aiN:b0:=⟨[.p 0,.g [a,ai,ai,ai,a]],[(.h 0 0,a),(.h 0 2,a),(.h 0 3,l),(.h 1 0,.ad bd)],[[U,.own 1 0,U,U],[U]],fun(A:Int) g r h (o:Int) (c:Int) _ _ p=>let d:=ub A g r h o c p;⟨⟨some (tO p∧p.n≤1000000),[.agg [b (aaz A g r h o c p),.str (aaA A g r h o p),b (aaB A g r h o c p),aI 1 cK (QX A g r h o p)]],[[b c,.own 2 (d).n,b (ao1 g p),.bool (ao2 g p)],[dk],[(aB.ad bd).av d]]⟩⟩⟩
theorem atU:dJ 151 aiN:=dL Tryz.func151
 fun(A:Int) g Y r Z h axS (o:Int) (c:Int) (v:Int) y p aEk M=>dI (ms:=[(.b .f (.b .l .f)),(.b .f (.b .l .f)),.f,(.b .f (.b .l .f)),.l,.l,.l,.f]) ⟨.k7 true [.b 2] [.own (.h 0 1) bd 2],[.cell 4 99],[(.c 0 0,a),(.c 0 1,ai),(.c 0 2,a),(.c 0 3,.ab bK),(.h 0 0,a),(.h 0 2,a),(.h 0 3,l),(.h 2 0,.ad bd)],⟨[.agg [U,U,U,U]],[[U,.own 2 0,U,U],[dk],[U]]⟩⟩ (.ae (.ae (.s (.ae (.ae (.s (.ae (.j ⟨57,[],[],[],.f⟩ (.ae (.cW ⟨117440569,[],[(.h 4 3,bK)],[(.t 26,a),(.h 5 0,.ad bK)],some 1,false,57,[],[(.h 5 0,.ad bK)],fun k (s:Int×G u)=>IW p k s.1 s.2,.f,fun(s:Int×G u)=>((0≤s.1∧s.1≤(p.n:Int))∧(s.2.n:Int)≤0+(s.1-0)),fun(s:Int×G u)=>(toNat ((p.n:Int)-s.1)),some fun(N:G u)=>(N.n:Int)≤0+max ((p.n:Int)-0) 0⟩ .z)) .z)) (.ae (.ae (.j ⟨1125899906842649,[],[(.t 50,l)],[],.f⟩ .z .z)))))) (.ae (.j ⟨281,[],[(.h 4 0,a),(.h 4 1,ai),(.h 4 2,a),(.h 4 3,.ab c5),(.h 4 4,.ab bK),(.h 4 5,.ab cS)],[],.f⟩ .z (.ae (.xT ⟨1040,[.b 2,.b 4,.b 5],[(.h 41 0,.ad bd)],[],(.b .f (.b .f (.b .f .l)))⟩ [.own (.h 0 1) bd 41] (.ae (.ae (.j ⟨9671406556917033397650969,[.b 4],[(.t 83,l)],[],.f⟩ .z (.ae (.j ⟨39614081257132168796771976729,[],[(.t 95,l)],[],.f⟩ .z .z))))) .z))))))) (let D:=zC A g r h o p;let x:=oU g p;let w:=oT g p;let t:=oS g p;let n:=hF g p;let b:=h0 g p;(((A==22)=true→((((0≤(0:Int)∧(0:Int)≤(p.n:Int))∧((0:Nat):Int)≤0+((0:Int)-0)))∧(∀(e:Int) (f:G u),let q:=decide (e<(p.n:Int));let m:=i64.wrap (e+1);((0≤e∧e≤(p.n:Int))∧(f.n:Int)≤0+(e-0))→((q=true→((((0:Int)≤e∧e<(p.n:Int))∧((toNat e)<p.n))∧(f.n+1≤549755813888)))∧((q=true→(((0≤m∧m≤(p.n:Int))∧(((f.n+1):Nat):Int)≤0+(m-0))∧(toNat ((p.n:Int)-m))<(toNat ((p.n:Int)-e))))∧(q=false→((f.n:Int)≤0+max ((p.n:Int)-0) 0)))))))∧((A==22)=false→(((A==19)=true→((!n)=false→(p.n≤1000000∧0≤b∧b<(p.n:Int))))∧((A==19)=false→((nN A)=true→(rz n b p.n∧p.n≤1000000))))))∧((A==22)=false→((A==19)=false→((nN A)=false→((n=true→(((0:Int)≤b∧b<(p.n:Int))∧((toNat b)<p.n)))∧((t.n≤1048576∧w.n≤1048576∧x.n≤1048576)∧(((Di (p7 g p) (p8 g p) (p9 g p) t w x A g r h o)!=0)=false→((D=true→(p.n≤1000000∧0≤b∧b<(p.n:Int)))∧(D=false→((QY g p)=false→(((Ix (p7 g p) (p8 g p) (p9 g p) t w x A g r h o)!=0)=true→(rz n b p.n∧p.n≤1000000)))))))))))) (bJ 2 (aG atM aT) (aj atW (aj atX (aj atY (aj at2 bI))))) Tryz.func151 (have⟨W,X⟩:=M;⟨⟨(fun O=>⟨(by omega),(fun e f V=>⟨(fun C=>⟨⟨(by have:=al C;omega),(by have:=al C;omega)⟩,(by omega)⟩),⟨(fun K=>(by have:=al K;have:=E (e+1);omega)),(fun Q=>(by omega))⟩⟩)⟩),(fun R=>⟨(fun S=>(fun L=>(by have:=aBA _ _ L;have:=wi g p (by omega);omega))),(fun T=>(fun P=>⟨(by repeat first|assumption|apply lb),(by omega)⟩))⟩)⟩,(fun d=>(fun i=>(fun j=>⟨(fun z=>⟨(by have:=cZ d;have:=cZ i;have:=j;simp [nN]at this;have:=yz _ _ z;have:=wi g p (by omega);omega),(by have:=cZ d;have:=cZ i;have:=j;simp [nN]at this;have:=yz _ _ z;have:=wi g p (by omega);omega)⟩),⟨(by have:=cZ d;have:=cZ i;have:=j;simp [nN]at this;have:=axJ g p (by repeat first|assumption|apply lb|apply vT|apply vS|apply jF|apply ns|apply And.intro|apply CQ|apply CP);have:=axK g p (by repeat first|assumption|apply lb|apply vT|apply vS|apply jF|apply ns|apply And.intro|apply CQ|apply CP);have:=axL g p (by repeat first|assumption|apply lb|apply vT|apply vS|apply jF|apply ns|apply And.intro|apply CQ|apply CP);omega),(fun B=>⟨(fun F=>(by have:=cZ d;have:=cZ i;have:=j;simp [nN]at this;have:=bB B;have:=aBk _ _ _ _ _ _ F;have:=wi g p (by omega);omega)),(fun H=>(fun I=>(fun J=>⟨(by repeat first|assumption|apply lb),(by have:=cZ d;have:=cZ i;have:=j;simp [nN]at this;have:=bB B;have:=H;simp [zC]at this;have:=I;simp [QY]at this;have:=bne_iff_ne.1 J;omega)⟩)))⟩)⟩⟩)))⟩)
end
theorem WX(s:G L)(a:s.n≤549755813888):(ij s).B=s.B:=by
 have:=axo (zA s) s (fun x=>x) a (fun _ _ _=>rfl) D;rw[List.map_id',vG,pK]at this;exact this
theorem F1(s:G L)(a:s.n≤549755813888):(ij s).n=s.n:=ax3 (WX s a)
theorem take_one{α:Type}(s:G α){j:Nat}(h:j<s.n):s.B.take (j+1)=s.B.take j++[s.at' j]:=by
 rw[List.take_add_one,Nq,bf h];rfl
theorem aBr{α:Type}(s:G α)(i:Nat)(x:α)(h:i<s.n):(s.cp i x).B.take (i+1)=s.B.take i++[x]:=by
 rw[aAS s i x h,List.take_append,List.take_of_length_le (by rw[jj];omega)];rw[jj,a_,show i+1-min i s.n=1 by omega];rfl
theorem aiw{α:Type}(s:G α)(i:Nat)(z:α)(h:i≤s.n):(G.cut (G.vW s i z) i).B=s.B.take i:=by
 apply vE;intro q;rw[Nq,G7]
 by_cases a:q<i
 ·have e:Nat.blt q i=true:=by simpa[hj]using a
  rw[bf (show q<(G.cut (G.vW s i z) i).n from a),bf a,Nq,bf (by omega)];show some (cond (Nat.blt q i) (s.at' q) z)=some (s.at' q);rw[e];rfl
 ·rw[a7 (show¬q<(G.cut (G.vW s i z) i).n from a),a7 a]
section
variable (A:Int)
def oc(e:L):Bool:= !(iz e.ao A)
theorem Uy(s:G L)(l:s.n≤1000000): ∀(m a i j:Nat) (S:G L),j+m=s.n→m≤a→i<j→S.n=s.n→(∀q,j≤q→q<s.n→S.at' q=s.at' q)→S.B.take i=(s.B.take j).filter (oc A)→
  ∃(h:Nat) (d:G L),ua A (a+1) (i:Int) (j:Int) S=((h:Int),d)∧h<s.n∧d.n=s.n∧d.B.take h=s.B.filter (oc A)
 |0,a,i,j,S,p,_,o,c,_,b=>by
  refine⟨i,S,?_,by omega,c,?_⟩
  ·show(cond (decide ((j:Int)<(S.n:Int))) _ _)=_;rw[bp (by omega)];rfl
  ·rw[b,List.take_of_length_le (by rw[a_];omega)]
 |m+1,a,i,j,S,p,t,o,c,g,b=>by
  obtain⟨a,rfl⟩: ∃q,a=q+1:=⟨a-1,by omega⟩;have e:ua A (a+1+1) (i:Int) (j:Int) S=ua A (a+1) (wz A (i:Int) (j:Int) S) ((j+1:Nat):Int) (zB A (i:Int) (j:Int) S):=by
   show(cond (decide ((j:Int)<(S.n:Int))) _ _)=_;rw[bS (by omega),E _];rfl
  rw[e];unfold zB wz;rw[fN,fN,g j (bC _) (by omega)];have r:(!(iz (s.at' j).ao A))=oc A (s.at' j):=rfl;rw[r]
  cases k:oc A (s.at' j)with
  |true=>
   simp only[aQ];rw[E _];refine Uy s l m a (i+1) (j+1) _ (by omega) (by omega) (by omega) c (fun q n f=> ?_) ?_
   ·show(cond (Nat.beq q i) (s.at' j) (S.at' q))=s.at' q;rw[ax4 (by omega)];exact g q (by omega) f
   ·rw[aBr S i _ (by omega),b,take_one s (by omega),He,List.filter_cons_of_pos (by simpa using k),List.filter_nil]
  |false=>
   simp only[aS];refine Uy s l m a i (j+1) S (by omega) (by omega) (by omega) c (fun q n f=>g q (by omega) f) ?_;rw[b,take_one s (by omega),He,List.filter_cons_of_neg (by simp [k]),List.filter_nil,h_]
theorem L1{α:Type}{s:G α}{e:α}(h:e∈s.B): ∃i,i<s.n∧s.at' i=e:=by
 simp only[G.B,ox,tA]at h;exact h
theorem WY(g:Int)(r:Bool)(s:G L)(m:s.n≤1000000):(kZ A g r s).B=s.B.filter (oc A):=by
 unfold kZ Dp;rcases(VV A g r s (by omega)).2 with⟨h,a⟩|⟨t,p,h,n,a⟩
 ·rw[h];show s.B=_;refine(List.filter_eq_self.2 fun e b=> ?_).symm;obtain⟨i,l,rfl⟩:=L1 b;show(!(iz (s.at' i).ao A))=true;rw[a i l];rfl
 ·rw[h];have d:(((t:Int)== -1))=false:=hx.2 (by omega);rw[d];simp only[aS];have f:i64.wrap ((t:Int)+1)=((t+1:Nat):Int):=by rw[E _];omega
  rw[f];obtain⟨u,c,j,v,w,k⟩:=Uy A s m (s.n- (t+1)) (toNat ((s.n:Int)- ((t+1:Nat):Int))) t (t+1) s (by omega) (by omega) (by omega) rfl (fun _ _ _=>rfl) (by
   rw[take_one s p,He,List.filter_cons_of_neg (by simp [oc,n]),List.filter_nil,h_];refine(List.filter_eq_self.2 fun e b=> ?_).symm;obtain⟨q,x,o,rfl⟩:=axu s b;show(!(iz (s.at' q).ao A))=true;rw[a q o];rfl)
  rw[j];simp only;rw[fN,aiw c u _ (by omega),k]
end
def Cq(l:List L):Prop:=l.Pairwise fun a b=>Op.bytesLess a.q.toList b.q.toList=true
theorem aAq{s:G L}(h:Ot s.n (fun i=>(s.at' i).q)):Cq s.B:=by
 unfold Cq;rw[List.pairwise_iff_getElem];intro i j b a c;rw[a_]at b a;simp only[G.B,List.getElem_map,List.getElem_range];exact h i j c a
theorem aAr{s:G L}(h:Cq s.B):Ot s.n (fun i=>(s.at' i).q):=by
 intro i j a b;unfold Cq at h;rw[List.pairwise_iff_getElem]at h;have:=h i j (by rw[a_];omega) (by rw[a_];exact b) a;simpa[G.B]using this
structure Nv (A:Int) (s:G L):Prop where
 now:0≤A∧A≤1073741824
 n:s.n≤12
 BS:Cq s.B
 ok: ∀e∈s.B,jb e.C e.z e.I e.w e.m e.N=0
 M: ∀e∈s.B,e.w.n≤1048576∧e.m.n≤1048576∧e.N.n≤1048576
 u: ∀e∈s.B,e.ao=0∨(A<e.ao∧e.ao≤1073741824)
theorem c0{A:Int}{s:G L}(l:dt s)(h:hp A s=0):Nv A s:=by
 have w:=l.1;obtain⟨⟨m,t⟩,n⟩:=YS A s l h;unfold hp at h;obtain⟨_,h⟩:=dv h (by decide);have r:E6 A s=scan (fun i=>ma s i||nc A s i) (fun _=>13) s.n 0:=nw (pa A s) s.n _ _ (by omega) fun k i=>by
  show(cond (decide (i<(s.n:Int))) (cond (ma s i) (true,13) (cond (nc A s i) (true,13) (pa A s k (i64.wrap (i+1))))) (false,default))=_;rw[CG]
 unfold Kr at h;rw[Ig r]at h;obtain⟨hh,_⟩:=dv h (by decide);have g: ∀i,i<s.n→ma s (i:Int)=false∧nc A s (i:Int)=false:=fun i d=>by
  have q:=sM hh i d;simpa only[Cd]using q
 have u: ∀i,i<s.n→(s.at' i).w.n≤1048576∧(s.at' i).m.n≤1048576∧(s.at' i).N.n≤1048576:=fun i d=>by
  obtain⟨_,v,_⟩:=n i d;obtain⟨x,y,z⟩:=v.2.1;exact⟨by omega,by omega,by omega⟩
 refine⟨m,t,aAq fun i j o p=> ?_,fun e f=> ?_,fun e f=> ?_,fun e f=> ?_⟩
 ·refine amX (R:=fun i j=>Op.bytesLess (s.at' i).q.toList (s.at' j).q.toList=true) s.n (fun i d=> ?_) (fun _ _ _ _ _ _=>afa) i j o p;have q1:=(g (i+1) d).1;unfold ma at q1;obtain⟨_,q1⟩:=cP q1;obtain⟨_,q1⟩:=cP q1;obtain⟨_,q1⟩:=cP q1;rw[bS (show((i+1:Nat):Int)>0 by omega)]at q1;rw[show i64.wrap (((i+1:Nat):Int)-1)=(i:Int) by rw[E _];omega]at q1;simpa using q1
 ·obtain⟨i,d,rfl⟩:=L1 f;have q1:=(g i d).1;unfold ma at q1;simp only[fN]at q1;obtain⟨_,q1⟩:=cP q1;obtain⟨_,q1⟩:=cP q1;obtain⟨d3,_⟩:=cP q1;exact bB d3
 ·obtain⟨i,d,rfl⟩:=L1 f;exact u i d
 ·obtain⟨i,d,rfl⟩:=L1 f;have q1:=(g i d).2;unfold nc at q1;simp only[fN]at q1
  cases c:((s.at' i).ao !=0)with
  |false=>exact .inl (bB c)
  |true=>
   rw[c]at q1;obtain⟨a,b⟩:=cP q1;have a:=db a;have b:=db b;exact .inr ⟨by omega,by omega⟩
theorem fit{A now:Int}{s t:G L}(h:Nv A s)(f:t.B=s.B.filter (oc now)):Fit now t:=by
 have b: ∀i,i<t.n→t.at' i∈s.B∧oc now (t.at' i)=true:=fun i a=>by
  have:t.at' i∈t.B:=by simp only[G.B,ox,tA];exact⟨i,a,rfl⟩
  rw[f,G5]at this;exact this
 refine⟨?_,aAr (by rw[f];exact h.BS.filter _),fun i a=>h.ok _ (b i a).1,fun i a=>h.M _ (b i a).1,fun i a=> ?_⟩
 ·have c:=List.length_filter_le (oc now) s.B;rw[←f,a_,a_]at c;have:=h.n;omega
 ·have d:=(b i a).2;rcases h.u _ (b i a).1 with c|⟨_,g⟩
  ·exact .inl c
  ·by_cases e:(t.at' i).ao=0
   ·exact .inl e
   ·unfold oc iz aay at d;rw[show((t.at' i).ao !=0)=true from bne_iff_ne.2 e]at d;have:decide ((t.at' i).ao≤now)=false:=by simpa using d
    have:=db this;exact .inr ⟨by omega,g⟩
theorem aA9{now:Int}{t:G L}(h:Fit now t):tO t:=⟨by have:=h.n;omega,h.M⟩
theorem YQ{A:Int}{g:G L}(a:dt g)(h:(hp A g !=0)=false):Nv A g:=c0 a (bB h)
theorem afB(g:G L){A:Int}(h:dt g∧(hp A g !=0)=false):(ij g).n≤12:=by
 have:=(YQ h.1 h.2).n;rw[F1 g (by omega)];exact this
theorem aio{g:G L}(now a:Int)(b:Bool)(c:g.n≤1000000):(kZ now a b (ij g)).B=g.B.filter (oc now):=by
 rw[WY now a b _ (by rw[F1 g (by omega)];exact c),WX g (by omega)]
theorem afC(now a:Int)(b:Bool)(s:G L)(c:s.n≤1000000):(kZ now a b s).n≤s.n:=by
 have h:=congrArg List.length (WY now a b s c);have:=List.length_filter_le (oc now) s.B;rw[a_]at h this;omega
theorem aos{A:Int}{g:G L}{now a:Int}{b:Bool}(d:dt g)(h:(hp A g !=0)=false):Fit now (kZ now a b (ij g)):=by
 have c:=YQ d h;exact fit c (aio now a b (by have:=c.n;omega))
theorem tn{A:Int}{g:G L}{now a:Int}{b:Bool}(c:dt g)(h:(hp A g !=0)=false):tO (kZ now a b (ij g)):=aA9 (aos c h)
section
variable(A:Int)(g:G L)(r:Int)(h:Int)(o:u)(c:u)(v:u)(y:Int)
def p6:Bool:=(cond (decide (r<0)) true (decide (r>1073741824)))
def oR:Int:=(cond ((hp A g)!=0) 0 (cond (p6 r) 0 (cond ((e3 h o c v y)!=0) 0 (iy (imax (iy A) r)))))
def nM:G L:=(cond ((hp A g)!=0) (D:G L) (cond (p6 r) (D:G L) (cond ((e3 h o c v y)!=0) (D:G L) (ij (ub h o c v y (imax (iy A) r) (kZ (imax (iy A) r) 0 false (ij g)))))))
def QP:Int:=(cond ((hp A g)!=0) 0 (cond (p6 r) 0 (cond ((e3 h o c v y)!=0) 0 (aaz h o c v y (imax (iy A) r) (kZ (imax (iy A) r) 0 false (ij g))))))
def QQ:u:=(cond ((hp A g)!=0) ⟨#[]⟩ (cond (p6 r) ⟨#[]⟩ (cond ((e3 h o c v y)!=0) ⟨#[]⟩ (aaA h o c v y (kZ (imax (iy A) r) 0 false (ij g))))))
def QR:Int:=(cond ((hp A g)!=0) 0 (cond (p6 r) 0 (cond ((e3 h o c v y)!=0) 0 (aaB h o c v y (imax (iy A) r) (kZ (imax (iy A) r) 0 false (ij g))))))
def zw:G u:=(cond ((hp A g)!=0) (D:G u) (cond (p6 r) (D:G u) (cond ((e3 h o c v y)!=0) (D:G u) (QX h o c v y (kZ (imax (iy A) r) 0 false (ij g))))))
def aoQ:Int:=(cond ((hp A g)!=0) (hp A g) (cond (p6 r) 2 (cond ((e3 h o c v y)!=0) (e3 h o c v y) 0)))
def aiG:ba:=⟨[.g [a,.ab bd],.v a,.g [a,ai,ai,ai,a]],fun A g r h o c v y=>⟨⟨none,.c7 [.agg [b (oR A g r h o c v y),aI 8 gp (nM A g r h o c v y)],.agg [b (QP A g r h o c v y),.str (QQ A g r h o c v y),b (QR A g r h o c v y),aI 1 cK (zw A g r h o c v y)],b (aoQ A g r h o c v y)]⟩⟩⟩
theorem atO:bn 121 aiG:=bq Tryz.func121
 fun(A:Int) g j i (r:Int) (h:Int) o k c m v n (y:Int)=>bu ⟨.pure,[.cell 6 46,.cell 7 99,.tmp 8],[(.c 0 0,a),(.c 0 1,.ab bd),(.c 1 0,a),(.c 1 1,ai),(.c 1 2,a),(.c 1 3,.ab bK),(.t 2,a)],⟨[.agg (us 2 []),.agg (us 4 []),U],[]⟩⟩ (.ae (.ae (.s (.j ⟨33554922,[],[(.t 25,l)],[],.f⟩ .z .z) (.ae (.ae (.ae (.ae (.ae (.s (.ix [(.h 5 1,bd)]) .z))))))))) (let f:=kZ (imax (iy A) r) 0 false (ij g);((hp A g)!=0)=false→((p6 r)=false→(((e3 h o c v y)!=0)=false→(((ij g).n≤1000000)∧(tO f∧f.n≤1000000))))) (bJ 0 (aG Uj (aG aeJ aT)) (aj atS (aj atT (aj atU bI)))) Tryz.func121 (have:=C8 i;(fun b=>(fun d=>(fun e=>⟨(by have:=bB b;have:=d;simp [p6]at this;have:=bB e;have:=afB g (by repeat first|assumption|apply rR|apply rS|apply tq|apply p3|apply vf|apply lK|apply qO|apply tf|apply te|apply q3|apply qF|apply qG|apply h8|apply tn|apply v_|apply lb|apply jF|apply ns|apply And.intro);omega),⟨(by repeat first|assumption|apply tn),(by have:=bB b;have:=d;simp [p6]at this;have:=bB e;have:=T4 (iy A) r;have:=afB g (by repeat first|assumption|apply rR|apply rS|apply tq|apply p3|apply vf|apply lK|apply qO|apply tf|apply te|apply q3|apply qF|apply qG|apply h8|apply tn|apply v_|apply lb|apply jF|apply ns|apply And.intro);have:=afC (imax (iy A) r) 0 false (ij g) (by omega);omega)⟩⟩))))
end
section
variable(A:Int)(g:G L)(r:Int)(h:G aw)(o:Int)(c:Int)(v:Int)(y:Int)(p:u)(x:u)(R:u)(bz:Int)
def jX:Bool:=(cond (decide (o<0)) true (decide (o>1073741824)))
def abf:Int:=let b:=lx (fT h) c;let a:=oR A g o 22 ⟨#[]⟩ ⟨#[]⟩ ⟨#[]⟩ 0;(cond ((dV A g r h)!=0) 0 (cond (jX o) 0 (cond ((hd c v y p x R bz)!=0) 0 (cond (c==0) a (cond (decide (b<0)) a (cond (v==((fT h).at' (toNat b)).C) a (cond (v !=(i64.wrap (((fT h).at' (toNat b)).C+1))) a (oR a (nM A g o 22 ⟨#[]⟩ ⟨#[]⟩ ⟨#[]⟩ 0) o y p x R bz))))))))
def RB:G L:=let b:=lx (fT h) c;let a:=nM A g o 22 ⟨#[]⟩ ⟨#[]⟩ ⟨#[]⟩ 0;(cond ((dV A g r h)!=0) (D:G L) (cond (jX o) (D:G L) (cond ((hd c v y p x R bz)!=0) (D:G L) (cond (c==0) a (cond (decide (b<0)) a (cond (v==((fT h).at' (toNat b)).C) a (cond (v !=(i64.wrap (((fT h).at' (toNat b)).C+1))) a (nM (oR A g o 22 ⟨#[]⟩ ⟨#[]⟩ ⟨#[]⟩ 0) a o y p x R bz))))))))
def abg:Int:=(cond ((dV A g r h)!=0) 0 (cond (jX o) 0 (cond ((hd c v y p x R bz)!=0) 0 (cond (c==0) (abp r) r))))
def RC:G aw:=let b:=fT h;let i:=nM A g o 22 ⟨#[]⟩ ⟨#[]⟩ ⟨#[]⟩ 0;let e:=oR A g o 22 ⟨#[]⟩ ⟨#[]⟩ ⟨#[]⟩ 0;let a:=toNat (lx b c);let d:=b.at' a;let k:=G.cp b a (⟨d.q,v,d.z,d.I,d.w,d.m,d.N⟩:aw);let f:=k.at' a;let j:=G.cp k a (⟨f.q,f.C,(oR e i o y p x R bz),f.I,f.w,f.m,f.N⟩:aw);(cond ((dV A g r h)!=0) (D:G aw) (cond (jX o) (D:G aw) (cond ((hd c v y p x R bz)!=0) (D:G aw) (cond (c==0) (RE e r b) (cond (decide ((lx b c)<0)) b (cond (v==d.C) b (cond (v !=(i64.wrap (d.C+1))) b (G.cp j a (⟨(j.at' a).q,(j.at' a).C,(j.at' a).z,(Jd (QP e i o y p x R bz)),(Je (QQ e i o y p x R bz)),(Jf (QR e i o y p x R bz)),(Jg (zw e i o y p x R bz))⟩:aw)))))))))
def abh:Int:=let a:=fT h;let d:=lx a c;let b:=toNat d;(cond ((dV A g r h)!=0) 0 (cond (jX o) 0 (cond ((hd c v y p x R bz)!=0) 0 (cond (c==0) (abl r) (cond (decide (d<0)) 11 (cond (v==(a.at' b).C) (Jd (a.at' b).I) (cond (v !=(i64.wrap ((a.at' b).C+1))) 10 (QP (oR A g o 22 ⟨#[]⟩ ⟨#[]⟩ ⟨#[]⟩ 0) (nM A g o 22 ⟨#[]⟩ ⟨#[]⟩ ⟨#[]⟩ 0) o y p x R bz))))))))
def abi:u:=let a:=fT h;let d:=lx a c;let b:=toNat d;(cond ((dV A g r h)!=0) ⟨#[]⟩ (cond (jX o) ⟨#[]⟩ (cond ((hd c v y p x R bz)!=0) ⟨#[]⟩ (cond (c==0) abm (cond (decide (d<0)) ⟨#[]⟩ (cond (v==(a.at' b).C) (Je (a.at' b).w) (cond (v !=(i64.wrap ((a.at' b).C+1))) ⟨#[]⟩ (QQ (oR A g o 22 ⟨#[]⟩ ⟨#[]⟩ ⟨#[]⟩ 0) (nM A g o 22 ⟨#[]⟩ ⟨#[]⟩ ⟨#[]⟩ 0) o y p x R bz))))))))
def abj:Int:=let a:=fT h;let d:=lx a c;let b:=toNat d;(cond ((dV A g r h)!=0) 0 (cond (jX o) 0 (cond ((hd c v y p x R bz)!=0) 0 (cond (c==0) (abn r) (cond (decide (d<0)) 0 (cond (v==(a.at' b).C) (Jf (a.at' b).m) (cond (v !=(i64.wrap ((a.at' b).C+1))) 0 (QR (oR A g o 22 ⟨#[]⟩ ⟨#[]⟩ ⟨#[]⟩ 0) (nM A g o 22 ⟨#[]⟩ ⟨#[]⟩ ⟨#[]⟩ 0) o y p x R bz))))))))
def abk:G u:=let a:=fT h;let d:=lx a c;let b:=toNat d;(cond ((dV A g r h)!=0) (D:G u) (cond (jX o) (D:G u) (cond ((hd c v y p x R bz)!=0) (D:G u) (cond (c==0) abo (cond (decide (d<0)) (D:G u) (cond (v==(a.at' b).C) (Jg (a.at' b).N) (cond (v !=(i64.wrap ((a.at' b).C+1))) (D:G u) (zw (oR A g o 22 ⟨#[]⟩ ⟨#[]⟩ ⟨#[]⟩ 0) (nM A g o 22 ⟨#[]⟩ ⟨#[]⟩ ⟨#[]⟩ 0) o y p x R bz))))))))
def aph:Int:=let a:=hd c v y p x R bz;(cond ((dV A g r h)!=0) (dV A g r h) (cond (jX o) 2 (cond (a !=0) a 0)))
def aj3:ba:=⟨[.g [a,.ab bd,a,.ab bT],.v a,.g [a,a,a,ai,ai,ai,a]],fun A g r h o c v y p x R bz=>⟨⟨none,.c7 [.agg [b (abf A g r h o c v y p x R bz),aI 8 gp (RB A g r h o c v y p x R bz),b (abg A g r h o c v y p x R bz),aI 7 gV (RC A g r h o c v y p x R bz)],.agg [b (abh A g r h o c v y p x R bz),.str (abi A g r h o c v y p x R bz),b (abj A g r h o c v y p x R bz),aI 1 cK (abk A g r h o c v y p x R bz)],b (aph A g r h o c v y p x R bz)]⟩⟩⟩
theorem auN:bn 105 aj3:=bq Tryz.func105
 fun(A:Int) g D u (r:Int) h F w (o:Int) (c:Int) (v:Int) (y:Int) p G x H R E (bz:Int)=>bu (ms:=[.f,.f,(.b .f (.b .f (.b .f (.b .f .l)))),.f,.f,.f,.f,.f,(.b .f (.b .f (.b .f .l)))]) ⟨.pure,[.cell 6 49,.cell 7 99,.tmp 8],[(.c 0 0,a),(.c 0 1,.ab bd),(.c 0 2,a),(.c 0 3,.ab bT),(.c 1 0,a),(.c 1 1,ai),(.c 1 2,a),(.c 1 3,.ab bK),(.t 2,a)],⟨[.agg (us 4 []),.agg (us 4 []),U],[]⟩⟩ (.ae (.ae (.s (.j ⟨1073742314,[],[(.t 30,l)],[],.f⟩ .z .z) (.ae (.ae (.ae (.ae (.s (.hE 5 1 (.rL [.t 46,.t 51,.t 56] [])) .z)))))))) (let d:=fT h;let n:=lx d c;let m:=toNat n;let q:=d.at' m;((dV A g r h)!=0)=false→((jX o)=false→(((hd c v y p x R bz)!=0)=false→(((c==0)=true→(d.n≤4))∧((c==0)=false→((decide (n<0))=false→(((0:Int)≤n∧n<(d.n:Int))∧(((m<d.n)∧(((v==q.C)=true→(m<d.n))∧((v==q.C)=false→(m<d.n))))∧((v==q.C)=false→((v !=(i64.wrap (q.C+1)))=false→((m<d.n)∧((m<d.n)∧(m<d.n))))))))))))) (bJ 0 (aG Uk (aG LN (aG atO (aG auO (aG auQ (aG aer aT)))))) (aj auP bI)) Tryz.func105 (have:=C8 u;have:=Iq w;(fun e=>(fun f=>(fun i=>⟨(fun z=>(by have b:=gU _ _ _ _ (by first|assumption|exact hU.z (by assumption)) (by first|assumption|exact hT.y (by assumption)) (bB e);have:=b.1;have:=f;simp [jX]at this;have:=bB i;have:=eq_of_beq z;have:=s5 h;omega)),(fun j=>(fun k=>⟨(by have b:=gU _ _ _ _ (by first|assumption|exact hU.z (by assumption)) (by first|assumption|exact hT.y (by assumption)) (bB e);have:=b.1;have:=f;simp [jX]at this;have:=bB i;have:=cZ j;have:=hy k;have:=s5 h;have:=wj (fT h) c (by omega);omega),⟨⟨(by have b:=gU _ _ _ _ (by first|assumption|exact hU.z (by assumption)) (by first|assumption|exact hT.y (by assumption)) (bB e);have:=b.1;have:=f;simp [jX]at this;have:=bB i;have:=cZ j;have:=hy k;have:=s5 h;have:=wj (fT h) c (by omega);omega),⟨(fun B=>(by have b:=gU _ _ _ _ (by first|assumption|exact hU.z (by assumption)) (by first|assumption|exact hT.y (by assumption)) (bB e);have:=b.1;have:=f;simp [jX]at this;have:=bB i;have:=cZ j;have:=hy k;have:=eq_of_beq B;have:=s5 h;have:=wj (fT h) c (by omega);omega)),(fun C=>(by have b:=gU _ _ _ _ (by first|assumption|exact hU.z (by assumption)) (by first|assumption|exact hT.y (by assumption)) (bB e);have:=b.1;have:=f;simp [jX]at this;have:=bB i;have:=cZ j;have:=hy k;have:=cZ C;have:=s5 h;have:=wj (fT h) c (by omega);omega))⟩⟩,(fun t=>(fun s=>⟨(by have b:=gU _ _ _ _ (by first|assumption|exact hU.z (by assumption)) (by first|assumption|exact hT.y (by assumption)) (bB e);have:=b.1;have:=f;simp [jX]at this;have:=bB i;have:=cZ j;have:=hy k;have:=cZ t;have:=bB s;have:=s5 h;have:=wj (fT h) c (by omega);omega),⟨(by have b:=gU _ _ _ _ (by first|assumption|exact hU.z (by assumption)) (by first|assumption|exact hT.y (by assumption)) (bB e);have:=b.1;have:=f;simp [jX]at this;have:=bB i;have:=cZ j;have:=hy k;have:=cZ t;have:=bB s;have:=s5 h;have:=wj (fT h) c (by omega);omega),(by have b:=gU _ _ _ _ (by first|assumption|exact hU.z (by assumption)) (by first|assumption|exact hT.y (by assumption)) (bB e);have:=b.1;have:=f;simp [jX]at this;have:=bB i;have:=cZ j;have:=hy k;have:=cZ t;have:=bB s;have:=s5 h;have:=wj (fT h) c (by omega);omega)⟩⟩))⟩⟩))⟩))))
end
end Go.Proofs.YtfmgjpcmcjjoiaaGreatDoor
