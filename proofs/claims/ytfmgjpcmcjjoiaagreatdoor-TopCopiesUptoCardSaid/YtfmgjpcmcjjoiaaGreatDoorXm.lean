/- Part of a proof: walks of the program. -/
import Derived.Test.YtfmgjpcmcjjoiaaGreatDoorXk
open Go.IntKind (i64 u64 u8)
open Int (toNat)
set_option maxRecDepth 100000
set_option maxHeartbeats 4000000
set_option linter.all false
noncomputable section
namespace Go.Proofs.YtfmgjpcmcjjoiaaGreatDoor
open Go Go.RowKit Go.ah
def HP(d:A z):Nat→Int→A Int→A Int
 |0,_,_=>default
 |k+1,e,m=>(cond (decide (e<(d.n:Int))) (HP d k (i64.wrap (e+1)) (du (d.at' (toNat e)) m)) m)
def aap(d:A z)(g:A Int):A Int:=HP d ((toNat ((d.n:Int)-0))+1) 0 (di (d.n:Int) g)
def lK(d:A z)(g:A Int):A Int:=(aap d g)
def ajP:b5:=⟨[.p 0,.v (.af bL)],[(.h 1 0,.ae a8)],[[.own 1 0],[U]],fun d g=>⟨⟨some (rv d∧g.n≤250000000000),[],[[.own 1 ((lK d g)).n],[(aB.ae a8).ab (lK d g)]]⟩⟩⟩
theorem aeQ:dB 134 ajP:=dI Tryz.func134
 fun d p g q l=>dA ⟨.heap,[],[(.h 1 0,.ae a8)],⟨[],[[.own 1 0],[U]]⟩⟩ (.ad (.ad (.cy ⟨7169,[],[],[(.t 12,a),(.h 1 0,.ae a8)],some 0,false,0,[],[(.h 1 0,.ae a8)],fun k (s:Int×A Int)=>HP d k s.1 s.2,.f,fun(s:Int×A Int)=>(0≤s.1∧s.1≤(d.n:Int)∧(s.2.n:Int)≤(g.n:Int)+1+s.1*21),fun(s:Int×A Int)=>(toNat ((d.n:Int)-s.1)),none⟩ .z))) ((g.n≤400000000000)∧(((0≤(0:Int)∧(0:Int)≤(d.n:Int)∧(((di (d.n:Int) g).n:Nat):Int)≤(g.n:Int)+1+(0:Int)*21))∧(∀(e:Int) (m:A Int),let i:=d.at' (toNat e);let h:=decide (e<(d.n:Int));let b:=i64.wrap (e+1);(0≤e∧e≤(d.n:Int)∧(m.n:Int)≤(g.n:Int)+1+e*21)→((h=true→(((0:Int)≤e∧e<(d.n:Int))∧(m.n≤300000000000∧i.size≤10000000000)))∧(h=true→((0≤b∧b≤(d.n:Int)∧(((du i m).n:Nat):Int)≤(g.n:Int)+1+b*21)∧(toNat ((d.n:Int)-b))<(toNat ((d.n:Int)-e)))))))) (bK 2 aT (av AQ (av KX bJ))) Tryz.func134 (have⟨c,o⟩:=l;⟨(by omega),⟨(by have:=ib (d.n:Int) g;omega),(fun e m n=>⟨(fun f=>⟨(by have:=aq f;omega),(by have:=aq f;have:=c.1;have:=c.2 (toNat e) (by omega);omega)⟩),(fun j=>(by have:=aq j;have:=c.2 (toNat e) (by omega);have:=iD (d.at' (toNat e)) m;have:=N (e+1);omega))⟩)⟩⟩)
def F_(l:A z):List Int:=sX (l.n:Int)++cat (fun i=>eV (l.at' i)) l.n 0
theorem u3{x:z}(h:x.size≤20):(eV x).length≤21:=by rw[aCi x (by omega)];omega
theorem Vi{l:A z}(h:rv l):(F_ l).length≤421:=by
 unfold F_;have a:=h.1;have b:=y0 (f:=fun i=>eV (l.at' i)) (D:=21) l.n 0 fun j _ c=>u3 (h.2 j (by omega));rw[iF,L9];omega
theorem Mu(l:A z)(w:A Int)(h:rv l):(lK l w).B=w.B++F_ l:=by
 have a:(lK l w).B=(di (l.n:Int) w).B++cat (fun i=>eV (l.at' i)) l.n 0:=
  AX (HP l) l.n 21 (w.n+1) (fun i s=>du (l.at' (toNat i)) s) (fun i=>eV (l.at' i)) (by have:=h.1;omega) (fun _ _ _=>rfl) (fun i s b _=>by
   have c:=h.2 i b;simp only[fT];exact⟨yB s (by omega),u3 c⟩) _ (by rw[ib];exact bx _)
 rw[a,yA,kj];rfl
theorem Tn(d:A z)(g:A Int)(h:rv d):(lK d g).n≤g.n+421:=by
 rw[←dt,Mu _ _ h,iF,dt];have:=Vi h;omega
section
def HM(h:A br):Nat→Int→A Int→A Int
 |0,_,_=>default
 |k+1,e,m=>(cond (decide (e<(h.n:Int))) (HM h k (i64.wrap (e+1)) (du (h.at' (toNat e)).ai (du (h.at' (toNat e)).j m))) m)
variable(d:Int)(g:z)(u:Int)(h:A br)(r:A z)(o:A bO)(q:A Int)
def r0:A Int:=HM h ((toNat ((h.n:Int)-0))+1) 0 (di (h.n:Int) (bu u (du g (di d q))))
def HN(o:A bO):Nat→Int→A Int→A Int
 |0,_,_=>default
 |k+1,bo,a=>(cond (decide (bo<(o.n:Int))) (HN o k (i64.wrap (bo+1)) (bu (o.at' (toNat bo)).ai (du (o.at' (toNat bo)).j a))) a)
def HO:A Int:=HN o ((toNat ((o.n:Int)-0))+1) 0 (di (o.n:Int) (lK r (r0 d g u h q)))
def rZ:A Int:=(HO d g u h r o q)
def ajO:b5:=⟨[.p 0,.g [a,au,a,.af cX,.af bL,.af cO]],[(.h 1 0,.ae a8)],[[.own 1 0],[U]],fun(d:Int) g (u:Int) h r o q=>let b:=rZ d g u h r o q;⟨⟨some (rz g u h r o∧q.n≤200000000000),[],[[.own 1 (b).n],[(aB.ae a8).ab b]]⟩⟩⟩
theorem avf:dB 133 ajO:=dI Tryz.func133
 fun(d:Int) g I (u:Int) h J r K o L q M B=>dA ⟨.heap,[],[(.h 1 0,.ae a8)],⟨[],[[.own 1 0],[U]]⟩⟩ (.ad (.ad (.ad (.ad (.ad (.j ⟨9,[],[],[],.f⟩ (.ad (.cy ⟨469762057,[],[],[(.t 28,a),(.h 1 0,.ae a8)],some 0,false,9,[],[(.h 1 0,.ae a8)],fun k (s:Int×A Int)=>HM h k s.1 s.2,.f,fun(s:Int×A Int)=>(0≤s.1∧s.1≤(h.n:Int)∧(s.2.n:Int)≤(q.n:Int)+40+s.1*42),fun(s:Int×A Int)=>(toNat ((h.n:Int)-s.1)),some fun(C:A Int)=>(C.n:Int)≤(q.n:Int)+880⟩ .z)) (.ad (.ad (.ad (.cy ⟨15762598695796737,[.b 2],[],[(.t 53,a),(.h 1 0,.ae a8)],some 2,false,0,[],[(.h 1 0,.ae a8)],fun k (s:Int×A Int)=>HN o k s.1 s.2,.f,fun(s:Int×A Int)=>(0≤s.1∧s.1≤(o.n:Int)∧(s.2.n:Int)≤(q.n:Int)+1400+s.1*29),fun(s:Int×A Int)=>(toNat ((o.n:Int)-s.1)),none⟩ .z)))))))))) (let w:=du g (di d q);let n:=r0 d g u h q;(q.n≤400000000000)∧(((di d q).n≤300000000000∧g.size≤10000000000)∧((w.n≤400000000000)∧(((bu u w).n≤400000000000)∧((((0≤(0:Int)∧(0:Int)≤(h.n:Int)∧(((di (h.n:Int) (bu u w)).n:Nat):Int)≤(q.n:Int)+40+(0:Int)*42))∧(∀(e:Int) (m:A Int),let v:=decide (e<(h.n:Int));let i:=i64.wrap (e+1);let f:=h.at' (toNat e);(0≤e∧e≤(h.n:Int)∧(m.n:Int)≤(q.n:Int)+40+e*42)→((v=true→(((0:Int)≤e∧e<(h.n:Int))∧((m.n≤300000000000∧f.j.size≤10000000000)∧((du f.j m).n≤300000000000∧f.ai.size≤10000000000))))∧((v=true→((0≤i∧i≤(h.n:Int)∧(((du f.ai (du f.j m)).n:Nat):Int)≤(q.n:Int)+40+i*42)∧(toNat ((h.n:Int)-i))<(toNat ((h.n:Int)-e))))∧(v=false→((m.n:Int)≤(q.n:Int)+880))))))∧(((n.n:Int)≤(q.n:Int)+880)→((rv r∧n.n≤250000000000)∧(((lK r n).n≤400000000000)∧(((0≤(0:Int)∧(0:Int)≤(o.n:Int)∧(((di (o.n:Int) (lK r n)).n:Nat):Int)≤(q.n:Int)+1400+(0:Int)*29))∧(∀(bo:Int) (c:A Int),let x:=decide (bo<(o.n:Int));let l:=o.at' (toNat bo);let j:=i64.wrap (bo+1);(0≤bo∧bo≤(o.n:Int)∧(c.n:Int)≤(q.n:Int)+1400+bo*29)→((x=true→(((0:Int)≤bo∧bo<(o.n:Int))∧((c.n≤300000000000∧l.j.size≤10000000000)∧((du l.j c).n≤400000000000))))∧(x=true→((0≤j∧j≤(o.n:Int)∧(((bu l.ai (du l.j c)).n:Nat):Int)≤(q.n:Int)+1400+j*29)∧(toNat ((o.n:Int)-j))<(toNat ((o.n:Int)-bo))))))))))))))) (bK 2 aT (av E_ (av AQ (av KX (av aeQ bJ))))) Tryz.func133 (have⟨b,H⟩:=B;⟨(by omega),⟨(by have:=b.1;have:=ib d q;omega),⟨(by have:=b.1;have:=iD g (di d q);have:=ib d q;omega),⟨(by have:=b.1;have:=eB u (du g (di d q));have:=iD g (di d q);have:=ib d q;omega),⟨⟨(by have:=b.1;have:=ib (h.n:Int) (bu u (du g (di d q)));have:=eB u (du g (di d q));have:=iD g (di d q);have:=ib d q;omega),(fun e m F=>⟨(fun p=>⟨(by have:=aq p;omega),⟨(by have:=aq p;have:=b.2.1;have:=b.2.2.1 (toNat e) (by omega);omega),(by have:=aq p;have:=b.2.1;have:=b.2.2.1 (toNat e) (by omega);have:=iD (h.at' (toNat e)).j m;omega)⟩⟩),⟨(fun y=>(by have:=aq y;have:=b.2.2.1 (toNat e) (by omega);have:=iD (h.at' (toNat e)).ai (du (h.at' (toNat e)).j m);have:=iD (h.at' (toNat e)).j m;have:=N (e+1);omega)),(fun D=>(by have:=b.2.1;omega))⟩⟩)⟩,(fun E=>⟨⟨(by repeat first|assumption|apply hp),(by omega)⟩,⟨(by have:=Tn r (r0 d g u h q) (by repeat first|assumption|apply vu|apply vt|apply hp);omega),⟨(by have:=ib (o.n:Int) (lK r (r0 d g u h q));have:=Tn r (r0 d g u h q) (by repeat first|assumption|apply vu|apply vt|apply hp);omega),(fun bo c G=>⟨(fun t=>⟨(by have:=aq t;omega),⟨(by have:=aq t;have:=b.2.1;have:=b.2.2.2.2 (toNat bo) (by omega);omega),(by have:=aq t;have:=b.2.1;have:=b.2.2.2.2 (toNat bo) (by omega);have:=iD (o.at' (toNat bo)).j c;omega)⟩⟩),(fun z=>(by have:=aq z;have:=b.2.2.2.2 (toNat bo) (by omega);have:=eB (o.at' (toNat bo)).ai (du (o.at' (toNat bo)).j c);have:=iD (o.at' (toNat bo)).j c;have:=N (bo+1);omega))⟩)⟩⟩⟩)⟩⟩⟩⟩⟩)
end
def Be(s:A br)(i:Nat):List Int:=eV (s.at' i).j++eV (s.at' i).ai
def sY(s:A bO)(i:Nat):List Int:=eV (s.at' i).j++aA (s.at' i).ai
def dN(d:Int)(g:z)(u:Int)(h:A br)(r:A z)(o:A bO):List Int:=
 sX d++(eV g++(aA u++(sX (h.n:Int)++(cat (Be h) h.n 0++(F_ r++(sX (o.n:Int)++cat (sY o) o.n 0))))))
theorem agL{s:A br}{i:Nat}(h:(s.at' i).j.size≤20∧(s.at' i).ai.size≤20):(Be s i).length≤42:=by
 have a:=u3 h.1;have b:=u3 h.2;unfold Be;rw[iF];omega
theorem ahP{s:A bO}{i:Nat}(h:(s.at' i).j.size≤20):(sY s i).length≤29:=by
 have a:=u3 h;unfold sY;rw[iF,Fv];omega
theorem aih{d:Int}{g:z}{u:Int}{h:A br}{r:A z}{o:A bO}(i:rz g u h r o):(dN d g u h r o).length≤2000:=by
 have a:=u3 i.1.1;have b:=Vi (hp i);have c:=y0 (f:=Be h) (D:=42) h.n 0 fun j _ k=>agL (i.2.2.1 j (by omega));have l:=y0 (f:=sY o) (D:=29) o.n 0 fun j _ k=>ahP (i.2.2.2.2 j (by omega)).1;have e:=i.2.1;unfold dN;simp only[iF,L9,Fv];omega
theorem VD(d:Int)(g:z)(u:Int)(h:A br)(r:A z)(o:A bO)(w:A Int)(a:rz g u h r o):(rZ d g u h r o w).B=w.B++dN d g u h r o:=by
 have j:=a.2.1;have e:(r0 d g u h w).B=(di (h.n:Int) (bu u (du g (di d w)))).B++cat (Be h) h.n 0:=
  AX (HM h) h.n 42 _ (fun i s=>du (h.at' (toNat i)).ai (du (h.at' (toNat i)).j s)) (Be h) (by omega) (fun _ _ _=>rfl) (fun i s b _=>by
   have c:=a.2.2.1 i b;simp only[fT];exact⟨by rw[yB _ (by omega),yB _ (by omega),kj];rfl,agL c⟩) _ (bx _)
 have f:(HO d g u h r o w).B=(di (o.n:Int) (lK r (r0 d g u h w))).B++cat (sY o) o.n 0:=
  AX (HN o) o.n 29 _ (fun i s=>bu (o.at' (toNat i)).ai (du (o.at' (toNat i)).j s)) (sY o) (by omega) (fun _ _ _=>rfl) (fun i s b _=>by
   have c:=a.2.2.2.2 i b;simp only[fT];exact⟨by rw[s6 _ (by omega) (by omega),yB _ (by omega),kj];rfl,ahP c.1⟩) _ (bx _)
 have k:=a.1;show(HO d g u h r o w).B=_;rw[f,yA,Mu _ _ (hp a),e,yA,s6 _ (by omega) (by omega),yB _ (by omega),yA];simp only[dN,kj]
theorem afA(d:Int)(g:z)(u:Int)(h:A br)(r:A z)(o:A bO)(w:A Int)(a:rz g u h r o):(rZ d g u h r o w).n≤w.n+2000:=by
 rw[←dt,VD _ _ _ _ _ _ _ a,iF,dt];have:=aih (d:=d) a;omega
theorem vR{s:A aj}(h:ft (aH 8 fZ s)):lB s:=⟨h.len,fun i a=>⟨(h.at (j:=4) (x:=aH 2 fz (s.at' i).p) a (by omega) rfl).len,(h.at (j:=5) (x:=aH 1 cK (s.at' i).v) a (by omega) rfl).len,(h.at (j:=6) (x:=aH 2 fA (s.at' i).ax) a (by omega) rfl).len⟩⟩
theorem zo{s:A aG}(h:ft (aH 7 gK s)):te s:=⟨h.len,fun i a=>(h.at (j:=6) (x:=aH 1 cK (s.at' i).ax) a (by omega) rfl).len⟩
section
def JQ(g:A aj):Nat→Int→A Int→A Int
 |0,_,_=>default
 |k+1,ar,cE=>let a:=g.at' (toNat ar);(cond (decide (ar<(g.n:Int))) (JQ g k (i64.wrap (ar+1)) (bu a.aF (rZ a.ai a.K a.an a.p a.v a.ax (du a.j cE)))) cE)
variable(d:Int)(g:A aj)(u:Int)(h:A aG)
def sj:A Int:=JQ g ((toNat ((g.n:Int)-0))+1) 0 (di (g.n:Int) (bu d (L:A Int)))
def JR(h:A aG):Nat→Int→A Int→A Int
 |0,_,_=>default
 |k+1,a5,b=>let a:=h.at' (toNat a5);(cond (decide (a5<(h.n:Int))) (JR h k (i64.wrap (a5+1)) (lK a.ax (bu a.v (du a.p (di a.an (bu a.K (bu a.ai (bu a.j b)))))))) b)
def Ev:A Int:=JR h ((toNat ((h.n:Int)-0))+1) 0 (di (h.n:Int) (bu u (sj d g)))
def ni:A Int:=(cond ((gA d g u h)!=0) (L:A Int) (Ev d g u h))
def arc:Int:=(cond ((gA d g u h)!=0) (gA d g u h) 0)
def alY:a6:=⟨[.g [a,.af a_,a,.af bP]],fun d g u h=>⟨⟨none,.c9 [aH 1 cQ (ni d g u h),b (arc d g u h)]⟩⟩⟩
theorem afk:bg 113 alY:=bj Tryz.func113
 fun(d:Int) g K C (u:Int) h M D=>bf ⟨.pure,[.tmp 2,.tmp 3],[(.t 0,.af a8),(.t 1,a)],⟨[U,U],[]⟩⟩ (.ad (.ad (.ad (.s (.ir [(.h 1 0,a8)]) (.ad (.j ⟨46,[],[],[],.f⟩ (.ad (.cy ⟨7516192814,[],[],[(.t 32,a),(.h 2 0,.ae a8)],some 0,false,46,[],[(.h 2 0,.ae a8)],fun k (s:Int×A Int)=>JQ g k s.1 s.2,.f,fun(s:Int×A Int)=>(0≤s.1∧s.1≤(g.n:Int)∧(s.2.n:Int)≤10+s.1*2100),fun(s:Int×A Int)=>(toNat ((g.n:Int)-s.1)),some fun(r:A Int)=>(r.n:Int)≤25300⟩ .z)) (.ad (.ad (.j ⟨44,[],[],[],.f⟩ (.ad (.cy ⟨4035225266123964460,[.b 0],[],[(.t 61,a),(.h 2 0,.ae a8)],some 2,false,44,[],[(.h 2 0,.ae a8)],fun k (s:Int×A Int)=>JR h k s.1 s.2,.f,fun(s:Int×A Int)=>(0≤s.1∧s.1≤(h.n:Int)∧(s.2.n:Int)≤25400+s.1*500),fun(s:Int×A Int)=>(toNat ((h.n:Int)-s.1)),none⟩ .z)) .z))))))))) (let B:=bu d (L:A Int);let q:=sj d g;((gA d g u h)!=0)=false→((0≤400000000000)∧((B.n≤400000000000)∧((((0≤(0:Int)∧(0:Int)≤(g.n:Int)∧(((di (g.n:Int) B).n:Nat):Int)≤10+(0:Int)*2100))∧(∀(ar:Int) (cE:A Int),let v:=decide (ar<(g.n:Int));let o:=i64.wrap (ar+1);let f:=g.at' (toNat ar);let y:=rZ f.ai f.K f.an f.p f.v f.ax (du f.j cE);(0≤ar∧ar≤(g.n:Int)∧(cE.n:Int)≤10+ar*2100)→((v=true→(((0:Int)≤ar∧ar<(g.n:Int))∧((cE.n≤300000000000∧f.j.size≤10000000000)∧((rz f.K f.an f.p f.v f.ax∧(du f.j cE).n≤200000000000)∧(y.n≤400000000000)))))∧((v=true→((0≤o∧o≤(g.n:Int)∧(((bu f.aF y).n:Nat):Int)≤10+o*2100)∧(toNat ((g.n:Int)-o))<(toNat ((g.n:Int)-ar))))∧(v=false→((cE.n:Int)≤25300))))))∧(((q.n:Int)≤25300)→((q.n≤400000000000)∧(((bu u q).n≤400000000000)∧(((0≤(0:Int)∧(0:Int)≤(h.n:Int)∧(((di (h.n:Int) (bu u q)).n:Nat):Int)≤25400+(0:Int)*500))∧(∀(a5:Int) (c:A Int),let z:=decide (a5<(h.n:Int));let p:=i64.wrap (a5+1);let l:=h.at' (toNat a5);let x:=bu l.j c;let t:=bu l.K (bu l.ai x);let w:=du l.p (di l.an t);(0≤a5∧a5≤(h.n:Int)∧(c.n:Int)≤25400+a5*500)→((z=true→(((0:Int)≤a5∧a5<(h.n:Int))∧((c.n≤400000000000)∧((x.n≤400000000000)∧(((bu l.ai x).n≤400000000000)∧((t.n≤400000000000)∧(((di l.an t).n≤300000000000∧l.p.size≤10000000000)∧((w.n≤400000000000)∧(rv l.ax∧(bu l.v w).n≤250000000000)))))))))∧(z=true→((0≤p∧p≤(h.n:Int)∧(((lK l.ax (bu l.v w)).n:Nat):Int)≤25400+p*500)∧(toNat ((h.n:Int)-p))<(toNat ((h.n:Int)-a5)))))))))))))) (bK 0 (aw K1 aT) (av E_ (av AQ (av KX (av avf (av aeQ bJ)))))) Tryz.func113 (have:=vR C;have:=zo D;(fun e=>⟨(by omega),⟨(by have:=eB d (L:A Int);have:(L:A Int).n=0:=rfl;omega),⟨⟨(by have:=ib (g.n:Int) (bu d (L:A Int));have:=eB d (L:A Int);have:(L:A Int).n=0:=rfl;omega),(fun ar cE I=>⟨(fun m=>⟨(by have:=aq m;omega),⟨(by have b:=hx _ _ _ _ (by first|assumption|exact h0.z (by assumption)) (by first|assumption|exact hZ.y (by assumption)) (bE e);have:=b.1;have:=aq m;have i:=b.2.1 (toNat ar) (by omega);have:=i.1;omega),⟨⟨(by have b:=hx _ _ _ _ (by first|assumption|exact h0.z (by assumption)) (by first|assumption|exact hZ.y (by assumption)) (bE e);have:=b.1;have:=aq m;have i:=b.2.1 (toNat ar) (by omega);have:=i.1;have:=i.2.1;have:=i.2.2;assumption),(by have b:=hx _ _ _ _ (by first|assumption|exact h0.z (by assumption)) (by first|assumption|exact hZ.y (by assumption)) (bE e);have:=b.1;have:=aq m;have i:=b.2.1 (toNat ar) (by omega);have:=i.1;have:=iD (g.at' (toNat ar)).j cE;omega)⟩,(by have b:=hx _ _ _ _ (by first|assumption|exact h0.z (by assumption)) (by first|assumption|exact hZ.y (by assumption)) (bE e);have:=b.1;have:=aq m;have i:=b.2.1 (toNat ar) (by omega);have:=i.1;have:=i.2.1;have:=afA (g.at' (toNat ar)).ai (g.at' (toNat ar)).K (g.at' (toNat ar)).an (g.at' (toNat ar)).p (g.at' (toNat ar)).v (g.at' (toNat ar)).ax (du (g.at' (toNat ar)).j cE) (by repeat first|assumption|apply k3|apply k4|apply lu|apply kt|apply lZ|apply iE|apply kJ|apply lo|apply ln|apply kO|apply kD|apply kE|apply gF|apply lq|apply me|apply ig|apply hp|apply ju|apply And.intro);have:=iD (g.at' (toNat ar)).j cE;omega)⟩⟩⟩),⟨(fun E=>(by have b:=hx _ _ _ _ (by first|assumption|exact h0.z (by assumption)) (by first|assumption|exact hZ.y (by assumption)) (bE e);have:=aq E;have i:=b.2.1 (toNat ar) (by omega);have:=i.1;have:=i.2.1;have:=eB (g.at' (toNat ar)).aF (rZ (g.at' (toNat ar)).ai (g.at' (toNat ar)).K (g.at' (toNat ar)).an (g.at' (toNat ar)).p (g.at' (toNat ar)).v (g.at' (toNat ar)).ax (du (g.at' (toNat ar)).j cE));have:=afA (g.at' (toNat ar)).ai (g.at' (toNat ar)).K (g.at' (toNat ar)).an (g.at' (toNat ar)).p (g.at' (toNat ar)).v (g.at' (toNat ar)).ax (du (g.at' (toNat ar)).j cE) (by repeat first|assumption|apply k3|apply k4|apply lu|apply kt|apply lZ|apply iE|apply kJ|apply lo|apply ln|apply kO|apply kD|apply kE|apply gF|apply lq|apply me|apply ig|apply hp|apply ju|apply And.intro);have:=iD (g.at' (toNat ar)).j cE;have:=N (ar+1);omega)),(fun G=>(by have b:=hx _ _ _ _ (by first|assumption|exact h0.z (by assumption)) (by first|assumption|exact hZ.y (by assumption)) (bE e);have:=b.1;omega))⟩⟩)⟩,(fun H=>⟨(by omega),⟨(by have:=eB u (sj d g);omega),⟨(by have:=ib (h.n:Int) (bu u (sj d g));have:=eB u (sj d g);omega),(fun a5 c J=>⟨(fun n=>⟨(by have:=aq n;omega),⟨(by have b:=hx _ _ _ _ (by first|assumption|exact h0.z (by assumption)) (by first|assumption|exact hZ.y (by assumption)) (bE e);have:=b.1;omega),⟨(by have b:=hx _ _ _ _ (by first|assumption|exact h0.z (by assumption)) (by first|assumption|exact hZ.y (by assumption)) (bE e);have:=b.1;have:=eB (h.at' (toNat a5)).j c;omega),⟨(by have b:=hx _ _ _ _ (by first|assumption|exact h0.z (by assumption)) (by first|assumption|exact hZ.y (by assumption)) (bE e);have:=b.1;have:=eB (h.at' (toNat a5)).ai (bu (h.at' (toNat a5)).j c);have:=eB (h.at' (toNat a5)).j c;omega),⟨(by have b:=hx _ _ _ _ (by first|assumption|exact h0.z (by assumption)) (by first|assumption|exact hZ.y (by assumption)) (bE e);have:=b.1;have:=eB (h.at' (toNat a5)).K (bu (h.at' (toNat a5)).ai (bu (h.at' (toNat a5)).j c));have:=eB (h.at' (toNat a5)).ai (bu (h.at' (toNat a5)).j c);have:=eB (h.at' (toNat a5)).j c;omega),⟨(by have b:=hx _ _ _ _ (by first|assumption|exact h0.z (by assumption)) (by first|assumption|exact hZ.y (by assumption)) (bE e);have:=b.1;have:=aq n;have j:=b.2.2 (toNat a5) (by omega);have:=j.2.1;have:=ib (h.at' (toNat a5)).an (bu (h.at' (toNat a5)).K (bu (h.at' (toNat a5)).ai (bu (h.at' (toNat a5)).j c)));have:=eB (h.at' (toNat a5)).K (bu (h.at' (toNat a5)).ai (bu (h.at' (toNat a5)).j c));have:=eB (h.at' (toNat a5)).ai (bu (h.at' (toNat a5)).j c);have:=eB (h.at' (toNat a5)).j c;omega),⟨(by have b:=hx _ _ _ _ (by first|assumption|exact h0.z (by assumption)) (by first|assumption|exact hZ.y (by assumption)) (bE e);have:=b.1;have:=aq n;have j:=b.2.2 (toNat a5) (by omega);have:=j.2.1;have:=iD (h.at' (toNat a5)).p (di (h.at' (toNat a5)).an (bu (h.at' (toNat a5)).K (bu (h.at' (toNat a5)).ai (bu (h.at' (toNat a5)).j c))));have:=ib (h.at' (toNat a5)).an (bu (h.at' (toNat a5)).K (bu (h.at' (toNat a5)).ai (bu (h.at' (toNat a5)).j c)));have:=eB (h.at' (toNat a5)).K (bu (h.at' (toNat a5)).ai (bu (h.at' (toNat a5)).j c));have:=eB (h.at' (toNat a5)).ai (bu (h.at' (toNat a5)).j c);have:=eB (h.at' (toNat a5)).j c;omega),⟨(by have b:=hx _ _ _ _ (by first|assumption|exact h0.z (by assumption)) (by first|assumption|exact hZ.y (by assumption)) (bE e);have:=b.1;have:=aq n;have j:=b.2.2 (toNat a5) (by omega);have:=j.1;have:=j.2.1;have:=j.2.2;assumption),(by have b:=hx _ _ _ _ (by first|assumption|exact h0.z (by assumption)) (by first|assumption|exact hZ.y (by assumption)) (bE e);have:=b.1;have:=aq n;have j:=b.2.2 (toNat a5) (by omega);have:=j.2.1;have:=eB (h.at' (toNat a5)).v (du (h.at' (toNat a5)).p (di (h.at' (toNat a5)).an (bu (h.at' (toNat a5)).K (bu (h.at' (toNat a5)).ai (bu (h.at' (toNat a5)).j c)))));have:=iD (h.at' (toNat a5)).p (di (h.at' (toNat a5)).an (bu (h.at' (toNat a5)).K (bu (h.at' (toNat a5)).ai (bu (h.at' (toNat a5)).j c))));have:=ib (h.at' (toNat a5)).an (bu (h.at' (toNat a5)).K (bu (h.at' (toNat a5)).ai (bu (h.at' (toNat a5)).j c)));have:=eB (h.at' (toNat a5)).K (bu (h.at' (toNat a5)).ai (bu (h.at' (toNat a5)).j c));have:=eB (h.at' (toNat a5)).ai (bu (h.at' (toNat a5)).j c);have:=eB (h.at' (toNat a5)).j c;omega)⟩⟩⟩⟩⟩⟩⟩⟩),(fun F=>(by have b:=hx _ _ _ _ (by first|assumption|exact h0.z (by assumption)) (by first|assumption|exact hZ.y (by assumption)) (bE e);have:=aq F;have j:=b.2.2 (toNat a5) (by omega);have:=j.2.1;have:=j.2.2;have:=Tn (h.at' (toNat a5)).ax (bu (h.at' (toNat a5)).v (du (h.at' (toNat a5)).p (di (h.at' (toNat a5)).an (bu (h.at' (toNat a5)).K (bu (h.at' (toNat a5)).ai (bu (h.at' (toNat a5)).j c)))))) (by repeat first|assumption|apply k3|apply k4|apply lu|apply kt|apply lZ|apply iE|apply kJ|apply lo|apply ln|apply kO|apply kD|apply kE|apply gF|apply lq|apply me|apply ig|apply hp|apply ju|apply And.intro);have:=eB (h.at' (toNat a5)).v (du (h.at' (toNat a5)).p (di (h.at' (toNat a5)).an (bu (h.at' (toNat a5)).K (bu (h.at' (toNat a5)).ai (bu (h.at' (toNat a5)).j c)))));have:=iD (h.at' (toNat a5)).p (di (h.at' (toNat a5)).an (bu (h.at' (toNat a5)).K (bu (h.at' (toNat a5)).ai (bu (h.at' (toNat a5)).j c))));have:=ib (h.at' (toNat a5)).an (bu (h.at' (toNat a5)).K (bu (h.at' (toNat a5)).ai (bu (h.at' (toNat a5)).j c)));have:=eB (h.at' (toNat a5)).K (bu (h.at' (toNat a5)).ai (bu (h.at' (toNat a5)).j c));have:=eB (h.at' (toNat a5)).ai (bu (h.at' (toNat a5)).j c);have:=eB (h.at' (toNat a5)).j c;have:=N (a5+1);omega))⟩)⟩⟩⟩)⟩⟩⟩))
end
def hi(s:A aj)(i:Nat):List Int:=eV (s.at' i).j++(dN (s.at' i).ai (s.at' i).K (s.at' i).an (s.at' i).p (s.at' i).v (s.at' i).ax++aA (s.at' i).aF)
def xU(s:A aG)(i:Nat):List Int:=aA (s.at' i).j++(aA (s.at' i).ai++(aA (s.at' i).K++(sX (s.at' i).an++(eV (s.at' i).p++(aA (s.at' i).v++F_ (s.at' i).ax)))))
def Le(d:Int)(g:A aj)(u:Int)(h:A aG):List Int:=aA d++(sX (g.n:Int)++(cat (hi g) g.n 0++(aA u++(sX (h.n:Int)++cat (xU h) h.n 0))))
theorem Yg{s:A aj}{i:Nat}(h:MB (s.at' i)):(hi s i).length≤2100:=by
 have a:=u3 h.1;have b:=aih (d:=(s.at' i).ai) h.2.1;unfold hi;simp only[iF,Fv];omega
theorem afp{s:A aG}{i:Nat}(h:VT (s.at' i)):(xU s i).length≤500:=by
 have a:=u3 h.2.1.2.1;have b:=Vi h.2.2;unfold xU;simp only[iF,Fv,L9];omega
theorem ayl{d:Int}{g:A aj}{u:Int}{h:A aG}(b:GC d g u h):(Le d g u h).length≤28000:=by
 have a:=b.1;have c:=y0 (f:=hi g) (D:=2100) g.n 0 fun j _ e=>Yg (b.2.1 j (by omega));have i:=y0 (f:=xU h) (D:=500) h.n 0 fun j _ e=>afp (b.2.2 j (by omega));unfold Le;simp only[iF,Fv,L9];omega
theorem aiO{d:Int}{g:A aj}{u:Int}{h:A aG}(b:GC d g u h):(Ev d g u h).B=Le d g u h:=by
 have k:=b.1;have e:(sj d g).B=(di (g.n:Int) (bu d (L:A Int))).B++cat (hi g) g.n 0:=
  AX (JQ g) g.n 2100 _ (fun i s=>bu (g.at' (toNat i)).aF (rZ (g.at' (toNat i)).ai (g.at' (toNat i)).K (g.at' (toNat i)).an (g.at' (toNat i)).p (g.at' (toNat i)).v (g.at' (toNat i)).ax (du (g.at' (toNat i)).j s))) (hi g) (by omega) (fun _ _ _=>rfl) (fun i s c _=>by
   have a:=b.2.1 i c;have j:=a.1;have m:=a.2.2;simp only[fT];refine⟨?_,Yg a⟩;rw[s6 _ (by omega) (by omega),VD _ _ _ _ _ _ _ a.2.1,yB _ (by omega)];simp only[hi,kj]) _ (bx _)
 have f:(Ev d g u h).B=(di (h.n:Int) (bu u (sj d g))).B++cat (xU h) h.n 0:=
  AX (JR h) h.n 500 _ (fun i s=>lK (h.at' (toNat i)).ax (bu (h.at' (toNat i)).v (du (h.at' (toNat i)).p (di (h.at' (toNat i)).an (bu (h.at' (toNat i)).K (bu (h.at' (toNat i)).ai (bu (h.at' (toNat i)).j s))))))) (xU h) (by omega) (fun _ _ _=>rfl) (fun i s c _=>by
   have a:=b.2.2 i c;have j:=a.1;have l:=a.2.1;simp only[fT];refine⟨?_,afp a⟩;rw[Mu _ _ a.2.2,s6 _ (by omega) (by omega),yB _ (by omega),yA,s6 _ (by omega) (by omega),s6 _ (by omega) (by omega),s6 _ (by omega) (by omega)];simp only[xU,kj]) _ (bx _)
 rw[f,yA,s6 _ (by omega) (by omega),e,yA,s6 _ (by omega) (by omega),Mv];simp only[Le,kj,re]
def ami(d c_:Int)(c0:A aj)(da:Int)(c1:A aG):Prop:=d≠1→d≠2→GC c_ c0 da c1
theorem t153{x:Int}(h:(!(v8 x))=false):1≤x∧x≤1048576:=by
 unfold v8 aan at h
 by_cases a:x≥1
 ·by_cases b:x≤1048576
  ·omega
  ·simp [b]at h
 ·simp [a]at h
theorem UH{d g u h r o:Int}{q:Bool}{t f w:Int}{ao bb bR:z}{b0 cl df c_:Int}{c0:A aj}{da:Int}{c1:A aG}(a:jG d g u h r o q t f w ao bb bR b0 cl df c_ c0 da c1=0):
  (d=1∧(1≤g∧g≤1048576)∧ -1≤u∧u<3)∨(d=2∧(1≤h∧h≤1048576)∧hC r o q t f w ao bb bR b0=0)∨(d=3∧(1≤cl∧cl≤1048576)∧(1≤df∧df≤1048576)∧gA c_ c0 da c1=0):=by
 unfold jG at a;obtain⟨k,a⟩:=ez a (by decide);obtain⟨_,a⟩:=ez a (by decide);unfold adj at k;obtain⟨l,n⟩:=dT k;have p:=en l;have K:=en n
 by_cases c:d=1
 ·left;rw[c]at a;simp only[BM,aN]at a;obtain⟨m,_⟩:=ez a (by decide);unfold adk at m;obtain⟨b,m⟩:=dT m;obtain⟨i,j⟩:=dT m;have s:=en i;have d3:=en j;exact⟨c,t153 b,by omega,by omega⟩
 ·rw[ik.2 c]at a;simp only[aQ]at a
  by_cases e:d=2
  ·right;left;rw[e]at a;simp only[BM,aN]at a;obtain⟨b,a⟩:=ez a (by decide);exact⟨e,t153 b,a⟩
  ·right;right;rw[ik.2 e]at a;simp only[aQ]at a;unfold qz at a;obtain⟨b,a⟩:=ez a (by decide);unfold adh at b;obtain⟨i,j⟩:=dT b;exact⟨by omega,t153 i,t153 j,a⟩
theorem anv{d g u h r o:Int}{q:Bool}{t f w:Int}{ao bb bR:z}{b0 cl df c_:Int}{c0:A aj}{da:Int}{c1:A aG}(j:lB c0)(i:te c1)(a:jG d g u h r o q t f w ao bb bR b0 cl df c_ c0 da c1=0):ami d c_ c0 da c1:=fun b c=>by
 rcases UH a with⟨e,_⟩|⟨e,_⟩|⟨_,_,_,e⟩
 ·exact absurd e b
 ·exact absurd e c
 ·exact hx _ _ _ _ j i e
theorem Ml:(0:Int)≤0∧(0:Int)≤255:=by decide
theorem u7:aO (L:A Int):=fun _=>Ml
theorem Vl:aO (default:A Int):=fun _=>Ml
theorem u5{a b:A Int}(c:aO a)(d:aO b):aO (A.app a b):=fun i=>by
 show 0≤(cond (Nat.blt i a.n) (a.at' i) (b.at' (i-a.n)))∧(cond (Nat.blt i a.n) (a.at' i) (b.at' (i-a.n)))≤255
 cases Nat.blt i a.n
 ·exact d _
 ·exact c _
theorem aie(x:Int):0≤u8.wrap x∧u8.wrap x≤255:=by
 have h:u8.wrap x=x%256:=rfl;rw[h];omega
theorem Vn(x:Int):aO (A.lit [u8.wrap x]):=fun i=>by
 cases i with
 |zero=>exact aie x
 |succ i=>exact Ml
theorem aC0(s:z):aO (A.ofStr s):=fun i=>by
 show 0≤((s.data.toList.getD i 0).toNat:Int)∧((s.data.toList.getD i 0).toNat:Int)≤255;have:=(s.data.toList.getD i 0).toNat_lt;omega
theorem u6{F:Nat→Int→A Int→A Int}{c:Int→Bool}{e:Int→Int}{st:Int→A Int→A Int}(a: ∀i t,F 0 i t=default)(b: ∀k i t,F (k+1) i t=bif c i then F k (e i) (st i t)else t)(d: ∀i t,aO t→aO (st i t)): ∀k i t,aO t→aO (F k i t)
 |0,i,t,_=>by rw[a];exact Vl
 |k+1,i,t,h=>by
  rw[b]
  cases c i
  ·exact h
  ·exact u6 a b d k _ _ (d i t h)
theorem pC(x:Int){s:A Int}(h:aO s):aO (di x s):=u5 h (Vn x)
theorem l7(x:Int){s:A Int}(h:aO s):aO (bu x s):=by
 unfold bu aao;exact u6 (fun _ _=>rfl) (fun _ _ _=>rfl) (fun i t a=>u5 a (Vn _)) _ _ _ h
theorem q5(x:z){s:A Int}(h:aO s):aO (du x s):=u5 (pC _ h) (aC0 x)
theorem ah7(x:A z){s:A Int}(h:aO s):aO (lK x s):=by
 unfold lK aap;exact u6 (fun _ _=>rfl) (fun _ _ _=>rfl) (fun i t a=>q5 _ a) _ _ _ (pC _ h)
theorem aCV(d:Int)(g:z)(u:Int)(h:A br)(r:A z)(o:A bO){s:A Int}(b:aO s):aO (rZ d g u h r o s):=by
 have c:aO (r0 d g u h s):=by
  unfold r0;exact u6 (fun _ _=>rfl) (fun _ _ _=>rfl) (fun i t a=>q5 _ (q5 _ a)) _ _ _ (pC _ (l7 _ (q5 _ (pC _ b))))
 unfold rZ HO;exact u6 (fun _ _=>rfl) (fun _ _ _=>rfl) (fun i t a=>l7 _ (q5 _ a)) _ _ _ (pC _ (ah7 _ c))
theorem gF(d:Int)(g:A aj)(u:Int)(h:A aG):aO (ni d g u h):=by
 have b:aO (sj d g):=by
  unfold sj;exact u6 (fun _ _=>rfl) (fun _ _ _=>rfl) (fun i t a=>l7 _ (aCV _ _ _ _ _ _ (q5 _ a))) _ _ _ (pC _ (l7 _ u7))
 have c:aO (Ev d g u h):=by
  unfold Ev;exact u6 (fun _ _=>rfl) (fun _ _ _=>rfl) (fun i t a=>ah7 _ (l7 _ (q5 _ (pC _ (l7 _ (l7 _ (l7 _ a))))))) _ _ _ (pC _ (l7 _ b))
 unfold ni
 cases (gA d g u h !=0)
 ·exact c
 ·exact u7
def yJ(s:A (A Int)):Prop:=s.n≤10∧ ∀i,i<s.n→(s.at' i).n≤1000000
theorem Xy{a b c:A Int}(e:a.n≤1000000)(f:b.n≤1000000)(g:c.n≤1000000):yJ (A.lit [a,b,c]):=by
 refine⟨by show 3≤10;omega,fun i d=> ?_⟩;have d:i<3:=d;have:i=0∨i=1∨i=2:=by omega
 rcases this with rfl|rfl|rfl
 ·exact e
 ·exact f
 ·exact g
theorem OP{a b c d:A Int}(f:a.n≤1000000)(g:b.n≤1000000)(h:c.n≤1000000)(j:d.n≤1000000):yJ (A.lit [a,b,c,d]):=by
 refine⟨by show 4≤10;omega,fun i e=> ?_⟩;have e:i<4:=e;have:i=0∨i=1∨i=2∨i=3:=by omega
 rcases this with rfl|rfl|rfl|rfl
 ·exact f
 ·exact g
 ·exact h
 ·exact j
theorem afC(d g:Int)(u:Bool)(h r o:Int)(q t f:z)(w:Int):q.size≤10000000000∧t.size≤10000000000∧f.size≤10000000000→(xb d g u h r o q t f w).n≤40000000000:=fun a=>by
 unfold xb
 cases (hC d g u h r o q t f w !=0)
 ·simp only[aQ];unfold HJ HY Ir
  cases u
  ·simp only[aQ]
   cases decide (h>0)
   ·simp only[aQ,eB,ib,l3];omega
   ·simp only[aN,eB,ib,iD,l3];omega
  ·simp only[aN,eB,ib,l3];omega
 ·simp only[aN,l3];omega
theorem afD(d:Int)(g:A aj)(u:Int)(h:A aG)(a:lB g∧te h):(ni d g u h).n≤28000:=by
 unfold ni
 by_cases e:gA d g u h=0
 ·have b:=hx d g u h a.1 a.2 e;rw[show(gA d g u h !=0)=false by simp [e]];simp only[aQ];rw[←dt,aiO b];exact ayl b
 ·rw[show(gA d g u h !=0)=true by simp [e]];simp only[aN,l3];omega
def Qr(d:A (A Int)):Nat→Int→Int→Int
 |0,_,_=>default
 |k+1,e,m=>(cond (decide (m<(d.n:Int))) (Qr d k (i64.wrap (e+((d.at' (toNat m)).n:Int))) (i64.wrap (m+1))) e)
def ap7(d:A (A Int)):Int:=Qr d ((toNat ((d.n:Int)-0))+1) 0 0
def HU(d:A (A Int)):Nat→Int→A Int→A Int
 |0,_,_=>default
 |k+1,a,b=>(cond (decide (a<(d.n:Int))) (HU d k (i64.wrap (a+1)) (A.app b (d.at' (toNat a)))) b)
def HV(d:A (A Int)):A Int:=HU d ((toNat ((d.n:Int)-0))+1) 0 (L:A Int)
def we(d:A (A Int)):A Int:=(HV d)
def aj6:a6:=⟨[.v (.af VL)],fun d=>⟨⟨some (yJ d),(aB.ae a8).ab (we d)⟩⟩⟩
theorem aeU:bg 117 aj6:=bj Tryz.func117
 fun d C _ c=>bf ⟨.own a8,[.tmp 2],[(.h 0 0,.ae a8)],⟨[],[]⟩⟩ (.ad (.ad (.j ⟨13,[],[],[],.f⟩ (.ad (.cy ⟨3597,[],[],[(.t 3,a),(.t 11,a)],some 0,false,13,[],[(.t 3,a)],fun k (s:Int×Int)=>Qr d k s.1 s.2,.f,fun(s:Int×Int)=>(0≤s.2∧s.2≤(d.n:Int)∧0≤s.1∧s.1≤s.2*1000000),fun(s:Int×Int)=>(toNat ((d.n:Int)-s.2)),some fun(r:Int)=>(0≤r∧r≤10000000)⟩ .z)) (.ad (.j ⟨68,[],[],[],.f⟩ (.ad (.cy ⟨234881092,[],[],[(.t 27,a),(.h 0 0,.ae a8)],some 2,false,68,[],[(.h 0 0,.ae a8)],fun k (s:Int×A Int)=>HU d k s.1 s.2,.f,fun(s:Int×A Int)=>(0≤s.1∧s.1≤(d.n:Int)∧(s.2.n:Int)≤s.1*1000000),fun(s:Int×A Int)=>(toNat ((d.n:Int)-s.1)),none⟩ .z)) .z))))) (let j:=ap7 d;(((0≤(0:Int)∧(0:Int)≤(d.n:Int)∧0≤(0:Int)∧(0:Int)≤(0:Int)*1000000))∧(∀(e:Int) (m:Int),let l:=decide (m<(d.n:Int));let h:=i64.wrap (m+1);let g:=i64.wrap (e+((d.at' (toNat m)).n:Int));(0≤m∧m≤(d.n:Int)∧0≤e∧e≤m*1000000)→((l=true→(((0:Int)≤m∧m<(d.n:Int))∧((decide (g<0))=true→False)))∧((l=true→((decide (g<0))=false→((0≤h∧h≤(d.n:Int)∧0≤g∧g≤h*1000000)∧(toNat ((d.n:Int)-h))<(toNat ((d.n:Int)-m)))))∧(l=false→((0≤e∧e≤10000000)))))))∧(((0≤j∧j≤10000000))→((0≤j∧j≤549755813888)∧(((0≤(0:Int)∧(0:Int)≤(d.n:Int)∧((0:Nat):Int)≤(0:Int)*1000000))∧(∀(b:Int) (f:A Int),let q:=d.at' (toNat b);let p:=decide (b<(d.n:Int));let i:=i64.wrap (b+1);(0≤b∧b≤(d.n:Int)∧(f.n:Int)≤b*1000000)→((p=true→(((0:Int)≤b∧b<(d.n:Int))∧(f.n+q.n≤549755813888)))∧(p=true→((0≤i∧i≤(d.n:Int)∧(((f.n+q.n):Nat):Int)≤i*1000000)∧(toNat ((d.n:Int)-i))<(toNat ((d.n:Int)-b)))))))))) (b4 (aw avP aT)) Tryz.func117 (⟨⟨(by omega),(fun e m z=>⟨(fun n=>⟨(by have:=aq n;omega),(fun u=>(by have:=aq n;have:=aq u;have:=c.2 (toNat m) (by omega);have:=N (e+((d.at' (toNat m)).n:Int));omega))⟩),⟨(fun v=>(fun w=>(by have:=aq v;have:=c.2 (toNat m) (by omega);have:=N (m+1);have:=N (e+((d.at' (toNat m)).n:Int));omega))),(fun x=>(by have:=c.1;omega))⟩⟩)⟩,(fun y=>⟨(by omega),⟨(by omega),(fun b f B=>⟨(fun o=>⟨(by have:=aq o;omega),(by have:=aq o;have:=c.1;have:=c.2 (toNat b) (by omega);omega)⟩),(fun t=>(by have:=aq t;have:=c.2 (toNat b) (by omega);have:=N (b+1);omega))⟩)⟩⟩)⟩)
def j2(d:Int):A Int:=(A.lit ([(u8.wrap (d/2^(toNat 16))),(u8.wrap (d/2^(toNat 8))),(u8.wrap d)]:List Int))
def aj7:a6:=⟨[.v a],fun d=>⟨⟨none,(aB.ae a8).ab (j2 d)⟩⟩⟩
theorem aeV:bg 118 aj7:=bj Tryz.func118
 fun(d:Int)=>bf ⟨.own a8,[.tmp 2],[(.h 0 0,.ae a8)],⟨[],[]⟩⟩ (.z) (((0:Int)≤16∧(16:Int)≤64)∧((0:Int)≤8∧(8:Int)≤64)) e7 Tryz.func118 (⟨(by omega),(by omega)⟩)
theorem ov(d:Int):(j2 d).n=3:=rfl
def k8(d:Int)(g:Int)(u:Int)(h:Int)(r:Int)(o:Int)(q:Bool)(t:Int)(f:Int)(w:Int)(ao:z)(bb:z)(bR:z)(b0:Int)(cl:Int)(df:Int)(c_:Int)(c0:A aj)(da:Int)(c1:A aG):A Int:=(cond (d==1) (A.app (A.app (A.lit ([1]:List Int)) (j2 g)) (A.lit ([(u8.wrap (i64.wrap (u+1)))]:List Int))) (cond (d==2) (A.app (A.app (A.lit ([2]:List Int)) (j2 h)) (xb r o q t f w ao bb bR b0)) (we (A.lit ([(A.lit ([3]:List Int)),(j2 cl),(j2 df),(ni c_ c0 da c1)]:List (A Int))))))
def aj5:a6:=⟨[.g [a,a,a,a,a,a,y,a,a,a,au,au,au,a,a,a,a,.af a_,a,.af bP]],fun(d:Int) (g:Int) (u:Int) (h:Int) (r:Int) (o:Int) q (t:Int) (f:Int) (w:Int) ao bb bR (b0:Int) (cl:Int) (df:Int) (c_:Int) c0 (da:Int) c1=>⟨⟨some (ao.size≤10000000000∧bb.size≤10000000000∧bR.size≤10000000000),(aB.ae a8).ab (k8 d g u h r o q t f w ao bb bR b0 cl df c_ c0 da c1)⟩⟩⟩
theorem avp:bg 116 aj5:=bj Tryz.func116
 fun(d:Int) (g:Int) (u:Int) (h:Int) (r:Int) (o:Int) q (t:Int) (f:Int) (w:Int) ao s bb v bR x (b0:Int) (cl:Int) (df:Int) (c_:Int) c0 y a (da:Int) c1 z b i=>bf ⟨.own a8,[.tmp 2],[(.h 0 0,.ae a8)],⟨[],[]⟩⟩ (.z) ((((d==1)=true→((1+(j2 g).n≤549755813888)∧((1+(j2 g).n)+1≤549755813888)))∧((d==1)=false→((d==2)=true→((ao.size≤10000000000∧bb.size≤10000000000∧bR.size≤10000000000)∧((1+(j2 h).n≤549755813888)∧((1+(j2 h).n)+(xb r o q t f w ao bb bR b0).n≤549755813888))))))∧((d==1)=false→((d==2)=false→(yJ (A.lit ([(A.lit ([3]:List Int)),(j2 cl),(j2 df),(ni c_ c0 da c1)]:List (A Int))))))) (b4 (aw K0 (aw afk (aw aeU (aw aeV aT))))) Tryz.func116 (have⟨m,n,p⟩:=i;have:=vR a;have:=zo b;⟨⟨(fun j=>⟨(by have:=ov g;omega),(by have:=ov g;omega)⟩),(fun k=>(fun l=>⟨(by omega),⟨(by have:=ov h;omega),(by have:=ov h;have:=afC r o q t f w ao bb bR b0;omega)⟩⟩))⟩,(fun c=>(fun e=>(by have:=cU c;have:=cU e;have:=ov cl;have:=ov df;have:=afD c_ c0 da c1 (by repeat first|assumption|apply k3|apply k4|apply lu|apply kt|apply lZ|apply iE|apply kJ|apply lo|apply ln|apply kO|apply kD|apply kE|apply gF|apply lq|apply me|apply ig|apply hp|apply ju|apply And.intro);have:(A.lit ([3]:List Int)).n=1:=rfl;have:(A.lit ([(A.lit ([3]:List Int)),(j2 cl),(j2 df),(ni c_ c0 da c1)]:List (A Int))).n=4:=rfl;(first|exact Xy (by omega) (by omega) (by omega)|exact OP (by omega) (by omega) (by omega) (by omega)|assumption))))⟩)
theorem aiJ(s:A (A Int))(h:yJ s):(we s).B=cat (fun i=>(s.at' i).B) s.n 0:=by
 have a:(HV s).B=(L:A Int).B++cat (fun i=>(s.at' i).B) s.n 0:=
  AX (HU s) s.n 1000000 0 (fun i t=>A.app t (s.at' (toNat i))) (fun i=>(s.at' i).B) (by have:=h.1;omega) (fun _ _ _=>rfl) (fun i t b _=>by
   have:=h.2 i b;simp only[fT];exact⟨oI _ _,by rw[dt];omega⟩) _ (bx _)
 show(HV s).B=_;rw[a,Mv,re]
theorem aiK{a b c d:A Int}(e:a.n≤1000000)(f:b.n≤1000000)(g:c.n≤1000000)(h:d.n≤1000000):(we (A.lit [a,b,c,d])).B=a.B++(b.B++(c.B++d.B)):=by
 rw[aiJ _ (OP e f g h)];show a.B++(b.B++(c.B++(d.B++[])))=_;rw[lz]
theorem axG(d g u h r o:Int)(q:Bool)(t f w:Int)(ao bb bR:z)(b0 cl df c_:Int)(c0:A aj)(da:Int)(c1:A aG)(a:lB c0∧te c1):
  ao.size≤10000000000∧bb.size≤10000000000∧bR.size≤10000000000→(k8 d g u h r o q t f w ao bb bR b0 cl df c_ c0 da c1).n≤50000000000:=fun b=>by
 unfold k8
 cases (d==1)
 ·simp only[aQ]
  cases (d==2)
  ·simp only[aQ];have l:=afD c_ c0 da c1 a;rw[←dt,aiK (by show 1≤_;omega) (by rw[ov];omega) (by rw[ov];omega) (by omega)];simp only[iF,dt,ov,A.ic,fr,hs];omega
  ·have l:=afC r o q t f w ao bb bR b0 b;simp only[aN,A.jd,A.ic,ov,fr,hs];omega
 ·simp only[aN,A.jd,A.ic,ov,fr,hs];omega
section
variable(d:A Int)(g:Int)(u:Int)(h:Int)(r:Int)(o:Int)(q:Int)(t:Int)(f:Bool)(w:Int)(ao:Int)(bb:Int)(bR:z)(b0:z)(cl:z)(df:Int)(c_:Int)(c0:Int)(da:Int)(c1:A aj)(fR:Int)(fS:A aG)
def p8:Bool:=(cond (decide (g<0)) true (cond (decide (g>(d.n:Int))) true (decide ((d.n:Int)>400000))))
def bn:A Int:=(cond (p8 d g) (L:A Int) d)
def jC:Int:=(cond (p8 d g) 0 g)
def gy:Bool:=(cond (p8 d g) false true)
def ai8:a6:=⟨[.g [.af a8,a]],fun d g=>⟨⟨none,.c9 [.agg [aH 1 cQ (bn d g),b (jC d g)],.bool (gy d g)]⟩⟩⟩
theorem KT:bg 108 ai8:=bj Tryz.func108
 fun d _ _ (g:Int)=>bf ⟨.pure,[.cell 2 85,.tmp 3],[(.c 0 0,.af a8),(.c 0 1,a),(.t 1,y)],⟨[.agg (us 2 []),U],[]⟩⟩ (.ad (.s (.j ⟨1048590,[],[(.t 20,y)],[],.f⟩ .z .z) .z)) True (b4 (aw aeR aT)) Tryz.func108 (trivial)
theorem qB(d:A Int)(g:Int)(h:gy d g=true):(0≤jC d g∧jC d g≤((bn d g).n:Int))∧(bn d g).n≤400000:=by
 unfold gy at h
 cases a:p8 d g with
 |true=>rw[a]at h;simp at h
 |false=>
  simp only[jC,bn,a,aQ];simp [p8]at a;omega
theorem kR{d:A Int}{g:Int}(h:aO d):aO (bn d g):=by
 unfold bn
 cases p8 d g
 ·exact h
 ·exact fun _=>⟨dp 0,(by decide:(0:Int)≤255)⟩
def JS:A Int:=(cond (!(gy d g)) (L:A Int) (cond ((jG u h r o q t f w ao bb bR b0 cl df c_ c0 da c1 fR fS)!=0) (L:A Int) (cond (decide ((i64.wrap ((i64.wrap (((bn d g).n:Int)+3))+(((k8 u h r o q t f w ao bb bR b0 cl df c_ c0 da c1 fR fS).n:Nat):Int)))>400000)) (L:A Int) (we (A.lit ([(bn d g),(j2 (((k8 u h r o q t f w ao bb bR b0 cl df c_ c0 da c1 fR fS).n:Nat):Int)),(k8 u h r o q t f w ao bb bR b0 cl df c_ c0 da c1 fR fS)]:List (A Int)))))))
def adm:Int:=(cond (!(gy d g)) 0 (cond ((jG u h r o q t f w ao bb bR b0 cl df c_ c0 da c1 fR fS)!=0) 0 (cond (decide ((i64.wrap ((i64.wrap (((bn d g).n:Int)+3))+(((k8 u h r o q t f w ao bb bR b0 cl df c_ c0 da c1 fR fS).n:Nat):Int)))>400000)) 0 (jC d g))))
def Ew:Int:=let a:=jG u h r o q t f w ao bb bR b0 cl df c_ c0 da c1 fR fS;(cond (!(gy d g)) 13 (cond (a !=0) a (cond (decide ((i64.wrap ((i64.wrap (((bn d g).n:Int)+3))+(((k8 u h r o q t f w ao bb bR b0 cl df c_ c0 da c1 fR fS).n:Nat):Int)))>400000)) 6 0)))
def al2:a6:=⟨[.g [.af a8,a],.g [a,a,a,a,a,a,y,a,a,a,au,au,au,a,a,a,a,.af a_,a,.af bP]],fun d (g:Int) (u:Int) (h:Int) (r:Int) (o:Int) (q:Int) (t:Int) f (w:Int) (ao:Int) (bb:Int) bR b0 cl (df:Int) (c_:Int) (c0:Int) (da:Int) c1 (fR:Int) fS=>⟨⟨some (bR.size≤10000000000∧b0.size≤10000000000∧cl.size≤10000000000),.c9 [.agg [aH 1 cQ (JS d g u h r o q t f w ao bb bR b0 cl df c_ c0 da c1 fR fS),b (adm d g u h r o q t f w ao bb bR b0 cl df c_ c0 da c1 fR fS)],b (Ew d g u h r o q t f w ao bb bR b0 cl df c_ c0 da c1 fR fS)]⟩⟩⟩
theorem awI:bg 103 al2:=bj Tryz.func103
 fun d v _ (g:Int) (u:Int) (h:Int) (r:Int) (o:Int) (q:Int) (t:Int) f (w:Int) (ao:Int) (bb:Int) bR x b0 y cl z (df:Int) (c_:Int) (c0:Int) (da:Int) c1 B c (fR:Int) fS C e l=>bf ⟨.pure,[.cell 4 85,.tmp 5],[(.c 0 0,.af a8),(.c 0 1,a),(.t 1,a)],⟨[.agg (us 2 []),U],[]⟩⟩ (.z) (let b:=k8 u h r o q t f w ao bb bR b0 cl df c_ c0 da c1 fR fS;(!(gy d g))=false→(((jG u h r o q t f w ao bb bR b0 cl df c_ c0 da c1 fR fS)!=0)=false→((bR.size≤10000000000∧b0.size≤10000000000∧cl.size≤10000000000)∧((decide ((i64.wrap ((i64.wrap (((bn d g).n:Int)+3))+(b.n:Int)))>400000))=false→(yJ (A.lit ([(bn d g),(j2 (b.n:Int)),b]:List (A Int)))))))) (b4 (aw Tf (aw KT (aw avp (aw aeU (aw aeV aT)))))) Tryz.func103 (have⟨n,p,s⟩:=l;have:=vR c;have:=zo e;(fun i=>(fun j=>⟨(by omega),(fun k=>(by have:=qB _ _ (by simpa using i);have m:=anv (by first|assumption|exact h0.z (by assumption)) (by first|assumption|exact hZ.y (by assumption)) (bE j);have:=dQ k;have:=ov (((k8 u h r o q t f w ao bb bR b0 cl df c_ c0 da c1 fR fS).n:Nat):Int);have:=axG u h r o q t f w ao bb bR b0 cl df c_ c0 da c1 fR fS (by repeat first|assumption|apply k3|apply k4|apply lu|apply kt|apply lZ|apply iE|apply kJ|apply lo|apply ln|apply kO|apply kD|apply kE|apply gF|apply lq|apply me|apply ig|apply hp|apply ju|apply And.intro);have:(A.lit ([(bn d g),(j2 (((k8 u h r o q t f w ao bb bR b0 cl df c_ c0 da c1 fR fS).n:Nat):Int)),(k8 u h r o q t f w ao bb bR b0 cl df c_ c0 da c1 fR fS)]:List (A Int))).n=3:=rfl;have:=N (((bn d g).n:Int)+3);have:=N ((i64.wrap (((bn d g).n:Int)+3))+(((k8 u h r o q t f w ao bb bR b0 cl df c_ c0 da c1 fR fS).n:Nat):Int));(first|exact Xy (by omega) (by omega) (by omega)|exact OP (by omega) (by omega) (by omega) (by omega)|assumption)))⟩)))
end
section
variable(d:A Int)(g:Int)(u:Int)
def I8:A Int:=(cond (!(gy d g)) (L:A Int) (bn d g))
def acu:Int:=(cond (!(gy d g)) 0 ((bn d g).n:Int))
def aqR:Int:=(cond (!(gy d g)) 13 0)
def ala:a6:=⟨[.g [.af a8,a]],fun d g=>⟨⟨none,.c9 [.agg [aH 1 cQ (I8 d g),b (acu d g)],b (aqR d g)]⟩⟩⟩
theorem awo:bg 96 ala:=bj Tryz.func96
 fun d _ _ (g:Int)=>bf ⟨.pure,[.cell 2 85,.tmp 3],[(.c 0 0,.af a8),(.c 0 1,a),(.t 1,a)],⟨[.agg (us 2 []),U],[]⟩⟩ (.z) True (b4 (aw KT aT)) Tryz.func96 (trivial)
def fO:A Int:=(cond (!(gy d g)) (L:A Int) (cond (decide (u<0)) (L:A Int) (A.part (bn d g) 0 (i64.wrap ((jC d g)+(eU u (i64.wrap (((bn d g).n:Int)- (jC d g)))))))))
def gO:Int:=(cond (!(gy d g)) 0 (cond (decide (u<0)) 0 (i64.wrap ((jC d g)+(eU u (i64.wrap (((bn d g).n:Int)- (jC d g))))))))
def aqZ:Int:=(cond (!(gy d g)) 13 (cond (decide (u<0)) 2 0))
def alG:a6:=⟨[.g [.af a8,a],.v a],fun d g u=>⟨⟨none,.c9 [.agg [aH 1 cQ (fO d g u),b (gO d g u)],b (aqZ d g u)]⟩⟩⟩
theorem awE:bg 97 alG:=bj Tryz.func97
 fun d f _ (g:Int) (u:Int)=>bf ⟨.pure,[.cell 4 85,.tmp 5],[(.c 0 0,.af a8),(.c 0 1,a),(.t 1,a)],⟨[.agg (us 2 []),U],[]⟩⟩ (.z) (let b:=i64.wrap ((jC d g)+(eU u (i64.wrap (((bn d g).n:Int)- (jC d g)))));(!(gy d g))=false→((decide (u<0))=false→(((0:Int)≤0)∧((0:Int)≤b)∧((b:Int)≤b)∧((b:Int)≤(((bn d g).n:Nat):Int))))) (b4 (aw KT aT)) Tryz.func97 ((fun c=>(fun e=>(by have:=qB _ _ (by simpa using c);have:=dQ e;have:=lY u (i64.wrap (((bn d g).n:Int)- (jC d g)));have:=N (((bn d g).n:Int)- (jC d g));have:=N ((jC d g)+(eU u (i64.wrap (((bn d g).n:Int)- (jC d g)))));omega))))
end
structure kZ (x:aI):Prop where
 yn:x.ax.size≤10000000000
 yo:x.aF.size≤10000000000
 yp:x.i.size≤10000000000
structure oQ (r:b7):Prop where
 aBu:r.cG.size≤10000000000
 aBv:r.cZ.size≤10000000000
 aBx:r.cJ.size≤10000000000
theorem lo(a b c d:Int):oQ ⟨a,b,c,d,0,0,false,0,0,0,⟨#[]⟩,⟨#[]⟩,⟨#[]⟩,0,0,0,0,L,0,L⟩:=⟨cA _,cA _,cA _⟩
theorem ln{a b c i d g:Int}{u:Bool}{h r o:Int}{q t f:z}{w:Int}(e:kZ ⟨d,g,u,h,r,o,q,t,f,w⟩):oQ ⟨a,b,c,i,d,g,u,h,r,o,q,t,f,w,0,0,0,L,0,L⟩:=⟨e.yn,e.yo,e.yp⟩
theorem kO{a b c d e f g:Int}{s:A aj}{k:Int}{l:A aG} :oQ ⟨a,b,c,d,0,0,false,0,0,0,⟨#[]⟩,⟨#[]⟩,⟨#[]⟩,0,e,f,g,s,k,l⟩:=⟨cA _,cA _,cA _⟩
theorem GU{α:Type}{s:A α}(c:Bool)(a b:A α)(h:s=bif c then a else b):s.n=a.n∨s.n=b.n:=by
 subst h
 cases c
 ·exact .inr rfl
 ·exact .inl rfl
section
variable(i:Nat)(Z:H)
def ck:Int:=(lf Z.l Z.lt Z.li)
def tV:Int:=(ac1 Z.l Z.lt Z.li)
def MS:db:=⟨[.e9 0 (33*i)],b8,eL,er,cB fun C=>⟨⟨none,[b (ck (C.Z i)),b (tV (C.Z i))],cj aK 0 C⟩⟩⟩
def ama:cI:=⟨.eA true [] [] (gj i aK 0 [0,0] 2) (gi i aK),[.tmp 2,.tmp 3],[(.t 0,a),(.t 1,a)]++fy i aK,⟨[],[]⟩⟩
theorem aw7(i:Nat)(a:i<3):eP Tryz.prog 57 (MS i) b8 [] (cB fun C=>⟨⟨none,[b (ck (C.Z i)),b (tV (C.Z i))],cj aK 0 C⟩⟩) []:=by
 refine gg fun C c=>ei (ama i) (.z) True (bK 10 (aw afd aT) bJ) Tryz.func57 [] ?_ ?_ trivial
 ·rcases b3 a with rfl|rfl|rfl<;>kernel_rfl
 ·rcases b3 a with rfl|rfl|rfl<;>kernel_rfl
theorem azT(i:Nat)(a:i<3):fV 57 (MS i):=
 aw7 i a
theorem xQ(i:Nat)(a:i<3):fW 57 (MS i):=gq gf Tryz.func57 (azT i a)
def hk:Int:=(tV Z)
def Nc:db:=⟨[.e9 0 (33*i)],b8,eL,er,cB fun C=>⟨⟨none,[b (hk (C.Z i))],cj aK 0 C⟩⟩⟩
def Wk:cI:=⟨.eA true [] [] (gj i aK 0 [0] 1) (gi i aK),[.tmp 2],[(.t 0,a)]++fy i aK,⟨[],[]⟩⟩
def arR(C:ak):cm (Wk i).b_:=(.ad (.ad (.bU ⟨([U,U,b 0,U,b (tV (C.Z i))]++(us 6 ([]))),cn aK 0 C []⟩ .z)))
theorem axo(i:Nat)(a:i<3):eP Tryz.prog 86 (Nc i) b8 [] (cB fun C=>⟨⟨none,[b (hk (C.Z i))],cj aK 0 C⟩⟩) []:=by
 refine gg fun C c=>ei (Wk i) (arR i C) True (bK 10 aT (av (xQ i a) bJ)) Tryz.func86 [] ?_ ?_ trivial
 ·rcases b3 a with rfl|rfl|rfl<;>kernel_rfl
 ·rcases b3 a with rfl|rfl|rfl<;>kernel_rfl
theorem aAa(i:Nat)(a:i<3):fV 86 (Nc i):=
 axo i a
theorem awj(i:Nat)(a:i<3):fW 86 (Nc i):=gq gf Tryz.func86 (aAa i a)
end
section
variable(i:Nat)(rc:b7)(Z:H)
def gN:Bool:=(cond ((Ew Z.bd Z.bh rc.j rc.ai rc.K rc.an rc.p rc.v rc.ax rc.aF rc.i rc.aP rc.cG rc.cZ rc.cJ rc.dh rc.b1 rc.gv rc.kp rc.jx rc.kq rc.jy)!=0) false true)
def Ed:A Int:=(cond ((Ew Z.bd Z.bh rc.j rc.ai rc.K rc.an rc.p rc.v rc.ax rc.aF rc.i rc.aP rc.cG rc.cZ rc.cJ rc.dh rc.b1 rc.gv rc.kp rc.jx rc.kq rc.jy)!=0) Z.bd (JS Z.bd Z.bh rc.j rc.ai rc.K rc.an rc.p rc.v rc.ax rc.aF rc.i rc.aP rc.cG rc.cZ rc.cJ rc.dh rc.b1 rc.gv rc.kp rc.jx rc.kq rc.jy))
def Q8:Int:=(cond ((Ew Z.bd Z.bh rc.j rc.ai rc.K rc.an rc.p rc.v rc.ax rc.aF rc.i rc.aP rc.cG rc.cZ rc.cJ rc.dh rc.b1 rc.gv rc.kp rc.jx rc.kq rc.jy)!=0) Z.bh (adm Z.bd Z.bh rc.j rc.ai rc.K rc.an rc.p rc.v rc.ax rc.aF rc.i rc.aP rc.cG rc.cZ rc.cJ rc.dh rc.b1 rc.gv rc.kp rc.jx rc.kq rc.jy))
def h_:H:={Z with bd:=(Ed rc Z),bh:=(Q8 rc Z)}
def Nd:db:=⟨[.e9 0 (33*i),.g [a,a,a,a,a,a,y,a,a,a,au,au,au,a,a,a,a,.af a_,a,.af bP]],b8,eL,er,fun(b:Int) (c:Int) (o:Int) (p:Int) (q:Int) (r:Int) s (t:Int) (u:Int) (v:Int) d e f (g:Int) (h:Int) (j:Int) (k:Int) l (m:Int) n=>cB fun C=>⟨⟨some (oQ (⟨b,c,o,p,q,r,s,t,u,v,d,e,f,g,h,j,k,l,m,n⟩:b7)),[.bool (gN (⟨b,c,o,p,q,r,s,t,u,v,d,e,f,g,h,j,k,l,m,n⟩:b7) (C.Z i))],cj aK 0 (C.set i (h_ (⟨b,c,o,p,q,r,s,t,u,v,d,e,f,g,h,j,k,l,m,n⟩:b7) (C.Z i)))⟩⟩⟩
def amf:cI:=⟨.eA true [] [] (gj i aK 0 [0] 1) (gi i aK),[.tmp 4],[(.t 0,y)]++fy i aK,⟨[],[]⟩⟩
def Up(i:Nat)(rc:b7)(C:ak):Prop:=(rc.cG.size≤10000000000∧rc.cZ.size≤10000000000∧rc.cJ.size≤10000000000)
theorem azt(i:Nat)(d:i<3)(rc:b7)(C:ak)(c:ey C)(e:rc.cG.size≤549755813888)(f:rc.cZ.size≤549755813888)(g:rc.cJ.size≤549755813888)(h:rc.jx.n≤549755813888)(j:rc.jy.n≤549755813888)(a:oQ rc):Up i rc C:=by
 have b:=gQ c i d;unfold fv at b;unfold Up;exact have:=a.aBu;have:=a.aBv;have:=a.aBx;((by omega))
theorem axp(i:Nat)(a:i<3)(rc:b7)(e:rc.cG.size≤549755813888)(f:rc.cZ.size≤549755813888)(g:rc.cJ.size≤549755813888)(h:rc.jx.n≤549755813888)(j:rc.jy.n≤549755813888):eP Tryz.prog 87 (Nd i) b8 [] (cB fun C=>⟨⟨some (oQ rc),[.bool (gN rc (C.Z i))],cj aK 0 (C.set i (h_ rc (C.Z i)))⟩⟩) [b rc.j,b rc.ai,b rc.K,b rc.an,b rc.p,b rc.v,.bool rc.ax,b rc.aF,b rc.i,b rc.aP,.str rc.cG,.str rc.cZ,.str rc.cJ,b rc.dh,b rc.b1,b rc.gv,b rc.kp,aH 8 fZ rc.jx,b rc.kq,aH 7 gK rc.jy]:=by
 refine gg fun C c=>fun d=>ei (amf i) (.z) (Up i rc C) (bK 10 (aw awI aT) bJ) Tryz.func87 ([.f]++List.replicate 29 .l++[.f,.f]++List.replicate 71 .l) ?_ ?_ (azt i a rc C c e f g h j d)
 ·rcases b3 a with rfl|rfl|rfl<;>kernel_rfl
 ·rcases b3 a with rfl|rfl|rfl<;>kernel_rfl
theorem aAb(i:Nat)(c:i<3):fV 87 (Nd i):=
 jv (bp:=[a,a,a,a,a,a,y,a,a,a,au,au,au,a,a,a,a,.af a_,a,.af bP]) fun s b=>Eq.mp (by rcases b3 c with rfl|rfl|rfl<;>kernel_rfl) (axp i c ⟨s.1,s.2.1,s.2.2.1,s.2.2.2.1,s.2.2.2.2.1,s.2.2.2.2.2.1,s.2.2.2.2.2.2.1,s.2.2.2.2.2.2.2.1,s.2.2.2.2.2.2.2.2.1,s.2.2.2.2.2.2.2.2.2.1,s.2.2.2.2.2.2.2.2.2.2.1,s.2.2.2.2.2.2.2.2.2.2.2.1,s.2.2.2.2.2.2.2.2.2.2.2.2.1,s.2.2.2.2.2.2.2.2.2.2.2.2.2.1,s.2.2.2.2.2.2.2.2.2.2.2.2.2.2.1,s.2.2.2.2.2.2.2.2.2.2.2.2.2.2.2.1,s.2.2.2.2.2.2.2.2.2.2.2.2.2.2.2.2.1,s.2.2.2.2.2.2.2.2.2.2.2.2.2.2.2.2.2.1,s.2.2.2.2.2.2.2.2.2.2.2.2.2.2.2.2.2.2.1,s.2.2.2.2.2.2.2.2.2.2.2.2.2.2.2.2.2.2.2.1⟩ (b.2.2.2.2.2.2.2.2.2.2.1 rfl) (b.2.2.2.2.2.2.2.2.2.2.2.1 rfl) (b.2.2.2.2.2.2.2.2.2.2.2.2.1 rfl) (b.2.2.2.2.2.2.2.2.2.2.2.2.2.2.2.2.2.1 rfl) (b.2.2.2.2.2.2.2.2.2.2.2.2.2.2.2.2.2.2.2.1 rfl))
theorem Fb(i:Nat)(a:i<3):fW 87 (Nd i):=gq gf Tryz.func87 (aAb i a)
end
section
variable(i:Nat)(Z:H)(E:A O)
def IZ(e:Int)(m:A O):A O:=(cond (decide ((m.n:Int)<300)) (A.app m (A.lit ([(Z.bS.at' (toNat e))]:List O))) m)
def D8(Z:H):Nat→Int→A O→A O
 |0,_,_=>default
 |k+1,e,m=>(cond (decide (e<(Z.bS.n:Int))) (D8 Z k (i64.wrap (e+1)) (IZ Z e m)) m)
def aqL:A O:=D8 Z ((toNat ((Z.bS.n:Int)-0))+1) 0 E
def D7:A O:=(aqL Z E)
def wL:H:={Z with bd:=(I8 Z.bd Z.bh),bh:=(acu Z.bd Z.bh),bS:=(L:A O)}
def M_:db:=⟨[.p 0,.e9 0 (33*i)],b8,eL,er,cB fun C=>⟨⟨none,[],cj (aK.set (2*i+1) 10) 1 (C.put i (wL (C.Z i)) (D7 (C.Z i) C.s) C.told C.a2)⟩⟩⟩
def Wi:cI:=⟨.eA true [] [.kill (2*i+2),.own (.h 0 (33*i+32)) ca 10] (gj i (aK.set (2*i+1) 10) 1 [] 0) (gi i (aK.set (2*i+1) 10)),[],[]++fy i (aK.set (2*i+1) 10),⟨[],[]⟩⟩
def arP(C:ak):cm (Wi i).b_:=(.ad (.j ⟨2,[],[],[],.f⟩ (.ad (.cy ⟨7340035,[],[],[(.t 22,a),(.h 7 0,.ae ca)],some 0,false,2,[],[(.h 7 0,.ae ca)],fun k (s:Int×A O)=>D8 (C.Z i) k s.1 s.2,.f,fun(s:Int×A O)=>((0≤s.1∧s.1≤(((C.Z i).bS.n:Nat):Int))∧(s.2.n:Int)≤C.s.n+(s.1-0)),fun(s:Int×A O)=>(toNat ((((C.Z i).bS.n:Nat):Int)-s.1)),some fun(r:A O)=>(r.n:Int)≤C.s.n+max ((((C.Z i).bS.n:Nat):Int)-0) 0⟩ (.ad (.ad (.j ⟨3757047843,[.b 11],[(.h 7 0,.ae ca)],[],.f⟩ .z .z))))) .z))
def Um(i:Nat)(C:ak):Prop:=((((0≤(0:Int)∧(0:Int)≤(((C.Z i).bS.n:Nat):Int))∧(C.s.n:Int)≤C.s.n+((0:Int)-0)))∧(∀(e:Int) (m:A O),((0≤e∧e≤(((C.Z i).bS.n:Nat):Int))∧(m.n:Int)≤C.s.n+(e-0))→(((decide (e<(((C.Z i).bS.n:Nat):Int)))=true→((((0:Int)≤e∧e<(((C.Z i).bS.n:Nat):Int))∧((toNat e)<(C.Z i).bS.n))∧((decide ((m.n:Int)<300))=true→(m.n+1≤549755813888))))∧(((decide (e<(((C.Z i).bS.n:Nat):Int)))=true→(((0≤(i64.wrap (e+1))∧(i64.wrap (e+1))≤(((C.Z i).bS.n:Nat):Int))∧(((IZ (C.Z i) e m).n:Nat):Int)≤C.s.n+((i64.wrap (e+1))-0))∧(toNat ((((C.Z i).bS.n:Nat):Int)- (i64.wrap (e+1))))<(toNat ((((C.Z i).bS.n:Nat):Int)-e))))∧((decide (e<(((C.Z i).bS.n:Nat):Int)))=false→((m.n:Int)≤C.s.n+max ((((C.Z i).bS.n:Nat):Int)-0) 0))))))
theorem azq(i:Nat)(h:i<3)(C:ak)(f:ey C):Um i C:=by
 have d:=gQ f i h;unfold fv at d;unfold Um;exact(⟨(by omega),(fun e m k=>⟨(fun a=>⟨⟨(by have:=aq a;omega),(by have:=aq a;omega)⟩,(fun b=>(by have:=aq b;omega))⟩),⟨(fun c=>(by have:=aq c;have g:=GU (s:=(IZ (C.Z i) e m)) _ _ _ rfl;(try simp only[A.jd,A.ic,A.ll,fr,hs]at g);have:=N (e+1);omega)),(fun j=>(by omega))⟩⟩)⟩)
theorem axl(i:Nat)(a:i<3):eP Tryz.prog 73 (M_ i) b8 [] (cB fun C=>⟨⟨none,[],cj (aK.set (2*i+1) 10) 1 (C.put i (wL (C.Z i)) (D7 (C.Z i) C.s) C.told C.a2)⟩⟩) []:=by
 refine gg fun C b=>ei (Wi i) (arP i C) (Um i C) (bK 10 (aw awo aT) bJ) Tryz.func73 [] ?_ ?_ (azq i a C b)
 ·rcases b3 a with rfl|rfl|rfl<;>kernel_rfl
 ·rcases b3 a with rfl|rfl|rfl<;>kernel_rfl
theorem az8(i:Nat)(a:i<3):fV 73 (M_ i):=
 axl i a
theorem awf(i:Nat)(a:i<3):fW 73 (M_ i):=gq gf Tryz.func73 (az8 i a)
end
theorem kJ{t u a b c k:Int}{d:Bool}{e f g:z}(h:e.size≤10000000000)(i:f.size≤10000000000)(j:g.size≤10000000000):kZ ⟨t,u,d,a,b,c,e,f,g,k⟩:=⟨h,i,j⟩
section
variable(d:Int)(u:z)(h:z)(r:Int)(o:Int)(q:z)(t:Int)(f:A br)(w:A z)(ao:A bO)
def tD:Int:=(cond (d==1) n6 (cond (d==2) 0 (cond (d==3) (cond (!(j1 (i64.wrap (t+r)))) (qa 7) n6) (cond (d==17) n6 (cond (d==18) 0 (cond (o==3) (abt d u f) (cond (o==4) (aby d w) (cond (o==5) (abD d h w) (abI d h ao)))))))))
def aaJ:z:=(cond (d==1) n7 (cond (d==2) q (cond (d==3) (cond (!(j1 (i64.wrap (t+r)))) r1 n7) (cond (d==17) n7 (cond (d==18) ⟨#[]⟩ (cond (o==3) (abu d u f) (cond (o==4) (abz d w) (cond (o==5) (abE d h w) (abJ d h ao)))))))))
def aaK:Int:=let a:=i64.wrap (t+r);(cond (d==1) (mn 0) (cond (d==2) 0 (cond (d==3) (cond (!(j1 a)) r2 (mn a)) (cond (d==17) (mn (lJ f w ao)) (cond (d==18) 0 (cond (o==3) (abv d u f) (cond (o==4) (abA d w) (cond (o==5) (abF d h w) (abK d h ao)))))))))
def aaL:A z:=(cond (d==1) n8 (cond (d==2) (L:A z) (cond (d==3) (cond (!(j1 (i64.wrap (t+r)))) r3 n8) (cond (d==17) n8 (cond (d==18) (abr f w ao) (cond (o==3) (abw d u f) (cond (o==4) (abB d w) (cond (o==5) (abG d h w) (abL d h ao)))))))))
def Qs:Int:=(cond (d==1) 1 o)
def aaM:z:=(cond (d==1) h q)
def aaN:Int:=let a:=i64.wrap (t+r);(cond (d==1) 0 (cond (d==2) t (cond (d==3) (cond (!(j1 a)) t a) t)))
def Qt:A br:=(cond (d==1) (L:A br) (cond (d==2) f (cond (d==3) f (cond (d==17) f (cond (d==18) f (cond (o==3) (abx d u h f) f))))))
def Qu:A z:=(cond (d==1) (L:A z) (cond (d==2) w (cond (d==3) w (cond (d==17) w (cond (d==18) w (cond (o==3) w (cond (o==4) (abC d h w) (cond (o==5) (abH d h w) w))))))))
def Qv:A bO:=(cond (d==1) (L:A bO) (cond (d==2) ao (cond (d==3) ao (cond (d==17) ao (cond (d==18) ao (cond (o==3) ao (cond (o==4) ao (cond (o==5) ao (abM d h r ao)))))))))
def akb:b5:=⟨[.p 0,.g [a,au,au,au,a]],[(.h 0 0,a),(.h 0 1,au),(.h 0 2,a),(.h 1 0,.ae cX),(.h 2 0,.ae bL),(.h 3 0,.ae cO)],[[U,U,U,.own 1 0,.own 2 0,.own 3 0],[U],[U],[U]],fun(d:Int) _ u h (r:Int) (o:Int) q (t:Int) f w ao=>⟨⟨some (f.n≤1000000∧w.n≤1000000∧ao.n≤1000000∧(o≠4∨(7≤d∧d≤8)∨1≤w.n)),[.agg [b (tD d u h r o t f w ao),.str (aaJ d u h r o q t f w ao),b (aaK d u h r o t f w ao),aH 1 cK (aaL d u h r o t f w ao)]],[[b (Qs d o),.str (aaM d h q),b (aaN d r t),aH 2 fz (Qt d u h o f),aH 1 cK (Qu d h o w),aH 2 fA (Qv d h r o ao)],[dn],[dn],[dn]]⟩⟩⟩
theorem avt:dB 192 akb:=dI Tryz.func192
 fun(d:Int) g I u K h L (r:Int) (o:Int) q M (t:Int) f N w O ao J c=>dA (ms:=[.f,.f,.f,.f,(.b .f .l),(.b .f .l),(.b .f (.b .f (.b .f .l))),(.b .f (.b .f (.b .l (.b .f (.b .f (.b .f .l)))))),(.b .f (.b .f (.b .l .f))),(.b .f (.b .f (.b .l .f)))]) ⟨.lh true [] [.k2 (.h 0 3) cX,.kill 1,.k2 (.h 0 4) bL,.kill 2,.k2 (.h 0 5) cO,.kill 3],[.cell 4 99],[(.c 0 0,a),(.c 0 1,au),(.c 0 2,a),(.c 0 3,.af bL),(.h 0 0,a),(.h 0 1,au),(.h 0 2,a),(.h 0 3,.af cX),(.h 0 4,.af bL),(.h 0 5,.af cO)],⟨[.agg [U,U,U,U]],[[U,U,U,U,U,U],[dn],[dn],[dn]]⟩⟩ (.z) (((d==1)=false→((d==2)=false→((d==3)=false→((d==17)=false→((d==18)=true→(f.n≤100000000000∧w.n≤100000000000∧ao.n≤100000000000))))))∧((d==1)=false→((d==2)=false→((d==3)=false→((d==17)=false→((d==18)=false→((((o==3)=true→(f.n≤1000000))∧((o==3)=false→(((o==4)=true→(w.n≤1000000∧((7≤d∧d≤8)∨1≤w.n)))∧((o==4)=false→((o==5)=true→(w.n≤1000000))))))∧((o==3)=false→((o==4)=false→((o==5)=false→(ao.n≤1000000))))))))))) (bK 4 (aw KU (aw S0 (aw AR (aw Fa (aw avQ aT))))) (av avR (av avS (av avT (av avU bJ))))) Tryz.func192 (have⟨E,F,G,H⟩:=c;⟨(fun e=>(fun v=>(fun x=>(fun y=>(fun z=>(by omega)))))),(fun A=>(fun B=>(fun C=>(fun D=>(fun i=>⟨⟨(fun j=>(by omega)),(fun k=>⟨(fun b=>(by have:=eq_of_beq b;omega)),(fun l=>(fun m=>(by omega)))⟩)⟩,(fun n=>(fun p=>(fun s=>(by omega))))⟩)))))⟩)
end
structure amm (d:Int) (g:z) (u:Int) (UP:A br) (UQ:A z) (UR:A bO):Prop where
 k:1≤d∧d≤6
 t:d≠1→g=⟨#[]⟩
 i:d≠2→u=0
 a3:d≠3→UP.n=0
 a4:d≠4→d≠5→UQ.n=0
 hg:d≠6→UR.n=0
 je:d=3→1≤UP.n∧UP.n≤20
 mb:d=4∨d=5→1≤UQ.n∧UQ.n≤20
 lE:d=6→1≤UR.n∧UR.n≤20
theorem WV{x:z}(h:(!(x.toList==(⟨#[]⟩:z).toList))=false):x=⟨#[]⟩:=by
 have h:x.toList=(⟨#[]⟩:z).toList:=by simpa using h
 have a:x.data.toList=[]:=by
  have e: ∀y:z,y.toList=y.data.toList:=fun y=>ByteArray.toList_eq y;rw[e,e]at h;exact h
 cases x with
 |mk d=>cases d with
  |mk l=>simp at a;subst a;rfl
theorem aBD(d:Int)(g:z)(u:Int)(b:A br)(c:A z)(f:A bO)(t:b.n≤1048576)(v:c.n≤1048576)(w:f.n≤1048576)(h:mz d g u b c f=0):amm d g u b c f:=by
 unfold mz at h;obtain⟨m,h⟩:=ez h (by decide);obtain⟨a,h⟩:=ez h (by decide);obtain⟨l,_⟩:=ez h (by decide);unfold ur at m;obtain⟨o,p⟩:=dT m;have B:=en o;have K:=en p;unfold si ac2 ac3 JM JN JO at a;obtain⟨n,a⟩:=dT a;obtain⟨i,a⟩:=dT a;unfold uu at l;have k:d=1∨d=2∨d=3∨d=4∨d=5∨d=6:=by omega
 have C:(L:A br).n=0:=rfl;have D:(L:A z).n=0:=rfl;have E:(L:A bO).n=0:=rfl;have a:=en a;have q:3≤d→ ¬(lJ b c f<1)∧ ¬(lJ b c f>20):=fun j=>by
  rw[bT (show d≥3 by omega)]at l;obtain⟨r,s⟩:=dT l;exact⟨en r,en s⟩
 rw[Vc _ _ _ t v w]at q;have x:d≠1→g=⟨#[]⟩:=fun j=>by
  rw[show(d==1)=false from ik.2 j]at n;exact WV n
 have y:d≠2→u=0:=fun j=>by
  rw[show(d==2)=false from ik.2 j]at i;have i:=bE i;revert i
  cases (d==1)<;>exact id
 rcases k with e|e|e|e|e|e<;>subst e<;>
 simp only[BM,Int.reduceBEq,aN,aQ]at a<;>
 rw[Vc _ _ _ (by omega) (by omega) (by omega)]at a<;>
 exact⟨by omega,x,y,by omega,by omega,by omega,by omega,by omega,by omega⟩
section
variable(d:Int)(g:z)(u:Int)(h:A br)(r:A z)(o:A bO)(q:Int)(t:z)(f:z)(w:z)(ao:Int)
def zu:Bool:=(cond (d==0) (cond ((g:z).toList==(⟨#[]⟩:z).toList) (cond (u==0) ((lJ h r o)==0) false) false) false)
def lI:Bool:=(cond ((mz d g u h r o)!=0) (!(zu d g u h r o)) false)
def PW:Bool:=(cond (zu d g u h r o) (!(zO q)) false)
def Zh:Bool:=(cond ((zN q)!=0) ((zN q)!=d) false)
def apD:Bool:=(cond (decide (q≥17)) (decide (d<3)) false)
def apE:Bool:=(cond (Zh d q) (Zh d q) (apD d q))
def jZ:Int:=(cond (zu d g u h r o) (zN q) (zL d))
def m2:Bool:=(cond (PW d g u h r o q) false (cond (zu d g u h r o) true (cond (apE d q) false true)))
def zv:Bool:=let a:=jZ d g u h r o q;(cond (decide ((Qs q a)≥3)) ((lJ (Qt q f w a h) (Qu q w a r) (Qv q w ao a o))==0) false)
def apx:Int:=(cond (zv d g u h r o q f w ao) 0 (Qs q (jZ d g u h r o q)))
def apy:z:=(cond (zv d g u h r o q f w ao) ⟨#[]⟩ (aaM q w (zM g)))
def apz:Int:=(cond (zv d g u h r o q f w ao) 0 (aaN q ao (lL u)))
def apA:A br:=(cond (zv d g u h r o q f w ao) (L:A br) (Qt q f w (jZ d g u h r o q) h))
def apB:A z:=(cond (zv d g u h r o q f w ao) (L:A z) (Qu q w (jZ d g u h r o q) r))
def apC:A bO:=(cond (zv d g u h r o q f w ao) (L:A bO) (Qv q w ao (jZ d g u h r o q) o))
def Hy:Int:=(cond (lI d g u h r o) 0 (cond ((fC q t f w ao)!=0) 0 (cond (decide (q>18)) 0 (cond (m2 d g u h r o q) (cond ((tD q f w ao (jZ d g u h r o q) (lL u) h r o)!=0) (zL d) (zL (apx d g u h r o q f w ao))) (zL d)))))
def Y_:z:=(cond (lI d g u h r o) ⟨#[]⟩ (cond ((fC q t f w ao)!=0) ⟨#[]⟩ (cond (decide (q>18)) ⟨#[]⟩ (cond (m2 d g u h r o q) (cond ((tD q f w ao (jZ d g u h r o q) (lL u) h r o)!=0) (zM g) (zM (apy d g u h r o q f w ao))) (zM g)))))
def Za:Int:=(cond (lI d g u h r o) 0 (cond ((fC q t f w ao)!=0) 0 (cond (decide (q>18)) 0 (cond (m2 d g u h r o q) (cond ((tD q f w ao (jZ d g u h r o q) (lL u) h r o)!=0) (lL u) (lL (apz d g u h r o q f w ao))) (lL u)))))
def Zb:A br:=(cond (lI d g u h r o) (L:A br) (cond ((fC q t f w ao)!=0) (L:A br) (cond (decide (q>18)) (L:A br) (cond (m2 d g u h r o q) (cond ((tD q f w ao (jZ d g u h r o q) (lL u) h r o)!=0) h (apA d g u h r o q f w ao)) h))))
def Zc:A z:=(cond (lI d g u h r o) (L:A z) (cond ((fC q t f w ao)!=0) (L:A z) (cond (decide (q>18)) (L:A z) (cond (m2 d g u h r o q) (cond ((tD q f w ao (jZ d g u h r o q) (lL u) h r o)!=0) r (apB d g u h r o q f w ao)) r))))
def Zd:A bO:=(cond (lI d g u h r o) (L:A bO) (cond ((fC q t f w ao)!=0) (L:A bO) (cond (decide (q>18)) (L:A bO) (cond (m2 d g u h r o q) (cond ((tD q f w ao (jZ d g u h r o q) (lL u) h r o)!=0) o (apC d g u h r o q f w ao)) o))))
def CQ:Int:=(cond (lI d g u h r o) 0 (cond ((fC q t f w ao)!=0) 0 (cond (decide (q>18)) 0 (cond (m2 d g u h r o q) (tD q f w ao (jZ d g u h r o q) (lL u) h r o) (cond (PW d g u h r o q) (qa 5) (qa 4))))))
def Ze:z:=(cond (lI d g u h r o) ⟨#[]⟩ (cond ((fC q t f w ao)!=0) ⟨#[]⟩ (cond (decide (q>18)) ⟨#[]⟩ (cond (m2 d g u h r o q) (aaJ q f w ao (jZ d g u h r o q) (zM g) (lL u) h r o) r1))))
def Zf:Int:=(cond (lI d g u h r o) 0 (cond ((fC q t f w ao)!=0) 0 (cond (decide (q>18)) 0 (cond (m2 d g u h r o q) (aaK q f w ao (jZ d g u h r o q) (lL u) h r o) r2))))
def Zg:A z:=(cond (lI d g u h r o) (L:A z) (cond ((fC q t f w ao)!=0) (L:A z) (cond (decide (q>18)) (L:A z) (cond (m2 d g u h r o q) (aaL q f w ao (jZ d g u h r o q) (lL u) h r o) r3))))
def apw:Int:=(cond (lI d g u h r o) (mz d g u h r o) (cond ((fC q t f w ao)!=0) (fC q t f w ao) (cond (decide (q>18)) 3 0)))
theorem d185{x:Int}(h:zO x=true):zN x≠4∨(7≤x∧x≤8):=by
 by_cases g:x=7
 ·omega
 by_cases i:x=8
 ·omega
 refine .inl fun e=> ?_;unfold zO aaI at h;have k:x=1∨x=3∨x=4∨x=11∨x=14:=by
  by_cases a:x=1
  ·omega
  by_cases b:x=3
  ·omega
  by_cases c:x=4
  ·omega
  by_cases d:x=11
  ·omega
  by_cases f:x=14
  ·omega
  simp [a,b,c,d,f,g,i]at h
 rcases k with k|k|k|k|k<;>subst k<;>simp [zN,aaE,aaF,aaG,aaH]at e
theorem d101(d:Int)(g:z)(u:Int)(h:A br)(r:A z)(o:A bO)(q:Int)(c:lI d g u h r o=false)(b:m2 d g u h r o q=true)(i:h.n≤1048576)(j:r.n≤1048576)(k:o.n≤1048576):
  h.n≤20∧r.n≤20∧o.n≤20∧((jZ d g u h r o q)≠4∨(7≤q∧q≤8)∨1≤r.n):=by
 unfold m2 PW at b;unfold lI at c;unfold jZ
 cases e:zu d g u h r o with
 |true=>
  simp only[e,aN]at b ⊢;have m:zO q=true:=by
   cases a:zO q with
   |true=>rfl
   |false=>rw[a]at b;cases b
  unfold zu at e;have f:(lJ h r o==0)=true:=by
   cases a:(lJ h r o==0)with
   |true=>rfl
   |false=>rw[a]at e;revert e;cases (d==0)<;>cases (g.toList==(⟨#[]⟩:z).toList)<;>cases (u==0)<;>simp
  have f:=eq_of_beq f;rw[Vc _ _ _ i j k]at f;have:=d185 m;omega
 |false=>
  simp only[e,aQ,Bool.not_false]at b c ⊢;have l:mz d g u h r o=0:=by
   cases a:(mz d g u h r o !=0)with
   |false=>exact bE a
   |true=>rw[a]at c;cases c
  have v:=(anu _ _ _ _ _ _ i j k l).2.1;have s:=(aBD _ _ _ _ _ _ i j k l).mb;unfold zL;omega
def aiY:a6:=⟨[.g [a,au,a,.af cX,.af bL,.af cO],.g [a,au,au,au,a]],fun(d:Int) g (u:Int) h r o (q:Int) t f w (ao:Int)=>⟨⟨some (h.n≤1048576∧r.n≤1048576∧o.n≤1048576),.c9 [.agg [b (Hy d g u h r o q t f w ao),.str (Y_ d g u h r o q t f w ao),b (Za d g u h r o q t f w ao),aH 2 fz (Zb d g u h r o q t f w ao),aH 1 cK (Zc d g u h r o q t f w ao),aH 2 fA (Zd d g u h r o q t f w ao)],.agg [b (CQ d g u h r o q t f w ao),.str (Ze d g u h r o q t f w ao),b (Zf d g u h r o q t f w ao),aH 1 cK (Zg d g u h r o q t f w ao)],b (apw d g u h r o q t f w ao)]⟩⟩⟩
theorem auI:bg 166 aiY:=bj Tryz.func166
 fun(d:Int) g n (u:Int) h p _ r s _ o v _ (q:Int) t x f z w A (ao:Int) j=>bf (ms:=[(.b .f (.b .f (.b .f (.b .f .l)))),(.b .f (.b .f (.b .f (.b .f .l)))),(.b .f (.b .f (.b .f (.b .f .l)))),(.b .f (.b .f (.b .f (.b .f .l)))),(.b .f (.b .f (.b .f (.b .f .l)))),(.b .f (.b .f (.b .f (.b .f .l)))),(.b .f (.b .f (.b .f (.b .l .f)))),(.b .f (.b .f (.b .f (.b .l .l)))),(.b .f (.b .f (.b .f (.b .l .l)))),(.b .f (.b .f (.b .f (.b .l .l)))),(.b .f (.b .f (.b .f .l)))]) ⟨.pure,[.cell 4 125,.cell 5 99,.tmp 6],[(.c 0 0,a),(.c 0 1,au),(.c 0 2,a),(.c 0 3,.af cX),(.c 0 4,.af bL),(.c 0 5,.af cO),(.c 1 0,a),(.c 1 1,au),(.c 1 2,a),(.c 1 3,.af bL),(.t 2,a)],⟨[.agg (us 6 []),.agg (us 4 []),U],[]⟩⟩ (.ad (.j ⟨252,[],[(.t 7,y)],[],.f⟩ .z (.s (.ad (.j ⟨274877907452,[],[(.t 38,y)],[],.f⟩ .z .z)) (.ad (.ad (.ad (.ad (.j ⟨1148,[],[(.h 7 0,a)],[],.f⟩ (.j ⟨576460752303426812,[],[(.t 59,y)],[],.f⟩ .z (.ad (.ad (.ad (.j ⟨9444732965739290428540,[],[(.t 73,y)],[],.f⟩ (.j ⟨9444732965739290428540,[],[(.t 73,y)],[],.f⟩ .z (.ad (.j ⟨9444732965739290428540,[],[(.t 73,y)],[],.f⟩ .z .z))) .z))))) (.ad (.ad (.j ⟨5232,[],[(.h 7 0,a),(.h 7 1,au),(.h 7 2,a),(.h 7 3,.af cX),(.h 7 4,.af bL),(.h 7 5,.af cO)],[],.f⟩ (.j ⟨162259276829213363391578010293360,[.b 0,.b 1,.b 4,.b 5,.b 6],[(.t 107,y)],[],.f⟩ .z .z) .z))))))))))) ((lI d g u h r o)=false→(((fC q t f w ao)!=0)=false→((decide (q>18))=false→((m2 d g u h r o q)=true→(h.n≤1000000∧r.n≤1000000∧o.n≤1000000∧((jZ d g u h r o q)≠4∨(7≤q∧q≤8)∨1≤r.n)))))) (bK 0 (aw Tb (aw aff (aw S0 (aw avr (aw avs (aw AR aT)))))) (av avq (av avt bJ))) Tryz.func166 (have⟨k,l,m⟩:=j;(fun b=>(fun c=>(fun e=>(fun i=>(by have:=b;simp [lI]at this;have:=bE c;have:=dQ e;have:=d101 _ _ _ _ _ _ _ (by assumption) i (by omega) (by omega) (by omega);omega))))))
end
section
def PY(f:A aj):Nat→Int→A z→A z
 |0,_,_=>default
 |k+1,e,m=>(cond (decide (e<(f.n:Int))) (PY f k (i64.wrap (e+1)) (A.app m (A.lit ([(f.at' (toNat e)).j]:List z)))) m)
variable(d:Int)(g:z)(u:z)(h:z)(r:Int)(o:Int)(f:A aj)
def apL:A z:=PY f ((toNat ((f.n:Int)-0))+1) 0 (L:A z)
def n0:Bool:=(cond (d==20) (d==20) (d==21))
def rT:Int:=(cond (hO g f) (f.at' (toNat (h7 g f))).ai 0)
def rU:z:=(cond (hO g f) (f.at' (toNat (h7 g f))).K ⟨#[]⟩)
def rV:Int:=(cond (hO g f) (f.at' (toNat (h7 g f))).an 0)
def p5:A br:=(cond (hO g f) (f.at' (toNat (h7 g f))).p (L:A br))
def p6:A z:=(cond (hO g f) (f.at' (toNat (h7 g f))).v (L:A z))
def p7:A bO:=(cond (hO g f) (f.at' (toNat (h7 g f))).ax (L:A bO))
def zy:Bool:=(cond ((Hy (rT g f) (rU g f) (rV g f) (p5 g f) (p6 g f) (p7 g f) d g u h r)==0) (hO g f) false)
def PZ:Bool:=(cond (!(hO g f)) ((f.n:Int)==12) false)
def apK:A aj:=let j:=p7 g f;let i:=p6 g f;let e:=p5 g f;let c:=rV g f;let b:=rU g f;let a:=rT g f;let k:=Hy a b c e i j d g u h r;(cond ((CQ a b c e i j d g u h r)!=0) f (cond (zy d g u h r f) (HD (h7 g f) f) (cond (k !=0) (aac d g k (Y_ a b c e i j d g u h r) (Za a b c e i j d g u h r) (Zb a b c e i j d g u h r) (Zc a b c e i j d g u h r) (Zd a b c e i j d g u h r) (h7 g f) (hO g f) f) f)))
def CT:Bool:=(cond ((CQ (rT g f) (rU g f) (rV g f) (p5 g f) (p6 g f) (p7 g f) d g u h r)!=0) true (cond (zy d g u h r f) true (cond (PZ g f) false true)))
def ZX:Int:=(cond (d==22) 0 (cond (d==19) 0 (cond (n0 d) (Z3 d r o (hO g f)) (cond (CT d g u h r f) (CQ (rT g f) (rU g f) (rV g f) (p5 g f) (p6 g f) (p7 g f) d g u h r) 6))))
def ZY:z:=(cond (d==22) ⟨#[]⟩ (cond (d==19) ⟨#[]⟩ (cond (n0 d) Z9 (cond (CT d g u h r f) (Ze (rT g f) (rU g f) (rV g f) (p5 g f) (p6 g f) (p7 g f) d g u h r) ⟨#[]⟩))))
def ZZ:Int:=(cond (d==22) 0 (cond (d==19) (cond (!(hO g f)) 0 1) (cond (n0 d) (Z_ d o (h7 g f) (hO g f) f) (cond (CT d g u h r f) (Zf (rT g f) (rU g f) (rV g f) (p5 g f) (p6 g f) (p7 g f) d g u h r) 0))))
def Z0:A z:=(cond (d==22) (apL f) (cond (d==19) (L:A z) (cond (n0 d) aaa (cond (CT d g u h r f) (Zg (rT g f) (rU g f) (rV g f) (p5 g f) (p6 g f) (p7 g f) d g u h r) (L:A z)))))
def apI:Int:=(h7 g f)
def apJ:Bool:=(hO g f)
def Z2:A aj:=(cond (d==22) f (cond (d==19) (cond (!(hO g f)) f (HD (h7 g f) f)) (cond (n0 d) (aab d r o (h7 g f) (hO g f) f) (cond (CT d g u h r f) (apK d g u h r f) f))))
theorem aB_(d:Int)(g u h:z)(r:Int)(f:A aj)(a:zy d g u h r f=true):h7 g f<(f.n:Int):=by
 refine yv g f ?_;unfold zy at a
 cases e:hO g f with
 |true=>rfl
 |false=>rw[e]at a;simp at a
theorem ayB(g:z)(f:A aj)(h:tl f):(((p5 g f).n:Nat):Int)≤1048576:=by
 unfold p5
 cases e:hO g f with
 |false=>show((0:Nat):Int)≤_;omega
 |true=>
  have a:=vN g f (by have:=h.1;omega);have b:=yv g f e;have:=h.2 (toNat (h7 g f)) (by omega);simp only[aN];omega
theorem ayC(g:z)(f:A aj)(h:tl f):(((p6 g f).n:Nat):Int)≤1048576:=by
 unfold p6
 cases e:hO g f with
 |false=>show((0:Nat):Int)≤_;omega
 |true=>
  have a:=vN g f (by have:=h.1;omega);have b:=yv g f e;have:=h.2 (toNat (h7 g f)) (by omega);simp only[aN];omega
theorem ayD(g:z)(f:A aj)(h:tl f):(((p7 g f).n:Nat):Int)≤1048576:=by
 unfold p7
 cases e:hO g f with
 |false=>show((0:Nat):Int)≤_;omega
 |true=>
  have a:=vN g f (by have:=h.1;omega);have b:=yv g f e;have:=h.2 (toNat (h7 g f)) (by omega);simp only[aN];omega
def ai7:b5:=⟨[.p 0,.g [a,au,au,au,a]],[(.h 0 0,a),(.h 0 2,a),(.h 0 3,y),(.h 1 0,.ae a_)],[[U,.own 1 0,U,U],[U]],fun(d:Int) g u h (r:Int) (o:Int) _ _ f=>let c:=Z2 d g u h r o f;⟨⟨some (tl f∧f.n≤1000000),[.agg [b (ZX d g u h r o f),.str (ZY d g u h r f),b (ZZ d g u h r o f),aH 1 cK (Z0 d g u h r f)]],[[b o,.own 2 (c).n,b (apI g f),.bool (apJ g f)],[dn],[(aB.ae a_).ab c]]⟩⟩⟩
theorem auP:dB 151 ai7:=dI Tryz.func151
 fun(d:Int) g Y u Z h ayG (r:Int) (o:Int) (q:Int) t f aFs L=>dA (ms:=[(.b .f (.b .l .f)),(.b .f (.b .l .f)),.f,(.b .f (.b .l .f)),.l,.l,.l,.f]) ⟨.lh true [.b 2] [.own (.h 0 1) a_ 2],[.cell 4 99],[(.c 0 0,a),(.c 0 1,au),(.c 0 2,a),(.c 0 3,.af bL),(.h 0 0,a),(.h 0 2,a),(.h 0 3,y),(.h 2 0,.ae a_)],⟨[.agg [U,U,U,U]],[[U,.own 2 0,U,U],[dn],[U]]⟩⟩ (.ad (.ad (.s (.ad (.ad (.s (.ad (.j ⟨57,[],[],[],.f⟩ (.ad (.cy ⟨117440569,[],[(.h 4 3,bL)],[(.t 26,a),(.h 5 0,.ae bL)],some 1,false,57,[],[(.h 5 0,.ae bL)],fun k (s:Int×A z)=>PY f k s.1 s.2,.f,fun(s:Int×A z)=>((0≤s.1∧s.1≤(f.n:Int))∧(s.2.n:Int)≤0+(s.1-0)),fun(s:Int×A z)=>(toNat ((f.n:Int)-s.1)),some fun(M:A z)=>(M.n:Int)≤0+max ((f.n:Int)-0) 0⟩ .z)) .z)) (.ad (.ad (.j ⟨1125899906842649,[],[(.t 50,y)],[],.f⟩ .z .z)))))) (.ad (.j ⟨281,[],[(.h 4 0,a),(.h 4 1,au),(.h 4 2,a),(.h 4 3,.af cX),(.h 4 4,.af bL),(.h 4 5,.af cO)],[],.f⟩ .z (.ad (.xD ⟨1040,[.b 2,.b 4,.b 5],[(.h 41 0,.ae a_)],[],(.b .f (.b .f (.b .f .l)))⟩ [.own (.h 0 1) a_ 41] (.ad (.ad (.j ⟨9671406556917033397650969,[.b 4],[(.t 83,y)],[],.f⟩ .z (.ad (.j ⟨39614081257132168796771976729,[],[(.t 95,y)],[],.f⟩ .z .z))))) .z))))))) (let E:=zy d g u h r f;let x:=p7 g f;let w:=p6 g f;let v:=p5 g f;let n:=hO g f;let b:=h7 g f;(((d==22)=true→((((0≤(0:Int)∧(0:Int)≤(f.n:Int))∧((0:Nat):Int)≤0+((0:Int)-0)))∧(∀(e:Int) (m:A z),let p:=decide (e<(f.n:Int));let l:=i64.wrap (e+1);((0≤e∧e≤(f.n:Int))∧(m.n:Int)≤0+(e-0))→((p=true→((((0:Int)≤e∧e<(f.n:Int))∧((toNat e)<f.n))∧(m.n+1≤549755813888)))∧((p=true→(((0≤l∧l≤(f.n:Int))∧(((m.n+1):Nat):Int)≤0+(l-0))∧(toNat ((f.n:Int)-l))<(toNat ((f.n:Int)-e))))∧(p=false→((m.n:Int)≤0+max ((f.n:Int)-0) 0)))))))∧((d==22)=false→(((d==19)=true→((!n)=false→(f.n≤1000000∧0≤b∧b<(f.n:Int))))∧((d==19)=false→((n0 d)=true→(ru n b f.n∧f.n≤1000000))))))∧((d==22)=false→((d==19)=false→((n0 d)=false→((n=true→(((0:Int)≤b∧b<(f.n:Int))∧((toNat b)<f.n)))∧((v.n≤1048576∧w.n≤1048576∧x.n≤1048576)∧(((CQ (rT g f) (rU g f) (rV g f) v w x d g u h r)!=0)=false→((E=true→(f.n≤1000000∧0≤b∧b<(f.n:Int)))∧(E=false→((PZ g f)=false→(((Hy (rT g f) (rU g f) (rV g f) v w x d g u h r)!=0)=true→(ru n b f.n∧f.n≤1000000)))))))))))) (bK 2 (aw auI aT) (av auR (av auS (av auT (av auX bJ))))) Tryz.func151 (have⟨W,X⟩:=L;⟨⟨(fun O=>⟨(by omega),(fun e m V=>⟨(fun D=>⟨⟨(by have:=aq D;omega),(by have:=aq D;omega)⟩,(by omega)⟩),⟨(fun J=>(by have:=aq J;have:=N (e+1);omega)),(fun Q=>(by omega))⟩⟩)⟩),(fun R=>⟨(fun S=>(fun K=>(by have:=aCs _ _ K;have:=vN g f (by omega);omega))),(fun T=>(fun P=>⟨(by repeat first|assumption|apply ig),(by omega)⟩))⟩)⟩,(fun c=>(fun i=>(fun j=>⟨(fun B=>⟨(by have:=cU c;have:=cU i;have:=j;simp [n0]at this;have:=yv _ _ B;have:=vN g f (by omega);omega),(by have:=cU c;have:=cU i;have:=j;simp [n0]at this;have:=yv _ _ B;have:=vN g f (by omega);omega)⟩),⟨(by have:=cU c;have:=cU i;have:=j;simp [n0]at this;have:=ayB g f (by repeat first|assumption|apply ig|apply vu|apply vt|apply hp|apply ju|apply And.intro|apply Ce|apply Cd);have:=ayC g f (by repeat first|assumption|apply ig|apply vu|apply vt|apply hp|apply ju|apply And.intro|apply Ce|apply Cd);have:=ayD g f (by repeat first|assumption|apply ig|apply vu|apply vt|apply hp|apply ju|apply And.intro|apply Ce|apply Cd);omega),(fun C=>⟨(fun F=>(by have:=cU c;have:=cU i;have:=j;simp [n0]at this;have:=bE C;have:=aB_ _ _ _ _ _ _ F;have:=vN g f (by omega);omega)),(fun G=>(fun H=>(fun I=>⟨(by repeat first|assumption|apply ig),(by have:=cU c;have:=cU i;have:=j;simp [n0]at this;have:=bE C;have:=G;simp [zy]at this;have:=H;simp [PZ]at this;have:=bne_iff_ne.1 I;omega)⟩)))⟩)⟩⟩)))⟩)
end
theorem VB(s:A aj)(a:s.n≤549755813888):(kv s).B=s.B:=by
 have:=ayg (HC s) s (fun x=>x) a (fun _ _ _=>rfl) L;rw[List.map_id',Mv,re]at this;exact this
theorem af7(s:A aj)(a:s.n≤549755813888):(kv s).n=s.n:=ayT (VB s a)
theorem take_one{α:Type}(s:A α){j:Nat}(h:j<s.n):s.B.take (j+1)=s.B.take j++[s.at' j]:=by
 rw[List.take_add_one,Mw,bF h];rfl
theorem aCh{α:Type}(s:A α)(i:Nat)(x:α)(h:i<s.n):(s.cz i x).B.take (i+1)=s.B.take i++[x]:=by
 rw[aBE s i x h,List.take_append,List.take_of_length_le (by rw[nJ];omega)];rw[nJ,dt,show i+1-min i s.n=1 by omega];rfl
theorem aiQ{α:Type}(s:A α)(i:Nat)(z:α)(h:i≤s.n):(A.cut (A.vy s i z) i).B=s.B.take i:=by
 apply yG;intro q;rw[Mw,lv]
 by_cases a:q<i
 ·have e:Nat.blt q i=true:=by simpa[fU]using a
  rw[bF (show q<(A.cut (A.vy s i z) i).n from a),bF a,Mw,bF (by omega)];show some (cond (Nat.blt q i) (s.at' q) z)=some (s.at' q);rw[e];rfl
 ·rw[bH (show¬q<(A.cut (A.vy s i z) i).n from a),bH a]
section
variable (d:Int)
def ot(e:aj):Bool:= !(iJ e.aF d)
theorem Tq(s:A aj)(n:s.n≤1000000): ∀(m a i j:Nat) (S:A aj),j+m=s.n→m≤a→i<j→S.n=s.n→(∀q,j≤q→q<s.n→S.at' q=s.at' q)→S.B.take i=(s.B.take j).filter (ot d)→
  ∃(l:Nat) (f:A aj),zw d (a+1) (i:Int) (j:Int) S=((l:Int),f)∧l<s.n∧f.n=s.n∧f.B.take l=s.B.filter (ot d)
 |0,a,i,j,S,r,_,p,c,_,b=>by
  refine⟨i,S,?_,by omega,c,?_⟩
  ·show(cond (decide ((j:Int)<(S.n:Int))) _ _)=_;rw[bI (by omega)];rfl
  ·rw[b,List.take_of_length_le (by rw[dt];omega)]
 |m+1,a,i,j,S,r,u,p,c,h,b=>by
  obtain⟨a,rfl⟩: ∃q,a=q+1:=⟨a-1,by omega⟩;have e:zw d (a+1+1) (i:Int) (j:Int) S=zw d (a+1) (vW d (i:Int) (j:Int) S) ((j+1:Nat):Int) (zx d (i:Int) (j:Int) S):=by
   show(cond (decide ((j:Int)<(S.n:Int))) _ _)=_;rw[bT (by omega),N _];rfl
  rw[e];unfold zx vW;rw[fT,fT,h j (bx _) (by omega)];have t:(!(iJ (s.at' j).aF d))=ot d (s.at' j):=rfl;rw[t]
  cases k:ot d (s.at' j)with
  |true=>
   simp only[aN];rw[N _];refine Tq s n m a (i+1) (j+1) _ (by omega) (by omega) (by omega) c (fun q o g=> ?_) ?_
   ·show(cond (Nat.beq q i) (s.at' j) (S.at' q))=s.at' q;rw[ayU (by omega)];exact h q (by omega) g
   ·rw[aCh S i _ (by omega),b,take_one s (by omega),Gt,List.filter_cons_of_pos (by simpa using k),List.filter_nil]
  |false=>
   simp only[aQ];refine Tq s n m a i (j+1) S (by omega) (by omega) (by omega) c (fun q o g=>h q (by omega) g) ?_;rw[b,take_one s (by omega),Gt,List.filter_cons_of_neg (by simp [k]),List.filter_nil,lz]
theorem Lj{α:Type}{s:A α}{e:α}(h:e∈s.B): ∃i,i<s.n∧s.at' i=e:=by
 simp only[A.B,pJ,vg]at h;exact h
theorem VC(g:Int)(u:Bool)(s:A aj)(n:s.n≤1000000):(m3 d g u s).B=s.B.filter (ot d):=by
 unfold m3 CS;rcases(UA d g u s (by omega)).2 with⟨h,a⟩|⟨t,r,h,o,a⟩
 ·rw[h];show s.B=_;refine(List.filter_eq_self.2 fun e b=> ?_).symm;obtain⟨i,m,rfl⟩:=Lj b;show(!(iJ (s.at' i).aF d))=true;rw[a i m];rfl
 ·rw[h];have f:(((t:Int)== -1))=false:=ik.2 (by omega);rw[f];simp only[aQ];have j:i64.wrap ((t:Int)+1)=((t+1:Nat):Int):=by rw[N _];omega
  rw[j];obtain⟨v,c,k,w,x,l⟩:=Tq d s n (s.n- (t+1)) (toNat ((s.n:Int)- ((t+1:Nat):Int))) t (t+1) s (by omega) (by omega) (by omega) rfl (fun _ _ _=>rfl) (by
   rw[take_one s r,Gt,List.filter_cons_of_neg (by simp [ot,o]),List.filter_nil,lz];refine(List.filter_eq_self.2 fun e b=> ?_).symm;obtain⟨q,y,p,rfl⟩:=aym s b;show(!(iJ (s.at' q).aF d))=true;rw[a q p];rfl)
  rw[k];simp only;rw[fT,aiQ c v _ (by omega),l]
end
def BU(l:List aj):Prop:=l.Pairwise fun a b=>Op.bytesLess a.j.toList b.j.toList=true
theorem aBh{s:A aj}(h:NC s.n (fun i=>(s.at' i).j)):BU s.B:=by
 unfold BU;rw[List.pairwise_iff_getElem];intro i j b a c;rw[dt]at b a;simp only[A.B,List.getElem_map,List.getElem_range];exact h i j c a
theorem aBi{s:A aj}(h:BU s.B):NC s.n (fun i=>(s.at' i).j):=by
 intro i j a b;unfold BU at h;rw[List.pairwise_iff_getElem]at h;have:=h i j (by rw[dt];omega) (by rw[dt];exact b) a;simpa[A.B]using this
structure My (d:Int) (s:A aj):Prop where
 now:0≤d∧d≤1073741824
 n:s.n≤12
 Bq:BU s.B
 ok: ∀e∈s.B,mz e.ai e.K e.an e.p e.v e.ax=0
 M: ∀e∈s.B,e.p.n≤1048576∧e.v.n≤1048576∧e.ax.n≤1048576
 u: ∀e∈s.B,e.aF=0∨(d<e.aF∧e.aF≤1073741824)
theorem c2{d:Int}{s:A aj}(m:lB s)(h:jF d s=0):My d s:=by
 have x:=m.1;obtain⟨⟨n,u⟩,o⟩:=Xx d s m h;unfold jF at h;obtain⟨_,h⟩:=ez h (by decide);have t:JP d s=scan (fun i=>o9 s i||qy d s i) (fun _=>13) s.n 0:=pA (xe d s) s.n _ _ (by omega) fun k i=>by
  show(cond (decide (i<(s.n:Int))) (cond (o9 s i) (true,13) (cond (qy d s i) (true,13) (xe d s k (i64.wrap (i+1))))) (false,default))=_;rw[B6]
 unfold Ry at h;rw[Hj t]at h;obtain⟨aZ,_⟩:=ez h (by decide);have l: ∀i,i<s.n→o9 s (i:Int)=false∧qy d s (i:Int)=false:=fun i f=>by
  have q:=ss aZ i f;simpa only[BJ]using q
 have v: ∀i,i<s.n→(s.at' i).p.n≤1048576∧(s.at' i).v.n≤1048576∧(s.at' i).ax.n≤1048576:=fun i f=>by
  obtain⟨_,w,_⟩:=o i f;obtain⟨hX,y,z⟩:=w.2.1;exact⟨by omega,by omega,by omega⟩
 refine⟨n,u,aBh fun i j p r=> ?_,fun e g=> ?_,fun e g=> ?_,fun e g=> ?_⟩
 ·refine anq (R:=fun i j=>Op.bytesLess (s.at' i).j.toList (s.at' j).j.toList=true) s.n (fun i f=> ?_) (fun _ _ _ _ _ _=>afH) i j p r;have q1:=(l (i+1) f).1;unfold o9 at q1;obtain⟨_,q1⟩:=dT q1;obtain⟨_,q1⟩:=dT q1;obtain⟨_,q1⟩:=dT q1;rw[bT (show((i+1:Nat):Int)>0 by omega)]at q1;rw[show i64.wrap (((i+1:Nat):Int)-1)=(i:Int) by rw[N _];omega]at q1;simpa using q1
 ·obtain⟨i,f,rfl⟩:=Lj g;have q1:=(l i f).1;unfold o9 at q1;simp only[fT]at q1;obtain⟨_,q1⟩:=dT q1;obtain⟨_,q1⟩:=dT q1;obtain⟨d3,_⟩:=dT q1;exact bE d3
 ·obtain⟨i,f,rfl⟩:=Lj g;exact v i f
 ·obtain⟨i,f,rfl⟩:=Lj g;have q1:=(l i f).2;unfold qy at q1;simp only[fT]at q1
  cases c:((s.at' i).aF !=0)with
  |false=>exact .inl (bE c)
  |true=>
   rw[c]at q1;obtain⟨a,b⟩:=dT q1;have a:=en a;have b:=en b;exact .inr ⟨by omega,by omega⟩
theorem fit{d b:Int}{s t:A aj}(h:My d s)(j:t.B=s.B.filter (ot b)):Fit b t:=by
 have c: ∀i,i<t.n→t.at' i∈s.B∧ot b (t.at' i)=true:=fun i a=>by
  have:t.at' i∈t.B:=by simp only[A.B,pJ,vg];exact⟨i,a,rfl⟩
  rw[j,Gf]at this;exact this
 refine⟨?_,aBi (by rw[j];exact h.Bq.filter _),fun i a=>h.ok _ (c i a).1,fun i a=>h.M _ (c i a).1,fun i a=> ?_⟩
 ·have f:=List.length_filter_le (ot b) s.B;rw[←j,dt,dt]at f;have:=h.n;omega
 ·have g:=(c i a).2;rcases h.u _ (c i a).1 with f|⟨_,k⟩
  ·exact .inl f
  ·by_cases e:(t.at' i).aF=0
   ·exact .inl e
   ·unfold ot iJ ZW at g;rw[show((t.at' i).aF !=0)=true from bne_iff_ne.2 e]at g;have:decide ((t.at' i).aF≤b)=false:=by simpa using g
    have:=en this;exact .inr ⟨by omega,k⟩
theorem aBV{a:Int}{t:A aj}(h:Fit a t):tl t:=⟨by have:=h.n;omega,h.M⟩
theorem Xu{d:Int}{g:A aj}(a:lB g)(h:(jF d g !=0)=false):My d g:=c2 a (bE h)
theorem af6(g:A aj){d:Int}(h:lB g∧(jF d g !=0)=false):(kv g).n≤12:=by
 have:=(Xu h.1 h.2).n;rw[af7 g (by omega)];exact this
theorem aiG{g:A aj}(c a:Int)(b:Bool)(d:g.n≤1000000):(m3 c a b (kv g)).B=g.B.filter (ot c):=by
 rw[VC c a b _ (by rw[af7 g (by omega)];exact d),VB g (by omega)]
theorem ayy(c a:Int)(b:Bool)(s:A aj)(d:s.n≤1000000):(m3 c a b s).n≤s.n:=by
 have h:=congrArg List.length (VC c a b s d);have:=List.length_filter_le (ot c) s.B;rw[dt]at h this;omega
theorem ao6{d:Int}{g:A aj}{c a:Int}{b:Bool}(f:lB g)(h:(jF d g !=0)=false):Fit c (m3 c a b (kv g)):=by
 have e:=Xu f h;exact fit e (aiG c a b (by have:=e.n;omega))
theorem lq{d:Int}{g:A aj}{e a:Int}{b:Bool}(c:lB g)(h:(jF d g !=0)=false):tl (m3 e a b (kv g)):=aBV (ao6 c h)
section
variable(d:Int)(g:A aj)(u:Int)(h:Int)(r:z)(o:z)(q:z)(t:Int)
def p4:Bool:=(cond (decide (u<0)) true (decide (u>1073741824)))
def p3:Int:=(cond ((jF d g)!=0) 0 (cond (p4 u) 0 (cond ((fC h r o q t)!=0) 0 (mj (imax (mj d) u)))))
def rS:A aj:=(cond ((jF d g)!=0) (L:A aj) (cond (p4 u) (L:A aj) (cond ((fC h r o q t)!=0) (L:A aj) (kv (Z2 h r o q t (imax (mj d) u) (m3 (imax (mj d) u) 0 false (kv g)))))))
def PS:Int:=(cond ((jF d g)!=0) 0 (cond (p4 u) 0 (cond ((fC h r o q t)!=0) 0 (ZX h r o q t (imax (mj d) u) (m3 (imax (mj d) u) 0 false (kv g))))))
def PT:z:=(cond ((jF d g)!=0) ⟨#[]⟩ (cond (p4 u) ⟨#[]⟩ (cond ((fC h r o q t)!=0) ⟨#[]⟩ (ZY h r o q t (m3 (imax (mj d) u) 0 false (kv g))))))
def PU:Int:=(cond ((jF d g)!=0) 0 (cond (p4 u) 0 (cond ((fC h r o q t)!=0) 0 (ZZ h r o q t (imax (mj d) u) (m3 (imax (mj d) u) 0 false (kv g))))))
def PV:A z:=(cond ((jF d g)!=0) (L:A z) (cond (p4 u) (L:A z) (cond ((fC h r o q t)!=0) (L:A z) (Z0 h r o q t (m3 (imax (mj d) u) 0 false (kv g))))))
def apv:Int:=(cond ((jF d g)!=0) (jF d g) (cond (p4 u) 2 (cond ((fC h r o q t)!=0) (fC h r o q t) 0)))
def ai0:a6:=⟨[.g [a,.af a_],.v a,.g [a,au,au,au,a]],fun d g u h r o q t=>⟨⟨none,.c9 [.agg [b (p3 d g u h r o q t),aH 8 fZ (rS d g u h r o q t)],.agg [b (PS d g u h r o q t),.str (PT d g u h r o q t),b (PU d g u h r o q t),aH 1 cK (PV d g u h r o q t)],b (apv d g u h r o q t)]⟩⟩⟩
theorem auK:bg 121 ai0:=bj Tryz.func121
 fun(d:Int) g j i (u:Int) (h:Int) r k o l q m (t:Int)=>bf ⟨.pure,[.cell 6 46,.cell 7 99,.tmp 8],[(.c 0 0,a),(.c 0 1,.af a_),(.c 1 0,a),(.c 1 1,au),(.c 1 2,a),(.c 1 3,.af bL),(.t 2,a)],⟨[.agg (us 2 []),.agg (us 4 []),U],[]⟩⟩ (.ad (.ad (.s (.j ⟨33554922,[],[(.t 25,y)],[],.f⟩ .z .z) (.ad (.ad (.ad (.ad (.ad (.s (.ir [(.h 5 1,a_)]) .z))))))))) (let f:=m3 (imax (mj d) u) 0 false (kv g);((jF d g)!=0)=false→((p4 u)=false→(((fC h r o q t)!=0)=false→(((kv g).n≤1000000)∧(tl f∧f.n≤1000000))))) (bK 0 (aw Tb (aw afh aT)) (av auN (av auO (av auP bJ)))) Tryz.func121 (have:=vR i;(fun b=>(fun c=>(fun e=>⟨(by have:=bE b;have:=c;simp [p4]at this;have:=bE e;have:=af6 g (by repeat first|assumption|apply k3|apply k4|apply lu|apply kt|apply lZ|apply iE|apply kJ|apply lo|apply ln|apply kO|apply kD|apply kE|apply gF|apply lq|apply me|apply ig|apply hp|apply ju|apply And.intro);omega),⟨(by repeat first|assumption|apply lq),(by have:=bE b;have:=c;simp [p4]at this;have:=bE e;have:=AP (mj d) u;have:=af6 g (by repeat first|assumption|apply k3|apply k4|apply lu|apply kt|apply lZ|apply iE|apply kJ|apply lo|apply ln|apply kO|apply kD|apply kE|apply gF|apply lq|apply me|apply ig|apply hp|apply ju|apply And.intro);have:=ayy (imax (mj d) u) 0 false (kv g) (by omega);omega)⟩⟩))))
end
section
variable(d:Int)(g:A aj)(u:Int)(h:A aG)(r:Int)(o:Int)(q:Int)(t:Int)(f:z)(w:z)(ao:z)(bb:Int)
def j3:Bool:=(cond (decide (r<0)) true (decide (r>1073741824)))
def aa2:Int:=let b:=lM (iL h) o;let a:=p3 d g r 22 ⟨#[]⟩ ⟨#[]⟩ ⟨#[]⟩ 0;(cond ((gA d g u h)!=0) 0 (cond (j3 r) 0 (cond ((iO o q t f w ao bb)!=0) 0 (cond (o==0) a (cond (decide (b<0)) a (cond (q==((iL h).at' (toNat b)).ai) a (cond (q !=(i64.wrap (((iL h).at' (toNat b)).ai+1))) a (p3 a (rS d g r 22 ⟨#[]⟩ ⟨#[]⟩ ⟨#[]⟩ 0) r t f w ao bb))))))))
def aa3:A aj:=let b:=lM (iL h) o;let a:=rS d g r 22 ⟨#[]⟩ ⟨#[]⟩ ⟨#[]⟩ 0;(cond ((gA d g u h)!=0) (L:A aj) (cond (j3 r) (L:A aj) (cond ((iO o q t f w ao bb)!=0) (L:A aj) (cond (o==0) a (cond (decide (b<0)) a (cond (q==((iL h).at' (toNat b)).ai) a (cond (q !=(i64.wrap (((iL h).at' (toNat b)).ai+1))) a (rS (p3 d g r 22 ⟨#[]⟩ ⟨#[]⟩ ⟨#[]⟩ 0) a r t f w ao bb))))))))
def aa4:Int:=(cond ((gA d g u h)!=0) 0 (cond (j3 r) 0 (cond ((iO o q t f w ao bb)!=0) 0 (cond (o==0) (abd u) u))))
def aa5:A aG:=let b:=iL h;let j:=rS d g r 22 ⟨#[]⟩ ⟨#[]⟩ ⟨#[]⟩ 0;let e:=p3 d g r 22 ⟨#[]⟩ ⟨#[]⟩ ⟨#[]⟩ 0;let a:=toNat (lM b o);let c:=b.at' a;let l:=A.cz b a (⟨c.j,q,c.K,c.an,c.p,c.v,c.ax⟩:aG);let i:=l.at' a;let k:=A.cz l a (⟨i.j,i.ai,(p3 e j r t f w ao bb),i.an,i.p,i.v,i.ax⟩:aG);(cond ((gA d g u h)!=0) (L:A aG) (cond (j3 r) (L:A aG) (cond ((iO o q t f w ao bb)!=0) (L:A aG) (cond (o==0) (QB e u b) (cond (decide ((lM b o)<0)) b (cond (q==c.ai) b (cond (q !=(i64.wrap (c.ai+1))) b (A.cz k a (⟨(k.at' a).j,(k.at' a).ai,(k.at' a).K,(Ib (PS e j r t f w ao bb)),(Ic (PT e j r t f w ao bb)),(Ie (PU e j r t f w ao bb)),(Ig (PV e j r t f w ao bb))⟩:aG)))))))))
def aa6:Int:=let a:=iL h;let c:=lM a o;let b:=toNat c;(cond ((gA d g u h)!=0) 0 (cond (j3 r) 0 (cond ((iO o q t f w ao bb)!=0) 0 (cond (o==0) (aa_ u) (cond (decide (c<0)) 11 (cond (q==(a.at' b).ai) (Ib (a.at' b).an) (cond (q !=(i64.wrap ((a.at' b).ai+1))) 10 (PS (p3 d g r 22 ⟨#[]⟩ ⟨#[]⟩ ⟨#[]⟩ 0) (rS d g r 22 ⟨#[]⟩ ⟨#[]⟩ ⟨#[]⟩ 0) r t f w ao bb))))))))
def aa7:z:=let a:=iL h;let c:=lM a o;let b:=toNat c;(cond ((gA d g u h)!=0) ⟨#[]⟩ (cond (j3 r) ⟨#[]⟩ (cond ((iO o q t f w ao bb)!=0) ⟨#[]⟩ (cond (o==0) aba (cond (decide (c<0)) ⟨#[]⟩ (cond (q==(a.at' b).ai) (Ic (a.at' b).p) (cond (q !=(i64.wrap ((a.at' b).ai+1))) ⟨#[]⟩ (PT (p3 d g r 22 ⟨#[]⟩ ⟨#[]⟩ ⟨#[]⟩ 0) (rS d g r 22 ⟨#[]⟩ ⟨#[]⟩ ⟨#[]⟩ 0) r t f w ao bb))))))))
def aa8:Int:=let a:=iL h;let c:=lM a o;let b:=toNat c;(cond ((gA d g u h)!=0) 0 (cond (j3 r) 0 (cond ((iO o q t f w ao bb)!=0) 0 (cond (o==0) (abb u) (cond (decide (c<0)) 0 (cond (q==(a.at' b).ai) (Ie (a.at' b).v) (cond (q !=(i64.wrap ((a.at' b).ai+1))) 0 (PU (p3 d g r 22 ⟨#[]⟩ ⟨#[]⟩ ⟨#[]⟩ 0) (rS d g r 22 ⟨#[]⟩ ⟨#[]⟩ ⟨#[]⟩ 0) r t f w ao bb))))))))
def aa9:A z:=let a:=iL h;let c:=lM a o;let b:=toNat c;(cond ((gA d g u h)!=0) (L:A z) (cond (j3 r) (L:A z) (cond ((iO o q t f w ao bb)!=0) (L:A z) (cond (o==0) abc (cond (decide (c<0)) (L:A z) (cond (q==(a.at' b).ai) (Ig (a.at' b).ax) (cond (q !=(i64.wrap ((a.at' b).ai+1))) (L:A z) (PV (p3 d g r 22 ⟨#[]⟩ ⟨#[]⟩ ⟨#[]⟩ 0) (rS d g r 22 ⟨#[]⟩ ⟨#[]⟩ ⟨#[]⟩ 0) r t f w ao bb))))))))
def aqe:Int:=let a:=iO o q t f w ao bb;(cond ((gA d g u h)!=0) (gA d g u h) (cond (j3 r) 2 (cond (a !=0) a 0)))
def akm:a6:=⟨[.g [a,.af a_,a,.af bP],.v a,.g [a,a,a,au,au,au,a]],fun d g u h r o q t f w ao bb=>⟨⟨none,.c9 [.agg [b (aa2 d g u h r o q t f w ao bb),aH 8 fZ (aa3 d g u h r o q t f w ao bb),b (aa4 d g u h r o q t f w ao bb),aH 7 gK (aa5 d g u h r o q t f w ao bb)],.agg [b (aa6 d g u h r o q t f w ao bb),.str (aa7 d g u h r o q t f w ao bb),b (aa8 d g u h r o q t f w ao bb),aH 1 cK (aa9 d g u h r o q t f w ao bb)],b (aqe d g u h r o q t f w ao bb)]⟩⟩⟩
theorem avE:bg 105 akm:=bj Tryz.func105
 fun(d:Int) g D x (u:Int) h F z (r:Int) (o:Int) (q:Int) (t:Int) f G w H ao E (bb:Int)=>bf (ms:=[.f,.f,(.b .f (.b .f (.b .f (.b .f .l)))),.f,.f,.f,.f,.f,(.b .f (.b .f (.b .f .l)))]) ⟨.pure,[.cell 6 49,.cell 7 99,.tmp 8],[(.c 0 0,a),(.c 0 1,.af a_),(.c 0 2,a),(.c 0 3,.af bP),(.c 1 0,a),(.c 1 1,au),(.c 1 2,a),(.c 1 3,.af bL),(.t 2,a)],⟨[.agg (us 4 []),.agg (us 4 []),U],[]⟩⟩ (.ad (.ad (.s (.j ⟨1073742314,[],[(.t 30,y)],[],.f⟩ .z .z) (.ad (.ad (.ad (.ad (.s (.hN 5 1 (.pX [.t 46,.t 51,.t 56] [])) .z)))))))) (let c:=iL h;let n:=lM c o;let m:=toNat n;let p:=c.at' m;((gA d g u h)!=0)=false→((j3 r)=false→(((iO o q t f w ao bb)!=0)=false→(((o==0)=true→(c.n≤4))∧((o==0)=false→((decide (n<0))=false→(((0:Int)≤n∧n<(c.n:Int))∧(((m<c.n)∧(((q==p.ai)=true→(m<c.n))∧((q==p.ai)=false→(m<c.n))))∧((q==p.ai)=false→((q !=(i64.wrap (p.ai+1)))=false→((m<c.n)∧((m<c.n)∧(m<c.n))))))))))))) (bK 0 (aw Tc (aw K1 (aw auK (aw avF (aw avH (aw aeX aT)))))) (av avG bJ)) Tryz.func105 (have:=vR x;have:=zo z;(fun e=>(fun i=>(fun j=>⟨(fun A=>(by have b:=hx _ _ _ _ (by first|assumption|exact h0.z (by assumption)) (by first|assumption|exact hZ.y (by assumption)) (bE e);have:=b.1;have:=i;simp [j3]at this;have:=bE j;have:=eq_of_beq A;have:=uN h;omega)),(fun k=>(fun l=>⟨(by have b:=hx _ _ _ _ (by first|assumption|exact h0.z (by assumption)) (by first|assumption|exact hZ.y (by assumption)) (bE e);have:=b.1;have:=i;simp [j3]at this;have:=bE j;have:=cU k;have:=dQ l;have:=uN h;have:=vO (iL h) o (by omega);omega),⟨⟨(by have b:=hx _ _ _ _ (by first|assumption|exact h0.z (by assumption)) (by first|assumption|exact hZ.y (by assumption)) (bE e);have:=b.1;have:=i;simp [j3]at this;have:=bE j;have:=cU k;have:=dQ l;have:=uN h;have:=vO (iL h) o (by omega);omega),⟨(fun B=>(by have b:=hx _ _ _ _ (by first|assumption|exact h0.z (by assumption)) (by first|assumption|exact hZ.y (by assumption)) (bE e);have:=b.1;have:=i;simp [j3]at this;have:=bE j;have:=cU k;have:=dQ l;have:=eq_of_beq B;have:=uN h;have:=vO (iL h) o (by omega);omega)),(fun C=>(by have b:=hx _ _ _ _ (by first|assumption|exact h0.z (by assumption)) (by first|assumption|exact hZ.y (by assumption)) (bE e);have:=b.1;have:=i;simp [j3]at this;have:=bE j;have:=cU k;have:=dQ l;have:=cU C;have:=uN h;have:=vO (iL h) o (by omega);omega))⟩⟩,(fun v=>(fun s=>⟨(by have b:=hx _ _ _ _ (by first|assumption|exact h0.z (by assumption)) (by first|assumption|exact hZ.y (by assumption)) (bE e);have:=b.1;have:=i;simp [j3]at this;have:=bE j;have:=cU k;have:=dQ l;have:=cU v;have:=bE s;have:=uN h;have:=vO (iL h) o (by omega);omega),⟨(by have b:=hx _ _ _ _ (by first|assumption|exact h0.z (by assumption)) (by first|assumption|exact hZ.y (by assumption)) (bE e);have:=b.1;have:=i;simp [j3]at this;have:=bE j;have:=cU k;have:=dQ l;have:=cU v;have:=bE s;have:=uN h;have:=vO (iL h) o (by omega);omega),(by have b:=hx _ _ _ _ (by first|assumption|exact h0.z (by assumption)) (by first|assumption|exact hZ.y (by assumption)) (bE e);have:=b.1;have:=i;simp [j3]at this;have:=bE j;have:=cU k;have:=dQ l;have:=cU v;have:=bE s;have:=uN h;have:=vO (iL h) o (by omega);omega)⟩⟩))⟩⟩))⟩))))
end
end Go.Proofs.YtfmgjpcmcjjoiaaGreatDoor
