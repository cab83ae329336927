/- Part of a proof: walks of the program. -/
import Derived.Test.YtfmgjpcmcjjoiaaGreatDoorYd
open Go.IntKind (i64 u64 u8)
open Int (toNat)
set_option maxRecDepth 100000
set_option maxHeartbeats 4000000
set_option linter.all false
noncomputable section
namespace Go.Proofs.YtfmgjpcmcjjoiaaGreatDoor
open Go Go.RowKit Go.ah
section
variable(d:Int)(g:Int)(u:Int)(h:Int)(r:z)(o:Int)(q:Int)(t:z)
def Rf:Int:=(cond (decide (d<0)) (i64.wrap (0- (i64.wrap (d+1)))) d)
def cx:Int:=((Rf d).tmod g)
def alu:a6:=⟨[.v a,.v a],fun(d:Int) (g:Int)=>⟨⟨some (0<g),b (cx d g)⟩⟩⟩
theorem Ta:bg 26 alu:=bj Tryz.func26
 fun(d:Int) (g:Int) b=>bf ⟨.pure,[.tmp 4],[(.t 0,a)],⟨[U],[]⟩⟩ (.ad (.j ⟨19,[],[(.t 0,a)],[],.f⟩ .z .z)) ((g:Int)≠0) e7 Tryz.func26 ((by omega))
def C:Int:=(cx d g)
def aln:a6:=⟨[.v a,.v a],fun(d:Int) (g:Int)=>⟨⟨some (0<g),b (C d g)⟩⟩⟩
theorem uL:bg 19 aln:=bj Tryz.func19
 fun(d:Int) (g:Int) b=>bf ⟨.pure,[.tmp 4],[(.t 0,a)],⟨[U],[]⟩⟩ (.z) (0<g) (b4 (aw Ta aT)) Tryz.func19 ((by omega))
def kB:z:=(A.toStr (A.lit ([(u8.wrap (i64.wrap (97+(cx d 9))))]:List Int)))
def alB:a6:=⟨[.v a],fun d=>⟨⟨none,.str (kB d)⟩⟩⟩
theorem awA:bg 78 alB:=bj Tryz.func78
 fun(d:Int)=>bf ⟨.pure,[.tmp 2],[(.t 0,au)],⟨[U],[]⟩⟩ (.z) (0<(9:Int)) (b4 (aw Ta aT)) Tryz.func78 ((by omega))
def JG(d:z)(g:Int):z:=((d:z).extract (toNat 0) (toNat (eU ((d:z).size:Int) g)))
def alC:a6:=⟨[.v au,.v a],fun d (g:Int)=>⟨⟨some (0≤g),.str (JG d g)⟩⟩⟩
theorem awB:bg 79 alC:=bj Tryz.func79
 fun d c (g:Int) b=>bf ⟨.pure,[.tmp 4],[(.t 0,au)],⟨[U],[]⟩⟩ (.z) (let a:=eU ((d:z).size:Int) g;((0:Int)≤0)∧((0:Int)≤a)∧((a:Int)≤((d:z).size:Int))) e7 Tryz.func79 ((by have:=lY ((d:z).size:Int) g;omega))
def Aj:z:=(cond ((cx h 3)==0) (kB h) (JG r 6))
def sc:Bool:=(cond ((i64.wrap (1+(cx d 22)))==1) ((i64.wrap (1+(cx d 22)))==1) (cond ((i64.wrap (1+(cx d 22)))==7) ((i64.wrap (1+(cx d 22)))==7) (cond ((i64.wrap (1+(cx d 22)))==8) ((i64.wrap (1+(cx d 22)))==8) (cond ((i64.wrap (1+(cx d 22)))==11) ((i64.wrap (1+(cx d 22)))==11) (cond ((i64.wrap (1+(cx d 22)))==12) ((i64.wrap (1+(cx d 22)))==12) (cond ((i64.wrap (1+(cx d 22)))==13) ((i64.wrap (1+(cx d 22)))==13) (cond ((i64.wrap (1+(cx d 22)))==15) ((i64.wrap (1+(cx d 22)))==15) ((i64.wrap (1+(cx d 22)))==16))))))))
def w3:Bool:=(cond ((i64.wrap (1+(cx d 22)))==5) ((i64.wrap (1+(cx d 22)))==5) ((i64.wrap (1+(cx d 22)))==6))
def acI:z:=(cond (sc d) (kB g) (cond ((i64.wrap (1+(cx d 22)))==3) (kB g) (cond ((i64.wrap (1+(cx d 22)))==20) (kB g) (cond ((i64.wrap (1+(cx d 22)))==4) (kB g) (cond (w3 d) (kB g) (cond ((i64.wrap (1+(cx d 22)))==14) (kB g) (cond ((i64.wrap (1+(cx d 22)))==22) ⟨#[]⟩ (kB g))))))))
def acJ:z:=(cond (sc d) ⟨#[]⟩ (cond ((i64.wrap (1+(cx d 22)))==3) ⟨#[]⟩ (cond ((i64.wrap (1+(cx d 22)))==20) ⟨#[]⟩ (cond ((i64.wrap (1+(cx d 22)))==4) (kB u) (cond (w3 d) (kB u) ⟨#[]⟩)))))
def acK:z:=(cond (sc d) (Aj h r) (cond ((i64.wrap (1+(cx d 22)))==3) ⟨#[]⟩ (cond ((i64.wrap (1+(cx d 22)))==20) ⟨#[]⟩ (cond ((i64.wrap (1+(cx d 22)))==4) (Aj h r) (cond (w3 d) ⟨#[]⟩ (cond ((i64.wrap (1+(cx d 22)))==14) (Aj h r) ⟨#[]⟩))))))
def acL:Int:=(cond (sc d) 0 (cond ((i64.wrap (1+(cx d 22)))==3) (h.tmod 1073741824) (cond ((i64.wrap (1+(cx d 22)))==20) (cx h 60) (cond ((i64.wrap (1+(cx d 22)))==4) 0 (cond (w3 d) 0 (cond ((i64.wrap (1+(cx d 22)))==14) (i64.wrap ((cx h 12)-6)) 0))))))
def Jz:Int:=(i64.wrap (1+(cx d 22)))
def JA:z:=(acI d g)
def JB:z:=(acJ d u)
def JC:z:=(acK d h r)
def JD:Int:=(acL d h)
def aly:a6:=⟨[.g [a,a,a,a,au]],fun d g u h r=>⟨⟨none,.agg [b (Jz d),.str (JA d g),.str (JB d u),.str (JC d h r),b (JD d h)]⟩⟩⟩
theorem awx:bg 49 aly:=bj Tryz.func49
 fun(d:Int) (g:Int) (u:Int) (h:Int) r n=>bf ⟨.pure,[.cell 2 34],[(.c 0 0,a),(.c 0 1,au),(.c 0 2,au),(.c 0 3,au),(.c 0 4,a)],⟨[.agg (us 5 [])],[]⟩⟩ (.ad (.ad (.ad (.j ⟨30,[],[(.t 4,au)],[],.f⟩ .z (.j ⟨12,[.b 0],[(.h 2 1,au),(.h 2 2,au),(.h 2 3,au),(.h 2 4,a)],[.f,(.b .f (.b .f (.b .f (.b .f (.b .f .l))))),(.b .f (.b .f (.b .f (.b .f (.b .f (.b .f .l)))))),(.b .f (.b .f (.b .f (.b .f (.b .f (.b .f .l))))))],.f⟩ (.ad (.j ⟨50331678,[],[(.t 25,y)],[],.f⟩ .z (.ad (.ad (.ad (.ad (.ad (.ad (.ad (.j ⟨72057594054705182,[],[(.t 56,y)],[],.f⟩ .z .z)))))))))) .z))))) (let b:=i64.wrap (1+(cx d 22));(0<(22:Int))∧((0≤(6:Int))∧((0<(3:Int))∧((sc d)=false→(((b==3)=true→((1073741824:Int)≠0))∧((b==3)=false→(((b==20)=true→(0<(60:Int)))∧((b==20)=false→((b==4)=false→((w3 d)=false→((b==14)=true→(0<(12:Int))))))))))))) (b4 (aw Ta (aw awA (aw awB aT)))) Tryz.func49 (⟨(by omega),⟨(by omega),⟨(by omega),(fun c=>⟨(fun f=>(by have:=c;simp [sc]at this;have:=eq_of_beq f;omega)),(fun e=>⟨(fun i=>(by have:=c;simp [sc]at this;have:=cU e;have:=eq_of_beq i;omega)),(fun j=>(fun k=>(fun l=>(fun m=>(by have:=c;simp [sc]at this;have:=cU e;have:=cU j;have:=cU k;have:=l;simp [w3]at this;have:=eq_of_beq m;omega)))))⟩)⟩)⟩⟩⟩)
def Jr:Int:=(cond ((C u 4)==0) 0 (C u 4))
def Js:Int:=(cond ((C u 4)==0) 0 (i64.wrap (1+(C g 4))))
def Jt:Int:=(cond ((C u 4)==0) 0 (Jz h))
def Ju(r:Int):z:=(cond ((C u 4)==0) ⟨#[]⟩ (JA h r))
def Jv:z:=(cond ((C u 4)==0) ⟨#[]⟩ (JB h o))
def Jw:z:=(cond ((C u 4)==0) ⟨#[]⟩ (JC h q t))
def Jx:Int:=(cond ((C u 4)==0) 0 (JD h q))
def alw:a6:=⟨[.g [a,a,a,a,a,a,a,au]],fun _ g u h r o q t=>⟨⟨none,.agg [b (Jr u),b (Js g u),b (Jt u h),.str (Ju u h r),.str (Jv u h o),.str (Jw u h q t),b (Jx u h q)]⟩⟩⟩
theorem awv:bg 37 alw:=bj Tryz.func37
 fun(d:Int) (g:Int) (u:Int) (h:Int) (r:Int) (o:Int) (q:Int) t c=>bf ⟨.pure,[.cell 2 36],[(.c 0 0,a),(.c 0 1,a),(.c 0 2,a),(.c 0 3,au),(.c 0 4,au),(.c 0 5,au),(.c 0 6,a)],⟨[.agg (us 7 [])],[]⟩⟩ (.z) ((0<(4:Int))∧(((C u 4)==0)=false→(0<(4:Int)))) (b4 (aw uL (aw awx aT))) Tryz.func37 (⟨(by omega),(fun b=>(by omega))⟩)
def kA:Bool:=(cond ((C d 20)==0) ((C d 20)==0) (cond ((C d 20)==1) ((C d 20)==1) ((C d 20)==2)))
def qt:Bool:=(cond ((C d 20)==3) ((C d 20)==3) ((C d 20)==4))
def qu:Bool:=(cond ((C d 20)==5) ((C d 20)==5) (cond ((C d 20)==6) ((C d 20)==6) ((C d 20)==7)))
def qv:Bool:=(cond ((C d 20)==8) ((C d 20)==8) (cond ((C d 20)==9) ((C d 20)==9) (cond ((C d 20)==10) ((C d 20)==10) ((C d 20)==11))))
def Jh:Int:=(cond (kA d) 1 (cond (qt d) 2 (cond (qu d) 3 (cond (qv d) 4 (cond ((C d 20)==12) 6 (cond ((C d 20)==13) 7 (cond ((C d 20)==14) 8 (cond ((C d 20)==15) 9 (cond ((C d 20)==16) 10 (cond ((C d 20)==17) 11 (cond ((C d 20)==18) 5 12)))))))))))
def Ji:Int:=(cond (kA d) (C g 3) (cond (qt d) (C g 3) (cond (qu d) (C g 3) (cond (qv d) (C g 3) (cond ((C d 20)==12) 0 (cond ((C d 20)==13) 0 (cond ((C d 20)==14) 0 (cond ((C d 20)==15) (C g 3) (cond ((C d 20)==16) (C g 3) (cond ((C d 20)==17) (C g 3) (cond ((C d 20)==18) (C g 3) 0)))))))))))
def Jj:Int:=(cond (kA d) 0 (cond (qt d) 0 (cond (qu d) 0 (cond (qv d) 0 (cond ((C d 20)==12) (C u 300) (cond ((C d 20)==13) (C u 300) (cond ((C d 20)==14) (C u 300) (cond ((C d 20)==15) (C u 500) (cond ((C d 20)==16) 0 (cond ((C d 20)==17) 0 (cond ((C d 20)==18) (C u 40) 0)))))))))))
def Jk:Int:=(cond (kA d) (Jr u) 0)
def Jl:Int:=(cond (kA d) (Js g u) 0)
def Jm:Int:=(cond (kA d) (Jt u h) 0)
def Jn(r:Int):z:=(cond (kA d) (Ju u h r) ⟨#[]⟩)
def Jo:z:=(cond (kA d) (Jv u h o) ⟨#[]⟩)
def Jp:z:=(cond (kA d) (Jw u h q t) ⟨#[]⟩)
def Jq:Int:=(cond (kA d) (Jx u h q) 0)
def als:a6:=⟨[.g [a,a,a,a,a,a,a,au]],fun d g u h r o q t=>⟨⟨none,.agg [b (Jh d),b (Ji d g),b (Jj d u),b (Jk d u),b (Jl d g u),b (Jm d u h),.str (Jn d u h r),.str (Jo d u h o),.str (Jp d u h q t),b (Jq d u h q)]⟩⟩⟩
theorem awt:bg 24 als:=bj Tryz.func24
 fun(d:Int) (g:Int) (u:Int) (h:Int) (r:Int) (o:Int) (q:Int) t A=>bf (ms:=[.f,.f,.f,(.b .f .l),(.b .f .l),(.b .f .l),(.b .f .l),(.b .f .l),(.b .f .l),(.b .f .l)]) ⟨.pure,[.cell 2 38],[(.c 0 0,a),(.c 0 1,a),(.c 0 2,a),(.c 0 3,a),(.c 0 4,a),(.c 0 5,a),(.c 0 6,au),(.c 0 7,au),(.c 0 8,au),(.c 0 9,a)],⟨[.agg (us 10 [])],[]⟩⟩ (.ad (.ad (.s (.ad (.j ⟨1550,[],[(.t 10,y)],[],.f⟩ .z (.ad (.j ⟨262670,[],[(.t 18,y)],[],.f⟩ .z (.ad (.j ⟨8389134,[],[(.t 23,y)],[],.f⟩ .z (.ad (.j ⟨536871438,[],[(.t 29,y)],[],.f⟩ .z .z)))))))) .z))) (let b:=C d 20;(0<(3:Int))∧((0<(20:Int))∧((kA d)=false→((qt d)=false→((qu d)=false→((qv d)=false→(((b==12)=true→(0<(300:Int)))∧((b==12)=false→(((b==13)=true→(0<(300:Int)))∧((b==13)=false→(((b==14)=true→(0<(300:Int)))∧((b==14)=false→(((b==15)=true→(0<(500:Int)))∧((b==15)=false→((b==16)=false→((b==17)=false→((b==18)=true→(0<(40:Int))))))))))))))))))) (b4 (aw uL (aw awv aT))) Tryz.func24 (⟨(by omega),⟨(by omega),(fun c=>(fun e=>(fun f=>(fun i=>⟨(fun w=>(by have:=c;simp [kA]at this;have:=e;simp [qt]at this;have:=f;simp [qu]at this;have:=i;simp [qv]at this;have:=eq_of_beq w;omega)),(fun j=>⟨(fun x=>(by have:=c;simp [kA]at this;have:=e;simp [qt]at this;have:=f;simp [qu]at this;have:=i;simp [qv]at this;have:=cU j;have:=eq_of_beq x;omega)),(fun k=>⟨(fun z=>(by have:=c;simp [kA]at this;have:=e;simp [qt]at this;have:=f;simp [qu]at this;have:=i;simp [qv]at this;have:=cU j;have:=cU k;have:=eq_of_beq z;omega)),(fun l=>⟨(fun m=>(by have:=c;simp [kA]at this;have:=e;simp [qt]at this;have:=f;simp [qu]at this;have:=i;simp [qv]at this;have:=cU j;have:=cU k;have:=cU l;have:=eq_of_beq m;omega)),(fun n=>(fun p=>(fun s=>(fun v=>(by have:=c;simp [kA]at this;have:=e;simp [qt]at this;have:=f;simp [qu]at this;have:=i;simp [qv]at this;have:=cU j;have:=cU k;have:=cU l;have:=cU n;have:=cU p;have:=cU s;have:=eq_of_beq v;omega)))))⟩)⟩)⟩)⟩))))⟩⟩)
def mx(d:A dE)(g:Int)(e:Int):Bool:=(cond (decide (e<(d.n:Int))) (decide (e<g)) false)
def oh(d:A dE)(g:Int):Nat→Int→A F→A F
 |0,_,_=>default
 |k+1,e,m=>(cond (mx d g e) (oh d g k (i64.wrap (e+1)) (A.app m (A.lit ([(⟨(Jh (d.at' (toNat e)).j),(Ji (d.at' (toNat e)).j (d.at' (toNat e)).ai),(Jj (d.at' (toNat e)).j (d.at' (toNat e)).K),(Jk (d.at' (toNat e)).j (d.at' (toNat e)).K),(Jl (d.at' (toNat e)).j (d.at' (toNat e)).ai (d.at' (toNat e)).K),(Jm (d.at' (toNat e)).j (d.at' (toNat e)).K (d.at' (toNat e)).an),(Jn (d.at' (toNat e)).j (d.at' (toNat e)).K (d.at' (toNat e)).an (d.at' (toNat e)).p),(Jo (d.at' (toNat e)).j (d.at' (toNat e)).K (d.at' (toNat e)).an (d.at' (toNat e)).v),(Jp (d.at' (toNat e)).j (d.at' (toNat e)).K (d.at' (toNat e)).an (d.at' (toNat e)).ax (d.at' (toNat e)).aF),(Jq (d.at' (toNat e)).j (d.at' (toNat e)).K (d.at' (toNat e)).an (d.at' (toNat e)).ax)⟩:F)]:List F)))) m)
def aqW(d:A dE)(g:Int):A F:=oh d g ((toNat ((d.n:Int)-0))+1) 0 (L:A F)
def az(d:A dE)(g:Int):A F:=(aqW d g)
def alm:a6:=⟨[.v (.af pK),.v a],fun d g=>⟨⟨none,(aB.ae gI).ab (az d g)⟩⟩⟩
theorem xT:bg 14 alm:=bj Tryz.func14
 fun d i _ (g:Int)=>bf ⟨.own gI,[.tmp 4],[(.h 0 0,.ae gI)],⟨[],[]⟩⟩ (.ad (.ad (.j ⟨48,[],[],[],.f⟩ (.ad (.cy ⟨115,[],[(.t 5,gI)],[(.t 6,a),(.h 0 0,.ae gI)],some 0,false,48,[],[(.h 0 0,.ae gI)],fun k (s:Int×A F)=>oh d g k s.1 s.2,.f,fun(s:Int×A F)=>(0≤s.1∧s.1≤(d.n:Int)∧(s.2.n:Int)=s.1),fun(s:Int×A F)=>(toNat ((d.n:Int)-s.1)),none⟩ (.s (.j ⟨73587,[],[(.t 12,y),(.t 16,y)],[],.f⟩ .z .z) .z))) .z))) (((0≤(0:Int)∧(0:Int)≤(d.n:Int)∧((0:Nat):Int)=(0:Int)))∧(∀(e:Int) (m:A F),let b:=i64.wrap (e+1);(0≤e∧e≤(d.n:Int)∧(m.n:Int)=e)→(((mx d g e)=true→(((0:Int)≤e∧e<(d.n:Int))∧(m.n+1≤549755813888)))∧((mx d g e)=true→((0≤b∧b≤(d.n:Int)∧(((m.n+1):Nat):Int)=b)∧(toNat ((d.n:Int)-b))<(toNat ((d.n:Int)-e))))))) (b4 (aw awt aT)) Tryz.func14 (⟨(by omega),(fun e m h=>⟨(fun c=>⟨(by have:=c;(try simp [mx]at this);omega),(by have:=c;(try simp [mx]at this);omega)⟩),(fun f=>(by have:=f;(try simp [mx]at this);first|omega|(have:=N (e+1);omega)))⟩)⟩)
theorem agi(d:A dE)(g:Int)(b:0≤g∧g≤3000): ∀(k:Nat) (v:Int) (s:A F),0≤v→(s.n:Int)=v→v≤g→((oh d g k v s).n:Int)≤g
 |0,_,_,_,_,_=>by
  rw[oh];exact b.1
 |k+1,v,s,f,h,i=>by
  rw[oh]
  cases e:mx d g v
  ·rw[aQ];omega
  ·rw[aN,N _];have c:v<g:=by
    unfold mx at e
    cases a:decide (v<(d.n:Int))with
    |false=>rw[a]at e;cases e
    |true=>rw[a]at e;exact aq e
   refine agi d g b k (v+1) _ (by omega) ?_ (by omega);show(((s.n+1:Nat)):Int)=v+1;omega
theorem gE(d:A dE)(g:Int):((az d g).n:Int)≤g∨g<0∨3000<g:=by
 by_cases a:0≤g∧g≤3000
 ·exact .inl (agi d g a _ 0 L (dp _) rfl a.1)
 ·omega
def bq(d:A F)(g:A F):A F:=(A.app d g)
def alk:a6:=⟨[.v (.af gI),.v (.af gI)],fun d g=>⟨⟨some ((d.n:Int)+g.n≤549755813888),(aB.ae gI).ab (bq d g)⟩⟩⟩
theorem xS:bg 13 alk:=bj Tryz.func13
 fun d b _ g c _ a=>bf ⟨.own gI,[.tmp 4],[(.h 0 0,.ae gI)],⟨[],[]⟩⟩ (.z) ((d.n≤549755813888)∧(d.n+g.n≤549755813888)) e7 Tryz.func13 (⟨(by omega),(by omega)⟩)
theorem kL(d g:A F):(bq d g).n=d.n+g.n:=rfl
def acC(d:A F):Bool:=(cond ((tN d)==0) (((qc d).n:Int)==3) false)
def fN(d:A F):A dg:=(qc d)
def uj(d:A F):A a7:=(tL d)
def aqS(d:A F):A aJ:=(zV d)
def bM(d:A F):Int:=(tM d)
def fm(d:A F):Bool:=(acC d)
def ali:a6:=⟨[.v (.af gI)],fun d=>⟨⟨none,.c9 [.agg [aH 11 tv (fN d),aH 12 vI (uj d),aH 2 vJ (aqS d),b (bM d)],.bool (fm d)]⟩⟩⟩
theorem AS:bg 12 ali:=bj Tryz.func12
 fun d _ _=>bf ⟨.pure,[.cell 2 27,.tmp 3],[(.c 0 0,.af rm),(.c 0 1,.af gr),(.c 0 2,.af ct),(.c 0 3,a),(.t 1,y)],⟨[.agg (us 4 []),U],[]⟩⟩ (.ad (.ad (.j ⟨12,[.b 1],[(.t 3,y)],[],.f⟩ .z .z))) True (b4 (aw av_ aT)) Tryz.func12 (trivial)
end
theorem VE{α:Type}{s:A α}{i:Nat}(h:i<s.n):s.B.drop i=s.at' i::s.B.drop (i+1):=by
 rw[Gk (by rw[dt];exact h)]
 congr 1
 simp [A.B]
def cg(l:List F):ak:=l.foldl cw r6
theorem ahw{d:A F}(e:d.n≤549755813888): ∀(m a v:Nat) (X:ak),v+m=d.n→m≤a→bc (qd d (a+1) (v:Int) X)=(d.B.drop v).foldl cw X
 |0,a,v,X,c,b=>by
  rw[qd,bI (show¬(v:Int)<(d.n:Int) by omega),aQ,G2,List.drop_eq_nil_of_le (by rw[dt];omega)];rfl
 |m+1,a,v,X,c,b=>by
  obtain⟨a,rfl⟩: ∃q,a=q+1:=⟨a-1,by omega⟩;rw[qd,bT (show(v:Int)<(d.n:Int) by omega),aN,N _,VE (by omega),Ge];exact ahw e m a (v+1) _ (by omega) (by omega)
theorem L4{d:A F}(a:d.n≤549755813888):bc (bD d)=cg d.B:=by
 have h:=ahw a d.n (toNat ((d.n:Int)- (0:Int))) 0 r6 (by omega) (by omega);rw[List.drop_zero]at h;exact h
theorem ags{d:A F}(h:d.n≤3000)(b: ∀q,q<d.n→e6 (d.at' q)): ∀(m a:Nat) (v:Int),0≤v→v+(m:Int)=(d.n:Int)→m≤a→(k9 d (a+1) v).1=false
 |0,a,v,c,g,f=>by
  rw[k9,bI (show¬v<(d.n:Int) by omega)];rfl
 |m+1,a,v,c,g,f=>by
  obtain⟨a,rfl⟩: ∃q,a=q+1:=⟨a-1,by omega⟩;have e:e6 (d.at' (toNat v)):=b _ (by omega);unfold e6 at e;rw[k9,bT (show v<(d.n:Int) by omega),aN,e,show((0:Int)!=0)=false from rfl,aQ,N _];exact ags h b m a (v+1) (by omega) (by omega) (by omega)
def ew(d:A F):Prop:=d.n≤3000∧ ∀q,q<d.n→e6 (d.at' q)
theorem oy{d:A F}(h:ew d):decide ((d.n:Int)>3000)=false∧j4 d=true:=by
 have a:=h.1;refine⟨bI (by omega),?_⟩;have e:=ags h.1 h.2 d.n (toNat ((d.n:Int)-0)) 0 (dp _) (by omega) (by omega);have e:(kz d).1=false:=e;unfold j4;rw[e];rfl
theorem ahu{d:A F}(h:ew d):tN d=0:=by
 unfold tN;rw[(oy h).1,(oy h).2];rfl
theorem aBo{d:A F}(h:ew d):tM d=((cg d.B).s.n:Int):=by
 have a:=h.1;unfold tM;rw[(oy h).1,(oy h).2,L4 (by omega)];rfl
def eF(n:H):dg:=⟨n.up,n.aX,(n.ro==3),n.co,n.l,n.lt,n.li,tQ n.eO,tR n.eC,tS n.et,tT n.eD⟩
def views(C:ak):A dg:=A.app (A.app (A.lit [eF (C.Z 0)]) (A.lit [eF (C.Z 1)])) (A.lit [eF (C.Z 2)])
theorem L6{d:A F}(h:ew d):qc d=views (cg d.B):=by
 have a:=h.1;unfold qc;rw[(oy h).1,(oy h).2,L4 (by omega)];rfl
theorem ah1{d:A F}(b:(bc (bD d)).told.n≤549755813888): ∀(m a v:Nat) (s:A a7),v+m=(bc (bD d)).told.n→m≤a→(wi d (a+1) (v:Int) s).n=s.n+m
 |0,a,v,s,g,f=>by
  rw[wi,bI (show¬(v:Int)<(((bc (bD d)).told.n:Nat):Int) by omega),aQ];omega
 |m+1,a,v,s,g,f=>by
  obtain⟨a,rfl⟩: ∃q,a=q+1:=⟨a-1,by omega⟩;rw[wi,bT (show(v:Int)<(((bc (bD d)).told.n:Nat):Int) by omega),aN,N _];have k:=ah1 b m a (v+1) (A.app s (A.lit ([((bc (bD d)).told.at' (toNat (v:Int)))]:List a7))) (by omega) (by omega);have e:(A.app s (A.lit ([((bc (bD d)).told.at' (toNat (v:Int)))]:List a7))).n=s.n+1:=rfl;have c:(((v+1:Nat):Nat):Int)=(v:Int)+1:=by omega
  rw[c]at k;rw[k];omega
theorem aBs{d:A F}(h:ew d):(tL d).n=(cg d.B).told.n:=by
 have a:=h.1;have q:=hQ (oy h).1 (oy h).2;have k:=ah1 (d:=d) (by omega) (bc (bD d)).told.n (toNat ((((bc (bD d)).told.n:Nat):Int)-0)) 0 L (by omega) (by omega);have z:(L:A a7).n=0:=rfl;unfold tL;rw[(oy h).1,(oy h).2,aQ,aN,←L4 (by omega)];have k:(Dt d).n=(L:A a7).n+(bc (bD d)).told.n:=k;rw[k,z,cN]
theorem oV{d:A F}(h:ew d):fs d.n (cg d.B):=by
 have a:=h.1;rw[←L4 (by omega)];exact XL (oy h).1 (oy h).2
theorem Cp(l m:List F):cg (l++m)=m.foldl cw (cg l):=List.foldl_append ..
def dD(x:Int):Prop:= -9223372036854775808≤x∧x≤9223372036854775807
theorem iT{x m:Int}(d:dD x)(b:0<m):0≤cx x m∧cx x m<m:=by
 have a:0≤Rf x:=by
  unfold Rf;obtain⟨e,f⟩:=d
  by_cases c:x<0
  ·rw[bT c,aN,N (x+1),N (0- (x+1))];omega
  ·rw[bI c,aQ];omega
 exact⟨Int.tmod_nonneg m a,Int.tmod_lt_of_pos _ b⟩
theorem aix(x:Int):kx (kB x)=true:=by
 have e:(kB x).size=1:=rfl;unfold kx C0;rw[e];rfl
theorem aDI(x:Int):ji (kB x)=true:=by
 have e:(kB x).size=1:=rfl;unfold ji;rw[e];rfl
theorem aDJ(x:z):ji (JG x 6)=true:=by
 unfold ji JG;have h:=lY (x.size:Int) 6;have e:(x.extract (toNat 0) (toNat (eU (x.size:Int) 6))).size≤6:=by
  rw[ByteArray.size_extract];omega
 exact bT (by omega)
theorem apM:ji ⟨#[]⟩=true:=rfl
theorem Lp{x:Int}(h: -1099511627776≤x∧x≤1099511627776):j1 x=true:=by
 unfold j1 HH;simp;omega
theorem af8{x:Int}(h:1≤x∧x≤1048576):vZ x=true:=by
 unfold vZ P9;simp;omega
theorem aCq(x:Int): -1099511627776≤x.tmod 1073741824∧x.tmod 1073741824≤1099511627776:=by
 have a:=Int.tmod_lt_of_pos x (show(0:Int)<1073741824 by decide);have b:=Int.lt_tmod_of_pos x (show(0:Int)<1073741824 by decide);omega
theorem anA{d g u h:Int}{r:z}(p:dD d)(l:dD h):fC (Jz d) (JA d g) (JB d u) (JC d h r) (JD d h)=0:=by
 have k:=iT p (m:=22) (by decide);have w:=N (1+cx d 22);unfold Jz JA JB JC JD acI acJ acK acL w3 sc;rw[w];have j:ji (Aj h r)=true:=by
  unfold Aj
  cases (cx h 3==0)
  ·exact aDJ _
  ·exact aDI _
 have Td:=iT l (m:=60) (by decide);have y:=iT l (m:=12) (by decide);have q:=N (cx h 12-6);have a:=Lp (x:=cx h 60) (by omega);have b:=Lp (x:=cx h 12-6) (by omega);have c:=Lp (aCq h);have n:j1 0=true:=Lp (by decide);have f:=aix g;have i:=aix u;have o:=apM;rw[q];revert f i a b c j;generalize kB g=K;generalize kB u=F;generalize Aj h r=T;generalize cx h 60=s;generalize cx h 12-6=t;generalize h.tmod 1073741824=v;intro f i a b c j;have e:1+cx d 22=1∨1+cx d 22=2∨1+cx d 22=3∨1+cx d 22=4∨1+cx d 22=5∨1+cx d 22=6∨1+cx d 22=7∨1+cx d 22=8∨1+cx d 22=9∨1+cx d 22=10∨1+cx d 22=11∨1+cx d 22=12∨1+cx d 22=13∨1+cx d 22=14∨1+cx d 22=15∨1+cx d 22=16∨1+cx d 22=17∨1+cx d 22=18∨1+cx d 22=19∨1+cx d 22=20∨1+cx d 22=21∨1+cx d 22=22:=by omega
 revert e;generalize 1+cx d 22=A;intro e;unfold fC sd Rq Rp Eo JJ w8 w7 w6 JI;rcases e with rfl|rfl|rfl|rfl|rfl|rfl|rfl|rfl|rfl|rfl|rfl|rfl|rfl|rfl|rfl|rfl|rfl|rfl|rfl|rfl|rfl|rfl<;>simp [f,i,o,n,a,b,c,j]
theorem anh{g u h r o q:Int}{t:z}(a:dD g)(b:dD u)(d:dD h)(e:dD q):iO (Jr u) (Js g u) (Jt u h) (Ju u h r) (Jv u h o) (Jw u h q t) (Jx u h q)=0:=by
 have i:0≤C u 4∧C u 4<4:=iT b (by decide);have f:0≤C g 4∧C g 4<4:=iT a (by decide);have w:=N (1+C g 4);unfold Jr Js Jt Ju Jv Jw Jx;rw[w]
 by_cases c:C u 4=0
 ·rw[show(C u 4==0)=true by simp [c]];simp [iO]
 ·rw[show(C u 4==0)=false by simp [c]];simp only[aQ];unfold iO Rr;rw[show(C u 4==0)=false by simp [c],af8 (x:=C u 4) (by omega),af8 (x:=1+C g 4) (by omega)];exact anA d e
theorem hD{k n p:Int}(i:2≤k∧k≤12)(c:ml k=true→0≤n∧n<3)(d:ml k=false→n=0)(e:mm k=true→0≤p∧p≤400000)(f:mm k=false→p=0):ld k n p 0 0 0 ⟨#[]⟩ ⟨#[]⟩ ⟨#[]⟩ 0=0:=by
 have g:Et k=false:=by
  unfold Et;rw[bI (by omega),bI (by omega)];rfl
 have h:As k n p=false:=by
  unfold As
  cases a:ml k<;>cases b:mm k<;>simp only[aN,aQ]
  ·have:=e b;rw[bI (by omega),bI (by omega)];rfl
  ·have:=c a;rw[bI (by omega),bI (by omega)];rfl
  ·have:=c a;have:=e b;rw[bI (by omega),bI (by omega),bI (by omega),bI (by omega)];rfl
 have bl:w_ k n p 0 0 0 ⟨#[]⟩ ⟨#[]⟩ ⟨#[]⟩ 0=false:=by
  unfold w_
  cases a:ml k<;>cases b:mm k<;>simp
  ·exact⟨d a,f b⟩
  ·exact d a
  ·exact f b
 unfold ld;rw[g,h,bl,show(k==1)=false by simp;omega];rfl
theorem Rw{n h r o:Int}{q t f:z}{w:Int}(c:0≤n∧n<3):ld 1 n 0 h r o q t f w=iO h r o q t f w:=by
 have a:ml 1=true:=rfl;have b:mm 1=false:=rfl;unfold ld Et As w_;rw[a,b,bI (show¬n<0 by omega),bI (show¬n≥3 by omega)];rfl
def pM(g:dE):Prop:=dD g.j∧dD g.ai∧dD g.K∧dD g.an∧dD g.ax
def Ot(g:dE):F:=⟨(Jh g.j),(Ji g.j g.ai),(Jj g.j g.K),(Jk g.j g.K),(Jl g.j g.ai g.K),(Jm g.j g.K g.an),(Jn g.j g.K g.an g.p),(Jo g.j g.K g.an g.v),(Jp g.j g.K g.an g.ax g.aF),(Jq g.j g.K g.an g.ax)⟩
theorem amC{a:dE}(i:pM a):e6 (Ot a):=by
 obtain⟨j,f,c,l,m⟩:=i;have s:0≤C a.j 20∧C a.j 20<20:=iT j (by decide);have b:0≤C a.ai 3∧C a.ai 3<3:=iT f (by decide);have v:0≤C a.K 300∧C a.K 300<300:=iT c (by decide);have w:0≤C a.K 500∧C a.K 500<500:=iT c (by decide);have x:0≤C a.K 40∧C a.K 40<40:=iT c (by decide);have d:=anh (g:=a.ai) (u:=a.K) (h:=a.an) (r:=a.p) (o:=a.v) (q:=a.ax) (t:=a.aF) f c l m;unfold e6 Ot;unfold Jh Ji Jj Jk Jl Jm Jn Jo Jp Jq qv qu qt kA;have e:C a.j 20=0∨C a.j 20=1∨C a.j 20=2∨C a.j 20=3∨C a.j 20=4∨C a.j 20=5∨C a.j 20=6∨C a.j 20=7∨C a.j 20=8∨C a.j 20=9∨C a.j 20=10∨C a.j 20=11∨C a.j 20=12∨C a.j 20=13∨C a.j 20=14∨C a.j 20=15∨C a.j 20=16∨C a.j 20=17∨C a.j 20=18∨C a.j 20=19:=by omega
 rcases e with e|e|e|e|e|e|e|e|e|e|e|e|e|e|e|e|e|e|e|e<;>simp only[e]
 ·exact(Rw b).trans d
 ·exact(Rw b).trans d
 ·exact(Rw b).trans d
 ·exact hD (k:=2) (by decide) (fun _=>b) (fun z=>by cases z) (fun z=>by cases z) (fun _=>rfl)
 ·exact hD (k:=2) (by decide) (fun _=>b) (fun z=>by cases z) (fun z=>by cases z) (fun _=>rfl)
 ·exact hD (k:=3) (by decide) (fun _=>b) (fun z=>by cases z) (fun z=>by cases z) (fun _=>rfl)
 ·exact hD (k:=3) (by decide) (fun _=>b) (fun z=>by cases z) (fun z=>by cases z) (fun _=>rfl)
 ·exact hD (k:=3) (by decide) (fun _=>b) (fun z=>by cases z) (fun z=>by cases z) (fun _=>rfl)
 ·exact hD (k:=4) (by decide) (fun _=>b) (fun z=>by cases z) (fun z=>by cases z) (fun _=>rfl)
 ·exact hD (k:=4) (by decide) (fun _=>b) (fun z=>by cases z) (fun z=>by cases z) (fun _=>rfl)
 ·exact hD (k:=4) (by decide) (fun _=>b) (fun z=>by cases z) (fun z=>by cases z) (fun _=>rfl)
 ·exact hD (k:=4) (by decide) (fun _=>b) (fun z=>by cases z) (fun z=>by cases z) (fun _=>rfl)
 ·exact hD (k:=6) (n:=0) (p:=C a.K 300) (by decide) (fun z=>by cases z) (fun _=>rfl) (fun _=>by omega) (fun z=>by cases z)
 ·exact hD (k:=7) (n:=0) (p:=C a.K 300) (by decide) (fun z=>by cases z) (fun _=>rfl) (fun _=>by omega) (fun z=>by cases z)
 ·exact hD (k:=8) (n:=0) (p:=C a.K 300) (by decide) (fun z=>by cases z) (fun _=>rfl) (fun _=>by omega) (fun z=>by cases z)
 ·exact hD (k:=9) (p:=C a.K 500) (by decide) (fun _=>b) (fun z=>by cases z) (fun _=>by omega) (fun z=>by cases z)
 ·exact hD (k:=10) (by decide) (fun _=>b) (fun z=>by cases z) (fun z=>by cases z) (fun _=>rfl)
 ·exact hD (k:=11) (by decide) (fun _=>b) (fun z=>by cases z) (fun z=>by cases z) (fun _=>rfl)
 ·exact hD (k:=5) (p:=C a.K 40) (by decide) (fun _=>b) (fun z=>by cases z) (fun _=>by omega) (fun z=>by cases z)
 ·exact hD (k:=12) (by decide) (fun z=>by cases z) (fun _=>rfl) (fun z=>by cases z) (fun _=>rfl)
theorem Oy{α:Type}[Inhabited α]{P:α→Prop}{s:A α}{x:α}(h: ∀i,i<s.n→P (s.at' i))(b:P x): ∀i,i<(A.app s (A.lit [x])).n→P ((A.app s (A.lit [x])).at' i):=by
 intro j a;show P (cond (Nat.blt j s.n) (s.at' j) (([x]:List α).getD (j-s.n) default))
 cases e:Nat.blt j s.n with
 |true=>exact h j (by rw[fU]at e;exact e)
 |false=>
  have d:j<s.n+1:=a;have: ¬j<s.n:=fun aZ=>by
   rw[show Nat.blt j s.n=true by rw[fU];exact aZ]at e
   cases e
  have c:j-s.n=0:=by omega
  rw[c];exact b
def dJ(x:A dE):Prop:=x.n≤549755813888∧ ∀i,i<x.n→pM (x.at' i)
theorem Wy{d:A dE}{g:Int}(h:dJ d)(n:0≤g∧g≤3000): ∀(m a:Nat) (v:Int) (s:A F),0≤v→v+(m:Int)=(d.n:Int)→m≤a→(s.n:Int)=v→v≤g→(∀q,q<s.n→e6 (s.at' q))→((oh d g (a+1) v s).n:Int)≤g∧ ∀q,q<(oh d g (a+1) v s).n→e6 ((oh d g (a+1) v s).at' q)
 |0,a,v,s,f,j,i,k,l,b=>by
  have e:mx d g v=false:=by
   unfold mx;rw[bI (by omega)];rfl
  rw[oh,e,aQ];exact⟨by omega,b⟩
 |m+1,a,v,s,f,j,i,k,l,b=>by
  obtain⟨a,rfl⟩: ∃q,a=q+1:=⟨a-1,by omega⟩;have o:=h.1
  by_cases c:v<g
  ·have e:mx d g v=true:=by
    unfold mx;rw[bT (show v<(d.n:Int) by omega),bT c];rfl
   rw[oh,e,aN,N _];refine Wy h n m a (v+1) (A.app s (A.lit [Ot (d.at' (toNat v))])) (by omega) (by omega) (by omega) ?_ (by omega) (Oy b (amC (h.2 _ (by omega))));show(((s.n+1:Nat)):Int)=v+1;omega
  ·have e:mx d g v=false:=by
    unfold mx;rw[bT (show v<(d.n:Int) by omega),bI c];rfl
   rw[oh,e,aQ];exact⟨by omega,b⟩
theorem Ou{d:A dE}{g:Int}(h:dJ d)(a:0≤g∧g≤3000):((az d g).n:Int)≤g∧ ∀q,q<(az d g).n→e6 ((az d g).at' q):=
 Wy h a d.n _ 0 L (dp _) (by omega) (by omega) rfl a.1 (fun q b=>absurd b (eH q))
theorem Vs{C:ak}{a:F}(h:a.j=4):cw C a=Fs (toNat a.ai) C a:=by
 unfold cw;simp only[h,ak.bV];rfl
theorem aDA{C:ak}{a:F}(h:a.j=6):cw C a=DP a C.s C:=by
 unfold cw;simp only[h,ak.bV];rfl
theorem aik{C:ak}{a:F}(h:a.j=7):cw C a=zY a C.s C:=by
 unfold cw;simp only[h,ak.bV];rfl
theorem aDw{C:ak}{a:F}(h:a.j=8):cw C a=DQ a C.s C:=by
 unfold cw;simp only[h,ak.bV];rfl
theorem aDy{C:ak}{a:F}(h:a.j=12):cw C a=n_ C.s C:=by
 unfold cw;simp only[h,ak.bV];rfl
def u2(C:ak)(m:Int):ak:=e2 {C with s:=A.del C.s (toNat m) (toNat (i64.wrap (m+1)))} (C.s.at' (toNat m))
def ax2(C:ak)(m:Int):ak:={C with s:=A.del C.s (toNat m) (toNat (i64.wrap (m+1)))}
theorem Md{C:ak}{a:F}(h:a.j=6)(c:0≤a.K)(d:0<C.s.n):cw C a=u2 C (a.K.tmod (C.s.n:Int)):=by
 have e:h8 a C.s=a.K.tmod (C.s.n:Int):=by
  unfold h8;rw[bT (by omega),aN]
 have b:=(s4 (n:=(C.s.n:Int)) c (by omega)).1;rw[aDA h];unfold DP abW zX;rw[e,bT b,ak.bV];rfl
theorem ax4{C:ak}{a:F}(h:a.j=7)(c:0≤a.K)(d:0<C.s.n):cw C a=ax2 C (a.K.tmod (C.s.n:Int)):=by
 have e:h9 a C.s=a.K.tmod (C.s.n:Int):=by
  unfold h9;rw[bT (by omega),aN]
 have b:=(s4 (n:=(C.s.n:Int)) c (by omega)).1;rw[aik h];unfold zY Iw;rw[e,bT b,ak.bV];rfl
theorem ax3{C:ak}{a:F}(h:a.j=7)(b:C.s.n=0):cw C a=C:=by
 have e:h9 a C.s= -1:=by
  unfold h9;rw[bI (by omega),aQ]
 rw[aik h];unfold zY;rw[e,ak.bV];rfl
theorem X1{s:A O}{m:Int}(h:0≤m∧m<(s.n:Int))(a:s.n≤300):(A.del s (toNat m) (toNat (i64.wrap (m+1)))).n=s.n-1:=by
 rw[N _];show s.n- (toNat (m+1)-toNat m)=s.n-1;omega
theorem lost{C:ak}{a:F}(h:a.j=7)(b:0≤a.K)(d:C.s.n≤300):views (cw C a)=views C∧(cw C a).told=C.told∧(cw C a).s.n=C.s.n-1:=by
 by_cases c:0<C.s.n
 ·rw[ax4 h b c];exact⟨rfl,rfl,X1 (s4 b (by omega)) d⟩
 ·rw[ax3 h (by omega)];exact⟨rfl,rfl,by omega⟩
theorem ox(C:ak)(D:A O)(i:Nat):(⟨C.a,C.b,C.c,D,C.told,C.a2⟩:ak).Z i=C.Z i:=by
 match i with
 |0=>rfl
 |1=>rfl
 |i+2=>rfl
theorem aCg{k:Nat}{C:ak}(a:fs k C){m:Int}(h:0≤m∧m<(C.s.n:Int)):(u2 C m).s.n=C.s.n-1:=by
 have q:=yz (C:={C with s:=A.del C.s (toNat m) (toNat (i64.wrap (m+1)))}) (ms:=C.s.at' (toNat m)) (fun i=>by rw[ox];exact a.j i) (a.tn _ (by omega));unfold u2;rw[q.a];exact X1 h a.jU
theorem aCr{k n t:Int}(a:0≤k)(c:0<n)(b:0≤t):(k+n*t).tmod n=k.tmod n:=by
 have:0≤n*t:=Int.mul_nonneg (by omega) b;rw[Int.tmod_eq_emod_of_nonneg (by omega),Int.tmod_eq_emod_of_nonneg a,Int.add_mul_emod_self_left]
theorem aDa{C:ak}{i:Nat}{n:H}{E:A O}{B:A a7}{G:A aJ}(h:eF n=eF (C.Z i)):views (C.put i n E B G)=views C:=by
 unfold views
 match i with
 |0=>
  rw[show(C.put 0 n E B G).Z 0=n from rfl,h];rfl
 |1=>
  rw[show(C.put 1 n E B G).Z 1=n from rfl,h];rfl
 |i+2=>
  rw[show(C.put (i+2) n E B G).Z 2=n from rfl,h];rfl
theorem ahY(i:Nat)(ac:F)(Z:H)(h:Z.up=true):zW i ac Z=wL Z:=by
 unfold zW o6 ob;simp only[h,H.bV];rfl
theorem ahX(i:Nat)(ac:F)(Z:H)(h:Z.up=false):zW i ac Z=Z:=by
 unfold zW o6;simp only[h,H.bV];rfl
theorem aB6(i:Nat)(ac:F)(Z:H)(E:A O):QQ i ac Z E=bif Z.up then D7 Z E else E:=by
 unfold QQ qf wE;rfl
theorem aB8{C:ak}{a:F}(h:a.j=4):views (cw C a)=views C:=by
 rw[Vs h];unfold Fs;refine aDa ?_
 cases e:(C.Z (toNat a.ai)).up
 ·rw[ahX _ _ _ e]
 ·rw[ahY _ _ _ e];rfl
theorem aAK(C:ak)(i:Nat)(n:H)(E:A O)(B:A a7)(G:A aJ):(C.put i n E B G).Z i=n:=by
 match i with
 |0=>rfl
 |1=>rfl
 |i+2=>rfl
theorem aB7{C:ak}{a:F}(h:a.j=4):(cw (cw C a) a).s.n=(cw C a).s.n:=by
 rw[Vs (C:=cw C a) h];unfold Fs;rw[(yg _ _ _ _ _ _).1,aB6];have b:(cw C a).Z (toNat a.ai)=zW (toNat a.ai) a (C.Z (toNat a.ai)):=by
  rw[Vs h];unfold Fs;exact aAK _ _ _ _ _ _
 rw[b]
 cases e:(C.Z (toNat a.ai)).up
 ·rw[ahX _ _ _ e,e];rfl
 ·rw[ahY _ _ _ e,show(wL (C.Z (toNat a.ai))).up=true from e,aN];rfl
theorem nA{d:A dE}(h:dJ d):ew (az d 80)∧(az d 80).n≤80:=by
 have k:=Ou (g:=80) h (by decide);exact⟨⟨by have:=k.1;omega,k.2⟩,by have:=k.1;omega⟩
theorem sP{b:A F}(h:ew b)(d:b.n<3000){a:F}(c:e6 a):ew (bq b (A.lit [a])):=
 ⟨by show b.n+1≤3000;omega,Oy h.2 c⟩
theorem aiS(b:A F)(a:F):(bq b (A.lit [a])).B=b.B++[a]:=by
 unfold bq;rw[oI,oJ]
theorem rJ(b:A F)(a:F):cg (bq b (A.lit [a])).B=cw (cg b.B) a:=by
 rw[aiS,Cp];rfl
theorem kN{a:A F}(h:ew a):fm a=true:=by
 unfold fm acC;rw[ahu h,L6 h];rfl
theorem LP{a:A F}(h:ew a):fN a=views (cg a.B):=L6 h
theorem Bl{a:A F}(h:ew a):(uj a).n=(cg a.B).told.n:=aBs h
theorem mK{a:A F}(h:ew a):bM a=((cg a.B).s.n:Int):=aBo h
theorem zi{a B:A F}(b:ew a)(c:ew B)(h:views (cg a.B)=views (cg B.B)):kl (fN a) (fN B):=by
 rw[LP b,LP c];exact⟨h,bx 3⟩
theorem amB{p:Int}(a:0≤p∧p≤400000):e6 ⟨7,0,p,0,0,0,⟨#[]⟩,⟨#[]⟩,⟨#[]⟩,0⟩:=hD (k:=7) (n:=0) (p:=p) (by decide) (fun z=>by cases z) (fun _=>rfl) (fun _=>a) (fun z=>by cases z)
theorem yR{p:Int}(a:0≤p∧p≤400000):e6 ⟨6,0,p,0,0,0,⟨#[]⟩,⟨#[]⟩,⟨#[]⟩,0⟩:=hD (k:=6) (n:=0) (p:=p) (by decide) (fun z=>by cases z) (fun _=>rfl) (fun _=>a) (fun z=>by cases z)
theorem Wt{i:Int}(a:0≤i∧i<3):e6 ⟨4,i,0,0,0,0,⟨#[]⟩,⟨#[]⟩,⟨#[]⟩,0⟩:=hD (k:=4) (n:=i) (p:=0) (by decide) (fun _=>a) (fun z=>by cases z) (fun z=>by cases z) (fun _=>rfl)
theorem amA:e6 ⟨12,0,0,0,0,0,⟨#[]⟩,⟨#[]⟩,⟨#[]⟩,0⟩:=hD (k:=12) (n:=0) (p:=0) (by decide) (fun z=>by cases z) (fun _=>rfl) (fun z=>by cases z) (fun _=>rfl)
section
variable {d:A dE} {g u:Int}
theorem afO(h:dJ d)(c:dD g):ew (az d 80)∧ew (bq (az d 80) (A.lit ([(⟨7,0,(C g 300),0,0,0,⟨#[]⟩,⟨#[]⟩,⟨#[]⟩,0⟩:F)]:List F)))∧
  views (cg (bq (az d 80) (A.lit ([(⟨7,0,(C g 300),0,0,0,⟨#[]⟩,⟨#[]⟩,⟨#[]⟩,0⟩:F)]:List F))).B)=views (cg (az d 80).B)∧
  (cg (bq (az d 80) (A.lit ([(⟨7,0,(C g 300),0,0,0,⟨#[]⟩,⟨#[]⟩,⟨#[]⟩,0⟩:F)]:List F))).B).told=(cg (az d 80).B).told∧
  (cg (bq (az d 80) (A.lit ([(⟨7,0,(C g 300),0,0,0,⟨#[]⟩,⟨#[]⟩,⟨#[]⟩,0⟩:F)]:List F))).B).s.n=(cg (az d 80).B).s.n-1:=by
 obtain⟨b,i⟩:=nA h;have f:0≤C g 300∧C g 300<300:=iT c (by decide);have e:=oV b;refine⟨b,sP b (by omega) (amB (by omega)),?_⟩;rw[rJ];exact lost (a:=⟨7,0,C g 300,0,0,0,⟨#[]⟩,⟨#[]⟩,⟨#[]⟩,0⟩) rfl f.1 e.jU
theorem aoH(h:dJ d)(a:dD g):kl (fN (az d 80)) (fN (bq (az d 80) (A.lit ([(⟨7,0,(C g 300),0,0,0,⟨#[]⟩,⟨#[]⟩,⟨#[]⟩,0⟩:F)]:List F)))):=by
 obtain⟨b,c,e,_⟩:=afO h a;exact zi b c e.symm
theorem ag7(h:dJ d)(c:dD g):ew (bq (az d 80) (A.lit ([(⟨4,(C g 3),0,0,0,0,⟨#[]⟩,⟨#[]⟩,⟨#[]⟩,0⟩:F)]:List F)))∧ew (bq (bq (az d 80) (A.lit ([(⟨4,(C g 3),0,0,0,0,⟨#[]⟩,⟨#[]⟩,⟨#[]⟩,0⟩:F)]:List F))) (A.lit ([(⟨4,(C g 3),0,0,0,0,⟨#[]⟩,⟨#[]⟩,⟨#[]⟩,0⟩:F)]:List F)))∧
  views (cg (bq (bq (az d 80) (A.lit ([(⟨4,(C g 3),0,0,0,0,⟨#[]⟩,⟨#[]⟩,⟨#[]⟩,0⟩:F)]:List F))) (A.lit ([(⟨4,(C g 3),0,0,0,0,⟨#[]⟩,⟨#[]⟩,⟨#[]⟩,0⟩:F)]:List F))).B)=views (cg (bq (az d 80) (A.lit ([(⟨4,(C g 3),0,0,0,0,⟨#[]⟩,⟨#[]⟩,⟨#[]⟩,0⟩:F)]:List F))).B)∧
  (cg (bq (bq (az d 80) (A.lit ([(⟨4,(C g 3),0,0,0,0,⟨#[]⟩,⟨#[]⟩,⟨#[]⟩,0⟩:F)]:List F))) (A.lit ([(⟨4,(C g 3),0,0,0,0,⟨#[]⟩,⟨#[]⟩,⟨#[]⟩,0⟩:F)]:List F))).B).s.n=(cg (bq (az d 80) (A.lit ([(⟨4,(C g 3),0,0,0,0,⟨#[]⟩,⟨#[]⟩,⟨#[]⟩,0⟩:F)]:List F))).B).s.n:=by
 obtain⟨e,f⟩:=nA h;have b:0≤C g 3∧C g 3<3:=iT c (by decide);have a:=sP e (by omega) (Wt b);refine⟨a,sP a (by rw[kL];show(az d 80).n+1<3000;omega) (Wt b),?_⟩;rw[rJ,rJ];exact⟨aB8 rfl,aB7 rfl⟩
theorem Hh(h:dJ d)(a:dD g):kl (fN (bq (az d 80) (A.lit ([(⟨4,(C g 3),0,0,0,0,⟨#[]⟩,⟨#[]⟩,⟨#[]⟩,0⟩:F)]:List F)))) (fN (bq (bq (az d 80) (A.lit ([(⟨4,(C g 3),0,0,0,0,⟨#[]⟩,⟨#[]⟩,⟨#[]⟩,0⟩:F)]:List F))) (A.lit ([(⟨4,(C g 3),0,0,0,0,⟨#[]⟩,⟨#[]⟩,⟨#[]⟩,0⟩:F)]:List F)))):=by
 obtain⟨b,c,e,_⟩:=ag7 h a;exact zi b c e.symm
theorem yW(h:dJ d):bM (az d 80)=((cg (az d 80).B).s.n:Int)∧(cg (az d 80).B).s.n≤300:=⟨mK (nA h).1,(oV (nA h).1).jU⟩
theorem agN(h:dJ d)(i:dD g)(j:dD u)(c:0<bM (az d 80)):ew (bq (az d 80) (A.lit ([(⟨6,0,(C g (bM (az d 80))),0,0,0,⟨#[]⟩,⟨#[]⟩,⟨#[]⟩,0⟩:F)]:List F)))∧
  ew (bq (az d 80) (A.lit ([(⟨6,0,(i64.wrap ((C g (bM (az d 80)))+(i64.wrap ((bM (az d 80))*(C u 50))))),0,0,0,⟨#[]⟩,⟨#[]⟩,⟨#[]⟩,0⟩:F)]:List F)))∧
  cg (bq (az d 80) (A.lit ([(⟨6,0,(C g (bM (az d 80))),0,0,0,⟨#[]⟩,⟨#[]⟩,⟨#[]⟩,0⟩:F)]:List F))).B=cg (bq (az d 80) (A.lit ([(⟨6,0,(i64.wrap ((C g (bM (az d 80)))+(i64.wrap ((bM (az d 80))*(C u 50))))),0,0,0,⟨#[]⟩,⟨#[]⟩,⟨#[]⟩,0⟩:F)]:List F))).B∧
  (cg (bq (az d 80) (A.lit ([(⟨6,0,(C g (bM (az d 80))),0,0,0,⟨#[]⟩,⟨#[]⟩,⟨#[]⟩,0⟩:F)]:List F))).B).s.n=(cg (az d 80).B).s.n-1:=by
 obtain⟨b,n⟩:=nA h;obtain⟨e,m⟩:=yW h;have l:=oV b;have k:0≤C g (bM (az d 80))∧C g (bM (az d 80))<bM (az d 80):=iT i c;have t:0≤C u 50∧C u 50<50:=iT j (by decide);revert k t;generalize C g (bM (az d 80))=K;generalize C u 50=T;rw[e]at c ⊢;intro k t;have o:0≤((cg (az d 80).B).s.n:Int)*T:=Int.mul_nonneg (by omega) t.1;have p:((cg (az d 80).B).s.n:Int)*T≤300*49:=Int.mul_le_mul (by omega) (by omega) t.1 (by decide);rw[N (((cg (az d 80).B).s.n:Int)*T),N (K+((cg (az d 80).B).s.n:Int)*T)];refine⟨sP b (by omega) (yR (by omega)),sP b (by omega) (yR (by omega)),?_⟩;rw[rJ,rJ];have f:0<(cg (az d 80).B).s.n:=by omega
 rw[Md (a:=⟨6,0,K,0,0,0,⟨#[]⟩,⟨#[]⟩,⟨#[]⟩,0⟩) rfl k.1 f,Md (a:=⟨6,0,K+((cg (az d 80).B).s.n:Int)*T,0,0,0,⟨#[]⟩,⟨#[]⟩,⟨#[]⟩,0⟩) rfl (show 0≤K+((cg (az d 80).B).s.n:Int)*T by omega) f];rw[show(K+((cg (az d 80).B).s.n:Int)*T).tmod ((cg (az d 80).B).s.n:Int)=K.tmod ((cg (az d 80).B).s.n:Int)from aCr k.1 (by omega) t.1];exact⟨rfl,aCg l (s4 k.1 (by omega))⟩
theorem CB(h:dJ d)(a:dD g)(b:dD u)(i:0<bM (az d 80)):kl (fN (bq (az d 80) (A.lit ([(⟨6,0,(C g (bM (az d 80))),0,0,0,⟨#[]⟩,⟨#[]⟩,⟨#[]⟩,0⟩:F)]:List F)))) (fN (bq (az d 80) (A.lit ([(⟨6,0,(i64.wrap ((C g (bM (az d 80)))+(i64.wrap ((bM (az d 80))*(C u 50))))),0,0,0,⟨#[]⟩,⟨#[]⟩,⟨#[]⟩,0⟩:F)]:List F)))):=by
 obtain⟨c,e,f,_⟩:=agN h a b i;exact zi c e (by rw[f])
end
end Go.Proofs.YtfmgjpcmcjjoiaaGreatDoor
