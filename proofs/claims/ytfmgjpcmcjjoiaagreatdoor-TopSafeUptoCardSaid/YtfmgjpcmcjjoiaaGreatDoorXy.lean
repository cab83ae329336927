import Derived.Test.YtfmgjpcmcjjoiaaGreatDoorXw
import Derived.Test.YtfmgjpcmcjjoiaaGreatDoorXx
open Go.IntKind (i64 u64 u8)
open Int (toNat)
set_option maxRecDepth 100000
set_option maxHeartbeats 4000000
set_option linter.all false
noncomputable section
namespace Go.Proofs.YtfmgjpcmcjjoiaaGreatDoor
open Go Go.RowKit Go.af
def G0(C:ak)(D:G ah):ak:={C with ag:=D}
def HM(C:ak)(l:List ah):ak:=l.foldl kc C
theorem ZZ{F:G ah}(d:F.n≤300): ∀(m a v:Nat) (X:ak),v+m=F.n→m≤a→cr (sd F (a+1) (v:Int) X)=HM X (F.B.drop v)
 |0,a,v,X,c,b=>by
  rw[sd,bp (show¬(v:Int)<(F.n:Int) by omega),aS,HP,List.drop_eq_nil_of_le (by rw[a_];omega)];rfl
 |m+1,a,v,X,c,b=>by
  obtain⟨a,rfl⟩: ∃q,a=q+1:=⟨a-1,by omega⟩;rw[sd,bS (show(v:Int)<(F.n:Int) by omega),aQ,E _,Xj (by omega)];exact ZZ d m a (v+1) _ (by omega) (by omega)
theorem aow{k:Nat}{C:ak}(h:hl k C):w1 C.ag C=HM (G0 C D) C.ag.B:=by
 have q:=ZZ h.oG C.ag.n (toNat ((C.ag.n:Int)- (0:Int))) 0 (G0 C D) (by omega) (by omega);rw[List.drop_zero]at q;exact q
section
theorem azE(a:G Int){f:Int}(h:0≤f):(((G.part a 0 f).n:Nat):Int)=f:=by
 show(((f-0).toNat:Nat):Int)=f;omega
theorem ayR{a:G Int}{b:Int}(c:0≤b)(d:b≤(a.n:Int))(e:a.n≤400000):uc a b=false:=by
 unfold uc;rw[bp (by omega),bp (by omega),bp (by omega)];rfl
theorem BD{a:G Int}{b:Int}(c:0≤b)(d:b≤(a.n:Int))(e:a.n≤400000):br a b=a∧jU a b=b∧hc a b=true:=by
 have m:=ayR c d e;unfold br jU hc;rw[m];exact⟨rfl,rfl,rfl⟩
end
structure Cr (d:G Int) (s:Int):Prop where
 u:aD d
 n:d.n≤400000
 s:0≤s∧s≤(d.n:Int)
theorem Da{r:bo}(h:kU r):(eK r).length=3+(e6 r).length∧(8≤(eK r).length∧(eK r).length≤14003):=by
 have n:=(Qj h).2;have e:(eK r).length=3+(e6 r).length:=by
  unfold eK;simp only[dC,fj,dr,fH]
 exact⟨e,by omega,by omega⟩
theorem aCq{rc:bo}{d:H}(g:Cr d.aX d.bc)(l:dt rc.ei)(k:ey rc.ej):(gD rc d=false∧(fr rc d).aX=d.aX∧(fr rc d).bc=d.bc)∨(gD rc d=true∧kU rc∧(fr rc d).aX.B=d.aX.B++eK rc∧(fr rc d).bc=d.bc∧(fr rc d).aX.n≤400000):=by
 show(gD rc d=false∧uN rc d=d.aX∧EW rc d=d.bc)∨(gD rc d=true∧kU rc∧(uN rc d).B=d.aX.B++eK rc∧EW rc d=d.bc∧(uN rc d).n≤400000);obtain⟨i,m,g0⟩:=BD (a:=d.aX) (b:=d.bc) g.s.1 g.s.2 g.n;unfold gD uN EW
 cases c:(xA d.aX d.bc rc.q rc.C rc.z rc.I rc.w rc.m rc.N rc.ao rc.i rc.aC rc.bU rc.bY rc.bN rc.cc rc.aY rc.cU rc.eI rc.ei rc.eJ rc.ej !=0)with
 |true=>exact .inl ⟨rfl,rfl,rfl⟩
 |false=>
  have c:=bB c;unfold xA at c;rw[g0,i]at c;simp only[Bool.not_true,aS]at c
  cases z:(ff rc.q rc.C rc.z rc.I rc.w rc.m rc.N rc.ao rc.i rc.aC rc.bU rc.bY rc.bN rc.cc rc.aY rc.cU rc.eI rc.ei rc.eJ rc.ej !=0)with
  |true=>
   rw[z]at c;simp only[aQ]at c;rw[c]at z;cases z
  |false=>
   rw[z]at c;simp only[aS]at c;have j:kU rc:=⟨bB z,l,k⟩;obtain⟨e,nn,p⟩:=Qj j;obtain⟨f,_⟩:=dv c (by decide);have h:(jx rc.q rc.C rc.z rc.I rc.w rc.m rc.N rc.ao rc.i rc.aC rc.bU rc.bY rc.bN rc.cc rc.aY rc.cU rc.eI rc.ei rc.eJ rc.ej).n=(e6 rc).length:=by rw[←a_,e]
   have o:=g.n;rw[h,E ((d.aX.n:Int)+3),E ((d.aX.n:Int)+3+_)]at f;have n:=db f;have B:(xz d.aX d.bc rc.q rc.C rc.z rc.I rc.w rc.m rc.N rc.ao rc.i rc.aC rc.bU rc.bY rc.bN rc.cc rc.aY rc.cU rc.eI rc.ei rc.eJ rc.ej).B=d.aX.B++eK rc:=by
    unfold xz;rw[g0,i,z,h,E ((d.aX.n:Int)+3),E ((d.aX.n:Int)+3+_),f];simp only[Bool.not_true,aS];rw[aiq (by omega) (by show 3≤1000000;decide) (by omega),Cg,e];rfl
   refine .inr ⟨rfl,j,B,?_,?_⟩
   ·show KF d.aX d.bc rc.q rc.C rc.z rc.I rc.w rc.m rc.N rc.ao rc.i rc.aC rc.bU rc.bY rc.bN rc.cc rc.aY rc.cU rc.eI rc.ei rc.eJ rc.ej=d.bc;unfold KF;rw[g0,i,z,h,E ((d.aX.n:Int)+3),E ((d.aX.n:Int)+3+_),f];exact m
   ·show(xz d.aX d.bc rc.q rc.C rc.z rc.I rc.w rc.m rc.N rc.ao rc.i rc.aC rc.bU rc.bY rc.bN rc.cc rc.aY rc.cU rc.eI rc.ei rc.eJ rc.ej).n≤400000;rw[←a_,B,dC,a_,(Da j).1];omega
theorem Ze: ∀(rs:List bo) (m:Nat),(∀r∈rs,kU r)→ ∃(k:Nat) (j:List Int),k≤rs.length∧(rs.flatMap eK).take m=(rs.take k).flatMap eK++j∧(j=[]∨ ∃r,kU r∧j.length<(eK r).length∧j=(eK r).take j.length)∧((rs.flatMap eK).length≤m→k=rs.length∧j=[])
 |[],m,_=>⟨0,[],bC _,by simp,.inl rfl,fun _=>⟨rfl,rfl⟩⟩
 |r::rs,m,h=>by
  have e:=h r (List.mem_cons_self ..);have n:=Da e
  by_cases c:(eK r).length≤m
  ·obtain⟨k,j,o,f,g,i⟩:=Ze rs (m- (eK r).length) fun x l=>h x (List.mem_cons_of_mem _ l);refine⟨k+1,j,by rw[dr];omega,?_,g,fun d=> ?_⟩
   ·rw[gO,List.take_append,f,List.take_of_length_le c,List.take_succ_cons,gO,eZ]
   ·rw[gO,dC]at d;obtain⟨a,b⟩:=i (by omega);exact⟨by rw[dr,a],b⟩
  ·refine⟨0,(eK r).take m,cf _,?_,.inr ⟨r,e,?_,?_⟩,fun d=> ?_⟩
   ·rw[gO,List.take_append,show m- (eK r).length=0 by omega];simp
   ·rw[jj];omega
   ·rw[jj,show min m (eK r).length=m by omega]
   ·rw[gO,dC]at d;omega
theorem aAc{a:G Int}{b:Int}(f:Cr a b): ∀(rs:List bo) (c j:List Int) (d:Nat) (o:G bo),(∀r∈rs,kU r)→a.B=c++(rs.flatMap eK++j)→(j=[]∨ ∃r,kU r∧j.length<(eK r).length∧j=(eK r).take j.length)→rs.length<d→
  ∃n,aU (fun r y=>vL r y∧lh y) rs n∧(mK a b d (c.length:Int) o).1=((c.length+(rs.flatMap eK).length:Nat):Int)∧(mK a b d (c.length:Int) o).2.B=o.B++n:=by
 intro rs
 induction rs with
 |nil=>
  intro c j d o _ g t k;obtain⟨d,rfl⟩: ∃q,d=q+1:=⟨d-1,by rw[fH]at k;omega⟩;obtain⟨u,K,g0⟩:=BD (a:=a) (b:=b) f.s.1 f.s.2 f.n;have z:a.n=c.length+j.length:=by rw[←a_,g];simp
  have H:=f.n;refine⟨[],trivial,?_⟩;have stop:mK a b (d+1) (c.length:Int) o=((c.length:Int),o):=by
   rw[mK,u,E ((c.length:Int)+3)]
   by_cases w:(c.length:Int)+3≤(a.n:Int)
   ·rcases t with rfl|⟨r,m,O,F⟩
    ·rw[fH]at z;omega
    ·have e:=Da m;have v:ek (G.part a (c.length:Int) (a.n:Int))=((e6 r).length:Int):=by
      have B:(G.part a (c.length:Int) (a.n:Int)).B=fj ((e6 r).length:Int)++(e6 r).take (j.length-3):=by
       rw[tE (a:=c) (l:=j) (by rw[g];rfl) rfl];have A:(fj ((e6 r).length:Int)).length=3:=rfl;refine F.trans ?_;unfold eK;rw[List.take_append,A,List.take_of_length_le (by rw[A];omega)]
      exact B3 (s:=G.part a (c.length:Int) (a.n:Int)) (fun i=>f.u _) B (by omega)
     rw[v,bS w,aQ,E ((c.length:Int)+3+_),bS (by omega),aQ]
   ·rw[bp w,aS]
  rw[stop];exact⟨by simp,(h_ _).symm⟩
 |cons r rs J=>
  intro c j d o h g t k;obtain⟨d,rfl⟩: ∃q,d=q+1:=⟨d-1,by rw[dr]at k;omega⟩;rw[dr]at k;obtain⟨u,K,g0⟩:=BD (a:=a) (b:=b) f.s.1 f.s.2 f.n;have m:=h r (List.mem_cons_self ..);have e:=Da m;have H:=f.n;have p:a.B=c++(fj ((e6 r).length:Int)++(e6 r++(rs.flatMap eK++j))):=by
   rw[g,gO];unfold eK;simp only[eZ]
  have z:a.n=c.length+(3+((e6 r).length+((rs.flatMap eK).length+j.length))):=by
   rw[←a_,p];simp only[dC];rfl
  have v:ek (G.part a (c.length:Int) (a.n:Int))=((e6 r).length:Int):=B3 (s:=G.part a (c.length:Int) (a.n:Int)) (fun i=>f.u _) (tE (a:=c) p rfl) (by omega);have gw:(G.part a ((c.length:Int)+3) ((c.length:Int)+3+((e6 r).length:Int))).B=e6 r:=by
   rw[pO _ _ _ (by omega) (by omega) (by omega),p,←eZ c,show((c.length:Int)+3).toNat=(c++fj ((e6 r).length:Int)).length by rw[dC];show _=c.length+3;omega,List.drop_left,show((c.length:Int)+3+((e6 r).length:Int)- ((c.length:Int)+3)).toNat=(e6 r).length by omega,List.take_left]
  obtain⟨C,D,d3⟩:=aAd m (s:=G.part a ((c.length:Int)+3) ((c.length:Int)+3+((e6 r).length:Int))) (fun i=>f.u _) gw;obtain⟨n,L,M,N⟩:=J (c++eK r) j d (G.app o (G.lit [dec (G.part a ((c.length:Int)+3) ((c.length:Int)+3+((e6 r).length:Int)))])) (fun x I=>h x (List.mem_cons_of_mem _ I)) (by rw[g,gO];simp only[eZ]) t (by omega);have step:mK a b (d+1) (c.length:Int) o=mK a b d ((c++eK r).length:Int) (G.app o (G.lit [dec (G.part a ((c.length:Int)+3) ((c.length:Int)+3+((e6 r).length:Int)))])):=by
   rw[mK,u,v,E ((c.length:Int)+3),bS (by omega),aQ,E ((c.length:Int)+3+_),bp (by omega),aS,C,E (3+((e6 r).length:Int)),E ((c.length:Int)+(3+((e6 r).length:Int)))];rw[show(c.length:Int)+(3+((e6 r).length:Int))=((c++eK r).length:Int) by rw[dC,e.1];omega];rfl
  rw[step];refine⟨_::n,⟨⟨D,d3⟩,L⟩,?_,?_⟩
  ·rw[M,dC,gO,dC,pL]
  ·rw[N,jm,jn,eZ];rfl
def rn:Int→Int→List aq→Prop
 |_,_,[]=>True
 |t,u,x::l=>pR x∧t≤x.q∧u≤x.C∧rn x.q x.C l
structure jr (j lt:Int) (l:List aq):Prop where
 b:0≤j
 t:0≤lt∧lt≤1048576
 z:j=0↔lt=0
 n:l.length≤200∧j+(l.length:Int)≤1048576
 c:rn lt 0 l
theorem PD{α:Type}{s:G α}{i:Nat}{x:α}(a:s.B[i]? =some x):s.at' i=x:=by
 have b:i<s.n:=by rw[←a_ s];exact(hv.1 a).1
 rw[gy s b]at a;exact jk a
theorem Ut{s:G aq}(l:s.n≤200): ∀(m i d:Nat) (t u:Int),i+m=s.n→m<d→((o8 s d t u (i:Int)).1=false↔rn t u (s.B.drop i))∧((o8 s d t u (i:Int)).1=true→(o8 s d t u (i:Int)).2=13)
 |0,i,d+1,t,u,k,_=>by
  rw[o8,bp (by omega),aS,List.drop_eq_nil_of_le (by rw[a_];omega)];exact⟨⟨fun _=>trivial,fun _=>rfl⟩,fun h=>by cases h⟩
 |m+1,i,d+1,t,u,k,o=>by
  have f:i<s.B.length:=by rw[a_];omega
  have q:s.at' (toNat (i:Int))=s.B[i]:=PD (i:=i) (cI f);rw[o8,bS (by omega),aQ,tx f];have j:uU s t u (i:Int)=false↔pR s.B[i]∧t≤s.B[i].q∧u≤s.B[i].C:=by
   unfold uU;rw[q];constructor
   ·intro h;obtain⟨a,h⟩:=cP h;obtain⟨b,c⟩:=cP h;have:=db b;have:=db c;exact⟨bB a,by omega,by omega⟩
   ·rintro⟨a,b,c⟩
    have a:e_ s.B[i].q s.B[i].C s.B[i].z s.B[i].I s.B[i].w s.B[i].m s.B[i].N s.B[i].ao s.B[i].i s.B[i].aC=0:=a;rw[a,bp (by omega),bp (by omega)];rfl
  cases e:uU s t u (i:Int)with
  |true=>
   refine⟨⟨(fun h=>by cases h),fun h=> ?_⟩,fun _=>rfl⟩;have:=j.2 ⟨h.1,h.2.1,h.2.2.1⟩;rw[e]at this;cases this
  |false=>
   obtain⟨a,b,c⟩:=j.1 e;simp only[aS];rw[q,E ((i:Int)+1),show(i:Int)+1=((i+1:Nat):Int) by omega];obtain⟨g,n⟩:=Ut l m (i+1) d s.B[i].q s.B[i].C (by omega) (by omega);exact⟨⟨fun h=>⟨a,b,c,g.1 h⟩,fun h=>g.2 h.2.2.2⟩,n⟩
theorem xr{i f:Int}{s:G aq} :cz i f s=0↔jr i f s.B:=by
 constructor
 ·intro h;obtain⟨a,b,c,d⟩:=eS _ _ _ h;unfold cz at h;obtain⟨m,h⟩:=dv h (by decide);unfold n5 at m;obtain⟨_,m⟩:=cP m;obtain⟨p,m⟩:=cP m;obtain⟨q,m⟩:=cP m;obtain⟨n,m⟩:=cP m;have:=db p;have:=db q;have l:=Ut c s.n 0 ((toNat ((s.n:Int)-0))+1) f 0 (by omega) (by omega);refine⟨a.1,⟨by omega,by omega⟩,?_,⟨by rw[a_];exact c,by rw[a_];exact d⟩,?_⟩
  ·by_cases g:i=0<;>by_cases j:f=0
   ·exact⟨fun _=>j,fun _=>g⟩
   ·rw[iM.2 g,hx.2 j]at n;cases n
   ·rw[hx.2 g,iM.2 j]at n;cases n
   ·exact⟨fun x=>absurd x g,fun x=>absurd x j⟩
  ·cases e:(AO f s).1 with
   |false=>exact l.1.1 e
   |true=>
    unfold Kk at h;rw[e]at h;have k:(AO f s).2=13:=l.2 e;rw[k]at h;cases h
 ·intro h;have o:s.n≤200:=by rw[←a_];exact h.n.1
  have t:i+(s.n:Int)≤1048576:=by rw[←a_];exact h.n.2
  have l:=(Ut o s.n 0 ((toNat ((s.n:Int)-0))+1) f 0 (by omega) (by omega)).1.2 h.c;have r:=h.b;have u:=h.t;have m:n5 i f s=false:=by
   unfold n5;have z:(!((i==0)==(f==0)))=false:=by
    by_cases g:i=0
    ·rw[iM.2 g,iM.2 (h.z.1 g)];rfl
    ·rw[hx.2 g,hx.2 fun x=>g (h.z.2 x)];rfl
   rw[bp (by omega),bp (by omega),bp (by omega),z,bp (by omega),E (1048576- (s.n:Int)),bp (by omega)];rfl
  unfold cz Kk;rw[m,show(AO f s).1=false from l];rfl
theorem amW{t a u b:Int}(c:a≤t)(d:b≤u): ∀{l:List aq},rn t u l→rn a b l
 |[],_=>trivial
 |_::_,h=>⟨h.1,by have:=h.2.1;omega,by have:=h.2.2.1;omega,h.2.2.2⟩
theorem YP{t u:Int} : ∀{l:List aq} (k:Nat),rn t u l→rn t u (l.take k)
 |_,0,_=>by rw[List.take_zero];trivial
 |[],_+1,_=>trivial
 |_::_,k+1,h=>⟨h.1,h.2.1,h.2.2.1,YP k h.2.2.2⟩
theorem YO{t u:Int} : ∀{l:List aq} (k:Nat) {x:aq},rn t u l→l[k]? =some x→rn x.q x.C (l.drop (k+1))∧pR x∧t≤x.q
 |y::l,0,x,h,d=>by
  rw[List.getElem?_cons_zero]at d;obtain rfl:=jk d;exact⟨h.2.2.2,h.1,h.2.1⟩
 |y::l,k+1,x,h,d=>by
  rw[List.getElem?_cons_succ]at d;obtain⟨a,b,c⟩:=YO k h.2.2.2 d;exact⟨a,b,Int.le_trans h.2.1 c⟩
structure gz where
 a6:Int
 cC:Int
 bX:Int
 j:Int
 lt:Int
 li:List aq
def mv(a b:Int)(l:List aq)(i:Int):Option Int:=if i<a then none else if i=a then some b else(l[(i-a-1).toNat]?).map (·.q)
def hL(c:gz)(r:bo):gz:=if r.q=1 then {c with a6:=r.C,cC:=r.z} else if r.q=2 then(if r.I≤c.j then c else {c with li:=c.li.take (r.I-c.j-1).toNat++[j4 r]})else if r.aY>c.bX then {c with bX:=r.aY,j:=r.aY,lt:=r.cU,li:=if mv c.j c.lt c.li r.aY=some r.cU then c.li.drop (r.aY-c.j).toNat else[]} else c
def vJ(c:gz)(r:bo):Prop:=r.q=2→r.I≤c.j∨(r.I≤c.j+(c.li.length:Int)+1∧jr c.j c.lt (c.li.take (r.I-c.j-1).toNat++[j4 r]))
def lS:gz→List bo→gz→Prop
 |c,[],d=>c=d
 |c,r::rs,d=>vJ c r∧lS (hL c r) rs d
theorem ag5: ∀{rs:List bo} {c d:gz} {r:bo},lS c rs d→vJ d r→lS c (rs++[r]) (hL d r)
 |[],c,d,r,h,k=>by
  have h:c=d:=h;subst h;exact⟨k,rfl⟩
 |_::_,_,_,_,h,k=>⟨h.1,ag5 h.2 k⟩
theorem ahd: ∀{rs:List bo} {c d:gz} (k:Nat),lS c rs d→ ∃a,lS c (rs.take k) a
 |[],c,d,_,_=>⟨c,by rw[List.take_nil];rfl⟩
 |_::_,c,_,0,_=>⟨c,by rw[List.take_zero];rfl⟩
 |_::_,_,_,k+1,h=>by
  obtain⟨a,e⟩:=ahd k h.2;exact⟨a,h.1,e⟩
def rr(c:gz):Prop:=jr c.j c.lt c.li
theorem ahy{c:gz}{r:bo}(h:rr c)(i:lh r)(g:vJ c r):rr (hL c r):=by
 unfold hL;rcases GC i with⟨k,a,b,e⟩|⟨k,a,b⟩|⟨k,a,b,e⟩
 ·rw[bf k];exact h
 ·rw[a7 (by omega),bf k]
  by_cases z:r.I≤c.j
  ·rw[bf z];exact h
  ·rw[a7 z];exact((g k).resolve_left z).2
 ·rw[a7 (by omega),a7 (by omega)]
  by_cases z:r.aY>c.bX
  ·rw[bf z]
   by_cases t:mv c.j c.lt c.li r.aY=some r.cU
   ·show jr r.aY r.cU (if mv c.j c.lt c.li r.aY=some r.cU then _ else _);rw[bf t];unfold mv at t;have m:=h.n
    by_cases d:r.aY<c.j
    ·rw[bf d]at t;cases t
    rw[a7 d]at t;have n:((c.li.drop (r.aY-c.j).toNat).length:Int)+r.aY≤c.j+(c.li.length:Int)∨(c.li.drop (r.aY-c.j).toNat).length=0:=by rw[rl];omega
    refine⟨by omega,by omega,⟨fun q=>by omega,fun q=>by omega⟩,⟨by rw[rl];omega,by omega⟩,?_⟩
    by_cases f:r.aY=c.j
    ·rw[bf f]at t;rw[show(r.aY-c.j).toNat=0 by omega,List.drop_zero,←jk t];exact h.c
    ·rw[a7 f]at t;obtain⟨x,j,e⟩:=lM.1 t;obtain⟨q1,l,_⟩:=YO _ h.c j;rw[show(r.aY-c.j-1).toNat+1=(r.aY-c.j).toNat by omega,e]at q1;have:=(Mt l).1.2.1;exact amW (cR _) this q1
   ·show jr r.aY r.cU (if mv c.j c.lt c.li r.aY=some r.cU then _ else _);rw[a7 t];exact⟨by omega,by omega,⟨fun q=>by omega,fun q=>by omega⟩,⟨by simp,by simp;omega⟩,trivial⟩
  ·rw[a7 z];exact h
theorem ae1{a b:Int}{s:G aq}(h:jr a b s.B):j1 a b s=a+(s.n:Int):=by
 have d:=h.n;rw[a_]at d;have e:=h.b;unfold j1 oW;rw[xr.2 h]
 by_cases c:(s.n:Int)>0
 ·rw[bS c];exact E _
 ·rw[bp c];show a=a+(s.n:Int);omega
theorem ahG{a c:Int}{s:G aq}(h:jr a c s.B){i:Int}(g:0≤i∧i≤1048576):(gW a s i=0∧mv a c s.B i=some (jv a c s i))∨(gW a s i≠0∧mv a c s.B i=none):=by
 have e:=h.n;rw[a_]at e;have f:=h.b;unfold gW jv mv
 by_cases b:i<a
 ·rw[bS b,bf b];exact .inr ⟨(by decide:(11:Int)≠0),rfl⟩
 rw[bp b,a7 b]
 by_cases z:i=a
 ·rw[iM.2 z,bf z];exact .inl ⟨rfl,rfl⟩
 rw[hx.2 z,a7 z,E (i-a),E (i-a-1)]
 by_cases d:i-a>(s.n:Int)
 ·rw[bS d,eF (by rw[a_];omega)];exact .inr ⟨(by decide:(5:Int)≠0),rfl⟩
 ·rw[bp d,gy s (show(i-a-1).toNat<s.n by omega)];exact .inl ⟨rfl,rfl⟩
theorem acQ{a b:Int}{s:G aq}(h:jr a b s.B){i:Int}(c:0≤i∧i≤1048576):iE a b s i=jv a b s i∧sv a b s i=gW a s i:=by
 unfold iE sv xu;rw[xr.2 h,bp (by omega),bp (by omega)];exact⟨rfl,rfl⟩
theorem V8{d e:Int}{s:G aq}(h:jr d e s.B){i t:Int}(g:0≤i∧i≤1048576):nR d e s i t=i∧r6 d e s i t=t∧(nS d e s i t).B=if mv d e s.B i=some t then s.B.drop (i-d).toNat else[]:=by
 obtain⟨j,k⟩:=acQ h g;have l:=h.n;rw[a_]at l;have n:=h.b;unfold nR r6 nS nT;rw[j,k];rcases ahG h g with⟨a,b⟩|⟨a,b⟩
 ·rw[a,b]
  by_cases c:jv d e s i=t
  ·rw[bf (by rw[c])];unfold o_ AR qv;rw[xr.2 h,a,iM.2 c,c];refine⟨rfl,rfl,?_⟩;have o:d≤i∧i≤d+(s.n:Int):=by
    unfold mv at b
    by_cases f:i<d
    ·rw[bf f]at b;cases b
    rw[a7 f]at b
    by_cases z:i=d
    ·omega
    rw[a7 z]at b;obtain⟨x,m,_⟩:=lM.1 b;have:=(hv.1 m).1;rw[a_]at this;omega
   show(G.part s (i64.wrap (i-d)) (s.n:Int)).B=_;rw[E (i-d),pO _ _ _ (by omega) (by omega) (by omega),List.take_of_length_le (by rw[rl,a_];omega)]
  ·rw[a7 (fun q=>c (jk q)),hx.2 c];exact⟨rfl,rfl,rfl⟩
 ·rw[b,a7 (by intro q;cases q),hx.2 a];exact⟨rfl,rfl,rfl⟩
def Bo(i j:Nat)(ms:ah):ah:=⟨(j:Int),(i:Int),ms.z,ms.I,ms.w,ms.m,ms.N,ms.ao,ms.i,ms.aC,ms.bU,ms.bY,ms.bN,ms.cc,ms.aY⟩
def Qe(i j:Nat)(ms:ah)(s:H)(F:G ah)(O:G bF)(ar:G aM):H:=
 H.bif (ms.z==1) (uA (Bo i j ms) s) (H.bif (ms.z==2) (H.bif (cond (s.ro==1) (ms.I==(i64.wrap (s.a6+1))) false) (H.bif (jY (H.q9 j s)) (sj (H.q9 j s)) (H.q9 j s)) s)
  (H.bif (decide (ms.I<s.a6)) (H.bif (ms.z !=8) (qh (j:Int) s) s) (H.bif (ms.z==3) (sk (Bo i j ms) s) (H.bif (ms.z==4) (H.bif (s.ro==2) (H.bif (jY (H.q9 j s)) (w6 (H.q9 j s)) (H.q9 j s)) s)
   (H.bif (ms.z==5) (nZ (Bo i j ms) (jZ s) F O ar) (H.bif (ms.z==7) (n0 (Bo i j ms) (jZ s)) (H.bif (ms.z==6) (H.bif (s.ro==3) (uE (Bo i j ms) s F O ar) s) s)))))))
section
variable {i j:Nat} {ms:ah} {d s:H} {F:G ah} {O:G bF} {ar:G aM}
theorem anb:qe i j ms d F O ar=H.bif (!d.up) d (H.bif (w3 ms d) (Qe i j ms (fK ms d) F O ar) (fq ms.I (-1) d)):=rfl
theorem axp{a b:Int}(h:si a b d=false):fq a b d=d:=by
 unfold si at h;unfold fq Sh Si
 cases e:gD (⟨1,a,b,0,0,0,false,0,0,0,⟨#[]⟩,⟨#[]⟩,⟨#[]⟩,0,0,0,0,(D:G L),0,(D:G aw)⟩:bo) d with
 |true=>rw[e]at h;cases h
 |false=>
  have f:=e;unfold gD at f;have k: ∀c:Bool,(cond c false true)=false→c=true:=fun c=>by cases c<;>simp
  have c:=k _ f;unfold fr uN EW;simp only[Bool.not_false,aQ];rw[c];rfl
end
def Y8(r:G bo)(t:G Int)(s:Int)(d:H):H:={d with bh:=(wP d.bh),up:=R2,ro:=wZ,a6:=(Es (zs r)),cC:=(Et (zt r)),j:=(Eu (oP r)),lt:=(Ev (zu r)),li:=(Ew (p5 r)),bX:=(Ey (mL r)),gG:=(Ee (QM r)),gH:=(Ef (Df r)),eU:=(Eg (wv r)),gI:=(Eh (Dg r)),eT:=(Ei (wx r)),e5:=(Ej (Df r)),c6:=(Ek (wv r)),eN:=(El (Dg r)),dW:=(Em (wx r)),co:=(En (mL r)),v0:=wQ,v1:=wR,v2:=wS,dX:=wT,dz:=wU,dF:=wV,g1:=wW,q1:=wX,fh:=wY,ws:=(D:G hz),aX:=t,bc:=s,bw:=(D:G ah)}
theorem anl(x:Int)(n:H):l7 x n=Y8 (tY (o7 n.aX n.bc x) (uT n.aX n.bc x)) (wu (o7 n.aX n.bc x) (uT n.aX n.bc x)) (De (o7 n.aX n.bc x) (uT n.aX n.bc x)) n:=rfl
theorem ayP{l:List aJ}(h: ∀a∈l,g9 a)(c:l.length≤3000):kP (G.lit l):=by
 refine⟨c,fun q b=>h _ ?_⟩;have b:q<l.length:=b;show l.getD q default∈l;rw[yK,cI b,kM];exact oz b
theorem aBb{A:G bo}{i:Int}{c:gz}{r y:bo}{v:G aq}(s:A.at' (toNat i)=y)(o:vL r y)(w:lh y)(u:lh r)(d:v.B=c.li)(n:rr c)(p:vJ c r):
  oQ A i c.j c.lt v=true∧QN A i c.a6=(hL c r).a6∧QO A i c.cC=(hL c r).cC∧Dh A i c.bX=(hL c r).bX∧t_ A i c.bX c.j c.lt v=(hL c r).j∧zv A i c.bX c.j c.lt v=(hL c r).lt∧(tZ A i c.bX c.j c.lt v).B=(hL c r).li:=by
 obtain⟨j,H,I,J⟩:=o;have L:jr c.j c.lt v.B:=by rw[d];exact n
 have m:(ff y.q y.C y.z y.I y.w y.m y.N y.ao y.i y.aC y.bU y.bY y.bN y.cc y.aY y.cU y.eI y.ei y.eJ y.ej !=0)=false:=by rw[show ff y.q y.C y.z y.I y.w y.m y.N y.ao y.i y.aC y.bU y.bY y.bN y.cc y.aY y.cU y.eI y.ei y.eJ y.ej=0 from w];rfl
 unfold oQ QN QO Dh t_ zv tZ hL;rw[s,m];rcases GC u with⟨k,a,b,e⟩|⟨k,a,b⟩|⟨k,a,b,e⟩
 ·obtain⟨f,h⟩:=H k;rw[bf k,j,k];exact⟨rfl,f,h,rfl,rfl,rfl,d⟩
 ·obtain⟨f,h⟩:=I k;have it:(⟨y.w,y.m,y.N,y.ao,y.i,y.aC,y.bU,y.bY,y.bN,y.cc⟩:aq)=j4 r:=h;have q:=L.n;rw[a_]at q;have N:=L.b;rw[a7 (by omega),bf k,j,k];have C:Dk c.j c.lt v y.I y.w y.m y.N y.ao y.i y.aC y.bU y.bY y.bN y.cc=0∧(wy c.j c.lt v y.I y.w y.m y.N y.ao y.i y.aC y.bU y.bY y.bN y.cc).B=(if r.I≤c.j then c else {c with li:=c.li.take (r.I-c.j-1).toNat++[j4 r]}).li:=by
   unfold Dk wy;rw[it,f,ae1 L]
   by_cases z:r.I≤c.j
   ·rw[bS z,bf z];exact⟨rfl,d⟩
   ·obtain⟨K,M⟩:=(p k).resolve_left z;rw[←d,a_]at K;have l:(G.app (G.part v 0 (i64.wrap ((i64.wrap (r.I-c.j))-1))) (G.lit ([j4 r]:List aq))).B=c.li.take (r.I-c.j-1).toNat++[j4 r]:=by
     rw[E (r.I-c.j),E (r.I-c.j-1),jm,jn,pO _ _ _ (by omega) (by omega) (by omega),←d];rw[show(r.I-c.j-1-0).toNat=(r.I-c.j-1).toNat by omega];rfl
    have g:cz c.j c.lt (G.app (G.part v 0 (i64.wrap ((i64.wrap (r.I-c.j))-1))) (G.lit ([j4 r]:List aq)))=0:=xr.2 (by rw[l];exact M);rw[bp z,a7 z,g,E (c.j+(v.n:Int)+1),bp (by omega)];exact⟨rfl,l⟩
  obtain⟨x,B⟩:=C;rw[x];refine⟨rfl,?_,?_,?_,?_,?_,B⟩<;>by_cases z:r.I≤c.j<;>first|rw[bf z];rfl|rw[a7 z];rfl
 ·obtain⟨f,h⟩:=J k;obtain⟨D,q1,F⟩:=V8 L (i:=r.aY) (t:=r.cU) (by omega);rw[a7 (by omega),a7 (by omega),j,k,f,h]
  by_cases z:r.aY>c.bX
  ·rw[bf z,bS z];refine⟨rfl,rfl,rfl,rfl,D,q1,?_⟩;show(nS c.j c.lt v r.aY r.cU).B=if mv c.j c.lt c.li r.aY=some r.cU then _ else _
   rw[F,d]
  ·rw[a7 z,bp z];exact⟨rfl,rfl,rfl,rfl,rfl,rfl,d⟩
theorem aoA{A:G bo}(Q:A.n≤549755813888): ∀(rs:List bo) (i a:Nat) (c d:gz) (h j:Int) (k:G L) (l:Int) (m:G aw) (v:G aq),i+rs.length=A.n→rs.length<a→aU (fun r y=>vL r y∧lh y) rs (A.B.drop i)→rr c→v.B=c.li→lS c rs d→(∀r∈rs,lh r)→
  ∃(K M:Int) (N:G L) (O:Int) (P:G aw) (w:G aq),rV A a (i:Int) c.a6 c.cC c.bX h j k l m c.j c.lt v=(false,d.a6,d.cC,d.bX,K,M,N,O,P,d.j,d.lt,w,default,default,default,default,default,default,default,default,default,default,default,default)∧w.B=d.li∧rr d:=by
 intro rs
 induction rs with
 |nil=>
  intro i a c d h j k l m v n g _ e o b _;obtain⟨a,rfl⟩: ∃q,a=q+1:=⟨a-1,by rw[fH]at g;omega⟩;have b:c=d:=b;subst b;rw[fH]at n;rw[rV,bp (by omega)];exact⟨h,j,k,l,m,v,rfl,o,e⟩
 |cons r rs B=>
  intro i a c d h j k l m v n g f e o b t;obtain⟨a,rfl⟩: ∃q,a=q+1:=⟨a-1,by rw[dr]at g;omega⟩;rw[dr]at n g;have u:i<A.B.length:=by rw[a_];omega
  rw[tx u]at f;have q:A.at' (toNat (i:Int))=A.B[i]:=PD (i:=i) (cI u);have s:=t r (List.mem_cons_self ..);obtain⟨p,C,H,I,J,D,F⟩:=aBb q f.1.1 f.1.2 s o e b.1;rw[rV,bS (by omega),aQ,p,aQ,E ((i:Int)+1),C,H,I,J,D,show(i:Int)+1=((i+1:Nat):Int) by omega];exact B (i+1) a (hL c r) d _ _ _ _ _ _ (by omega) (by omega) f.2 (ahy e s b.1) F b.2 fun x z=>t x (List.mem_cons_of_mem _ z)
def tS:gz:=⟨0,-1,0,0,0,[]⟩
theorem afb:rr tS:=⟨cR _,by decide,⟨fun _=>rfl,fun _=>rfl⟩,by decide,trivial⟩
def core(n:H):gz:=⟨n.a6,n.cC,n.bX,n.j,n.lt,n.li.B⟩
theorem aoC{A:G bo}(f:A.n≤549755813888){rs:List bo}{d:gz}(a:aU (fun r y=>vL r y∧lh y) rs A.B)(g:lS tS rs d)(c: ∀r∈rs,lh r):
  zs A=d.a6∧zt A=d.cC∧mL A=d.bX∧oP A=d.j∧zu A=d.lt∧(p5 A).B=d.li∧rr d∧kY A=true:=by
 have l:rs.length=A.n:=by rw[a.length,a_]
 obtain⟨h,i,j,k,m,w,e,b,L⟩:=aoA f rs 0 ((toNat ((A.n:Int)-0))+1) tS d AH uP uQ uR uS D (by omega) (by omega) (by rw[List.drop_zero];exact a) afb rfl g c;have r:e7 A=(false,d.a6,d.cC,d.bX,h,i,j,k,m,d.j,d.lt,w,default,default,default,default,default,default,default,default,default,default,default,default):=e;unfold zs zt mL oP zu p5 kY;rw[r];exact⟨rfl,rfl,rfl,rfl,rfl,b,L,rfl⟩
structure gA (n:H):Prop where
 t:Cr n.aX n.bc
 r: ∃rs,(∀r∈rs,kU r)∧n.aX.B=rs.flatMap eK∧lS tS rs (core n)
theorem gA.log{n:H}(h:gA n):jr n.j n.lt n.li.B:=by
 obtain⟨rs,a,i,b⟩:=h.r;have g: ∀(rs:List bo) (c d:gz),(∀r∈rs,kU r)→rr c→lS c rs d→rr d:=by
  intro rs
  induction rs with
  |nil=>intro c d _ L h;have h:c=d:=h;subst h;exact L
  |cons r rs f=>intro c d k L h;exact f _ _ (fun x e=>k x (List.mem_cons_of_mem _ e)) (ahy L (k r (List.mem_cons_self ..)).c h.1) h.2
 exact g rs tS (core n) a afb b
theorem ag7: ∀{rs:List bo} {c d e:gz},lS c rs d→lS c rs e→d=e
 |[],_,_,_,h,k=>(show _=_ from h).symm.trans k
 |_::_,_,_,_,h,k=>ag7 h.2 k.2
theorem ae7: ∀{rs:List bo},(∀r∈rs,kU r)→rs.length≤(rs.flatMap eK).length
 |[],_=>cf _
 |r::rs,h=>by
  have n:=Da (h r (List.mem_cons_self ..));have:=ae7 (rs:=rs) fun x a=>h x (List.mem_cons_of_mem _ a);rw[gO,dC,dr];omega
theorem ah2{n:H}(h:gA n){x:Int}(jC:0≤x):gA (l7 x n)∧(n.bc=(n.aX.n:Int)→core (l7 x n)=core n)∧ ∃a b c d,(l7 x n).c6=qC (jz a b c d)∧(l7 x n).dW=qD (jz a b c d):=by
 obtain⟨⟨u6,eX,aAF,s1⟩,rs,y,A,B⟩:=h;obtain⟨F,I,g0⟩:=BD (a:=n.aX) (b:=n.bc) aAF s1 eX;obtain⟨z,u,aCv,aCw,P,Q⟩: ∃z:Int,0≤z∧z≤(n.aX.n:Int)∧(n.bc=(n.aX.n:Int)→z=(n.aX.n:Int))∧o7 n.aX n.bc x=G.part n.aX 0 z∧uT n.aX n.bc x=z:=by
  have i:=ob x (i64.wrap ((n.aX.n:Int)-n.bc));rw[E ((n.aX.n:Int)-n.bc)]at i;refine⟨n.bc+fs x ((n.aX.n:Int)-n.bc),by omega,by omega,fun e=>by omega,?_,?_⟩
  ·unfold o7;rw[F,I,g0,bp (by omega),E ((n.aX.n:Int)-n.bc),E (n.bc+fs x ((n.aX.n:Int)-n.bc))];rfl
  ·unfold uT;rw[F,I,g0,bp (by omega),E ((n.aX.n:Int)-n.bc),E (n.bc+fs x ((n.aX.n:Int)-n.bc))];rfl
 rw[anl,P,Q];have hf:z.toNat≤n.aX.n:=by omega
 have l:(G.part n.aX 0 z).B=(rs.flatMap eK).take z.toNat:=by
  rw[pO _ _ _ (cR _) u aCv,A,show(z-0).toNat=z.toNat by omega];rfl
 have L:(((G.part n.aX 0 z).n:Nat):Int)=z:=azE n.aX u;have p:aD (G.part n.aX 0 z):=fun i=>u6 _;generalize G.part n.aX 0 z=a at l L p ⊢;obtain⟨k,j,gY,s,h3,xX⟩:=Ze rs z.toNat y;have m: ∀r∈rs.take k,kU r:=fun r q=>y r (List.mem_of_mem_take q);have T:Cr a z:=⟨p,by omega,u,by omega⟩;have aCR:((rs.take k).flatMap eK).length+j.length=a.n:=by rw[←a_,l,s,dC]
 have aot:=ae7 m;obtain⟨cq,K,f,g⟩:=aAc T (rs.take k) [] j ((toNat ((a.n:Int)-0))+1) D m (by rw[l,s];rfl) h3 (by omega);obtain⟨J,dF,t⟩:=BD (a:=a) (b:=z) T.s.1 T.s.2 T.n;have S:lZ a z=mK a z ((toNat ((a.n:Int)-0))+1) ((([]:List Int).length:Nat):Int) D:=by unfold lZ;rw[J];rfl
 rw[←S]at f g;have M:tY a z=(lZ a z).2:=by unfold tY;rw[t];rfl
 have N:wu a z=G.part a 0 (lZ a z).1:=by unfold wu;rw[t,J];rfl
 have O:De a z=(lZ a z).1:=by
  unfold De;rw[t,dF];have:=ob z (lZ a z).1;rw[fH]at f;show fs z (lZ a z).1=_;omega
 rw[M,N,O];generalize lZ a z=R at f g ⊢;rw[fH,c1]at f;rw[show(D:G bo).B=[]from rfl,pK]at g;obtain⟨v,o⟩:=ahd k B;have aAs:R.2.n≤549755813888:=by
  have:=K.length;rw[←a_,g,←this];omega
 obtain⟨U,V,W,X,Y,Z,_,w⟩:=aoC aAs (by rw[g];exact K) o fun r q=>(m r q).c;have C:core (Y8 R.2 (G.part a 0 R.1) R.1 n)=v:=by
  show(⟨zs R.2,zt R.2,mL R.2,oP R.2,zu R.2,(p5 R.2).B⟩:gz)=v;rw[U,V,W,X,Y,Z]
 have fL:(G.part a 0 R.1).B=(rs.take k).flatMap eK:=by
  rw[pO _ _ _ (cR _) (by omega) (by omega),l,s,f,show(0:Int).toNat=0 from rfl,List.drop_zero,show((((rs.take k).flatMap eK).length:Nat)- (0:Int)).toNat=((rs.take k).flatMap eK).length by omega,List.take_left]
 have aEn:(G.part a 0 R.1).n=((rs.take k).flatMap eK).length:=by rw[←a_,fL]
 refine⟨⟨⟨fun i=>p _,?_,?_,?_⟩,rs.take k,m,fL,by rw[C];exact o⟩,fun e=> ?_,?_⟩
 ·show(G.part a 0 R.1).n≤400000;omega
 ·show 0≤R.1;omega
 ·show R.1≤(((G.part a 0 R.1).n:Nat):Int);omega
 ·rw[C];have:=aCw e;obtain⟨q1,fh⟩:=xX (by rw[←A,a_];omega);rw[q1,List.take_length]at o;exact ag7 o B
 ·refine⟨(e7 R.2).2.2.2.2.2.1,(e7 R.2).2.2.2.2.2.2.1,(e7 R.2).2.2.2.2.2.2.2.1,(e7 R.2).2.2.2.2.2.2.2.2.1,?_,?_⟩
  ·show wv R.2=_;unfold wv;rw[w];rfl
  ·show wx R.2=_;unfold wx;rw[w];rfl
section
variable {A g:Int} {r:G aq} {h o:Int} {c:G aq}
def iV(A:Int)(r:G aq)(h:Int)(c:G aq)(w:Int):G aq:=G.app (G.part r 0 (cn A h c-A+w)) (G.part (dO A h c) w (((dO A h c).n:Nat):Int))
theorem Zf{w:Int}(a:0≤cn A h c-A+w)(b:0≤w∧w≤((dO A h c).n:Int)):(((iV A r h c w).n:Nat):Int)=cn A h c-A+((dO A h c).n:Int):=by
 show(((cn A h c-A+w-0).toNat+(((dO A h c).n:Int)-w).toNat:Nat):Int)=_;omega
end
abbrev agG(a b:Int):bo:=⟨1,a,b,0,0,0,false,0,0,0,⟨#[]⟩,⟨#[]⟩,⟨#[]⟩,0,0,0,0,D,0,D⟩
abbrev Mu(v:Int)(x:aq):bo:=⟨2,0,0,v,x.q,x.C,x.z,x.I,x.w,x.m,x.N,x.ao,x.i,x.aC,0,0,0,D,0,D⟩
abbrev yl(i t a:Int)(b:G L)(c:Int)(d:G aw):bo:=⟨3,0,0,0,0,0,false,0,0,0,⟨#[]⟩,⟨#[]⟩,⟨#[]⟩,0,i,t,a,b,c,d⟩
structure ki (d:G Int) (s:Int) (c:gz):Prop where
 t:Cr d s
 r: ∃rs,(∀r∈rs,kU r)∧d.B=rs.flatMap eK∧lS tS rs c
theorem gA.w{n:H}(h:gA n):ki n.aX n.bc (core n):=⟨h.t,h.r⟩
theorem ki.n{n:H}(h:ki n.aX n.bc (core n)):gA n:=⟨h.t,h.r⟩
theorem oM:dt (D:G L):=⟨cf _,fun i a=>absurd a (en _)⟩
theorem oL:ey (D:G aw):=⟨cf _,fun i a=>absurd a (en _)⟩
theorem aha: ∀{rs:List bo} {c d:gz},c.bX=c.j→lS c rs d→d.bX=d.j
 |[],c,d,e,h=>by
  have h:c=d:=h;subst h;exact e
 |r::rs,c,d,e,h=>by
  refine aha (c:=hL c r) ?_ h.2;unfold hL
  by_cases a:r.q=1
  ·rw[bf a];exact e
  rw[a7 a]
  by_cases b:r.q=2
  ·rw[bf b]
   by_cases f:r.I≤c.j
   ·rw[bf f];exact e
   ·rw[a7 f];exact e
  rw[a7 b]
  by_cases g:r.aY>c.bX
  ·rw[bf g]
  ·rw[a7 g];exact e
theorem gA.bX{n:H}(h:gA n):n.bX=n.j:=by
 obtain⟨rs,_,_,a⟩:=h.r;exact aha (c:=tS) rfl a
theorem G3{n:H}{c:gz}(h:ki n.aX n.bc c){rc:bo}(m:dt rc.ei)(l:ey rc.ej)(p:vJ c rc):(gD rc n=false∧(fr rc n).aX=n.aX∧(fr rc n).bc=n.bc)∨(gD rc n=true∧kU rc∧ki (fr rc n).aX (fr rc n).bc (hL c rc)):=by
 rcases aCq h.t m l with a|⟨a,b,d,e,f⟩
 ·exact .inl a
 ·obtain⟨rs,i,j,k⟩:=h.r;have o:(fr rc n).aX.n=n.aX.n+(eK rc).length:=by rw[←a_,d,dC,a_]
  refine .inr ⟨a,b,⟨tr h.t.u,f,?_⟩,rs++[rc],?_,?_,ag5 k p⟩
  ·rw[e,o];have:=h.t.s;omega
  ·intro r g;rcases g8.1 g with g|g
   ·exact i r g
   ·rw[List.mem_singleton.1 g];exact b
  ·rw[d,j,yJ,gO,List.flatMap_nil,h_]
theorem gA.same{n m:H}(h:gA n)(a:m.aX=n.aX)(b:m.bc=n.bc)(aZ:core m=core n):gA m:=by
 refine ki.n ?_;rw[a,b,aZ];exact h.w
theorem aCk{n:H}(h:gA n)(a b:Int):gA (fq a b n):=by
 rcases G3 h.w (rc:=(agG a b)) oM oL (fun z=>absurd z (show(1:Int)≠2 by decide))with⟨r,d,f⟩|⟨r,_,w⟩
 ·have e:fq a b n=n:=axp (by unfold si;rw[r];rfl);rw[e];exact h
 ·refine ki.n ?_;have c:core (fq a b n)=hL (core n) (agG a b):=by
   unfold core fq Sh Si;rw[r];rfl
  rw[c];exact w
section
variable {A g:Int} {r:G aq} {h o:Int} {c:G aq}
theorem afu(m:0≤A∧A≤1048576)(q:r.n≤200)(o:A≤cn A h c∧cn A h c≤A+(r.n:Int))(n:(dO A h c).n≤200):
  ∀(k:Nat) (v:Int),0≤v→v≤((dO A h c).n:Int)→toNat (((dO A h c).n:Int)-v)<k→cn A h c-A+v≤(r.n:Int)→(nb A g r h c k v).1=true→(nb A g r h c k v).2.2.2.2.2.2=0→
   ∃w,v≤w∧w<((dO A h c).n:Int)∧cn A h c-A+w≤(r.n:Int)∧cz A g (iV A r h c w)=0∧(nb A g r h c k v).2.1=A∧(nb A g r h c k v).2.2.1=g∧(nb A g r h c k v).2.2.2.1=iV A r h c w∧(nb A g r h c k v).2.2.2.2.2.1=cn A h c+w+1
 |0,v,_,_,l,_,_,_=>absurd l (en _)
 |k+1,v,x,y,t,p,a,b=>by
  rw[nb]at a b ⊢
  by_cases f:v<((dO A h c).n:Int)
  ·rw[bS f]at a b ⊢;simp only[aQ]at a b ⊢
   cases e:qz A r h c v with
   |true=>
    have u:cn A h c-A+v<(r.n:Int):=by
     unfold qz at e;rw[E (cn A h c-A),E (cn A h c-A+v)]at e
     by_cases d:cn A h c-A+v<(r.n:Int)
     ·exact d
     ·rw[bp d]at e;cases e
    rw[e]at a b;simp only[aQ]at a b ⊢;rw[E (v+1)]at a b ⊢;obtain⟨w,s,j⟩:=afu m q o n k (v+1) (by omega) (by omega) (by omega) (by omega) a b;exact⟨w,by omega,j⟩
   |false=>
    rw[e]at a b;simp only[aS]at a b ⊢;rw[E (cn A h c-A),E (cn A h c-A+v),E (cn A h c+v),E (cn A h c+v+1)]at a b ⊢
    cases i:(cz A g (G.app (G.part r 0 (cn A h c-A+v)) (G.part (dO A h c) v (((dO A h c).n:Nat):Int)))!=0)with
    |true=>
     rw[i]at b;exact absurd b (by decide:(6:Int)≠0)
    |false=>exact⟨v,cR _,f,p,bB i,rfl,rfl,rfl,rfl⟩
  ·rw[bp f]at a
   cases a
theorem afw(i:hI A g r h o c=0)(a:dp A g r h o c≠0):
  ∃w,(0≤w∧w<((dO A h c).n:Int))∧(A≤cn A h c∧cn A h c-A+w≤(r.n:Int))∧cz A g (iV A r h c w)=0∧b9 A g r h o c=A∧sA A g r h o c=g∧bZ A g r h o c=iV A r h c w∧dp A g r h o c=cn A h c+w+1:=by
 unfold hI at i;unfold dp at a ⊢;unfold b9 sA bZ
 cases b:(cz A g r !=0)with
 |true=>rw[b]at a;exact absurd rfl a
 |false=>
 cases d:(cz h o c !=0)with
 |true=>rw[b,d]at a;exact absurd rfl a
 |false=>
 cases f:n8 A g r h o c with
 |false=>rw[b,d,f]at a;exact absurd rfl a
 |true=>
 cases e:sB A g r h c with
 |true=>rw[b,d,f,e]at a;exact absurd rfl a
 |false=>
 rw[b,d,f,e]at i;simp only[aS,aQ]at i ⊢;have z:=eS _ _ _ (bB b);have j:=eS _ _ _ (bB d);have k:=f75 A g r h o c f ⟨⟨z.1,z.2.2.1⟩,j.1,j.2.2.1⟩;have t:(qA A g r h c).1=true:=by
  unfold sB at e
  cases q:(qA A g r h c).1 with
  |true=>rfl
  |false=>rw[q]at e;cases e
 obtain⟨w,l,m,n,p,s,u,v,x⟩:=afu (g:=g) z.1 z.2.2.1 k.1 (by omega) (toNat (((dO A h c).n:Int)-0)+1) 0 (cR _) (by omega) (by omega) (by omega) t i;exact⟨w,⟨l,m⟩,⟨k.1.1,n⟩,p,s,u,v,x⟩
theorem Zd{w:Int}(a:0≤w∧w≤((dO A h c).n:Int))(b:A≤cn A h c)(d:cn A h c-A+w≤(r.n:Int)):(iV A r h c w).B=r.B.take (cn A h c-A+w).toNat++(dO A h c).B.drop w.toNat:=by
 unfold iV;rw[jm,pO _ _ _ (by omega) (by omega) (by omega),pO _ _ _ (by omega) (by omega) (by omega),show(cn A h c-A+w-0).toNat=(cn A h c-A+w).toNat by omega,List.take_of_length_le (l:=(dO A h c).B.drop w.toNat) (by rw[rl,a_];omega)];rfl
end
theorem jr.take{a b:Int}{l:List aq}(h:jr a b l)(k:Nat):jr a b (l.take k):=by
 have c:=h.n;exact⟨h.b,h.t,h.z,⟨by rw[jj];omega,by rw[jj];omega⟩,YP k h.c⟩
theorem aCl{n:H}(h:gA n)(it:aq):gA (ik it n):=by
 by_cases e:ik it n=n
 ·rw[e];exact h
 have L:=h.log;have g:=L.n;rw[a_]at g;have y:=L.b;have p:b7 n=n.j+(n.li.n:Int):=ae1 L;revert e;unfold ik Ao ab9 Ap EF Sg sg
 cases f:(hI n.j n.lt n.li (b7 n) (gq n) (G.lit ([it]:List aq))!=0)with
 |true=>exact fun e=>absurd rfl e
 |false=>
 cases !(im n.j n.lt n.li (b7 n) (gq n) (G.lit ([it]:List aq)))with
 |true=>exact fun e=>absurd rfl e
 |false=>
 cases aZ:(dp n.j n.lt n.li (b7 n) (gq n) (G.lit ([it]:List aq))==0)with
 |true=>exact fun e=>absurd rfl e
 |false=>
 obtain⟨w,⟨z,m⟩,⟨o,q⟩,s,u,v,x,_⟩:=afw (bB f) (hx.1 aZ);have k:cn n.j (b7 n) (G.lit ([it]:List aq))=n.j+(n.li.n:Int):=by
  unfold cn;rw[p,bp (by omega)];rfl
 have c:dO n.j (b7 n) (G.lit ([it]:List aq))=G.lit ([it]:List aq):=by
  unfold dO;rw[p,bp (by omega)];rfl
 obtain rfl:w=0:=by
  rw[c]at m;have:(((G.lit ([it]:List aq)).n:Nat):Int)=1:=rfl;omega
 have b:(iV n.j n.li (b7 n) (G.lit ([it]:List aq)) 0).B=n.li.B++[it]:=by
  rw[Zd ⟨cR _,by omega⟩ o q,k,c,jn,List.take_of_length_le (by rw[a_];omega)];rfl
 have a:jr n.j n.lt (n.li.B++[it]):=by rw[←b];exact xr.1 s
 have j:=a.n;rw[dC,a_,dr,fH]at j;have i:i64.wrap (b7 n+1)=n.j+(n.li.n:Int)+1:=by rw[p];exact E _
 have d:n.li.B.take (n.j+(n.li.n:Int)+1-n.j-1).toNat=n.li.B:=List.take_of_length_le (by rw[a_];omega);rw[u,v,x,i];have st:hL (core n) (Mu (n.j+(n.li.n:Int)+1) it)={core n with li:=n.li.B++[it]} :=by
  unfold hL;rw[a7 (show¬(2:Int)=1 by decide),bf rfl];show(if n.j+(n.li.n:Int)+1≤n.j then core n else {core n with li:=n.li.B.take (n.j+(n.li.n:Int)+1-n.j-1).toNat++[it]})=_;rw[a7 (by omega),d]
 have l:vJ (core n) (Mu (n.j+(n.li.n:Int)+1) it):=by
  intro _;right;show n.j+(n.li.n:Int)+1≤n.j+(n.li.B.length:Int)+1∧jr n.j n.lt (n.li.B.take (n.j+(n.li.n:Int)+1-n.j-1).toNat++[it]);rw[d,a_];exact⟨cR _,a⟩
 rcases G3 h.w oM oL l with⟨r,t⟩|⟨r,_,W⟩
 ·intro e;rw[r,t.1,t.2]at e;exact absurd rfl e
 ·intro _;rw[st,←b]at W;refine ki.n ?_;rw[r];exact W
section
variable {ms:ah} {d:H} {F:G ah} {O:G bF} {ar:G aM}
theorem azD{lp:Int}{l:G aq}(o:b9 d.j d.lt d.li ms.w ms.m ms.i=d.j)(p:bZ d.j d.lt d.li ms.w ms.m ms.i=l)(e:jr d.j d.lt l.B)(B:d.j+1≤lp∧lp≤d.j+(l.n:Int)):
  ∀(k:Nat) (v:Int) (a:G Int) (b:Int) (li:List aq),lp≤v→v≤d.j+(l.n:Int)+1→toNat (d.j+(l.n:Int)+1-v)<k→ki a b {core d with li:=li} →li.take (v-d.j-1).toNat=l.B.take (v-d.j-1).toNat→(v-d.j-1).toNat≤li.length→(lp<v→li=l.B.take (v-d.j-1).toNat)→
   (ja ms d F O ar k v a b).1=true∨((ja ms d F O ar k v a b).1=false∧ki (ja ms d F O ar k v a b).2.1 (ja ms d F O ar k v a b).2.2.1 {core d with li:=l.B}):=by
 have q:=e.n;rw[a_]at q;have A:=e.b;intro k
 induction k with
 |zero=>intro v a b li _ _ h;exact absurd h (en _)
 |succ k u=>
  intro v a b li y z C W j D s;rw[ja,o,p,E (d.j+(l.n:Int))]
  by_cases c:v≤d.j+(l.n:Int)
  ·have g:(v-d.j-1).toNat<l.B.length:=by rw[a_];omega
   rw[bS c,aQ,E (v-d.j),E (v-d.j-1),show l.at' (toNat (v-d.j-1))=l.B[(v-d.j-1).toNat]from PD (i:=(v-d.j-1).toNat) (cI g),E (v+1)];generalize t:l.B[(v-d.j-1).toNat]=x;have m:l.B.take (v-d.j-1).toNat++[x]=l.B.take (v+1-d.j-1).toNat:=by
    rw[show(v+1-d.j-1).toNat=(v-d.j-1).toNat+1 by omega,List.take_add_one,cI g,t];rfl
   have st:hL {core d with li:=li} (Mu v x)={core d with li:=l.B.take (v+1-d.j-1).toNat} :=by
    unfold hL;rw[a7 (show¬(2:Int)=1 by decide),bf rfl];show(if v≤d.j then _ else {core d with li:=li.take (v-d.j-1).toNat++[x]})=_;rw[a7 (by omega),j,m]
   have w:vJ {core d with li:=li} (Mu v x):=by
    intro _;right;show v≤d.j+(li.length:Int)+1∧jr d.j d.lt (li.take (v-d.j-1).toNat++[x]);rw[j,m];exact⟨by omega,e.take _⟩
   rcases G3 (n:=At d a b) (c:={core d with li:=li}) W oM oL w with⟨r,_,_⟩|⟨r,_,f⟩
   ·rw[r];exact .inl rfl
   ·rw[r];rw[st]at f;simp only[Bool.not_true,aS];exact u (v+1) _ _ _ (by omega) (by omega) (by omega) f (by rw[List.take_take,Nat.min_self]) (by rw[jj,a_];omega) fun _=>rfl
  ·rw[bp c,aS];have H:v=d.j+(l.n:Int)+1:=by omega
   have:li=l.B:=by
    rw[s (by omega),List.take_of_length_le (by rw[a_];omega)]
   rw[this]at W;exact .inr ⟨rfl,W⟩
theorem aCh(b:gA d):gA (nZ ms d F O ar):=by
 have L:=b.log;have t:=L.n;rw[a_]at t;unfold nZ;rw[H.fx,H.fx,H.fx]
 cases s:(hI d.j d.lt d.li ms.w ms.m ms.i !=0)with
 |true=>exact b
 |false=>
 cases J:(!(im d.j d.lt d.li ms.w ms.m ms.i))with
 |true=>exact b.same rfl rfl rfl
 |false=>
 simp only[aS]
 cases a:decide (dp d.j d.lt d.li ms.w ms.m ms.i>0)with
 |false=>
  have g:j0 ms d F O ar=true:=by unfold j0;rw[a];rfl
  rw[g,aQ];refine b.same (m:=o6 _ (et _ _ (w8 ms d F O ar)) O) ?_ ?_ ?_
  ·show uC ms d F O ar=_;unfold uC;rw[a];rfl
  ·show As ms d F O ar=_;unfold As;rw[a];rfl
  ·show(⟨d.a6,d.cC,d.bX,lA ms d,Ar ms d,(ky ms d).B⟩:gz)=core d;unfold lA Ar ky;rw[a];rfl
 |true=>
  have I:=al a;obtain⟨w,⟨l,M⟩,⟨z,B⟩,C,j,D,k,N⟩:=afw (bB s) (show dp d.j d.lt d.li ms.w ms.m ms.i≠0 by omega);have i:jr d.j d.lt (iV d.j d.li ms.w ms.i w).B:=xr.1 C;have G:=Zf (A:=d.j) (r:=d.li) (h:=ms.w) (c:=ms.i) (w:=w) (by omega) ⟨l,by omega⟩;have amK:=Zd (A:=d.j) (r:=d.li) (h:=ms.w) (c:=ms.i) (w:=w) ⟨l,by omega⟩ z B;have u:=i.n;rw[a_]at u;have K:=i.b;have W:(iC ms d F O ar).1=true∨((iC ms d F O ar).1=false∧ki (iC ms d F O ar).2.1 (iC ms d F O ar).2.2.1 {core d with li:=(iV d.j d.li ms.w ms.i w).B}):=azD (lp:=dp d.j d.lt d.li ms.w ms.m ms.i) j k i (by omega) _ _ d.aX d.bc d.li.B (cR _) (by omega) (by rw[j,k,E (d.j+((iV d.j d.li ms.w ms.i w).n:Int))];omega) b.w (by
   have e:(dp d.j d.lt d.li ms.w ms.m ms.i-d.j-1).toNat=(cn d.j ms.w ms.i-d.j+w).toNat:=by omega
   rw[amK,e,List.take_append,List.take_take,Nat.min_self,jj,a_,show(cn d.j ms.w ms.i-d.j+w).toNat-min (cn d.j ms.w ms.i-d.j+w).toNat d.li.n=0 by omega,List.take_zero,h_]) (by rw[a_];omega) fun q=>absurd q (by omega)
  rcases W with W|⟨o,p⟩
  ·have g:j0 ms d F O ar=false:=by unfold j0 w7;rw[a,W];rfl
   have f:_∨((iC ms d F O ar).1=true∧(iC ms d F O ar).2.2.2=yA d F O ar):=LO _ _ _ _ b.t.u;rcases f with⟨f,_⟩|⟨_,f⟩
   ·cases W.symm.trans f
   ·rw[g,aS,f];exact b
  ·have g:j0 ms d F O ar=true:=by unfold j0 w7;rw[a,o];rfl
   rw[g,aQ];refine ki.n (n:=o6 _ (et _ _ (w8 ms d F O ar)) O) ?_;have v:uC ms d F O ar=(iC ms d F O ar).2.1:=by unfold uC;rw[a];rfl
   have x:As ms d F O ar=(iC ms d F O ar).2.2.1:=by unfold As;rw[a];rfl
   have y:(⟨d.a6,d.cC,d.bX,lA ms d,Ar ms d,(ky ms d).B⟩:gz)={core d with li:=(iV d.j d.li ms.w ms.i w).B} :=by
    unfold lA Ar ky;rw[a,aQ,aQ,aQ,j,D,k];rfl
   show ki (uC ms d F O ar) (As ms d F O ar) (⟨d.a6,d.cC,d.bX,lA ms d,Ar ms d,(ky ms d).B⟩:gz);rw[v,x,y];exact p
theorem ahw{i t A r:Int}{g:G L}{h:G aw}(d:lh (yl i t A g r h)):(1≤i∧i≤1048576)∧(1≤t∧t≤1048576)∧dV A g r h=0:=by
 rcases GC d with⟨k,_⟩|⟨k,_⟩|⟨_,a,b,c⟩
 ·exact absurd (show(3:Int)=1 from k) (by decide)
 ·exact absurd (show(3:Int)=2 from k) (by decide)
 ·exact⟨a,b,c⟩
theorem aCi(h:gA d)(v:d.j≤d.co)(l:dt ms.bN)(k:ey ms.aY):gA (n0 ms d):=by
 have L:=h.log;have w:=h.bX;unfold n0;rw[H.fx]
 cases e:decide (ms.aC>d.co)with
 |false=>
  have p:uD ms d=true:=by unfold uD;rw[e];rfl
  rw[p,aQ];refine h.same (m:=et _ _ (o4 ms d)) ?_ ?_ ?_
  ·show qj ms d=_;unfold qj;rw[e];rfl
  ·show Au ms d=_;unfold Au;rw[e];rfl
  ·show(⟨d.a6,d.cC,ql ms d,qi ms d,Av ms d,(qk ms d).B⟩:gz)=core d;unfold ql qi Av qk;rw[e];rfl
 |true=>
  have u:=al e;rcases G3 h.w (rc:=(yl ms.aC ms.bU ms.bY ms.bN ms.cc ms.aY)) l k (fun z=>absurd z (show(3:Int)≠2 by decide))with⟨r,f,g⟩|⟨r,s,W⟩
  ·have p:uD ms d=false:=by unfold uD;rw[e,r];rfl
   rw[p,aS];exact h.same f g rfl
  ·have p:uD ms d=true:=by unfold uD;rw[e,r];rfl
   rw[p,aQ];obtain⟨a,b,c⟩:=ahw s.c;obtain⟨o,q1,q⟩:=V8 L (i:=ms.aC) (t:=ms.bU) (by omega);have j:lC ms.aC ms.bU ms.bY ms.bN ms.cc ms.aY=0:=by
    unfold lC E7;rw[f153 a,f153 b];exact c
   have st:hL (core d) (yl ms.aC ms.bU ms.bY ms.bN ms.cc ms.aY)=⟨d.a6,d.cC,ql ms d,qi ms d,Av ms d,(qk ms d).B⟩:=by
    unfold hL ql qi Av qk uZ SQ u0;rw[e,xr.2 L,j];refine(a7 (show¬(3:Int)=1 by decide)).trans ((a7 (show¬(3:Int)=2 by decide)).trans ((bf (show ms.aC>d.bX by omega)).trans ?_));show(⟨d.a6,d.cC,ms.aC,ms.aC,ms.bU,if mv d.j d.lt d.li.B ms.aC=some ms.bU then d.li.B.drop (ms.aC-d.j).toNat else[]⟩:gz)=⟨d.a6,d.cC,ms.aC,nR d.j d.lt d.li ms.aC ms.bU,r6 d.j d.lt d.li ms.aC ms.bU,(nS d.j d.lt d.li ms.aC ms.bU).B⟩;rw[o,q1,q]
   refine ki.n (n:=et _ _ (o4 ms d)) ?_;have f:qj ms d=(fr (yl ms.aC ms.bU ms.bY ms.bN ms.cc ms.aY) d).aX:=by unfold qj;rw[e];rfl
   have g:Au ms d=(fr (yl ms.aC ms.bU ms.bY ms.bN ms.cc ms.aY) d).bc:=by unfold Au;rw[e];rfl
   show ki (qj ms d) (Au ms d) (⟨d.a6,d.cC,ql ms d,qi ms d,Av ms d,(qk ms d).B⟩:gz);rw[f,g,←st];exact W
theorem aCj(h:gA d)(x:d.j≤d.co)(n:dt d.c6)(m:ey d.dW):gA (o5 d):=by
 have L:=h.log;have A:=h.bX;have y:=L.b;unfold o5;rw[H.fx,H.fx]
 cases j:(d.co==d.j)with
 |true=>exact h
 |false=>
  have B:=hx.1 j;simp only[aS];rcases G3 h.w (rc:=(yl d.co (iE d.j d.lt d.li d.co) d.e5 d.c6 d.eN d.dW)) n m (fun z=>absurd z (show(3:Int)≠2 by decide))with⟨r,s,u⟩|⟨r,q,W⟩
  ·rw[r,aS];exact h.same s u rfl
  ·rw[r,aQ];obtain⟨a,b,c⟩:=ahw q.c;obtain⟨f,v⟩:=acQ L (i:=d.co) (by omega);rw[f]at b;have o:gW d.j d.li d.co=0∧mv d.j d.lt d.li.B d.co=some (jv d.j d.lt d.li d.co):=by
    rcases ahG L (i:=d.co) (by omega)with k|⟨k,_⟩
    ·exact k
    ·exfalso;unfold gW at k;unfold jv at b
     by_cases l:d.co<d.j
     ·omega
     rw[bp l,j]at k b
     cases g:decide (i64.wrap (d.co-d.j)>(d.li.n:Int))with
     |true=>
      rw[g]at b;have w:(1:Int)≤0:=b.1;omega
     |false=>
      rw[g]at k;exact k rfl
   obtain⟨e,q1,p⟩:=V8 L (i:=d.co) (t:=jv d.j d.lt d.li d.co) (by omega);have st:hL (core d) (yl d.co (iE d.j d.lt d.li d.co) d.e5 d.c6 d.eN d.dW)=core (Su d):=by
    unfold hL;rw[f];refine(a7 (show¬(3:Int)=1 by decide)).trans ((a7 (show¬(3:Int)=2 by decide)).trans ((bf (show d.co>d.bX by omega)).trans ?_));show(⟨d.a6,d.cC,d.co,d.co,jv d.j d.lt d.li d.co,if mv d.j d.lt d.li.B d.co=some (jv d.j d.lt d.li d.co)then d.li.B.drop (d.co-d.j).toNat else[]⟩:gz)=⟨d.a6,d.cC,d.co,o_ d.j d.lt d.li d.co,AR d.j d.lt d.li d.co,(qv d.j d.lt d.li d.co).B⟩;rw[←p];unfold nR r6 nS nT at*
    rw[f,v,o.1]at e q1 ⊢;simp only[pM,aQ]at e q1 ⊢;rw[e,q1]
   refine ki.n ?_;rw[←st];exact W
theorem ah1(h:gA d):gA (n1 d)∧(n1 d).bc=((n1 d).aX.n:Int)∧core (n1 d)=core d:=by
 obtain⟨e,g,g0⟩:=BD (a:=d.aX) (b:=d.bc) h.t.s.1 h.t.s.2 h.t.n;have c:(n1 d).aX=d.aX:=by
  show AI d.aX d.bc=_;unfold AI;rw[g0,e];rfl
 have f:(n1 d).bc=(d.aX.n:Int):=by
  show JK d.aX d.bc=_;unfold JK;rw[g0,e];rfl
 refine⟨ki.n ⟨?_,?_⟩,by rw[c,f],rfl⟩
 ·rw[c,f];exact⟨h.t.u,h.t.n,by omega,cR _⟩
 ·rw[c];exact h.r
end
theorem WK:aD (D:G Int):=fun _=>⟨cR (0:Int),(by decide:(0:Int)≤255)⟩
theorem aBL{s:G Int}(h:aD s)(n:Int)(b:Bool):aD (fc n s b):=by
 unfold fc;exact ep (P:=aD) WK fun i=>h _
theorem CD{s:G Int}(h:aD s)(b:Bool):0≤cm s b∧cm s b≤255:=by
 have k:=aBL h 1 b (toNat 0);unfold cm
 cases decide (0<((fc 1 s b).n:Int))with
 |false=>exact⟨cR _,(by decide:(0:Int)≤255)⟩
 |true=>
  rw[aQ,E _];exact k
section
variable {α:Type} [Inhabited α]
theorem zk{L:Nat→Int→G Int→Bool→G α→G Int×Bool×G α}{eW:G Int→Bool→G Int}{eM:G Int→Bool→Bool}{f:G Int→Bool→α}
  (j: ∀v s b a,L 0 v s b a=default) (h: ∀k v s b a,L (k+1) v s b a=bif(cond (decide (v>0)) (!b) false)then L k (i64.wrap (v-1)) (eW s b) (eM s b) (G.app a (G.lit [f s b]))else(s,b,a))
  (m: ∀s b,aD s→aD (eW s b)) {P:α→Prop} (l: ∀s b,aD s→P (f s b)): ∀(d:Nat) (v:Int) (s:G Int) (b:Bool) (a:G α),aD s→0≤v→v≤255→(∀i,i<a.n→P (a.at' i))→
   ((((L d v s b a).2.2.n:Nat):Int)≤(a.n:Int)+v∧ ∀i,i<(L d v s b a).2.2.n→P ((L d v s b a).2.2.at' i))∧aD (L d v s b a).1
 |0,v,s,b,a,_,q,_,_=>by
  rw[j];exact⟨⟨by show((0:Nat):Int)≤_;omega,fun i n=>absurd n (en _)⟩,WK⟩
 |d+1,v,s,b,a,e,r,t,g=>by
  rw[h]
  by_cases c:v>0
  ·rw[bS c,aQ]
   cases b with
   |true=>exact⟨⟨by show(a.n:Int)≤_;omega,g⟩,e⟩
   |false=>
    simp only[Bool.not_false,aQ];rw[E (v-1)];obtain⟨⟨u,o⟩,p⟩:=zk j h m l d (v-1) (eW s false) (eM s false) (G.app a (G.lit [f s false])) (m _ _ e) (by omega) (by omega) (Yl g (l _ _ e));have:((G.app a (G.lit [f s false])).n:Int)=(a.n:Int)+1:=by show((a.n+1:Nat):Int)=_;omega
    exact⟨⟨by omega,o⟩,p⟩
  ·rw[bp c];exact⟨⟨by show(a.n:Int)≤_;omega,g⟩,e⟩
end
section
variable {ab:G Int}
theorem axQ(h:aD ab)(b:Bool):(DQ ab b (D:G bl)).n≤255∧aD (qa ab b (D:G bl)):=by
 have v:=CD h b;have k:=zk (L:=wF) (eW:=z6) (eM:=Jh) (f:=fun ab b=>(⟨hG ab b,hG (cl ab b) (cy ab b)⟩:bl)) (fun _ _ _ _=>rfl) (fun _ _ _ _ _=>rfl) (fun ab b a=>ea (ea a)) (P:=fun _=>True) (fun _ _ _=>trivial) ((toNat (cm ab b))+1) (cm ab b) (bW ab b) (b5 ab b) D (ee h) v.1 v.2 (fun _ _=>trivial);have c:(((DQ ab b (D:G bl)).n:Nat):Int)≤((0:Nat):Int)+cm ab b:=k.1.1;exact⟨by omega,k.2⟩
theorem axR(h:aD ab)(b:Bool):(DT ab b (D:G bH)).n≤255∧aD (DS ab b (D:G bH)):=by
 have v:=CD h b;have k:=zk (L:=wG) (eW:=z7) (eM:=Ji) (f:=fun ab b=>(⟨hG ab b,cO (cl ab b) (cy ab b)⟩:bH)) (fun _ _ _ _=>rfl) (fun _ _ _ _ _=>rfl) (fun ab b a=>dY (ea a)) (P:=fun _=>True) (fun _ _ _=>trivial) ((toNat (cm ab b))+1) (cm ab b) (bW ab b) (b5 ab b) D (ee h) v.1 v.2 (fun _ _=>trivial);have c:(((DT ab b (D:G bH)).n:Nat):Int)≤((0:Nat):Int)+cm ab b:=k.1.1;exact⟨by omega,k.2⟩
theorem UL(h:aD ab)(b:Bool):(wJ ab b).n≤255∧aD (r5 ab b):=by
 have v:=CD h b;have k:=zk (L:=wH) (eW:=z8) (eM:=Jj) (f:=hG) (fun _ _ _ _=>rfl) (fun _ _ _ _ _=>rfl) (fun ab b a=>ea a) (P:=fun _=>True) (fun _ _ _=>trivial) ((toNat (cm ab b))+1) (cm ab b) (bW ab b) (b5 ab b) D (ee h) v.1 v.2 (fun _ _=>trivial);have c:(((wJ ab b).n:Nat):Int)≤((0:Nat):Int)+cm ab b:=k.1.1;exact⟨by omega,k.2⟩
theorem afE(h:aD ab)(b:Bool):((zP ab b).n≤255∧(zQ ab b).n≤255∧(zR ab b).n≤255)∧aD (r4 ab b):=by
 have e:=dY (g:=cy (bW ab b) (b5 ab b)) (ea (g:=b5 ab b) (ee (g:=b) h));have a:=axQ e (aF (cl (bW ab b) (b5 ab b)) (cy (bW ab b) (b5 ab b)));have c:=UL a.2 (r3 (aE (cl (bW ab b) (b5 ab b)) (cy (bW ab b) (b5 ab b))) (aF (cl (bW ab b) (b5 ab b)) (cy (bW ab b) (b5 ab b))) (D:G bl));have d:=axR c.2 (wK (qa (aE (cl (bW ab b) (b5 ab b)) (cy (bW ab b) (b5 ab b))) (aF (cl (bW ab b) (b5 ab b)) (cy (bW ab b) (b5 ab b))) (D:G bl)) (r3 (aE (cl (bW ab b) (b5 ab b)) (cy (bW ab b) (b5 ab b))) (aF (cl (bW ab b) (b5 ab b)) (cy (bW ab b) (b5 ab b))) (D:G bl)));exact⟨⟨a.1,c.1,d.1⟩,d.2⟩
theorem axN(d:aD ab)(b:Bool):dt (oY ab b (D:G L))∧aD (oX ab b (D:G L)):=by
 have v:=CD d b;have k:=zk (L:=wE) (eW:=zO) (eM:=I3) (f:=fun r h=>(⟨(hG r h),(DX (cl r h) (cy r h)),(DY (cl r h) (cy r h)),(DZ (cl r h) (cy r h)),(zP (cl r h) (cy r h)),(zQ (cl r h) (cy r h)),(zR (cl r h) (cy r h)),(cO (r4 (cl r h) (cy r h)) (wI (cl r h) (cy r h)))⟩:L)) (fun _ _ _ _=>rfl) (fun _ _ _ _ _=>rfl) (fun ab b c=>dY (afE (ea c) _).2) (P:=fun x=>x.w.n≤255∧x.m.n≤255∧x.N.n≤255) (fun ab b c=>(afE (ea c) _).1) ((toNat (cm ab b))+1) (cm ab b) (bW ab b) (b5 ab b) D (ee d) v.1 v.2 (fun i a=>absurd a (en _));have e:(((oY ab b (D:G L)).n:Nat):Int)≤((0:Nat):Int)+cm ab b:=k.1.1;refine⟨⟨by omega,fun i a=> ?_⟩,k.2⟩;have q:=k.1.2 i a;exact⟨dB q.1 (by decide),dB q.2.1 (by decide),dB q.2.2 (by decide)⟩
theorem axO(h:aD ab)(b:Bool):ey (oZ ab b (D:G aw)):=by
 have v:=CD h b;have us: ∀(ab:G Int) (b:Bool),aD ab→aD (aE (cl (bW (aE (aE (aE ab b) (aF ab b)) (aF (aE ab b) (aF ab b))) (aF (aE (aE ab b) (aF ab b)) (aF (aE ab b) (aF ab b)))) (b5 (aE (aE (aE ab b) (aF ab b)) (aF (aE ab b) (aF ab b))) (aF (aE (aE ab b) (aF ab b)) (aF (aE ab b) (aF ab b))))) (cy (bW (aE (aE (aE ab b) (aF ab b)) (aF (aE ab b) (aF ab b))) (aF (aE (aE ab b) (aF ab b)) (aF (aE ab b) (aF ab b)))) (b5 (aE (aE (aE ab b) (aF ab b)) (aF (aE ab b) (aF ab b))) (aF (aE (aE ab b) (aF ab b)) (aF (aE ab b) (aF ab b)))))):=fun ab b a=>dY (ea (ee (dY (dY (dY a)))));have k:=zk (L:=DP) (eW:=zS) (eM:=I4) (f:=YW) (fun _ _ _ _=>rfl) (fun _ _ _ _ _=>rfl) (fun ab b a=>(UL (us ab b a) _).2) (P:=fun x=>x.N.n≤255) (fun ab b a=>(UL (us ab b a) _).1) ((toNat (cm ab b))+1) (cm ab b) (bW ab b) (b5 ab b) D (ee h) v.1 v.2 (fun i c=>absurd c (en _));have d:(((oZ ab b (D:G aw)).n:Nat):Int)≤((0:Nat):Int)+cm ab b:=k.1.1;exact⟨by omega,fun i c=>dB (k.1.2 i c) (by decide)⟩
theorem anw(h:aD ab):dt (qC ab)∧ey (qD ab):=by
 have a:=axN (dY (g:=false) h) (aF ab false);have c:=axO (dY (g:=ml ab) a.2) (LX ab);have q1:qC ab=(bif decide ((ab.n:Int)>20000)then D else bif(fS true (pr ab) (qU ab)!=0)then D else bif(dV (cO ab false) (c6 ab) (cO (nq ab) (ml ab)) (og ab)!=0)then D else c6 ab):=rfl;have b:qD ab=(bif decide ((ab.n:Int)>20000)then D else bif(fS true (pr ab) (qU ab)!=0)then D else bif(dV (cO ab false) (c6 ab) (cO (nq ab) (ml ab)) (og ab)!=0)then D else og ab):=rfl;rw[q1,b];exact⟨ep (P:=dt) oM (ep (P:=dt) oM (ep (P:=dt) oM a.1)),ep (P:=ey) oL (ep (P:=ey) oL (ep (P:=ey) oL c))⟩
end
def kh(m:ah):Prop:=dt m.bN∧ey m.aY
def dZ(s:G ah):Prop:= ∀j,kh (s.at' j)
theorem ahv:kh default:=⟨oM,oL⟩
theorem oj{a b c d e f h p q:Int}{g:Bool}{l:G aq}{x y:Int} :kh (⟨a,b,c,d,e,f,g,h,l,p,q,x,(D:G L),y,(D:G aw)⟩:ah):=⟨oM,oL⟩
theorem BF:dZ (D:G ah):=fun _=>ahv
theorem Ve{s:G ah}{x:ah}(h:dZ s)(a:kh x):dZ (G.app s (G.lit [x])):=by
 intro j;show kh (cond (Nat.blt j s.n) (s.at' j) (([x]:List ah).getD (j-s.n) default));refine ep (P:=kh) (h j) ?_
 match j-s.n with
 |0=>exact a
 |_+1=>exact ahv
theorem agb{s:G ah}(h:dZ s)(i j:Nat):dZ (G.del s i j):=by
 intro t;show kh (cond (Nat.blt t i) (s.at' t) (s.at' (t+(j-i))));exact ep (P:=kh) (h t) (h _)
theorem aga{n:H}(h:dZ n.bw): ∀(k:Nat) (v:Int) (s:G ah),dZ s→dZ (uJ n k v s)
 |0,_,_,_=>by
  rw[uJ];exact BF
 |k+1,v,s,a=>by
  rw[uJ];refine ep (P:=dZ) (aga h k _ _ ?_) a;exact ep (P:=dZ) (Ve a (h _)) a
structure lQ (n:H):Prop where
 m:dt n.c6∧ey n.dW
 s:dt n.eU∧ey n.eT
 o:dZ n.bw
theorem lQ.st{n m:H}(h:lQ n)(a:m.c6=n.c6)(b:m.dW=n.dW)(aZ:m.eU=n.eU)(c:m.eT=n.eT)(cN:dZ m.bw):lQ m:=
 ⟨by rw[a,b];exact h.m,by rw[aZ,c];exact h.s,cN⟩
theorem k9{n:H}(a:Int){ms:ah}(h:dZ n.bw)(b:kh ms):dZ (et a ms n).bw:=by
 show dZ (JG a ms n);exact ep (P:=dZ) (Ve h b) h
theorem ayY{ms:ah}{n:H}(h:dZ n.bw)(a:kh ms):dZ (uF ms n).bw:=by
 have b:dZ (JA ms n):=by
  exact ep (P:=dZ) (k9 0 h a) h
 have c:dZ (JB ms n):=by
  exact ep (P:=dZ) (k9 (n:=Aw ms n) 1 b a) b
 show dZ (St ms n);exact ep (P:=dZ) (k9 (n:=Ax ms n) 2 c a) c
theorem af_{n:H}(h:lQ n):dZ (uG n).bw:=by
 have a:dZ (EN n):=by
  exact ep (P:=dZ) h.o (ep (P:=dZ) (k9 0 h.o h.s) (k9 0 h.o oj))
 have b:dZ (EO n):=by
  exact ep (P:=dZ) a (ep (P:=dZ) (k9 (n:=uH n) 1 a h.s) (k9 (n:=uH n) 1 a oj))
 show dZ (EP n);exact ep (P:=dZ) b (ep (P:=dZ) (k9 (n:=uI n) 2 b h.s) (k9 (n:=uI n) 2 b oj))
theorem ayX{ms:ah}{n:H}(h:dZ n.bw):dZ (uA ms n).bw:=by
 show dZ (aca ms n);exact ep (P:=dZ) (k9 _ h oj) (k9 _ h oj)
section
variable {d:H}
theorem aih(A:Int)(d:H): ∀(k:Nat) (a:Int) (b:G L) (c:Int) (g:G aw) (e:Int) (f:G bF),dt b→ey g→dt (l8 A d k a b c g e f).2.1∧ey (l8 A d k a b c g e f).2.2.2.1
 |0,_,_,_,_,_,_,_,_=>by
  rw[l8];exact⟨oM,oL⟩
 |k+1,a,b,c,g,e,f,h,i=>by
  rw[l8]
  cases decide (e<A)with
  |false=>exact⟨h,i⟩
  |true=>
   rw[aQ];refine aih A d k _ _ _ _ _ _ ?_ ?_
   ·exact ep (P:=dt) (anv h) h
   ·exact ep (P:=ey) (anu h i) i
theorem afA(A:Int)(O:G bF)(h:lQ d):lQ (o6 A d O):=
 ⟨aih A d _ _ _ _ _ _ _ h.m.1 h.m.2,h.s,h.o⟩
theorem axF(F:G ah)(O:G bF)(ar:G aM)(h:lQ d):lQ (m_ d F O ar):=by
 have f: ∀(k:Nat) (v:Int),(k4 d F O ar k v).1=true→lQ (Bt (k4 d F O ar k v).2):=by
  intro k
  induction k with
  |zero=>intro v e;rw[k4]at e;cases e
  |succ k b=>
   intro v e;rw[k4]at e ⊢;generalize decide (v>d.co)=c at e ⊢
   cases c with
   |false=>cases e
   |true=>
    generalize sn d v=a at e ⊢
    cases a with
    |true=>exact afA v O h
    |false=>exact b _ e
 unfold m_;rw[H.fx]
 cases q:(n2 d F O ar).1 with
 |false=>exact h
 |true=>exact f _ _ q
theorem aCg(F:G ah)(O:G bF)(ar:G aM)(h:gA d):gA (m_ d F O ar):=by
 have f: ∀(k:Nat) (v:Int),(k4 d F O ar k v).1=true→gA (Bt (k4 d F O ar k v).2):=by
  intro k
  induction k with
  |zero=>intro v e;rw[k4]at e;cases e
  |succ k b=>
   intro v e;rw[k4]at e ⊢;generalize decide (v>d.co)=c at e ⊢
   cases c with
   |false=>cases e
   |true=>
    generalize sn d v=a at e ⊢
    cases a with
    |true=>exact h.same (m:=o6 v d O) rfl rfl rfl
    |false=>exact b _ e
 unfold m_;rw[H.fx]
 cases q:(n2 d F O ar).1 with
 |false=>exact h
 |true=>exact f _ _ q
def cT(d:H):Prop:=gA d∧lQ d
theorem cT.st{d m:H}(h:cT d)(a:m.aX=d.aX)(b:m.bc=d.bc)(aZ:core m=core d)(c:m.c6=d.c6)(e:m.dW=d.dW)(f:m.eU=d.eU)(g:m.eT=d.eT)(i:dZ m.bw):cT m:=⟨h.1.same a b aZ,h.2.st c e f g i⟩
theorem f_{c:Bool}{a b:H}(d:cT a)(e:cT b):cT (H.bif c a b):=by
 rw[H.fx]
 cases c
 ·exact e
 ·exact d
theorem azN(a:Int){ms:ah}(h:cT d)(b:kh ms):cT (et a ms d):=h.st rfl rfl rfl rfl rfl rfl rfl (k9 a h.2.o b)
theorem agv(a:Int)(h:cT d):cT (qh a d):=h.st rfl rfl rfl rfl rfl rfl rfl (k9 a h.2.o oj)
theorem azQ(ms:ah)(h:cT d):cT (uA ms d):=h.st rfl rfl rfl rfl rfl rfl rfl (ayX h.2.o)
theorem agx{ms:ah}(h:cT d)(a:kh ms):cT (uF ms d):=h.st rfl rfl rfl rfl rfl rfl rfl (ayY h.2.o a)
theorem azX(h:cT d):cT (uG d):=h.st rfl rfl rfl rfl rfl rfl rfl (af_ h.2)
theorem Ms(a b:Int)(h:cT d):cT (fq a b d):=⟨aCk h.1 a b,h.2.st rfl rfl rfl rfl h.2.o⟩
theorem agw(h:cT d):cT (jZ d):=h.st rfl rfl rfl rfl rfl rfl rfl h.2.o
theorem az0(j:Nat)(h:cT d):cT (H.q9 j d):=by
 match j with
 |0=>exact h.st rfl rfl rfl rfl rfl rfl rfl h.2.o
 |1=>exact h.st rfl rfl rfl rfl rfl rfl rfl h.2.o
 |_+2=>exact h.st rfl rfl rfl rfl rfl rfl rfl h.2.o
theorem azR(h:cT d):cT (sj d):=by
 have k:cT (uB d):=by
  have:uB d=d∨uB d=fq (i64.wrap (d.a6+1)) d.bh d:=by
   unfold uB Sl acd Jw ace
   cases d.a6==1048576
   ·exact .inr rfl
   ·exact .inl rfl
  rcases this with e|e
  ·rw[e];exact h
  ·rw[e];exact Ms _ _ h
 exact f_ k (agx (d:=Aq d) (k.st rfl rfl rfl rfl rfl rfl rfl k.2.o) oj)
theorem azS(ms:ah)(h:cT d):cT (sk ms d):=by
 have k:cT (sl ms d):=by
  have:sl ms d=d∨sl ms d=fq d.a6 ms.q d:=by
   unfold sl Sm acf Jy acg
   cases (!(su d.j d.lt d.li ms.w ms.m))<;>cases decide (d.cC≥0)<;>cases d.cC !=ms.q<;>cases decide (d.cC<0)<;>first|exact .inl rfl|exact .inr rfl
  rcases this with e|e
  ·rw[e];exact h
  ·rw[e];exact Ms _ _ h
 exact f_ (agv _ k) (azN _ k oj)
theorem agu(it:aq)(h:cT d):cT (ik it d):=⟨aCl h.1 it,h.2.st rfl rfl rfl rfl h.2.o⟩
theorem azT(h:cT d):cT (w6 d):=by
 have k:cT (ik (⟨d.a6,(il (m9 d)),true,0,0,0,⟨#[]⟩,⟨#[]⟩,⟨#[]⟩,0⟩:aq) (m9 d)):=agu _ (h.st rfl rfl rfl rfl rfl rfl rfl h.2.o);exact k.st rfl rfl rfl rfl rfl rfl rfl (af_ k.2)
theorem azO(aL:ke)(h:cT d):cT (sf aL d):=by
 unfold sf;have k:cT (ik (⟨d.a6,(il d),false,aL.q,aL.C,aL.z,aL.I,aL.w,aL.m,aL.N⟩:aq) d):=agu _ h;exact f_ h (f_ h (f_ k (k.st rfl rfl rfl rfl rfl rfl rfl k.2.o)))
theorem azV{ms:ah}(h:cT d)(b:d.j≤d.co)(a:kh ms):cT (n0 ms d):=by
 refine⟨aCi h.1 b a.1 a.2,?_⟩;unfold n0;have k:lQ (o4 ms d):=by
  refine⟨⟨?_,?_⟩,⟨?_,?_⟩,h.2.o⟩
  ·exact ep (P:=dt) a.1 h.2.m.1
  ·exact ep (P:=ey) a.2 h.2.m.2
  ·exact ep (P:=dt) a.1 h.2.s.1
  ·exact ep (P:=ey) a.2 h.2.s.2
 rw[H.fx]
 cases uD ms d
 ·exact h.2.st rfl rfl rfl rfl h.2.o
 ·exact k.st rfl rfl rfl rfl (k9 _ k.o oj)
theorem azW(j:Nat)(ms:ah)(F:G ah)(O:G bF)(ar:G aM)(h:cT d):cT (Jz j ms d F O ar):=by
 have a:cT (w9 j ms d):=by
  unfold w9
  match j with
  |0=>exact h.st rfl rfl rfl rfl rfl rfl rfl h.2.o
  |1=>exact h.st rfl rfl rfl rfl rfl rfl rfl h.2.o
  |_+2=>exact h.st rfl rfl rfl rfl rfl rfl rfl h.2.o
 have b:cT (Ss j ms d):=by
  unfold Ss
  match j with
  |0=>exact h.st rfl rfl rfl rfl rfl rfl rfl h.2.o
  |1=>exact h.st rfl rfl rfl rfl rfl rfl rfl h.2.o
  |_+2=>exact h.st rfl rfl rfl rfl rfl rfl rfl h.2.o
 exact f_ ⟨aCg F O ar a.1,axF F O ar a.2⟩ b
end
theorem ago(M:ah)(n:H)(F:G ah)(O:G bF)(ar:G aM)(h:lQ n): ∀(k:Nat) (v:Int) (a:G Int) (b:Int),(ja M n F O ar k v a b).1=true→lQ (Bt (ja M n F O ar k v a b).2.2.2)
 |0,_,_,_,e=>by
  rw[ja]at e
  cases e
 |k+1,v,a,b,e=>by
  rw[ja]at e ⊢;generalize decide (v≤_)=c at e ⊢
  cases c with
  |false=>cases e
  |true=>
   generalize gD _ _=d at e ⊢
   cases d with
   |false=>exact h.st rfl rfl rfl rfl h.o
   |true=>exact ago M n F O ar h k _ _ _ e
theorem azU{ms:ah}{n:H}{F:G ah}{O:G bF}{ar:G aM}(h:cT n):cT (nZ ms n F O ar):=by
 refine⟨aCh h.1,?_⟩;unfold nZ;simp only[H.fx]
 cases hI n.j n.lt n.li ms.w ms.m ms.i !=0
 ·cases im n.j n.lt n.li ms.w ms.m ms.i
  ·exact h.2.st rfl rfl rfl rfl (k9 _ h.2.o oj)
  ·cases q:j0 ms n F O ar
   ·refine ago ms n F O ar h.2 _ _ _ _ ?_;unfold j0 w7 iC at q;revert q
    cases decide (dp n.j n.lt n.li ms.w ms.m ms.i>0)
    ·intro h;cases h
    ·generalize (ja ms n F O ar _ _ _ _).1=z
     cases z
     ·intro h;cases h
     ·intro _;rfl
   ·have k:lQ (w8 ms n F O ar):=h.2.st rfl rfl rfl rfl h.2.o;exact afA _ _ (k.st rfl rfl rfl rfl (k9 _ k.o oj))
 ·exact h.2
theorem azZ{i j:Nat}{ms:ah}{s:H}{F:G ah}{O:G bF}{ar:G aM}(h:cT s)(a:s.j≤s.co)(b:kh ms):cT (Qe i j ms s F O ar):=by
 have v:=az0 j h;unfold Qe;refine f_ (azQ _ h) (f_ (f_ (f_ (azR v) v) h) (f_ (f_ (agv _ h) h) (f_ (azS _ h) (f_ (f_ (f_ (azT v) v) h) (f_ (azU (agw h)) (f_ (azV (d:=jZ s) (agw h) a b) (f_ (f_ (azW _ _ _ _ _ h) h) h)))))))
theorem az1{i j:Nat}{ms:ah}{n:H}{F:G ah}{O:G bF}{ar:G aM}(h:cT n)(a:n.j≤n.co)(b:kh ms):cT (qe i j ms n F O ar):=by
 have k:cT (fK ms n):=by
  have m:=Ms ms.I (-1) h;unfold fK qf ly qg ab7 Aj ab8
  cases l5 ms n
  ·exact h.st rfl rfl rfl rfl rfl rfl rfl h.2.o
  ·exact m.st rfl rfl rfl rfl rfl rfl rfl h.2.o
 rw[anb];exact f_ h (f_ (azZ k a b) (Ms _ _ h))
theorem agy{C:ak}{ms:ah}(b: ∀i,bQ (C.d i))(h: ∀i,cT (C.d i))(a:kh ms): ∀i,cT ((kc C ms).d i):=by
 unfold kc F3;exact BK (P:=cT) h _ (az1 (h _) (b _).i.ha a) _ _ _
theorem agz: ∀(l:List ah) {C:ak},(∀i,bQ (C.d i))→(∀i,cT (C.d i))→(∀m∈l,gQ m∧kh m)→(∀i,cT ((HM C l).d i))∧(HM C l).ag=C.ag
 |[],_,_,h,_=>⟨h,rfl⟩
 |m::l,C,c,h,b=>by
  have a:=b m (List.mem_cons_self ..);have q:=G2 c a.1;obtain⟨e,f⟩:=agz l q.j (agy c h a.2) fun x d=>b x (List.mem_cons_of_mem _ d);exact⟨e,f.trans q.a⟩
theorem azY{n:H}(h:cT n){x:Int}(g:0≤x):cT (l7 x n):=by
 obtain⟨w,_,a,b,c,d,e,f⟩:=ah2 h.1 g;have k:=anw (h8 a b c d);have m:dt (l7 x n).c6∧ey (l7 x n).dW:=by rw[e,f];exact k
 exact⟨w,m,m,BF⟩
theorem azP{n:H}{ac:aJ}(h:cT n)(a:n.j≤n.co)(b:0≤ac.z):cT (l6 ac n):=by
 have k:cT (o5 n):=by
  refine⟨aCj h.1 a h.2.m.1 h.2.m.2,?_⟩;unfold o5;simp only[H.fx]
  cases n.co==n.j
  ·generalize gD _ n=z
   cases z
   ·exact h.2.st rfl rfl rfl rfl h.2.o
   ·exact⟨h.2.m,h.2.m,h.2.o⟩
  ·exact h.2
 unfold l6;exact f_ (f_ (agx (d:=Am n) (h.st rfl rfl rfl rfl rfl rfl rfl h.2.o) oj) h) (f_ (f_ (azX h) h) (f_ ⟨(ah1 h.1).1,h.2.st rfl rfl rfl rfl BF⟩ (f_ (azY h b) (f_ k h))))
structure tG (C:ak):Prop where
 n: ∀i,cT (C.d i)
 a:dZ C.ag
theorem HU{C:ak}(h:tG C)(i:Nat){n:H}{F:G ah}(O:G bF)(ar:G aM)(b:cT n)(a:dZ F):tG (C.put i n F O ar):=
 ⟨BK (P:=cT) h.n i b _ _ _,by rw[(VK C i n F O ar).1];exact a⟩
theorem CY{C:ak}(h:tG C)(a: ∀i,bQ (C.d i))(i:Nat)(ac:aJ)(c:Bool)(b:0≤ac.z):tG (C.put i (H.bif c (l6 ac (C.d i)) (C.d i)) (cond c (uy ac (C.d i) C.ag) C.ag) C.told C.a8):=by
 refine HU h i _ _ (f_ (azP (h.n i) (a i).i.ha b) (h.n i)) (ep (P:=dZ) ?_ h.a);unfold uy;exact ep (P:=dZ) h.a (ep (P:=dZ) h.a (ep (P:=dZ) (aga (h.n i).2.o _ _ _ h.a) h.a))
theorem anx{k:Nat}{C:ak}{ac:aJ}(a:hl k C)(h:tG C)(b:0≤ac.z)(fu: ∀j,j<C.ag.n→gQ (C.ag.at' j))(l:Hf ac):tG (gi C ac):=by
 have p:=ahE (F:=C.ag) l.lI;unfold gi;refine gC (fun _=> ?_) fun _=>gC (fun _=>CY h a.j _ _ _ (by exact b)) fun _=>gC (fun _=>CY h a.j _ _ _ (by exact b)) fun _=>gC (fun _=>CY h a.j _ _ _ (by exact b)) fun _=>gC (fun _=> ?_) fun _=>gC (fun _=> ?_) fun _=>gC (fun _=> ?_) fun _=>gC (fun _=> ?_) fun _=>gC (fun _=>CY h a.j _ _ _ (by exact b)) fun _=>gC (fun _=> ?_) fun _=>gC (fun _=>CY h a.j _ _ _ (by exact b)) fun _=> ?_
 ·exact HU h _ _ _ (azO _ (h.n _)) h.a
 ·rw[UP,GK];exact HU h _ _ _ ((h.n _).st rfl rfl rfl rfl rfl rfl rfl (h.n _).2.o) h.a
 ·refine gC (fun e=> ?_) fun _=>h;have e:=al e;have r:h1 ac C.ag<(C.ag.n:Int):=p;have c: ∀i,bQ ((w0 ac C.ag C).d i):=fun i=>by
   rw[show(w0 ac C.ag C).d i=C.d i from Bu C _ i];exact a.j i
  have f:=a.vO (toNat (h1 ac C.ag)) (by omega);have q:=G2 c f;refine⟨agy c (fun i=> ?_) (h.a _),?_⟩
  ·rw[show(w0 ac C.ag C).d i=C.d i from Bu C _ i];exact h.n i
  ·show dZ (kc (w0 ac C.ag C) _).ag;rw[q.a];exact agb h.a _ _
 ·refine gC (fun _=> ?_) fun _=>h;exact⟨fun i=>by rw[show(ab1 ac C.ag C).d i=C.d i from Bu C _ i];exact h.n i,agb h.a _ _⟩
 ·refine gC (fun _=> ?_) fun _=>h;exact⟨fun i=>by rw[show(ab2 ac C.ag C).d i=C.d i from Bu C _ i];exact h.n i,Ve h.a (h.a _)⟩
 ·rw[F2,GK];exact HU h _ _ _ ((h.n _).st rfl rfl rfl rfl rfl rfl rfl (h.n _).2.o) h.a
 ·rw[show w1 C.ag C=_ from aow a];have c: ∀i,bQ ((G0 C D).d i):=fun i=>by
   rw[show(G0 C D).d i=C.d i from Bu C _ i];exact a.j i
  obtain⟨n,o⟩:=agz C.ag.B c (fun i=>by rw[show(G0 C D).d i=C.d i from Bu C _ i];exact h.n i) fun m f=>by
   obtain⟨i,d⟩:=ov f;have g:i<C.ag.n:=by
    rw[←a_ C.ag];exact(hv.1 d).1
   rw[gy C.ag g]at d;rw[←jk d];exact⟨a.vO i g,h.a i⟩
  exact⟨n,by rw[o];exact BF⟩
theorem azM(i:Nat):cT (uv.d i):=by
 have b: ∀n:H,n.aX=D→n.bc=0→core n=tS→n.c6=D→n.dW=D→n.eU=D→n.eT=D→n.bw=D→cT n:=by
  intro n a c d e f g h j;refine⟨⟨⟨?_,?_,?_,?_⟩,[],(fun r k=>nomatch k),?_,?_⟩,⟨?_,?_⟩,⟨?_,?_⟩,?_⟩
  ·rw[a];exact WK
  ·rw[a];exact cf _
  ·rw[c];exact cR _
  ·rw[a,c];exact cR _
  ·rw[a];rfl
  ·rw[d];rfl
  ·rw[e];exact oM
  ·rw[f];exact oL
  ·rw[g];exact oM
  ·rw[h];exact oL
  ·rw[j];exact BF
 match i with
 |0=>exact b _ rfl rfl rfl rfl rfl rfl rfl rfl
 |1=>exact b _ rfl rfl rfl rfl rfl rfl rfl rfl
 |_+2=>exact b _ rfl rfl rfl rfl rfl rfl rfl rfl
theorem Zg{l:List aJ}(h: ∀a∈l,g9 a)(e:l.length≤3000): ∀m,m≤l.length→tG (ie (l.take m))
 |0,_=>by
  rw[List.take_zero];exact⟨azM,BF⟩
 |m+1,g=>by
  have c:m<l.length:=by omega
  rw[List.take_add_one,cI c,P8];have f:=ayP (l:=l.take m) (fun a d=>h a (List.mem_of_mem_take d)) (by rw[jj];omega);have b:=Y_ f;rw[jn]at b;have ac:=Pv (h l[m] (oz c));exact anx b (Zg h e m (by omega)) ac.lI b.vO ac
theorem P9{A:G aJ}(h:kP A):tG (ie A.B):=by
 have k:=Zg (l:=A.B) (fun a d=> ?_) (by rw[a_];exact h.1) A.B.length (bC _)
 ·rw[List.take_length]at k;exact k
 ·obtain⟨i,b⟩:=ov d;have c:i<A.n:=by
   rw[←a_ A];exact(hv.1 b).1
  rw[gy A c]at b;rw[←jk b];exact h.2 i c
theorem aCc{C:ak}{a:aJ}(h:a.q=9):gi C a=L7 (toNat a.C) C a:=by
 unfold gi;simp only[h,ak.fx];rfl
theorem aCe{C:ak}{a:aJ}(h:a.q=10):gi C a=F2 (toNat a.C) C a:=by
 unfold gi;simp only[h,ak.fx];rfl
theorem Mr(C:ak){i:Nat}(a:i<3)(n:H)(F:G ah)(O:G bF)(ar:G aM):(C.put i n F O ar).d i=n:=by
 match i,a with
 |0,_=>rfl
 |1,_=>rfl
 |2,_=>rfl
theorem anm{i:Nat}{C:ak}{a:aJ} :L7 i C a=C.put i (H.bif (C.d i).up (l7 a.z (C.d i)) (C.d i)) C.ag C.told C.a8:=by
 unfold L7 se ux
 congr 1
 cases (C.d i).up<;>rfl
end Go.Proofs.YtfmgjpcmcjjoiaaGreatDoor
