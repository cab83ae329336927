/-
  Law 31: what a value answers to a command is what the reference says.
-/
import Derived.Test.YtfbpilmhnpkfhaaGreatDoorGC
import Derived.Test.YtfbpilmhnpkfhaaGreatDoorCl
import Derived.Test.YtfbpilmhnpkfhaaGreatDoorEc
import Derived.Test.YtfbpilmhnpkfhaaGreatDoorGA
import Derived.Test.YtfbpilmhnpkfhaaGreatDoorGB
import Derived.Test.YtfbpilmhnpkfhaaGreatDoorVcH
import Derived.Test.YtfbpilmhnpkfhaaGreatDoorVcN
import Derived.Test.YtfbpilmhnpkfhaaGreatDoorTy
set_option linter.all false
namespace Go.Proofs.YtfbpilmhnpkfhaaGreatDoor
open Go Go.Vc Go.RowKit
set_option maxRecDepth 100000
set_option maxHeartbeats 4000000
theorem B73_3(s:Sl T160)(hn:s.n≤549755813888):(g73_3 s).B=s.B:=by
 have:=mapB (g73_l1 s) s (fun x=>x) hn (fun _ _ _=>rfl) nilSl
 rw[List.map_id',B_nil,List.nil_append]at this;exact this
theorem B73_4(s:Sl ByteArray)(hn:s.n≤549755813888):(g73_4 s).B=s.B:=by
 have:=mapB (g73_l7 s) s (fun x=>x) hn (fun _ _ _=>rfl) nilSl
 rw[List.map_id',B_nil,List.nil_append]at this;exact this
theorem B73_5(s:Sl T164)(hn:s.n≤549755813888):(g73_5 s).B=s.B:=by
 have:=mapB (g73_l13 s) s (fun x=>x) hn (fun _ _ _=>rfl) nilSl
 rw[List.map_id',B_nil,List.nil_append]at this;exact this
theorem nB{α:Type}{s t:Sl α}(h:s.B=t.B):s.n=t.n:=by rw[←B_len s,←B_len t,h]
theorem srt72(x0:Int)(x1:ByteArray)(x2:Int)(s3:Sl T160)(s4:Sl ByteArray)(s5:Sl T164)(h3:s3.n≤1048576)(h4:s4.n≤1048576)(h5:s5.n≤1048576)(h:g72 x0 x1 x2 s3 s4 s5=0):
  Rise s3.n (fun i=>(s3.at' i).c0)∧(x0=5→Rise s4.n s4.at')∧Uniq s5∧s5.B.Pairwise fun a b=>g146 a.c0 a.c1 b.c0 b.c1=true:=by
 unfold g72 at h
 obtain⟨_,h⟩:=bz h (by decide)
 obtain⟨_,h⟩:=bz h (by decide)
 obtain⟨_,h⟩:=bz h (by decide)
 obtain⟨_,h⟩:=bz h (by decide)
 obtain⟨_,h⟩:=bz h (by decide)
 obtain⟨_,h⟩:=bz h (by decide)
 obtain⟨_,h⟩:=bz h (by decide)
 obtain⟨a,_⟩:=bz h (by decide)
 have a:g72_r15 x0 s3 s4 s5=true:=by
  cases e:g72_r15 x0 s3 s4 s5 with
  |true=>rfl
  |false=>rw[e]at a;cases a
 have e:g72_r15 x0 s3 s4 s5=(g72_m11 x0 s3 s4 s5&& !(hit (same s5) s5.n 0)):=l23 s5 h5 s5.n (Int.toNat ((s5.n:Int)-0)) _ 0 (Int.le_refl _) (by omega) (by omega)
 rw[e,Bool.and_eq_true]at a
 obtain⟨a,au⟩:=a
 unfold g72_m11 at a
 rw[a138 _ (by omega),a140 _ (by omega),a142 _ (by omega)]at a
 have r3:o3 s3=false:=by
  cases e:o3 s3 with
  |false=>rfl
  |true=>rw[e]at a;cases a
 have r5:o5 s5=false:=by
  cases e:o5 s5 with
  |false=>rfl
  |true=>rw[r3,e]at a;cases a
 refine⟨rise_of h3 r3,fun hx=>rise_of h4 ?_,?_,?_⟩
 ·cases e:o4 s4 with
  |false=>exact e
  |true=>
   rw[r3,r5,e,hx]at a
   cases a
 ·intro i j hij hj
  have au:hit (same s5) s5.n 0=false:=by
   cases e:hit (same s5) s5.n 0 with
   |false=>rfl
   |true=>rw[e]at au;cases au
  have:=hit_nat au j hj
  unfold same at this
  have hp:=part_n s5 (j:Int) (by omega) (by omega)
  have:=hit_nat this i (by omega)
  rw[Int.toNat_natCast,Int.toNat_natCast]at this
  have e2:(Sl.part s5 0 (j:Int)).at' i=s5.at' i:=by simp [Sl.part]
  rw[e2]at this
  exact this
 ·rw[List.pairwise_iff_getElem]
  intro i j hi hj hij
  rw[B_len]at hi hj
  simp only[Sl.B,List.getElem_map,List.getElem_range]
  refine chain' (R:=fun i j=>g146 (s5.at' i).c0 (s5.at' i).c1 (s5.at' j).c0 (s5.at' j).c1=true) s5.n (fun i hi=> ?_) (fun _ _ _ _ _ _=>above_trans) i j hij hj
  have:=hit_no (s5.n-1) 1 r5 ((i+1:Nat):Int) (by omega) (by omega)
  rw[show IntKind.i64.wrap (((i+1:Nat):Int)-1)=(i:Int) by rw[wrap64 (by omega) (by omega)];omega]at this
  simpa using this
theorem good_none{x0:Int}{x1:ByteArray}{x2:Int}{x3:Sl T160}{x4:Sl ByteArray}{x5:Sl T164}(h:x0=0∧x1=⟨#[]⟩∧x2=0∧x3.n=0∧x4.n=0∧x5.n=0)(K:Int):Good K x1 x2 x3 x4 x5:=by
 obtain⟨_,h1,h2,h3,h4,h5⟩:=h
 refine⟨fun _=>h1,fun _=>h2,fun _=>h3,fun _ _=>h4,fun _=>h5,by omega,by omega,by omega,fun i j _ hj=>by omega,fun _ i j _ hj=>by omega,fun i j _ hj=>by omega,?_⟩
 rw[B_z h5];exact List.Pairwise.nil
theorem good_chk{x0:Int}{x1:ByteArray}{x2:Int}{x3:Sl T160}{x4:Sl ByteArray}{x5:Sl T164}(h3:x3.n≤1048576)(h4:x4.n≤1048576)(h5:x5.n≤1048576)(h:g72 x0 x1 x2 x3 x4 x5=0):Good x0 x1 x2 x3 x4 x5:=by
 have v:=(chk72 _ _ _ _ _ _ h3 h4 h5 h).2.1
 have s:=sep72 _ _ _ _ _ _ h3 h4 h5 h
 obtain⟨r3,r4,u5,p5⟩:=srt72 _ _ _ _ _ _ h3 h4 h5 h
 refine⟨s.t,s.i,s.a3,s.a4,s.a5,v.1,v.2.1,v.2.2,r3,fun hx=> ?_,u5,p5⟩
 by_cases e:x0=5
 ·exact r4 e
 ·have:=s.a4 hx e
  exact fun i j _ hj=>by omega
theorem eqv{x0:Int}{x1:ByteArray}{x2:Int}{x3:Sl T160}{x4:Sl ByteArray}{x5:Sl T164}{x6:Int}{x8 x9:ByteArray}{x10:Int}{K:Int}(hx:1≤x6∧x6≤18)(hm:g190_m3 x0 x1 x2 x3 x4 x5 x6=K)(hk:g219 x6≠0→K=g219 x6)(hl:K≠4∨(7≤x6∧x6≤8)∨1≤x4.n)(h:Good K x1 x2 x3 x4 x5):Eqv x0 x1 x2 x3 x4 x5 x6 x8 x9 x10 K:=by
 have c:x6=1∨x6=2∨x6=3∨x6=4∨x6=5∨x6=6∨x6=7∨x6=8∨x6=9∨x6=10∨x6=11∨x6=12∨x6=13∨x6=14∨x6=15∨x6=16∨x6=17∨x6=18:=by omega
 rcases c with e|e|e|e|e|e|e|e|e|e|e|e|e|e|e|e|e|e<;>subst e
 ·exact ev1 hm
 ·exact ev2 hm
 ·exact ev3 hm
 ·have k:K=3:=hk (by decide+kernel)
  subst k;exact ev4 hm h
 ·have k:K=3:=hk (by decide+kernel)
  subst k;exact ev5 hm h
 ·have k:K=3:=hk (by decide+kernel)
  subst k;exact ev6 hm h
 ·have k:K=4:=hk (by decide+kernel)
  subst k;exact ev78 7 (.inl rfl) hm h
 ·have k:K=4:=hk (by decide+kernel)
  subst k;exact ev78 8 (.inr rfl) hm h
 ·have k:K=4:=hk (by decide+kernel)
  subst k;exact ev9 h (by omega)
 ·have k:K=4:=hk (by decide+kernel)
  subst k;exact ev10 h (by omega)
 ·have k:K=5:=hk (by decide+kernel)
  subst k;exact ev11 hm h
 ·have k:K=5:=hk (by decide+kernel)
  subst k;exact ev12 h
 ·have k:K=5:=hk (by decide+kernel)
  subst k;exact ev13 hm h
 ·have k:K=6:=hk (by decide+kernel)
  subst k;exact ev14 hm h
 ·have k:K=6:=hk (by decide+kernel)
  subst k;exact ev15 h
 ·have k:K=6:=hk (by decide+kernel)
  subst k;exact ev16 hm h
 ·exact ev17 hm
 ·exact ev18 hm h
theorem bif_le{α:Type}{b:Bool}{s t:Sl α}{N:Nat}(h1:s.n≤N)(h2:t.n≤N):(bif b then s else t).n≤N:=by cases b<;>assumption
theorem len3(x6:Int)(x8 x9:ByteArray)(K:Int)(s:Sl T160)(N:Nat)(h:s.n+1≤N):(g188_h0_3 x6 x8 x9 K s).n≤N:=by
 have z:(nilSl:Sl T160).n≤N:=Nat.zero_le _
 have a:s.n≤N:=by omega
 have q:(g215_h0_3 x6 x8 x9 s).n≤N:=by
  refine bif_le (bif_le ?_ a) (bif_le a (bif_le a (bif_le h a)))
  show s.n-_≤N
  omega
 exact bif_le z (bif_le a (bif_le a (bif_le a (bif_le a (bif_le q a)))))
theorem len4(x6:Int)(x9:ByteArray)(K:Int)(s:Sl ByteArray)(N:Nat)(hs:s.n≤1000000)(h:s.n+1≤N):(g188_h0_4 x6 x9 K s).n≤N:=by
 have z:(nilSl:Sl ByteArray).n≤N:=Nat.zero_le _
 have a:s.n≤N:=by omega
 have q:(g216_h0_4 x6 x9 s).n≤N:=by
  refine bif_le (bif_le ?_ ?_) (bif_le a (bif_le h h))
  ·show Int.toNat (_-0)≤N
   rw[wrap64 (by omega) (by omega)];omega
  ·show Int.toNat (_-1)≤N
   omega
 have r:(g217_h0_4 x6 x9 s).n≤N:=by
  refine bif_le (bif_le ?_ a) (bif_le a (bif_le h a))
  show s.n-_≤N
  omega
 exact bif_le z (bif_le a (bif_le a (bif_le a (bif_le a (bif_le a (bif_le q (bif_le r a)))))))
theorem len5(x6:Int)(x9:ByteArray)(x10:Int)(K:Int)(s:Sl T164)(N:Nat)(hs:s.n≤1000000)(h:s.n+1≤N):(g188_h0_5 x6 x9 x10 K s).n≤N:=by
 have z:(nilSl:Sl T164).n≤N:=Nat.zero_le _
 have a:s.n≤N:=by omega
 have m:(g218_m3 x9 s).n≤s.n:=by
  have:=f218m x9 s (by omega);omega
 have q:(g218_h0_5 x6 x9 x10 s).n≤N:=by
  refine bif_le a (bif_le a (bif_le a (bif_le (by omega) ?_)))
  show(g218_m3 x9 s).n+1≤N
  omega
 exact bif_le z (bif_le a (bif_le a (bif_le a (bif_le a (bif_le a (bif_le a (bif_le a q)))))))
theorem n214(x3:Sl T160)(x4:Sl ByteArray)(x5:Sl T164)(h3:x3.n≤20)(h4:x4.n≤20)(h5:x5.n≤20):(g214 x3 x4 x5).n≤60:=by
 have a1:=mapB (g214_l1 x3) x3 (fun x=>x.c0) (by omega) (fun _ _ _=>rfl) x4
 have a2:=mapB (g214_l6 x5) x5 (fun x=>x.c0) (by omega) (fun _ _ _=>rfl) (g214_r1 x3 x4)
 have e:(g214 x3 x4 x5).B.length=_:=congrArg List.length a2
 rw[List.length_append,show(g214_r1 x3 x4).B=_ from a1]at e
 simp only[B_len,List.length_append,List.length_map]at e
 omega
theorem lenR(x6:Int)(x8 x9:ByteArray)(x10 K x2:Int)(x3:Sl T160)(x4:Sl ByteArray)(x5:Sl T164)(h3:x3.n≤20)(h4:x4.n≤20)(h5:x5.n≤20):(g188_3 x6 x8 x9 x10 K x2 x3 x4 x5).n≤60:=by
 have z:(nilSl:Sl ByteArray).n≤60:=Nat.zero_le _
 exact bif_le z (bif_le z (bif_le (bif_le z z) (bif_le z (bif_le (n214 x3 x4 x5 h3 h4 h5) (bif_le (bif_le z (bif_le z (bif_le z (bif_le z (bif_le z z))))) (bif_le (bif_le z (bif_le z z)) (bif_le (bif_le z (bif_le z z)) (bif_le z (bif_le z (bif_le z z))))))))))
theorem creators{x6:Int} :g186 x6=g190_m1 x6:=by
 unfold g186 g186_m1 g190_m1
 cases (x6==1)<;>cases (x6==3)<;>cases (x6==4)<;>cases (x6==7)<;>cases (x6==8)<;>cases (x6==11)<;>cases (x6==14)<;>rfl
theorem kinds{x6:Int}(h:1≤x6∧x6≤18):g185 x6=g219 x6:=by
 have c:x6=1∨x6=2∨x6=3∨x6=4∨x6=5∨x6=6∨x6=7∨x6=8∨x6=9∨x6=10∨x6=11∨x6=12∨x6=13∨x6=14∨x6=15∨x6=16∨x6=17∨x6=18:=by omega
 rcases c with e|e|e|e|e|e|e|e|e|e|e|e|e|e|e|e|e|e<;>subst e<;>decide+kernel
theorem nneg{x6:Int}(h:1≤x6∧x6≤18):decide (g219 x6>0)=(g219 x6 !=0):=by
 have c:x6=1∨x6=2∨x6=3∨x6=4∨x6=5∨x6=6∨x6=7∨x6=8∨x6=9∨x6=10∨x6=11∨x6=12∨x6=13∨x6=14∨x6=15∨x6=16∨x6=17∨x6=18:=by omega
 rcases c with e|e|e|e|e|e|e|e|e|e|e|e|e|e|e|e|e|e<;>subst e<;>decide+kernel
theorem wrongs{x0 x6:Int}(h:1≤x6∧x6≤18):g101_m6 x0 x6=g190_m2 x0 x6:=by
 unfold g101_m6 g101_m4 g101_m5 g190_m2
 rw[kinds h,nneg h,show decide (x6≥17)=((x6==17)||(x6==18)) by
  by_cases a:x6=17
  ·subst a;rfl
  ·by_cases b:x6=18
   ·subst b;rfl
   ·rw[decide_eq_false (by omega),beq_eq_false_iff_ne.2 a,beq_eq_false_iff_ne.2 b];rfl]
 cases (g219 x6 !=0)<;>cases (g219 x6 !=x0)<;>cases (x6==17)<;>cases (x6==18)<;>cases decide (x0<3)<;>rfl
theorem sumB{a a':Sl T160}{b b':Sl ByteArray}{c c':Sl T164}(h1:a.B=a'.B)(h2:b.B=b'.B)(h3:c.B=c'.B):g131 a b c=g145 a' b' c':=by
 unfold g131 g145
 rw[nB h1,nB h2,nB h3]
structure Same (x0:Int) (x1:ByteArray) (x2:Int) (x3:Sl T160) (x4:Sl ByteArray) (x5:Sl T164) (x6:Int) (x7 x8 x9:ByteArray) (x10:Int):Prop where
 a2:g101_2 x0 x1 x2 x3 x4 x5 x6 x7 x8 x9 x10=g102_2 x0 x1 x2 x3 x4 x5 x6 x7 x8 x9 x10
 b0:g101_0_0 x0 x1 x2 x3 x4 x5 x6 x7 x8 x9 x10=g102_0_0 x0 x1 x2 x3 x4 x5 x6 x7 x8 x9 x10
 b1:g101_0_1 x0 x1 x2 x3 x4 x5 x6 x7 x8 x9 x10=g102_0_1 x0 x1 x2 x3 x4 x5 x6 x7 x8 x9 x10
 b2:g101_0_2 x0 x1 x2 x3 x4 x5 x6 x7 x8 x9 x10=g102_0_2 x0 x1 x2 x3 x4 x5 x6 x7 x8 x9 x10
 b3:(g101_0_3 x0 x1 x2 x3 x4 x5 x6 x7 x8 x9 x10).B=(g102_0_3 x0 x1 x2 x3 x4 x5 x6 x7 x8 x9 x10).B
 b4:(g101_0_4 x0 x1 x2 x3 x4 x5 x6 x7 x8 x9 x10).B=(g102_0_4 x0 x1 x2 x3 x4 x5 x6 x7 x8 x9 x10).B
 b5:(g101_0_5 x0 x1 x2 x3 x4 x5 x6 x7 x8 x9 x10).B=(g102_0_5 x0 x1 x2 x3 x4 x5 x6 x7 x8 x9 x10).B
 c0:g101_1_0 x0 x1 x2 x3 x4 x5 x6 x7 x8 x9 x10=g102_1_0 x0 x1 x2 x3 x4 x5 x6 x7 x8 x9 x10
 c1:g101_1_1 x0 x1 x2 x3 x4 x5 x6 x7 x8 x9 x10=g102_1_1 x0 x1 x2 x3 x4 x5 x6 x7 x8 x9 x10
 c2:g101_1_2 x0 x1 x2 x3 x4 x5 x6 x7 x8 x9 x10=g102_1_2 x0 x1 x2 x3 x4 x5 x6 x7 x8 x9 x10
 c3:(g101_1_3 x0 x1 x2 x3 x4 x5 x6 x7 x8 x9 x10).B=(g102_1_3 x0 x1 x2 x3 x4 x5 x6 x7 x8 x9 x10).B
 l3:(g101_0_3 x0 x1 x2 x3 x4 x5 x6 x7 x8 x9 x10).n≤1048577
 l4:(g101_0_4 x0 x1 x2 x3 x4 x5 x6 x7 x8 x9 x10).n≤1048577
 l5:(g101_0_5 x0 x1 x2 x3 x4 x5 x6 x7 x8 x9 x10).n≤1048577
 lr:(g101_1_3 x0 x1 x2 x3 x4 x5 x6 x7 x8 x9 x10).n≤60
section
variable {x0:Int} {x1:ByteArray} {x2:Int} {x3:Sl T160} {x4:Sl ByteArray} {x5:Sl T164} {x6:Int} {x7 x8 x9:ByteArray} {x10:Int}
theorem sameDo(h3:x3.n≤20)(h4:x4.n≤20)(h5:x5.n≤20)(m2:g101_m2 x0 x1 x2 x3 x4 x5=false)(p1:g102_p1 x0 x1 x2 x3 x4 x5=true)(e47:(g47 x6 x7 x8 x9 x10 !=0)=false)(e3:(g102_m3 x6 x7 x8 x9 x10 !=0)=false)(hx:decide (x6>18)=false)
  (hp:g101_p8 x0 x1 x2 x3 x4 x5 x6=g190_p4 x0 x1 x2 x3 x4 x5 x6) (hn:g101_p8 x0 x1 x2 x3 x4 x5 x6=false→g101_m3 x0 x1 x2 x3 x4 x5 x6=g189 x0 x1 x2 x3 x4 x5)
  (hv:g101_p8 x0 x1 x2 x3 x4 x5 x6=true→Eqv x0 x1 x2 x3 x4 x5 x6 x8 x9 x10 (g101_m7 x0 x1 x2 x3 x4 x5 x6)):Same x0 x1 x2 x3 x4 x5 x6 x7 x8 x9 x10:=by
 cases p:g101_p8 x0 x1 x2 x3 x4 x5 x6 with
 |false=>
  have q:=hn p
  have p':=p
  rw[hp]at p'
  refine⟨?_,?_,?_,?_,?_,?_,?_,?_,?_,?_,?_,?_,?_,?_,?_⟩
  ·unfold g101_2 g102_2;rw[m2,p1,e47,e3,hx];rfl
  ·unfold g101_0_0 g102_0_0 g102_m4 g190_0_0;rw[m2,p1,e47,e3,hx,p,p'];simp only[cond_true,cond_false,Bool.cond_self];rfl
  ·unfold g101_0_1 g102_0_1 g102_m5 g190_0_1;rw[m2,p1,e47,e3,hx,p,p'];simp only[cond_true,cond_false,Bool.cond_self];rfl
  ·unfold g101_0_2 g102_0_2 g102_m6 g190_0_2;rw[m2,p1,e47,e3,hx,p,p'];simp only[cond_true,cond_false,Bool.cond_self];rfl
  ·unfold g101_0_3 g102_0_3 g102_m7 g190_0_3;rw[m2,p1,e47,e3,hx,p,p'];simp only[cond_true,cond_false,Bool.cond_self];rw[B73_3 _ (by omega)]
  ·unfold g101_0_4 g102_0_4 g102_m8 g190_0_4;rw[m2,p1,e47,e3,hx,p,p'];simp only[cond_true,cond_false,Bool.cond_self];rw[B73_4 _ (by omega)]
  ·unfold g101_0_5 g102_0_5 g102_m9 g190_0_5;rw[m2,p1,e47,e3,hx,p,p'];simp only[cond_true,cond_false,Bool.cond_self];rw[B73_5 _ (by omega)]
  ·unfold g101_1_0 g102_1_0 g190_1_0;rw[m2,p1,e47,e3,hx,p,p',q];rfl
  ·unfold g101_1_1 g102_1_1 g190_1_1;rw[m2,p1,e47,e3,hx,p,p'];rfl
  ·unfold g101_1_2 g102_1_2 g190_1_2;rw[m2,p1,e47,e3,hx,p,p'];rfl
  ·unfold g101_1_3 g102_1_3 g190_1_3;rw[m2,p1,e47,e3,hx,p,p'];rfl
  ·unfold g101_0_3;rw[m2,e47,hx,p];simp only[cond_false];omega
  ·unfold g101_0_4;rw[m2,e47,hx,p];simp only[cond_false];omega
  ·unfold g101_0_5;rw[m2,e47,hx,p];simp only[cond_false];omega
  ·unfold g101_1_3;rw[m2,e47,hx,p];exact Nat.zero_le _
 |true=>
  have v:=hv p
  have p':=p
  rw[hp]at p'
  have e0:g188_0 x6 x8 x9 x10 (g101_m7 x0 x1 x2 x3 x4 x5 x6) (g184_2 x2) x3 x4 x5=g190_m14 x2 x3 x4 x5 x6 x8 x9 x10:=v.e0
  have t0:g190_1_0 x0 x1 x2 x3 x4 x5 x6 x8 x9 x10=g190_m14 x2 x3 x4 x5 x6 x8 x9 x10:=by unfold g190_1_0;rw[p'];rfl
  cases z:(g190_m14 x2 x3 x4 x5 x6 x8 x9 x10 !=0)with
  |true=>
   refine⟨?_,?_,?_,?_,?_,?_,?_,?_,?_,?_,?_,?_,?_,?_,?_⟩
   ·unfold g101_2 g102_2;rw[m2,p1,e47,e3,hx];rfl
   ·unfold g101_0_0 g102_0_0 g102_m4;rw[m2,p1,e47,e3,hx,p,t0,e0,z];rfl
   ·unfold g101_0_1 g102_0_1 g102_m5;rw[m2,p1,e47,e3,hx,p,t0,e0,z];rfl
   ·unfold g101_0_2 g102_0_2 g102_m6;rw[m2,p1,e47,e3,hx,p,t0,e0,z];rfl
   ·unfold g101_0_3 g102_0_3 g102_m7;rw[m2,p1,e47,e3,hx,p,t0,e0,z];simp only[cond_true,cond_false];rw[B73_3 _ (by omega)]
   ·unfold g101_0_4 g102_0_4 g102_m8;rw[m2,p1,e47,e3,hx,p,t0,e0,z];simp only[cond_true,cond_false];rw[B73_4 _ (by omega)]
   ·unfold g101_0_5 g102_0_5 g102_m9;rw[m2,p1,e47,e3,hx,p,t0,e0,z];simp only[cond_true,cond_false];rw[B73_5 _ (by omega)]
   ·unfold g101_1_0 g102_1_0;rw[m2,p1,e47,e3,hx,p,t0,e0];rfl
   ·unfold g101_1_1 g102_1_1 g190_1_1;rw[m2,p1,e47,e3,hx,p,p'];exact v.e1
   ·unfold g101_1_2 g102_1_2 g190_1_2;rw[m2,p1,e47,e3,hx,p,p'];exact v.e2
   ·unfold g101_1_3 g102_1_3 g190_1_3;rw[m2,p1,e47,e3,hx,p,p'];exact v.e3
   ·unfold g101_0_3;rw[m2,e47,hx,p,e0,z];simp only[cond_false,cond_true];omega
   ·unfold g101_0_4;rw[m2,e47,hx,p,e0,z];simp only[cond_false,cond_true];omega
   ·unfold g101_0_5;rw[m2,e47,hx,p,e0,z];simp only[cond_false,cond_true];omega
   ·unfold g101_1_3;rw[m2,e47,hx,p];exact lenR _ _ _ _ _ _ _ _ _ h3 h4 h5
  |false=>
   have z0:=bne_eq_false_iff_eq.1 z
   have k0:=v.k0 z0
   have k1:=v.k1 z0
   have k2:=v.k2 z0
   have k3:=v.k3 z0
   have k4:=v.k4 z0
   have k5:=v.k5 z0
   have n3:=len3 x6 x8 x9 (g101_m7 x0 x1 x2 x3 x4 x5 x6) x3 1048577 (by omega)
   have n4:=len4 x6 x9 (g101_m7 x0 x1 x2 x3 x4 x5 x6) x4 1048577 (by omega) (by omega)
   have n5:=len5 x6 x9 x10 (g101_m7 x0 x1 x2 x3 x4 x5 x6) x5 1048577 (by omega) (by omega)
   have n3':=nB k3
   have n4':=nB k4
   have n5':=nB k5
   have em:g101_m9 x0 x1 x2 x3 x4 x5 x6 x8 x9 x10=g190_m18 x0 x1 x2 x3 x4 x5 x6 x8 x9 x10:=by
    unfold g101_m9 g190_m18
    rw[k0,sumB k3 k4 k5]
   refine⟨?_,?_,?_,?_,?_,?_,?_,?_,?_,?_,?_,?_,?_,?_,?_⟩
   ·unfold g101_2 g102_2;rw[m2,p1,e47,e3,hx];rfl
   ·unfold g101_0_0 g102_0_0 g102_m4 g190_0_0 g101_m10 g190_m19;rw[m2,p1,e47,e3,hx,p,t0,e0,z,p',em,k0];rfl
   ·unfold g101_0_1 g102_0_1 g102_m5 g190_0_1 g101_m11 g190_m20;rw[m2,p1,e47,e3,hx,p,t0,e0,z,p',em,show g188_h0_1 x6 x9 (g184_1 x1)=_ from k1];rfl
   ·unfold g101_0_2 g102_0_2 g102_m6 g190_0_2 g101_m12 g190_m21;rw[m2,p1,e47,e3,hx,p,t0,e0,z,p',em,show g188_h0_2 x6 x10 (g184_2 x2)=_ from k2];rfl
   ·unfold g101_0_3 g102_0_3 g102_m7 g190_0_3 g101_m13 g190_m22;rw[m2,p1,e47,e3,hx,p,t0,e0,z,p',em];simp only[cond_true,cond_false]
    rw[B73_3 _ (bif_le (Nat.zero_le _) (by omega))]
    cases g190_m18 x0 x1 x2 x3 x4 x5 x6 x8 x9 x10
    ·exact k3
    ·rfl
   ·unfold g101_0_4 g102_0_4 g102_m8 g190_0_4 g101_m14 g190_m23;rw[m2,p1,e47,e3,hx,p,t0,e0,z,p',em];simp only[cond_true,cond_false]
    rw[B73_4 _ (bif_le (Nat.zero_le _) (by omega))]
    cases g190_m18 x0 x1 x2 x3 x4 x5 x6 x8 x9 x10
    ·exact k4
    ·rfl
   ·unfold g101_0_5 g102_0_5 g102_m9 g190_0_5 g101_m15 g190_m24;rw[m2,p1,e47,e3,hx,p,t0,e0,z,p',em];simp only[cond_true,cond_false]
    rw[B73_5 _ (bif_le (Nat.zero_le _) (by omega))]
    cases g190_m18 x0 x1 x2 x3 x4 x5 x6 x8 x9 x10
    ·exact k5
    ·rfl
   ·unfold g101_1_0 g102_1_0;rw[m2,p1,e47,e3,hx,p,t0,e0];rfl
   ·unfold g101_1_1 g102_1_1 g190_1_1;rw[m2,p1,e47,e3,hx,p,p'];exact v.e1
   ·unfold g101_1_2 g102_1_2 g190_1_2;rw[m2,p1,e47,e3,hx,p,p'];exact v.e2
   ·unfold g101_1_3 g102_1_3 g190_1_3;rw[m2,p1,e47,e3,hx,p,p'];exact v.e3
   ·unfold g101_0_3 g101_m13;rw[m2,e47,hx,p,e0,z];simp only[cond_false,cond_true];exact bif_le (Nat.zero_le _) n3
   ·unfold g101_0_4 g101_m14;rw[m2,e47,hx,p,e0,z];simp only[cond_false,cond_true];exact bif_le (Nat.zero_le _) n4
   ·unfold g101_0_5 g101_m15;rw[m2,e47,hx,p,e0,z];simp only[cond_false,cond_true];exact bif_le (Nat.zero_le _) n5
   ·unfold g101_1_3;rw[m2,e47,hx,p];exact lenR _ _ _ _ _ _ _ _ _ h3 h4 h5
theorem sameAll(h3:x3.n≤1048576)(h4:x4.n≤1048576)(h5:x5.n≤1048576):Same x0 x1 x2 x3 x4 x5 x6 x7 x8 x9 x10:=by
 have e72:=g72_eq x0 x1 x2 x3 x4 x5 h3 h4 h5
 have e1:g101_m1 x0 x1 x2 x3 x4 x5=g189 x0 x1 x2 x3 x4 x5:=rfl
 have ep:g102_p1 x0 x1 x2 x3 x4 x5= !(g101_m2 x0 x1 x2 x3 x4 x5):=by
  unfold g102_p1 g101_m2
  rw[e72,e1]
  cases g189 x0 x1 x2 x3 x4 x5<;>cases (g74 x0 x1 x2 x3 x4 x5 !=0)<;>rfl
 have e47:=g47_eq x6 x7 x8 x9 x10
 cases m2:g101_m2 x0 x1 x2 x3 x4 x5 with
 |true=>
  rw[m2]at ep
  refine⟨?_,?_,?_,?_,?_,?_,?_,?_,?_,?_,?_,?_,?_,?_,?_⟩
  ·unfold g101_2 g102_2;rw[m2,ep,e72];rfl
  ·unfold g101_0_0 g102_0_0;rw[m2,ep];rfl
  ·unfold g101_0_1 g102_0_1;rw[m2,ep];rfl
  ·unfold g101_0_2 g102_0_2;rw[m2,ep];rfl
  ·unfold g101_0_3 g102_0_3;rw[m2,ep];rfl
  ·unfold g101_0_4 g102_0_4;rw[m2,ep];rfl
  ·unfold g101_0_5 g102_0_5;rw[m2,ep];rfl
  ·unfold g101_1_0 g102_1_0;rw[m2,ep];rfl
  ·unfold g101_1_1 g102_1_1;rw[m2,ep];rfl
  ·unfold g101_1_2 g102_1_2;rw[m2,ep];rfl
  ·unfold g101_1_3 g102_1_3;rw[m2,ep];rfl
  ·unfold g101_0_3;rw[m2];exact Nat.zero_le _
  ·unfold g101_0_4;rw[m2];exact Nat.zero_le _
  ·unfold g101_0_5;rw[m2];exact Nat.zero_le _
  ·unfold g101_1_3;rw[m2];exact Nat.zero_le _
 |false=>
  have ep:g102_p1 x0 x1 x2 x3 x4 x5=true:=by rw[ep,m2];rfl
  cases ec:(bif(g47 x6 x7 x8 x9 x10 !=0)then true else decide (x6>18))with
  |true=>
   have em:g102_m3 x6 x7 x8 x9 x10=bif(g47 x6 x7 x8 x9 x10 !=0)then g47 x6 x7 x8 x9 x10 else 3:=by
    unfold g102_m3 g102_m2
    rw[←e47]
    cases a:(g47 x6 x7 x8 x9 x10 !=0)with
    |true=>
     have:(g47 x6 x7 x8 x9 x10==0)=false:=by simpa[bne]using a
     rw[this];rfl
    |false=>
     rw[a]at ec
     have:(g47 x6 x7 x8 x9 x10==0)=true:=by simpa[bne]using a
     rw[this,show decide (x6>18)=true from ec];rfl
   have en:(g102_m3 x6 x7 x8 x9 x10 !=0)=true:=by
    rw[em]
    cases a:(g47 x6 x7 x8 x9 x10 !=0)with
    |true=>exact a
    |false=>rfl
   refine⟨?_,?_,?_,?_,?_,?_,?_,?_,?_,?_,?_,?_,?_,?_,?_⟩
   ·unfold g101_2 g102_2;rw[m2,ep,en,em]
    cases a:(g47 x6 x7 x8 x9 x10 !=0)with
    |true=>rfl
    |false=>rw[a]at ec;rw[show decide (x6>18)=true from ec];rfl
   all_goals (try unfold g101_0_0 g102_0_0)
   all_goals (try unfold g101_0_1 g102_0_1)
   all_goals (try unfold g101_0_2 g102_0_2)
   all_goals (try unfold g101_0_3)
   all_goals (try unfold g102_0_3)
   all_goals (try unfold g101_0_4)
   all_goals (try unfold g102_0_4)
   all_goals (try unfold g101_0_5)
   all_goals (try unfold g102_0_5)
   all_goals (try unfold g101_1_0 g102_1_0)
   all_goals (try unfold g101_1_1 g102_1_1)
   all_goals (try unfold g101_1_2 g102_1_2)
   all_goals (try unfold g101_1_3)
   all_goals (try unfold g102_1_3)
   all_goals rw[m2]
   all_goals (try rw[ep,en])
   all_goals (cases a:(g47 x6 x7 x8 x9 x10 !=0)with
    |true=>first|rfl|exact Nat.zero_le _
    |false=>rw[a]at ec;rw[show decide (x6>18)=true from ec];first|rfl|exact Nat.zero_le _)
  |false=>
   have a:(g47 x6 x7 x8 x9 x10 !=0)=false:=by
    cases a:(g47 x6 x7 x8 x9 x10 !=0)with
    |false=>rfl
    |true=>rw[a]at ec;cases ec
   rw[a]at ec
   have hx:decide (x6>18)=false:=ec
   have hx':=of_decide_eq_false hx
   have em:(g102_m3 x6 x7 x8 x9 x10 !=0)=false:=by
    unfold g102_m3 g102_m2
    rw[←e47,hx]
    have a':=bne_eq_false_iff_eq.1 a
    rw[a'];rfl
   have hlo:1≤x6:=by
    have a':=bne_eq_false_iff_eq.1 a
    rw[e47]at a'
    unfold g48 at a'
    obtain⟨b,_⟩:=bz a' (by decide)
    have b:g112 x6 1 22=true:=by simpa using b
    unfold g112 g112_m1 at b
    cases c:decide (x6≥1)with
    |true=>exact of_decide_eq_true c
    |false=>rw[c]at b;cases b
   have hr:1≤x6∧x6≤18:=⟨hlo,by omega⟩
   have hs:=d102 _ _ _ _ _ _ ep h3 h4 h5
   have hw:=wrongs (x0:=x0) hr
   have hc:=creators (x6:=x6)
   have hk:=kinds hr
   have hp:g101_p8 x0 x1 x2 x3 x4 x5 x6=g190_p4 x0 x1 x2 x3 x4 x5 x6:=by
    unfold g101_p8 g101_m3 g190_p4
    rw[e1,hw,hc]
    cases g189 x0 x1 x2 x3 x4 x5<;>cases g190_m1 x6<;>cases g190_m2 x0 x6<;>rfl
   refine sameDo hs.1 hs.2.1 hs.2.2.1 m2 ep a em hx hp ?_ ?_
   ·intro p
    unfold g101_p8 at p
    unfold g101_m3 at p ⊢
    rw[e1]at p ⊢
    cases c:g189 x0 x1 x2 x3 x4 x5 with
    |false=>rfl
    |true=>
     rw[c]at p
     cases d:g186 x6 with
     |false=>rfl
     |true=>rw[d]at p;cases p
   ·intro p
    have hl:=(d101 _ _ _ _ _ _ _ m2 p h3 h4 h5).2.2.2
    unfold g101_p8 g101_m3 at p
    unfold g101_m2 at m2
    rw[e1]at p m2
    refine eqv hr ?_ ?_ hl ?_
    ·unfold g190_m3 g101_m7
     rw[e1,hk];rfl
    ·intro hz
     unfold g101_m7
     rw[e1]
     cases c:g189 x0 x1 x2 x3 x4 x5 with
     |true=>exact hk
     |false=>
      rw[c]at p
      rw[hw]at p
      unfold g190_m2 at p
      rw[nneg hr,show(g219 x6 !=0)=true from bne_iff_ne.2 hz]at p
      cases d:(g219 x6 !=x0)with
      |true=>rw[d]at p;cases p
      |false=>exact(bne_eq_false_iff_eq.1 d).symm
    ·cases c:g189 x0 x1 x2 x3 x4 x5 with
     |true=>exact good_none (none_ok c h3 h4 h5) _
     |false=>
      rw[c]at m2
      have g:g72 x0 x1 x2 x3 x4 x5=0:=by
       cases d:(g72 x0 x1 x2 x3 x4 x5 !=0)with
       |false=>exact bne_eq_false_iff_eq.1 d
       |true=>rw[d]at m2;cases m2
      have:=good_chk h3 h4 h5 g
      unfold g101_m7
      rw[e1,c]
      exact this
end
end Go.Proofs.YtfbpilmhnpkfhaaGreatDoor
/-
  A command on a value that may be: the program's answer is the reference's own.
-/
namespace Go.Proofs.YtfbpilmhnpkfhaaGreatDoor
open Go Go.Vc Go.RowKit
set_option maxRecDepth 100000
set_option maxHeartbeats 4000000
structure Vs (x0:Int) (x1:ByteArray) (x2:Int) (x3:Sl T160) (x4:Sl ByteArray) (x5:Sl T164) (x6:Int) (x7 x8 x9:ByteArray) (x10:Int):Prop where
 b0:g101_0_0 x0 x1 x2 x3 x4 x5 x6 x7 x8 x9 x10=g190_0_0 x0 x1 x2 x3 x4 x5 x6 x8 x9 x10
 b1:g101_0_1 x0 x1 x2 x3 x4 x5 x6 x7 x8 x9 x10=g190_0_1 x0 x1 x2 x3 x4 x5 x6 x8 x9 x10
 b2:g101_0_2 x0 x1 x2 x3 x4 x5 x6 x7 x8 x9 x10=g190_0_2 x0 x1 x2 x3 x4 x5 x6 x8 x9 x10
 b3:(g101_0_3 x0 x1 x2 x3 x4 x5 x6 x7 x8 x9 x10).B=(g190_0_3 x0 x1 x2 x3 x4 x5 x6 x8 x9 x10).B
 b4:(g101_0_4 x0 x1 x2 x3 x4 x5 x6 x7 x8 x9 x10).B=(g190_0_4 x0 x1 x2 x3 x4 x5 x6 x8 x9 x10).B
 b5:(g101_0_5 x0 x1 x2 x3 x4 x5 x6 x7 x8 x9 x10).B=(g190_0_5 x0 x1 x2 x3 x4 x5 x6 x8 x9 x10).B
 c0:g101_1_0 x0 x1 x2 x3 x4 x5 x6 x7 x8 x9 x10=g190_1_0 x0 x1 x2 x3 x4 x5 x6 x8 x9 x10
 c1:g101_1_1 x0 x1 x2 x3 x4 x5 x6 x7 x8 x9 x10=g190_1_1 x0 x1 x2 x3 x4 x5 x6 x8 x9
 c2:g101_1_2 x0 x1 x2 x3 x4 x5 x6 x7 x8 x9 x10=g190_1_2 x0 x1 x2 x3 x4 x5 x6 x8 x9 x10
 c3:(g101_1_3 x0 x1 x2 x3 x4 x5 x6 x7 x8 x9 x10).B=(g190_1_3 x0 x1 x2 x3 x4 x5 x6).B
 l3:(g101_0_3 x0 x1 x2 x3 x4 x5 x6 x7 x8 x9 x10).n≤1048577
 l4:(g101_0_4 x0 x1 x2 x3 x4 x5 x6 x7 x8 x9 x10).n≤1048577
 l5:(g101_0_5 x0 x1 x2 x3 x4 x5 x6 x7 x8 x9 x10).n≤1048577
 lr:(g101_1_3 x0 x1 x2 x3 x4 x5 x6 x7 x8 x9 x10).n≤60
section
variable {x0:Int} {x1:ByteArray} {x2:Int} {x3:Sl T160} {x4:Sl ByteArray} {x5:Sl T164} {x6:Int} {x7 x8 x9:ByteArray} {x10:Int}
theorem kind_lo(a:g47 x6 x7 x8 x9 x10=0):1≤x6∧x6≤22:=by
 rw[g47_eq]at a
 unfold g48 at a
 obtain⟨b,_⟩:=bz a (by decide)
 have b:g112 x6 1 22=true:=by simpa using b
 unfold g112 g112_m1 at b
 cases c:decide (x6≥1)with
 |true=>rw[c]at b;exact⟨of_decide_eq_true c,of_decide_eq_true b⟩
 |false=>rw[c]at b;cases b
theorem vsAll(h3:x3.n≤1048576)(h4:x4.n≤1048576)(h5:x5.n≤1048576)(m2:g101_m2 x0 x1 x2 x3 x4 x5=false)(a0:g47 x6 x7 x8 x9 x10=0)(h18:x6≤18):Vs x0 x1 x2 x3 x4 x5 x6 x7 x8 x9 x10:=by
 have sa:=sameAll (x0:=x0) (x1:=x1) (x2:=x2) (x6:=x6) (x7:=x7) (x8:=x8) (x9:=x9) (x10:=x10) h3 h4 h5
 have e72:=g72_eq x0 x1 x2 x3 x4 x5 h3 h4 h5
 have e1:g101_m1 x0 x1 x2 x3 x4 x5=g189 x0 x1 x2 x3 x4 x5:=rfl
 have ep:g102_p1 x0 x1 x2 x3 x4 x5=true:=by
  have:g102_p1 x0 x1 x2 x3 x4 x5= !(g101_m2 x0 x1 x2 x3 x4 x5):=by
   unfold g102_p1 g101_m2
   rw[e72,e1]
   cases g189 x0 x1 x2 x3 x4 x5<;>cases (g74 x0 x1 x2 x3 x4 x5 !=0)<;>rfl
  rw[this,m2];rfl
 have e47:(g47 x6 x7 x8 x9 x10 !=0)=false:=bne_eq_false_iff_eq.2 a0
 have hx:decide (x6>18)=false:=decide_eq_false (by omega)
 have hr:1≤x6∧x6≤18:=⟨(kind_lo a0).1,h18⟩
 have em3:(g102_m3 x6 x7 x8 x9 x10 !=0)=false:=by
  unfold g102_m3 g102_m2
  rw[←g47_eq,a0,hx];rfl
 have hw:=wrongs (x0:=x0) hr
 have hc:=creators (x6:=x6)
 have hk:=kinds hr
 have hp:g101_p8 x0 x1 x2 x3 x4 x5 x6=g190_p4 x0 x1 x2 x3 x4 x5 x6:=by
  unfold g101_p8 g101_m3 g190_p4
  rw[e1,hw,hc]
  cases g189 x0 x1 x2 x3 x4 x5<;>cases g190_m1 x6<;>cases g190_m2 x0 x6<;>rfl
 have lr:=sa.lr
 have l3:=sa.l3
 have l4:=sa.l4
 have l5:=sa.l5
 have c0:=sa.c0
 have c1:=sa.c1
 have c2:=sa.c2
 have c3:=sa.c3
 have b0:=sa.b0
 have b1:=sa.b1
 have b2:=sa.b2
 have b3:=sa.b3
 have b4:=sa.b4
 have b5:=sa.b5
 unfold g102_1_0 at c0
 unfold g102_1_1 at c1
 unfold g102_1_2 at c2
 unfold g102_1_3 at c3
 unfold g102_0_0 g102_m4 at b0
 unfold g102_0_1 g102_m5 at b1
 unfold g102_0_2 g102_m6 at b2
 unfold g102_0_3 g102_m7 at b3
 unfold g102_0_4 g102_m8 at b4
 unfold g102_0_5 g102_m9 at b5
 rw[ep,em3]at c0 c1 c2 c3 b0 b1 b2 b3 b4 b5
 simp only[cond_true,cond_false]at c0 c1 c2 c3 b0 b1 b2 b3 b4 b5
 cases p:g101_p8 x0 x1 x2 x3 x4 x5 x6 with
 |false=>
  have p':=p
  rw[hp]at p'
  have d:(g190_1_0 x0 x1 x2 x3 x4 x5 x6 x8 x9 x10 !=0)=true:=by
   unfold g190_1_0
   rw[p']
   cases g189 x0 x1 x2 x3 x4 x5<;>rfl
  rw[d]at b0 b1 b2 b3 b4 b5
  simp only[cond_true]at b0 b1 b2 b3 b4 b5
  rw[B73_3 _ (by omega)]at b3
  rw[B73_4 _ (by omega)]at b4
  rw[B73_5 _ (by omega)]at b5
  refine⟨?_,?_,?_,?_,?_,?_,c0,c1,c2,c3,l3,l4,l5,lr⟩
  ·rw[b0];unfold g190_0_0;rw[p'];rfl
  ·rw[b1];unfold g190_0_1;rw[p'];rfl
  ·rw[b2];unfold g190_0_2;rw[p'];rfl
  ·rw[b3];unfold g190_0_3;rw[p'];rfl
  ·rw[b4];unfold g190_0_4;rw[p'];rfl
  ·rw[b5];unfold g190_0_5;rw[p'];rfl
 |true=>
  have p':=p
  rw[hp]at p'
  have hs:=d102 _ _ _ _ _ _ ep h3 h4 h5
  have v:Eqv x0 x1 x2 x3 x4 x5 x6 x8 x9 x10 (g101_m7 x0 x1 x2 x3 x4 x5 x6):=by
   have p:=p
   have hl:=(d101 _ _ _ _ _ _ _ m2 p h3 h4 h5).2.2.2
   unfold g101_p8 g101_m3 at p
   unfold g101_m2 at m2
   rw[e1]at p m2
   refine eqv hr ?_ ?_ hl ?_
   ·unfold g190_m3 g101_m7
    rw[e1,hk];rfl
   ·intro hz
    unfold g101_m7
    rw[e1]
    cases c:g189 x0 x1 x2 x3 x4 x5 with
    |true=>exact hk
    |false=>
     rw[c]at p
     rw[hw]at p
     unfold g190_m2 at p
     rw[nneg hr,show(g219 x6 !=0)=true from bne_iff_ne.2 hz]at p
     cases d:(g219 x6 !=x0)with
     |true=>rw[d]at p;cases p
     |false=>exact(bne_eq_false_iff_eq.1 d).symm
   ·cases c:g189 x0 x1 x2 x3 x4 x5 with
    |true=>exact good_none (none_ok c h3 h4 h5) _
    |false=>
     rw[c]at m2
     have g:g72 x0 x1 x2 x3 x4 x5=0:=by
      cases d:(g72 x0 x1 x2 x3 x4 x5 !=0)with
      |false=>exact bne_eq_false_iff_eq.1 d
      |true=>rw[d]at m2;cases m2
     have:=good_chk h3 h4 h5 g
     unfold g101_m7
     rw[e1,c]
     exact this
  have t0:g190_1_0 x0 x1 x2 x3 x4 x5 x6 x8 x9 x10=g190_m14 x2 x3 x4 x5 x6 x8 x9 x10:=by unfold g190_1_0;rw[p'];rfl
  cases z:(g190_m14 x2 x3 x4 x5 x6 x8 x9 x10 !=0)with
  |true=>
   rw[t0,z]at b0 b1 b2 b3 b4 b5
   simp only[cond_true]at b0 b1 b2 b3 b4 b5
   rw[B73_3 _ (by omega)]at b3
   rw[B73_4 _ (by omega)]at b4
   rw[B73_5 _ (by omega)]at b5
   refine⟨?_,?_,?_,?_,?_,?_,c0,c1,c2,c3,l3,l4,l5,lr⟩
   ·rw[b0];unfold g190_0_0;rw[p',z];rfl
   ·rw[b1];unfold g190_0_1;rw[p',z];rfl
   ·rw[b2];unfold g190_0_2;rw[p',z];rfl
   ·rw[b3];unfold g190_0_3;rw[p',z];rfl
   ·rw[b4];unfold g190_0_4;rw[p',z];rfl
   ·rw[b5];unfold g190_0_5;rw[p',z];rfl
  |false=>
   have z0:=bne_eq_false_iff_eq.1 z
   have k3:=v.k3 z0
   have k4:=v.k4 z0
   have k5:=v.k5 z0
   have n3:=len3 x6 x8 x9 (g101_m7 x0 x1 x2 x3 x4 x5 x6) x3 1048577 (by omega)
   have n4:=len4 x6 x9 (g101_m7 x0 x1 x2 x3 x4 x5 x6) x4 1048577 (by omega) (by omega)
   have n5:=len5 x6 x9 x10 (g101_m7 x0 x1 x2 x3 x4 x5 x6) x5 1048577 (by omega) (by omega)
   have n3':=nB k3
   have n4':=nB k4
   have n5':=nB k5
   rw[t0,z]at b0 b1 b2 b3 b4 b5
   simp only[cond_false]at b0 b1 b2 b3 b4 b5
   have q3:(g190_0_3 x0 x1 x2 x3 x4 x5 x6 x8 x9 x10).n≤549755813888:=by
    unfold g190_0_3 g190_m22;rw[p',z];simp only[cond_true,cond_false];exact bif_le (Nat.zero_le _) (by omega)
   have q4:(g190_0_4 x0 x1 x2 x3 x4 x5 x6 x8 x9 x10).n≤549755813888:=by
    unfold g190_0_4 g190_m23;rw[p',z];simp only[cond_true,cond_false];exact bif_le (Nat.zero_le _) (by omega)
   have q5:(g190_0_5 x0 x1 x2 x3 x4 x5 x6 x8 x9 x10).n≤549755813888:=by
    unfold g190_0_5 g190_m24;rw[p',z];simp only[cond_true,cond_false];exact bif_le (Nat.zero_le _) (by omega)
   rw[B73_3 _ q3]at b3
   rw[B73_4 _ q4]at b4
   rw[B73_5 _ q5]at b5
   exact⟨b0,b1,b2,b3,b4,b5,c0,c1,c2,c3,l3,l4,l5,lr⟩
theorem created(a0:g47 x6 x7 x8 x9 x10=0)(h18:x6≤18)(h:g101_1_0 0 ⟨#[]⟩ 0 nilSl nilSl nilSl x6 x7 x8 x9 x10=0):g101_0_0 0 ⟨#[]⟩ 0 nilSl nilSl nilSl x6 x7 x8 x9 x10≠0:=by
 have e47:(g47 x6 x7 x8 x9 x10 !=0)=false:=bne_eq_false_iff_eq.2 a0
 have hx:decide (x6>18)=false:=decide_eq_false (by omega)
 have hr:1≤x6∧x6≤18:=⟨(kind_lo a0).1,h18⟩
 have m1:g101_m1 0 ⟨#[]⟩ 0 (nilSl:Sl T160) (nilSl:Sl ByteArray) (nilSl:Sl T164)=true:=by decide+kernel
 have m2:g101_m2 0 ⟨#[]⟩ 0 (nilSl:Sl T160) (nilSl:Sl ByteArray) (nilSl:Sl T164)=false:=by
  unfold g101_m2;rw[m1];cases (g72 0 ⟨#[]⟩ 0 (nilSl:Sl T160) (nilSl:Sl ByteArray) (nilSl:Sl T164)!=0)<;>rfl
 unfold g101_1_0 g101_p8 g101_m3 at h
 unfold g101_0_0 g101_p8 g101_m3
 rw[m2,e47,hx,m1]at h ⊢
 simp only[cond_true,cond_false]at h ⊢
 have c:x6=1∨x6=2∨x6=3∨x6=4∨x6=5∨x6=6∨x6=7∨x6=8∨x6=9∨x6=10∨x6=11∨x6=12∨x6=13∨x6=14∨x6=15∨x6=16∨x6=17∨x6=18:=by omega
 have no: ∀(a b:Int),g186 x6=false→(bif(bif !(g186 x6)then false else true)then a else b)=b:=fun a b e=>by rw[e];rfl
 have yes:g186 x6=true→g188_0 x6 x8 x9 x10 (g101_m7 0 ⟨#[]⟩ 0 nilSl nilSl nilSl x6) (g184_2 0) nilSl nilSl nilSl=0→g101_m10 0 ⟨#[]⟩ 0 nilSl nilSl nilSl x6 x8 x9 x10≠0→(bif(bif !(g186 x6)then false else true)then(bif(g188_0 x6 x8 x9 x10 (g101_m7 0 ⟨#[]⟩ 0 nilSl nilSl nilSl x6) (g184_2 0) nilSl nilSl nilSl !=0)then(g184_0 0)else(g184_0 (g101_m10 0 ⟨#[]⟩ 0 nilSl nilSl nilSl x6 x8 x9 x10)))else(g184_0 0))≠0:=fun e e0 hm=>by
  rw[e,e0]
  exact hm
 cases e:g186 x6 with
 |false=>
  rw[e]at h
  exact absurd (show(5:Int)=0 from h) (by decide)
 |true=>
  have h0:g188_0 x6 x8 x9 x10 (g101_m7 0 ⟨#[]⟩ 0 nilSl nilSl nilSl x6) (g184_2 0) nilSl nilSl nilSl=0:=by rw[e]at h;exact h
  have:=yes e h0 ?_
  ·rwa [e]at this
  rcases c with c|c|c|c|c|c|c|c|c|c|c|c|c|c|c|c|c|c<;>subst c<;>first|(cases e;done)|(rw[show g101_m10 0 ⟨#[]⟩ 0 nilSl nilSl nilSl 1 x8 x9 x10=1 from by kernel_rfl];decide)|(rw[show g101_m10 0 ⟨#[]⟩ 0 nilSl nilSl nilSl 3 x8 x9 x10=2 from by kernel_rfl];decide)|(rw[show g101_m10 0 ⟨#[]⟩ 0 nilSl nilSl nilSl 4 x8 x9 x10=3 from by kernel_rfl];decide)|(rw[show g101_m10 0 ⟨#[]⟩ 0 nilSl nilSl nilSl 7 x8 x9 x10=4 from by kernel_rfl];decide)|(rw[show g101_m10 0 ⟨#[]⟩ 0 nilSl nilSl nilSl 8 x8 x9 x10=4 from by kernel_rfl];decide)|(rw[show g101_m10 0 ⟨#[]⟩ 0 nilSl nilSl nilSl 11 x8 x9 x10=5 from by kernel_rfl];decide)|(rw[show g101_m10 0 ⟨#[]⟩ 0 nilSl nilSl nilSl 14 x8 x9 x10=6 from by kernel_rfl];decide)
end
end Go.Proofs.YtfbpilmhnpkfhaaGreatDoor
/-
  Walks: what functions of the program answer, as functions.
-/
namespace Go.Proofs.YtfbpilmhnpkfhaaGreatDoor
open Go Go.Vc Go.RowKit
set_option maxRecDepth 100000
set_option maxHeartbeats 4000000
noncomputable def g1115_l1(x1:Sl T175):Nat→Int→Sl ByteArray→Sl ByteArray
 |0,_,_=>default
 |k+1,v1_0,v1_1=>(bif(decide (v1_0<(x1.n:Int)))then(g1115_l1 x1 k (IntKind.i64.wrap (v1_0+1)) (Sl.app v1_1 (Sl.lit ([(x1.at' (Int.toNat v1_0)).c0]:List ByteArray))))else v1_1)
noncomputable def g1115_r1(x1:Sl T175):Sl ByteArray:=g1115_l1 x1 ((Int.toNat ((x1.n:Int)-0))+1) 0 (nilSl:Sl ByteArray)
noncomputable def g1115_m2(x2:Int):Bool:=(bif(x2==20)then true else(x2==21))
noncomputable def g1115_m3(x0:Int)(x1:Sl T175)(x3:ByteArray):Int:=(bif(decide ((g1162_1 x1 x3)>0))then(IntKind.i64.wrap ((g1162_1 x1 x3)-x0))else 0)
noncomputable def g1115_m4(x1:Sl T175)(x2:Int)(x3:ByteArray):Int:=(bif(x2==1)then 0 else(g1162_1 x1 x3))
noncomputable def g1115_0_0(x0:Int)(x1:Sl T175)(x2:Int)(x3:ByteArray)(x4:ByteArray)(x5:ByteArray)(x6:Int):Int:=(bif(x2==22)then x0 else(bif(x2==19)then(g1163_0 x0)else(bif(g1115_m2 x2)then(bif((g1162_0_0 x1 x3)==0)then x0 else(bif(x2==21)then x0 else(bif(!(g112 x6 1 (IntKind.i64.wrap (1073741824-x0))))then x0 else(g1163_0 x0))))else(bif((g190_1_0 (g1162_0_0 x1 x3) (g1162_0_1 x1 x3) (g1162_0_2 x1 x3) (g1162_0_3 x1 x3) (g1162_0_4 x1 x3) (g1162_0_5 x1 x3) x2 x4 x5 x6)!=0)then x0 else(bif(decide (((g1163_1 x1 x3 (g190_0_0 (g1162_0_0 x1 x3) (g1162_0_1 x1 x3) (g1162_0_2 x1 x3) (g1162_0_3 x1 x3) (g1162_0_4 x1 x3) (g1162_0_5 x1 x3) x2 x4 x5 x6) (g190_0_1 (g1162_0_0 x1 x3) (g1162_0_1 x1 x3) (g1162_0_2 x1 x3) (g1162_0_3 x1 x3) (g1162_0_4 x1 x3) (g1162_0_5 x1 x3) x2 x4 x5 x6) (g190_0_2 (g1162_0_0 x1 x3) (g1162_0_1 x1 x3) (g1162_0_2 x1 x3) (g1162_0_3 x1 x3) (g1162_0_4 x1 x3) (g1162_0_5 x1 x3) x2 x4 x5 x6) (g190_0_3 (g1162_0_0 x1 x3) (g1162_0_1 x1 x3) (g1162_0_2 x1 x3) (g1162_0_3 x1 x3) (g1162_0_4 x1 x3) (g1162_0_5 x1 x3) x2 x4 x5 x6) (g190_0_4 (g1162_0_0 x1 x3) (g1162_0_1 x1 x3) (g1162_0_2 x1 x3) (g1162_0_3 x1 x3) (g1162_0_4 x1 x3) (g1162_0_5 x1 x3) x2 x4 x5 x6) (g190_0_5 (g1162_0_0 x1 x3) (g1162_0_1 x1 x3) (g1162_0_2 x1 x3) (g1162_0_3 x1 x3) (g1162_0_4 x1 x3) (g1162_0_5 x1 x3) x2 x4 x5 x6) (g1115_m4 x1 x2 x3)).n:Int)>12))then x0 else(g1163_0 x0))))))
noncomputable def g1115_0_1(x0:Int)(x1:Sl T175)(x2:Int)(x3:ByteArray)(x4:ByteArray)(x5:ByteArray)(x6:Int):Sl T175:=(bif(x2==22)then x1 else(bif(x2==19)then(g1163_1 x1 x3 0 ⟨#[]⟩ 0 (nilSl:Sl T160) (nilSl:Sl ByteArray) (nilSl:Sl T164) 0)else(bif(g1115_m2 x2)then(bif((g1162_0_0 x1 x3)==0)then x1 else(bif(x2==21)then x1 else(bif(!(g112 x6 1 (IntKind.i64.wrap (1073741824-x0))))then x1 else(g1163_1 x1 x3 (g1162_0_0 x1 x3) (g1162_0_1 x1 x3) (g1162_0_2 x1 x3) (g1162_0_3 x1 x3) (g1162_0_4 x1 x3) (g1162_0_5 x1 x3) (IntKind.i64.wrap (x0+x6))))))else(bif((g190_1_0 (g1162_0_0 x1 x3) (g1162_0_1 x1 x3) (g1162_0_2 x1 x3) (g1162_0_3 x1 x3) (g1162_0_4 x1 x3) (g1162_0_5 x1 x3) x2 x4 x5 x6)!=0)then x1 else(bif(decide (((g1163_1 x1 x3 (g190_0_0 (g1162_0_0 x1 x3) (g1162_0_1 x1 x3) (g1162_0_2 x1 x3) (g1162_0_3 x1 x3) (g1162_0_4 x1 x3) (g1162_0_5 x1 x3) x2 x4 x5 x6) (g190_0_1 (g1162_0_0 x1 x3) (g1162_0_1 x1 x3) (g1162_0_2 x1 x3) (g1162_0_3 x1 x3) (g1162_0_4 x1 x3) (g1162_0_5 x1 x3) x2 x4 x5 x6) (g190_0_2 (g1162_0_0 x1 x3) (g1162_0_1 x1 x3) (g1162_0_2 x1 x3) (g1162_0_3 x1 x3) (g1162_0_4 x1 x3) (g1162_0_5 x1 x3) x2 x4 x5 x6) (g190_0_3 (g1162_0_0 x1 x3) (g1162_0_1 x1 x3) (g1162_0_2 x1 x3) (g1162_0_3 x1 x3) (g1162_0_4 x1 x3) (g1162_0_5 x1 x3) x2 x4 x5 x6) (g190_0_4 (g1162_0_0 x1 x3) (g1162_0_1 x1 x3) (g1162_0_2 x1 x3) (g1162_0_3 x1 x3) (g1162_0_4 x1 x3) (g1162_0_5 x1 x3) x2 x4 x5 x6) (g190_0_5 (g1162_0_0 x1 x3) (g1162_0_1 x1 x3) (g1162_0_2 x1 x3) (g1162_0_3 x1 x3) (g1162_0_4 x1 x3) (g1162_0_5 x1 x3) x2 x4 x5 x6) (g1115_m4 x1 x2 x3)).n:Int)>12))then x1 else(g1163_1 x1 x3 (g190_0_0 (g1162_0_0 x1 x3) (g1162_0_1 x1 x3) (g1162_0_2 x1 x3) (g1162_0_3 x1 x3) (g1162_0_4 x1 x3) (g1162_0_5 x1 x3) x2 x4 x5 x6) (g190_0_1 (g1162_0_0 x1 x3) (g1162_0_1 x1 x3) (g1162_0_2 x1 x3) (g1162_0_3 x1 x3) (g1162_0_4 x1 x3) (g1162_0_5 x1 x3) x2 x4 x5 x6) (g190_0_2 (g1162_0_0 x1 x3) (g1162_0_1 x1 x3) (g1162_0_2 x1 x3) (g1162_0_3 x1 x3) (g1162_0_4 x1 x3) (g1162_0_5 x1 x3) x2 x4 x5 x6) (g190_0_3 (g1162_0_0 x1 x3) (g1162_0_1 x1 x3) (g1162_0_2 x1 x3) (g1162_0_3 x1 x3) (g1162_0_4 x1 x3) (g1162_0_5 x1 x3) x2 x4 x5 x6) (g190_0_4 (g1162_0_0 x1 x3) (g1162_0_1 x1 x3) (g1162_0_2 x1 x3) (g1162_0_3 x1 x3) (g1162_0_4 x1 x3) (g1162_0_5 x1 x3) x2 x4 x5 x6) (g190_0_5 (g1162_0_0 x1 x3) (g1162_0_1 x1 x3) (g1162_0_2 x1 x3) (g1162_0_3 x1 x3) (g1162_0_4 x1 x3) (g1162_0_5 x1 x3) x2 x4 x5 x6) (g1115_m4 x1 x2 x3)))))))
noncomputable def g1115_1_0(x0:Int)(x1:Sl T175)(x2:Int)(x3:ByteArray)(x4:ByteArray)(x5:ByteArray)(x6:Int):Int:=(bif(x2==22)then 0 else(bif(x2==19)then 0 else(bif(g1115_m2 x2)then(bif((g1162_0_0 x1 x3)==0)then 5 else(bif(x2==21)then 0 else(bif(!(g112 x6 1 (IntKind.i64.wrap (1073741824-x0))))then 2 else 0)))else(bif((g190_1_0 (g1162_0_0 x1 x3) (g1162_0_1 x1 x3) (g1162_0_2 x1 x3) (g1162_0_3 x1 x3) (g1162_0_4 x1 x3) (g1162_0_5 x1 x3) x2 x4 x5 x6)!=0)then(g190_1_0 (g1162_0_0 x1 x3) (g1162_0_1 x1 x3) (g1162_0_2 x1 x3) (g1162_0_3 x1 x3) (g1162_0_4 x1 x3) (g1162_0_5 x1 x3) x2 x4 x5 x6)else(bif(decide (((g1163_1 x1 x3 (g190_0_0 (g1162_0_0 x1 x3) (g1162_0_1 x1 x3) (g1162_0_2 x1 x3) (g1162_0_3 x1 x3) (g1162_0_4 x1 x3) (g1162_0_5 x1 x3) x2 x4 x5 x6) (g190_0_1 (g1162_0_0 x1 x3) (g1162_0_1 x1 x3) (g1162_0_2 x1 x3) (g1162_0_3 x1 x3) (g1162_0_4 x1 x3) (g1162_0_5 x1 x3) x2 x4 x5 x6) (g190_0_2 (g1162_0_0 x1 x3) (g1162_0_1 x1 x3) (g1162_0_2 x1 x3) (g1162_0_3 x1 x3) (g1162_0_4 x1 x3) (g1162_0_5 x1 x3) x2 x4 x5 x6) (g190_0_3 (g1162_0_0 x1 x3) (g1162_0_1 x1 x3) (g1162_0_2 x1 x3) (g1162_0_3 x1 x3) (g1162_0_4 x1 x3) (g1162_0_5 x1 x3) x2 x4 x5 x6) (g190_0_4 (g1162_0_0 x1 x3) (g1162_0_1 x1 x3) (g1162_0_2 x1 x3) (g1162_0_3 x1 x3) (g1162_0_4 x1 x3) (g1162_0_5 x1 x3) x2 x4 x5 x6) (g190_0_5 (g1162_0_0 x1 x3) (g1162_0_1 x1 x3) (g1162_0_2 x1 x3) (g1162_0_3 x1 x3) (g1162_0_4 x1 x3) (g1162_0_5 x1 x3) x2 x4 x5 x6) (g1115_m4 x1 x2 x3)).n:Int)>12))then 6 else(g190_1_0 (g1162_0_0 x1 x3) (g1162_0_1 x1 x3) (g1162_0_2 x1 x3) (g1162_0_3 x1 x3) (g1162_0_4 x1 x3) (g1162_0_5 x1 x3) x2 x4 x5 x6))))))
noncomputable def g1115_1_1(x1:Sl T175)(x2:Int)(x3:ByteArray)(x4:ByteArray)(x5:ByteArray)(x6:Int):ByteArray:=(bif(x2==22)then⟨#[]⟩else(bif(x2==19)then⟨#[]⟩else(bif(g1115_m2 x2)then⟨#[]⟩else(bif((g190_1_0 (g1162_0_0 x1 x3) (g1162_0_1 x1 x3) (g1162_0_2 x1 x3) (g1162_0_3 x1 x3) (g1162_0_4 x1 x3) (g1162_0_5 x1 x3) x2 x4 x5 x6)!=0)then(g190_1_1 (g1162_0_0 x1 x3) (g1162_0_1 x1 x3) (g1162_0_2 x1 x3) (g1162_0_3 x1 x3) (g1162_0_4 x1 x3) (g1162_0_5 x1 x3) x2 x4 x5)else(bif(decide (((g1163_1 x1 x3 (g190_0_0 (g1162_0_0 x1 x3) (g1162_0_1 x1 x3) (g1162_0_2 x1 x3) (g1162_0_3 x1 x3) (g1162_0_4 x1 x3) (g1162_0_5 x1 x3) x2 x4 x5 x6) (g190_0_1 (g1162_0_0 x1 x3) (g1162_0_1 x1 x3) (g1162_0_2 x1 x3) (g1162_0_3 x1 x3) (g1162_0_4 x1 x3) (g1162_0_5 x1 x3) x2 x4 x5 x6) (g190_0_2 (g1162_0_0 x1 x3) (g1162_0_1 x1 x3) (g1162_0_2 x1 x3) (g1162_0_3 x1 x3) (g1162_0_4 x1 x3) (g1162_0_5 x1 x3) x2 x4 x5 x6) (g190_0_3 (g1162_0_0 x1 x3) (g1162_0_1 x1 x3) (g1162_0_2 x1 x3) (g1162_0_3 x1 x3) (g1162_0_4 x1 x3) (g1162_0_5 x1 x3) x2 x4 x5 x6) (g190_0_4 (g1162_0_0 x1 x3) (g1162_0_1 x1 x3) (g1162_0_2 x1 x3) (g1162_0_3 x1 x3) (g1162_0_4 x1 x3) (g1162_0_5 x1 x3) x2 x4 x5 x6) (g190_0_5 (g1162_0_0 x1 x3) (g1162_0_1 x1 x3) (g1162_0_2 x1 x3) (g1162_0_3 x1 x3) (g1162_0_4 x1 x3) (g1162_0_5 x1 x3) x2 x4 x5 x6) (g1115_m4 x1 x2 x3)).n:Int)>12))then⟨#[]⟩else(g190_1_1 (g1162_0_0 x1 x3) (g1162_0_1 x1 x3) (g1162_0_2 x1 x3) (g1162_0_3 x1 x3) (g1162_0_4 x1 x3) (g1162_0_5 x1 x3) x2 x4 x5))))))
noncomputable def g1115_1_2(x0:Int)(x1:Sl T175)(x2:Int)(x3:ByteArray)(x4:ByteArray)(x5:ByteArray)(x6:Int):Int:=(bif(x2==22)then 0 else(bif(x2==19)then(g238 (decide ((g1162_0_0 x1 x3)>0)))else(bif(g1115_m2 x2)then(bif((g1162_0_0 x1 x3)==0)then 0 else(bif(x2==21)then(g1115_m3 x0 x1 x3)else 0))else(bif((g190_1_0 (g1162_0_0 x1 x3) (g1162_0_1 x1 x3) (g1162_0_2 x1 x3) (g1162_0_3 x1 x3) (g1162_0_4 x1 x3) (g1162_0_5 x1 x3) x2 x4 x5 x6)!=0)then(g190_1_2 (g1162_0_0 x1 x3) (g1162_0_1 x1 x3) (g1162_0_2 x1 x3) (g1162_0_3 x1 x3) (g1162_0_4 x1 x3) (g1162_0_5 x1 x3) x2 x4 x5 x6)else(bif(decide (((g1163_1 x1 x3 (g190_0_0 (g1162_0_0 x1 x3) (g1162_0_1 x1 x3) (g1162_0_2 x1 x3) (g1162_0_3 x1 x3) (g1162_0_4 x1 x3) (g1162_0_5 x1 x3) x2 x4 x5 x6) (g190_0_1 (g1162_0_0 x1 x3) (g1162_0_1 x1 x3) (g1162_0_2 x1 x3) (g1162_0_3 x1 x3) (g1162_0_4 x1 x3) (g1162_0_5 x1 x3) x2 x4 x5 x6) (g190_0_2 (g1162_0_0 x1 x3) (g1162_0_1 x1 x3) (g1162_0_2 x1 x3) (g1162_0_3 x1 x3) (g1162_0_4 x1 x3) (g1162_0_5 x1 x3) x2 x4 x5 x6) (g190_0_3 (g1162_0_0 x1 x3) (g1162_0_1 x1 x3) (g1162_0_2 x1 x3) (g1162_0_3 x1 x3) (g1162_0_4 x1 x3) (g1162_0_5 x1 x3) x2 x4 x5 x6) (g190_0_4 (g1162_0_0 x1 x3) (g1162_0_1 x1 x3) (g1162_0_2 x1 x3) (g1162_0_3 x1 x3) (g1162_0_4 x1 x3) (g1162_0_5 x1 x3) x2 x4 x5 x6) (g190_0_5 (g1162_0_0 x1 x3) (g1162_0_1 x1 x3) (g1162_0_2 x1 x3) (g1162_0_3 x1 x3) (g1162_0_4 x1 x3) (g1162_0_5 x1 x3) x2 x4 x5 x6) (g1115_m4 x1 x2 x3)).n:Int)>12))then 0 else(g190_1_2 (g1162_0_0 x1 x3) (g1162_0_1 x1 x3) (g1162_0_2 x1 x3) (g1162_0_3 x1 x3) (g1162_0_4 x1 x3) (g1162_0_5 x1 x3) x2 x4 x5 x6))))))
noncomputable def g1115_1_3(x1:Sl T175)(x2:Int)(x3:ByteArray)(x4:ByteArray)(x5:ByteArray)(x6:Int):Sl ByteArray:=(bif(x2==22)then(g1115_r1 x1)else(bif(x2==19)then(nilSl:Sl ByteArray)else(bif(g1115_m2 x2)then(nilSl:Sl ByteArray)else(bif((g190_1_0 (g1162_0_0 x1 x3) (g1162_0_1 x1 x3) (g1162_0_2 x1 x3) (g1162_0_3 x1 x3) (g1162_0_4 x1 x3) (g1162_0_5 x1 x3) x2 x4 x5 x6)!=0)then(g190_1_3 (g1162_0_0 x1 x3) (g1162_0_1 x1 x3) (g1162_0_2 x1 x3) (g1162_0_3 x1 x3) (g1162_0_4 x1 x3) (g1162_0_5 x1 x3) x2)else(bif(decide (((g1163_1 x1 x3 (g190_0_0 (g1162_0_0 x1 x3) (g1162_0_1 x1 x3) (g1162_0_2 x1 x3) (g1162_0_3 x1 x3) (g1162_0_4 x1 x3) (g1162_0_5 x1 x3) x2 x4 x5 x6) (g190_0_1 (g1162_0_0 x1 x3) (g1162_0_1 x1 x3) (g1162_0_2 x1 x3) (g1162_0_3 x1 x3) (g1162_0_4 x1 x3) (g1162_0_5 x1 x3) x2 x4 x5 x6) (g190_0_2 (g1162_0_0 x1 x3) (g1162_0_1 x1 x3) (g1162_0_2 x1 x3) (g1162_0_3 x1 x3) (g1162_0_4 x1 x3) (g1162_0_5 x1 x3) x2 x4 x5 x6) (g190_0_3 (g1162_0_0 x1 x3) (g1162_0_1 x1 x3) (g1162_0_2 x1 x3) (g1162_0_3 x1 x3) (g1162_0_4 x1 x3) (g1162_0_5 x1 x3) x2 x4 x5 x6) (g190_0_4 (g1162_0_0 x1 x3) (g1162_0_1 x1 x3) (g1162_0_2 x1 x3) (g1162_0_3 x1 x3) (g1162_0_4 x1 x3) (g1162_0_5 x1 x3) x2 x4 x5 x6) (g190_0_5 (g1162_0_0 x1 x3) (g1162_0_1 x1 x3) (g1162_0_2 x1 x3) (g1162_0_3 x1 x3) (g1162_0_4 x1 x3) (g1162_0_5 x1 x3) x2 x4 x5 x6) (g1115_m4 x1 x2 x3)).n:Int)>12))then(nilSl:Sl ByteArray)else(g190_1_3 (g1162_0_0 x1 x3) (g1162_0_1 x1 x3) (g1162_0_2 x1 x3) (g1162_0_3 x1 x3) (g1162_0_4 x1 x3) (g1162_0_5 x1 x3) x2))))))
noncomputable def F1115:Fq:=⟨[.g [kI,.sl E175],.g [kI,kS,kS,kS,kI]],fun(x0:Int) x1 (x2:Int) x3 x4 x5 (x6:Int)=>⟨⟨some (SV x1∧x1.n≤1000000),.tup [.agg [.int .i64 (g1115_0_0 x0 x1 x2 x3 x4 x5 x6),ofSl 8 e175 (g1115_0_1 x0 x1 x2 x3 x4 x5 x6)],.agg [.int .i64 (g1115_1_0 x0 x1 x2 x3 x4 x5 x6),.str (g1115_1_1 x1 x2 x3 x4 x5 x6),.int .i64 (g1115_1_2 x0 x1 x2 x3 x4 x5 x6),ofSl 1 e9 (g1115_1_3 x1 x2 x3 x4 x5 x6)]]⟩⟩⟩
theorem pc1115:FnOk Tryz.prog 61 F1115.sh _ (F1115.sh.flatMap Sh.bs) F1115.f []:=
 fun(x0:Int) x1 n1 _ (x2:Int) x3 n3 x4 n4 x5 n5 (x6:Int) hp=>pure_of_exec (X:=(mkX [(20,F112.ans),(92,F190.ans),(91,F238.ans),(89,F1162.ans),(90,F1163.ans)])) (R:=⟨.pure,[.cell 4 24,.cell 5 36],[(.c 0 0,kI),(.c 0 1,.sl E175),(.c 1 0,kI),(.c 1 1,kS),(.c 1 2,kI),(.c 1 3,.sl E9)],⟨[.agg (us 2 []),.agg (us 4 [])],[]⟩⟩) (h:=(.s .z (.s .z (.s (.s .z (.s (.j ⟨124,[],[],[],.f⟩ (.s .z (.lp ⟨252,[],[(.h 4 3,E9)],[(.t 7,kI),(.h 5 0,.blk E9)],some 0,false,124,[],[(.h 5 0,.blk E9)],fun k (s:Int×Sl ByteArray)=>g1115_l1 x1 k s.1 s.2,.f,fun(s:Int×Sl ByteArray)=>((0≤s.1∧s.1≤(x1.n:Int))∧((s.2.n:Nat):Int)≤0+(s.1-0)),fun(s:Int×Sl ByteArray)=>(Int.toNat ((x1.n:Int)-s.1)),some fun(r:Sl ByteArray)=>((r.n:Nat):Int)≤0+max ((x1.n:Int)-0) 0⟩ .z)) .z) .z)) (.s .z (.s .z (.s (.j ⟨9223372036854776700,[],[(.t 63,kB)],[],.f⟩ .z (.s (.s .z (.s (.s .z (.s (.j ⟨892,[],[(.h 4 2,kI)],[],.f⟩ .z .z) .z)) .z)) .z)) (.s .z (.s .z (.j ⟨1660,[.b 5],[(.t 9,kI)],[],.f⟩ .z .z)))))))))) (ms:=[.f,.f,.f,(.b .f (.b .f (.b .l .f))),(.b .f (.b .f (.b (.b .f (.b .f .l)) .f))),(.b .f (.b .f (.b .l .f)))]) (p:=(((x2==22)=true→((((0≤(0:Int)∧(0:Int)≤(x1.n:Int))∧((0:Nat):Int)≤0+((0:Int)-0)))∧(∀(v1_0:Int) (v1_1:Sl ByteArray),((0≤v1_0∧v1_0≤(x1.n:Int))∧((v1_1.n:Nat):Int)≤0+(v1_0-0))→(((decide (v1_0<(x1.n:Int)))=true→(((0:Int)≤v1_0∧v1_0<((x1.n:Nat):Int))∧(v1_1.n+1≤549755813888)))∧(((decide (v1_0<(x1.n:Int)))=true→(((0≤(IntKind.i64.wrap (v1_0+1))∧(IntKind.i64.wrap (v1_0+1))≤(x1.n:Int))∧(((v1_1.n+1):Nat):Int)≤0+((IntKind.i64.wrap (v1_0+1))-0))∧(Int.toNat ((x1.n:Int)- (IntKind.i64.wrap (v1_0+1))))<(Int.toNat ((x1.n:Int)-v1_0))))∧((decide (v1_0<(x1.n:Int)))=false→(((v1_1.n:Nat):Int)≤0+max ((x1.n:Int)-0) 0)))))))∧((x2==22)=false→(((x2==19)=true→(x1.n≤1000000))∧((x2==19)=false→(((g1115_m2 x2)=true→(((g1162_0_0 x1 x3)==0)=false→((x2==21)=false→((!(g112 x6 1 (IntKind.i64.wrap (1073741824-x0))))=false→(x1.n≤1000000)))))∧((g1115_m2 x2)=false→(((g1162_0_3 x1 x3).n≤1000000∧(g1162_0_4 x1 x3).n≤1000000∧(g1162_0_5 x1 x3).n≤1000000∧((g1162_0_0 x1 x3)≠4∨1≤(g1162_0_4 x1 x3).n))∧(((g190_1_0 (g1162_0_0 x1 x3) (g1162_0_1 x1 x3) (g1162_0_2 x1 x3) (g1162_0_3 x1 x3) (g1162_0_4 x1 x3) (g1162_0_5 x1 x3) x2 x4 x5 x6)!=0)=false→(x1.n≤1000000)))))))))) (mkX_ok ⟨k112,k190,k238,k1162,k1163,trivial⟩) Tryz.func61 rfl rfl (by kernel_rfl) (have⟨hq0,hq1⟩:=hp;⟨(fun h1=>⟨(by have:=eq_of_beq h1;omega),(fun v1_0 v1_1 hI2=>⟨(fun h3=>⟨(by have:=eq_of_beq h1;have:=of_decide_eq_true h3;omega),(by have:=eq_of_beq h1;have:=of_decide_eq_true h3;omega)⟩),⟨(fun h4=>(by have:=eq_of_beq h1;have:=of_decide_eq_true h4;first|omega|(have:=wrap64 (x:=(v1_0+1)) (by omega) (by omega);omega))),(fun h5=>(by have:=eq_of_beq h1;have:=of_decide_eq_false h5;omega))⟩⟩)⟩),(fun h6=>⟨(fun h7=>(by have:=ne_of_beq_false h6;have:=eq_of_beq h7;omega)),(fun h8=>⟨(fun h9=>(fun h10=>(fun h11=>(fun h12=>(by have:=ne_of_beq_false h6;have:=ne_of_beq_false h8;have:=h9;(try simp [g1115_m2]at this);have:=ne_of_beq_false h10;have:=ne_of_beq_false h11;omega))))),(fun h13=>⟨(by have:=ne_of_beq_false h6;have:=ne_of_beq_false h8;have:=h13;simp [g1115_m2]at this;have:=v1162 x1 x3 (by repeat first|assumption|apply th1106|apply ce85|apply cc85'|apply vok_t|apply rmok|apply And.intro|apply ce95|apply cc95);omega),(fun h14=>(by have:=ne_of_beq_false h6;have:=ne_of_beq_false h8;have:=h13;simp [g1115_m2]at this;have:=bne_eq_false_iff_eq.1 h14;omega))⟩)⟩)⟩)⟩)
theorem k1115:XOk Tryz.prog 61 F1115.ans:=Fq.ok ⟨_,_,Tryz.func61,rfl,by kernel_rfl⟩ pc1115
end Go.Proofs.YtfbpilmhnpkfhaaGreatDoor
/-
  A command on a store: the program's answer is the reference's.
-/
namespace Go.Proofs.YtfbpilmhnpkfhaaGreatDoor
open Go Go.Vc Go.RowKit
set_option maxRecDepth 100000
set_option maxHeartbeats 4000000
noncomputable def cE(e:T175):ByteArray×Int×ByteArray×Int×List T160×List ByteArray×List T164×Int:=(e.c0,e.c1,e.c2,e.c3,e.c4.B,e.c5.B,e.c6.B,e.c7)
structure Fit (now:Int) (s:Sl T175):Prop where
 n:s.n≤12
 rise:Rise s.n (fun i=>(s.at' i).c0)
 ok: ∀i,i<s.n→g72 (s.at' i).c1 (s.at' i).c2 (s.at' i).c3 (s.at' i).c4 (s.at' i).c5 (s.at' i).c6=0
 sz: ∀i,i<s.n→(s.at' i).c4.n≤1048576∧(s.at' i).c5.n≤1048576∧(s.at' i).c6.n≤1048576
 u: ∀i,i<s.n→(s.at' i).c7=0∨(now<(s.at' i).c7∧(s.at' i).c7≤1073741824)
theorem upd_at{α:Type}(s:Sl α)(i:Nat)(x:α):(s.upd i x).at' i=x:=by simp [Sl.upd]
theorem ins_at{α:Type}(s:Sl α)(i:Nat)(x:α):(s.ins i x).at' i=x:=by
 have:Nat.blt i i=false:=by
  cases e:Nat.blt i i with
  |false=>rfl
  |true=>exact absurd (Nat.le_of_ble_eq_true e) (by omega)
 simp [Sl.ins,this]
theorem set_mid{α:Type}(l m:List α)(x y:α){i:Nat}(h:l.length=i):(l++x::m).set i y=l++y::m:=by
 subst h
 rw[List.set_append_right _ _ (Nat.le_refl _)]
 simp
theorem set_at{α:Type}(s:Sl α)(i:Nat)(y:α)(h:i<s.n):(s.upd i y).B=s.B.take i++y::s.B.drop (i+1):=by
 rw[B_upd]
 have h1:s.B=s.B.take i++s.at' i::s.B.drop (i+1):=by rw[←B_at s h,List.take_append_drop]
 have h2:=set_mid (s.B.take i) (s.B.drop (i+1)) (s.at' i) y (i:=i) (by rw[List.length_take,B_len];omega)
 rw[←h1]at h2
 exact h2
theorem put_B(k:ByteArray)(i:Nat)(f:Bool)(s:Sl T175)(hi:i≤s.n)(hf:f=true→i<s.n∧(s.at' i).c0=k):((g1110_m1 k (i:Int) f s).at' i).c0=k∧((g1110_m1 k (i:Int) f s).at' i).c7=(bif f then(s.at' i).c7 else 0)∧ ∀y,((g1110_m1 k (i:Int) f s).upd i y).B=s.B.take i++y::s.B.drop (bif f then i+1 else i):=by
 unfold g1110_m1
 rw[Int.toNat_natCast]
 cases f with
 |true=>
  obtain⟨h1,h2⟩:=hf rfl
  exact⟨h2,rfl,fun y=>set_at s i y h1⟩
 |false=>
  refine⟨?_,?_,fun y=> ?_⟩
  ·show((s.ins i _).at' i).c0=k
   rw[ins_at]
  ·show((s.ins i _).at' i).c7=0
   rw[ins_at]
  ·show((s.ins i _).upd i y).B=s.B.take i++y::s.B.drop i
   rw[B_upd,B_ins s i _ hi]
   exact set_mid _ _ _ _ (by rw[List.length_take,B_len];omega)
theorem set_B(x0:Int)(k:ByteArray)(x5:Int)(x6:ByteArray)(x7:Int)(x8:Sl T160)(x9:Sl ByteArray)(x10:Sl T164)(i:Nat)(f:Bool)(s:Sl T175)(hi:i≤s.n)(hf:f=true→i<s.n∧(s.at' i).c0=k):
  (g1110_h1_0 x0 k x5 x6 x7 x8 x9 x10 (i:Int) f s).B=s.B.take i++⟨k,x5,x6,x7,x8,x9,x10,(bif x0==1 then 0 else bif f then(s.at' i).c7 else 0)⟩::s.B.drop (bif f then i+1 else i):=by
 obtain⟨h1,h2,h3⟩:=put_B k i f s hi hf
 unfold g1110_h1_0
 rw[Int.toNat_natCast]
 simp only[upd_at,h1,h2]
 cases e:(x0==1)with
 |false=>exact h3 _
 |true=>
  simp only[cond_true]
  rw[B_upd,h3]
  exact set_mid _ _ _ _ (by rw[List.length_take,B_len];omega)
theorem del_i(i:Nat)(s:Sl T175)(hi:i<s.n)(hn:s.n≤12):(g1107_h2_0 (i:Int) s).B=s.B.take i++s.B.drop (i+1):=by
 unfold g1107_h2_0
 rw[Int.toNat_natCast,wrap64 (by omega) (by omega),show Int.toNat ((i:Int)+1)=i+1 by omega]
 exact B_del s i hi
section
variable {t:Sl T175} {k:ByteArray} {i:Nat}
theorem old1(h:KeyAt t k i true):g1162_0_0 t k=(t.at' i).c1∧g1162_0_1 t k=(t.at' i).c2∧g1162_0_2 t k=(t.at' i).c3∧g1162_0_3 t k=(t.at' i).c4∧g1162_0_4 t k=(t.at' i).c5∧g1162_0_5 t k=(t.at' i).c6∧g1162_1 t k=(t.at' i).c7:=by
 have e:=h.look
 unfold g1162_0_0 g1162_0_1 g1162_0_2 g1162_0_3 g1162_0_4 g1162_0_5 g1162_1 g1162_p2
 rw[e]
 exact⟨rfl,rfl,rfl,rfl,rfl,rfl,rfl⟩
theorem old0(h:KeyAt t k i false):g1162_0_0 t k=0∧g1162_0_1 t k=⟨#[]⟩∧g1162_0_2 t k=0∧g1162_0_3 t k=nilSl∧g1162_0_4 t k=nilSl∧g1162_0_5 t k=nilSl∧g1162_1 t k=0:=by
 have e:=h.look
 unfold g1162_0_0 g1162_0_1 g1162_0_2 g1162_0_3 g1162_0_4 g1162_0_5 g1162_1 g1162_p2
 rw[e]
 exact⟨rfl,rfl,rfl,rfl,rfl,rfl,rfl⟩
end
structure Ds (x0:Int) (x1 x2 x3:ByteArray) (x4 now:Int) (s t:Sl T175):Prop where
 r0:g1052_0 x0 x1 x2 x3 x4 now s=g1115_1_0 now t x0 x1 x2 x3 x4
 r1:g1052_1 x0 x1 x2 x3 x4 s=g1115_1_1 t x0 x1 x2 x3 x4
 r2:g1052_2 x0 x1 x2 x3 x4 now s=g1115_1_2 now t x0 x1 x2 x3 x4
 r3:(g1052_3 x0 x1 x2 x3 x4 s).B=(g1115_1_3 t x0 x1 x2 x3 x4).B
 e:(g1052_h2_0 x0 x1 x2 x3 x4 now s).B.map cE=(g1115_0_1 now t x0 x1 x2 x3 x4).B.map cE
 w:g1115_0_0 now t x0 x1 x2 x3 x4=now
 l3:(g1052_3 x0 x1 x2 x3 x4 s).n≤60
theorem put_map{l l' m m':List T175}{a b:T175}(h1:l=l')(h2:m=m')(h:cE a=cE b):(l++a::m).map cE=(l'++b::m').map cE:=by
 subst h1 h2
 simp [h]
theorem kind72{x0:Int}{x1:ByteArray}{x2:Int}{x3:Sl T160}{x4:Sl ByteArray}{x5:Sl T164}(h:g72 x0 x1 x2 x3 x4 x5=0):1≤x0:=by
 unfold g72 at h
 obtain⟨h,_⟩:=bz h (by decide)
 unfold g72_m1 at h
 obtain⟨h,_⟩:=bt h
 have:=df h
 omega
section
variable {x0:Int} {x1 x2 x3:ByteArray} {x4 now:Int} {s t:Sl T175} {i:Nat} {f:Bool}
theorem ds22(hB:s.B=t.B)(hn:s.n≤12):Ds 22 x1 x2 x3 x4 now s t:=by
 have hnt:t.n=s.n:=(nB' hB).symm
 have a:(g1052_3 22 x1 x2 x3 x4 s).B=s.B.map (·.c0):=by
  have:=mapB (g1052_l1 s) s (fun x=>x.c0) (by omega) (fun _ _ _=>rfl) nilSl
  rw[B_nil,List.nil_append]at this;exact this
 have b:(g1115_1_3 t 22 x1 x2 x3 x4).B=t.B.map (·.c0):=by
  have:=mapB (g1115_l1 t) t (fun x=>x.c0) (by omega) (fun _ _ _=>rfl) nilSl
  rw[B_nil,List.nil_append]at this;exact this
 refine⟨rfl,rfl,rfl,by rw[a,b,hB],?_,rfl,?_⟩
 ·show s.B.map cE=t.B.map cE
  rw[hB]
 ·have:=congrArg List.length a
  rw[B_len,List.length_map,B_len]at this
  omega
theorem ds19(hB:s.B=t.B)(hF:Fit now t)(hs:KeyAt s x1 i f)(ht:KeyAt t x1 i f):Ds 19 x1 x2 x3 x4 now s t:=by
 have hnt:t.n=s.n:=(nB' hB).symm
 have e3:g1106_h0_3 x1 s=f:=hs.i1
 have e2:g1106_h0_2 x1 s=i:=hs.i0
 refine⟨rfl,rfl,?_,rfl,?_,rfl,Nat.zero_le _⟩
 ·show(bif(!(g1106_h0_3 x1 s))then 0 else 1)=g238 (decide (g1162_0_0 t x1>0))
  rw[e3]
  cases f with
  |false=>rw[(old0 ht).1];rfl
  |true=>
   have h1:=kind72 (hF.ok i (ht.hit rfl).1)
   rw[(old1 ht).1,decide_eq_true (by omega)];rfl
 ·show(bif(!(g1106_h0_3 x1 s))then s else g1107_h2_0 (g1106_h0_2 x1 s) s).B.map cE=(g1163_1 t x1 0 ⟨#[]⟩ 0 nilSl nilSl nilSl 0).B.map cE
  rw[e3,e2,ht.out]
  cases f with
  |false=>show s.B.map cE=t.B.map cE;rw[hB]
  |true=>
   show(g1107_h2_0 (i:Int) s).B.map cE=_
   rw[del_i i s (hs.hit rfl).1 (by have:=hF.n;omega),hB];rfl
theorem dsTime(hx:x0=20∨x0=21)(h0:0≤now∧now≤1073741824)(hx4: -9223372036854775808≤x4∧x4≤9223372036854775807)(hB:s.B=t.B)(hF:Fit now t)(hs:KeyAt s x1 i f)(ht:KeyAt t x1 i f):Ds x0 x1 x2 x3 x4 now s t:=by
 have hnt:t.n=s.n:=(nB' hB).symm
 have e3:g1106_h0_3 x1 s=f:=hs.i1
 have e2:g1106_h0_2 x1 s=i:=hs.i0
 have c22:(x0==22)=false:=beq_eq_false_iff_ne.2 (by omega)
 have c19:(x0==19)=false:=beq_eq_false_iff_ne.2 (by omega)
 have m2:g1052_m2 x0=true:=by rcases hx with e|e<;>subst e<;>rfl
 have m2':g1115_m2 x0=true:=by rcases hx with e|e<;>subst e<;>rfl
 have em:g1108_m1 x4 now= !(g112 x4 1 (IntKind.i64.wrap (1073741824-now))):=by
  unfold g1108_m1 g112 g112_m1
  by_cases a:x4<1
  ·rw[decide_eq_true a,decide_eq_false (show¬x4≥1 by omega)];rfl
  ·rw[decide_eq_false a,decide_eq_true (show x4≥1 by omega)]
   by_cases b:x4>IntKind.i64.wrap (1073741824-now)
   ·rw[decide_eq_true b,decide_eq_false (by omega)];rfl
   ·rw[decide_eq_false b,decide_eq_true (by omega)];rfl
 have r0:g1052_0 x0 x1 x2 x3 x4 now s=(bif(!f)then 5 else(bif(x0==21)then 0 else(bif(g1108_m1 x4 now)then 2 else 0))):=by
  unfold g1052_0 g1108_0;rw[c22,c19,m2,e3];rfl
 have r2:g1052_2 x0 x1 x2 x3 x4 now s=(bif(!f)then 0 else(bif(x0==21)then(imax (IntKind.i64.wrap ((s.at' i).c7-now)) 0)else 0)):=by
  unfold g1052_2 g1108_2;rw[c22,c19,m2,e3,e2,Int.toNat_natCast];rfl
 have re:g1052_h2_0 x0 x1 x2 x3 x4 now s=(bif(!f)then s else(bif(x0==21)then s else(bif(g1108_m1 x4 now)then s else(Sl.upd s i (⟨(s.at' i).c0,(s.at' i).c1,(s.at' i).c2,(s.at' i).c3,(s.at' i).c4,(s.at' i).c5,(s.at' i).c6,(IntKind.i64.wrap (now+x4))⟩:T175))))):=by
  unfold g1052_h2_0 g1108_h1_0;rw[c22,c19,m2,e3,e2,Int.toNat_natCast];rfl
 have r1:g1052_1 x0 x1 x2 x3 x4 s=⟨#[]⟩:=by unfold g1052_1;rw[c22,c19,m2];rfl
 have r3:g1052_3 x0 x1 x2 x3 x4 s=nilSl:=by unfold g1052_3;rw[c22,c19,m2];rfl
 have q1:g1115_1_1 t x0 x1 x2 x3 x4=⟨#[]⟩:=by unfold g1115_1_1;rw[c22,c19,m2'];rfl
 have q3:g1115_1_3 t x0 x1 x2 x3 x4=nilSl:=by unfold g1115_1_3;rw[c22,c19,m2'];rfl
 have q0:g1115_1_0 now t x0 x1 x2 x3 x4=(bif((g1162_0_0 t x1)==0)then 5 else(bif(x0==21)then 0 else(bif(!(g112 x4 1 (IntKind.i64.wrap (1073741824-now))))then 2 else 0))):=by unfold g1115_1_0;rw[c22,c19,m2'];rfl
 have q2:g1115_1_2 now t x0 x1 x2 x3 x4=(bif((g1162_0_0 t x1)==0)then 0 else(bif(x0==21)then(g1115_m3 now t x1)else 0)):=by unfold g1115_1_2;rw[c22,c19,m2'];rfl
 have qe:g1115_0_1 now t x0 x1 x2 x3 x4=(bif((g1162_0_0 t x1)==0)then t else(bif(x0==21)then t else(bif(!(g112 x4 1 (IntKind.i64.wrap (1073741824-now))))then t else(g1163_1 t x1 (g1162_0_0 t x1) (g1162_0_1 t x1) (g1162_0_2 t x1) (g1162_0_3 t x1) (g1162_0_4 t x1) (g1162_0_5 t x1) (IntKind.i64.wrap (now+x4)))))):=by unfold g1115_0_1;rw[c22,c19,m2'];rfl
 have qw:g1115_0_0 now t x0 x1 x2 x3 x4=now:=by
  unfold g1115_0_0;rw[c22,c19,m2']
  unfold g1163_0
  cases ((g1162_0_0 t x1)==0)<;>cases (x0==21)<;>cases (!(g112 x4 1 (IntKind.i64.wrap (1073741824-now))))<;>rfl
 cases f with
 |false=>
  have o:=(old0 ht).1
  rw[o]at q0 q2 qe
  exact⟨by rw[r0,q0];rfl,by rw[r1,q1],by rw[r2,q2];rfl,by rw[r3,q3],by rw[re,qe];show s.B.map cE=t.B.map cE;rw[hB],qw,by rw[r3];exact Nat.zero_le _⟩
 |true=>
  have hi:=(ht.hit rfl).1
  obtain⟨o0,o1,o2,o3,o4,o5,o6⟩:=old1 ht
  have hk:=kind72 (hF.ok i hi)
  have hne:((t.at' i).c1==0)=false:=beq_eq_false_iff_ne.2 (by omega)
  have hat:s.at' i=t.at' i:=at_of_B hB (by omega)
  rw[o0,hne]at q0 q2
  rw[o0,o1,o2,o3,o4,o5,hne]at qe
  refine⟨by rw[r0,q0,em];rfl,by rw[r1,q1],?_,by rw[r3,q3],?_,qw,by rw[r3];exact Nat.zero_le _⟩
  ·rw[r2,q2]
   show(bif(x0==21)then(imax (IntKind.i64.wrap ((s.at' i).c7-now)) 0)else 0)=(bif(x0==21)then(g1115_m3 now t x1)else 0)
   congr 1
   unfold g1115_m3
   rw[o6,hat]
   have hw: ∀z:Int,-9223372036854775808≤z→z≤9223372036854775807→IntKind.i64.wrap z=z:=fun z a b=>wrap64 a b
   have hu:=hF.u i hi
   have hm:=imax_spec (IntKind.i64.wrap ((t.at' i).c7-now)) 0
   rcases hu with hu|hu
   ·rw[hu,decide_eq_false (by omega)]
    rw[hu]at hm
    rw[hw _ (by omega) (by omega)]at hm ⊢
    simp only[cond_false]
    omega
   ·rw[decide_eq_true (by omega)]
    rw[hw _ (by omega) (by omega)]at hm ⊢
    simp only[cond_true]
    omega
  ·rw[re,qe,em]
   cases (x0==21)with
   |true=>show s.B.map cE=t.B.map cE;rw[hB]
   |false=>
    cases g112 x4 1 (IntKind.i64.wrap (1073741824-now))with
    |false=>show s.B.map cE=t.B.map cE;rw[hB]
    |true=>
     show(Sl.upd s i _).B.map cE=(g1163_1 t x1 (t.at' i).c1 (t.at' i).c2 (t.at' i).c3 (t.at' i).c4 (t.at' i).c5 (t.at' i).c6 (IntKind.i64.wrap (now+x4))).B.map cE
     rw[ht.put _ _ _ _ _ _ _ (by omega),set_at s i _ (by omega)]
     refine put_map (by rw[hB]) (by rw[hB];rfl) ?_
     rw[hat,(ht.hit rfl).2]
end
end Go.Proofs.YtfbpilmhnpkfhaaGreatDoor
/-
  A command on a store: what is done with a key's value.
-/
namespace Go.Proofs.YtfbpilmhnpkfhaaGreatDoor
open Go Go.Vc Go.RowKit
set_option maxRecDepth 100000
set_option maxHeartbeats 4000000
section
variable {x0:Int} {x1 x2 x3:ByteArray} {x4 now:Int} {s t:Sl T175} {i:Nat} {f:Bool}
theorem dsVal(h18:x0≤18)(a0:g47 x0 x1 x2 x3 x4=0)(hB:s.B=t.B)(hF:Fit now t)(hs:KeyAt s x1 i f)(ht:KeyAt t x1 i f)
  (v0:Int) (v1:ByteArray) (v2:Int) (v3:Sl T160) (v4:Sl ByteArray) (v5:Sl T164) (un:Int)
  (p0:g1052_m3 x1 s=v0) (p1:g1052_m4 x1 s=v1) (p2:g1052_m5 x1 s=v2) (p3:g1052_m6 x1 s=v3) (p4:g1052_m7 x1 s=v4) (p5:g1052_m8 x1 s=v5)
  (q0:g1162_0_0 t x1=v0) (q1:g1162_0_1 t x1=v1) (q2:g1162_0_2 t x1=v2) (q3:g1162_0_3 t x1=v3) (q4:g1162_0_4 t x1=v4) (q5:g1162_0_5 t x1=v5) (q6:g1162_1 t x1=un)
  (hun:f=true→un=(s.at' i).c7) (hun0:f=false→un=0)
  (hcr:f=false→g101_1_0 v0 v1 v2 v3 v4 v5 x0 x1 x2 x3 x4=0→g101_0_0 v0 v1 v2 v3 v4 v5 x0 x1 x2 x3 x4≠0)
  (n3:v3.n≤1048576) (n4:v4.n≤1048576) (n5:v5.n≤1048576) (m2:g101_m2 v0 v1 v2 v3 v4 v5=false):Ds x0 x1 x2 x3 x4 now s t:=by
 have hnt:t.n=s.n:=(nB' hB).symm
 have hn:=hF.n
 have V:=vsAll (x0:=v0) (x1:=v1) (x2:=v2) (x3:=v3) (x4:=v4) (x5:=v5) (x6:=x0) (x7:=x1) (x8:=x2) (x9:=x3) (x10:=x4) n3 n4 n5 m2 a0 h18
 have hlo:=(kind_lo a0).1
 have e3:g1106_h0_3 x1 s=f:=hs.i1
 have e2:g1106_h0_2 x1 s=i:=hs.i0
 have c22:(x0==22)=false:=beq_eq_false_iff_ne.2 (by omega)
 have c19:(x0==19)=false:=beq_eq_false_iff_ne.2 (by omega)
 have c20:(x0==20)=false:=beq_eq_false_iff_ne.2 (by omega)
 have c21:(x0==21)=false:=beq_eq_false_iff_ne.2 (by omega)
 have mm:g1052_m2 x0=false:=by unfold g1052_m2;rw[c20,c21];rfl
 have mm':g1115_m2 x0=false:=by unfold g1115_m2;rw[c20,c21];rfl
 have r9:g1052_m9 x0 x1 x2 x3 x4 s=(bif(g101_0_0 v0 v1 v2 v3 v4 v5 x0 x1 x2 x3 x4==0)then f else false):=by unfold g1052_m9;rw[p0,p1,p2,p3,p4,p5,e3]
 have r10:g1052_m10 x1 s=(bif(!f)then((s.n:Int)==12)else false):=by unfold g1052_m10;rw[e3]
 have rp:g1052_p12 x0 x1 x2 x3 x4 s=(bif(g101_1_0 v0 v1 v2 v3 v4 v5 x0 x1 x2 x3 x4 !=0)then true else(bif(g1052_m9 x0 x1 x2 x3 x4 s)then true else(bif(g1052_m10 x1 s)then false else true))):=by unfold g1052_p12;rw[p0,p1,p2,p3,p4,p5]
 have r11:g1052_m11 x0 x1 x2 x3 x4 s=(bif(g101_1_0 v0 v1 v2 v3 v4 v5 x0 x1 x2 x3 x4 !=0)then s else(bif(g1052_m9 x0 x1 x2 x3 x4 s)then(g1107_h2_0 (i:Int) s)else(bif(g101_0_0 v0 v1 v2 v3 v4 v5 x0 x1 x2 x3 x4 !=0)then(g1110_h1_0 x0 x1 (g101_0_0 v0 v1 v2 v3 v4 v5 x0 x1 x2 x3 x4) (g101_0_1 v0 v1 v2 v3 v4 v5 x0 x1 x2 x3 x4) (g101_0_2 v0 v1 v2 v3 v4 v5 x0 x1 x2 x3 x4) (g101_0_3 v0 v1 v2 v3 v4 v5 x0 x1 x2 x3 x4) (g101_0_4 v0 v1 v2 v3 v4 v5 x0 x1 x2 x3 x4) (g101_0_5 v0 v1 v2 v3 v4 v5 x0 x1 x2 x3 x4) (i:Int) f s)else s))):=by unfold g1052_m11;rw[p0,p1,p2,p3,p4,p5,e3,e2]
 have r0:g1052_0 x0 x1 x2 x3 x4 now s=(bif(g1052_p12 x0 x1 x2 x3 x4 s)then(g101_1_0 v0 v1 v2 v3 v4 v5 x0 x1 x2 x3 x4)else 6):=by unfold g1052_0;rw[c22,c19,mm,p0,p1,p2,p3,p4,p5];rfl
 have r1:g1052_1 x0 x1 x2 x3 x4 s=(bif(g1052_p12 x0 x1 x2 x3 x4 s)then(g101_1_1 v0 v1 v2 v3 v4 v5 x0 x1 x2 x3 x4)else⟨#[]⟩):=by unfold g1052_1;rw[c22,c19,mm,p0,p1,p2,p3,p4,p5];rfl
 have r2:g1052_2 x0 x1 x2 x3 x4 now s=(bif(g1052_p12 x0 x1 x2 x3 x4 s)then(g101_1_2 v0 v1 v2 v3 v4 v5 x0 x1 x2 x3 x4)else 0):=by unfold g1052_2;rw[c22,c19,mm,p0,p1,p2,p3,p4,p5];rfl
 have r3:g1052_3 x0 x1 x2 x3 x4 s=(bif(g1052_p12 x0 x1 x2 x3 x4 s)then(g101_1_3 v0 v1 v2 v3 v4 v5 x0 x1 x2 x3 x4)else nilSl):=by unfold g1052_3;rw[c22,c19,mm,p0,p1,p2,p3,p4,p5];rfl
 have re:g1052_h2_0 x0 x1 x2 x3 x4 now s=(bif(g1052_p12 x0 x1 x2 x3 x4 s)then(g1052_m11 x0 x1 x2 x3 x4 s)else s):=by unfold g1052_h2_0;rw[c22,c19,mm];rfl
 have w4:g1115_m4 t x0 x1=(bif(x0==1)then 0 else un):=by unfold g1115_m4;rw[q6]
 obtain⟨O,hO⟩: ∃O,O=g1163_1 t x1 (g190_0_0 v0 v1 v2 v3 v4 v5 x0 x2 x3 x4) (g190_0_1 v0 v1 v2 v3 v4 v5 x0 x2 x3 x4) (g190_0_2 v0 v1 v2 v3 v4 v5 x0 x2 x3 x4) (g190_0_3 v0 v1 v2 v3 v4 v5 x0 x2 x3 x4) (g190_0_4 v0 v1 v2 v3 v4 v5 x0 x2 x3 x4) (g190_0_5 v0 v1 v2 v3 v4 v5 x0 x2 x3 x4) (g1115_m4 t x0 x1):=⟨_,rfl⟩
 have u0:g1115_1_0 now t x0 x1 x2 x3 x4=(bif(g190_1_0 v0 v1 v2 v3 v4 v5 x0 x2 x3 x4 !=0)then(g190_1_0 v0 v1 v2 v3 v4 v5 x0 x2 x3 x4)else(bif decide ((O.n:Int)>12)then 6 else(g190_1_0 v0 v1 v2 v3 v4 v5 x0 x2 x3 x4))):=by unfold g1115_1_0;rw[c22,c19,mm',q0,q1,q2,q3,q4,q5,←hO];rfl
 have u1:g1115_1_1 t x0 x1 x2 x3 x4=(bif(g190_1_0 v0 v1 v2 v3 v4 v5 x0 x2 x3 x4 !=0)then(g190_1_1 v0 v1 v2 v3 v4 v5 x0 x2 x3)else(bif decide ((O.n:Int)>12)then⟨#[]⟩else(g190_1_1 v0 v1 v2 v3 v4 v5 x0 x2 x3))):=by unfold g1115_1_1;rw[c22,c19,mm',q0,q1,q2,q3,q4,q5,←hO];rfl
 have u2:g1115_1_2 now t x0 x1 x2 x3 x4=(bif(g190_1_0 v0 v1 v2 v3 v4 v5 x0 x2 x3 x4 !=0)then(g190_1_2 v0 v1 v2 v3 v4 v5 x0 x2 x3 x4)else(bif decide ((O.n:Int)>12)then 0 else(g190_1_2 v0 v1 v2 v3 v4 v5 x0 x2 x3 x4))):=by unfold g1115_1_2;rw[c22,c19,mm',q0,q1,q2,q3,q4,q5,←hO];rfl
 have u3:g1115_1_3 t x0 x1 x2 x3 x4=(bif(g190_1_0 v0 v1 v2 v3 v4 v5 x0 x2 x3 x4 !=0)then(g190_1_3 v0 v1 v2 v3 v4 v5 x0)else(bif decide ((O.n:Int)>12)then nilSl else(g190_1_3 v0 v1 v2 v3 v4 v5 x0))):=by unfold g1115_1_3;rw[c22,c19,mm',q0,q1,q2,q3,q4,q5,←hO];rfl
 have ue:g1115_0_1 now t x0 x1 x2 x3 x4=(bif(g190_1_0 v0 v1 v2 v3 v4 v5 x0 x2 x3 x4 !=0)then t else(bif decide ((O.n:Int)>12)then t else O)):=by unfold g1115_0_1;rw[c22,c19,mm',q0,q1,q2,q3,q4,q5,←hO];rfl
 have uw:g1115_0_0 now t x0 x1 x2 x3 x4=now:=by
  unfold g1115_0_0;rw[c22,c19,mm',q0,q1,q2,q3,q4,q5,←hO]
  unfold g1163_0
  cases (g190_1_0 v0 v1 v2 v3 v4 v5 x0 x2 x3 x4 !=0)<;>cases decide ((O.n:Int)>12)<;>rfl
 have hl3:(g1052_3 x0 x1 x2 x3 x4 s).n≤60:=by rw[r3];exact bif_le V.lr (Nat.zero_le _)
 rw[←V.c0]at u0 u1 u2 u3 ue
 rw[←V.c1]at u1
 rw[←V.c2]at u2
 have V0:=V.b0
 cases ec:(g101_1_0 v0 v1 v2 v3 v4 v5 x0 x1 x2 x3 x4 !=0)with
 |true=>
  rw[ec]at rp r11 u0 u1 u2 u3 ue
  rw[rp]at r0 r1 r2 r3 re
  refine⟨by rw[r0,u0];rfl,by rw[r1,u1];rfl,by rw[r2,u2];rfl,by rw[r3,u3];exact V.c3,?_,uw,hl3⟩
  rw[re,ue,r11]
  show s.B.map cE=t.B.map cE
  rw[hB]
 |false=>
  have ec0:=bne_eq_false_iff_eq.1 ec
  rw[ec]at rp r11 u0 u1 u2 u3 ue
  cases ez:(g101_0_0 v0 v1 v2 v3 v4 v5 x0 x1 x2 x3 x4==0)with
  |true=>
   have ez0:=eq_of_beq ez
   have hf:f=true:=by
    cases f with
    |true=>rfl
    |false=>exact absurd ez0 (hcr rfl ec0)
   subst hf
   rw[ez]at r9
   rw[r9]at rp r11
   have hO2:O.B=t.B.take i++t.B.drop (i+1):=by
    rw[hO,←V0,ez0]
    exact ht.out _ _ _ _ _ _
   have hi:=(ht.hit rfl).1
   have hOn:O.n=t.n-1:=by
    have:=congrArg List.length hO2
    rw[B_len,List.length_append,List.length_take,List.length_drop,B_len]at this
    omega
   have eO:decide ((O.n:Int)>12)=false:=decide_eq_false (by omega)
   rw[eO]at u0 u1 u2 u3 ue
   rw[rp]at r0 r1 r2 r3 re
   refine⟨by rw[r0,u0];rfl,by rw[r1,u1];rfl,by rw[r2,u2];rfl,by rw[r3,u3];exact V.c3,?_,uw,hl3⟩
   rw[re,ue,r11]
   show(g1107_h2_0 (i:Int) s).B.map cE=O.B.map cE
   rw[del_i i s (by omega) (by omega),hO2,hB]
  |false=>
   have ez0:g101_0_0 v0 v1 v2 v3 v4 v5 x0 x1 x2 x3 x4≠0:=beq_eq_false_iff_ne.1 ez
   have ezn:(g101_0_0 v0 v1 v2 v3 v4 v5 x0 x1 x2 x3 x4 !=0)=true:=bne_iff_ne.2 ez0
   rw[ez]at r9
   rw[r9,ezn]at r11
   rw[r9,r10]at rp
   have hO2:O.B=t.B.take i++⟨x1,(g190_0_0 v0 v1 v2 v3 v4 v5 x0 x2 x3 x4),(g190_0_1 v0 v1 v2 v3 v4 v5 x0 x2 x3 x4),(g190_0_2 v0 v1 v2 v3 v4 v5 x0 x2 x3 x4),(g190_0_3 v0 v1 v2 v3 v4 v5 x0 x2 x3 x4),(g190_0_4 v0 v1 v2 v3 v4 v5 x0 x2 x3 x4),(g190_0_5 v0 v1 v2 v3 v4 v5 x0 x2 x3 x4),(g1115_m4 t x0 x1)⟩::t.B.drop (bif f then i+1 else i):=by
    rw[hO]
    exact ht.put _ _ _ _ _ _ _ (by rw[←V0];exact ez0)
   have hOn:O.n=bif f then t.n else t.n+1:=by
    have h1:=congrArg List.length hO2
    have h2:=ht.le
    rw[B_len,List.length_append,List.length_cons,List.length_take,List.length_drop,B_len]at h1
    cases f with
    |true=>
     have:=(ht.hit rfl).1
     simp only[cond_true]at h1 ⊢
     omega
    |false=>
     simp only[cond_false]at h1 ⊢
     omega
   have hset:=set_B x0 x1 (g101_0_0 v0 v1 v2 v3 v4 v5 x0 x1 x2 x3 x4) (g101_0_1 v0 v1 v2 v3 v4 v5 x0 x1 x2 x3 x4) (g101_0_2 v0 v1 v2 v3 v4 v5 x0 x1 x2 x3 x4) (g101_0_3 v0 v1 v2 v3 v4 v5 x0 x1 x2 x3 x4) (g101_0_4 v0 v1 v2 v3 v4 v5 x0 x1 x2 x3 x4) (g101_0_5 v0 v1 v2 v3 v4 v5 x0 x1 x2 x3 x4) i f s hs.le hs.hit
   have hsame:(g1110_h1_0 x0 x1 (g101_0_0 v0 v1 v2 v3 v4 v5 x0 x1 x2 x3 x4) (g101_0_1 v0 v1 v2 v3 v4 v5 x0 x1 x2 x3 x4) (g101_0_2 v0 v1 v2 v3 v4 v5 x0 x1 x2 x3 x4) (g101_0_3 v0 v1 v2 v3 v4 v5 x0 x1 x2 x3 x4) (g101_0_4 v0 v1 v2 v3 v4 v5 x0 x1 x2 x3 x4) (g101_0_5 v0 v1 v2 v3 v4 v5 x0 x1 x2 x3 x4) (i:Int) f s).B.map cE=O.B.map cE:=by
    rw[hset,hO2]
    refine put_map (by rw[hB]) (by rw[hB]) ?_
    simp only[cE]
    rw[V.b0,V.b1,V.b2,V.b3,V.b4,V.b5,w4]
    have:(bif f then(s.at' i).c7 else 0)=un:=by
     cases f with
     |true=>exact(hun rfl).symm
     |false=>exact(hun0 rfl).symm
    rw[this]
   cases f with
   |true=>
    simp only[cond_true]at hOn
    have eO:decide ((O.n:Int)>12)=false:=decide_eq_false (by omega)
    rw[eO]at u0 u1 u2 u3 ue
    rw[rp]at r0 r1 r2 r3 re
    refine⟨by rw[r0,u0];rfl,by rw[r1,u1];rfl,by rw[r2,u2];rfl,by rw[r3,u3];exact V.c3,?_,uw,hl3⟩
    rw[re,ue,r11]
    exact hsame
   |false=>
    simp only[cond_false]at hOn
    by_cases h12:s.n=12
    ·have eO:decide ((O.n:Int)>12)=true:=decide_eq_true (by omega)
     have eq:((s.n:Int)==12)=true:=beq_iff_eq.2 (by omega)
     rw[eq]at rp
     rw[eO]at u0 u1 u2 u3 ue
     rw[rp]at r0 r1 r2 r3 re
     refine⟨by rw[r0,u0];rfl,by rw[r1,u1];rfl,by rw[r2,u2];rfl,by rw[r3,u3];rfl,?_,uw,hl3⟩
     rw[re,ue]
     show s.B.map cE=t.B.map cE
     rw[hB]
    ·have eO:decide ((O.n:Int)>12)=false:=decide_eq_false (by omega)
     have eq:((s.n:Int)==12)=false:=beq_eq_false_iff_ne.2 (by omega)
     rw[eq]at rp
     rw[eO]at u0 u1 u2 u3 ue
     rw[rp]at r0 r1 r2 r3 re
     refine⟨by rw[r0,u0];rfl,by rw[r1,u1];rfl,by rw[r2,u2];rfl,by rw[r3,u3];exact V.c3,?_,uw,hl3⟩
     rw[re,ue,r11]
     exact hsame
theorem dsAll(a0:g47 x0 x1 x2 x3 x4=0)(h0:0≤now∧now≤1073741824)(hx4: -9223372036854775808≤x4∧x4≤9223372036854775807)(hB:s.B=t.B)(hF:Fit now t):Ds x0 x1 x2 x3 x4 now s t:=by
 have hnt:s.n=t.n:=nB' hB
 have hn:=hF.n
 obtain⟨i,hi⟩:=spot hF.rise x1
 have hi':Spot s.n (fun i=>(s.at' i).c0) x1 i:=⟨by rw[hnt];exact hi.le,fun m hm=>by
  show Op.bytesLess (s.at' m).c0.toList x1.toList=_
  rw[at_of_B hB hm];exact hi.lt m (by omega),fun m hm hne=>by
  show((s.at' m).c0.toList==x1.toList)=false
  rw[at_of_B hB hm];exact hi.ne m (by omega) hne⟩
 have ks:=keyAt s x1 (by omega) hi'
 have kt:=keyAt t x1 (by omega) hi
 have ef:(decide (i<s.n)&&((s.at' i).c0.toList==x1.toList))=(decide (i<t.n)&&((t.at' i).c0.toList==x1.toList)):=by
  by_cases h:i<s.n
  ·rw[decide_eq_true h,decide_eq_true (by omega),at_of_B hB h]
  ·rw[decide_eq_false h,decide_eq_false (by omega)];rfl
 rw[ef]at ks
 generalize (decide (i<t.n)&&((t.at' i).c0.toList==x1.toList))=f at ks kt
 have hk:=kind_lo a0
 by_cases c1:x0=22
 ·subst c1;exact ds22 hB (by omega)
 by_cases c2:x0=19
 ·subst c2;exact ds19 hB hF ks kt
 by_cases c3:x0=20∨x0=21
 ·exact dsTime c3 h0 hx4 hB hF ks kt
 have e3:g1106_h0_3 x1 s=f:=ks.i1
 have e2:g1106_h0_2 x1 s=i:=ks.i0
 have h18:x0≤18:=by omega
 cases f with
 |true=>
  have hit:=(kt.hit rfl).1
  have hat:s.at' i=t.at' i:=at_of_B hB (by omega)
  obtain⟨o0,o1,o2,o3,o4,o5,o6⟩:=old1 kt
  have g:=hF.ok i hit
  obtain⟨z1,z2,z3⟩:=hF.sz i hit
  refine dsVal h18 a0 hB hF ks kt (t.at' i).c1 (t.at' i).c2 (t.at' i).c3 (t.at' i).c4 (t.at' i).c5 (t.at' i).c6 (t.at' i).c7 ?_ ?_ ?_ ?_ ?_ ?_ o0 o1 o2 o3 o4 o5 o6 (fun _=>by rw[hat]) (fun h=>by cases h) (fun h=>by cases h) z1 z2 z3 ?_
  ·unfold g1052_m3;rw[e3,e2,Int.toNat_natCast,hat];rfl
  ·unfold g1052_m4;rw[e3,e2,Int.toNat_natCast,hat];rfl
  ·unfold g1052_m5;rw[e3,e2,Int.toNat_natCast,hat];rfl
  ·unfold g1052_m6;rw[e3,e2,Int.toNat_natCast,hat];rfl
  ·unfold g1052_m7;rw[e3,e2,Int.toNat_natCast,hat];rfl
  ·unfold g1052_m8;rw[e3,e2,Int.toNat_natCast,hat];rfl
  ·unfold g101_m2;rw[g];rfl
 |false=>
  obtain⟨o0,o1,o2,o3,o4,o5,o6⟩:=old0 kt
  refine dsVal h18 a0 hB hF ks kt 0 ⟨#[]⟩ 0 nilSl nilSl nilSl 0 ?_ ?_ ?_ ?_ ?_ ?_ o0 o1 o2 o3 o4 o5 o6 (fun h=>by cases h) (fun _=>rfl) (fun _=>created a0 h18) (Nat.zero_le _) (Nat.zero_le _) (Nat.zero_le _) ?_
  ·unfold g1052_m3;rw[e3];rfl
  ·unfold g1052_m4;rw[e3];rfl
  ·unfold g1052_m5;rw[e3];rfl
  ·unfold g1052_m6;rw[e3];rfl
  ·unfold g1052_m7;rw[e3];rfl
  ·unfold g1052_m8;rw[e3];rfl
  ·unfold g101_m2
   rw[show g101_m1 0 ⟨#[]⟩ 0 (nilSl:Sl T160) (nilSl:Sl ByteArray) (nilSl:Sl T164)=true by decide+kernel]
   cases (g72 0 ⟨#[]⟩ 0 (nilSl:Sl T160) (nilSl:Sl ByteArray) (nilSl:Sl T164)!=0)<;>rfl
end
end Go.Proofs.YtfbpilmhnpkfhaaGreatDoor
/-
  Walks: what functions of the program answer, as functions.
-/
namespace Go.Proofs.YtfbpilmhnpkfhaaGreatDoor
open Go Go.Vc Go.RowKit
set_option maxRecDepth 100000
set_option maxHeartbeats 4000000
noncomputable def g1056_m1(x0:Int)(x2:Int):Int:=(bif(decide (x2>x0))then x2 else x0)
noncomputable def g1056_m3(x0:Int)(x1:Sl T175)(x2:Int)(v3_0:Int):Bool:=(bif((x1.at' (Int.toNat v3_0)).c7==0)then true else(decide ((x1.at' (Int.toNat v3_0)).c7>(g1056_m1 x0 x2))))
noncomputable def g1056_m4(x0:Int)(x1:Sl T175)(x2:Int)(v3_0:Int)(v3_1:Sl T175):Sl T175:=(bif(g1056_m3 x0 x1 x2 v3_0)then(Sl.app v3_1 (Sl.lit ([(x1.at' (Int.toNat v3_0))]:List T175)))else v3_1)
noncomputable def g1056_l3(x0:Int)(x1:Sl T175)(x2:Int):Nat→Int→Sl T175→Sl T175
 |0,_,_=>default
 |k+1,v3_0,v3_1=>(bif(decide (v3_0<(x1.n:Int)))then(g1056_l3 x0 x1 x2 k (IntKind.i64.wrap (v3_0+1)) (g1056_m4 x0 x1 x2 v3_0 v3_1))else v3_1)
noncomputable def g1056_r5(x0:Int)(x1:Sl T175)(x2:Int):Sl T175:=g1056_l3 x0 x1 x2 ((Int.toNat ((x1.n:Int)-0))+1) 0 (nilSl:Sl T175)
noncomputable def g1056_0_0(x0:Int)(x1:Sl T175)(x2:Int)(x3:Int)(x4:ByteArray)(x5:ByteArray)(x6:ByteArray)(x7:Int):Int:=(g1115_0_0 (g1056_m1 x0 x2) (g1056_r5 x0 x1 x2) x3 x4 x5 x6 x7)
noncomputable def g1056_0_1(x0:Int)(x1:Sl T175)(x2:Int)(x3:Int)(x4:ByteArray)(x5:ByteArray)(x6:ByteArray)(x7:Int):Sl T175:=(g1115_0_1 (g1056_m1 x0 x2) (g1056_r5 x0 x1 x2) x3 x4 x5 x6 x7)
noncomputable def g1056_1_0(x0:Int)(x1:Sl T175)(x2:Int)(x3:Int)(x4:ByteArray)(x5:ByteArray)(x6:ByteArray)(x7:Int):Int:=(g1115_1_0 (g1056_m1 x0 x2) (g1056_r5 x0 x1 x2) x3 x4 x5 x6 x7)
noncomputable def g1056_1_1(x0:Int)(x1:Sl T175)(x2:Int)(x3:Int)(x4:ByteArray)(x5:ByteArray)(x6:ByteArray)(x7:Int):ByteArray:=(g1115_1_1 (g1056_r5 x0 x1 x2) x3 x4 x5 x6 x7)
noncomputable def g1056_1_2(x0:Int)(x1:Sl T175)(x2:Int)(x3:Int)(x4:ByteArray)(x5:ByteArray)(x6:ByteArray)(x7:Int):Int:=(g1115_1_2 (g1056_m1 x0 x2) (g1056_r5 x0 x1 x2) x3 x4 x5 x6 x7)
noncomputable def g1056_1_3(x0:Int)(x1:Sl T175)(x2:Int)(x3:Int)(x4:ByteArray)(x5:ByteArray)(x6:ByteArray)(x7:Int):Sl ByteArray:=(g1115_1_3 (g1056_r5 x0 x1 x2) x3 x4 x5 x6 x7)
theorem n1056(x0:Int)(x1:Sl T175)(x2:Int)(i:Int)(s:Sl T175):(((g1056_m4 x0 x1 x2 i s).n:Nat):Int)≤s.n+1:=by
 unfold g1056_m4;cases g1056_m3 x0 x1 x2 i
 ·show((s.n:Nat):Int)≤_;omega
 ·show(((s.n+1:Nat)):Int)≤_;omega
theorem sv1056a(x0:Int)(x1:Sl T175)(x2:Int)(h:SV x1): ∀(m k:Nat) (i:Int) (s:Sl T175),0≤i→i+(m:Int)=x1.n→m≤k→((s.n:Nat):Int)≤i→(∀t,t<s.n→(s.at' t).c4.n≤1000000∧(s.at' t).c5.n≤1000000∧(s.at' t).c6.n≤1000000∧((s.at' t).c1≠4∨1≤(s.at' t).c5.n))→SV (g1056_l3 x0 x1 x2 (k+1) i s)
 |0,k,i,s,h0,hi,hk,hs,hg=>by
  show SV (bif decide (i<(x1.n:Int))then _ else s)
  rw[show decide (i<(x1.n:Int))=false by simp;omega]
  have hb:=h.1
  exact(show SV s from⟨by omega,hg⟩)
 |m+1,k,i,s,h0,hi,hk,hs,hg=>by
  obtain⟨k,rfl⟩: ∃k',k=k'+1:=⟨k-1,by omega⟩
  show SV (bif decide (i<(x1.n:Int))then g1056_l3 x0 x1 x2 (k+1) (IntKind.i64.wrap (i+1)) (g1056_m4 x0 x1 x2 i s)else s)
  rw[show decide (i<(x1.n:Int))=true by simp;omega]
  simp only[cond_true]
  have hb:=h.1
  rw[wrap64 (by omega) (by omega)]
  refine sv1056a x0 x1 x2 h m k (i+1) _ (by omega) (by omega) (by omega) (by have:=n1056 x0 x1 x2 i s;omega) ?_
  unfold g1056_m4
  cases g1056_m3 x0 x1 x2 i with
  |false=>exact hg
  |true=>
   intro t ht
   simp only[cond_true]at ht ⊢
   have ht:t<s.n+1:=ht
   by_cases e:t<s.n
   ·rw[show(Sl.app s (Sl.lit [x1.at' (Int.toNat i)])).at' t=s.at' t by simp [Sl.app,blt_t e]]
    exact hg t e
   ·rw[show(Sl.app s (Sl.lit [x1.at' (Int.toNat i)])).at' t=x1.at' (Int.toNat i) by simp [Sl.app,blt_f (show s.n≤t by omega),show t-s.n=0 by omega,Sl.lit]]
    exact h.2 (Int.toNat i) (by omega)
theorem sv1056{x0:Int}{x1:Sl T175}{x2:Int}(h:SV x1):SV (g1056_r5 x0 x1 x2):=
 sv1056a x0 x1 x2 h x1.n _ 0 nilSl (Int.le_refl _) (by omega) (by omega) (Int.le_refl _) fun t ht=>absurd ht (Nat.not_lt_zero t)
noncomputable def F1056:Fq:=⟨[.g [kI,.sl E175],.v kI,.g [kI,kS,kS,kS,kI]],fun(x0:Int) x1 (x2:Int) (x3:Int) x4 x5 x6 (x7:Int)=>⟨⟨some (SV x1∧x1.n≤1000000),.tup [.agg [.int .i64 (g1056_0_0 x0 x1 x2 x3 x4 x5 x6 x7),ofSl 8 e175 (g1056_0_1 x0 x1 x2 x3 x4 x5 x6 x7)],.agg [.int .i64 (g1056_1_0 x0 x1 x2 x3 x4 x5 x6 x7),.str (g1056_1_1 x0 x1 x2 x3 x4 x5 x6 x7),.int .i64 (g1056_1_2 x0 x1 x2 x3 x4 x5 x6 x7),ofSl 1 e9 (g1056_1_3 x0 x1 x2 x3 x4 x5 x6 x7)]]⟩⟩⟩
theorem pc1056:FnOk Tryz.prog 40 F1056.sh _ (F1056.sh.flatMap Sh.bs) F1056.f []:=
 fun(x0:Int) x1 n1 _ (x2:Int) (x3:Int) x4 n4 x5 n5 x6 n6 (x7:Int) hp=>pure_of_exec (X:=(mkX [(61,F1115.ans)])) (R:=⟨.pure,[.cell 6 24,.cell 7 36],[(.c 0 0,kI),(.c 0 1,.sl E175),(.c 1 0,kI),(.c 1 1,kS),(.c 1 2,kI),(.c 1 3,.sl E9)],⟨[.agg (us 2 []),.agg (us 4 [])],[]⟩⟩) (h:=(.s .z (.s .z (.j ⟨488,[],[(.h 4 0,kI)],[],.f⟩ .z (.j ⟨480,[],[],[],.f⟩ (.s .z (.lp ⟨1000,[],[(.h 4 1,E175)],[(.t 9,kI),(.h 5 0,.blk E175)],some 0,false,480,[.b 0],[(.h 5 0,.blk E175)],fun k (s:Int×Sl T175)=>g1056_l3 x0 x1 x2 k s.1 s.2,.f,fun(s:Int×Sl T175)=>((0≤s.1∧s.1≤(x1.n:Int))∧((s.2.n:Nat):Int)≤0+(s.1-0)),fun(s:Int×Sl T175)=>(Int.toNat ((x1.n:Int)-s.1)),some fun(r:Sl T175)=>((r.n:Nat):Int)≤0+max ((x1.n:Int)-0) 0⟩ (.s .z (.j ⟨35252888142824,[.b 6],[(.h 5 0,.blk E175)],[],.f⟩ (.j ⟨35252888142824,[],[(.t 35,kB),(.t 45,kB)],[],.f⟩ .z .z) .z)))) .z))))) (ms:=[]) (p:=(((((0≤(0:Int)∧(0:Int)≤(x1.n:Int))∧((0:Nat):Int)≤0+((0:Int)-0)))∧(∀(v3_0:Int) (v3_1:Sl T175),((0≤v3_0∧v3_0≤(x1.n:Int))∧((v3_1.n:Nat):Int)≤0+(v3_0-0))→(((decide (v3_0<(x1.n:Int)))=true→((((0:Int)≤v3_0∧v3_0<((x1.n:Nat):Int))∧(((x1.at' (Int.toNat v3_0)).c7==0)=false→((0:Int)≤v3_0∧v3_0<((x1.n:Nat):Int))))∧((g1056_m3 x0 x1 x2 v3_0)=true→(((0:Int)≤v3_0∧v3_0<((x1.n:Nat):Int))∧(v3_1.n+1≤549755813888)))))∧(((decide (v3_0<(x1.n:Int)))=true→(((0≤(IntKind.i64.wrap (v3_0+1))∧(IntKind.i64.wrap (v3_0+1))≤(x1.n:Int))∧(((g1056_m4 x0 x1 x2 v3_0 v3_1).n:Nat):Int)≤0+((IntKind.i64.wrap (v3_0+1))-0))∧(Int.toNat ((x1.n:Int)- (IntKind.i64.wrap (v3_0+1))))<(Int.toNat ((x1.n:Int)-v3_0))))∧((decide (v3_0<(x1.n:Int)))=false→(((v3_1.n:Nat):Int)≤0+max ((x1.n:Int)-0) 0))))))∧(((((g1056_r5 x0 x1 x2).n:Nat):Int)≤0+max ((x1.n:Int)-0) 0)→(SV (g1056_r5 x0 x1 x2)∧(g1056_r5 x0 x1 x2).n≤1000000)))) (mkX_ok ⟨k1115,trivial⟩) Tryz.func40 rfl rfl (by kernel_rfl) (have⟨hq0,hq1⟩:=hp;⟨⟨(by omega),(fun v3_0 v3_1 hI1=>⟨(fun h2=>⟨⟨(by have:=of_decide_eq_true h2;omega),(fun h3=>(by have:=of_decide_eq_true h2;have:=ne_of_beq_false h3;omega))⟩,(fun h4=>⟨(by have:=of_decide_eq_true h2;have:=h4;(try simp [g1056_m3]at this);omega),(by have:=of_decide_eq_true h2;have:=h4;(try simp [g1056_m3]at this);omega)⟩)⟩),⟨(fun h5=>(by have:=of_decide_eq_true h5;have:=n1056 x0 x1 x2 v3_0 v3_1;first|omega|(have:=wrap64 (x:=(v3_0+1)) (by omega) (by omega);omega))),(fun h6=>(by have:=of_decide_eq_false h6;omega))⟩⟩)⟩,(fun hF7=>⟨(by repeat first|assumption|apply sv1056|apply th1106|apply ce85|apply cc85'|apply vok_t|apply rmok|apply And.intro|apply ce95|apply cc95),(by omega)⟩)⟩)
theorem k1056:XOk Tryz.prog 40 F1056.ans:=Fq.ok ⟨_,_,Tryz.func40,rfl,by kernel_rfl⟩ pc1056
end Go.Proofs.YtfbpilmhnpkfhaaGreatDoor
/-
  Walks: what functions of the program answer, as functions.
-/
namespace Go.Proofs.YtfbpilmhnpkfhaaGreatDoor
open Go Go.Vc Go.RowKit
set_option maxRecDepth 100000
set_option maxHeartbeats 4000000
noncomputable def g1051p_m1(x7:Int)(x8:Int):Bool:=(bif(x7 !=0)then(decide (x7≤x8))else false)
noncomputable def g1051p(x7:Int)(x8:Int):Bool:=(g1051p_m1 x7 x8)
noncomputable def F1051p:Hq:=⟨[.g [kS,kI,kS,kI,.sl E160,.sl E9,.sl E164,kI],.p 0],[(.h 1 0,kI),(.h 1 2,kI),(.h 1 3,kB)],[[.ptr 1 0],[U,.gone,U,U]],fun _ _ _ _ _ _ _ x7 x8 x9 x10=>⟨⟨none,[.bool (g1051p x7 x8)],[[.ptr 1 0],[.int .i64 x8,.gone,.int .i64 x9,.bool x10]]⟩⟩⟩
theorem pc1051p:HqOk Tryz.prog 32 F1051p _ (F1051p.sh.flatMap Sh.bs) F1051p.f []:=
 fun x0 _ (x1:Int) x2 _ (x3:Int) x4 _ x5 _ x6 _ (x7:Int) (x8:Int) (x9:Int) x10=>heap_of_exec (X:=(mkXh 2 [] [])) (R:=⟨.heap,[.tmp 3],[(.t 0,kB),(.h 1 0,kI),(.h 1 2,kI),(.h 1 3,kB)],⟨[U],[[.ptr 1 0],[U,.gone,U,U]]⟩⟩) (h:=(.s .z (.j ⟨8,[.b 2],[(.t 3,kB)],[],.f⟩ .z .z))) (ms:=[]) (p:=True) (mkXh_ok trivial trivial) Tryz.func32 rfl rfl rfl (by kernel_rfl) (trivial)
theorem k1051p:XHOk Tryz.prog 32 F1051p.ans:=Hq.ok ⟨_,_,Tryz.func32,rfl,by kernel_rfl⟩ (by kernel_rfl) pc1051p
end Go.Proofs.YtfbpilmhnpkfhaaGreatDoor
/-
  Walks: what functions of the program answer, as functions.
-/
namespace Go.Proofs.YtfbpilmhnpkfhaaGreatDoor
open Go Go.Vc Go.RowKit
set_option maxRecDepth 100000
set_option maxHeartbeats 4000000
noncomputable def g1105_1051p_l1(x0:Int)(x1:Int)(x2:Bool)(x3:Sl T175):Nat→Int→Bool×Int×Int×Int×Bool×Sl T175
 |0,_=>default
 |k+1,v1_0=>(bif(decide (v1_0<((x3.n:Nat):Int)))then(bif(g1051p (x3.at' (Int.toNat v1_0)).c7 x0)then(true,v1_0,x0,x1,x2,x3)else(g1105_1051p_l1 x0 x1 x2 x3 k (IntKind.i64.wrap (v1_0+1))))else(false,default,default,default,default,default))
noncomputable def g1105_1051p_r1(x0:Int)(x1:Int)(x2:Bool)(x3:Sl T175):Bool×Int×Int×Int×Bool×Sl T175:=g1105_1051p_l1 x0 x1 x2 x3 ((Int.toNat (((x3.n:Nat):Int)-0))+1) 0
noncomputable def g1105_1051p_p2(x0:Int)(x1:Int)(x2:Bool)(x3:Sl T175):Bool:=(bif(g1105_1051p_r1 x0 x1 x2 x3).1 then false else true)
noncomputable def g1105_1051p(x0:Int)(x1:Int)(x2:Bool)(x3:Sl T175):Int:=(bif(g1105_1051p_p2 x0 x1 x2 x3)then(-1)else(g1105_1051p_r1 x0 x1 x2 x3).2.1)
noncomputable def g1105_1051p_h1_0(x0:Int)(x1:Int)(x2:Bool)(x3:Sl T175):Int:=(bif(g1105_1051p_p2 x0 x1 x2 x3)then x0 else(g1105_1051p_r1 x0 x1 x2 x3).2.2.1)
noncomputable def g1105_1051p_h1_2(x0:Int)(x1:Int)(x2:Bool)(x3:Sl T175):Int:=(bif(g1105_1051p_p2 x0 x1 x2 x3)then x1 else(g1105_1051p_r1 x0 x1 x2 x3).2.2.2.1)
noncomputable def g1105_1051p_h1_3(x0:Int)(x1:Int)(x2:Bool)(x3:Sl T175):Bool:=(bif(g1105_1051p_p2 x0 x1 x2 x3)then x2 else(g1105_1051p_r1 x0 x1 x2 x3).2.2.2.2.1)
noncomputable def g1105_1051p_h2_0(x0:Int)(x1:Int)(x2:Bool)(x3:Sl T175):Sl T175:=(bif(g1105_1051p_p2 x0 x1 x2 x3)then x3 else(g1105_1051p_r1 x0 x1 x2 x3).2.2.2.2.2)
theorem hcall_of{P:Program}{f:FuncId}{xs:List AV}{H:Heap}{rs rs2:List AV}{H' H2:Heap}(h:HCall P f xs H rs H')(e1:rs=rs2)(e2:H'=H2):HCall P f xs H rs2 H2:=by subst e1 e2;exact h
theorem l1105_1051p(x0:Int)(x1:Int)(x2:Bool)(x3:Sl T175)(hn:x3.n≤549755813888): ∀(m fu i:Nat),i+m=x3.n→m≤fu→(g1105_1051p_l1 x0 x1 x2 x3 (fu+1) (i:Int)=(false,default,default,default,default,default)∧ ∀t,i≤t→t<x3.n→g1051p (x3.at' t).c7 x0=false)∨ ∃t,i≤t∧t<x3.n∧g1105_1051p_l1 x0 x1 x2 x3 (fu+1) (i:Int)=(true,(t:Int),x0,x1,x2,x3)∧g1051p (x3.at' t).c7 x0=true∧ ∀u,i≤u→u<t→g1051p (x3.at' u).c7 x0=false
 |0,fu,i,hi,_=>by
  refine .inl ⟨?_,fun t h1 h2=>by omega⟩
  show(bif(decide ((i:Int)<((x3.n:Nat):Int)))then _ else _)=_
  rw[decide_eq_false (by omega)];rfl
 |m+1,fu,i,hi,hf=>by
  obtain⟨fu,rfl⟩: ∃q,fu=q+1:=⟨fu-1,by omega⟩
  have e:g1105_1051p_l1 x0 x1 x2 x3 (fu+1+1) (i:Int)=(bif(g1051p (x3.at' i).c7 x0)then(true,(i:Int),x0,x1,x2,x3)else g1105_1051p_l1 x0 x1 x2 x3 (fu+1) ((i+1:Nat):Int)):=by
   show(bif(decide ((i:Int)<((x3.n:Nat):Int)))then _ else _)=_
   rw[decide_eq_true (by omega),Int.toNat_natCast,wrap64 (by omega) (by omega)]
   rfl
  rw[e]
  cases g:g1051p (x3.at' i).c7 x0 with
  |true=>exact .inr ⟨i,Nat.le_refl _,by omega,rfl,g,fun u h1 h2=>by omega⟩
  |false=>
   rcases l1105_1051p x0 x1 x2 x3 hn m fu (i+1) (by omega) (by omega)with⟨h1,h2⟩|⟨t,h1,h2,h3,h4,h5⟩
   ·refine .inl ⟨h1,fun t a b=> ?_⟩
    by_cases q:t=i
    ·subst q;exact g
    ·exact h2 t (by omega) b
   ·refine .inr ⟨t,by omega,h2,h3,h4,fun u a b=> ?_⟩
    by_cases q:u=i
    ·subst q;exact g
    ·exact h5 u (by omega) b
theorem r1105_1051p(x0:Int)(x1:Int)(x2:Bool)(x3:Sl T175)(hn:x3.n≤549755813888):(g1105_1051p_h1_0 x0 x1 x2 x3=x0∧g1105_1051p_h1_2 x0 x1 x2 x3=x1∧g1105_1051p_h1_3 x0 x1 x2 x3=x2∧g1105_1051p_h2_0 x0 x1 x2 x3=x3)∧
  ((g1105_1051p x0 x1 x2 x3= -1∧ ∀t,t<x3.n→g1051p (x3.at' t).c7 x0=false)∨ ∃t:Nat,t<x3.n∧g1105_1051p x0 x1 x2 x3=(t:Int)∧g1051p (x3.at' t).c7 x0=true∧ ∀u,u<t→g1051p (x3.at' u).c7 x0=false):=by
 unfold g1105_1051p_h1_0 g1105_1051p_h1_2 g1105_1051p_h1_3 g1105_1051p_h2_0 g1105_1051p g1105_1051p_p2 g1105_1051p_r1
 rcases l1105_1051p x0 x1 x2 x3 hn x3.n (Int.toNat (((x3.n:Nat):Int)-0)) 0 (by omega) (by omega)with⟨h1,h2⟩|⟨t,h1,h2,h3,h4,h5⟩
 ·rw[show g1105_1051p_l1 x0 x1 x2 x3 (Int.toNat (((x3.n:Nat):Int)-0)+1) 0=_ from h1]
  exact⟨⟨rfl,rfl,rfl,rfl⟩,.inl ⟨rfl,fun t ht=>h2 t (Nat.zero_le _) ht⟩⟩
 ·rw[show g1105_1051p_l1 x0 x1 x2 x3 (Int.toNat (((x3.n:Nat):Int)-0)+1) 0=_ from h3]
  exact⟨⟨rfl,rfl,rfl,rfl⟩,.inr ⟨t,h2,rfl,h4,fun u hu=>h5 u (Nat.zero_le _) hu⟩⟩
theorem f1105_1051p(x0:Int)(x1:Int)(x2:Bool)(x3:Sl T175)(hn:x3.n≤549755813888): -1≤g1105_1051p x0 x1 x2 x3∧g1105_1051p x0 x1 x2 x3<((x3.n:Nat):Int):=by
 rcases(r1105_1051p x0 x1 x2 x3 hn).2 with⟨h,_⟩|⟨t,h1,h,_⟩<;>rw[h]<;>omega
noncomputable def F1105_1051p:Hq:=⟨[.o 2,.fp 32 [0]],[(.h 1 0,kI),(.h 1 2,kI),(.h 1 3,kB),(.h 2 0,.blk E175)],[[.ptr 1 0],[U,.gone,U,U],[U]],fun x0 x1 x2 x3=>⟨⟨none,[.int .i64 (g1105_1051p x0 x1 x2 x3)],[[.ptr 1 0],[.int .i64 x0,.gone,.int .i64 x1,.bool x2],[(Kd.blk E175).av x3]]⟩⟩⟩
theorem pc1105_1051p:HqOk Tryz.prog 51 F1105_1051p _ (F1105_1051p.sh.flatMap Sh.bs) F1105_1051p.f []:=
 fun(x0:Int) (x1:Int) x2 x3 n3=>have⟨e0,e1,e2,e3⟩:=(r1105_1051p x0 x1 x2 x3 n3).1;hcall_of (rs:=[.int .i64 (g1105_1051p x0 x1 x2 x3)]) (H':=[[.ptr 1 0],[.int .i64 (g1105_1051p_h1_0 x0 x1 x2 x3),.gone,.int .i64 (g1105_1051p_h1_2 x0 x1 x2 x3),.bool (g1105_1051p_h1_3 x0 x1 x2 x3)],[(Kd.blk E175).av (g1105_1051p_h2_0 x0 x1 x2 x3)]]) (heap_of_exec (X:=(mkXh 3 [] [(32,F1051p.ans)])) (R:=⟨.heap,[.tmp 4],[(.t 0,kI),(.h 1 0,kI),(.h 1 2,kI),(.h 1 3,kB),(.h 2 0,.blk E175)],⟨[U],[[.ptr 1 0],[U,.gone,U,U],[U]]⟩⟩) (h:=(.s .z (.j ⟨16,[],[],[],.f⟩ (.s .z (.lp ⟨403,[],[],[(.t 8,kI)],some 0,true,16,[],[],fun k (s:Int)=>g1105_1051p_l1 x0 x1 x2 x3 k s,.f,fun(s:Int)=>(0≤s∧s≤((x3.n:Nat):Int)),fun(s:Int)=>(Int.toNat (((x3.n:Nat):Int)-s)),none⟩ .z)) .z))) (ms:=[]) (p:=(((0≤(0:Int)∧(0:Int)≤((x3.n:Nat):Int)))∧(∀(v1_0:Int),(0≤v1_0∧v1_0≤((x3.n:Nat):Int))→(((decide (v1_0<((x3.n:Nat):Int)))=true→(((0:Int)≤v1_0∧v1_0<((x3.n:Nat):Int))∧((Int.toNat v1_0)<x3.n)))∧((decide (v1_0<((x3.n:Nat):Int)))=true→((g1051p (x3.at' (Int.toNat v1_0)).c7 x0)=false→((0≤(IntKind.i64.wrap (v1_0+1))∧(IntKind.i64.wrap (v1_0+1))≤((x3.n:Nat):Int))∧(Int.toNat (((x3.n:Nat):Int)- (IntKind.i64.wrap (v1_0+1))))<(Int.toNat (((x3.n:Nat):Int)-v1_0))))))))) (mkXh_ok trivial ⟨k1051p,trivial⟩) Tryz.func51 rfl rfl rfl (by kernel_rfl) (⟨(by omega),(fun v1_0 hI1=>⟨(fun h2=>⟨(by have:=of_decide_eq_true h2;omega),(by have:=of_decide_eq_true h2;omega)⟩),(fun h3=>(fun h4=>(by have:=of_decide_eq_true h3;first|omega|(have:=wrap64 (x:=(v1_0+1)) (by omega) (by omega);omega))))⟩)⟩)) rfl (by rw[e0,e1,e2,e3];rfl)
theorem k1105_1051p:XHOk Tryz.prog 51 F1105_1051p.ans:=Hq.ok ⟨_,_,Tryz.func51,rfl,by kernel_rfl⟩ (by kernel_rfl) pc1105_1051p
end Go.Proofs.YtfbpilmhnpkfhaaGreatDoor
/-
  Walks: what functions of the program answer, as functions.
-/
namespace Go.Proofs.YtfbpilmhnpkfhaaGreatDoor
open Go Go.Vc Go.RowKit
set_option maxRecDepth 100000
set_option maxHeartbeats 4000000
noncomputable def g1050_1051p_m1(x0:Int)(v2_0:Int)(v2_1:Int)(v2_2:Sl T175):Sl T175:=(bif(!(g1051p (v2_2.at' (Int.toNat v2_1)).c7 x0))then(Sl.upd v2_2 (Int.toNat v2_0) (v2_2.at' (Int.toNat v2_1)))else v2_2)
noncomputable def g1050_1051p_m2(x0:Int)(v2_0:Int)(v2_1:Int)(v2_2:Sl T175):Int:=(bif(!(g1051p (v2_2.at' (Int.toNat v2_1)).c7 x0))then(IntKind.i64.wrap (v2_0+1))else v2_0)
noncomputable def g1050_1051p_l2(x0:Int):Nat→Int→Int→Sl T175→Int×Sl T175
 |0,_,_,_=>default
 |k+1,v2_0,v2_1,v2_2=>(bif(decide (v2_1<((v2_2.n:Nat):Int)))then(g1050_1051p_l2 x0 k (g1050_1051p_m2 x0 v2_0 v2_1 v2_2) (IntKind.i64.wrap (v2_1+1)) (g1050_1051p_m1 x0 v2_0 v2_1 v2_2))else(v2_0,v2_2))
noncomputable def g1050_1051p_r3(x0:Int)(x1:Int)(x2:Bool)(x3:Sl T175):Int×Sl T175:=g1050_1051p_l2 x0 ((Int.toNat (((x3.n:Nat):Int)- (IntKind.i64.wrap ((g1105_1051p x0 x1 x2 x3)+1))))+1) (g1105_1051p x0 x1 x2 x3) (IntKind.i64.wrap ((g1105_1051p x0 x1 x2 x3)+1)) x3
noncomputable def g1050_1051p_h3_0(x0:Int)(x1:Int)(x2:Bool)(x3:Sl T175):Sl T175:=(bif((g1105_1051p x0 x1 x2 x3)==(-1))then x3 else(Sl.cut (Sl.clr (g1050_1051p_r3 x0 x1 x2 x3).2 (Int.toNat (g1050_1051p_r3 x0 x1 x2 x3).1) ((⟨⟨#[]⟩,0,⟨#[]⟩,0,(nilSl:Sl T160),(nilSl:Sl ByteArray),(nilSl:Sl T164),0⟩:T175):T175)) (Int.toNat (g1050_1051p_r3 x0 x1 x2 x3).1)))
theorem n1050a(x0 i j:Int)(s:Sl T175):(g1050_1051p_m1 x0 i j s).n=s.n:=by
 unfold g1050_1051p_m1
 cases (!(g1051p (s.at' (Int.toNat j)).c7 x0))<;>rfl
theorem n1050b(x0 i j:Int)(s:Sl T175)(h:0≤i∧i<549755813888):i≤g1050_1051p_m2 x0 i j s∧g1050_1051p_m2 x0 i j s≤i+1:=by
 unfold g1050_1051p_m2
 have:=wrap64 (x:=i+1) (by omega) (by omega)
 cases (!(g1051p (s.at' (Int.toNat j)).c7 x0))<;>simp only[cond_true,cond_false]<;>omega
noncomputable def F1050_1051p:Hq:=⟨[.o 2,.fp 32 [0]],[(.h 1 0,kI),(.h 1 2,kI),(.h 1 3,kB),(.h 2 0,.blk E175)],[[.ptr 1 0],[U,.gone,U,U],[U]],fun(x0:Int) (x1:Int) x2 x3=>⟨⟨some (x3.n≤1000000),[.own 3 ((g1050_1051p_h3_0 x0 x1 x2 x3)).n],[[.ptr 1 0],[.int .i64 x0,.gone,.int .i64 x1,.bool x2],[deadB],[(Kd.blk E175).av (g1050_1051p_h3_0 x0 x1 x2 x3)]]⟩⟩⟩
theorem pc1050_1051p:HqOk Tryz.prog 31 F1050_1051p _ (F1050_1051p.sh.flatMap Sh.bs) F1050_1051p.f []:=
 fun(x0:Int) (x1:Int) x2 x3 n3 hp=>heap_of_exec (X:=(mkXh 3 [] [(32,F1051p.ans),(51,F1105_1051p.ans)])) (R:=⟨.hp2 false [] [.own (.t 0) E175 3],[.tmp 4],[(.h 3 0,.blk E175),(.h 1 0,kI),(.h 1 2,kI),(.h 1 3,kB)],⟨[.own 3 0],[[.ptr 1 0],[U,.gone,U,U],[deadB],[U]]⟩⟩) (h:=(.s .z (.s .z (.s .z (.j ⟨49,[],[],[],.f⟩ (.s .z (.lp ⟨115,[],[],[(.t 5,kI),(.t 6,kI),(.h 2 0,.blk E175)],some 0,false,49,[],[(.t 5,kI),(.h 2 0,.blk E175)],fun k (s:Int×Int×Sl T175)=>g1050_1051p_l2 x0 k s.1 s.2.1 s.2.2,.f,fun(s:Int×Int×Sl T175)=>(0≤s.1∧s.1<s.2.1∧s.2.1≤((s.2.2.n:Nat):Int)∧s.2.2.n=x3.n),fun(s:Int×Int×Sl T175)=>(Int.toNat (((s.2.2.n:Nat):Int)-s.2.1)),some fun(r:Int×Sl T175)=>(0≤r.1∧r.1<((r.2.n:Nat):Int)∧r.2.n=x3.n)⟩ (.s .z (.j ⟨1070530803,[],[(.h 2 0,.blk E175),(.t 5,kI)],[],.f⟩ .z .z)))) (.s .ow (.s .ow .z))))))) (ms:=[.f,.l,.l,.l]) (p:=(((g1105_1051p x0 x1 x2 x3)==(-1))=false→((((0≤(g1105_1051p x0 x1 x2 x3)∧(g1105_1051p x0 x1 x2 x3)<(IntKind.i64.wrap ((g1105_1051p x0 x1 x2 x3)+1))∧(IntKind.i64.wrap ((g1105_1051p x0 x1 x2 x3)+1))≤((x3.n:Nat):Int)∧x3.n=x3.n))∧(∀(v2_0:Int) (v2_1:Int) (v2_2:Sl T175),(0≤v2_0∧v2_0<v2_1∧v2_1≤((v2_2.n:Nat):Int)∧v2_2.n=x3.n)→(((decide (v2_1<((v2_2.n:Nat):Int)))=true→((((0:Int)≤v2_1∧v2_1<((v2_2.n:Nat):Int))∧((Int.toNat v2_1)<v2_2.n))∧((!(g1051p (v2_2.at' (Int.toNat v2_1)).c7 x0))=true→(((0:Int)≤v2_0∧v2_0<((v2_2.n:Nat):Int))∧((Int.toNat v2_0)<v2_2.n)))))∧(((decide (v2_1<((v2_2.n:Nat):Int)))=true→((0≤(g1050_1051p_m2 x0 v2_0 v2_1 v2_2)∧(g1050_1051p_m2 x0 v2_0 v2_1 v2_2)<(IntKind.i64.wrap (v2_1+1))∧(IntKind.i64.wrap (v2_1+1))≤(((g1050_1051p_m1 x0 v2_0 v2_1 v2_2).n:Nat):Int)∧(g1050_1051p_m1 x0 v2_0 v2_1 v2_2).n=x3.n)∧(Int.toNat ((((g1050_1051p_m1 x0 v2_0 v2_1 v2_2).n:Nat):Int)- (IntKind.i64.wrap (v2_1+1))))<(Int.toNat (((v2_2.n:Nat):Int)-v2_1))))∧((decide (v2_1<((v2_2.n:Nat):Int)))=false→((0≤v2_0∧v2_0<((v2_2.n:Nat):Int)∧v2_2.n=x3.n)))))))∧(((0≤(g1050_1051p_r3 x0 x1 x2 x3).1∧(g1050_1051p_r3 x0 x1 x2 x3).1<(((g1050_1051p_r3 x0 x1 x2 x3).2.n:Nat):Int)∧(g1050_1051p_r3 x0 x1 x2 x3).2.n=x3.n))→(((0:Int)≤(g1050_1051p_r3 x0 x1 x2 x3).1∧(g1050_1051p_r3 x0 x1 x2 x3).1<(((g1050_1051p_r3 x0 x1 x2 x3).2.n:Nat):Int))∧((0:Int)≤(g1050_1051p_r3 x0 x1 x2 x3).1∧(g1050_1051p_r3 x0 x1 x2 x3).1<(((g1050_1051p_r3 x0 x1 x2 x3).2.n:Nat):Int))))))) (mkXh_ok trivial ⟨k1051p,k1105_1051p,trivial⟩) Tryz.func31 rfl rfl rfl (by kernel_rfl) ((fun h1=>⟨⟨(by have:=ne_of_beq_false h1;have:=f1105_1051p x0 x1 x2 x3 (by omega);first|omega|(have:=wrap64 (x:=((g1105_1051p x0 x1 x2 x3)+1)) (by omega) (by omega);omega)),(fun v2_0 v2_1 v2_2 hI2=>⟨(fun h3=>⟨⟨(by have:=ne_of_beq_false h1;have:=of_decide_eq_true h3;omega),(by have:=ne_of_beq_false h1;have:=of_decide_eq_true h3;omega)⟩,(fun h4=>⟨(by have:=ne_of_beq_false h1;have:=of_decide_eq_true h3;omega),(by have:=ne_of_beq_false h1;have:=of_decide_eq_true h3;omega)⟩)⟩),⟨(fun h5=>(by have:=ne_of_beq_false h1;have:=of_decide_eq_true h5;have:=n1050b x0 v2_0 v2_1 v2_2 (by omega);have:=n1050a x0 v2_0 v2_1 v2_2;first|omega|(have:=wrap64 (x:=(v2_1+1)) (by omega) (by omega);omega))),(fun h6=>(by have:=ne_of_beq_false h1;have:=of_decide_eq_false h6;omega))⟩⟩)⟩,(fun hF7=>⟨(by have:=ne_of_beq_false h1;omega),(by have:=ne_of_beq_false h1;omega)⟩)⟩))
theorem k1050_1051p:XHOk Tryz.prog 31 F1050_1051p.ans:=Hq.ok ⟨_,_,Tryz.func31,rfl,by kernel_rfl⟩ (by kernel_rfl) pc1050_1051p
end Go.Proofs.YtfbpilmhnpkfhaaGreatDoor
/-
  What has run out goes: slices.DeleteFunc as a filter; copies.
-/
namespace Go.Proofs.YtfbpilmhnpkfhaaGreatDoor
open Go Go.Vc Go.RowKit
set_option maxRecDepth 100000
set_option maxHeartbeats 4000000
theorem B1049(s:Sl T175)(hn:s.n≤549755813888):(g1049_h0_0 s).B=s.B:=by
 have:=mapB (g1049_l1 s) s (fun x=>x) hn (fun _ _ _=>rfl) nilSl
 rw[List.map_id',B_nil,List.nil_append]at this;exact this
theorem n1049(s:Sl T175)(hn:s.n≤549755813888):(g1049_h0_0 s).n=s.n:=nB' (B1049 s hn)
theorem take_one{α:Type}(s:Sl α){j:Nat}(h:j<s.n):s.B.take (j+1)=s.B.take j++[s.at' j]:=by
 rw[List.take_add_one,B_some,if_pos h];rfl
theorem take_upd{α:Type}(s:Sl α)(i:Nat)(x:α)(h:i<s.n):(s.upd i x).B.take (i+1)=s.B.take i++[x]:=by
 rw[set_at s i x h,List.take_append,List.take_of_length_le (by rw[List.length_take];omega)]
 rw[List.length_take,B_len,show i+1-min i s.n=1 by omega]
 rfl
theorem B_cut{α:Type}(s:Sl α)(i:Nat)(z:α)(h:i≤s.n):(Sl.cut (Sl.clr s i z) i).B=s.B.take i:=by
 apply List.ext_getElem?
 intro q
 rw[B_some,List.getElem?_take]
 by_cases hq:q<i
 ·have e:Nat.blt q i=true:=by simpa[Nat.blt_eq]using hq
  rw[if_pos (show q<(Sl.cut (Sl.clr s i z) i).n from hq),if_pos hq,B_some,if_pos (by omega)]
  show some (bif Nat.blt q i then s.at' q else z)=some (s.at' q)
  rw[e];rfl
 ·rw[if_neg (show¬q<(Sl.cut (Sl.clr s i z) i).n from hq),if_neg hq]
section
variable (x0:Int)
noncomputable def keepE(e:T175):Bool:= !(g1051p e.c7 x0)
theorem loop1050(s:Sl T175)(hn:s.n≤1000000): ∀(m fu i j:Nat) (S:Sl T175),j+m=s.n→m≤fu→i<j→S.n=s.n→(∀q,j≤q→q<s.n→S.at' q=s.at' q)→S.B.take i=(s.B.take j).filter (keepE x0)→
  ∃(i':Nat) (S':Sl T175),g1050_1051p_l2 x0 (fu+1) (i:Int) (j:Int) S=((i':Int),S')∧i'<s.n∧S'.n=s.n∧S'.B.take i'=s.B.filter (keepE x0)
 |0,fu,i,j,S,hj,_,hij,hS,_,hI=>by
  refine⟨i,S,?_,by omega,hS,?_⟩
  ·show(bif(decide ((j:Int)<((S.n:Nat):Int)))then _ else _)=_
   rw[decide_eq_false (by omega)];rfl
  ·rw[hI,List.take_of_length_le (by rw[B_len];omega)]
 |m+1,fu,i,j,S,hj,hf,hij,hS,ha,hI=>by
  obtain⟨fu,rfl⟩: ∃q,fu=q+1:=⟨fu-1,by omega⟩
  have e:g1050_1051p_l2 x0 (fu+1+1) (i:Int) (j:Int) S=g1050_1051p_l2 x0 (fu+1) (g1050_1051p_m2 x0 (i:Int) (j:Int) S) ((j+1:Nat):Int) (g1050_1051p_m1 x0 (i:Int) (j:Int) S):=by
   show(bif(decide ((j:Int)<((S.n:Nat):Int)))then _ else _)=_
   rw[decide_eq_true (by omega),wrap64 (by omega) (by omega)]
   rfl
  rw[e]
  unfold g1050_1051p_m1 g1050_1051p_m2
  rw[Int.toNat_natCast,Int.toNat_natCast,ha j (Nat.le_refl _) (by omega)]
  have hk:(!(g1051p (s.at' j).c7 x0))=keepE x0 (s.at' j):=rfl
  rw[hk]
  cases k:keepE x0 (s.at' j)with
  |true=>
   simp only[cond_true]
   rw[wrap64 (by omega) (by omega)]
   refine loop1050 s hn m fu (i+1) (j+1) _ (by omega) (by omega) (by omega) hS (fun q h1 h2=> ?_) ?_
   ·show(bif Nat.beq q i then s.at' j else S.at' q)=s.at' q
    rw[nbeq_f (by omega)]
    exact ha q (by omega) h2
   ·rw[take_upd S i _ (by omega),hI,take_one s (by omega),List.filter_append,List.filter_cons_of_pos (by simpa using k),List.filter_nil]
  |false=>
   simp only[cond_false]
   refine loop1050 s hn m fu i (j+1) S (by omega) (by omega) (by omega) hS (fun q h1 h2=>ha q (by omega) h2) ?_
   rw[hI,take_one s (by omega),List.filter_append,List.filter_cons_of_neg (by simp [k]),List.filter_nil,List.append_nil]
theorem mem_B{α:Type}{s:Sl α}{e:α}(h:e∈s.B): ∃i,i<s.n∧s.at' i=e:=by
 simp only[Sl.B,List.mem_map,List.mem_range]at h
 exact h
theorem B1050(x1:Int)(x2:Bool)(s:Sl T175)(hn:s.n≤1000000):(g1050_1051p_h3_0 x0 x1 x2 s).B=s.B.filter (keepE x0):=by
 unfold g1050_1051p_h3_0 g1050_1051p_r3
 rcases(r1105_1051p x0 x1 x2 s (by omega)).2 with⟨h,hall⟩|⟨t,ht,h,hp,hall⟩
 ·rw[h]
  show s.B=_
  refine(List.filter_eq_self.2 fun e he=> ?_).symm
  obtain⟨i,hi,rfl⟩:=mem_B he
  show(!(g1051p (s.at' i).c7 x0))=true
  rw[hall i hi];rfl
 ·rw[h]
  have e1:(((t:Int)== -1))=false:=beq_eq_false_iff_ne.2 (by omega)
  rw[e1]
  simp only[cond_false]
  have e2:IntKind.i64.wrap ((t:Int)+1)=((t+1:Nat):Int):=by rw[wrap64 (by omega) (by omega)];omega
  rw[e2]
  obtain⟨i',S',h1,h2,h3,h4⟩:=loop1050 x0 s hn (s.n- (t+1)) (Int.toNat (((s.n:Nat):Int)- ((t+1:Nat):Int))) t (t+1) s (by omega) (by omega) (by omega) rfl (fun _ _ _=>rfl) (by
   rw[take_one s ht,List.filter_append,List.filter_cons_of_neg (by simp [keepE,hp]),List.filter_nil,List.append_nil]
   refine(List.filter_eq_self.2 fun e he=> ?_).symm
   obtain⟨q,hq,hq2,rfl⟩:=mem_take s he
   show(!(g1051p (s.at' q).c7 x0))=true
   rw[hall q hq2];rfl)
  rw[h1]
  simp only
  rw[Int.toNat_natCast,B_cut S' i' _ (by omega),h4]
end
def RiseL(l:List T175):Prop:=l.Pairwise fun a b=>Op.bytesLess a.c0.toList b.c0.toList=true
theorem riseL{s:Sl T175}(h:Rise s.n (fun i=>(s.at' i).c0)):RiseL s.B:=by
 unfold RiseL
 rw[List.pairwise_iff_getElem]
 intro i j hi hj hij
 rw[B_len]at hi hj
 simp only[Sl.B,List.getElem_map,List.getElem_range]
 exact h i j hij hj
theorem rise_ofL{s:Sl T175}(h:RiseL s.B):Rise s.n (fun i=>(s.at' i).c0):=by
 intro i j hij hj
 unfold RiseL at h
 rw[List.pairwise_iff_getElem]at h
 have:=h i j (by rw[B_len];omega) (by rw[B_len];exact hj) hij
 simpa[Sl.B]using this
structure Chk (x0:Int) (s:Sl T175):Prop where
 now:0≤x0∧x0≤1073741824
 n:s.n≤12
 rise:RiseL s.B
 ok: ∀e∈s.B,g72 e.c1 e.c2 e.c3 e.c4 e.c5 e.c6=0
 sz: ∀e∈s.B,e.c4.n≤1048576∧e.c5.n≤1048576∧e.c6.n≤1048576
 u: ∀e∈s.B,e.c7=0∨(x0<e.c7∧e.c7≤1073741824)
theorem chk{x0:Int}{s:Sl T175}(hc:CZ s)(h:g78 x0 s=0):Chk x0 s:=by
 have hn:=hc.1
 obtain⟨⟨h0,hs⟩,hek⟩:=chk78 x0 s hc h
 unfold g78 at h
 obtain⟨_,h⟩:=bz h (by decide)
 have hl:g78_r10 x0 s=scan (fun i=>g78_m7 s i||g78_m9 x0 s i) (fun _=>13) s.n 0:=scan0 (g78_l5 x0 s) s.n _ _ (by omega) fun k i=>by
  show(bif decide (i<(s.n:Int))then(bif(g78_m7 s i)then(true,13)else(bif(g78_m9 x0 s i)then(true,13)else g78_l5 x0 s k (IntKind.i64.wrap (i+1))))else(false,default))=_
  rw[bif_or]
 unfold g78_p11 at h
 rw[fall hl]at h
 obtain⟨hh,_⟩:=bz h (by decide)
 have hq: ∀i,i<s.n→g78_m7 s (i:Int)=false∧g78_m9 x0 s (i:Int)=false:=fun i hi=>by
  have q:=hit_nat hh i hi
  simpa only[Bool.or_eq_false_iff]using q
 have hsz: ∀i,i<s.n→(s.at' i).c4.n≤1048576∧(s.at' i).c5.n≤1048576∧(s.at' i).c6.n≤1048576:=fun i hi=>by
  obtain⟨_,hv,_⟩:=hek i hi
  obtain⟨w1,w2,w3⟩:=hv.2.1
  exact⟨by omega,by omega,by omega⟩
 refine⟨h0,hs,riseL fun i j hij hj=> ?_,fun e he=> ?_,fun e he=> ?_,fun e he=> ?_⟩
 ·refine chain' (R:=fun i j=>Op.bytesLess (s.at' i).c0.toList (s.at' j).c0.toList=true) s.n (fun i hi=> ?_) (fun _ _ _ _ _ _=>less_trans) i j hij hj
  have q1:=(hq (i+1) hi).1
  unfold g78_m7 at q1
  obtain⟨_,q1⟩:=bt q1
  obtain⟨_,q1⟩:=bt q1
  obtain⟨_,q1⟩:=bt q1
  rw[decide_eq_true (show((i+1:Nat):Int)>0 by omega)]at q1
  rw[show IntKind.i64.wrap (((i+1:Nat):Int)-1)=(i:Int) by rw[wrap64 (by omega) (by omega)];omega]at q1
  simpa using q1
 ·obtain⟨i,hi,rfl⟩:=mem_B he
  have q1:=(hq i hi).1
  unfold g78_m7 at q1
  simp only[Int.toNat_natCast]at q1
  obtain⟨_,q1⟩:=bt q1
  obtain⟨_,q1⟩:=bt q1
  obtain⟨d3,_⟩:=bt q1
  exact bne_eq_false_iff_eq.1 d3
 ·obtain⟨i,hi,rfl⟩:=mem_B he
  exact hsz i hi
 ·obtain⟨i,hi,rfl⟩:=mem_B he
  have q1:=(hq i hi).2
  unfold g78_m9 at q1
  simp only[Int.toNat_natCast]at q1
  cases c:((s.at' i).c7 !=0)with
  |false=>exact .inl (bne_eq_false_iff_eq.1 c)
  |true=>
   rw[c]at q1
   obtain⟨a,b⟩:=bt q1
   have a:=df a
   have b:=df b
   exact .inr ⟨by omega,by omega⟩
theorem fit{x0 now:Int}{s t:Sl T175}(h:Chk x0 s)(ht:t.B=s.B.filter (keepE now)):Fit now t:=by
 have hm: ∀i,i<t.n→t.at' i∈s.B∧keepE now (t.at' i)=true:=fun i hi=>by
  have:t.at' i∈t.B:=by simp only[Sl.B,List.mem_map,List.mem_range];exact⟨i,hi,rfl⟩
  rw[ht,List.mem_filter]at this
  exact this
 refine⟨?_,rise_ofL (by rw[ht];exact h.rise.filter _),fun i hi=>h.ok _ (hm i hi).1,fun i hi=>h.sz _ (hm i hi).1,fun i hi=> ?_⟩
 ·have h1:=List.length_filter_le (keepE now) s.B
  rw[←ht,B_len,B_len]at h1
  have:=h.n
  omega
 ·have hk:=(hm i hi).2
  rcases h.u _ (hm i hi).1 with h1|⟨_,h2⟩
  ·exact .inl h1
  ·by_cases e:(t.at' i).c7=0
   ·exact .inl e
   ·unfold keepE g1051p g1051p_m1 at hk
    rw[show((t.at' i).c7 !=0)=true from bne_iff_ne.2 e]at hk
    have:decide ((t.at' i).c7≤now)=false:=by simpa using hk
    have:=df this
    exact .inr ⟨by omega,h2⟩
theorem ss_fit{now:Int}{t:Sl T175}(h:Fit now t):SS t:=⟨by have:=h.n;omega,h.sz⟩
end Go.Proofs.YtfbpilmhnpkfhaaGreatDoor
/-
  What Check says of a store, for the walk of Apply.
-/
namespace Go.Proofs.YtfbpilmhnpkfhaaGreatDoor
open Go Go.Vc Go.RowKit
set_option maxRecDepth 100000
set_option maxHeartbeats 4000000
theorem chk1016{x0:Int}{x1:Sl T175}(hc:CZ x1)(h:(g78 x0 x1 !=0)=false):Chk x0 x1:=chk hc (bne_eq_false_iff_eq.1 h)
theorem n1016a(x1:Sl T175){x0:Int}(h:CZ x1∧(g78 x0 x1 !=0)=false):(g1049_h0_0 x1).n≤12:=by
 have:=(chk1016 h.1 h.2).n
 rw[n1049 x1 (by omega)];exact this
theorem B1016{x1:Sl T175}(now a:Int)(b:Bool)(hn:x1.n≤1000000):(g1050_1051p_h3_0 now a b (g1049_h0_0 x1)).B=x1.B.filter (keepE now):=by
 rw[B1050 now a b _ (by rw[n1049 x1 (by omega)];exact hn),B1049 x1 (by omega)]
theorem n1016b(now a:Int)(b:Bool)(s:Sl T175)(hn:s.n≤1000000):(g1050_1051p_h3_0 now a b s).n≤s.n:=by
 have h:=congrArg List.length (B1050 now a b s hn)
 have:=List.length_filter_le (keepE now) s.B
 rw[B_len]at h this
 omega
theorem fit1016{x0:Int}{x1:Sl T175}{now a:Int}{b:Bool}(hc:CZ x1)(h:(g78 x0 x1 !=0)=false):Fit now (g1050_1051p_h3_0 now a b (g1049_h0_0 x1)):=by
 have hk:=chk1016 hc h
 exact fit hk (B1016 now a b (by have:=hk.n;omega))
theorem ss1016{x0:Int}{x1:Sl T175}{now a:Int}{b:Bool}(hc:CZ x1)(h:(g78 x0 x1 !=0)=false):SS (g1050_1051p_h3_0 now a b (g1049_h0_0 x1)):=ss_fit (fit1016 hc h)
end Go.Proofs.YtfbpilmhnpkfhaaGreatDoor
/-
  A command on a store: no slice of what comes out is of great bulk.
-/
namespace Go.Proofs.YtfbpilmhnpkfhaaGreatDoor
open Go Go.Vc Go.RowKit
set_option maxRecDepth 100000
set_option maxHeartbeats 4000000
def Z3(e:T175):Prop:=e.c4.n≤1048577∧e.c5.n≤1048577∧e.c6.n≤1048577
section
variable {x0:Int} {x1 x2 x3:ByteArray} {x4 now:Int} {s t:Sl T175}
theorem m_take{s:Sl T175}(hs: ∀e∈s.B,Z3 e){i:Nat}{e:T175}(h:e∈s.B.take i):Z3 e:=hs e (List.mem_of_mem_take h)
theorem m_drop{s:Sl T175}(hs: ∀e∈s.B,Z3 e){i:Nat}{e:T175}(h:e∈s.B.drop i):Z3 e:=hs e (List.mem_of_mem_drop h)
theorem at_mem{s:Sl T175}{i:Nat}(hi:i<s.n):s.at' i∈s.B:=by simp only[Sl.B,List.mem_map,List.mem_range];exact⟨i,hi,rfl⟩
theorem z1052(a0:g47 x0 x1 x2 x3 x4=0)(hB:s.B=t.B)(hF:Fit now t): ∀e∈(g1052_h2_0 x0 x1 x2 x3 x4 now s).B,Z3 e:=by
 have hnt:s.n=t.n:=nB' hB
 have hn:=hF.n
 obtain⟨i,hi⟩:=spot hF.rise x1
 have hi':Spot s.n (fun i=>(s.at' i).c0) x1 i:=⟨by rw[hnt];exact hi.le,fun m hm=>by
  show Op.bytesLess (s.at' m).c0.toList x1.toList=_
  rw[at_of_B hB hm];exact hi.lt m (by omega),fun m hm hne=>by
  show((s.at' m).c0.toList==x1.toList)=false
  rw[at_of_B hB hm];exact hi.ne m (by omega) hne⟩
 have ks:=keyAt s x1 (by omega) hi'
 generalize (decide (i<s.n)&&((s.at' i).c0.toList==x1.toList))=f at ks
 have hs: ∀e∈s.B,Z3 e:=fun e he=>by
  rw[hB]at he
  obtain⟨q,hq,rfl⟩:=mem_B he
  obtain⟨z1,z2,z3⟩:=hF.sz q hq
  exact⟨by omega,by omega,by omega⟩
 have hk:=kind_lo a0
 have e3:g1106_h0_3 x1 s=f:=ks.i1
 have e2:g1106_h0_2 x1 s=i:=ks.i0
 have hdel:f=true→ ∀e∈(g1107_h2_0 (i:Int) s).B,Z3 e:=fun hf e he=>by
  rw[del_i i s (ks.hit hf).1 (by omega)]at he
  rcases List.mem_append.1 he with h|h
  ·exact m_take hs h
  ·exact m_drop hs h
 unfold g1052_h2_0
 rw[e3,e2]
 cases c22:(x0==22)with
 |true=>exact hs
 |false=>
 simp only[cond_false]
 cases c19:(x0==19)with
 |true=>
  cases f with
  |false=>exact hs
  |true=>exact hdel rfl
 |false=>
 simp only[cond_false]
 cases m2:g1052_m2 x0 with
 |true=>
  show∀e∈(g1108_h1_0 x0 x4 now (i:Int) f s).B,Z3 e
  unfold g1108_h1_0
  cases f with
  |false=>exact hs
  |true=>
   show∀e∈(bif(x0==21)then s else(bif(g1108_m1 x4 now)then s else _)).B,Z3 e
   cases (x0==21)with
   |true=>exact hs
   |false=>
    cases (g1108_m1 x4 now)with
    |true=>exact hs
    |false=>
     simp only[cond_false,Int.toNat_natCast]
     intro e he
     have hlt:=(ks.hit rfl).1
     rw[set_at s i _ hlt]at he
     rcases List.mem_append.1 he with h|h
     ·exact m_take hs h
     ·rcases List.mem_cons.1 h with h|h
      ·rw[h]
       have q:=hs _ (at_mem hlt)
       exact q
      ·exact m_drop hs h
 |false=>
  show∀e∈(bif g1052_p12 x0 x1 x2 x3 x4 s then g1052_m11 x0 x1 x2 x3 x4 s else s).B,Z3 e
  cases g1052_p12 x0 x1 x2 x3 x4 s with
  |false=>exact hs
  |true=>
   have h18:x0≤18:=by
    have c1:=beq_eq_false_iff_ne.1 c22
    have c2:=beq_eq_false_iff_ne.1 c19
    have c3:x0≠20∧x0≠21:=by
     constructor<;>(rintro rfl;cases m2)
    omega
   have hsz:f=true→(s.at' i).c4.n≤1048576∧(s.at' i).c5.n≤1048576∧(s.at' i).c6.n≤1048576:=fun hf=>by
    have hlt:=(ks.hit hf).1
    rw[at_of_B hB hlt];exact hF.sz i (by omega)
   have V:=vsAll (x0:=g1052_m3 x1 s) (x1:=g1052_m4 x1 s) (x2:=g1052_m5 x1 s) (x3:=g1052_m6 x1 s) (x4:=g1052_m7 x1 s) (x5:=g1052_m8 x1 s) (x6:=x0) (x7:=x1) (x8:=x2) (x9:=x3) (x10:=x4)
    (by
     unfold g1052_m6;rw[e3,e2,Int.toNat_natCast]
     cases f with
     |false=>exact Nat.zero_le _
     |true=>exact(hsz rfl).1)
    (by
     unfold g1052_m7;rw[e3,e2,Int.toNat_natCast]
     cases f with
     |false=>exact Nat.zero_le _
     |true=>exact(hsz rfl).2.1)
    (by
     unfold g1052_m8;rw[e3,e2,Int.toNat_natCast]
     cases f with
     |false=>exact Nat.zero_le _
     |true=>exact(hsz rfl).2.2)
    (by
     unfold g1052_m3 g1052_m4 g1052_m5 g1052_m6 g1052_m7 g1052_m8;rw[e3,e2,Int.toNat_natCast]
     cases f with
     |false=>
      unfold g101_m2
      show(bif g101_m1 0 ⟨#[]⟩ 0 (nilSl:Sl T160) (nilSl:Sl ByteArray) (nilSl:Sl T164)then _ else _)=false
      rw[show g101_m1 0 ⟨#[]⟩ 0 (nilSl:Sl T160) (nilSl:Sl ByteArray) (nilSl:Sl T164)=true by decide+kernel]
      cases (g72 0 ⟨#[]⟩ 0 (nilSl:Sl T160) (nilSl:Sl ByteArray) (nilSl:Sl T164)!=0)<;>rfl
     |true=>
      have hlt:=(ks.hit rfl).1
      simp only[cond_true]
      unfold g101_m2
      rw[at_of_B hB hlt,hF.ok i (by omega)];rfl) a0 h18
   simp only[cond_true]
   unfold g1052_m11
   rw[e3,e2]
   cases (g101_1_0 (g1052_m3 x1 s) (g1052_m4 x1 s) (g1052_m5 x1 s) (g1052_m6 x1 s) (g1052_m7 x1 s) (g1052_m8 x1 s) x0 x1 x2 x3 x4 !=0)with
   |true=>exact hs
   |false=>
    simp only[cond_false]
    cases m9:g1052_m9 x0 x1 x2 x3 x4 s with
    |true=>
     refine hdel ?_
     unfold g1052_m9 at m9
     rw[e3]at m9
     cases h:(g101_0_0 (g1052_m3 x1 s) (g1052_m4 x1 s) (g1052_m5 x1 s) (g1052_m6 x1 s) (g1052_m7 x1 s) (g1052_m8 x1 s) x0 x1 x2 x3 x4==0)with
     |false=>rw[h]at m9;cases m9
     |true=>rw[h]at m9;exact m9
    |false=>
     simp only[cond_false]
     cases (g101_0_0 (g1052_m3 x1 s) (g1052_m4 x1 s) (g1052_m5 x1 s) (g1052_m6 x1 s) (g1052_m7 x1 s) (g1052_m8 x1 s) x0 x1 x2 x3 x4 !=0)with
     |false=>exact hs
     |true=>
      simp only[cond_true]
      intro e he
      rw[set_B _ _ _ _ _ _ _ _ i f s ks.le ks.hit]at he
      rcases List.mem_append.1 he with h|h
      ·exact m_take hs h
      ·rcases List.mem_cons.1 h with h|h
       ·rw[h];exact⟨V.l3,V.l4,V.l5⟩
       ·exact m_drop hs h
end
end Go.Proofs.YtfbpilmhnpkfhaaGreatDoor
/-
  Walks: what functions of the program answer, as functions.
-/
namespace Go.Proofs.YtfbpilmhnpkfhaaGreatDoor
open Go Go.Vc Go.RowKit
set_option maxRecDepth 100000
set_option maxHeartbeats 4000000
noncomputable def g1017_m1(x0:Int)(x1:Sl T175)(x2:Int):Bool:=(bif((g80 x0 x1)==0)then(!(g112 x2 0 1073741824))else false)
noncomputable def g1017_m2(x0:Int)(x1:Sl T175)(x2:Int):Int:=(bif(g1017_m1 x0 x1 x2)then 2 else(g80 x0 x1))
noncomputable def g1017_m3(x0:Int)(x1:Sl T175)(x2:Int)(x3:Int)(x4:ByteArray)(x5:ByteArray)(x6:ByteArray)(x7:Int):Int:=(bif((g1017_m2 x0 x1 x2)==0)then(g48 x3 x4 x5 x6 x7)else(g1017_m2 x0 x1 x2))
theorem sv78(x0:Int)(s:Sl T175)(hc:CE s)(h:g78 x0 s=0):SV s:=by
 have hn:=hc.2.1
 have hs:=(chk78 x0 s hc.z h).1.2
 unfold g78 at h
 obtain⟨_,h⟩:=bz h (by decide)
 have hl:g78_r10 x0 s=scan (fun i=>g78_m7 s i||g78_m9 x0 s i) (fun _=>13) s.n 0:=scan0 (g78_l5 x0 s) s.n _ _ (by omega) fun k i=>by
  show(bif decide (i<(s.n:Int))then(bif(g78_m7 s i)then(true,13)else(bif(g78_m9 x0 s i)then(true,13)else g78_l5 x0 s k (IntKind.i64.wrap (i+1))))else(false,default))=_
  rw[bif_or]
 unfold g78_p11 at h
 rw[fall hl]at h
 obtain⟨hh,_⟩:=bz h (by decide)
 refine⟨by omega,fun i hi=> ?_⟩
 have q:=hit_nat hh i hi
 simp only[Bool.or_eq_false_iff]at q
 obtain⟨q1,_⟩:=q
 obtain⟨⟨_,w1⟩,⟨_,w2⟩,_,w3⟩:=hc.2.2 i hi
 unfold g78_m7 at q1
 simp only[Int.toNat_natCast]at q1
 obtain⟨_,q1⟩:=bt q1
 obtain⟨_,q1⟩:=bt q1
 obtain⟨d3,_⟩:=bt q1
 have d:=bne_eq_false_iff_eq.1 d3
 have v:=(chk72 _ _ _ _ _ _ w1 w2 w3 d).2.1
 have b:=(sep72 _ _ _ _ _ _ w1 w2 w3 d).b4
 omega
theorem sv1017{x0:Int}{x1:Sl T175}{x2 x3:Int}{x4 x5 x6:ByteArray}{x7:Int}(hc:CE x1)(h:((g1017_m3 x0 x1 x2 x3 x4 x5 x6 x7)!=0)=false):SV x1:=by
 have h:=bne_eq_false_iff_eq.1 h
 unfold g1017_m3 at h
 cases e:(g1017_m2 x0 x1 x2==0)with
 |false=>
  rw[e]at h
  have:g1017_m2 x0 x1 x2=0:=h
  rw[this]at e;cases e
 |true=>
  have e:=eq_of_beq e
  unfold g1017_m2 at e
  obtain⟨_,e⟩:=bz e (by decide)
  exact sv78 x0 x1 hc (by rw[g78_eq x0 x1 (by have:=hc.2.1;omega) hc.2.2];exact e)
end Go.Proofs.YtfbpilmhnpkfhaaGreatDoor
/-
  Walks: what functions of the program answer, as functions.
-/
namespace Go.Proofs.YtfbpilmhnpkfhaaGreatDoor
open Go Go.Vc Go.RowKit
set_option maxRecDepth 100000
set_option maxHeartbeats 4000000
noncomputable def g1016_m1(x2:Int):Bool:=(bif(decide (x2<0))then true else(decide (x2>1073741824)))
noncomputable def g1016_0_0(x0:Int)(x1:Sl T175)(x2:Int)(x3:Int)(x4:ByteArray)(x5:ByteArray)(x6:ByteArray)(x7:Int):Int:=(bif((g78 x0 x1)!=0)then 0 else(bif(g1016_m1 x2)then 0 else(bif((g47 x3 x4 x5 x6 x7)!=0)then 0 else(g1049 (imax (g1049 x0) x2)))))
noncomputable def g1016_0_1(x0:Int)(x1:Sl T175)(x2:Int)(x3:Int)(x4:ByteArray)(x5:ByteArray)(x6:ByteArray)(x7:Int):Sl T175:=(bif((g78 x0 x1)!=0)then(nilSl:Sl T175)else(bif(g1016_m1 x2)then(nilSl:Sl T175)else(bif((g47 x3 x4 x5 x6 x7)!=0)then(nilSl:Sl T175)else(g1049_h0_0 (g1052_h2_0 x3 x4 x5 x6 x7 (imax (g1049 x0) x2) (g1050_1051p_h3_0 (imax (g1049 x0) x2) 0 false (g1049_h0_0 x1)))))))
noncomputable def g1016_1_0(x0:Int)(x1:Sl T175)(x2:Int)(x3:Int)(x4:ByteArray)(x5:ByteArray)(x6:ByteArray)(x7:Int):Int:=(bif((g78 x0 x1)!=0)then 0 else(bif(g1016_m1 x2)then 0 else(bif((g47 x3 x4 x5 x6 x7)!=0)then 0 else(g1052_0 x3 x4 x5 x6 x7 (imax (g1049 x0) x2) (g1050_1051p_h3_0 (imax (g1049 x0) x2) 0 false (g1049_h0_0 x1))))))
noncomputable def g1016_1_1(x0:Int)(x1:Sl T175)(x2:Int)(x3:Int)(x4:ByteArray)(x5:ByteArray)(x6:ByteArray)(x7:Int):ByteArray:=(bif((g78 x0 x1)!=0)then⟨#[]⟩else(bif(g1016_m1 x2)then⟨#[]⟩else(bif((g47 x3 x4 x5 x6 x7)!=0)then⟨#[]⟩else(g1052_1 x3 x4 x5 x6 x7 (g1050_1051p_h3_0 (imax (g1049 x0) x2) 0 false (g1049_h0_0 x1))))))
noncomputable def g1016_1_2(x0:Int)(x1:Sl T175)(x2:Int)(x3:Int)(x4:ByteArray)(x5:ByteArray)(x6:ByteArray)(x7:Int):Int:=(bif((g78 x0 x1)!=0)then 0 else(bif(g1016_m1 x2)then 0 else(bif((g47 x3 x4 x5 x6 x7)!=0)then 0 else(g1052_2 x3 x4 x5 x6 x7 (imax (g1049 x0) x2) (g1050_1051p_h3_0 (imax (g1049 x0) x2) 0 false (g1049_h0_0 x1))))))
noncomputable def g1016_1_3(x0:Int)(x1:Sl T175)(x2:Int)(x3:Int)(x4:ByteArray)(x5:ByteArray)(x6:ByteArray)(x7:Int):Sl ByteArray:=(bif((g78 x0 x1)!=0)then(nilSl:Sl ByteArray)else(bif(g1016_m1 x2)then(nilSl:Sl ByteArray)else(bif((g47 x3 x4 x5 x6 x7)!=0)then(nilSl:Sl ByteArray)else(g1052_3 x3 x4 x5 x6 x7 (g1050_1051p_h3_0 (imax (g1049 x0) x2) 0 false (g1049_h0_0 x1))))))
noncomputable def g1016_2(x0:Int)(x1:Sl T175)(x2:Int)(x3:Int)(x4:ByteArray)(x5:ByteArray)(x6:ByteArray)(x7:Int):Int:=(bif((g78 x0 x1)!=0)then(g78 x0 x1)else(bif(g1016_m1 x2)then 2 else(bif((g47 x3 x4 x5 x6 x7)!=0)then(g47 x3 x4 x5 x6 x7)else 0)))
noncomputable def F1016:Fq:=⟨[.g [kI,.sl E175],.v kI,.g [kI,kS,kS,kS,kI]],fun(x0:Int) x1 (x2:Int) (x3:Int) x4 x5 x6 (x7:Int)=>⟨⟨some (CZ x1),.tup [.agg [.int .i64 (g1016_0_0 x0 x1 x2 x3 x4 x5 x6 x7),ofSl 8 e175 (g1016_0_1 x0 x1 x2 x3 x4 x5 x6 x7)],.agg [.int .i64 (g1016_1_0 x0 x1 x2 x3 x4 x5 x6 x7),.str (g1016_1_1 x0 x1 x2 x3 x4 x5 x6 x7),.int .i64 (g1016_1_2 x0 x1 x2 x3 x4 x5 x6 x7),ofSl 1 e9 (g1016_1_3 x0 x1 x2 x3 x4 x5 x6 x7)],.int .i64 (g1016_2 x0 x1 x2 x3 x4 x5 x6 x7)]⟩⟩⟩
theorem pc1016:FnOk Tryz.prog 14 F1016.sh _ (F1016.sh.flatMap Sh.bs) F1016.f []:=
 fun(x0:Int) x1 n1 _ (x2:Int) (x3:Int) x4 n4 x5 n5 x6 n6 (x7:Int) hp=>pure_of_exec (X:=(mkXh 0 [(29,F47.ans),(26,F78.ans)] [(30,F1049.ans),(31,F1050_1051p.ans),(33,F1052.ans)])) (R:=⟨.pure,[.cell 6 24,.cell 7 36,.tmp 8],[(.c 0 0,kI),(.c 0 1,.sl E175),(.c 1 0,kI),(.c 1 1,kS),(.c 1 2,kI),(.c 1 3,.sl E9),(.t 2,kI)],⟨[.agg (us 2 []),.agg (us 4 []),U],[]⟩⟩) (h:=(.s .z (.s .z (.s (.j ⟨33554922,[],[(.t 25,kB)],[],.f⟩ .z .z) (.s .z (.s .z (.s .z (.s .z (.s .z (.s (.cv [(.h 5 1,E175)]) .z)))))))))) (ms:=[]) (p:=(((g78 x0 x1)!=0)=false→((g1016_m1 x2)=false→(((g47 x3 x4 x5 x6 x7)!=0)=false→(((g1049_h0_0 x1).n≤1000000)∧(SS (g1050_1051p_h3_0 (imax (g1049 x0) x2) 0 false (g1049_h0_0 x1))∧(g1050_1051p_h3_0 (imax (g1049 x0) x2) 0 false (g1049_h0_0 x1)).n≤1000000)))))) (mkXh_ok ⟨k47,k78,trivial⟩ ⟨k1049,k1050_1051p,k1052,trivial⟩) Tryz.func14 rfl rfl (by kernel_rfl) ((fun h1=>(fun h2=>(fun h3=>⟨(by have:=bne_eq_false_iff_eq.1 h1;have:=h2;simp [g1016_m1]at this;have:=bne_eq_false_iff_eq.1 h3;have:=n1016a x1 (by repeat first|assumption|apply cz1016|apply rcs1011|apply gl0_1013|apply gls1013|apply fd_gl|apply fd0_1012|apply fds1012|apply fde1012|apply fdc1012|apply u90|apply ss1016|apply cz_of|apply sv1017|apply sv1056|apply th1106|apply ce85|apply cc85'|apply vok_t|apply rmok|apply And.intro|apply ce95|apply cc95);omega),⟨(by have:=bne_eq_false_iff_eq.1 h1;have:=h2;simp [g1016_m1]at this;have:=bne_eq_false_iff_eq.1 h3;repeat first|assumption|apply cz1016|apply rcs1011|apply gl0_1013|apply gls1013|apply fd_gl|apply fd0_1012|apply fds1012|apply fde1012|apply fdc1012|apply u90|apply ss1016|apply cz_of|apply sv1017|apply sv1056|apply th1106|apply ce85|apply cc85'|apply vok_t|apply rmok|apply And.intro|apply ce95|apply cc95),(by have:=bne_eq_false_iff_eq.1 h1;have:=h2;simp [g1016_m1]at this;have:=bne_eq_false_iff_eq.1 h3;have:=imax_spec (g1049 x0) x2;have:=n1016a x1 (by repeat first|assumption|apply cz1016|apply rcs1011|apply gl0_1013|apply gls1013|apply fd_gl|apply fd0_1012|apply fds1012|apply fde1012|apply fdc1012|apply u90|apply ss1016|apply cz_of|apply sv1017|apply sv1056|apply th1106|apply ce85|apply cc85'|apply vok_t|apply rmok|apply And.intro|apply ce95|apply cc95);have:=n1016b (imax (g1049 x0) x2) 0 false (g1049_h0_0 x1) (by omega);omega)⟩⟩))))
theorem k1016:XOk Tryz.prog 14 F1016.ans:=Fq.ok ⟨_,_,Tryz.func14,rfl,by kernel_rfl⟩ pc1016
end Go.Proofs.YtfbpilmhnpkfhaaGreatDoor
/-
  Walks: what functions of the program answer, as functions.
-/
namespace Go.Proofs.YtfbpilmhnpkfhaaGreatDoor
open Go Go.Vc Go.RowKit
set_option maxRecDepth 100000
set_option maxHeartbeats 4000000
end Go.Proofs.YtfbpilmhnpkfhaaGreatDoor
/-
  store.Apply: the law.
-/
namespace Go.Proofs.YtfbpilmhnpkfhaaGreatDoor
open Go Go.Vc Go.RowKit
set_option maxRecDepth 100000
set_option maxHeartbeats 4000000
theorem B1056(x0:Int)(s:Sl T175)(x2:Int)(hn:s.n≤1000000):(g1056_r5 x0 s x2).B=s.B.filter (keepE (g1056_m1 x0 x2)):=by
 have h:=fold0 (fun n i (st:Sl T175)=>g1056_l3 x0 s x2 n i st) s.n (fun j st=>g1056_m4 x0 s x2 (j:Int) st) id (by omega) (fun n i st=>by
  show(bif decide (i<(s.n:Int))then _ else _)=_
  cases e:decide (i<(s.n:Int))with
  |false=>rfl
  |true=>simp only[cond_true,g1056_m4,g1056_m3,Int.toNat_natCast]) nilSl
 have h2:g1056_r5 x0 s x2=_:=h
 rw[h2]
 have key: ∀(l:List Nat) (a:Sl T175),(l.foldl (fun st (j:Nat)=>g1056_m4 x0 s x2 (j:Int) st) a).B=a.B++(l.map fun j=>s.at' j).filter (keepE (g1056_m1 x0 x2)):=by
  intro l
  induction l with
  |nil=>intro a;simp
  |cons j l ih=>
   intro a
   rw[List.foldl_cons,ih,List.map_cons]
   have hm:(g1056_m4 x0 s x2 (j:Int) a).B=a.B++(if keepE (g1056_m1 x0 x2) (s.at' j)then[s.at' j]else[]):=by
    unfold g1056_m4 g1056_m3
    rw[Int.toNat_natCast]
    have e:(bif((s.at' j).c7==0)then true else(decide ((s.at' j).c7>(g1056_m1 x0 x2))))=keepE (g1056_m1 x0 x2) (s.at' j):=by
     unfold keepE g1051p g1051p_m1
     by_cases h:(s.at' j).c7=0
     ·simp [h]
     ·rw[show((s.at' j).c7==0)=false from beq_eq_false_iff_ne.2 h,show((s.at' j).c7 !=0)=true from bne_iff_ne.2 h]
      simp only[cond_true,cond_false]
      by_cases g:(s.at' j).c7>g1056_m1 x0 x2
      ·rw[decide_eq_true g,decide_eq_false (by omega)];rfl
      ·rw[decide_eq_false g,decide_eq_true (by omega)];rfl
    rw[e]
    cases keepE (g1056_m1 x0 x2) (s.at' j)with
    |false=>simp
    |true=>simp [B_app,B_lit]
   rw[hm,List.append_assoc,List.filter_cons]
   congr 1
   cases keepE (g1056_m1 x0 x2) (s.at' j)with
   |false=>rfl
   |true=>rfl
 have:=key (List.range s.n) nilSl
 rw[B_nil,List.nil_append]at this
 exact this
theorem now_eq(x0 x2:Int):imax (g1049 x0) x2=g1056_m1 x0 x2:=by
 have h:=imax_spec (g1049 x0) x2
 unfold g1056_m1
 have e:g1049 x0=x0:=rfl
 rw[e]at h ⊢
 by_cases c:x2>x0
 ·rw[decide_eq_true c];simp only[cond_true];omega
 ·rw[decide_eq_false c];simp only[cond_false];omega
theorem same_of{a b:Sl T175}(h:a.B.map cE=b.B.map cE)(hz: ∀e∈a.B,Z3 e):SlE R175 a b:=by
 have hn:a.n=b.n:=by
  have:=congrArg List.length h
  simpa[B_len]using this
 refine⟨hn,fun i hi=> ?_⟩
 have h1:(a.B.map cE)[i]? =(b.B.map cE)[i]? :=by rw[h]
 rw[List.getElem?_map,List.getElem?_map,B_some,B_some,if_pos hi,if_pos (by omega)]at h1
 have h2:=Option.some.inj h1
 unfold cE at h2
 simp only[Prod.mk.injEq]at h2
 obtain⟨e0,e1,e2,e3,e4,e5,e6,e7⟩:=h2
 obtain⟨z1,z2,z3⟩:=hz _ (at_mem hi)
 have sl: ∀{α:Type} {u v:Sl α},u.B=v.B→SlE Eq u v:=fun {α u v} huv=>⟨nB' huv,fun j hj=>at_of_B huv hj⟩
 exact⟨⟨e0,e1,e2,e3,e7⟩,⟨sl e4,sl e5,sl e6⟩,by omega,by omega,by omega⟩
theorem B79(s:Sl T175)(hn:s.n≤549755813888)(hz: ∀e∈s.B,Z3 e):(g79_1 s).B.map cE=s.B.map cE:=by
 have h:=mapB (g79_l1 s) s (fun x=>(⟨x.c0,g73_0 x.c1,g73_1 x.c2,g73_2 x.c3,g73_3 x.c4,g73_4 x.c5,g73_5 x.c6,x.c7⟩:T175)) hn (fun _ _ _=>rfl) nilSl
 rw[B_nil,List.nil_append]at h
 have h:(g79_1 s).B=_:=h
 rw[h,List.map_map]
 refine List.map_congr_left fun e he=> ?_
 obtain⟨z1,z2,z3⟩:=hz e he
 simp only[Function.comp,cE,g73_0,g73_1,g73_2]
 rw[B73_3 _ (by omega),B73_4 _ (by omega),B73_5 _ (by omega)]
theorem bif_n{α:Type}{b:Bool}{u v:Sl α}{k:Nat}(h1:u.n≤k)(h2:v.n≤k):(bif b then u else v).n≤k:=by cases b<;>assumption
theorem n1052h{x0:Int}{x1 x2 x3:ByteArray}{x4 now:Int}{s:Sl T175} :(g1052_h2_0 x0 x1 x2 x3 x4 now s).n≤s.n+1:=by
 have hd: ∀i,(g1107_h2_0 i s).n≤s.n+1:=fun i=>Nat.le_trans (Nat.sub_le _ _) (Nat.le_succ _)
 have hs:s.n≤s.n+1:=Nat.le_succ _
 have hm: ∀k i f,(g1110_m1 k i f s).n≤s.n+1:=fun k i f=>bif_n (Nat.le_refl _) hs
 refine bif_n hs (bif_n (bif_n hs (hd _)) (bif_n ?_ (bif_n ?_ hs)))
 ·exact bif_n hs (bif_n hs (bif_n hs hs))
 ·exact bif_n hs (bif_n (hd _) (bif_n (bif_n (hm _ _ _) (hm _ _ _)) hs))
end Go.Proofs.YtfbpilmhnpkfhaaGreatDoor
/-
  A store that a command leaves: its lengths have their bounds.
-/
namespace Go.Proofs.YtfbpilmhnpkfhaaGreatDoor
open Go Go.Vc Go.RowKit
set_option maxRecDepth 100000
set_option maxHeartbeats 4000000
theorem cz_nil:CZ (nilSl:Sl T175):=⟨Nat.zero_le _,fun i hi=>absurd hi (Nat.not_lt_zero i)⟩
theorem cz_B{a b:Sl T175}(h:a.B=b.B)(hn:b.n≤549755813888)(hz: ∀e∈b.B,Z3 e):CZ a:=by
 have hab:=nB' h
 refine⟨by omega,fun i hi=> ?_⟩
 rw[at_of_B h hi]
 obtain⟨z1,z2,z3⟩:=hz _ (at_mem (by omega:i<b.n))
 exact⟨by omega,by omega,by omega⟩
theorem cz1016{x0:Int}{x1:Sl T175}{x2 x3:Int}{x4 x5 x6:ByteArray}{x7:Int}(hc:CZ x1):CZ (g1016_0_1 x0 x1 x2 x3 x4 x5 x6 x7):=by
 unfold g1016_0_1
 cases d1:(g78 x0 x1 !=0)with
 |true=>exact cz_nil
 |false=>
 cases d2:g1016_m1 x2 with
 |true=>exact cz_nil
 |false=>
 cases d3:(g47 x3 x4 x5 x6 x7 !=0)with
 |true=>exact cz_nil
 |false=>
  simp only[cond_false]
  have hF:=fit1016 (now:=imax (g1049 x0) x2) (a:=0) (b:=false) hc d1
  have Z:=z1052 (x0:=x3) (x1:=x4) (x2:=x5) (x3:=x6) (x4:=x7) (now:=imax (g1049 x0) x2) (bne_eq_false_iff_eq.1 d3) rfl hF
  have h1:=n1052h (x0:=x3) (x1:=x4) (x2:=x5) (x3:=x6) (x4:=x7) (now:=imax (g1049 x0) x2) (s:=g1050_1051p_h3_0 (imax (g1049 x0) x2) 0 false (g1049_h0_0 x1))
  have h2:=hF.n
  exact cz_B (B1049 _ (by omega)) (by omega) Z
end Go.Proofs.YtfbpilmhnpkfhaaGreatDoor
/-
  slices.Insert and slices.Delete, at the types of the program.
-/
namespace Go.Proofs.YtfbpilmhnpkfhaaGreatDoor
open Go Go.Vc Go.RowKit Go.Proofs Go.Shelf
set_option maxRecDepth 100000
noncomputable abbrev F2034:Hq:=delQ E137
theorem k2034:XHOk Tryz.prog 34 F2034.ans:=del_X (E:=E137) (z:=(.agg #[.int .i64 0,.int .i64 0,.int .i64 0,.int .i64 0,.string ⟨#[]⟩,.int .i64 0,.slice none 0 0])) (delRuns_of (ρ:=delR 34 25 44) (b:=80) mixed ⟨ "slices.Delete[[]rostrum/api.Client,rostrum/api.Client]",by kernel_rfl,by kernel_rfl⟩ (by kernel_rfl) (by kernel_rfl)) ⟨_,_,Tryz.func34,rfl,by kernel_rfl⟩ (zeros_one rfl (by kernel_rfl))
end Go.Proofs.YtfbpilmhnpkfhaaGreatDoor
/-
  Walks: what functions of the program answer, as functions.
-/
namespace Go.Proofs.YtfbpilmhnpkfhaaGreatDoor
open Go Go.Vc Go.RowKit
set_option maxRecDepth 100000
set_option maxHeartbeats 4000000
noncomputable def g2018_0(x0:Int):Int:=x0
noncomputable def g2018_1(x1:ByteArray):ByteArray:=x1
noncomputable def g2018_2(x2:Int):Int:=x2
noncomputable def g2018_3(x3:Sl ByteArray):Sl ByteArray:=x3
noncomputable def F2018:Fq:=⟨[.g [kI,kS,kI,.sl E9]],fun x0 x1 x2 x3=>⟨⟨none,.agg [.int .i64 (g2018_0 x0),.str (g2018_1 x1),.int .i64 (g2018_2 x2),ofSl 1 e9 (g2018_3 x3)]⟩⟩⟩
theorem pc2018:FnOk Tryz.prog 18 F2018.sh _ (F2018.sh.flatMap Sh.bs) F2018.f []:=
 fun(x0:Int) x1 _ (x2:Int) x3 _ _=>pure_of_exec (X:=(mkX [(35,F211.ans)])) (R:=⟨.pure,[.cell 2 36],[(.c 0 0,kI),(.c 0 1,kS),(.c 0 2,kI),(.c 0 3,.sl E9)],⟨[.agg (us 4 [])],[]⟩⟩) (h:= .z) (ms:=[]) (p:=True) (mkX_ok ⟨k211,trivial⟩) Tryz.func18 rfl rfl (by kernel_rfl) (trivial)
theorem k2018:XOk Tryz.prog 18 F2018.ans:=Fq.ok ⟨_,_,Tryz.func18,rfl,by kernel_rfl⟩ pc2018
noncomputable def g2013_l1(x0:Sl T137):Nat→Int→Sl T137→Sl T137
 |0,_,_=>default
 |k+1,v1_0,v1_1=>(bif(decide (v1_0<(x0.n:Int)))then(g2013_l1 x0 k (IntKind.i64.wrap (v1_0+1)) (Sl.app v1_1 (Sl.lit ([(⟨(x0.at' (Int.toNat v1_0)).c0,(x0.at' (Int.toNat v1_0)).c1,(x0.at' (Int.toNat v1_0)).c2,(g2018_0 (x0.at' (Int.toNat v1_0)).c3),(g2018_1 (x0.at' (Int.toNat v1_0)).c4),(g2018_2 (x0.at' (Int.toNat v1_0)).c5),(g2018_3 (x0.at' (Int.toNat v1_0)).c6)⟩:T137)]:List T137))))else v1_1)
noncomputable def g2013_r1(x0:Sl T137):Sl T137:=g2013_l1 x0 ((Int.toNat ((x0.n:Int)-0))+1) 0 (nilSl:Sl T137)
noncomputable def g2013(x0:Sl T137):Sl T137:=(g2013_r1 x0)
noncomputable def F2013:Fq:=⟨[.v (.sl E137)],fun x0=>⟨⟨none,(Kd.blk E137).av (g2013 x0)⟩⟩⟩
theorem pc2013:FnOk Tryz.prog 13 F2013.sh _ (F2013.sh.flatMap Sh.bs) F2013.f []:=
 fun x0 n0 _=>pure_of_exec (X:=(mkX [(18,F2018.ans)])) (R:=⟨.own E137,[.tmp 2],[(.h 0 0,.blk E137)],⟨[],[]⟩⟩) (h:=(.s .z (.s .z (.j ⟨12,[],[],[],.f⟩ (.s .z (.lp ⟨460,[],[(.t 3,E137)],[(.t 8,kI),(.h 0 0,.blk E137)],some 0,false,12,[],[(.h 0 0,.blk E137)],fun k (s:Int×Sl T137)=>g2013_l1 x0 k s.1 s.2,.f,fun(s:Int×Sl T137)=>((0≤s.1∧s.1≤(x0.n:Int))∧((s.2.n:Nat):Int)≤0+(s.1-0)),fun(s:Int×Sl T137)=>(Int.toNat ((x0.n:Int)-s.1)),some fun(r:Sl T137)=>((r.n:Nat):Int)≤0+max ((x0.n:Int)-0) 0⟩ .z)) .z)))) (ms:=[]) (p:=((((0≤(0:Int)∧(0:Int)≤(x0.n:Int))∧((0:Nat):Int)≤0+((0:Int)-0)))∧(∀(v1_0:Int) (v1_1:Sl T137),((0≤v1_0∧v1_0≤(x0.n:Int))∧((v1_1.n:Nat):Int)≤0+(v1_0-0))→(((decide (v1_0<(x0.n:Int)))=true→(((0:Int)≤v1_0∧v1_0<((x0.n:Nat):Int))∧(v1_1.n+1≤549755813888)))∧(((decide (v1_0<(x0.n:Int)))=true→(((0≤(IntKind.i64.wrap (v1_0+1))∧(IntKind.i64.wrap (v1_0+1))≤(x0.n:Int))∧(((v1_1.n+1):Nat):Int)≤0+((IntKind.i64.wrap (v1_0+1))-0))∧(Int.toNat ((x0.n:Int)- (IntKind.i64.wrap (v1_0+1))))<(Int.toNat ((x0.n:Int)-v1_0))))∧((decide (v1_0<(x0.n:Int)))=false→(((v1_1.n:Nat):Int)≤0+max ((x0.n:Int)-0) 0))))))) (mkX_ok ⟨k2018,trivial⟩) Tryz.func13 rfl rfl (by kernel_rfl) (⟨(by omega),(fun v1_0 v1_1 hI1=>⟨(fun h2=>⟨(by have:=of_decide_eq_true h2;omega),(by have:=of_decide_eq_true h2;omega)⟩),⟨(fun h3=>(by have:=of_decide_eq_true h3;first|omega|(have:=wrap64 (x:=(v1_0+1)) (by omega) (by omega);omega))),(fun h4=>(by have:=of_decide_eq_false h4;omega))⟩⟩)⟩)
theorem k2013:XOk Tryz.prog 13 F2013.ans:=Fq.ok ⟨_,_,Tryz.func13,rfl,by kernel_rfl⟩ pc2013
theorem len2013l(x0:Sl T137)(hn:x0.n≤549755813888): ∀(m:Nat) (v:Int) (s:Sl T137),0≤v→v≤x0.n→m=Int.toNat ((x0.n:Int)-v)→((g2013_l1 x0 (m+1) v s).n:Int)=s.n+((x0.n:Int)-v)
 |0,v,s,h0,h1,hm=>by
  have: ¬v<(x0.n:Int):=by omega
  simp only[g2013_l1,this,decide_false,cond_false];omega
 |m+1,v,s,h0,h1,hm=>by
  have hv:v<(x0.n:Int):=by omega
  have hw:=wrap64 (x:=v+1) (by omega) (by omega)
  rw[g2013_l1]
  simp only[hv,decide_true,cond_true]
  rw[hw,len2013l x0 hn m (v+1) _ (by omega) (by omega) (by omega)]
  simp only[Sl.app_n,Sl.lit_n,List.length_cons,List.length_nil];omega
theorem len2013(x0:Sl T137):x0.n≤549755813888→(g2013 x0).n=x0.n:=fun h=>by
 have h1:((g2013_r1 x0).n:Int)=0+((x0.n:Int)-0):=len2013l x0 h _ 0 nilSl (by omega) (by omega) rfl
 show(g2013_r1 x0).n=_
 omega
noncomputable def g2017c(x0:Int)(x7:Int):Bool:=(x0==x7)
noncomputable def F2017c:Fq:=⟨[.g [kI,kI,kI,kI,kS,kI,.sl E9],.r [kI,kI,kI,kS,kS,kS,kI]],fun x0 _ _ _ _ _ _ x7 _ _ _ _ _ _=>⟨⟨none,.bool (g2017c x0 x7)⟩⟩⟩
theorem pc2017c:FnOk Tryz.prog 17 F2017c.sh _ (F2017c.sh.flatMap Sh.bs) F2017c.f []:=
 fun(x0:Int) (x1:Int) (x2:Int) (x3:Int) x4 _ (x5:Int) x6 _ _ (x7:Int) (x8:Int) (x9:Int) x10 x11 x12 (x13:Int)=>pure_of_exec (X:=X0) (R:=⟨.pure,[.tmp 3],[(.t 0,kB)],⟨[U],[]⟩⟩) (h:= .z) (ms:=[]) (p:=True) X0_ok Tryz.func17 rfl rfl (by kernel_rfl) (trivial)
theorem k2017c:XOk Tryz.prog 17 F2017c.ans:=Fq.ok ⟨_,_,Tryz.func17,rfl,by kernel_rfl⟩ pc2017c
noncomputable def g2016_2017c_l1(x0:Sl T137)(x1:Int):Nat→Int→Bool×Int
 |0,_=>default
 |k+1,v1_0=>(bif(decide (v1_0<(x0.n:Int)))then(bif(g2017c (x0.at' (Int.toNat v1_0)).c0 x1)then(true,v1_0)else(g2016_2017c_l1 x0 x1 k (IntKind.i64.wrap (v1_0+1))))else(false,default))
noncomputable def g2016_2017c_r1(x0:Sl T137)(x1:Int):Bool×Int:=g2016_2017c_l1 x0 x1 ((Int.toNat ((x0.n:Int)-0))+1) 0
noncomputable def g2016_2017c_p2(x0:Sl T137)(x1:Int):Bool:=(bif(g2016_2017c_r1 x0 x1).1 then false else true)
noncomputable def g2016_2017c(x0:Sl T137)(x1:Int):Int:=(bif(g2016_2017c_p2 x0 x1)then(-1)else(g2016_2017c_r1 x0 x1).2)
noncomputable def F2016_2017c:Fq:=⟨[.v (.sl E137),.fn 17 [[kI,kI,kI,kS,kS,kS,kI]]],fun x0 x1 _ _ _ _ _ _=>⟨⟨none,.int .i64 (g2016_2017c x0 x1)⟩⟩⟩
theorem pc2016_2017c:FnOk Tryz.prog 16 F2016_2017c.sh _ (F2016_2017c.sh.flatMap Sh.bs) F2016_2017c.f []:=
 fun x0 n0 _ (x1:Int) (x2:Int) (x3:Int) x4 x5 x6 (x7:Int)=>pure_of_exec (X:=(mkX [(17,F2017c.ans)])) (R:=⟨.pure,[.tmp 4],[(.t 0,kI)],⟨[U],[]⟩⟩) (h:=(.s .z (.j ⟨16,[],[],[],.f⟩ (.s .z (.lp ⟨403,[],[],[(.t 8,kI)],some 0,true,16,[],[],fun k (s:Int)=>g2016_2017c_l1 x0 x1 k s,.f,fun(s:Int)=>(0≤s∧s≤(x0.n:Int)),fun(s:Int)=>(Int.toNat ((x0.n:Int)-s)),none⟩ .z)) .z))) (ms:=[]) (p:=(((0≤(0:Int)∧(0:Int)≤(x0.n:Int)))∧(∀(v1_0:Int),(0≤v1_0∧v1_0≤(x0.n:Int))→(((decide (v1_0<(x0.n:Int)))=true→((0:Int)≤v1_0∧v1_0<((x0.n:Nat):Int)))∧((decide (v1_0<(x0.n:Int)))=true→((g2017c (x0.at' (Int.toNat v1_0)).c0 x1)=false→((0≤(IntKind.i64.wrap (v1_0+1))∧(IntKind.i64.wrap (v1_0+1))≤(x0.n:Int))∧(Int.toNat ((x0.n:Int)- (IntKind.i64.wrap (v1_0+1))))<(Int.toNat ((x0.n:Int)-v1_0))))))))) (mkX_ok ⟨k2017c,trivial⟩) Tryz.func16 rfl rfl (by kernel_rfl) (⟨(by omega),(fun v1_0 hI1=>⟨(fun h2=>(by have:=of_decide_eq_true h2;omega)),(fun h3=>(fun h4=>(by have:=of_decide_eq_true h3;first|omega|(have:=wrap64 (x:=(v1_0+1)) (by omega) (by omega);omega))))⟩)⟩)
theorem k2016_2017c:XOk Tryz.prog 16 F2016_2017c.ans:=Fq.ok ⟨_,_,Tryz.func16,rfl,by kernel_rfl⟩ pc2016_2017c
theorem l2016c(x0:Sl T137)(x1:Int)(hn:x0.n≤549755813888): ∀(m fu i:Nat),i+m=x0.n→m≤fu→(g2016_2017c_l1 x0 x1 (fu+1) (i:Int)=(false,default)∧ ∀t,i≤t→t<x0.n→g2017c (x0.at' t).c0 x1=false)∨ ∃t,i≤t∧t<x0.n∧g2016_2017c_l1 x0 x1 (fu+1) (i:Int)=(true,(t:Int))∧g2017c (x0.at' t).c0 x1=true∧ ∀u,i≤u→u<t→g2017c (x0.at' u).c0 x1=false
 |0,fu,i,h1,h2=>by
  have: ¬((i:Int)<(x0.n:Int)):=by omega
  refine .inl ⟨?_,fun t a b=>by omega⟩
  simp only[g2016_2017c_l1,this,decide_false,cond_false]
 |m+1,fu,i,h1,h2=>by
  obtain⟨fu,rfl⟩: ∃k,fu=k+1:=⟨fu-1,by omega⟩
  have hv:(i:Int)<(x0.n:Int):=by omega
  have hw:IntKind.i64.wrap ((i:Int)+1)=((i+1:Nat):Int):=by rw[wrap64 (by omega) (by omega)];rfl
  have e:g2016_2017c_l1 x0 x1 (fu+1+1) (i:Int)=(bif(g2017c (x0.at' i).c0 x1)then(true,(i:Int))else g2016_2017c_l1 x0 x1 (fu+1) ((i+1:Nat):Int)):=by
   rw[g2016_2017c_l1]
   simp only[hv,decide_true,cond_true,Int.toNat_natCast,hw]
  rw[e]
  cases g:g2017c (x0.at' i).c0 x1 with
  |true=>exact .inr ⟨i,Nat.le_refl _,by omega,rfl,g,fun u a b=>by omega⟩
  |false=>
   simp only[cond_false]
   rcases l2016c x0 x1 hn m fu (i+1) (by omega) (by omega)with⟨a1,a2⟩|⟨t,a1,a2,a3,a4,a5⟩
   ·refine .inl ⟨a1,fun t b1 b2=> ?_⟩
    by_cases e:t=i
    ·rw[e];exact g
    ·exact a2 t (by omega) b2
   ·refine .inr ⟨t,by omega,a2,a3,a4,fun u b1 b2=> ?_⟩
    by_cases e:u=i
    ·rw[e];exact g
    ·exact a5 u (by omega) b2
theorem r2016c(x0:Sl T137)(x1:Int)(hn:x0.n≤549755813888):(g2016_2017c x0 x1= -1∧ ∀t,t<x0.n→g2017c (x0.at' t).c0 x1=false)∨ ∃t:Nat,t<x0.n∧g2016_2017c x0 x1=(t:Int)∧g2017c (x0.at' t).c0 x1=true∧ ∀u,u<t→g2017c (x0.at' u).c0 x1=false:=by
 unfold g2016_2017c g2016_2017c_p2 g2016_2017c_r1
 rcases l2016c x0 x1 hn x0.n (Int.toNat ((x0.n:Int)-0)) 0 (by omega) (by omega)with⟨h1,h2⟩|⟨t,h1,h2,h3,h4,h5⟩
 ·rw[show g2016_2017c_l1 x0 x1 (Int.toNat ((x0.n:Int)-0)+1) 0=_ from h1]
  exact .inl ⟨rfl,fun t ht=>h2 t (Nat.zero_le _) ht⟩
 ·rw[show g2016_2017c_l1 x0 x1 (Int.toNat ((x0.n:Int)-0)+1) 0=_ from h3]
  exact .inr ⟨t,h2,rfl,h4,fun u hu=>h5 u (Nat.zero_le _) hu⟩
theorem f2016c(x0:Sl T137)(x1:Int)(hn:x0.n≤549755813888): -1≤g2016_2017c x0 x1∧g2016_2017c x0 x1<((x0.n:Nat):Int):=by
 rcases r2016c x0 x1 hn with⟨h,_⟩|⟨t,h1,h,_⟩<;>rw[h]<;>omega
end Go.Proofs.YtfbpilmhnpkfhaaGreatDoor
