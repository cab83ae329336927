/-
  Walks: what functions of the program answer, as functions.
-/
import Derived.Test.YtfbpilmhnpkfhaaGreatDoorCl
import Derived.Test.YtfbpilmhnpkfhaaGreatDoorEc
import Derived.Test.YtfbpilmhnpkfhaaGreatDoorGA
import Derived.Test.YtfbpilmhnpkfhaaGreatDoorGB
import Derived.Test.YtfbpilmhnpkfhaaGreatDoorVcH
import Derived.Test.YtfbpilmhnpkfhaaGreatDoorGC
import Derived.Test.YtfbpilmhnpkfhaaGreatDoorVcN
import Derived.Test.YtfbpilmhnpkfhaaGreatDoorGD
set_option linter.all false
namespace Go.Proofs.YtfbpilmhnpkfhaaGreatDoor
open Go Go.Vc Go.RowKit
set_option maxRecDepth 100000
set_option maxHeartbeats 4000000
noncomputable def g85w_l1(x3:Sl T137):Nat→Int→Sl T137→Sl T137
 |0,_,_=>default
 |k+1,v1_0,v1_1=>(bif(decide (v1_0<(x3.n:Int)))then(g85w_l1 x3 k (IntKind.i64.wrap (v1_0+1)) (Sl.app v1_1 (Sl.lit ([(⟨(x3.at' (Int.toNat v1_0)).c0,(x3.at' (Int.toNat v1_0)).c1,(x3.at' (Int.toNat v1_0)).c2,(g152_0 (x3.at' (Int.toNat v1_0)).c3),(g152_1 (x3.at' (Int.toNat v1_0)).c4),(g152_2 (x3.at' (Int.toNat v1_0)).c5),(g152_3 (x3.at' (Int.toNat v1_0)).c6)⟩:T137)]:List T137))))else v1_1)
noncomputable def g85w_r1(x3:Sl T137):Sl T137:=g85w_l1 x3 ((Int.toNat ((x3.n:Int)-0))+1) 0 (nilSl:Sl T137)
noncomputable def g85w_0(x0:Int):Int:=(g79_0 x0)
noncomputable def g85w_1(x1:Sl T175):Sl T175:=(g79_1 x1)
noncomputable def g85w_2(x2:Int):Int:=x2
noncomputable def g85w_h0_0(x3:Sl T137):Sl T137:=(g85w_r1 x3)
noncomputable def F85w:Hq:=⟨[.g [kI,.sl E175,kI,.sl E137]],[],[],fun x0 x1 x2 x3=>⟨⟨none,[.agg [.int .i64 (g85w_0 x0),ofSl 8 e175 (g85w_1 x1),.int .i64 (g85w_2 x2),.own 0 ((g85w_h0_0 x3)).n]],[[(Kd.blk E137).av (g85w_h0_0 x3)]]⟩⟩⟩
theorem pc85w:HqOk Tryz.prog 4 F85w _ (F85w.sh.flatMap Sh.bs) F85w.f []:=
 fun(x0:Int) x1 n1 (x2:Int) x3 n3=>heap_of_exec (X:=(mkX [(9,F79.ans),(10,F152.ans)])) (R:=⟨.hp2 false [] [.own (.c 0 3) E137 0],[.cell 2 27],[(.c 0 0,kI),(.c 0 1,.sl E175),(.c 0 2,kI),(.h 0 0,.blk E137)],⟨[.agg [U,U,U,.own 0 0]],[[U]]⟩⟩) (h:=(.s .z (.s .z (.j ⟨12,[],[],[],.f⟩ (.s .z (.lp ⟨30,[],[(.h 2 3,E137)],[(.t 4,kI),(.h 3 0,.blk E137)],some 0,false,12,[.b 0],[(.h 3 0,.blk E137)],fun k (s:Int×Sl T137)=>g85w_l1 x3 k s.1 s.2,.f,fun(s:Int×Sl T137)=>((0≤s.1∧s.1≤(x3.n:Int))∧((s.2.n:Nat):Int)≤0+(s.1-0)),fun(s:Int×Sl T137)=>(Int.toNat ((x3.n:Int)-s.1)),some fun(r:Sl T137)=>((r.n:Nat):Int)≤0+max ((x3.n:Int)-0) 0⟩ .z)) .z)))) (ms:=[]) (p:=((((0≤(0:Int)∧(0:Int)≤(x3.n:Int))∧((0:Nat):Int)≤0+((0:Int)-0)))∧(∀(v1_0:Int) (v1_1:Sl T137),((0≤v1_0∧v1_0≤(x3.n:Int))∧((v1_1.n:Nat):Int)≤0+(v1_0-0))→(((decide (v1_0<(x3.n:Int)))=true→(((0:Int)≤v1_0∧v1_0<((x3.n:Nat):Int))∧(v1_1.n+1≤549755813888)))∧(((decide (v1_0<(x3.n:Int)))=true→(((0≤(IntKind.i64.wrap (v1_0+1))∧(IntKind.i64.wrap (v1_0+1))≤(x3.n:Int))∧(((v1_1.n+1):Nat):Int)≤0+((IntKind.i64.wrap (v1_0+1))-0))∧(Int.toNat ((x3.n:Int)- (IntKind.i64.wrap (v1_0+1))))<(Int.toNat ((x3.n:Int)-v1_0))))∧((decide (v1_0<(x3.n:Int)))=false→(((v1_1.n:Nat):Int)≤0+max ((x3.n:Int)-0) 0))))))) (mkX_ok ⟨k79,k152,trivial⟩) Tryz.func4 rfl rfl rfl (by kernel_rfl) (⟨(by omega),(fun v1_0 v1_1 hI1=>⟨(fun h2=>⟨(by have:=of_decide_eq_true h2;omega),(by have:=of_decide_eq_true h2;omega)⟩),⟨(fun h3=>(by have:=of_decide_eq_true h3;first|omega|(have:=wrap64 (x:=(v1_0+1)) (by omega) (by omega);omega))),(fun h4=>(by have:=of_decide_eq_false h4;omega))⟩⟩)⟩)
theorem k85w:XHOk Tryz.prog 4 F85w.ans:=Hq.ok ⟨_,_,Tryz.func4,rfl,by kernel_rfl⟩ (by kernel_rfl) pc85w
noncomputable def g2041_m2(x3:Sl T137)(v2_1:Int):Bool:=(bif(decide (v2_1<(x3.n:Int)))then(decide ((x3.n:Int)≥4))else false)
noncomputable def g2041_m4(x3:Sl T137)(v2_0:Int)(v2_1:Int):Bool:=(bif(decide (v2_0<0))then true else(decide ((x3.at' (Int.toNat v2_1)).c2<(x3.at' (Int.toNat v2_0)).c2)))
noncomputable def g2041_m5(x3:Sl T137)(v2_0:Int)(v2_1:Int):Int:=(bif(g2041_m4 x3 v2_0 v2_1)then v2_1 else v2_0)
noncomputable def g2041_l2(x3:Sl T137):Nat→Int→Int→Int
 |0,_,_=>default
 |k+1,v2_0,v2_1=>(bif(g2041_m2 x3 v2_1)then(g2041_l2 x3 k (g2041_m5 x3 v2_0 v2_1) (IntKind.i64.wrap (v2_1+1)))else v2_0)
noncomputable def g2041_r6(x3:Sl T137):Int:=g2041_l2 x3 ((Int.toNat (((x3.n:Nat):Int)-0))+1) (-1) 0
noncomputable def g2041_m7(x3:Sl T137)(v19_0:Int)(v19_1:Sl T137):Sl T137:=(bif(v19_0 !=(g2041_r6 x3))then(Sl.app v19_1 (Sl.lit ([(x3.at' (Int.toNat v19_0))]:List T137)))else v19_1)
noncomputable def g2041_l19(x3:Sl T137):Nat→Int→Sl T137→Sl T137
 |0,_,_=>default
 |k+1,v19_0,v19_1=>(bif(decide (v19_0<(x3.n:Int)))then(g2041_l19 x3 k (IntKind.i64.wrap (v19_0+1)) (g2041_m7 x3 v19_0 v19_1))else v19_1)
noncomputable def g2041_r8(x3:Sl T137):Sl T137:=g2041_l19 x3 ((Int.toNat ((x3.n:Int)-0))+1) 0 (nilSl:Sl T137)
noncomputable def g2041_0_0(x0:Int):Int:=x0
noncomputable def g2041_0_1(x1:Sl T175):Sl T175:=x1
noncomputable def g2041_0_2(x2:Int):Int:=(bif(decide (x2>1048576))then x2 else(IntKind.i64.wrap (x2+1)))
noncomputable def g2041_0_3(x0:Int)(x2:Int)(x3:Sl T137):Sl T137:=(bif(decide (x2>1048576))then x3 else(Sl.app (g2041_r8 x3) (Sl.lit ([(⟨x2,0,x0,0,⟨#[]⟩,0,(nilSl:Sl ByteArray)⟩:T137)]:List T137))))
noncomputable def g2041_1_0(x2:Int):Int:=(bif(decide (x2>1048576))then 6 else 0)
noncomputable def g2041_1_1:ByteArray:=⟨#[]⟩
noncomputable def g2041_1_2(x2:Int):Int:=(bif(decide (x2>1048576))then 0 else x2)
noncomputable def g2041_1_3:Sl ByteArray:=(nilSl:Sl ByteArray)
theorem b2041(x3:Sl T137)(a b:Int):g2041_m5 x3 a b=b∨g2041_m5 x3 a b=a:=by
 unfold g2041_m5
 cases g2041_m4 x3 a b
 ·exact .inr rfl
 ·exact .inl rfl
theorem n2041(x3:Sl T137)(a:Int)(s:Sl T137):(g2041_m7 x3 a s).n≤s.n+1:=by
 unfold g2041_m7
 cases (a !=g2041_r6 x3)
 ·exact Nat.le_succ _
 ·exact Nat.le_refl _
noncomputable def F2041:Fq:=⟨[.g [kI,.sl E175,kI,.sl E137]],fun(x0:Int) x1 (x2:Int) x3=>⟨⟨some (x3.n≤1048576),.tup [.agg [.int .i64 (g2041_0_0 x0),ofSl 8 e175 (g2041_0_1 x1),.int .i64 (g2041_0_2 x2),ofSl 7 e137 (g2041_0_3 x0 x2 x3)],.agg [.int .i64 (g2041_1_0 x2),.str g2041_1_1,.int .i64 (g2041_1_2 x2),ofSl 1 e9 g2041_1_3]]⟩⟩⟩
theorem pc2041:FnOk Tryz.prog 41 F2041.sh _ (F2041.sh.flatMap Sh.bs) F2041.f []:=
 fun(x0:Int) x1 n1 _ (x2:Int) x3 n3 _ hp=>pure_of_exec (X:=X0) (R:=⟨.pure,[.cell 2 27,.cell 3 36],[(.c 0 0,kI),(.c 0 1,.sl E175),(.c 0 2,kI),(.c 0 3,.sl E137),(.c 1 0,kI),(.c 1 1,kS),(.c 1 2,kI),(.c 1 3,.sl E9)],⟨[.agg (us 4 []),.agg (us 4 [])],[]⟩⟩) (h:=(.s .z (.s .z (.s .z (.j ⟨30,[],[],[],.f⟩ (.s .z (.lp ⟨62,[],[],[(.t 4,kI),(.t 5,kI)],some 0,false,30,[],[(.t 4,kI)],fun k (s:Int×Int)=>g2041_l2 x3 k s.1 s.2,.f,fun(s:Int×Int)=>(0≤s.2∧s.2≤((x3.n:Nat):Int)∧ -1≤s.1∧s.1<s.2+1∧(s.1<s.2∨s.1= -1)),fun(s:Int×Int)=>(Int.toNat (((x3.n:Nat):Int)-s.2)),none⟩ (.s (.j ⟨8904766,[],[(.t 18,kB),(.t 23,kB)],[],.f⟩ .z .z) (.j ⟨4398525177918,[],[(.t 4,kI)],[],.f⟩ (.j ⟨4398525177918,[],[(.t 28,kB),(.t 42,kB)],[],.f⟩ .z .z) .z)))) (.s .z (.j ⟨78,[],[],[],.f⟩ (.s .z (.lp ⟨222,[],[(.h 3 3,E137)],[(.t 7,kI),(.h 4 0,.blk E137)],some 2,false,78,[],[(.h 4 0,.blk E137)],fun k (s:Int×Sl T137)=>g2041_l19 x3 k s.1 s.2,.f,fun(s:Int×Sl T137)=>((0≤s.1∧s.1≤(x3.n:Int))∧((s.2.n:Nat):Int)≤0+(s.1-0)),fun(s:Int×Sl T137)=>(Int.toNat ((x3.n:Int)-s.1)),some fun(r:Sl T137)=>((r.n:Nat):Int)≤0+max ((x3.n:Int)-0) 0⟩ (.s .z (.j ⟨1043709213643112670,[.b 5],[(.h 4 0,.blk E137)],[],.f⟩ .z .z)))) .z))))))) (ms:=[.l,.l,.f,.f,.f,.l,.f,.l]) (p:=((decide (x2>1048576))=false→((((0≤(0:Int)∧(0:Int)≤((x3.n:Nat):Int)∧ -1≤((-1):Int)∧((-1):Int)<(0:Int)+1∧(((-1):Int)<(0:Int)∨((-1):Int)= -1)))∧(∀(v2_0:Int) (v2_1:Int),(0≤v2_1∧v2_1≤((x3.n:Nat):Int)∧ -1≤v2_0∧v2_0<v2_1+1∧(v2_0<v2_1∨v2_0= -1))→(((g2041_m2 x3 v2_1)=true→((decide (v2_0<0))=false→(((0:Int)≤v2_1∧v2_1<((x3.n:Nat):Int))∧((0:Int)≤v2_0∧v2_0<((x3.n:Nat):Int)))))∧((g2041_m2 x3 v2_1)=true→((0≤(IntKind.i64.wrap (v2_1+1))∧(IntKind.i64.wrap (v2_1+1))≤((x3.n:Nat):Int)∧ -1≤(g2041_m5 x3 v2_0 v2_1)∧(g2041_m5 x3 v2_0 v2_1)<(IntKind.i64.wrap (v2_1+1))+1∧((g2041_m5 x3 v2_0 v2_1)<(IntKind.i64.wrap (v2_1+1))∨(g2041_m5 x3 v2_0 v2_1)= -1))∧(Int.toNat (((x3.n:Nat):Int)- (IntKind.i64.wrap (v2_1+1))))<(Int.toNat (((x3.n:Nat):Int)-v2_1)))))))∧(((((0≤(0:Int)∧(0:Int)≤(x3.n:Int))∧((0:Nat):Int)≤0+((0:Int)-0)))∧(∀(v19_0:Int) (v19_1:Sl T137),((0≤v19_0∧v19_0≤(x3.n:Int))∧((v19_1.n:Nat):Int)≤0+(v19_0-0))→(((decide (v19_0<(x3.n:Int)))=true→((v19_0 !=(g2041_r6 x3))=true→(((0:Int)≤v19_0∧v19_0<((x3.n:Nat):Int))∧(v19_1.n+1≤549755813888))))∧(((decide (v19_0<(x3.n:Int)))=true→(((0≤(IntKind.i64.wrap (v19_0+1))∧(IntKind.i64.wrap (v19_0+1))≤(x3.n:Int))∧(((g2041_m7 x3 v19_0 v19_1).n:Nat):Int)≤0+((IntKind.i64.wrap (v19_0+1))-0))∧(Int.toNat ((x3.n:Int)- (IntKind.i64.wrap (v19_0+1))))<(Int.toNat ((x3.n:Int)-v19_0))))∧((decide (v19_0<(x3.n:Int)))=false→(((v19_1.n:Nat):Int)≤0+max ((x3.n:Int)-0) 0))))))∧(((((g2041_r8 x3).n:Nat):Int)≤0+max ((x3.n:Int)-0) 0)→((g2041_r8 x3).n+1≤549755813888)))))) X0_ok Tryz.func41 rfl rfl (by kernel_rfl) ((fun h1=>⟨⟨(by have:=of_decide_eq_false h1;omega),(fun v2_0 v2_1 hI2=>⟨(fun h3=>(fun h4=>⟨(by have:=of_decide_eq_false h1;have:=h3;(try simp [g2041_m2]at this);have:=of_decide_eq_false h4;omega),(by have:=of_decide_eq_false h1;have:=h3;(try simp [g2041_m2]at this);have:=of_decide_eq_false h4;omega)⟩)),(fun h5=>(by have:=of_decide_eq_false h1;have:=h5;(try simp [g2041_m2]at this);have:=b2041 x3 v2_0 v2_1;first|omega|(have:=wrap64 (x:=(v2_1+1)) (by omega) (by omega);omega)))⟩)⟩,⟨⟨(by have:=of_decide_eq_false h1;omega),(fun v19_0 v19_1 hI6=>⟨(fun h7=>(fun h8=>⟨(by have:=of_decide_eq_false h1;have:=of_decide_eq_true h7;have:=bne_iff_ne.1 h8;omega),(by have:=of_decide_eq_false h1;have:=of_decide_eq_true h7;have:=bne_iff_ne.1 h8;omega)⟩)),⟨(fun h9=>(by have:=of_decide_eq_false h1;have:=of_decide_eq_true h9;have:=n2041 x3 v19_0 v19_1;first|omega|(have:=wrap64 (x:=(v19_0+1)) (by omega) (by omega);omega))),(fun h10=>(by have:=of_decide_eq_false h1;have:=of_decide_eq_false h10;omega))⟩⟩)⟩,(fun hF11=>(by have:=of_decide_eq_false h1;omega))⟩⟩))
theorem k2041:XOk Tryz.prog 41 F2041.ans:=Fq.ok ⟨_,_,Tryz.func41,rfl,by kernel_rfl⟩ pc2041
end Go.Proofs.YtfbpilmhnpkfhaaGreatDoor
/-
  What the reference's call leans on: a store that may be, and what is still there of it.
-/
namespace Go.Proofs.YtfbpilmhnpkfhaaGreatDoor
open Go Go.Vc Go.RowKit
set_option maxRecDepth 100000
set_option maxHeartbeats 4000000
def FSq(x0:Int)(x1:Sl T175):Prop:=CE x1∧g78 x0 x1=0
section
variable {x0 x4:Int} {x1:Sl T175} {x3:Sl T137}
theorem fs_n(h:FSq x0 x1):x1.n≤12:=(chk78 x0 x1 h.1.z h.2).1.2
theorem fs_sv(h:FSq x0 x1):SV x1:=sv78 x0 x1 h.1 h.2
theorem e85w(h:CC x3):g85w_h0_0 x3=x3:=by
 have e:g85w_h0_0 x3=g85_3 x3:=by kernel_rfl
 rw[e];exact cc85 h
theorem n85w(h:CC x3):(g85w_h0_0 x3).n≤1048576:=by rw[e85w h];exact h.2.1
theorem r1056(x0:Int)(s:Sl T175)(x2:Int)(hn:s.n≤1048576):g1056_r5 x0 s x2=(List.range s.n).foldl (fun st (j:Nat)=>g1056_m4 x0 s x2 (j:Int) st) nilSl:=
 fold0 (fun n i (st:Sl T175)=>g1056_l3 x0 s x2 n i st) s.n (fun j st=>g1056_m4 x0 s x2 (j:Int) st) id (by omega) (fun n i st=>by
  show(bif decide (i<(s.n:Int))then _ else _)=_
  cases e:decide (i<(s.n:Int))with
  |false=>rfl
  |true=>simp only[cond_true,g1056_m4,g1056_m3,Int.toNat_natCast]) nilSl
theorem ce1056(h:CE x1):CE (g1056_r5 x0 x1 x4)∧(g1056_r5 x0 x1 x4).n≤x1.n:=by
 rw[r1056 x0 x1 x4 h.2.1]
 have key: ∀(l:List Nat) (a:Sl T175),(∀j∈l,j<x1.n)→Canon a→(∀i,i<a.n→W175 (a.at' i))→
   let r:=l.foldl (fun st (j:Nat)=>g1056_m4 x0 x1 x4 (j:Int) st) a
   Canon r∧(∀i,i<r.n→W175 (r.at' i))∧r.n≤a.n+l.length:=by
  intro l
  induction l with
  |nil=>intro a _ c w;exact⟨c,w,Nat.le_refl _⟩
  |cons j l ih=>
   intro a hl c w
   have hj:=hl j (by simp)
   have hs:Canon (g1056_m4 x0 x1 x4 (j:Int) a)∧(∀i,i<(g1056_m4 x0 x1 x4 (j:Int) a).n→W175 ((g1056_m4 x0 x1 x4 (j:Int) a).at' i))∧(g1056_m4 x0 x1 x4 (j:Int) a).n≤a.n+1:=by
    unfold g1056_m4
    cases g1056_m3 x0 x1 x4 (j:Int)with
    |false=>exact⟨c,w,Nat.le_succ _⟩
    |true=>
     refine⟨Canon.app (Canon.lit _),fun i hi=> ?_,Nat.le_refl _⟩
     have hi:i<a.n+1:=hi
     show W175 (bif Nat.blt i a.n then a.at' i else([x1.at' (Int.toNat (j:Int))]:List T175).getD (i-a.n) default)
     rcases Nat.lt_or_ge i a.n with g|g
     ·rw[show Nat.blt i a.n=true from Nat.ble_eq_true_of_le g];exact w i g
     ·have e:i=a.n:=by omega
      subst e
      rw[show Nat.blt a.n a.n=false from by
       cases q:Nat.blt a.n a.n with
       |false=>rfl
       |true=>exact absurd (Nat.le_of_ble_eq_true q) (by omega),Nat.sub_self]
      exact h.2.2 j hj
   obtain⟨s1,s2,s3⟩:=hs
   have:=ih (g1056_m4 x0 x1 x4 (j:Int) a) (fun q hq=>hl q (by simp [hq])) s1 s2
   obtain⟨t1,t2,t3⟩:=this
   refine⟨t1,t2,?_⟩
   simp only[List.length_cons,List.foldl_cons]at t3 ⊢
   omega
 obtain⟨k1,k2,k3⟩:=key (List.range x1.n) nilSl (fun j hj=>List.mem_range.1 hj) Canon.nil (fun i hi=>absurd hi (Nat.not_lt_zero i))
 have k3:((List.range x1.n).foldl (fun st (j:Nat)=>g1056_m4 x0 x1 x4 (j:Int) st) nilSl).n≤0+(List.range x1.n).length:=k3
 rw[List.length_range]at k3
 exact⟨⟨k1,by have:=h.2.1;omega,k2⟩,by omega⟩
theorem t22:g1056_0_1 x0 x1 x4 22 ⟨#[]⟩ ⟨#[]⟩ ⟨#[]⟩ 0=g1056_r5 x0 x1 x4:=rfl
theorem now22:g1056_0_0 x0 x1 x4 22 ⟨#[]⟩ ⟨#[]⟩ ⟨#[]⟩ 0=g1056_m1 x0 x4:=rfl
theorem e22(h:CE x1):g85w_1 (g1056_0_1 x0 x1 x4 22 ⟨#[]⟩ ⟨#[]⟩ ⟨#[]⟩ 0)=g1056_r5 x0 x1 x4:=by
 rw[t22];exact ce79 (ce1056 h).1
theorem n22(x4:Int)(h:FSq x0 x1):(g85w_1 (g1056_0_1 x0 x1 x4 22 ⟨#[]⟩ ⟨#[]⟩ ⟨#[]⟩ 0)).n≤12:=by
 rw[e22 h.1];exact Nat.le_trans (ce1056 h.1).2 (fs_n h)
theorem sv22(h:FSq x0 x1):SV (g85w_1 (g1056_0_1 x0 x1 x4 22 ⟨#[]⟩ ⟨#[]⟩ ⟨#[]⟩ 0)):=by
 rw[e22 h.1];exact sv1056 (fs_sv h)
theorem cy85(h:CC x3):CY (g85_3 x3):=(cc85' h).y
theorem fs86{x2:Int}(hc:CE x1)(h:g86 x0 x1 x2 x3=0):FSq x0 x1:=by
 refine⟨hc,?_⟩
 rw[g78_eq x0 x1 (by have:=hc.2.1;omega) hc.2.2]
 unfold g86 at h
 obtain⟨h1,_⟩:=bz h (by decide)
 unfold g86_m1 at h1
 exact bne_eq_false_iff_eq.1 (bt h1).1
end
end Go.Proofs.YtfbpilmhnpkfhaaGreatDoor
/-
  store.Apply, once more, as the reference has it: what both answer at a store that may be.
-/
namespace Go.Proofs.YtfbpilmhnpkfhaaGreatDoor
open Go Go.Vc Go.RowKit
set_option maxRecDepth 100000
set_option maxHeartbeats 4000000
theorem hl78(x0:Int)(s:Sl T175)(hn:s.n≤549755813888):g78_r10 x0 s=scan (fun i=>g78_m7 s i||g78_m9 x0 s i) (fun _=>13) s.n 0:=scan0 (g78_l5 x0 s) s.n _ _ (by omega) fun k i=>by
 show(bif decide (i<(s.n:Int))then(bif(g78_m7 s i)then(true,13)else(bif(g78_m9 x0 s i)then(true,13)else g78_l5 x0 s k (IntKind.i64.wrap (i+1))))else(false,default))=_
 rw[bif_or]
theorem keys78{x0:Int}{s:Sl T175}(hc:CZ s)(h:g78 x0 s=0): ∀e∈s.B,1≤e.c0.size∧e.c0.size≤12:=by
 have hn:=hc.1
 unfold g78 at h
 obtain⟨_,h⟩:=bz h (by decide)
 unfold g78_p11 at h
 rw[fall (hl78 x0 s hn)]at h
 obtain⟨hh,_⟩:=bz h (by decide)
 intro e he
 obtain⟨i,hi,rfl⟩:=mem_B he
 have q:=hit_nat hh i hi
 simp only[Bool.or_eq_false_iff]at q
 have q1:=q.1
 unfold g78_m7 at q1
 simp only[Int.toNat_natCast]at q1
 obtain⟨a,q1⟩:=bt q1
 obtain⟨b,_⟩:=bt q1
 have a:=df a
 have b:=df b
 omega
theorem chk_to{now:Int}{t:Sl T175}(h:Fit now t)(h0:0≤now∧now≤1073741824)(hk: ∀e∈t.B,1≤e.c0.size∧e.c0.size≤12):g78 now t=0:=by
 have hn:=h.n
 have m1:g78_m1 now t=false:=by
  unfold g78_m1
  rw[decide_eq_false (by omega),decide_eq_false (by omega),decide_eq_false (by omega)];rfl
 have hc:g78_r10 now t=(false,default):=by
  rw[hl78 now t (by omega)]
  refine scan_clean t.n 0 fun j h1 h2=> ?_
  obtain⟨i,rfl⟩:=Int.eq_ofNat_of_zero_le h1
  have hi:i<t.n:=by omega
  show(g78_m7 t (i:Int)||g78_m9 now t (i:Int))=false
  have e7:g78_m7 t (i:Int)=false:=by
   unfold g78_m7
   obtain⟨k1,k2⟩:=hk _ (at_mem hi)
   rw[Int.toNat_natCast,decide_eq_false (by omega),decide_eq_false (by omega),h.ok i hi]
   show(bif false then true else bif false then true else bif((0:Int)!=0)then true else _)=false
   simp only[cond_false,bne_self_eq_false]
   by_cases hp:i=0
   ·subst hp;rfl
   ·obtain⟨k,rfl⟩: ∃k,i=k+1:=⟨i-1,by omega⟩
    have hr:=h.rise k (k+1) (by omega) hi
    rw[decide_eq_true (show((k+1:Nat):Int)>0 by omega),show IntKind.i64.wrap (((k+1:Nat):Int)-1)=(k:Int) by rw[wrap64 (by omega) (by omega)];omega,Int.toNat_natCast]
    simp only[cond_true]
    rw[hr];rfl
  have e9:g78_m9 now t (i:Int)=false:=by
   unfold g78_m9
   rw[Int.toNat_natCast]
   rcases h.u i hi with e|⟨e1,e2⟩
   ·rw[e];rfl
   ·cases ((t.at' i).c7 !=0)with
    |false=>rfl
    |true=>rw[decide_eq_false (by omega),decide_eq_false (by omega)];rfl
  rw[e7,e9];rfl
 unfold g78 g78_p11
 rw[m1,hc];rfl
structure Ap (x0:Int) (x1:Sl T175) (x2 x3:Int) (x4 x5 x6:ByteArray) (x7:Int):Prop where
 w:g1016_0_0 x0 x1 x2 x3 x4 x5 x6 x7=g1056_m1 x0 x2
 w':g1056_0_0 x0 x1 x2 x3 x4 x5 x6 x7=g1056_m1 x0 x2
 e:(g1016_0_1 x0 x1 x2 x3 x4 x5 x6 x7).B.map cE=(g79_1 (g1056_0_1 x0 x1 x2 x3 x4 x5 x6 x7)).B.map cE
 z: ∀e∈(g1016_0_1 x0 x1 x2 x3 x4 x5 x6 x7).B,Z3 e
 n:(g1016_0_1 x0 x1 x2 x3 x4 x5 x6 x7).n≤13
 r0:g1016_1_0 x0 x1 x2 x3 x4 x5 x6 x7=g1056_1_0 x0 x1 x2 x3 x4 x5 x6 x7
 r1:g1016_1_1 x0 x1 x2 x3 x4 x5 x6 x7=g1056_1_1 x0 x1 x2 x3 x4 x5 x6 x7
 r2:g1016_1_2 x0 x1 x2 x3 x4 x5 x6 x7=g1056_1_2 x0 x1 x2 x3 x4 x5 x6 x7
 r3:(g1016_1_3 x0 x1 x2 x3 x4 x5 x6 x7).B=(g1056_1_3 x0 x1 x2 x3 x4 x5 x6 x7).B
 l3:(g1016_1_3 x0 x1 x2 x3 x4 x5 x6 x7).n≤60
theorem now_in{x0 x2:Int}(h:0≤x0∧x0≤1073741824)(d2:g1016_m1 x2=false):0≤g1056_m1 x0 x2∧g1056_m1 x0 x2≤1073741824:=by
 unfold g1016_m1 at d2
 obtain⟨u1,u2⟩:=bt d2
 have u1:=df u1
 have u2:=df u2
 unfold g1056_m1
 by_cases g:x2>x0
 ·rw[decide_eq_true g];simp only[cond_true];omega
 ·rw[decide_eq_false g];simp only[cond_false];omega
theorem app_ok{x0:Int}{x1:Sl T175}{x2 x3:Int}{x4 x5 x6:ByteArray}{x7:Int}(hc:CE x1)(z78:g78 x0 x1=0)(d2:g1016_m1 x2=false)(z47:g47 x3 x4 x5 x6 x7=0)(h7: -9223372036854775808≤x7∧x7≤9223372036854775807):Ap x0 x1 x2 x3 x4 x5 x6 x7:=by
 have d1:(g78 x0 x1 !=0)=false:=bne_eq_false_iff_eq.2 z78
 have d3:(g47 x3 x4 x5 x6 x7 !=0)=false:=bne_eq_false_iff_eq.2 z47
 have hk:=chk hc.z z78
 have hk12:=hk.n
 obtain⟨now,hnow⟩: ∃now,now=g1056_m1 x0 x2:=⟨_,rfl⟩
 have e1:imax (g1049 x0) x2=now:=by rw[hnow];exact now_eq x0 x2
 obtain⟨s,hs⟩: ∃s,s=g1050_1051p_h3_0 now 0 false (g1049_h0_0 x1):=⟨_,rfl⟩
 obtain⟨t,ht⟩: ∃t,t=g1056_r5 x0 x1 x2:=⟨_,rfl⟩
 have sB:s.B=x1.B.filter (keepE now):=by rw[hs];exact B1016 now 0 false (by omega)
 have tB:t.B=x1.B.filter (keepE now):=by rw[ht,hnow];exact B1056 x0 x1 x2 (by omega)
 have hF:Fit now t:=fit hk tB
 have hB:s.B=t.B:=sB.trans tB.symm
 have h0:0≤now∧now≤1073741824:=by rw[hnow];exact now_in hk.now d2
 have D:=dsAll (x0:=x3) (x1:=x4) (x2:=x5) (x3:=x6) (x4:=x7) (now:=now) z47 h0 h7 hB hF
 have Z:=z1052 (x0:=x3) (x1:=x4) (x2:=x5) (x3:=x6) (x4:=x7) (now:=now) z47 hB hF
 have Dn:(g1052_h2_0 x3 x4 x5 x6 x7 now s).n≤13:=by
  have h1:=n1052h (x0:=x3) (x1:=x4) (x2:=x5) (x3:=x6) (x4:=x7) (now:=now) (s:=s)
  have h2:=hF.n
  have h3:=nB' hB
  omega
 have pB:(g1049_h0_0 (g1052_h2_0 x3 x4 x5 x6 x7 now s)).B=(g1052_h2_0 x3 x4 x5 x6 x7 now s).B:=B1049 _ (by omega)
 have zr: ∀e∈(g1115_0_1 now t x3 x4 x5 x6 x7).B,Z3 e:=fun e he=>by
  have h1:cE e∈(g1052_h2_0 x3 x4 x5 x6 x7 now s).B.map cE:=by rw[D.e];exact List.mem_map_of_mem he
  obtain⟨u,hu,hue⟩:=List.mem_map.1 h1
  obtain⟨z1,z2,z3⟩:=Z u hu
  unfold cE at hue
  simp only[Prod.mk.injEq]at hue
  obtain⟨_,_,_,_,k4,k5,k6,_⟩:=hue
  exact⟨by rw[←nB' k4];exact z1,by rw[←nB' k5];exact z2,by rw[←nB' k6];exact z3⟩
 have rn:(g1115_0_1 now t x3 x4 x5 x6 x7).n≤549755813888:=by
  have h1:=congrArg List.length D.e
  simp only[List.length_map,B_len]at h1
  omega
 have rB:=B79 _ rn zr
 have p1:g1016_0_1 x0 x1 x2 x3 x4 x5 x6 x7=g1049_h0_0 (g1052_h2_0 x3 x4 x5 x6 x7 now s):=by unfold g1016_0_1;rw[d1,d2,d3,e1,←hs];rfl
 have q1:g1056_0_1 x0 x1 x2 x3 x4 x5 x6 x7=g1115_0_1 now t x3 x4 x5 x6 x7:=by unfold g1056_0_1;rw[←hnow,←ht]
 refine⟨?_,?_,?_,?_,?_,?_,?_,?_,?_,?_⟩
 ·unfold g1016_0_0;rw[d1,d2,d3,e1,hnow];rfl
 ·unfold g1056_0_0;rw[←hnow,←ht];exact D.w
 ·rw[p1,q1,pB,rB];exact D.e
 ·rw[p1,pB];exact Z
 ·rw[p1,nB' pB];exact Dn
 ·unfold g1016_1_0 g1056_1_0;rw[d1,d2,d3,e1,←hs,←hnow,←ht];exact D.r0
 ·unfold g1016_1_1 g1056_1_1;rw[d1,d2,d3,e1,←hs,←ht];exact D.r1
 ·unfold g1016_1_2 g1056_1_2;rw[d1,d2,d3,e1,←hs,←hnow,←ht];exact D.r2
 ·unfold g1016_1_3 g1056_1_3;rw[d1,d2,d3,e1,←hs,←ht];exact D.r3
 ·unfold g1016_1_3;rw[d1,d2,d3,e1,←hs];exact D.l3
theorem canon_foldl{α:Type}[Inhabited α](f:Nat→α): ∀(l:List Nat) (a:Sl α),Canon a→Canon (l.foldl (fun st j=>Sl.app st (Sl.lit [f j])) a)
 |[],_,h=>h
 |_::l,_,_=>canon_foldl f l _ (Canon.app (Canon.lit _))
theorem canon_own(s:Sl T175)(hn:s.n≤549755813888):Canon (g1049_h0_0 s):=by
 have h:=fold0 (fun n i (st:Sl T175)=>g1049_l1 s n i st) s.n (fun j st=>Sl.app st (Sl.lit [s.at' j])) id hn (fun _ _ _=>rfl) nilSl
 have h2:g1049_h0_0 s=_:=h
 rw[h2]
 exact canon_foldl _ _ _ Canon.nil
theorem first{x0:Int}{x1:Sl T175}{x2:Int}(hc:CE x1)(z78:g78 x0 x1=0)(d2:g1016_m1 x2=false):g1016_0_1 x0 x1 x2 22 ⟨#[]⟩ ⟨#[]⟩ ⟨#[]⟩ 0=g1056_r5 x0 x1 x2∧g1016_0_0 x0 x1 x2 22 ⟨#[]⟩ ⟨#[]⟩ ⟨#[]⟩ 0=g1056_m1 x0 x2∧g78 (g1056_m1 x0 x2) (g1056_r5 x0 x1 x2)=0:=by
 have d1:(g78 x0 x1 !=0)=false:=bne_eq_false_iff_eq.2 z78
 have d3:(g47 22 ⟨#[]⟩ ⟨#[]⟩ ⟨#[]⟩ 0 !=0)=false:=by decide+kernel
 have hk:=chk hc.z z78
 have hk12:=hk.n
 have e1:imax (g1049 x0) x2=g1056_m1 x0 x2:=now_eq x0 x2
 have tB:(g1056_r5 x0 x1 x2).B=x1.B.filter (keepE (g1056_m1 x0 x2)):=B1056 x0 x1 x2 (by omega)
 refine⟨?_,?_,?_⟩
 ·have p1:g1016_0_1 x0 x1 x2 22 ⟨#[]⟩ ⟨#[]⟩ ⟨#[]⟩ 0=g1049_h0_0 (g1050_1051p_h3_0 (g1056_m1 x0 x2) 0 false (g1049_h0_0 x1)):=by unfold g1016_0_1;rw[d1,d2,d3,e1];rfl
  have sn:(g1050_1051p_h3_0 (g1056_m1 x0 x2) 0 false (g1049_h0_0 x1)).n≤12:=by
   have h1:=n1016b (g1056_m1 x0 x2) 0 false (g1049_h0_0 x1) (by have:=n1049 x1 (by omega);omega)
   have:=n1049 x1 (by omega)
   omega
  rw[p1]
  refine B_ext (canon_own _ (by omega)) (ce1056 hc).1.1 ?_
  rw[B1049 _ (by omega),B1016 _ 0 false (by omega),tB]
 ·unfold g1016_0_0;rw[d1,d2,d3,e1];rfl
 ·refine chk_to (fit hk tB) (now_in hk.now d2) fun e he=> ?_
  rw[tB]at he
  exact keys78 hc.z z78 e (List.mem_filter.1 he).1
end Go.Proofs.YtfbpilmhnpkfhaaGreatDoor
/-
  Walks: what functions of the program answer, as functions.
-/
namespace Go.Proofs.YtfbpilmhnpkfhaaGreatDoor
open Go Go.Vc Go.RowKit
set_option maxRecDepth 100000
set_option maxHeartbeats 4000000
noncomputable def g2015_m1(x3:Sl T137)(v2_0:Int)(v2_1:Int):Int:=(bif(decide ((x3.at' (Int.toNat v2_0)).c2<(x3.at' (Int.toNat v2_1)).c2))then v2_0 else v2_1)
noncomputable def g2015_l2(x3:Sl T137):Nat→Int→Int→Int
 |0,_,_=>default
 |k+1,v2_0,v2_1=>(bif(decide (v2_0<((x3.n:Nat):Int)))then(g2015_l2 x3 k (IntKind.i64.wrap (v2_0+1)) (g2015_m1 x3 v2_0 v2_1))else v2_1)
noncomputable def g2015_r2(x3:Sl T137):Int:=g2015_l2 x3 ((Int.toNat (((x3.n:Nat):Int)-0))+1) 0 0
noncomputable def g2015_m3(x3:Sl T137):Sl T137:=(bif(((x3.n:Nat):Int)==4)then(Sl.del x3 (Int.toNat (g2015_r2 x3)) (Int.toNat (IntKind.i64.wrap ((g2015_r2 x3)+1))))else x3)
noncomputable def g2015_0(x2:Int):Int:=(bif(decide (x2>1048576))then 6 else 0)
noncomputable def g2015_1:ByteArray:=⟨#[]⟩
noncomputable def g2015_2(x2:Int):Int:=(bif(decide (x2>1048576))then 0 else(IntKind.i64.wrap ((IntKind.i64.wrap (x2+1))-1)))
noncomputable def g2015_3:Sl ByteArray:=(nilSl:Sl ByteArray)
noncomputable def g2015_h0_2(x2:Int):Int:=(bif(decide (x2>1048576))then x2 else(IntKind.i64.wrap (x2+1)))
noncomputable def g2015_h2_0(x0:Int)(x2:Int)(x3:Sl T137):Sl T137:=(bif(decide (x2>1048576))then x3 else(Sl.app (g2015_m3 x3) (Sl.lit ([(⟨x2,0,x0,0,⟨#[]⟩,0,(nilSl:Sl ByteArray)⟩:T137)]:List T137))))
theorem b2015(x3:Sl T137)(a b:Int):g2015_m1 x3 a b=a∨g2015_m1 x3 a b=b:=by
 unfold g2015_m1
 cases decide ((x3.at' (Int.toNat a)).c2<(x3.at' (Int.toNat b)).c2)
 ·exact .inr rfl
 ·exact .inl rfl
theorem n2015(x3:Sl T137):(g2015_m3 x3).n≤x3.n:=by
 unfold g2015_m3
 cases (((x3.n:Nat):Int)==4)
 ·exact Nat.le_refl _
 ·exact Nat.sub_le _ _
noncomputable def F2015:Hq:=⟨[.p 0],[(.h 0 0,kI),(.h 0 1,.sl E175),(.h 0 2,kI),(.h 1 0,.blk E137)],[[U,U,U,.own 1 0],[U]],fun(x0:Int) x1 (x2:Int) x3=>⟨⟨some (x3.n≤4),[.agg [.int .i64 (g2015_0 x2),.str g2015_1,.int .i64 (g2015_2 x2),ofSl 1 e9 g2015_3]],[[.int .i64 x0,ofSl 8 e175 x1,.int .i64 (g2015_h0_2 x2),.own 2 ((g2015_h2_0 x0 x2 x3)).n],[deadB],[(Kd.blk E137).av (g2015_h2_0 x0 x2 x3)]]⟩⟩⟩
theorem pc2015:HqOk Tryz.prog 15 F2015 _ (F2015.sh.flatMap Sh.bs) F2015.f []:=
 fun(x0:Int) x1 n1 (x2:Int) x3 n3 hp=>heap_of_exec (X:=(mkXh 2 [] [(34,F2034.ans)])) (R:=⟨.hp2 true [.b 2] [.own (.h 0 3) E137 2],[.cell 2 36],[(.c 0 0,kI),(.c 0 1,kS),(.c 0 2,kI),(.c 0 3,.sl E9),(.h 0 0,kI),(.h 0 1,.sl E175),(.h 0 2,kI),(.h 2 0,.blk E137)],⟨[.agg [U,U,U,U]],[[U,U,U,.own 2 0],[deadB],[U]]⟩⟩) (h:=(.s .z (.s .z (.jc ⟨5,[],[(.h 5 0,.blk E137)],[],.f⟩ [.own (.h 0 3) E137 5] (.s .z (.s (.s .z (.j ⟨13,[],[],[],.f⟩ (.s .z (.lp ⟨14680077,[],[],[(.t 23,kI),(.t 3,kI)],some 0,false,13,[],[(.t 3,kI)],fun k (s:Int×Int)=>g2015_l2 x3 k s.1 s.2,.f,fun(s:Int×Int)=>(0≤s.1∧s.1≤((x3.n:Nat):Int)∧0≤s.2∧(s.2<s.1∨s.2=0)),fun(s:Int×Int)=>(Int.toNat (((x3.n:Nat):Int)-s.1)),some fun(r:Int)=>0≤r∧(r<((x3.n:Nat):Int)∨r=0)⟩ (.s .z (.s .z (.j ⟨549753716797,[],[(.t 3,kI)],[],.f⟩ .z .z))))) .z)) .z)) .z)))) (ms:=[.f,.l,.f,.l,.l,.l,.f,.f]) (p:=((decide (x2>1048576))=false→(((((x3.n:Nat):Int)==4)=true→((((0≤(0:Int)∧(0:Int)≤((x3.n:Nat):Int)∧0≤(0:Int)∧((0:Int)<(0:Int)∨(0:Int)=0)))∧(∀(v2_0:Int) (v2_1:Int),(0≤v2_0∧v2_0≤((x3.n:Nat):Int)∧0≤v2_1∧(v2_1<v2_0∨v2_1=0))→(((decide (v2_0<((x3.n:Nat):Int)))=true→((((0:Int)≤v2_0∧v2_0<((x3.n:Nat):Int))∧((Int.toNat v2_0)<x3.n))∧(((0:Int)≤v2_1∧v2_1<((x3.n:Nat):Int))∧((Int.toNat v2_1)<x3.n))))∧(((decide (v2_0<((x3.n:Nat):Int)))=true→((0≤(IntKind.i64.wrap (v2_0+1))∧(IntKind.i64.wrap (v2_0+1))≤((x3.n:Nat):Int)∧0≤(g2015_m1 x3 v2_0 v2_1)∧((g2015_m1 x3 v2_0 v2_1)<(IntKind.i64.wrap (v2_0+1))∨(g2015_m1 x3 v2_0 v2_1)=0))∧(Int.toNat (((x3.n:Nat):Int)- (IntKind.i64.wrap (v2_0+1))))<(Int.toNat (((x3.n:Nat):Int)-v2_0))))∧((decide (v2_0<((x3.n:Nat):Int)))=false→(0≤v2_1∧(v2_1<((x3.n:Nat):Int)∨v2_1=0)))))))∧((0≤(g2015_r2 x3)∧((g2015_r2 x3)<((x3.n:Nat):Int)∨(g2015_r2 x3)=0))→((0:Int)≤(g2015_r2 x3)∧((g2015_r2 x3):Int)<(IntKind.i64.wrap ((g2015_r2 x3)+1))∧((IntKind.i64.wrap ((g2015_r2 x3)+1)):Int)≤((x3.n:Nat):Int)))))∧((g2015_m3 x3).n+1≤549755813888)))) (mkXh_ok trivial ⟨k2034,trivial⟩) Tryz.func15 rfl rfl rfl (by kernel_rfl) ((fun h1=>⟨(fun h2=>⟨⟨(by have:=of_decide_eq_false h1;have:=eq_of_beq h2;omega),(fun v2_0 v2_1 hI3=>⟨(fun h4=>⟨⟨(by have:=of_decide_eq_false h1;have:=eq_of_beq h2;have:=of_decide_eq_true h4;omega),(by have:=of_decide_eq_false h1;have:=eq_of_beq h2;have:=of_decide_eq_true h4;omega)⟩,⟨(by have:=of_decide_eq_false h1;have:=eq_of_beq h2;have:=of_decide_eq_true h4;omega),(by have:=of_decide_eq_false h1;have:=eq_of_beq h2;have:=of_decide_eq_true h4;omega)⟩⟩),⟨(fun h5=>(by have:=of_decide_eq_false h1;have:=eq_of_beq h2;have:=of_decide_eq_true h5;have:=b2015 x3 v2_0 v2_1;first|omega|(have:=wrap64 (x:=(v2_0+1)) (by omega) (by omega);omega))),(fun h6=>(by have:=of_decide_eq_false h1;have:=eq_of_beq h2;have:=of_decide_eq_false h6;omega))⟩⟩)⟩,(fun hF7=>(by have:=of_decide_eq_false h1;have:=eq_of_beq h2;first|omega|(have:=wrap64 (x:=((g2015_r2 x3)+1)) (by omega) (by omega);omega)))⟩),(by have:=of_decide_eq_false h1;have:=n2015 x3;omega)⟩))
theorem k2015:XHOk Tryz.prog 15 F2015.ans:=Hq.ok ⟨_,_,Tryz.func15,rfl,by kernel_rfl⟩ (by kernel_rfl) pc2015
end Go.Proofs.YtfbpilmhnpkfhaaGreatDoor
/-
  Walks: what functions of the program answer, as functions.
-/
namespace Go.Proofs.YtfbpilmhnpkfhaaGreatDoor
open Go Go.Vc Go.RowKit
set_option maxRecDepth 100000
set_option maxHeartbeats 4000000
noncomputable def g2005_m1(x4:Int):Bool:=(bif(decide (x4<0))then true else(decide (x4>1073741824)))
noncomputable def g2005_0_0(x0:Int)(x1:Sl T175)(x2:Int)(x3:Sl T137)(x4:Int)(x5:Int)(x6:Int)(x7:Int)(x8:ByteArray)(x9:ByteArray)(x10:ByteArray)(x11:Int):Int:=(bif((g84 x0 x1 x2 x3)!=0)then 0 else(bif(g2005_m1 x4)then 0 else(bif((g49 x5 x6 x7 x8 x9 x10 x11)!=0)then 0 else(bif(x5==0)then(g1016_0_0 x0 x1 x4 22 ⟨#[]⟩ ⟨#[]⟩ ⟨#[]⟩ 0)else(bif(decide ((g2016_2017c (g2013 x3) x5)<0))then(g1016_0_0 x0 x1 x4 22 ⟨#[]⟩ ⟨#[]⟩ ⟨#[]⟩ 0)else(bif(x6==((g2013 x3).at' (Int.toNat (g2016_2017c (g2013 x3) x5))).c1)then(g1016_0_0 x0 x1 x4 22 ⟨#[]⟩ ⟨#[]⟩ ⟨#[]⟩ 0)else(bif(x6 !=(IntKind.i64.wrap (((g2013 x3).at' (Int.toNat (g2016_2017c (g2013 x3) x5))).c1+1)))then(g1016_0_0 x0 x1 x4 22 ⟨#[]⟩ ⟨#[]⟩ ⟨#[]⟩ 0)else(g1016_0_0 (g1016_0_0 x0 x1 x4 22 ⟨#[]⟩ ⟨#[]⟩ ⟨#[]⟩ 0) (g1016_0_1 x0 x1 x4 22 ⟨#[]⟩ ⟨#[]⟩ ⟨#[]⟩ 0) x4 x7 x8 x9 x10 x11))))))))
noncomputable def g2005_0_1(x0:Int)(x1:Sl T175)(x2:Int)(x3:Sl T137)(x4:Int)(x5:Int)(x6:Int)(x7:Int)(x8:ByteArray)(x9:ByteArray)(x10:ByteArray)(x11:Int):Sl T175:=(bif((g84 x0 x1 x2 x3)!=0)then(nilSl:Sl T175)else(bif(g2005_m1 x4)then(nilSl:Sl T175)else(bif((g49 x5 x6 x7 x8 x9 x10 x11)!=0)then(nilSl:Sl T175)else(bif(x5==0)then(g1016_0_1 x0 x1 x4 22 ⟨#[]⟩ ⟨#[]⟩ ⟨#[]⟩ 0)else(bif(decide ((g2016_2017c (g2013 x3) x5)<0))then(g1016_0_1 x0 x1 x4 22 ⟨#[]⟩ ⟨#[]⟩ ⟨#[]⟩ 0)else(bif(x6==((g2013 x3).at' (Int.toNat (g2016_2017c (g2013 x3) x5))).c1)then(g1016_0_1 x0 x1 x4 22 ⟨#[]⟩ ⟨#[]⟩ ⟨#[]⟩ 0)else(bif(x6 !=(IntKind.i64.wrap (((g2013 x3).at' (Int.toNat (g2016_2017c (g2013 x3) x5))).c1+1)))then(g1016_0_1 x0 x1 x4 22 ⟨#[]⟩ ⟨#[]⟩ ⟨#[]⟩ 0)else(g1016_0_1 (g1016_0_0 x0 x1 x4 22 ⟨#[]⟩ ⟨#[]⟩ ⟨#[]⟩ 0) (g1016_0_1 x0 x1 x4 22 ⟨#[]⟩ ⟨#[]⟩ ⟨#[]⟩ 0) x4 x7 x8 x9 x10 x11))))))))
noncomputable def g2005_0_2(x0:Int)(x1:Sl T175)(x2:Int)(x3:Sl T137)(x4:Int)(x5:Int)(x6:Int)(x7:Int)(x8:ByteArray)(x9:ByteArray)(x10:ByteArray)(x11:Int):Int:=(bif((g84 x0 x1 x2 x3)!=0)then 0 else(bif(g2005_m1 x4)then 0 else(bif((g49 x5 x6 x7 x8 x9 x10 x11)!=0)then 0 else(bif(x5==0)then(g2015_h0_2 x2)else x2))))
noncomputable def g2005_0_3(x0:Int)(x1:Sl T175)(x2:Int)(x3:Sl T137)(x4:Int)(x5:Int)(x6:Int)(x7:Int)(x8:ByteArray)(x9:ByteArray)(x10:ByteArray)(x11:Int):Sl T137:=(bif((g84 x0 x1 x2 x3)!=0)then(nilSl:Sl T137)else(bif(g2005_m1 x4)then(nilSl:Sl T137)else(bif((g49 x5 x6 x7 x8 x9 x10 x11)!=0)then(nilSl:Sl T137)else(bif(x5==0)then(g2015_h2_0 (g1016_0_0 x0 x1 x4 22 ⟨#[]⟩ ⟨#[]⟩ ⟨#[]⟩ 0) x2 (g2013 x3))else(bif(decide ((g2016_2017c (g2013 x3) x5)<0))then(g2013 x3)else(bif(x6==((g2013 x3).at' (Int.toNat (g2016_2017c (g2013 x3) x5))).c1)then(g2013 x3)else(bif(x6 !=(IntKind.i64.wrap (((g2013 x3).at' (Int.toNat (g2016_2017c (g2013 x3) x5))).c1+1)))then(g2013 x3)else(Sl.upd (Sl.upd (Sl.upd (g2013 x3) (Int.toNat (g2016_2017c (g2013 x3) x5)) (⟨((g2013 x3).at' (Int.toNat (g2016_2017c (g2013 x3) x5))).c0,x6,((g2013 x3).at' (Int.toNat (g2016_2017c (g2013 x3) x5))).c2,((g2013 x3).at' (Int.toNat (g2016_2017c (g2013 x3) x5))).c3,((g2013 x3).at' (Int.toNat (g2016_2017c (g2013 x3) x5))).c4,((g2013 x3).at' (Int.toNat (g2016_2017c (g2013 x3) x5))).c5,((g2013 x3).at' (Int.toNat (g2016_2017c (g2013 x3) x5))).c6⟩:T137)) (Int.toNat (g2016_2017c (g2013 x3) x5)) (⟨((Sl.upd (g2013 x3) (Int.toNat (g2016_2017c (g2013 x3) x5)) (⟨((g2013 x3).at' (Int.toNat (g2016_2017c (g2013 x3) x5))).c0,x6,((g2013 x3).at' (Int.toNat (g2016_2017c (g2013 x3) x5))).c2,((g2013 x3).at' (Int.toNat (g2016_2017c (g2013 x3) x5))).c3,((g2013 x3).at' (Int.toNat (g2016_2017c (g2013 x3) x5))).c4,((g2013 x3).at' (Int.toNat (g2016_2017c (g2013 x3) x5))).c5,((g2013 x3).at' (Int.toNat (g2016_2017c (g2013 x3) x5))).c6⟩:T137)).at' (Int.toNat (g2016_2017c (g2013 x3) x5))).c0,((Sl.upd (g2013 x3) (Int.toNat (g2016_2017c (g2013 x3) x5)) (⟨((g2013 x3).at' (Int.toNat (g2016_2017c (g2013 x3) x5))).c0,x6,((g2013 x3).at' (Int.toNat (g2016_2017c (g2013 x3) x5))).c2,((g2013 x3).at' (Int.toNat (g2016_2017c (g2013 x3) x5))).c3,((g2013 x3).at' (Int.toNat (g2016_2017c (g2013 x3) x5))).c4,((g2013 x3).at' (Int.toNat (g2016_2017c (g2013 x3) x5))).c5,((g2013 x3).at' (Int.toNat (g2016_2017c (g2013 x3) x5))).c6⟩:T137)).at' (Int.toNat (g2016_2017c (g2013 x3) x5))).c1,(g1016_0_0 (g1016_0_0 x0 x1 x4 22 ⟨#[]⟩ ⟨#[]⟩ ⟨#[]⟩ 0) (g1016_0_1 x0 x1 x4 22 ⟨#[]⟩ ⟨#[]⟩ ⟨#[]⟩ 0) x4 x7 x8 x9 x10 x11),((Sl.upd (g2013 x3) (Int.toNat (g2016_2017c (g2013 x3) x5)) (⟨((g2013 x3).at' (Int.toNat (g2016_2017c (g2013 x3) x5))).c0,x6,((g2013 x3).at' (Int.toNat (g2016_2017c (g2013 x3) x5))).c2,((g2013 x3).at' (Int.toNat (g2016_2017c (g2013 x3) x5))).c3,((g2013 x3).at' (Int.toNat (g2016_2017c (g2013 x3) x5))).c4,((g2013 x3).at' (Int.toNat (g2016_2017c (g2013 x3) x5))).c5,((g2013 x3).at' (Int.toNat (g2016_2017c (g2013 x3) x5))).c6⟩:T137)).at' (Int.toNat (g2016_2017c (g2013 x3) x5))).c3,((Sl.upd (g2013 x3) (Int.toNat (g2016_2017c (g2013 x3) x5)) (⟨((g2013 x3).at' (Int.toNat (g2016_2017c (g2013 x3) x5))).c0,x6,((g2013 x3).at' (Int.toNat (g2016_2017c (g2013 x3) x5))).c2,((g2013 x3).at' (Int.toNat (g2016_2017c (g2013 x3) x5))).c3,((g2013 x3).at' (Int.toNat (g2016_2017c (g2013 x3) x5))).c4,((g2013 x3).at' (Int.toNat (g2016_2017c (g2013 x3) x5))).c5,((g2013 x3).at' (Int.toNat (g2016_2017c (g2013 x3) x5))).c6⟩:T137)).at' (Int.toNat (g2016_2017c (g2013 x3) x5))).c4,((Sl.upd (g2013 x3) (Int.toNat (g2016_2017c (g2013 x3) x5)) (⟨((g2013 x3).at' (Int.toNat (g2016_2017c (g2013 x3) x5))).c0,x6,((g2013 x3).at' (Int.toNat (g2016_2017c (g2013 x3) x5))).c2,((g2013 x3).at' (Int.toNat (g2016_2017c (g2013 x3) x5))).c3,((g2013 x3).at' (Int.toNat (g2016_2017c (g2013 x3) x5))).c4,((g2013 x3).at' (Int.toNat (g2016_2017c (g2013 x3) x5))).c5,((g2013 x3).at' (Int.toNat (g2016_2017c (g2013 x3) x5))).c6⟩:T137)).at' (Int.toNat (g2016_2017c (g2013 x3) x5))).c5,((Sl.upd (g2013 x3) (Int.toNat (g2016_2017c (g2013 x3) x5)) (⟨((g2013 x3).at' (Int.toNat (g2016_2017c (g2013 x3) x5))).c0,x6,((g2013 x3).at' (Int.toNat (g2016_2017c (g2013 x3) x5))).c2,((g2013 x3).at' (Int.toNat (g2016_2017c (g2013 x3) x5))).c3,((g2013 x3).at' (Int.toNat (g2016_2017c (g2013 x3) x5))).c4,((g2013 x3).at' (Int.toNat (g2016_2017c (g2013 x3) x5))).c5,((g2013 x3).at' (Int.toNat (g2016_2017c (g2013 x3) x5))).c6⟩:T137)).at' (Int.toNat (g2016_2017c (g2013 x3) x5))).c6⟩:T137)) (Int.toNat (g2016_2017c (g2013 x3) x5)) (⟨((Sl.upd (Sl.upd (g2013 x3) (Int.toNat (g2016_2017c (g2013 x3) x5)) (⟨((g2013 x3).at' (Int.toNat (g2016_2017c (g2013 x3) x5))).c0,x6,((g2013 x3).at' (Int.toNat (g2016_2017c (g2013 x3) x5))).c2,((g2013 x3).at' (Int.toNat (g2016_2017c (g2013 x3) x5))).c3,((g2013 x3).at' (Int.toNat (g2016_2017c (g2013 x3) x5))).c4,((g2013 x3).at' (Int.toNat (g2016_2017c (g2013 x3) x5))).c5,((g2013 x3).at' (Int.toNat (g2016_2017c (g2013 x3) x5))).c6⟩:T137)) (Int.toNat (g2016_2017c (g2013 x3) x5)) (⟨((Sl.upd (g2013 x3) (Int.toNat (g2016_2017c (g2013 x3) x5)) (⟨((g2013 x3).at' (Int.toNat (g2016_2017c (g2013 x3) x5))).c0,x6,((g2013 x3).at' (Int.toNat (g2016_2017c (g2013 x3) x5))).c2,((g2013 x3).at' (Int.toNat (g2016_2017c (g2013 x3) x5))).c3,((g2013 x3).at' (Int.toNat (g2016_2017c (g2013 x3) x5))).c4,((g2013 x3).at' (Int.toNat (g2016_2017c (g2013 x3) x5))).c5,((g2013 x3).at' (Int.toNat (g2016_2017c (g2013 x3) x5))).c6⟩:T137)).at' (Int.toNat (g2016_2017c (g2013 x3) x5))).c0,((Sl.upd (g2013 x3) (Int.toNat (g2016_2017c (g2013 x3) x5)) (⟨((g2013 x3).at' (Int.toNat (g2016_2017c (g2013 x3) x5))).c0,x6,((g2013 x3).at' (Int.toNat (g2016_2017c (g2013 x3) x5))).c2,((g2013 x3).at' (Int.toNat (g2016_2017c (g2013 x3) x5))).c3,((g2013 x3).at' (Int.toNat (g2016_2017c (g2013 x3) x5))).c4,((g2013 x3).at' (Int.toNat (g2016_2017c (g2013 x3) x5))).c5,((g2013 x3).at' (Int.toNat (g2016_2017c (g2013 x3) x5))).c6⟩:T137)).at' (Int.toNat (g2016_2017c (g2013 x3) x5))).c1,(g1016_0_0 (g1016_0_0 x0 x1 x4 22 ⟨#[]⟩ ⟨#[]⟩ ⟨#[]⟩ 0) (g1016_0_1 x0 x1 x4 22 ⟨#[]⟩ ⟨#[]⟩ ⟨#[]⟩ 0) x4 x7 x8 x9 x10 x11),((Sl.upd (g2013 x3) (Int.toNat (g2016_2017c (g2013 x3) x5)) (⟨((g2013 x3).at' (Int.toNat (g2016_2017c (g2013 x3) x5))).c0,x6,((g2013 x3).at' (Int.toNat (g2016_2017c (g2013 x3) x5))).c2,((g2013 x3).at' (Int.toNat (g2016_2017c (g2013 x3) x5))).c3,((g2013 x3).at' (Int.toNat (g2016_2017c (g2013 x3) x5))).c4,((g2013 x3).at' (Int.toNat (g2016_2017c (g2013 x3) x5))).c5,((g2013 x3).at' (Int.toNat (g2016_2017c (g2013 x3) x5))).c6⟩:T137)).at' (Int.toNat (g2016_2017c (g2013 x3) x5))).c3,((Sl.upd (g2013 x3) (Int.toNat (g2016_2017c (g2013 x3) x5)) (⟨((g2013 x3).at' (Int.toNat (g2016_2017c (g2013 x3) x5))).c0,x6,((g2013 x3).at' (Int.toNat (g2016_2017c (g2013 x3) x5))).c2,((g2013 x3).at' (Int.toNat (g2016_2017c (g2013 x3) x5))).c3,((g2013 x3).at' (Int.toNat (g2016_2017c (g2013 x3) x5))).c4,((g2013 x3).at' (Int.toNat (g2016_2017c (g2013 x3) x5))).c5,((g2013 x3).at' (Int.toNat (g2016_2017c (g2013 x3) x5))).c6⟩:T137)).at' (Int.toNat (g2016_2017c (g2013 x3) x5))).c4,((Sl.upd (g2013 x3) (Int.toNat (g2016_2017c (g2013 x3) x5)) (⟨((g2013 x3).at' (Int.toNat (g2016_2017c (g2013 x3) x5))).c0,x6,((g2013 x3).at' (Int.toNat (g2016_2017c (g2013 x3) x5))).c2,((g2013 x3).at' (Int.toNat (g2016_2017c (g2013 x3) x5))).c3,((g2013 x3).at' (Int.toNat (g2016_2017c (g2013 x3) x5))).c4,((g2013 x3).at' (Int.toNat (g2016_2017c (g2013 x3) x5))).c5,((g2013 x3).at' (Int.toNat (g2016_2017c (g2013 x3) x5))).c6⟩:T137)).at' (Int.toNat (g2016_2017c (g2013 x3) x5))).c5,((Sl.upd (g2013 x3) (Int.toNat (g2016_2017c (g2013 x3) x5)) (⟨((g2013 x3).at' (Int.toNat (g2016_2017c (g2013 x3) x5))).c0,x6,((g2013 x3).at' (Int.toNat (g2016_2017c (g2013 x3) x5))).c2,((g2013 x3).at' (Int.toNat (g2016_2017c (g2013 x3) x5))).c3,((g2013 x3).at' (Int.toNat (g2016_2017c (g2013 x3) x5))).c4,((g2013 x3).at' (Int.toNat (g2016_2017c (g2013 x3) x5))).c5,((g2013 x3).at' (Int.toNat (g2016_2017c (g2013 x3) x5))).c6⟩:T137)).at' (Int.toNat (g2016_2017c (g2013 x3) x5))).c6⟩:T137)).at' (Int.toNat (g2016_2017c (g2013 x3) x5))).c0,((Sl.upd (Sl.upd (g2013 x3) (Int.toNat (g2016_2017c (g2013 x3) x5)) (⟨((g2013 x3).at' (Int.toNat (g2016_2017c (g2013 x3) x5))).c0,x6,((g2013 x3).at' (Int.toNat (g2016_2017c (g2013 x3) x5))).c2,((g2013 x3).at' (Int.toNat (g2016_2017c (g2013 x3) x5))).c3,((g2013 x3).at' (Int.toNat (g2016_2017c (g2013 x3) x5))).c4,((g2013 x3).at' (Int.toNat (g2016_2017c (g2013 x3) x5))).c5,((g2013 x3).at' (Int.toNat (g2016_2017c (g2013 x3) x5))).c6⟩:T137)) (Int.toNat (g2016_2017c (g2013 x3) x5)) (⟨((Sl.upd (g2013 x3) (Int.toNat (g2016_2017c (g2013 x3) x5)) (⟨((g2013 x3).at' (Int.toNat (g2016_2017c (g2013 x3) x5))).c0,x6,((g2013 x3).at' (Int.toNat (g2016_2017c (g2013 x3) x5))).c2,((g2013 x3).at' (Int.toNat (g2016_2017c (g2013 x3) x5))).c3,((g2013 x3).at' (Int.toNat (g2016_2017c (g2013 x3) x5))).c4,((g2013 x3).at' (Int.toNat (g2016_2017c (g2013 x3) x5))).c5,((g2013 x3).at' (Int.toNat (g2016_2017c (g2013 x3) x5))).c6⟩:T137)).at' (Int.toNat (g2016_2017c (g2013 x3) x5))).c0,((Sl.upd (g2013 x3) (Int.toNat (g2016_2017c (g2013 x3) x5)) (⟨((g2013 x3).at' (Int.toNat (g2016_2017c (g2013 x3) x5))).c0,x6,((g2013 x3).at' (Int.toNat (g2016_2017c (g2013 x3) x5))).c2,((g2013 x3).at' (Int.toNat (g2016_2017c (g2013 x3) x5))).c3,((g2013 x3).at' (Int.toNat (g2016_2017c (g2013 x3) x5))).c4,((g2013 x3).at' (Int.toNat (g2016_2017c (g2013 x3) x5))).c5,((g2013 x3).at' (Int.toNat (g2016_2017c (g2013 x3) x5))).c6⟩:T137)).at' (Int.toNat (g2016_2017c (g2013 x3) x5))).c1,(g1016_0_0 (g1016_0_0 x0 x1 x4 22 ⟨#[]⟩ ⟨#[]⟩ ⟨#[]⟩ 0) (g1016_0_1 x0 x1 x4 22 ⟨#[]⟩ ⟨#[]⟩ ⟨#[]⟩ 0) x4 x7 x8 x9 x10 x11),((Sl.upd (g2013 x3) (Int.toNat (g2016_2017c (g2013 x3) x5)) (⟨((g2013 x3).at' (Int.toNat (g2016_2017c (g2013 x3) x5))).c0,x6,((g2013 x3).at' (Int.toNat (g2016_2017c (g2013 x3) x5))).c2,((g2013 x3).at' (Int.toNat (g2016_2017c (g2013 x3) x5))).c3,((g2013 x3).at' (Int.toNat (g2016_2017c (g2013 x3) x5))).c4,((g2013 x3).at' (Int.toNat (g2016_2017c (g2013 x3) x5))).c5,((g2013 x3).at' (Int.toNat (g2016_2017c (g2013 x3) x5))).c6⟩:T137)).at' (Int.toNat (g2016_2017c (g2013 x3) x5))).c3,((Sl.upd (g2013 x3) (Int.toNat (g2016_2017c (g2013 x3) x5)) (⟨((g2013 x3).at' (Int.toNat (g2016_2017c (g2013 x3) x5))).c0,x6,((g2013 x3).at' (Int.toNat (g2016_2017c (g2013 x3) x5))).c2,((g2013 x3).at' (Int.toNat (g2016_2017c (g2013 x3) x5))).c3,((g2013 x3).at' (Int.toNat (g2016_2017c (g2013 x3) x5))).c4,((g2013 x3).at' (Int.toNat (g2016_2017c (g2013 x3) x5))).c5,((g2013 x3).at' (Int.toNat (g2016_2017c (g2013 x3) x5))).c6⟩:T137)).at' (Int.toNat (g2016_2017c (g2013 x3) x5))).c4,((Sl.upd (g2013 x3) (Int.toNat (g2016_2017c (g2013 x3) x5)) (⟨((g2013 x3).at' (Int.toNat (g2016_2017c (g2013 x3) x5))).c0,x6,((g2013 x3).at' (Int.toNat (g2016_2017c (g2013 x3) x5))).c2,((g2013 x3).at' (Int.toNat (g2016_2017c (g2013 x3) x5))).c3,((g2013 x3).at' (Int.toNat (g2016_2017c (g2013 x3) x5))).c4,((g2013 x3).at' (Int.toNat (g2016_2017c (g2013 x3) x5))).c5,((g2013 x3).at' (Int.toNat (g2016_2017c (g2013 x3) x5))).c6⟩:T137)).at' (Int.toNat (g2016_2017c (g2013 x3) x5))).c5,((Sl.upd (g2013 x3) (Int.toNat (g2016_2017c (g2013 x3) x5)) (⟨((g2013 x3).at' (Int.toNat (g2016_2017c (g2013 x3) x5))).c0,x6,((g2013 x3).at' (Int.toNat (g2016_2017c (g2013 x3) x5))).c2,((g2013 x3).at' (Int.toNat (g2016_2017c (g2013 x3) x5))).c3,((g2013 x3).at' (Int.toNat (g2016_2017c (g2013 x3) x5))).c4,((g2013 x3).at' (Int.toNat (g2016_2017c (g2013 x3) x5))).c5,((g2013 x3).at' (Int.toNat (g2016_2017c (g2013 x3) x5))).c6⟩:T137)).at' (Int.toNat (g2016_2017c (g2013 x3) x5))).c6⟩:T137)).at' (Int.toNat (g2016_2017c (g2013 x3) x5))).c1,((Sl.upd (Sl.upd (g2013 x3) (Int.toNat (g2016_2017c (g2013 x3) x5)) (⟨((g2013 x3).at' (Int.toNat (g2016_2017c (g2013 x3) x5))).c0,x6,((g2013 x3).at' (Int.toNat (g2016_2017c (g2013 x3) x5))).c2,((g2013 x3).at' (Int.toNat (g2016_2017c (g2013 x3) x5))).c3,((g2013 x3).at' (Int.toNat (g2016_2017c (g2013 x3) x5))).c4,((g2013 x3).at' (Int.toNat (g2016_2017c (g2013 x3) x5))).c5,((g2013 x3).at' (Int.toNat (g2016_2017c (g2013 x3) x5))).c6⟩:T137)) (Int.toNat (g2016_2017c (g2013 x3) x5)) (⟨((Sl.upd (g2013 x3) (Int.toNat (g2016_2017c (g2013 x3) x5)) (⟨((g2013 x3).at' (Int.toNat (g2016_2017c (g2013 x3) x5))).c0,x6,((g2013 x3).at' (Int.toNat (g2016_2017c (g2013 x3) x5))).c2,((g2013 x3).at' (Int.toNat (g2016_2017c (g2013 x3) x5))).c3,((g2013 x3).at' (Int.toNat (g2016_2017c (g2013 x3) x5))).c4,((g2013 x3).at' (Int.toNat (g2016_2017c (g2013 x3) x5))).c5,((g2013 x3).at' (Int.toNat (g2016_2017c (g2013 x3) x5))).c6⟩:T137)).at' (Int.toNat (g2016_2017c (g2013 x3) x5))).c0,((Sl.upd (g2013 x3) (Int.toNat (g2016_2017c (g2013 x3) x5)) (⟨((g2013 x3).at' (Int.toNat (g2016_2017c (g2013 x3) x5))).c0,x6,((g2013 x3).at' (Int.toNat (g2016_2017c (g2013 x3) x5))).c2,((g2013 x3).at' (Int.toNat (g2016_2017c (g2013 x3) x5))).c3,((g2013 x3).at' (Int.toNat (g2016_2017c (g2013 x3) x5))).c4,((g2013 x3).at' (Int.toNat (g2016_2017c (g2013 x3) x5))).c5,((g2013 x3).at' (Int.toNat (g2016_2017c (g2013 x3) x5))).c6⟩:T137)).at' (Int.toNat (g2016_2017c (g2013 x3) x5))).c1,(g1016_0_0 (g1016_0_0 x0 x1 x4 22 ⟨#[]⟩ ⟨#[]⟩ ⟨#[]⟩ 0) (g1016_0_1 x0 x1 x4 22 ⟨#[]⟩ ⟨#[]⟩ ⟨#[]⟩ 0) x4 x7 x8 x9 x10 x11),((Sl.upd (g2013 x3) (Int.toNat (g2016_2017c (g2013 x3) x5)) (⟨((g2013 x3).at' (Int.toNat (g2016_2017c (g2013 x3) x5))).c0,x6,((g2013 x3).at' (Int.toNat (g2016_2017c (g2013 x3) x5))).c2,((g2013 x3).at' (Int.toNat (g2016_2017c (g2013 x3) x5))).c3,((g2013 x3).at' (Int.toNat (g2016_2017c (g2013 x3) x5))).c4,((g2013 x3).at' (Int.toNat (g2016_2017c (g2013 x3) x5))).c5,((g2013 x3).at' (Int.toNat (g2016_2017c (g2013 x3) x5))).c6⟩:T137)).at' (Int.toNat (g2016_2017c (g2013 x3) x5))).c3,((Sl.upd (g2013 x3) (Int.toNat (g2016_2017c (g2013 x3) x5)) (⟨((g2013 x3).at' (Int.toNat (g2016_2017c (g2013 x3) x5))).c0,x6,((g2013 x3).at' (Int.toNat (g2016_2017c (g2013 x3) x5))).c2,((g2013 x3).at' (Int.toNat (g2016_2017c (g2013 x3) x5))).c3,((g2013 x3).at' (Int.toNat (g2016_2017c (g2013 x3) x5))).c4,((g2013 x3).at' (Int.toNat (g2016_2017c (g2013 x3) x5))).c5,((g2013 x3).at' (Int.toNat (g2016_2017c (g2013 x3) x5))).c6⟩:T137)).at' (Int.toNat (g2016_2017c (g2013 x3) x5))).c4,((Sl.upd (g2013 x3) (Int.toNat (g2016_2017c (g2013 x3) x5)) (⟨((g2013 x3).at' (Int.toNat (g2016_2017c (g2013 x3) x5))).c0,x6,((g2013 x3).at' (Int.toNat (g2016_2017c (g2013 x3) x5))).c2,((g2013 x3).at' (Int.toNat (g2016_2017c (g2013 x3) x5))).c3,((g2013 x3).at' (Int.toNat (g2016_2017c (g2013 x3) x5))).c4,((g2013 x3).at' (Int.toNat (g2016_2017c (g2013 x3) x5))).c5,((g2013 x3).at' (Int.toNat (g2016_2017c (g2013 x3) x5))).c6⟩:T137)).at' (Int.toNat (g2016_2017c (g2013 x3) x5))).c5,((Sl.upd (g2013 x3) (Int.toNat (g2016_2017c (g2013 x3) x5)) (⟨((g2013 x3).at' (Int.toNat (g2016_2017c (g2013 x3) x5))).c0,x6,((g2013 x3).at' (Int.toNat (g2016_2017c (g2013 x3) x5))).c2,((g2013 x3).at' (Int.toNat (g2016_2017c (g2013 x3) x5))).c3,((g2013 x3).at' (Int.toNat (g2016_2017c (g2013 x3) x5))).c4,((g2013 x3).at' (Int.toNat (g2016_2017c (g2013 x3) x5))).c5,((g2013 x3).at' (Int.toNat (g2016_2017c (g2013 x3) x5))).c6⟩:T137)).at' (Int.toNat (g2016_2017c (g2013 x3) x5))).c6⟩:T137)).at' (Int.toNat (g2016_2017c (g2013 x3) x5))).c2,(g2018_0 (g1016_1_0 (g1016_0_0 x0 x1 x4 22 ⟨#[]⟩ ⟨#[]⟩ ⟨#[]⟩ 0) (g1016_0_1 x0 x1 x4 22 ⟨#[]⟩ ⟨#[]⟩ ⟨#[]⟩ 0) x4 x7 x8 x9 x10 x11)),(g2018_1 (g1016_1_1 (g1016_0_0 x0 x1 x4 22 ⟨#[]⟩ ⟨#[]⟩ ⟨#[]⟩ 0) (g1016_0_1 x0 x1 x4 22 ⟨#[]⟩ ⟨#[]⟩ ⟨#[]⟩ 0) x4 x7 x8 x9 x10 x11)),(g2018_2 (g1016_1_2 (g1016_0_0 x0 x1 x4 22 ⟨#[]⟩ ⟨#[]⟩ ⟨#[]⟩ 0) (g1016_0_1 x0 x1 x4 22 ⟨#[]⟩ ⟨#[]⟩ ⟨#[]⟩ 0) x4 x7 x8 x9 x10 x11)),(g2018_3 (g1016_1_3 (g1016_0_0 x0 x1 x4 22 ⟨#[]⟩ ⟨#[]⟩ ⟨#[]⟩ 0) (g1016_0_1 x0 x1 x4 22 ⟨#[]⟩ ⟨#[]⟩ ⟨#[]⟩ 0) x4 x7 x8 x9 x10 x11))⟩:T137)))))))))
noncomputable def g2005_1_0(x0:Int)(x1:Sl T175)(x2:Int)(x3:Sl T137)(x4:Int)(x5:Int)(x6:Int)(x7:Int)(x8:ByteArray)(x9:ByteArray)(x10:ByteArray)(x11:Int):Int:=(bif((g84 x0 x1 x2 x3)!=0)then 0 else(bif(g2005_m1 x4)then 0 else(bif((g49 x5 x6 x7 x8 x9 x10 x11)!=0)then 0 else(bif(x5==0)then(g2015_0 x2)else(bif(decide ((g2016_2017c (g2013 x3) x5)<0))then 11 else(bif(x6==((g2013 x3).at' (Int.toNat (g2016_2017c (g2013 x3) x5))).c1)then(g2018_0 ((g2013 x3).at' (Int.toNat (g2016_2017c (g2013 x3) x5))).c3)else(bif(x6 !=(IntKind.i64.wrap (((g2013 x3).at' (Int.toNat (g2016_2017c (g2013 x3) x5))).c1+1)))then 10 else(g1016_1_0 (g1016_0_0 x0 x1 x4 22 ⟨#[]⟩ ⟨#[]⟩ ⟨#[]⟩ 0) (g1016_0_1 x0 x1 x4 22 ⟨#[]⟩ ⟨#[]⟩ ⟨#[]⟩ 0) x4 x7 x8 x9 x10 x11))))))))
noncomputable def g2005_1_1(x0:Int)(x1:Sl T175)(x2:Int)(x3:Sl T137)(x4:Int)(x5:Int)(x6:Int)(x7:Int)(x8:ByteArray)(x9:ByteArray)(x10:ByteArray)(x11:Int):ByteArray:=(bif((g84 x0 x1 x2 x3)!=0)then⟨#[]⟩else(bif(g2005_m1 x4)then⟨#[]⟩else(bif((g49 x5 x6 x7 x8 x9 x10 x11)!=0)then⟨#[]⟩else(bif(x5==0)then g2015_1 else(bif(decide ((g2016_2017c (g2013 x3) x5)<0))then⟨#[]⟩else(bif(x6==((g2013 x3).at' (Int.toNat (g2016_2017c (g2013 x3) x5))).c1)then(g2018_1 ((g2013 x3).at' (Int.toNat (g2016_2017c (g2013 x3) x5))).c4)else(bif(x6 !=(IntKind.i64.wrap (((g2013 x3).at' (Int.toNat (g2016_2017c (g2013 x3) x5))).c1+1)))then⟨#[]⟩else(g1016_1_1 (g1016_0_0 x0 x1 x4 22 ⟨#[]⟩ ⟨#[]⟩ ⟨#[]⟩ 0) (g1016_0_1 x0 x1 x4 22 ⟨#[]⟩ ⟨#[]⟩ ⟨#[]⟩ 0) x4 x7 x8 x9 x10 x11))))))))
noncomputable def g2005_1_2(x0:Int)(x1:Sl T175)(x2:Int)(x3:Sl T137)(x4:Int)(x5:Int)(x6:Int)(x7:Int)(x8:ByteArray)(x9:ByteArray)(x10:ByteArray)(x11:Int):Int:=(bif((g84 x0 x1 x2 x3)!=0)then 0 else(bif(g2005_m1 x4)then 0 else(bif((g49 x5 x6 x7 x8 x9 x10 x11)!=0)then 0 else(bif(x5==0)then(g2015_2 x2)else(bif(decide ((g2016_2017c (g2013 x3) x5)<0))then 0 else(bif(x6==((g2013 x3).at' (Int.toNat (g2016_2017c (g2013 x3) x5))).c1)then(g2018_2 ((g2013 x3).at' (Int.toNat (g2016_2017c (g2013 x3) x5))).c5)else(bif(x6 !=(IntKind.i64.wrap (((g2013 x3).at' (Int.toNat (g2016_2017c (g2013 x3) x5))).c1+1)))then 0 else(g1016_1_2 (g1016_0_0 x0 x1 x4 22 ⟨#[]⟩ ⟨#[]⟩ ⟨#[]⟩ 0) (g1016_0_1 x0 x1 x4 22 ⟨#[]⟩ ⟨#[]⟩ ⟨#[]⟩ 0) x4 x7 x8 x9 x10 x11))))))))
noncomputable def g2005_1_3(x0:Int)(x1:Sl T175)(x2:Int)(x3:Sl T137)(x4:Int)(x5:Int)(x6:Int)(x7:Int)(x8:ByteArray)(x9:ByteArray)(x10:ByteArray)(x11:Int):Sl ByteArray:=(bif((g84 x0 x1 x2 x3)!=0)then(nilSl:Sl ByteArray)else(bif(g2005_m1 x4)then(nilSl:Sl ByteArray)else(bif((g49 x5 x6 x7 x8 x9 x10 x11)!=0)then(nilSl:Sl ByteArray)else(bif(x5==0)then g2015_3 else(bif(decide ((g2016_2017c (g2013 x3) x5)<0))then(nilSl:Sl ByteArray)else(bif(x6==((g2013 x3).at' (Int.toNat (g2016_2017c (g2013 x3) x5))).c1)then(g2018_3 ((g2013 x3).at' (Int.toNat (g2016_2017c (g2013 x3) x5))).c6)else(bif(x6 !=(IntKind.i64.wrap (((g2013 x3).at' (Int.toNat (g2016_2017c (g2013 x3) x5))).c1+1)))then(nilSl:Sl ByteArray)else(g1016_1_3 (g1016_0_0 x0 x1 x4 22 ⟨#[]⟩ ⟨#[]⟩ ⟨#[]⟩ 0) (g1016_0_1 x0 x1 x4 22 ⟨#[]⟩ ⟨#[]⟩ ⟨#[]⟩ 0) x4 x7 x8 x9 x10 x11))))))))
noncomputable def g2005_2(x0:Int)(x1:Sl T175)(x2:Int)(x3:Sl T137)(x4:Int)(x5:Int)(x6:Int)(x7:Int)(x8:ByteArray)(x9:ByteArray)(x10:ByteArray)(x11:Int):Int:=(bif((g84 x0 x1 x2 x3)!=0)then(g84 x0 x1 x2 x3)else(bif(g2005_m1 x4)then 2 else(bif((g49 x5 x6 x7 x8 x9 x10 x11)!=0)then(g49 x5 x6 x7 x8 x9 x10 x11)else 0)))
noncomputable def F2005:Fq:=⟨[.g [kI,.sl E175,kI,.sl E137],.v kI,.g [kI,kI,kI,kS,kS,kS,kI]],fun(x0:Int) x1 (x2:Int) x3 (x4:Int) (x5:Int) (x6:Int) (x7:Int) x8 x9 x10 (x11:Int)=>⟨⟨some (CZ x1∧CY x3),.tup [.agg [.int .i64 (g2005_0_0 x0 x1 x2 x3 x4 x5 x6 x7 x8 x9 x10 x11),ofSl 8 e175 (g2005_0_1 x0 x1 x2 x3 x4 x5 x6 x7 x8 x9 x10 x11),.int .i64 (g2005_0_2 x0 x1 x2 x3 x4 x5 x6 x7 x8 x9 x10 x11),ofSl 7 e137 (g2005_0_3 x0 x1 x2 x3 x4 x5 x6 x7 x8 x9 x10 x11)],.agg [.int .i64 (g2005_1_0 x0 x1 x2 x3 x4 x5 x6 x7 x8 x9 x10 x11),.str (g2005_1_1 x0 x1 x2 x3 x4 x5 x6 x7 x8 x9 x10 x11),.int .i64 (g2005_1_2 x0 x1 x2 x3 x4 x5 x6 x7 x8 x9 x10 x11),ofSl 1 e9 (g2005_1_3 x0 x1 x2 x3 x4 x5 x6 x7 x8 x9 x10 x11)],.int .i64 (g2005_2 x0 x1 x2 x3 x4 x5 x6 x7 x8 x9 x10 x11)]⟩⟩⟩
theorem pc2005:FnOk Tryz.prog 5 F2005.sh _ (F2005.sh.flatMap Sh.bs) F2005.f []:=
 fun(x0:Int) x1 n1 _ (x2:Int) x3 n3 _ (x4:Int) (x5:Int) (x6:Int) (x7:Int) x8 n8 x9 n9 x10 n10 (x11:Int) hp=>pure_of_exec (X:=(mkXh 0 [(12,F49.ans),(11,F84.ans),(14,F1016.ans),(13,F2013.ans),(16,F2016_2017c.ans),(18,F2018.ans)] [(15,F2015.ans)])) (R:=⟨.pure,[.cell 6 27,.cell 7 36,.tmp 8],[(.c 0 0,kI),(.c 0 1,.sl E175),(.c 0 2,kI),(.c 0 3,.sl E137),(.c 1 0,kI),(.c 1 1,kS),(.c 1 2,kI),(.c 1 3,.sl E9),(.t 2,kI)],⟨[.agg (us 4 []),.agg (us 4 []),U],[]⟩⟩) (h:=(.s .z (.s .z (.s (.j ⟨1073742314,[],[(.t 30,kB)],[],.f⟩ .z .z) (.s .z (.s .z (.s .z (.s .z (.s (.fz 5 1 (.cw [.t 46,.t 51,.t 56] [])) .z))))))))) (ms:=[.f,.f,(.b .f (.b .f (.b .f (.b .f .l)))),.f,.f,.f,.f,.f,(.b .f (.b .f (.b .f .l)))]) (p:=(((g84 x0 x1 x2 x3)!=0)=false→((g2005_m1 x4)=false→(((g49 x5 x6 x7 x8 x9 x10 x11)!=0)=false→((CZ x1)∧(((x5==0)=true→((g2013 x3).n≤4))∧((x5==0)=false→((decide ((g2016_2017c (g2013 x3) x5)<0))=false→(((0:Int)≤(g2016_2017c (g2013 x3) x5)∧(g2016_2017c (g2013 x3) x5)<(((g2013 x3).n:Nat):Int))∧((((Int.toNat (g2016_2017c (g2013 x3) x5))<(g2013 x3).n)∧(((x6==((g2013 x3).at' (Int.toNat (g2016_2017c (g2013 x3) x5))).c1)=true→((Int.toNat (g2016_2017c (g2013 x3) x5))<(g2013 x3).n))∧((x6==((g2013 x3).at' (Int.toNat (g2016_2017c (g2013 x3) x5))).c1)=false→((Int.toNat (g2016_2017c (g2013 x3) x5))<(g2013 x3).n))))∧((x6==((g2013 x3).at' (Int.toNat (g2016_2017c (g2013 x3) x5))).c1)=false→((x6 !=(IntKind.i64.wrap (((g2013 x3).at' (Int.toNat (g2016_2017c (g2013 x3) x5))).c1+1)))=false→((CZ (g1016_0_1 x0 x1 x4 22 ⟨#[]⟩ ⟨#[]⟩ ⟨#[]⟩ 0))∧(((Int.toNat (g2016_2017c (g2013 x3) x5))<(g2013 x3).n)∧(((Int.toNat (g2016_2017c (g2013 x3) x5))<(g2013 x3).n)∧((Int.toNat (g2016_2017c (g2013 x3) x5))<(g2013 x3).n)))))))))))))))) (mkXh_ok ⟨k49,k84,k1016,k2013,k2016_2017c,k2018,trivial⟩ ⟨k2015,trivial⟩) Tryz.func5 rfl rfl (by kernel_rfl) (have⟨hq0,hq1⟩:=hp;(fun h1=>(fun h2=>(fun h3=>⟨(by have hM:=chk84 _ _ _ _ (by first|assumption|exact CE.z (by assumption)) (by first|assumption|exact CC.y (by assumption)) (bne_eq_false_iff_eq.1 h1);have:=hM.1;have:=h2;simp [g2005_m1]at this;have:=bne_eq_false_iff_eq.1 h3;repeat first|assumption|apply cz1016|apply rcs1011|apply gl0_1013|apply gls1013|apply fd_gl|apply fd0_1012|apply fds1012|apply fde1012|apply fdc1012|apply u90|apply ss1016|apply cz_of|apply sv1017|apply sv1056|apply th1106|apply ce85|apply cc85'|apply vok_t|apply rmok|apply And.intro|apply ce95|apply cc95),⟨(fun h4=>(by have hM:=chk84 _ _ _ _ (by first|assumption|exact CE.z (by assumption)) (by first|assumption|exact CC.y (by assumption)) (bne_eq_false_iff_eq.1 h1);have:=hM.1;have:=h2;simp [g2005_m1]at this;have:=bne_eq_false_iff_eq.1 h3;have:=eq_of_beq h4;have:=len2013 x3;omega)),(fun h5=>(fun h6=>⟨(by have hM:=chk84 _ _ _ _ (by first|assumption|exact CE.z (by assumption)) (by first|assumption|exact CC.y (by assumption)) (bne_eq_false_iff_eq.1 h1);have:=hM.1;have:=h2;simp [g2005_m1]at this;have:=bne_eq_false_iff_eq.1 h3;have:=ne_of_beq_false h5;have:=of_decide_eq_false h6;have:=len2013 x3;have:=f2016c (g2013 x3) x5 (by omega);omega),⟨⟨(by have hM:=chk84 _ _ _ _ (by first|assumption|exact CE.z (by assumption)) (by first|assumption|exact CC.y (by assumption)) (bne_eq_false_iff_eq.1 h1);have:=hM.1;have:=h2;simp [g2005_m1]at this;have:=bne_eq_false_iff_eq.1 h3;have:=ne_of_beq_false h5;have:=of_decide_eq_false h6;have:=len2013 x3;have:=f2016c (g2013 x3) x5 (by omega);omega),⟨(fun h7=>(by have hM:=chk84 _ _ _ _ (by first|assumption|exact CE.z (by assumption)) (by first|assumption|exact CC.y (by assumption)) (bne_eq_false_iff_eq.1 h1);have:=hM.1;have:=h2;simp [g2005_m1]at this;have:=bne_eq_false_iff_eq.1 h3;have:=ne_of_beq_false h5;have:=of_decide_eq_false h6;have:=eq_of_beq h7;have:=len2013 x3;have:=f2016c (g2013 x3) x5 (by omega);omega)),(fun h8=>(by have hM:=chk84 _ _ _ _ (by first|assumption|exact CE.z (by assumption)) (by first|assumption|exact CC.y (by assumption)) (bne_eq_false_iff_eq.1 h1);have:=hM.1;have:=h2;simp [g2005_m1]at this;have:=bne_eq_false_iff_eq.1 h3;have:=ne_of_beq_false h5;have:=of_decide_eq_false h6;have:=ne_of_beq_false h8;have:=len2013 x3;have:=f2016c (g2013 x3) x5 (by omega);omega))⟩⟩,(fun h9=>(fun h10=>⟨(by have hM:=chk84 _ _ _ _ (by first|assumption|exact CE.z (by assumption)) (by first|assumption|exact CC.y (by assumption)) (bne_eq_false_iff_eq.1 h1);have:=hM.1;have:=h2;simp [g2005_m1]at this;have:=bne_eq_false_iff_eq.1 h3;have:=ne_of_beq_false h5;have:=of_decide_eq_false h6;have:=ne_of_beq_false h9;have:=bne_eq_false_iff_eq.1 h10;repeat first|assumption|apply cz1016|apply rcs1011|apply gl0_1013|apply gls1013|apply fd_gl|apply fd0_1012|apply fds1012|apply fde1012|apply fdc1012|apply u90|apply ss1016|apply cz_of|apply sv1017|apply sv1056|apply th1106|apply ce85|apply cc85'|apply vok_t|apply rmok|apply And.intro|apply ce95|apply cc95),⟨(by have hM:=chk84 _ _ _ _ (by first|assumption|exact CE.z (by assumption)) (by first|assumption|exact CC.y (by assumption)) (bne_eq_false_iff_eq.1 h1);have:=hM.1;have:=h2;simp [g2005_m1]at this;have:=bne_eq_false_iff_eq.1 h3;have:=ne_of_beq_false h5;have:=of_decide_eq_false h6;have:=ne_of_beq_false h9;have:=bne_eq_false_iff_eq.1 h10;have:=len2013 x3;have:=f2016c (g2013 x3) x5 (by omega);omega),⟨(by have hM:=chk84 _ _ _ _ (by first|assumption|exact CE.z (by assumption)) (by first|assumption|exact CC.y (by assumption)) (bne_eq_false_iff_eq.1 h1);have:=hM.1;have:=h2;simp [g2005_m1]at this;have:=bne_eq_false_iff_eq.1 h3;have:=ne_of_beq_false h5;have:=of_decide_eq_false h6;have:=ne_of_beq_false h9;have:=bne_eq_false_iff_eq.1 h10;have:=len2013 x3;have:=f2016c (g2013 x3) x5 (by omega);omega),(by have hM:=chk84 _ _ _ _ (by first|assumption|exact CE.z (by assumption)) (by first|assumption|exact CC.y (by assumption)) (bne_eq_false_iff_eq.1 h1);have:=hM.1;have:=h2;simp [g2005_m1]at this;have:=bne_eq_false_iff_eq.1 h3;have:=ne_of_beq_false h5;have:=of_decide_eq_false h6;have:=ne_of_beq_false h9;have:=bne_eq_false_iff_eq.1 h10;have:=len2013 x3;have:=f2016c (g2013 x3) x5 (by omega);omega)⟩⟩⟩))⟩⟩))⟩⟩))))
theorem k2005:XOk Tryz.prog 5 F2005.ans:=Fq.ok ⟨_,_,Tryz.func5,rfl,by kernel_rfl⟩ pc2005
end Go.Proofs.YtfbpilmhnpkfhaaGreatDoor
/-
  Walks: what functions of the program answer, as functions.
-/
namespace Go.Proofs.YtfbpilmhnpkfhaaGreatDoor
open Go Go.Vc Go.RowKit
set_option maxRecDepth 100000
set_option maxHeartbeats 4000000
noncomputable def g2022_l2(x0:Int)(x1:Sl T175)(x2:Int)(x3:Sl T137)(x4:Int)(x5:Int)(x6:Int)(x7:Int)(x8:ByteArray)(x9:ByteArray)(x10:ByteArray)(x11:Int):Nat→Int→Bool×Int×Sl T175×Int×Sl T137×Int×ByteArray×Int×Sl ByteArray
 |0,_=>default
 |k+1,v2_0=>(bif(decide (v2_0<(((g85w_h0_0 x3).n:Nat):Int)))then(bif(((g85w_h0_0 x3).at' (Int.toNat v2_0)).c0 !=x5)then(g2022_l2 x0 x1 x2 x3 x4 x5 x6 x7 x8 x9 x10 x11 k (IntKind.i64.wrap (v2_0+1)))else(bif(x6==((g85w_h0_0 x3).at' (Int.toNat v2_0)).c1)then(true,(g85w_0 (g1056_0_0 x0 x1 x4 22 ⟨#[]⟩ ⟨#[]⟩ ⟨#[]⟩ 0)),(g85w_1 (g1056_0_1 x0 x1 x4 22 ⟨#[]⟩ ⟨#[]⟩ ⟨#[]⟩ 0)),(g85w_2 x2),(g85w_h0_0 x3),(g152_0 ((g85w_h0_0 x3).at' (Int.toNat v2_0)).c3),(g152_1 ((g85w_h0_0 x3).at' (Int.toNat v2_0)).c4),(g152_2 ((g85w_h0_0 x3).at' (Int.toNat v2_0)).c5),(g152_3 ((g85w_h0_0 x3).at' (Int.toNat v2_0)).c6))else(bif(x6 !=(IntKind.i64.wrap (((g85w_h0_0 x3).at' (Int.toNat v2_0)).c1+1)))then(true,(g85w_0 (g1056_0_0 x0 x1 x4 22 ⟨#[]⟩ ⟨#[]⟩ ⟨#[]⟩ 0)),(g85w_1 (g1056_0_1 x0 x1 x4 22 ⟨#[]⟩ ⟨#[]⟩ ⟨#[]⟩ 0)),(g85w_2 x2),(g85w_h0_0 x3),10,⟨#[]⟩,0,(nilSl:Sl ByteArray))else(true,(g79_0 (g1056_0_0 (g85w_0 (g1056_0_0 x0 x1 x4 22 ⟨#[]⟩ ⟨#[]⟩ ⟨#[]⟩ 0)) (g85w_1 (g1056_0_1 x0 x1 x4 22 ⟨#[]⟩ ⟨#[]⟩ ⟨#[]⟩ 0)) x4 x7 x8 x9 x10 x11)),(g79_1 (g1056_0_1 (g85w_0 (g1056_0_0 x0 x1 x4 22 ⟨#[]⟩ ⟨#[]⟩ ⟨#[]⟩ 0)) (g85w_1 (g1056_0_1 x0 x1 x4 22 ⟨#[]⟩ ⟨#[]⟩ ⟨#[]⟩ 0)) x4 x7 x8 x9 x10 x11)),(g85w_2 x2),(Sl.upd (g85w_h0_0 x3) (Int.toNat v2_0) (⟨((g85w_h0_0 x3).at' (Int.toNat v2_0)).c0,x6,(g1056_0_0 (g85w_0 (g1056_0_0 x0 x1 x4 22 ⟨#[]⟩ ⟨#[]⟩ ⟨#[]⟩ 0)) (g85w_1 (g1056_0_1 x0 x1 x4 22 ⟨#[]⟩ ⟨#[]⟩ ⟨#[]⟩ 0)) x4 x7 x8 x9 x10 x11),(g152_0 (g1056_1_0 (g85w_0 (g1056_0_0 x0 x1 x4 22 ⟨#[]⟩ ⟨#[]⟩ ⟨#[]⟩ 0)) (g85w_1 (g1056_0_1 x0 x1 x4 22 ⟨#[]⟩ ⟨#[]⟩ ⟨#[]⟩ 0)) x4 x7 x8 x9 x10 x11)),(g152_1 (g1056_1_1 (g85w_0 (g1056_0_0 x0 x1 x4 22 ⟨#[]⟩ ⟨#[]⟩ ⟨#[]⟩ 0)) (g85w_1 (g1056_0_1 x0 x1 x4 22 ⟨#[]⟩ ⟨#[]⟩ ⟨#[]⟩ 0)) x4 x7 x8 x9 x10 x11)),(g152_2 (g1056_1_2 (g85w_0 (g1056_0_0 x0 x1 x4 22 ⟨#[]⟩ ⟨#[]⟩ ⟨#[]⟩ 0)) (g85w_1 (g1056_0_1 x0 x1 x4 22 ⟨#[]⟩ ⟨#[]⟩ ⟨#[]⟩ 0)) x4 x7 x8 x9 x10 x11)),(g152_3 (g1056_1_3 (g85w_0 (g1056_0_0 x0 x1 x4 22 ⟨#[]⟩ ⟨#[]⟩ ⟨#[]⟩ 0)) (g85w_1 (g1056_0_1 x0 x1 x4 22 ⟨#[]⟩ ⟨#[]⟩ ⟨#[]⟩ 0)) x4 x7 x8 x9 x10 x11))⟩:T137)),(g1056_1_0 (g85w_0 (g1056_0_0 x0 x1 x4 22 ⟨#[]⟩ ⟨#[]⟩ ⟨#[]⟩ 0)) (g85w_1 (g1056_0_1 x0 x1 x4 22 ⟨#[]⟩ ⟨#[]⟩ ⟨#[]⟩ 0)) x4 x7 x8 x9 x10 x11),(g1056_1_1 (g85w_0 (g1056_0_0 x0 x1 x4 22 ⟨#[]⟩ ⟨#[]⟩ ⟨#[]⟩ 0)) (g85w_1 (g1056_0_1 x0 x1 x4 22 ⟨#[]⟩ ⟨#[]⟩ ⟨#[]⟩ 0)) x4 x7 x8 x9 x10 x11),(g1056_1_2 (g85w_0 (g1056_0_0 x0 x1 x4 22 ⟨#[]⟩ ⟨#[]⟩ ⟨#[]⟩ 0)) (g85w_1 (g1056_0_1 x0 x1 x4 22 ⟨#[]⟩ ⟨#[]⟩ ⟨#[]⟩ 0)) x4 x7 x8 x9 x10 x11),(g1056_1_3 (g85w_0 (g1056_0_0 x0 x1 x4 22 ⟨#[]⟩ ⟨#[]⟩ ⟨#[]⟩ 0)) (g85w_1 (g1056_0_1 x0 x1 x4 22 ⟨#[]⟩ ⟨#[]⟩ ⟨#[]⟩ 0)) x4 x7 x8 x9 x10 x11)))))else(false,default,default,default,default,default,default,default,default))
noncomputable def g2022_r1(x0:Int)(x1:Sl T175)(x2:Int)(x3:Sl T137)(x4:Int)(x5:Int)(x6:Int)(x7:Int)(x8:ByteArray)(x9:ByteArray)(x10:ByteArray)(x11:Int):Bool×Int×Sl T175×Int×Sl T137×Int×ByteArray×Int×Sl ByteArray:=g2022_l2 x0 x1 x2 x3 x4 x5 x6 x7 x8 x9 x10 x11 ((Int.toNat ((((g85w_h0_0 x3).n:Nat):Int)-0))+1) 0
noncomputable def g2022_p2(x0:Int)(x1:Sl T175)(x2:Int)(x3:Sl T137)(x4:Int)(x5:Int)(x6:Int)(x7:Int)(x8:ByteArray)(x9:ByteArray)(x10:ByteArray)(x11:Int):Bool:=(bif(g2022_r1 x0 x1 x2 x3 x4 x5 x6 x7 x8 x9 x10 x11).1 then false else true)
noncomputable def g2022_0_0(x0:Int)(x1:Sl T175)(x2:Int)(x3:Sl T137)(x4:Int)(x5:Int)(x6:Int)(x7:Int)(x8:ByteArray)(x9:ByteArray)(x10:ByteArray)(x11:Int):Int:=(bif(x5==0)then(g2041_0_0 (g85w_0 (g1056_0_0 x0 x1 x4 22 ⟨#[]⟩ ⟨#[]⟩ ⟨#[]⟩ 0)))else(bif(g2022_p2 x0 x1 x2 x3 x4 x5 x6 x7 x8 x9 x10 x11)then(g85w_0 (g1056_0_0 x0 x1 x4 22 ⟨#[]⟩ ⟨#[]⟩ ⟨#[]⟩ 0))else(g2022_r1 x0 x1 x2 x3 x4 x5 x6 x7 x8 x9 x10 x11).2.1))
noncomputable def g2022_0_1(x0:Int)(x1:Sl T175)(x2:Int)(x3:Sl T137)(x4:Int)(x5:Int)(x6:Int)(x7:Int)(x8:ByteArray)(x9:ByteArray)(x10:ByteArray)(x11:Int):Sl T175:=(bif(x5==0)then(g2041_0_1 (g85w_1 (g1056_0_1 x0 x1 x4 22 ⟨#[]⟩ ⟨#[]⟩ ⟨#[]⟩ 0)))else(bif(g2022_p2 x0 x1 x2 x3 x4 x5 x6 x7 x8 x9 x10 x11)then(g85w_1 (g1056_0_1 x0 x1 x4 22 ⟨#[]⟩ ⟨#[]⟩ ⟨#[]⟩ 0))else(g2022_r1 x0 x1 x2 x3 x4 x5 x6 x7 x8 x9 x10 x11).2.2.1))
noncomputable def g2022_0_2(x0:Int)(x1:Sl T175)(x2:Int)(x3:Sl T137)(x4:Int)(x5:Int)(x6:Int)(x7:Int)(x8:ByteArray)(x9:ByteArray)(x10:ByteArray)(x11:Int):Int:=(bif(x5==0)then(g2041_0_2 (g85w_2 x2))else(bif(g2022_p2 x0 x1 x2 x3 x4 x5 x6 x7 x8 x9 x10 x11)then(g85w_2 x2)else(g2022_r1 x0 x1 x2 x3 x4 x5 x6 x7 x8 x9 x10 x11).2.2.2.1))
noncomputable def g2022_0_3(x0:Int)(x1:Sl T175)(x2:Int)(x3:Sl T137)(x4:Int)(x5:Int)(x6:Int)(x7:Int)(x8:ByteArray)(x9:ByteArray)(x10:ByteArray)(x11:Int):Sl T137:=(bif(x5==0)then(g2041_0_3 (g85w_0 (g1056_0_0 x0 x1 x4 22 ⟨#[]⟩ ⟨#[]⟩ ⟨#[]⟩ 0)) (g85w_2 x2) (g85w_h0_0 x3))else(bif(g2022_p2 x0 x1 x2 x3 x4 x5 x6 x7 x8 x9 x10 x11)then(g85w_h0_0 x3)else(g2022_r1 x0 x1 x2 x3 x4 x5 x6 x7 x8 x9 x10 x11).2.2.2.2.1))
noncomputable def g2022_1_0(x0:Int)(x1:Sl T175)(x2:Int)(x3:Sl T137)(x4:Int)(x5:Int)(x6:Int)(x7:Int)(x8:ByteArray)(x9:ByteArray)(x10:ByteArray)(x11:Int):Int:=(bif(x5==0)then(g2041_1_0 (g85w_2 x2))else(bif(g2022_p2 x0 x1 x2 x3 x4 x5 x6 x7 x8 x9 x10 x11)then 11 else(g2022_r1 x0 x1 x2 x3 x4 x5 x6 x7 x8 x9 x10 x11).2.2.2.2.2.1))
noncomputable def g2022_1_1(x0:Int)(x1:Sl T175)(x2:Int)(x3:Sl T137)(x4:Int)(x5:Int)(x6:Int)(x7:Int)(x8:ByteArray)(x9:ByteArray)(x10:ByteArray)(x11:Int):ByteArray:=(bif(x5==0)then g2041_1_1 else(bif(g2022_p2 x0 x1 x2 x3 x4 x5 x6 x7 x8 x9 x10 x11)then⟨#[]⟩else(g2022_r1 x0 x1 x2 x3 x4 x5 x6 x7 x8 x9 x10 x11).2.2.2.2.2.2.1))
noncomputable def g2022_1_2(x0:Int)(x1:Sl T175)(x2:Int)(x3:Sl T137)(x4:Int)(x5:Int)(x6:Int)(x7:Int)(x8:ByteArray)(x9:ByteArray)(x10:ByteArray)(x11:Int):Int:=(bif(x5==0)then(g2041_1_2 (g85w_2 x2))else(bif(g2022_p2 x0 x1 x2 x3 x4 x5 x6 x7 x8 x9 x10 x11)then 0 else(g2022_r1 x0 x1 x2 x3 x4 x5 x6 x7 x8 x9 x10 x11).2.2.2.2.2.2.2.1))
noncomputable def g2022_1_3(x0:Int)(x1:Sl T175)(x2:Int)(x3:Sl T137)(x4:Int)(x5:Int)(x6:Int)(x7:Int)(x8:ByteArray)(x9:ByteArray)(x10:ByteArray)(x11:Int):Sl ByteArray:=(bif(x5==0)then g2041_1_3 else(bif(g2022_p2 x0 x1 x2 x3 x4 x5 x6 x7 x8 x9 x10 x11)then(nilSl:Sl ByteArray)else(g2022_r1 x0 x1 x2 x3 x4 x5 x6 x7 x8 x9 x10 x11).2.2.2.2.2.2.2.2))
noncomputable def F2022:Fq:=⟨[.g [kI,.sl E175,kI,.sl E137],.v kI,.g [kI,kI,kI,kS,kS,kS,kI]],fun(x0:Int) x1 (x2:Int) x3 (x4:Int) (x5:Int) (x6:Int) (x7:Int) x8 x9 x10 (x11:Int)=>⟨⟨some (FSq x0 x1∧CC x3),.tup [.agg [.int .i64 (g2022_0_0 x0 x1 x2 x3 x4 x5 x6 x7 x8 x9 x10 x11),ofSl 8 e175 (g2022_0_1 x0 x1 x2 x3 x4 x5 x6 x7 x8 x9 x10 x11),.int .i64 (g2022_0_2 x0 x1 x2 x3 x4 x5 x6 x7 x8 x9 x10 x11),ofSl 7 e137 (g2022_0_3 x0 x1 x2 x3 x4 x5 x6 x7 x8 x9 x10 x11)],.agg [.int .i64 (g2022_1_0 x0 x1 x2 x3 x4 x5 x6 x7 x8 x9 x10 x11),.str (g2022_1_1 x0 x1 x2 x3 x4 x5 x6 x7 x8 x9 x10 x11),.int .i64 (g2022_1_2 x0 x1 x2 x3 x4 x5 x6 x7 x8 x9 x10 x11),ofSl 1 e9 (g2022_1_3 x0 x1 x2 x3 x4 x5 x6 x7 x8 x9 x10 x11)]]⟩⟩⟩
theorem pc2022:FnOk Tryz.prog 22 F2022.sh _ (F2022.sh.flatMap Sh.bs) F2022.f []:=
 fun(x0:Int) x1 n1 _ (x2:Int) x3 n3 _ (x4:Int) (x5:Int) (x6:Int) (x7:Int) x8 n8 x9 n9 x10 n10 (x11:Int) hp=>pure_of_exec (X:=(mkXh 0 [(9,F79.ans),(10,F152.ans),(40,F1056.ans),(41,F2041.ans)] [(4,F85w.ans)])) (R:=⟨.pure,[.cell 6 27,.cell 7 36],[(.c 0 0,kI),(.c 0 1,.sl E175),(.c 0 2,kI),(.c 0 3,.sl E137),(.c 1 0,kI),(.c 1 1,kS),(.c 1 2,kI),(.c 1 3,.sl E9)],⟨[.agg (us 4 []),.agg (us 4 [])],[]⟩⟩) (h:=(.s .z (.s .z (.s .z (.s .z (.j ⟨1216,[],[],[],.f⟩ (.s .z (.lp ⟨9442,[.b 0,.b 4,.b 5],[],[(.t 13,kI)],some 0,true,1216,[.b 1],[],fun k (s:Int)=>g2022_l2 x0 x1 x2 x3 x4 x5 x6 x7 x8 x9 x10 x11 k s,.f,fun(s:Int)=>(0≤s∧s≤(((g85w_h0_0 x3).n:Nat):Int)),fun(s:Int)=>(Int.toNat ((((g85w_h0_0 x3).n:Nat):Int)-s)),none⟩ .z)) .z)))))) (ms:=[]) (p:=((SV x1∧x1.n≤1000000)∧(((x5==0)=true→((g85w_h0_0 x3).n≤1048576))∧((x5==0)=false→(((0≤(0:Int)∧(0:Int)≤(((g85w_h0_0 x3).n:Nat):Int)))∧(∀(v2_0:Int),(0≤v2_0∧v2_0≤(((g85w_h0_0 x3).n:Nat):Int))→(((decide (v2_0<(((g85w_h0_0 x3).n:Nat):Int)))=true→((((0:Int)≤v2_0∧v2_0<(((g85w_h0_0 x3).n:Nat):Int))∧((Int.toNat v2_0)<(g85w_h0_0 x3).n))∧((((g85w_h0_0 x3).at' (Int.toNat v2_0)).c0 !=x5)=false→((x6==((g85w_h0_0 x3).at' (Int.toNat v2_0)).c1)=false→((x6 !=(IntKind.i64.wrap (((g85w_h0_0 x3).at' (Int.toNat v2_0)).c1+1)))=false→((SV (g85w_1 (g1056_0_1 x0 x1 x4 22 ⟨#[]⟩ ⟨#[]⟩ ⟨#[]⟩ 0))∧(g85w_1 (g1056_0_1 x0 x1 x4 22 ⟨#[]⟩ ⟨#[]⟩ ⟨#[]⟩ 0)).n≤1000000)∧(((0:Int)≤v2_0∧v2_0<(((g85w_h0_0 x3).n:Nat):Int))∧((Int.toNat v2_0)<(g85w_h0_0 x3).n))))))))∧((decide (v2_0<(((g85w_h0_0 x3).n:Nat):Int)))=true→((((g85w_h0_0 x3).at' (Int.toNat v2_0)).c0 !=x5)=true→((0≤(IntKind.i64.wrap (v2_0+1))∧(IntKind.i64.wrap (v2_0+1))≤(((g85w_h0_0 x3).n:Nat):Int))∧(Int.toNat ((((g85w_h0_0 x3).n:Nat):Int)- (IntKind.i64.wrap (v2_0+1))))<(Int.toNat ((((g85w_h0_0 x3).n:Nat):Int)-v2_0)))))))))))) (mkXh_ok ⟨k79,k152,k1056,k2041,trivial⟩ ⟨k85w,trivial⟩) Tryz.func22 rfl rfl (by kernel_rfl) (have⟨hq0,hq1⟩:=hp;⟨⟨(by have:=n85w hq1;have:=fs_n hq0;have:=n22 x4 hq0;repeat first|assumption|apply fs86|apply sv22|apply fs_sv|apply cz1016|apply rcs1011|apply gl0_1013|apply gls1013|apply fd_gl|apply fd0_1012|apply fds1012|apply fde1012|apply fdc1012|apply u90|apply ss1016|apply cz_of|apply sv1017|apply sv1056|apply th1106|apply ce85|apply cc85'|apply vok_t|apply rmok|apply And.intro|apply ce95|apply cc95),(by have:=n85w hq1;have:=fs_n hq0;have:=n22 x4 hq0;omega)⟩,⟨(fun h1=>(by have:=eq_of_beq h1;have:=n85w hq1;have:=fs_n hq0;have:=n22 x4 hq0;omega)),(fun h2=>⟨(by have:=ne_of_beq_false h2;have:=n85w hq1;have:=fs_n hq0;have:=n22 x4 hq0;omega),(fun v2_0 hI3=>⟨(fun h4=>⟨⟨(by have:=ne_of_beq_false h2;have:=of_decide_eq_true h4;have:=n85w hq1;have:=fs_n hq0;have:=n22 x4 hq0;omega),(by have:=ne_of_beq_false h2;have:=of_decide_eq_true h4;have:=n85w hq1;have:=fs_n hq0;have:=n22 x4 hq0;omega)⟩,(fun h5=>(fun h6=>(fun h7=>⟨⟨(by have:=ne_of_beq_false h2;have:=of_decide_eq_true h4;have:=bne_eq_false_iff_eq.1 h5;have:=ne_of_beq_false h6;have:=bne_eq_false_iff_eq.1 h7;have:=n85w hq1;have:=fs_n hq0;have:=n22 x4 hq0;repeat first|assumption|apply fs86|apply sv22|apply fs_sv|apply cz1016|apply rcs1011|apply gl0_1013|apply gls1013|apply fd_gl|apply fd0_1012|apply fds1012|apply fde1012|apply fdc1012|apply u90|apply ss1016|apply cz_of|apply sv1017|apply sv1056|apply th1106|apply ce85|apply cc85'|apply vok_t|apply rmok|apply And.intro|apply ce95|apply cc95),(by have:=ne_of_beq_false h2;have:=of_decide_eq_true h4;have:=bne_eq_false_iff_eq.1 h5;have:=ne_of_beq_false h6;have:=bne_eq_false_iff_eq.1 h7;have:=n85w hq1;have:=fs_n hq0;have:=n22 x4 hq0;omega)⟩,⟨(by have:=ne_of_beq_false h2;have:=of_decide_eq_true h4;have:=bne_eq_false_iff_eq.1 h5;have:=ne_of_beq_false h6;have:=bne_eq_false_iff_eq.1 h7;have:=n85w hq1;have:=fs_n hq0;have:=n22 x4 hq0;omega),(by have:=ne_of_beq_false h2;have:=of_decide_eq_true h4;have:=bne_eq_false_iff_eq.1 h5;have:=ne_of_beq_false h6;have:=bne_eq_false_iff_eq.1 h7;have:=n85w hq1;have:=fs_n hq0;have:=n22 x4 hq0;omega)⟩⟩)))⟩),(fun h8=>(fun h9=>(by have:=ne_of_beq_false h2;have:=of_decide_eq_true h8;have:=bne_iff_ne.1 h9;have:=n85w hq1;have:=fs_n hq0;have:=n22 x4 hq0;first|omega|(have:=wrap64 (x:=(v2_0+1)) (by omega) (by omega);omega))))⟩)⟩)⟩⟩)
theorem k2022:XOk Tryz.prog 22 F2022.ans:=Fq.ok ⟨_,_,Tryz.func22,rfl,by kernel_rfl⟩ pc2022
end Go.Proofs.YtfbpilmhnpkfhaaGreatDoor
/-
  Walks: what functions of the program answer, as functions.
-/
namespace Go.Proofs.YtfbpilmhnpkfhaaGreatDoor
open Go Go.Vc Go.RowKit
set_option maxRecDepth 100000
set_option maxHeartbeats 4000000
noncomputable def g2006_m1(x0:Int)(x1:Sl T175)(x2:Int)(x3:Sl T137)(x4:Int):Bool:=(bif((g86 x0 x1 x2 x3)==0)then(!(g112 x4 0 1073741824))else false)
noncomputable def g2006_m2(x0:Int)(x1:Sl T175)(x2:Int)(x3:Sl T137)(x4:Int):Int:=(bif(g2006_m1 x0 x1 x2 x3 x4)then 2 else(g86 x0 x1 x2 x3))
noncomputable def g2006_m3(x0:Int)(x1:Sl T175)(x2:Int)(x3:Sl T137)(x4:Int)(x5:Int)(x6:Int)(x7:Int)(x8:ByteArray)(x9:ByteArray)(x10:ByteArray)(x11:Int):Int:=(bif((g2006_m2 x0 x1 x2 x3 x4)==0)then(g50 x5 x6 x7 x8 x9 x10 x11)else(g2006_m2 x0 x1 x2 x3 x4))
noncomputable def g2006_0_0(x0:Int)(x1:Sl T175)(x2:Int)(x3:Sl T137)(x4:Int)(x5:Int)(x6:Int)(x7:Int)(x8:ByteArray)(x9:ByteArray)(x10:ByteArray)(x11:Int):Int:=(bif((g2006_m3 x0 x1 x2 x3 x4 x5 x6 x7 x8 x9 x10 x11)!=0)then 0 else(g2022_0_0 x0 x1 x2 x3 x4 x5 x6 x7 x8 x9 x10 x11))
noncomputable def g2006_0_1(x0:Int)(x1:Sl T175)(x2:Int)(x3:Sl T137)(x4:Int)(x5:Int)(x6:Int)(x7:Int)(x8:ByteArray)(x9:ByteArray)(x10:ByteArray)(x11:Int):Sl T175:=(bif((g2006_m3 x0 x1 x2 x3 x4 x5 x6 x7 x8 x9 x10 x11)!=0)then(nilSl:Sl T175)else(g2022_0_1 x0 x1 x2 x3 x4 x5 x6 x7 x8 x9 x10 x11))
noncomputable def g2006_0_2(x0:Int)(x1:Sl T175)(x2:Int)(x3:Sl T137)(x4:Int)(x5:Int)(x6:Int)(x7:Int)(x8:ByteArray)(x9:ByteArray)(x10:ByteArray)(x11:Int):Int:=(bif((g2006_m3 x0 x1 x2 x3 x4 x5 x6 x7 x8 x9 x10 x11)!=0)then 0 else(g2022_0_2 x0 x1 x2 x3 x4 x5 x6 x7 x8 x9 x10 x11))
noncomputable def g2006_0_3(x0:Int)(x1:Sl T175)(x2:Int)(x3:Sl T137)(x4:Int)(x5:Int)(x6:Int)(x7:Int)(x8:ByteArray)(x9:ByteArray)(x10:ByteArray)(x11:Int):Sl T137:=(bif((g2006_m3 x0 x1 x2 x3 x4 x5 x6 x7 x8 x9 x10 x11)!=0)then(nilSl:Sl T137)else(g2022_0_3 x0 x1 x2 x3 x4 x5 x6 x7 x8 x9 x10 x11))
noncomputable def g2006_1_0(x0:Int)(x1:Sl T175)(x2:Int)(x3:Sl T137)(x4:Int)(x5:Int)(x6:Int)(x7:Int)(x8:ByteArray)(x9:ByteArray)(x10:ByteArray)(x11:Int):Int:=(bif((g2006_m3 x0 x1 x2 x3 x4 x5 x6 x7 x8 x9 x10 x11)!=0)then 0 else(g2022_1_0 x0 x1 x2 x3 x4 x5 x6 x7 x8 x9 x10 x11))
noncomputable def g2006_1_1(x0:Int)(x1:Sl T175)(x2:Int)(x3:Sl T137)(x4:Int)(x5:Int)(x6:Int)(x7:Int)(x8:ByteArray)(x9:ByteArray)(x10:ByteArray)(x11:Int):ByteArray:=(bif((g2006_m3 x0 x1 x2 x3 x4 x5 x6 x7 x8 x9 x10 x11)!=0)then⟨#[]⟩else(g2022_1_1 x0 x1 x2 x3 x4 x5 x6 x7 x8 x9 x10 x11))
noncomputable def g2006_1_2(x0:Int)(x1:Sl T175)(x2:Int)(x3:Sl T137)(x4:Int)(x5:Int)(x6:Int)(x7:Int)(x8:ByteArray)(x9:ByteArray)(x10:ByteArray)(x11:Int):Int:=(bif((g2006_m3 x0 x1 x2 x3 x4 x5 x6 x7 x8 x9 x10 x11)!=0)then 0 else(g2022_1_2 x0 x1 x2 x3 x4 x5 x6 x7 x8 x9 x10 x11))
noncomputable def g2006_1_3(x0:Int)(x1:Sl T175)(x2:Int)(x3:Sl T137)(x4:Int)(x5:Int)(x6:Int)(x7:Int)(x8:ByteArray)(x9:ByteArray)(x10:ByteArray)(x11:Int):Sl ByteArray:=(bif((g2006_m3 x0 x1 x2 x3 x4 x5 x6 x7 x8 x9 x10 x11)!=0)then(nilSl:Sl ByteArray)else(g2022_1_3 x0 x1 x2 x3 x4 x5 x6 x7 x8 x9 x10 x11))
noncomputable def g2006_2(x0:Int)(x1:Sl T175)(x2:Int)(x3:Sl T137)(x4:Int)(x5:Int)(x6:Int)(x7:Int)(x8:ByteArray)(x9:ByteArray)(x10:ByteArray)(x11:Int):Int:=(bif((g2006_m3 x0 x1 x2 x3 x4 x5 x6 x7 x8 x9 x10 x11)!=0)then(g2006_m3 x0 x1 x2 x3 x4 x5 x6 x7 x8 x9 x10 x11)else 0)
theorem fs2006{x0:Int}{x1:Sl T175}{x2:Int}{x3:Sl T137}{x4 x5 x6 x7:Int}{x8 x9 x10:ByteArray}{x11:Int}(hc:CE x1)(h:g2006_m3 x0 x1 x2 x3 x4 x5 x6 x7 x8 x9 x10 x11=0):FSq x0 x1:=by
 unfold g2006_m3 at h
 have h2:g2006_m2 x0 x1 x2 x3 x4=0:=by
  cases e:(g2006_m2 x0 x1 x2 x3 x4==0)with
  |true=>exact eq_of_beq e
  |false=>rw[e]at h;exact h
 unfold g2006_m2 at h2
 exact fs86 hc (bz h2 (by decide)).2
noncomputable def F2006:Fq:=⟨[.g [kI,.sl E175,kI,.sl E137],.v kI,.g [kI,kI,kI,kS,kS,kS,kI]],fun(x0:Int) x1 (x2:Int) x3 (x4:Int) (x5:Int) (x6:Int) (x7:Int) x8 x9 x10 (x11:Int)=>⟨⟨some (CE x1∧CC x3),.tup [.agg [.int .i64 (g2006_0_0 x0 x1 x2 x3 x4 x5 x6 x7 x8 x9 x10 x11),ofSl 8 e175 (g2006_0_1 x0 x1 x2 x3 x4 x5 x6 x7 x8 x9 x10 x11),.int .i64 (g2006_0_2 x0 x1 x2 x3 x4 x5 x6 x7 x8 x9 x10 x11),ofSl 7 e137 (g2006_0_3 x0 x1 x2 x3 x4 x5 x6 x7 x8 x9 x10 x11)],.agg [.int .i64 (g2006_1_0 x0 x1 x2 x3 x4 x5 x6 x7 x8 x9 x10 x11),.str (g2006_1_1 x0 x1 x2 x3 x4 x5 x6 x7 x8 x9 x10 x11),.int .i64 (g2006_1_2 x0 x1 x2 x3 x4 x5 x6 x7 x8 x9 x10 x11),ofSl 1 e9 (g2006_1_3 x0 x1 x2 x3 x4 x5 x6 x7 x8 x9 x10 x11)],.int .i64 (g2006_2 x0 x1 x2 x3 x4 x5 x6 x7 x8 x9 x10 x11)]⟩⟩⟩
theorem pc2006:FnOk Tryz.prog 6 F2006.sh _ (F2006.sh.flatMap Sh.bs) F2006.f []:=
 fun(x0:Int) x1 _ _ (x2:Int) x3 _ _ (x4:Int) (x5:Int) (x6:Int) (x7:Int) x8 _ x9 _ x10 _ (x11:Int) hp=>pure_of_exec (X:=(mkX [(21,F50.ans),(19,F86.ans),(20,F112.ans),(22,F2022.ans)])) (R:=⟨.pure,[.cell 6 27,.cell 7 36,.tmp 8],[(.c 0 0,kI),(.c 0 1,.sl E175),(.c 0 2,kI),(.c 0 3,.sl E137),(.c 1 0,kI),(.c 1 1,kS),(.c 1 2,kI),(.c 1 3,.sl E9),(.t 2,kI)],⟨[.agg (us 4 []),.agg (us 4 []),U],[]⟩⟩) (h:=(.s .z (.s .z (.j ⟨1002,[],[(.t 9,kI)],[],.f⟩ (.j ⟨1049578,[],[(.t 20,kB)],[],.f⟩ .z .z) (.j ⟨1002,[],[(.t 9,kI)],[],.f⟩ .z .z))))) (ms:=[]) (p:=(((g2006_m3 x0 x1 x2 x3 x4 x5 x6 x7 x8 x9 x10 x11)!=0)=false→(FSq x0 x1∧CC x3))) (mkX_ok ⟨k50,k86,k112,k2022,trivial⟩) Tryz.func6 rfl rfl (by kernel_rfl) (have⟨hq0,hq1⟩:=hp;(fun h1=>⟨(by have:=bne_eq_false_iff_eq.1 h1;repeat first|assumption|apply cy85|apply fs2006|apply fs86|apply sv22|apply fs_sv|apply cz1016|apply rcs1011|apply gl0_1013|apply gls1013|apply fd_gl|apply fd0_1012|apply fds1012|apply fde1012|apply fdc1012|apply u90|apply ss1016|apply cz_of|apply sv1017|apply sv1056|apply th1106|apply ce85|apply cc85'|apply vok_t|apply rmok|apply And.intro|apply ce95|apply cc95),(by have:=bne_eq_false_iff_eq.1 h1;repeat first|assumption|apply cy85|apply fs2006|apply fs86|apply sv22|apply fs_sv|apply cz1016|apply rcs1011|apply gl0_1013|apply gls1013|apply fd_gl|apply fd0_1012|apply fds1012|apply fde1012|apply fdc1012|apply u90|apply ss1016|apply cz_of|apply sv1017|apply sv1056|apply th1106|apply ce85|apply cc85'|apply vok_t|apply rmok|apply And.intro|apply ce95|apply cc95)⟩))
theorem k2006:XOk Tryz.prog 6 F2006.ans:=Fq.ok ⟨_,_,Tryz.func6,rfl,by kernel_rfl⟩ pc2006
noncomputable def g2003_m1(x0:Int)(x1:Sl T175)(x2:Int)(x3:Sl T137)(x4:Int)(x5:Int)(x6:Int)(x7:Int)(x8:ByteArray)(x9:ByteArray)(x10:ByteArray)(x11:Int):Bool:=(bif((g2005_2 (g85_0 x0) (g85_1 x1) (g85_2 x2) (g85_3 x3) x4 x5 x6 x7 x8 x9 x10 x11)==(g2006_2 x0 x1 x2 x3 x4 x5 x6 x7 x8 x9 x10 x11))then(bif(g34 (g2005_0_0 (g85_0 x0) (g85_1 x1) (g85_2 x2) (g85_3 x3) x4 x5 x6 x7 x8 x9 x10 x11) (g2005_0_1 (g85_0 x0) (g85_1 x1) (g85_2 x2) (g85_3 x3) x4 x5 x6 x7 x8 x9 x10 x11) (g2005_0_2 (g85_0 x0) (g85_1 x1) (g85_2 x2) (g85_3 x3) x4 x5 x6 x7 x8 x9 x10 x11) (g2005_0_3 (g85_0 x0) (g85_1 x1) (g85_2 x2) (g85_3 x3) x4 x5 x6 x7 x8 x9 x10 x11) (g2006_0_0 x0 x1 x2 x3 x4 x5 x6 x7 x8 x9 x10 x11) (g2006_0_1 x0 x1 x2 x3 x4 x5 x6 x7 x8 x9 x10 x11) (g2006_0_2 x0 x1 x2 x3 x4 x5 x6 x7 x8 x9 x10 x11) (g2006_0_3 x0 x1 x2 x3 x4 x5 x6 x7 x8 x9 x10 x11))then(bif(g104 (g2005_1_0 (g85_0 x0) (g85_1 x1) (g85_2 x2) (g85_3 x3) x4 x5 x6 x7 x8 x9 x10 x11) (g2005_1_1 (g85_0 x0) (g85_1 x1) (g85_2 x2) (g85_3 x3) x4 x5 x6 x7 x8 x9 x10 x11) (g2005_1_2 (g85_0 x0) (g85_1 x1) (g85_2 x2) (g85_3 x3) x4 x5 x6 x7 x8 x9 x10 x11) (g2005_1_3 (g85_0 x0) (g85_1 x1) (g85_2 x2) (g85_3 x3) x4 x5 x6 x7 x8 x9 x10 x11) (g2006_1_0 x0 x1 x2 x3 x4 x5 x6 x7 x8 x9 x10 x11) (g2006_1_1 x0 x1 x2 x3 x4 x5 x6 x7 x8 x9 x10 x11) (g2006_1_2 x0 x1 x2 x3 x4 x5 x6 x7 x8 x9 x10 x11) (g2006_1_3 x0 x1 x2 x3 x4 x5 x6 x7 x8 x9 x10 x11))then(g34 (g85_0 x0) (g85_1 x1) (g85_2 x2) (g85_3 x3) x0 x1 x2 x3)else false)else false)else false)
noncomputable def g2003(x0:Int)(x1:Sl T175)(x2:Int)(x3:Sl T137)(x4:Int)(x5:Int)(x6:Int)(x7:Int)(x8:ByteArray)(x9:ByteArray)(x10:ByteArray)(x11:Int):Bool:=(g2003_m1 x0 x1 x2 x3 x4 x5 x6 x7 x8 x9 x10 x11)
noncomputable def F2003:Fq:=⟨[.g [kI,.sl E175,kI,.sl E137],.v kI,.g [kI,kI,kI,kS,kS,kS,kI]],fun(x0:Int) x1 (x2:Int) x3 (x4:Int) (x5:Int) (x6:Int) (x7:Int) x8 x9 x10 (x11:Int)=>⟨⟨some (CE x1∧CC x3),.bool (g2003 x0 x1 x2 x3 x4 x5 x6 x7 x8 x9 x10 x11)⟩⟩⟩
theorem pc2003:FnOk Tryz.prog 3 F2003.sh _ (F2003.sh.flatMap Sh.bs) F2003.f []:=
 fun(x0:Int) x1 _ _ (x2:Int) x3 _ _ (x4:Int) (x5:Int) (x6:Int) (x7:Int) x8 _ x9 _ x10 _ (x11:Int) hp=>pure_of_exec (X:=(mkX [(7,F34.ans),(4,F85.ans),(8,F104.ans),(5,F2005.ans),(6,F2006.ans)])) (R:=⟨.pure,[.tmp 6],[(.t 0,kB)],⟨[U],[]⟩⟩) (h:=(.s .z (.s .z (.s .z (.s .z (.j ⟨64,[.b 0,.b 1,.b 2,.b 3,.b 4,.b 5,.b 6],[(.t 6,kB)],[],.f⟩ .z .z)))))) (ms:=[]) (p:=((CZ (g85_1 x1)∧CY (g85_3 x3))∧(CE x1∧CC x3))) (mkX_ok ⟨k34,k85,k104,k2005,k2006,trivial⟩) Tryz.func3 rfl rfl (by kernel_rfl) (have⟨hq0,hq1⟩:=hp;⟨⟨(by repeat first|assumption|apply cy85|apply fs2006|apply fs86|apply sv22|apply fs_sv|apply cz1016|apply rcs1011|apply gl0_1013|apply gls1013|apply fd_gl|apply fd0_1012|apply fds1012|apply fde1012|apply fdc1012|apply u90|apply ss1016|apply cz_of|apply sv1017|apply sv1056|apply th1106|apply ce85|apply cc85'|apply vok_t|apply rmok|apply And.intro|apply ce95|apply cc95),(by repeat first|assumption|apply cy85|apply fs2006|apply fs86|apply sv22|apply fs_sv|apply cz1016|apply rcs1011|apply gl0_1013|apply gls1013|apply fd_gl|apply fd0_1012|apply fds1012|apply fde1012|apply fdc1012|apply u90|apply ss1016|apply cz_of|apply sv1017|apply sv1056|apply th1106|apply ce85|apply cc85'|apply vok_t|apply rmok|apply And.intro|apply ce95|apply cc95)⟩,⟨(by repeat first|assumption|apply cy85|apply fs2006|apply fs86|apply sv22|apply fs_sv|apply cz1016|apply rcs1011|apply gl0_1013|apply gls1013|apply fd_gl|apply fd0_1012|apply fds1012|apply fde1012|apply fdc1012|apply u90|apply ss1016|apply cz_of|apply sv1017|apply sv1056|apply th1106|apply ce85|apply cc85'|apply vok_t|apply rmok|apply And.intro|apply ce95|apply cc95),(by repeat first|assumption|apply cy85|apply fs2006|apply fs86|apply sv22|apply fs_sv|apply cz1016|apply rcs1011|apply gl0_1013|apply gls1013|apply fd_gl|apply fd0_1012|apply fds1012|apply fde1012|apply fdc1012|apply u90|apply ss1016|apply cz_of|apply sv1017|apply sv1056|apply th1106|apply ce85|apply cc85'|apply vok_t|apply rmok|apply And.intro|apply ce95|apply cc95)⟩⟩)
end Go.Proofs.YtfbpilmhnpkfhaaGreatDoor
/-
  client.Do: the clients that are known, on both sides.
-/
namespace Go.Proofs.YtfbpilmhnpkfhaaGreatDoor
open Go Go.Vc Go.RowKit
set_option maxRecDepth 100000
set_option maxHeartbeats 4000000
theorem e2013{x3:Sl T137}(h:CC x3):g2013 x3=x3:=copy_id (g2013_l1 x3) x3 h.1 (by have:=h.2.1;omega) fun _ _ _=>rfl
theorem r137(x:T137)(h:x.c6.n≤549755813888):R137 x x:=⟨⟨rfl,rfl,rfl,rfl,rfl,rfl⟩,SlE.rfl' (fun _=>rfl) _,h⟩
def KS(s:Sl T137):Prop:=s.n≤549755813888∧ ∀e∈s.B,e.c6.n≤549755813888
theorem ks_cc{s:Sl T137}(h:CC s):KS s:=⟨by have:=h.2.1;omega,fun e he=>by
 simp only[Sl.B,List.mem_map,List.mem_range]at he
 obtain⟨i,hi,rfl⟩:=he
 have:=(h.2.2 i hi).2
 omega⟩
theorem mem137{s:Sl T137}{i:Nat}(hi:i<s.n):s.at' i∈s.B:=by simp only[Sl.B,List.mem_map,List.mem_range];exact⟨i,hi,rfl⟩
theorem sl137{a b:Sl T137}(h:a.B=b.B)(ha:KS a):SlE R137 a b:=⟨nB' h,fun i hi=>by
 rw[at_of_B h hi]
 refine r137 _ ?_
 rw[←at_of_B h hi]
 exact ha.2 _ (mem137 hi)⟩
/-! Opening. -/
section
variable {x3:Sl T137}
theorem st2015(k:Nat)(a b:Int):g2015_l2 x3 (k+1) a b=bif decide (a<((x3.n:Nat):Int))then g2015_l2 x3 k (IntKind.i64.wrap (a+1)) (g2015_m1 x3 a b)else b:=rfl
theorem st2041(k:Nat)(a b:Int):g2041_l2 x3 (k+1) a b=bif g2041_m2 x3 b then g2041_l2 x3 k (g2041_m5 x3 a b) (IntKind.i64.wrap (b+1))else a:=rfl
theorem m5_eq{a b:Int}(h:0≤a):g2041_m5 x3 a b=g2015_m1 x3 b a:=by
 unfold g2041_m5 g2041_m4 g2015_m1
 rw[decide_eq_false (by omega)];rfl
theorem m1_0:g2015_m1 x3 0 0=0:=by unfold g2015_m1;cases decide ((x3.at' (Int.toNat 0)).c2<(x3.at' (Int.toNat 0)).c2)<;>rfl
theorem m5_0:g2041_m5 x3 (-1) 0=0:=rfl
theorem m1_in{a b:Int}(ha:0≤a∧a≤3)(hb:0≤b∧b≤3):0≤g2015_m1 x3 a b∧g2015_m1 x3 a b≤3:=by
 rcases b2015 x3 a b with e|e<;>rw[e]<;>assumption
theorem old_eq(h4:x3.n=4):g2041_r6 x3=g2015_r2 x3∧0≤g2015_r2 x3∧g2015_r2 x3≤3:=by
 have m2: ∀b:Int,0≤b→b<4→g2041_m2 x3 b=true:=fun b h0 h1=>by
  unfold g2041_m2;rw[h4,decide_eq_true (by omega)];rfl
 have m2':g2041_m2 x3 4=false:=by unfold g2041_m2;rw[h4];rfl
 have w: ∀k:Int,0≤k→k≤100→IntKind.i64.wrap (k+1)=k+1:=fun k h0 h1=>wrap64 (by omega) (by omega)
 have a1:=m1_in (x3:=x3) (a:=1) (b:=0) (by omega) (by omega)
 have a2:=m1_in (x3:=x3) (a:=2) (b:=g2015_m1 x3 1 0) (by omega) a1
 have a3:=m1_in (x3:=x3) (a:=3) (b:=g2015_m1 x3 2 (g2015_m1 x3 1 0)) (by omega) a2
 have e1:g2015_r2 x3=g2015_m1 x3 3 (g2015_m1 x3 2 (g2015_m1 x3 1 0)):=by
  unfold g2015_r2
  rw[h4]
  show g2015_l2 x3 (4+1) 0 0=_
  rw[st2015,st2015,st2015,st2015,st2015,h4]
  simp only[Int.zero_add,m1_0]
  rfl
 have e2:g2041_r6 x3=g2015_m1 x3 3 (g2015_m1 x3 2 (g2015_m1 x3 1 0)):=by
  unfold g2041_r6
  rw[h4]
  show g2041_l2 x3 (4+1) (-1) 0=_
  rw[st2041,m2 0 (by omega) (by omega),m5_0,w 0 (by omega) (by omega)]
  simp only[cond_true,Int.zero_add]
  rw[st2041,m2 1 (by omega) (by omega),m5_eq (by omega),w 1 (by omega) (by omega)]
  simp only[cond_true,Int.reduceAdd]
  rw[st2041,m2 2 (by omega) (by omega),m5_eq a1.1,w 2 (by omega) (by omega)]
  simp only[cond_true,Int.reduceAdd]
  rw[st2041,m2 3 (by omega) (by omega),m5_eq a2.1,w 3 (by omega) (by omega)]
  simp only[cond_true,Int.reduceAdd]
  rw[st2041,m2'];rfl
 rw[e2,e1]
 exact⟨rfl,a3⟩
theorem foldG{σ ρ:Type}(F:Nat→Int→σ→ρ)(n:Nat)(step:Nat→σ→σ)(out:σ→ρ)(hn:n≤549755813888)(hF: ∀(k i:Nat) (s:σ),F (k+1) (i:Int) s=bif decide ((i:Int)<(n:Int))then F k (IntKind.i64.wrap ((i:Int)+1)) (step i s)else out s):
  ∀(m i k:Nat) (s:σ),i+m=n→m≤k→F (k+1) (i:Int) s=out ((List.range' i m).foldl (fun st j=>step j st) s)
 |0,i,k,s,h1,_=>by
  rw[hF,decide_eq_false (by omega)];rfl
 |m+1,i,k,s,h1,h2=>by
  obtain⟨k,rfl⟩: ∃q,k=q+1:=⟨k-1,by omega⟩
  rw[hF,decide_eq_true (by omega),wrap64 (by omega) (by omega)]
  simp only[cond_true]
  have:=foldG F n step out hn hF m (i+1) k (step i s) (by omega) (by omega)
  rw[show((i+1:Nat):Int)=(i:Int)+1 by omega]at this
  rw[this,List.range'_succ];rfl
theorem foldG0{σ ρ:Type}(F:Nat→Int→σ→ρ)(n:Nat)(step:Nat→σ→σ)(out:σ→ρ)(hn:n≤549755813888)(hF: ∀(k i:Nat) (s:σ),F (k+1) (i:Int) s=bif decide ((i:Int)<(n:Int))then F k (IntKind.i64.wrap ((i:Int)+1)) (step i s)else out s)(s:σ):
  F (Int.toNat ((n:Int)-0)+1) 0 s=out ((List.range n).foldl (fun st j=>step j st) s):=by
 rw[List.range_eq_range']
 exact foldG F n step out hn hF n 0 _ s (by omega) (by omega)
theorem r8B(hn:x3.n≤549755813888):(g2041_r8 x3).B=((List.range x3.n).filter (fun j=>((j:Nat):Int)!=g2041_r6 x3)).map x3.at':=by
 have h:=foldG0 (fun n i (st:Sl T137)=>g2041_l19 x3 n i st) x3.n (fun j st=>g2041_m7 x3 (j:Int) st) id hn (fun _ _ _=>rfl) nilSl
 have h2:g2041_r8 x3=(List.range x3.n).foldl (fun st (j:Nat)=>g2041_m7 x3 (j:Int) st) nilSl:=h
 rw[h2]
 have key: ∀(l:List Nat) (a:Sl T137),(l.foldl (fun st (j:Nat)=>g2041_m7 x3 (j:Int) st) a).B=a.B++(l.filter (fun j=>((j:Nat):Int)!=g2041_r6 x3)).map x3.at':=by
  intro l
  induction l with
  |nil=>intro a;simp
  |cons j l ih=>
   intro a
   rw[List.foldl_cons,ih,List.filter_cons]
   unfold g2041_m7
   cases ((j:Int)!=g2041_r6 x3)with
   |false=>rfl
   |true=>simp [B_app,B_lit]
 rw[key,B_nil,List.nil_append]
theorem open_B{now x2:Int}(hk:CC x3)(h4:x3.n≤4):(g2015_h2_0 now x2 x3).B=(g2041_0_3 now x2 x3).B∧KS (g2015_h2_0 now x2 x3):=by
 have hB:(g2015_m3 x3).B=(g2041_r8 x3).B:=by
  rw[r8B (by omega)]
  unfold g2015_m3
  rcases Nat.lt_or_ge x3.n 4 with g|g
  ·rw[show(((x3.n:Nat):Int)==4)=false from beq_eq_false_iff_ne.2 (by omega)]
   have e:g2041_r6 x3= -1:=by
    unfold g2041_r6
    rw[st2041]
    have:g2041_m2 x3 0=false:=by
     unfold g2041_m2
     rw[show decide ((x3.n:Int)≥4)=false from decide_eq_false (by omega)]
     cases decide ((0:Int)<(x3.n:Int))<;>rfl
    rw[this];rfl
   rw[e,List.filter_eq_self.2 (fun j _=>bne_iff_ne.2 (by omega))];rfl
  ·have h4:x3.n=4:=by omega
   obtain⟨e,e0,e3⟩:=old_eq h4
   rw[show(((x3.n:Nat):Int)==4)=true from beq_iff_eq.2 (by omega),e]
   simp only[cond_true]
   rw[wrap64 (x:=g2015_r2 x3+1) (by omega) (by omega)]
   obtain⟨r,hr⟩:=Int.eq_ofNat_of_zero_le e0
   rw[hr,show Int.toNat ((r:Int)+1)=r+1 by omega,Int.toNat_natCast,B_del x3 r (by omega)]
   have hx:x3.B=[x3.at' 0,x3.at' 1,x3.at' 2,x3.at' 3]:=by unfold Sl.B;rw[h4];rfl
   rw[hx,h4]
   have hr3:r<4:=by omega
   match r,hr3 with
   |0,_=>rfl
   |1,_=>rfl
   |2,_=>rfl
   |3,_=>rfl
 have hks: ∀e∈(g2041_r8 x3).B,e∈x3.B:=fun e he=>by
  rw[r8B (by omega)]at he
  obtain⟨j,hj,rfl⟩:=List.mem_map.1 he
  exact mem137 (List.mem_range.1 (List.mem_filter.1 hj).1)
 have hn8:(g2041_r8 x3).n≤x3.n:=by
  have h:=congrArg List.length (r8B (x3:=x3) (by omega))
  rw[B_len,List.length_map]at h
  have:=List.length_filter_le (fun j=>((j:Nat):Int)!=g2041_r6 x3) (List.range x3.n)
  rw[List.length_range]at this
  omega
 have kx:=ks_cc hk
 unfold g2015_h2_0 g2041_0_3
 cases decide (x2>1048576)with
 |true=>exact⟨rfl,kx⟩
 |false=>
  simp only[cond_false]
  refine⟨by rw[B_app,B_app,hB],?_,fun e he=> ?_⟩
  ·have:=nB' hB
   show(g2015_m3 x3).n+1≤_
   omega
  ·rw[B_app,B_lit,hB]at he
   rcases List.mem_append.1 he with h|h
   ·exact kx.2 e (hks e h)
   ·rw[List.mem_singleton.1 h];exact Nat.zero_le _
end
/-! The client that calls, in the reference's loop. -/
section
variable (x0:Int) (x1:Sl T175) (x2:Int) (x3:Sl T137) (x4 x5 x6 x7:Int) (x8 x9 x10:ByteArray) (x11:Int)
theorem miss(k i:Nat)(hi:i<(g85w_h0_0 x3).n)(hm:(g85w_h0_0 x3).n≤1048576)(h:((g85w_h0_0 x3).at' i).c0≠x5):
  g2022_l2 x0 x1 x2 x3 x4 x5 x6 x7 x8 x9 x10 x11 (k+1) (i:Int)=g2022_l2 x0 x1 x2 x3 x4 x5 x6 x7 x8 x9 x10 x11 k ((i+1:Nat):Int):=by
 rw[g2022_l2,decide_eq_true (by omega),Int.toNat_natCast,bne_iff_ne.2 h,wrap64 (x:=(i:Int)+1) (by omega) (by omega)];rfl
theorem hit22(k i:Nat)(hi:i<(g85w_h0_0 x3).n)(h:((g85w_h0_0 x3).at' i).c0=x5):
  g2022_l2 x0 x1 x2 x3 x4 x5 x6 x7 x8 x9 x10 x11 (k+1) (i:Int)=g2022_l2 x0 x1 x2 x3 x4 x5 x6 x7 x8 x9 x10 x11 1 (i:Int):=by
 rw[g2022_l2,g2022_l2,decide_eq_true (by omega),Int.toNat_natCast,h,bne_self_eq_false];rfl
theorem found22(hm:(g85w_h0_0 x3).n≤1048576)(t:Nat)(ht:t<(g85w_h0_0 x3).n)(he:((g85w_h0_0 x3).at' t).c0=x5): ∀(d i k:Nat),i+d=t→(∀u,i≤u→u<t→((g85w_h0_0 x3).at' u).c0≠x5)→d≤k→
  g2022_l2 x0 x1 x2 x3 x4 x5 x6 x7 x8 x9 x10 x11 (k+1) (i:Int)=g2022_l2 x0 x1 x2 x3 x4 x5 x6 x7 x8 x9 x10 x11 1 (t:Int)
 |0,i,k,h1,_,_=>by
  obtain rfl:i=t:=by omega
  exact hit22 x0 x1 x2 x3 x4 x5 x6 x7 x8 x9 x10 x11 k i ht he
 |d+1,i,k,h1,h2,h3=>by
  obtain⟨k,rfl⟩: ∃q,k=q+1:=⟨k-1,by omega⟩
  rw[miss x0 x1 x2 x3 x4 x5 x6 x7 x8 x9 x10 x11 (k+1) i (by omega) hm (h2 i (Nat.le_refl _) (by omega))]
  exact found22 hm t ht he d (i+1) k (by omega) (fun u a b=>h2 u (by omega) b) (by omega)
theorem none22(hm:(g85w_h0_0 x3).n≤1048576): ∀(d i k:Nat),i+d=(g85w_h0_0 x3).n→(∀u,i≤u→u<(g85w_h0_0 x3).n→((g85w_h0_0 x3).at' u).c0≠x5)→d≤k→
  (g2022_l2 x0 x1 x2 x3 x4 x5 x6 x7 x8 x9 x10 x11 (k+1) (i:Int)).1=false
 |0,i,k,h1,_,_=>by
  rw[g2022_l2,decide_eq_false (by omega)];rfl
 |d+1,i,k,h1,h2,h3=>by
  obtain⟨k,rfl⟩: ∃q,k=q+1:=⟨k-1,by omega⟩
  rw[miss x0 x1 x2 x3 x4 x5 x6 x7 x8 x9 x10 x11 (k+1) i (by omega) hm (h2 i (Nat.le_refl _) (by omega))]
  exact none22 hm d (i+1) k (by omega) (fun u a b=>h2 u (by omega) b) (by omega)
end
end Go.Proofs.YtfbpilmhnpkfhaaGreatDoor
/-
  client.Do: the law.
-/
namespace Go.Proofs.YtfbpilmhnpkfhaaGreatDoor
open Go Go.Vc Go.RowKit
set_option maxRecDepth 100000
set_option maxHeartbeats 4000000
theorem upd_upd{α:Type}(s:Sl α)(i:Nat)(x y:α):(s.upd i x).upd i y=s.upd i y:=by
 unfold Sl.upd
 congr 1
 funext j
 show(bif Nat.beq j i then y else bif Nat.beq j i then x else s.at' j)=_
 cases Nat.beq j i<;>rfl
section
variable (x0:Int) (x1:Sl T175) (x2:Int) (x3:Sl T137) (x4 x5 x6 x7:Int) (x8 x9 x10:ByteArray) (x11:Int)
theorem fin2003(hc:CE x1)(hk:CC x3)
  (he:g2005_2 x0 x1 x2 x3 x4 x5 x6 x7 x8 x9 x10 x11=g2006_2 x0 x1 x2 x3 x4 x5 x6 x7 x8 x9 x10 x11)
  (h0:g2005_0_0 x0 x1 x2 x3 x4 x5 x6 x7 x8 x9 x10 x11=g2006_0_0 x0 x1 x2 x3 x4 x5 x6 x7 x8 x9 x10 x11)
  (h1:SlE R175 (g2005_0_1 x0 x1 x2 x3 x4 x5 x6 x7 x8 x9 x10 x11) (g2006_0_1 x0 x1 x2 x3 x4 x5 x6 x7 x8 x9 x10 x11)) (n1:(g2005_0_1 x0 x1 x2 x3 x4 x5 x6 x7 x8 x9 x10 x11).n≤549755813888)
  (h2:g2005_0_2 x0 x1 x2 x3 x4 x5 x6 x7 x8 x9 x10 x11=g2006_0_2 x0 x1 x2 x3 x4 x5 x6 x7 x8 x9 x10 x11)
  (h3:SlE R137 (g2005_0_3 x0 x1 x2 x3 x4 x5 x6 x7 x8 x9 x10 x11) (g2006_0_3 x0 x1 x2 x3 x4 x5 x6 x7 x8 x9 x10 x11)) (n3:(g2005_0_3 x0 x1 x2 x3 x4 x5 x6 x7 x8 x9 x10 x11).n≤549755813888)
  (k0:g2005_1_0 x0 x1 x2 x3 x4 x5 x6 x7 x8 x9 x10 x11=g2006_1_0 x0 x1 x2 x3 x4 x5 x6 x7 x8 x9 x10 x11)
  (k1:g2005_1_1 x0 x1 x2 x3 x4 x5 x6 x7 x8 x9 x10 x11=g2006_1_1 x0 x1 x2 x3 x4 x5 x6 x7 x8 x9 x10 x11)
  (k2:g2005_1_2 x0 x1 x2 x3 x4 x5 x6 x7 x8 x9 x10 x11=g2006_1_2 x0 x1 x2 x3 x4 x5 x6 x7 x8 x9 x10 x11)
  (k3:(g2005_1_3 x0 x1 x2 x3 x4 x5 x6 x7 x8 x9 x10 x11).B=(g2006_1_3 x0 x1 x2 x3 x4 x5 x6 x7 x8 x9 x10 x11).B) (m3:(g2005_1_3 x0 x1 x2 x3 x4 x5 x6 x7 x8 x9 x10 x11).n≤549755813888):
  g2003 x0 x1 x2 x3 x4 x5 x6 x7 x8 x9 x10 x11=true:=by
 have e1:g85_1 x1=x1:=ce79 hc
 have e3:g85_3 x3=x3:=cc85 hk
 have zx: ∀e∈x1.B,Z3 e:=fun e he=>by
  obtain⟨i,hi,rfl⟩:=mem_B he
  obtain⟨⟨_,a⟩,⟨_,b⟩,_,d⟩:=hc.2.2 i hi
  exact⟨by omega,by omega,by omega⟩
 have self:g34 x0 x1 x2 x3 x0 x1 x2 x3=true:=t34 (same_of rfl zx) (by have:=hc.2.1;omega) (sl137 rfl (ks_cc hk)) (by have:=hk.2.1;omega)
 have ta:=t34 (x0:=g2006_0_0 x0 x1 x2 x3 x4 x5 x6 x7 x8 x9 x10 x11) (x2:=g2006_0_2 x0 x1 x2 x3 x4 x5 x6 x7 x8 x9 x10 x11) h1 n1 h3 n3
 have tb:=t104 (x0:=g2006_1_0 x0 x1 x2 x3 x4 x5 x6 x7 x8 x9 x10 x11) (x1:=g2006_1_1 x0 x1 x2 x3 x4 x5 x6 x7 x8 x9 x10 x11) (x2:=g2006_1_2 x0 x1 x2 x3 x4 x5 x6 x7 x8 x9 x10 x11) (SlE_of k3) m3
 unfold g2003 g2003_m1
 rw[e1,e3]
 show(bif(g2005_2 x0 x1 x2 x3 x4 x5 x6 x7 x8 x9 x10 x11==g2006_2 x0 x1 x2 x3 x4 x5 x6 x7 x8 x9 x10 x11)then(bif g34 (g2005_0_0 x0 x1 x2 x3 x4 x5 x6 x7 x8 x9 x10 x11) (g2005_0_1 x0 x1 x2 x3 x4 x5 x6 x7 x8 x9 x10 x11) (g2005_0_2 x0 x1 x2 x3 x4 x5 x6 x7 x8 x9 x10 x11) (g2005_0_3 x0 x1 x2 x3 x4 x5 x6 x7 x8 x9 x10 x11) (g2006_0_0 x0 x1 x2 x3 x4 x5 x6 x7 x8 x9 x10 x11) (g2006_0_1 x0 x1 x2 x3 x4 x5 x6 x7 x8 x9 x10 x11) (g2006_0_2 x0 x1 x2 x3 x4 x5 x6 x7 x8 x9 x10 x11) (g2006_0_3 x0 x1 x2 x3 x4 x5 x6 x7 x8 x9 x10 x11)then(bif g104 (g2005_1_0 x0 x1 x2 x3 x4 x5 x6 x7 x8 x9 x10 x11) (g2005_1_1 x0 x1 x2 x3 x4 x5 x6 x7 x8 x9 x10 x11) (g2005_1_2 x0 x1 x2 x3 x4 x5 x6 x7 x8 x9 x10 x11) (g2005_1_3 x0 x1 x2 x3 x4 x5 x6 x7 x8 x9 x10 x11) (g2006_1_0 x0 x1 x2 x3 x4 x5 x6 x7 x8 x9 x10 x11) (g2006_1_1 x0 x1 x2 x3 x4 x5 x6 x7 x8 x9 x10 x11) (g2006_1_2 x0 x1 x2 x3 x4 x5 x6 x7 x8 x9 x10 x11) (g2006_1_3 x0 x1 x2 x3 x4 x5 x6 x7 x8 x9 x10 x11)then g34 x0 x1 x2 x3 x0 x1 x2 x3 else false)else false)else false)=true
 rw[he,h0,h2,k0,k1,k2,ta,tb,self,beq_self_eq_true];rfl
theorem slnil175:SlE R175 (nilSl:Sl T175) nilSl:=⟨rfl,fun i hi=>absurd hi (Nat.not_lt_zero i)⟩
theorem slnil137:SlE R137 (nilSl:Sl T137) nilSl:=⟨rfl,fun i hi=>absurd hi (Nat.not_lt_zero i)⟩
theorem bad2003(hc:CE x1)(hk:CC x3)(e:Int)(h:e≠0)
  (hp:(g84 x0 x1 x2 x3 !=0)=true∧e=g84 x0 x1 x2 x3∨(g84 x0 x1 x2 x3 !=0)=false∧g2005_m1 x4=true∧e=2∨(g84 x0 x1 x2 x3 !=0)=false∧g2005_m1 x4=false∧(g49 x5 x6 x7 x8 x9 x10 x11 !=0)=true∧e=g49 x5 x6 x7 x8 x9 x10 x11)
  (hq:g2006_m3 x0 x1 x2 x3 x4 x5 x6 x7 x8 x9 x10 x11=e):g2003 x0 x1 x2 x3 x4 x5 x6 x7 x8 x9 x10 x11=true:=by
 have hq1:(g2006_m3 x0 x1 x2 x3 x4 x5 x6 x7 x8 x9 x10 x11 !=0)=true:=by rw[hq];exact bne_iff_ne.2 h
 rcases hp with⟨d1,he⟩|⟨d1,d2,he⟩|⟨d1,d2,d3,he⟩
 ·refine fin2003 x0 x1 x2 x3 x4 x5 x6 x7 x8 x9 x10 x11 hc hk ?_ ?_ ?_ ?_ ?_ ?_ ?_ ?_ ?_ ?_ ?_ ?_
  all_goals simp only[g2005_2,g2005_0_0,g2005_0_1,g2005_0_2,g2005_0_3,g2005_1_0,g2005_1_1,g2005_1_2,g2005_1_3,g2006_2,g2006_0_0,g2006_0_1,g2006_0_2,g2006_0_3,g2006_1_0,g2006_1_1,g2006_1_2,g2006_1_3,hq1,d1,cond_true]
  ·rw[hq,he]
  ·exact slnil175
  ·exact Nat.zero_le _
  ·exact slnil137
  ·exact Nat.zero_le _
  ·exact Nat.zero_le _
 ·refine fin2003 x0 x1 x2 x3 x4 x5 x6 x7 x8 x9 x10 x11 hc hk ?_ ?_ ?_ ?_ ?_ ?_ ?_ ?_ ?_ ?_ ?_ ?_
  all_goals simp only[g2005_2,g2005_0_0,g2005_0_1,g2005_0_2,g2005_0_3,g2005_1_0,g2005_1_1,g2005_1_2,g2005_1_3,g2006_2,g2006_0_0,g2006_0_1,g2006_0_2,g2006_0_3,g2006_1_0,g2006_1_1,g2006_1_2,g2006_1_3,hq1,d1,d2,cond_true,cond_false]
  ·rw[hq,he]
  ·exact slnil175
  ·exact Nat.zero_le _
  ·exact slnil137
  ·exact Nat.zero_le _
  ·exact Nat.zero_le _
 ·refine fin2003 x0 x1 x2 x3 x4 x5 x6 x7 x8 x9 x10 x11 hc hk ?_ ?_ ?_ ?_ ?_ ?_ ?_ ?_ ?_ ?_ ?_ ?_
  all_goals simp only[g2005_2,g2005_0_0,g2005_0_1,g2005_0_2,g2005_0_3,g2005_1_0,g2005_1_1,g2005_1_2,g2005_1_3,g2006_2,g2006_0_0,g2006_0_1,g2006_0_2,g2006_0_3,g2006_1_0,g2006_1_1,g2006_1_2,g2006_1_3,hq1,d1,d2,d3,cond_true,cond_false]
  ·rw[hq,he]
  ·exact slnil175
  ·exact Nat.zero_le _
  ·exact slnil137
  ·exact Nat.zero_le _
  ·exact Nat.zero_le _
end
theorem law2003(x0:Int)(x1:Sl T175)(x2:Int)(x3:Sl T137)(x4 x5 x6 x7:Int)(x8 x9 x10:ByteArray)(x11:Int)(_: -9223372036854775808≤x0∧x0≤9223372036854775807)(c1:Canon x1)(n1:x1.n≤1048576)(w1: ∀i,i<x1.n→W175 (x1.at' i))(_: -9223372036854775808≤x2∧x2≤9223372036854775807)(c3:Canon x3)(n3:x3.n≤1048576)(w3: ∀i,i<x3.n→W137 (x3.at' i))(_: -9223372036854775808≤x4∧x4≤9223372036854775807)(_: -9223372036854775808≤x5∧x5≤9223372036854775807)(_: -9223372036854775808≤x6∧x6≤9223372036854775807)(_: -9223372036854775808≤x7∧x7≤9223372036854775807)(_:x8.size≤1048576)(_:x9.size≤1048576)(_:x10.size≤1048576)(h11: -9223372036854775808≤x11∧x11≤9223372036854775807):g2003 x0 x1 x2 x3 x4 x5 x6 x7 x8 x9 x10 x11=true:=by
 have hc:CE x1:=⟨c1,n1,w1⟩
 have hk:CC x3:=⟨c3,n3,w3⟩
 have e84:g84 x0 x1 x2 x3=g86 x0 x1 x2 x3:=g84_eq x0 x1 x2 x3 (by omega) w1 (by omega) w3
 have em1:(!(g112 x4 0 1073741824))=g2005_m1 x4:=by
  unfold g2005_m1
  rw[g112_eq]
  by_cases a:x4<0
  ·rw[decide_eq_true a,decide_eq_false (show¬x4≥0 by omega)];rfl
  ·rw[decide_eq_false a,decide_eq_true (show x4≥0 by omega)]
   by_cases b:x4>1073741824
   ·rw[decide_eq_true b,decide_eq_false (by omega)];rfl
   ·rw[decide_eq_false b,decide_eq_true (by omega)];rfl
 have q3:g2006_m3 x0 x1 x2 x3 x4 x5 x6 x7 x8 x9 x10 x11=bif(g84 x0 x1 x2 x3 !=0)then g84 x0 x1 x2 x3 else bif g2005_m1 x4 then 2 else g49 x5 x6 x7 x8 x9 x10 x11:=by
  unfold g2006_m3 g2006_m2 g2006_m1
  rw[←e84,em1,←g49_eq]
  cases d1:(g84 x0 x1 x2 x3 !=0)with
  |true=>
   have z:(g84 x0 x1 x2 x3==0)=false:=beq_eq_false_iff_ne.2 (bne_iff_ne.1 d1)
   rw[z];simp only[cond_false];rw[z];rfl
  |false=>
   have z:g84 x0 x1 x2 x3=0:=bne_eq_false_iff_eq.1 d1
   rw[z]
   cases g2005_m1 x4<;>rfl
 cases d1:(g84 x0 x1 x2 x3 !=0)with
 |true=>exact bad2003 x0 x1 x2 x3 x4 x5 x6 x7 x8 x9 x10 x11 hc hk (g84 x0 x1 x2 x3) (bne_iff_ne.1 d1) (.inl ⟨d1,rfl⟩) (by rw[q3,d1];rfl)
 |false=>
 cases d2:g2005_m1 x4 with
 |true=>exact bad2003 x0 x1 x2 x3 x4 x5 x6 x7 x8 x9 x10 x11 hc hk 2 (by decide) (.inr (.inl ⟨d1,d2,rfl⟩)) (by rw[q3,d1,d2];rfl)
 |false=>
 cases d3:(g49 x5 x6 x7 x8 x9 x10 x11 !=0)with
 |true=>exact bad2003 x0 x1 x2 x3 x4 x5 x6 x7 x8 x9 x10 x11 hc hk (g49 x5 x6 x7 x8 x9 x10 x11) (bne_iff_ne.1 d3) (.inr (.inr ⟨d1,d2,d3,rfl⟩)) (by rw[q3,d1,d2];rfl)
 |false=>
 have z49:g49 x5 x6 x7 x8 x9 x10 x11=0:=bne_eq_false_iff_eq.1 d3
 have q:(g2006_m3 x0 x1 x2 x3 x4 x5 x6 x7 x8 x9 x10 x11 !=0)=false:=by rw[q3,d1,d2,z49];rfl
 have z84:g84 x0 x1 x2 x3=0:=bne_eq_false_iff_eq.1 d1
 have hM:=chk84 x0 x1 x2 x3 hc.z hk.y z84
 obtain⟨⟨_,hx2,_,h4⟩,_,hK⟩:=hM
 have hFS:FSq x0 x1:=fs86 hc (e84▸z84)
 have z78:=hFS.2
 have d2':g1016_m1 x4=false:=d2
 obtain⟨f1,f2,f3⟩:=first (x0:=x0) (x1:=x1) (x2:=x4) hc z78 d2'
 obtain⟨T,hT⟩: ∃T,T=g1056_r5 x0 x1 x4:=⟨_,rfl⟩
 obtain⟨now,hnow⟩: ∃now,now=g1056_m1 x0 x4:=⟨_,rfl⟩
 rw[←hT]at f1
 rw[←hnow]at f2
 rw[←hT,←hnow]at f3
 have cT:CE T:=by rw[hT];exact(ce1056 hc).1
 have nT:T.n≤12:=by rw[hT];exact Nat.le_trans (ce1056 hc).2 (fs_n hFS)
 have zT: ∀e∈T.B,Z3 e:=fun e he=>by
  obtain⟨i,hi,rfl⟩:=mem_B he
  obtain⟨⟨_,a⟩,⟨_,b⟩,_,d⟩:=cT.2.2 i hi
  exact⟨by omega,by omega,by omega⟩
 have sT:SlE R175 T T:=same_of rfl zT
 have ec:g2013 x3=x3:=e2013 hk
 have er:g85w_h0_0 x3=x3:=e85w hk
 have r1:g85w_1 (g1056_0_1 x0 x1 x4 22 ⟨#[]⟩ ⟨#[]⟩ ⟨#[]⟩ 0)=T:=by rw[e22 hc,hT]
 have r0:g85w_0 (g1056_0_0 x0 x1 x4 22 ⟨#[]⟩ ⟨#[]⟩ ⟨#[]⟩ 0)=now:=by rw[now22,hnow];rfl
 have kx:=ks_cc hk
 cases d4:(x5==0)with
 |true=>
  have oB:=open_B (now:=now) (x2:=x2) hk h4
  refine fin2003 x0 x1 x2 x3 x4 x5 x6 x7 x8 x9 x10 x11 hc hk ?_ ?_ ?_ ?_ ?_ ?_ ?_ ?_ ?_ ?_ ?_ ?_
  all_goals simp only[g2005_2,g2005_0_0,g2005_0_1,g2005_0_2,g2005_0_3,g2005_1_0,g2005_1_1,g2005_1_2,g2005_1_3,g2006_2,g2006_0_0,g2006_0_1,g2006_0_2,g2006_0_3,g2006_1_0,g2006_1_1,g2006_1_2,g2006_1_3,g2022_0_0,g2022_0_1,g2022_0_2,g2022_0_3,g2022_1_0,g2022_1_1,g2022_1_2,g2022_1_3,q,d1,d2,d3,d4,cond_true,cond_false,f1,f2,r0,r1,ec,er,g2041_0_0,g2041_0_1]
  ·exact sT
  ·omega
  ·rfl
  ·exact sl137 oB.1 oB.2
  ·exact oB.2.1
  ·rfl
  ·rfl
  ·unfold g2015_2 g2041_1_2
   show(bif decide (x2>1048576)then 0 else _)=(bif decide (x2>1048576)then 0 else x2)
   cases decide (x2>1048576)with
   |true=>rfl
   |false=>simp only[cond_false];rw[wrap64 (x:=x2+1) (by omega) (by omega),wrap64 (by omega) (by omega)];omega
  ·rfl
  ·exact Nat.zero_le _
 |false=>
 have nm:(g85w_h0_0 x3).n≤1048576:=by rw[er];exact n3
 rcases r2016c x3 x5 (by omega)with⟨ei,hno⟩|⟨t,ht,ei,hyes,hfirst⟩
 ·have d5:decide ((-1:Int)<0)=true:=by decide
  have pn:g2022_p2 x0 x1 x2 x3 x4 x5 x6 x7 x8 x9 x10 x11=true:=by
   unfold g2022_p2 g2022_r1
   have:=none22 x0 x1 x2 x3 x4 x5 x6 x7 x8 x9 x10 x11 nm (g85w_h0_0 x3).n 0 (Int.toNat ((((g85w_h0_0 x3).n:Nat):Int)-0)) (by omega) (fun u _ hu=>by
    rw[er]at hu ⊢
    exact beq_eq_false_iff_ne.1 (hno u hu)) (by omega)
   rw[show((0:Nat):Int)=0 from rfl]at this
   rw[this];rfl
  refine fin2003 x0 x1 x2 x3 x4 x5 x6 x7 x8 x9 x10 x11 hc hk ?_ ?_ ?_ ?_ ?_ ?_ ?_ ?_ ?_ ?_ ?_ ?_
  all_goals simp only[g2005_2,g2005_0_0,g2005_0_1,g2005_0_2,g2005_0_3,g2005_1_0,g2005_1_1,g2005_1_2,g2005_1_3,g2006_2,g2006_0_0,g2006_0_1,g2006_0_2,g2006_0_3,g2006_1_0,g2006_1_1,g2006_1_2,g2006_1_3,g2022_0_0,g2022_0_1,g2022_0_2,g2022_0_3,g2022_1_0,g2022_1_1,g2022_1_2,g2022_1_3,q,d1,d2,d3,d4,cond_true,cond_false,f1,f2,r0,r1,ec,er,ei,d5,pn]
  ·exact sT
  ·omega
  ·rfl
  ·exact sl137 rfl kx
  ·exact kx.1
  ·exact Nat.zero_le _
 have d5:decide ((t:Int)<0)=false:=decide_eq_false (by omega)
 have he:(x3.at' t).c0=x5:=eq_of_beq hyes
 have hV:g2022_r1 x0 x1 x2 x3 x4 x5 x6 x7 x8 x9 x10 x11=g2022_l2 x0 x1 x2 x3 x4 x5 x6 x7 x8 x9 x10 x11 1 (t:Int):=by
  unfold g2022_r1
  exact found22 x0 x1 x2 x3 x4 x5 x6 x7 x8 x9 x10 x11 nm t (by rw[er];exact ht) (by rw[er];exact he) t 0 (Int.toNat ((((g85w_h0_0 x3).n:Nat):Int)-0)) (by omega) (fun u _ hu=>by
   rw[er]
   exact beq_eq_false_iff_ne.1 (hfirst u hu)) (by rw[er];omega)
 rw[g2022_l2,er,decide_eq_true (show(t:Int)<((x3.n:Nat):Int) by omega),Int.toNat_natCast,he,bne_self_eq_false]at hV
 simp only[cond_true,cond_false,r0,r1]at hV
 obtain⟨wk,wn⟩:=w3 t ht
 have e152:g152_3 (x3.at' t).c6=(x3.at' t).c6:=copy152 _ wk (by omega)
 cases d6:(x6==(x3.at' t).c1)with
 |true=>
  rw[d6]at hV
  have pn:g2022_p2 x0 x1 x2 x3 x4 x5 x6 x7 x8 x9 x10 x11=false:=by unfold g2022_p2;rw[hV];rfl
  refine fin2003 x0 x1 x2 x3 x4 x5 x6 x7 x8 x9 x10 x11 hc hk ?_ ?_ ?_ ?_ ?_ ?_ ?_ ?_ ?_ ?_ ?_ ?_
  all_goals simp only[g2005_2,g2005_0_0,g2005_0_1,g2005_0_2,g2005_0_3,g2005_1_0,g2005_1_1,g2005_1_2,g2005_1_3,g2006_2,g2006_0_0,g2006_0_1,g2006_0_2,g2006_0_3,g2006_1_0,g2006_1_1,g2006_1_2,g2006_1_3,g2022_0_0,g2022_0_1,g2022_0_2,g2022_0_3,g2022_1_0,g2022_1_1,g2022_1_2,g2022_1_3,q,d1,d2,d3,d4,cond_true,cond_false,f1,f2,r0,r1,ec,er,ei,d5,Int.toNat_natCast,d6,pn,hV]
  ·exact sT
  ·omega
  ·rfl
  ·exact sl137 rfl kx
  ·exact kx.1
  ·rfl
  ·rfl
  ·rfl
  ·rw[e152];rfl
  ·exact kx.2 _ (mem137 ht)
 |false=>
 rw[d6]at hV
 simp only[cond_false]at hV
 cases d7:(x6 !=(IntKind.i64.wrap ((x3.at' t).c1+1)))with
 |true=>
  rw[d7]at hV
  have pn:g2022_p2 x0 x1 x2 x3 x4 x5 x6 x7 x8 x9 x10 x11=false:=by unfold g2022_p2;rw[hV];rfl
  refine fin2003 x0 x1 x2 x3 x4 x5 x6 x7 x8 x9 x10 x11 hc hk ?_ ?_ ?_ ?_ ?_ ?_ ?_ ?_ ?_ ?_ ?_ ?_
  all_goals simp only[g2005_2,g2005_0_0,g2005_0_1,g2005_0_2,g2005_0_3,g2005_1_0,g2005_1_1,g2005_1_2,g2005_1_3,g2006_2,g2006_0_0,g2006_0_1,g2006_0_2,g2006_0_3,g2006_1_0,g2006_1_1,g2006_1_2,g2006_1_3,g2022_0_0,g2022_0_1,g2022_0_2,g2022_0_3,g2022_1_0,g2022_1_1,g2022_1_2,g2022_1_3,q,d1,d2,d3,d4,cond_true,cond_false,f1,f2,r0,r1,ec,er,ei,d5,Int.toNat_natCast,d6,d7,pn,hV]
  ·exact sT
  ·omega
  ·rfl
  ·exact sl137 rfl kx
  ·exact kx.1
  ·exact Nat.zero_le _
 |false=>
 rw[d7]at hV
 simp only[cond_false]at hV
 have pn:g2022_p2 x0 x1 x2 x3 x4 x5 x6 x7 x8 x9 x10 x11=false:=by unfold g2022_p2;rw[hV];rfl
 have z47:g47 x7 x8 x9 x10 x11=0:=by
  unfold g49 at z49
  rw[d4]at z49
  have z49:(bif g49_m1 x5 x6 then 2 else g47 x7 x8 x9 x10 x11)=0:=z49
  exact(bz z49 (by decide)).2
 have A:=app_ok (x0:=now) (x1:=T) (x2:=x4) (x3:=x7) (x4:=x8) (x5:=x9) (x6:=x10) (x7:=x11) cT f3 d2' z47 h11
 have lr:(g1056_1_3 now T x4 x7 x8 x9 x10 x11).n≤60:=by rw[←nB' A.r3];exact A.l3
 have eB:(g152_3 (g1056_1_3 now T x4 x7 x8 x9 x10 x11)).B=(g1056_1_3 now T x4 x7 x8 x9 x10 x11).B:=by
  have:=mapB (g152_l1 (g1056_1_3 now T x4 x7 x8 x9 x10 x11)) (g1056_1_3 now T x4 x7 x8 x9 x10 x11) (fun x=>x) (by omega) (fun _ _ _=>rfl) nilSl
  rw[List.map_id',B_nil,List.nil_append]at this;exact this
 refine fin2003 x0 x1 x2 x3 x4 x5 x6 x7 x8 x9 x10 x11 hc hk ?_ ?_ ?_ ?_ ?_ ?_ ?_ ?_ ?_ ?_ ?_ ?_
 all_goals simp only[g2005_2,g2005_0_0,g2005_0_1,g2005_0_2,g2005_0_3,g2005_1_0,g2005_1_1,g2005_1_2,g2005_1_3,g2006_2,g2006_0_0,g2006_0_1,g2006_0_2,g2006_0_3,g2006_1_0,g2006_1_1,g2006_1_2,g2006_1_3,g2022_0_0,g2022_0_1,g2022_0_2,g2022_0_3,g2022_1_0,g2022_1_1,g2022_1_2,g2022_1_3,q,d1,d2,d3,d4,cond_false,f1,f2,r0,r1,ec,er,ei,d5,Int.toNat_natCast,d6,d7,pn,hV,upd_at,upd_upd]
 ·rw[A.w];exact A.w'.symm
 ·exact same_of A.e A.z
 ·have:=A.n;omega
 ·rfl
 ·refine⟨rfl,fun i hi=> ?_⟩
  rw[A.w,←A.w',A.r0,A.r1,A.r2]
  show R137 (bif Nat.beq i t then _ else x3.at' i) (bif Nat.beq i t then _ else x3.at' i)
  cases Nat.beq i t with
  |false=>exact r137 _ (kx.2 _ (mem137 hi))
  |true=>exact⟨⟨he,rfl,rfl,rfl,rfl,rfl⟩,SlE_of (A.r3.trans eB.symm),by have:=A.l3;show(g1016_1_3 now T x4 x7 x8 x9 x10 x11).n≤_;omega⟩
 ·exact kx.1
 ·exact A.r0
 ·exact A.r1
 ·exact A.r2
 ·exact A.r3
 ·have:=A.l3;omega
end Go.Proofs.YtfbpilmhnpkfhaaGreatDoor
