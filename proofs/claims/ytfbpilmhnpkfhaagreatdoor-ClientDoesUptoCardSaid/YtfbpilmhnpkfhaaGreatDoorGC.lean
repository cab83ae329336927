/-
  Walks: what functions of the program answer, as functions.
-/
import Derived.Test.YtfbpilmhnpkfhaaGreatDoorCl
import Derived.Test.YtfbpilmhnpkfhaaGreatDoorEc
import Derived.Test.YtfbpilmhnpkfhaaGreatDoorGA
import Derived.Test.YtfbpilmhnpkfhaaGreatDoorGB
import Derived.Test.YtfbpilmhnpkfhaaGreatDoorVcH
import Derived.Test.YtfbpilmhnpkfhaaGreatDoorVcN
import Derived.Test.YtfbpilmhnpkfhaaGreatDoorTy
set_option linter.all false
namespace Go.Proofs.YtfbpilmhnpkfhaaGreatDoor
open Go Go.Vc Go.RowKit
set_option maxRecDepth 100000
set_option maxHeartbeats 4000000
noncomputable def g190_m1(x6:Int):Bool:=(bif(x6==1)then true else(bif(x6==3)then true else(bif(x6==4)then true else(bif(x6==7)then true else(bif(x6==8)then true else(bif(x6==11)then true else(x6==14)))))))
noncomputable def g190_m2(x0:Int)(x6:Int):Bool:=(bif(decide ((g219 x6)>0))then(bif((g219 x6)!=x0)then true else(bif(x6==17)then(decide (x0<3))else(bif(x6==18)then(decide (x0<3))else false)))else(bif(x6==17)then(decide (x0<3))else(bif(x6==18)then(decide (x0<3))else false)))
noncomputable def g190_m3(x0:Int)(x1:ByteArray)(x2:Int)(x3:Sl T160)(x4:Sl ByteArray)(x5:Sl T164)(x6:Int):Int:=(bif(g189 x0 x1 x2 x3 x4 x5)then(g219 x6)else x0)
noncomputable def g190_p4(x0:Int)(x1:ByteArray)(x2:Int)(x3:Sl T160)(x4:Sl ByteArray)(x5:Sl T164)(x6:Int):Bool:=(bif(g189 x0 x1 x2 x3 x4 x5)then(bif(!(g190_m1 x6))then false else true)else(bif(g190_m2 x0 x6)then false else true))
noncomputable def g190_l20(x4:Sl ByteArray):Nat→Int→Sl ByteArray→Sl ByteArray
 |0,_,_=>default
 |k+1,v20_0,v20_1=>(bif(decide (v20_0<(x4.n:Int)))then(g190_l20 x4 k (IntKind.i64.wrap (v20_0+1)) (Sl.app v20_1 (Sl.lit ([(x4.at' (Int.toNat v20_0))]:List ByteArray))))else v20_1)
noncomputable def g190_r5(x4:Sl ByteArray):Sl ByteArray:=g190_l20 x4 ((Int.toNat ((x4.n:Int)-0))+1) 0 (nilSl:Sl ByteArray)
noncomputable def g190_l26(x3:Sl T160):Nat→Int→Sl ByteArray→Sl ByteArray
 |0,_,_=>default
 |k+1,v26_0,v26_1=>(bif(decide (v26_0<(x3.n:Int)))then(g190_l26 x3 k (IntKind.i64.wrap (v26_0+1)) (Sl.app v26_1 (Sl.lit ([(x3.at' (Int.toNat v26_0)).c0]:List ByteArray))))else v26_1)
noncomputable def g190_r6(x3:Sl T160)(x4:Sl ByteArray):Sl ByteArray:=g190_l26 x3 ((Int.toNat ((x3.n:Int)-0))+1) 0 (g190_r5 x4)
noncomputable def g190_l31(x5:Sl T164):Nat→Int→Sl ByteArray→Sl ByteArray
 |0,_,_=>default
 |k+1,v31_0,v31_1=>(bif(decide (v31_0<(x5.n:Int)))then(g190_l31 x5 k (IntKind.i64.wrap (v31_0+1)) (Sl.app v31_1 (Sl.lit ([(x5.at' (Int.toNat v31_0)).c0]:List ByteArray))))else v31_1)
noncomputable def g190_r7(x3:Sl T160)(x4:Sl ByteArray)(x5:Sl T164):Sl ByteArray:=g190_l31 x5 ((Int.toNat ((x5.n:Int)-0))+1) 0 (g190_r6 x3 x4)
noncomputable def g190_m8(x0:Int)(x1:ByteArray)(x2:Int)(x3:Sl T160)(x4:Sl ByteArray)(x5:Sl T164)(x6:Int)(x8:ByteArray)(x9:ByteArray)(x10:Int):Int:=(bif(x6==1)then 1 else(bif(x6==2)then(g190_m3 x0 x1 x2 x3 x4 x5 x6)else(bif(x6==3)then(g190_m3 x0 x1 x2 x3 x4 x5 x6)else(bif(x6==17)then(g190_m3 x0 x1 x2 x3 x4 x5 x6)else(bif(x6==18)then(g190_m3 x0 x1 x2 x3 x4 x5 x6)else(bif((g219 x6)==3)then(g220_0_0 (g190_m3 x0 x1 x2 x3 x4 x5 x6) x3 x6 x8 x9)else(bif((g219 x6)==4)then(g221_0_0 (g190_m3 x0 x1 x2 x3 x4 x5 x6) x4 x6)else(bif((g219 x6)==5)then(g222_0_0 (g190_m3 x0 x1 x2 x3 x4 x5 x6) x4 x6 x9)else(g223_0_0 (g190_m3 x0 x1 x2 x3 x4 x5 x6) x5 x6 x9 x10)))))))))
noncomputable def g190_m9(x1:ByteArray)(x3:Sl T160)(x4:Sl ByteArray)(x5:Sl T164)(x6:Int)(x8:ByteArray)(x9:ByteArray)(x10:Int):ByteArray:=(bif(x6==1)then x9 else(bif(x6==2)then x1 else(bif(x6==3)then x1 else(bif(x6==17)then x1 else(bif(x6==18)then x1 else(bif((g219 x6)==3)then(g220_0_1 x1 x3 x6 x8 x9)else(bif((g219 x6)==4)then(g221_0_1 x1 x4 x6)else(bif((g219 x6)==5)then(g222_0_1 x1 x4 x6 x9)else(g223_0_1 x1 x5 x6 x9 x10)))))))))
noncomputable def g190_m10(x2:Int)(x3:Sl T160)(x4:Sl ByteArray)(x5:Sl T164)(x6:Int)(x8:ByteArray)(x9:ByteArray)(x10:Int):Int:=(bif(x6==1)then 0 else(bif(x6==2)then x2 else(bif(x6==3)then(bif(!(g114 (IntKind.i64.wrap (x2+x10))))then x2 else(IntKind.i64.wrap (x2+x10)))else(bif(x6==17)then x2 else(bif(x6==18)then x2 else(bif((g219 x6)==3)then(g220_0_2 x2 x3 x6 x8 x9)else(bif((g219 x6)==4)then(g221_0_2 x2 x4 x6)else(bif((g219 x6)==5)then(g222_0_2 x2 x4 x6 x9)else(g223_0_2 x2 x5 x6 x9 x10)))))))))
noncomputable def g190_m11(x3:Sl T160)(x4:Sl ByteArray)(x5:Sl T164)(x6:Int)(x8:ByteArray)(x9:ByteArray)(x10:Int):Sl T160:=(bif(x6==1)then(nilSl:Sl T160)else(bif(x6==2)then x3 else(bif(x6==3)then x3 else(bif(x6==17)then x3 else(bif(x6==18)then x3 else(bif((g219 x6)==3)then(g220_0_3 x3 x6 x8 x9)else(bif((g219 x6)==4)then(g221_0_3 x3 x4 x6)else(bif((g219 x6)==5)then(g222_0_3 x3 x4 x6 x9)else(g223_0_3 x3 x5 x6 x9 x10)))))))))
noncomputable def g190_m12(x3:Sl T160)(x4:Sl ByteArray)(x5:Sl T164)(x6:Int)(x8:ByteArray)(x9:ByteArray)(x10:Int):Sl ByteArray:=(bif(x6==1)then(nilSl:Sl ByteArray)else(bif(x6==2)then x4 else(bif(x6==3)then x4 else(bif(x6==17)then x4 else(bif(x6==18)then x4 else(bif((g219 x6)==3)then(g220_0_4 x3 x4 x6 x8 x9)else(bif((g219 x6)==4)then(g221_0_4 x4 x6 x9)else(bif((g219 x6)==5)then(g222_0_4 x4 x6 x9)else(g223_0_4 x4 x5 x6 x9 x10)))))))))
noncomputable def g190_m13(x3:Sl T160)(x4:Sl ByteArray)(x5:Sl T164)(x6:Int)(x8:ByteArray)(x9:ByteArray)(x10:Int):Sl T164:=(bif(x6==1)then(nilSl:Sl T164)else(bif(x6==2)then x5 else(bif(x6==3)then x5 else(bif(x6==17)then x5 else(bif(x6==18)then x5 else(bif((g219 x6)==3)then(g220_0_5 x3 x5 x6 x8 x9)else(bif((g219 x6)==4)then(g221_0_5 x4 x5 x6)else(bif((g219 x6)==5)then(g222_0_5 x4 x5 x6 x9)else(g223_0_5 x5 x6 x9 x10)))))))))
noncomputable def g190_m14(x2:Int)(x3:Sl T160)(x4:Sl ByteArray)(x5:Sl T164)(x6:Int)(x8:ByteArray)(x9:ByteArray)(x10:Int):Int:=(bif(x6==1)then 0 else(bif(x6==2)then 0 else(bif(x6==3)then(bif(!(g114 (IntKind.i64.wrap (x2+x10))))then 7 else 0)else(bif(x6==17)then 0 else(bif(x6==18)then 0 else(bif((g219 x6)==3)then(g220_1_0 x3 x6 x8 x9)else(bif((g219 x6)==4)then(g221_1_0 x4 x6)else(bif((g219 x6)==5)then(g222_1_0 x4 x6 x9)else(g223_1_0 x5 x6 x9 x10)))))))))
noncomputable def g190_m15(x1:ByteArray)(x3:Sl T160)(x4:Sl ByteArray)(x6:Int)(x8:ByteArray)(x9:ByteArray):ByteArray:=(bif(x6==1)then⟨#[]⟩else(bif(x6==2)then x1 else(bif(x6==3)then⟨#[]⟩else(bif(x6==17)then⟨#[]⟩else(bif(x6==18)then⟨#[]⟩else(bif((g219 x6)==3)then(g220_1_1 x3 x6 x8 x9)else(bif((g219 x6)==4)then(g221_1_1 x4 x6)else(bif((g219 x6)==5)then g222_1_1 else g223_1_1))))))))
noncomputable def g190_m16(x2:Int)(x3:Sl T160)(x4:Sl ByteArray)(x5:Sl T164)(x6:Int)(x8:ByteArray)(x9:ByteArray)(x10:Int):Int:=(bif(x6==1)then 0 else(bif(x6==2)then 0 else(bif(x6==3)then(bif(!(g114 (IntKind.i64.wrap (x2+x10))))then 0 else(IntKind.i64.wrap (x2+x10)))else(bif(x6==17)then(g145 x3 x4 x5)else(bif(x6==18)then 0 else(bif((g219 x6)==3)then(g220_1_2 x3 x6 x8 x9)else(bif((g219 x6)==4)then(g221_1_2 x4 x6)else(bif((g219 x6)==5)then(g222_1_2 x4 x6 x9)else(g223_1_2 x5 x6 x9 x10)))))))))
noncomputable def g190_m17(x3:Sl T160)(x4:Sl ByteArray)(x5:Sl T164)(x6:Int):Sl ByteArray:=(bif(x6==1)then(nilSl:Sl ByteArray)else(bif(x6==2)then(nilSl:Sl ByteArray)else(bif(x6==3)then(nilSl:Sl ByteArray)else(bif(x6==17)then(nilSl:Sl ByteArray)else(bif(x6==18)then(g190_r7 x3 x4 x5)else(bif((g219 x6)==3)then g220_1_3 else(bif((g219 x6)==4)then g221_1_3 else(bif((g219 x6)==5)then g222_1_3 else g223_1_3))))))))
noncomputable def g190_m18(x0:Int)(x1:ByteArray)(x2:Int)(x3:Sl T160)(x4:Sl ByteArray)(x5:Sl T164)(x6:Int)(x8:ByteArray)(x9:ByteArray)(x10:Int):Bool:=(bif(decide ((g190_m8 x0 x1 x2 x3 x4 x5 x6 x8 x9 x10)≥3))then((g145 (g190_m11 x3 x4 x5 x6 x8 x9 x10) (g190_m12 x3 x4 x5 x6 x8 x9 x10) (g190_m13 x3 x4 x5 x6 x8 x9 x10))==0)else false)
noncomputable def g190_m19(x0:Int)(x1:ByteArray)(x2:Int)(x3:Sl T160)(x4:Sl ByteArray)(x5:Sl T164)(x6:Int)(x8:ByteArray)(x9:ByteArray)(x10:Int):Int:=(bif(g190_m18 x0 x1 x2 x3 x4 x5 x6 x8 x9 x10)then 0 else(g190_m8 x0 x1 x2 x3 x4 x5 x6 x8 x9 x10))
noncomputable def g190_m20(x0:Int)(x1:ByteArray)(x2:Int)(x3:Sl T160)(x4:Sl ByteArray)(x5:Sl T164)(x6:Int)(x8:ByteArray)(x9:ByteArray)(x10:Int):ByteArray:=(bif(g190_m18 x0 x1 x2 x3 x4 x5 x6 x8 x9 x10)then⟨#[]⟩else(g190_m9 x1 x3 x4 x5 x6 x8 x9 x10))
noncomputable def g190_m21(x0:Int)(x1:ByteArray)(x2:Int)(x3:Sl T160)(x4:Sl ByteArray)(x5:Sl T164)(x6:Int)(x8:ByteArray)(x9:ByteArray)(x10:Int):Int:=(bif(g190_m18 x0 x1 x2 x3 x4 x5 x6 x8 x9 x10)then 0 else(g190_m10 x2 x3 x4 x5 x6 x8 x9 x10))
noncomputable def g190_m22(x0:Int)(x1:ByteArray)(x2:Int)(x3:Sl T160)(x4:Sl ByteArray)(x5:Sl T164)(x6:Int)(x8:ByteArray)(x9:ByteArray)(x10:Int):Sl T160:=(bif(g190_m18 x0 x1 x2 x3 x4 x5 x6 x8 x9 x10)then(nilSl:Sl T160)else(g190_m11 x3 x4 x5 x6 x8 x9 x10))
noncomputable def g190_m23(x0:Int)(x1:ByteArray)(x2:Int)(x3:Sl T160)(x4:Sl ByteArray)(x5:Sl T164)(x6:Int)(x8:ByteArray)(x9:ByteArray)(x10:Int):Sl ByteArray:=(bif(g190_m18 x0 x1 x2 x3 x4 x5 x6 x8 x9 x10)then(nilSl:Sl ByteArray)else(g190_m12 x3 x4 x5 x6 x8 x9 x10))
noncomputable def g190_m24(x0:Int)(x1:ByteArray)(x2:Int)(x3:Sl T160)(x4:Sl ByteArray)(x5:Sl T164)(x6:Int)(x8:ByteArray)(x9:ByteArray)(x10:Int):Sl T164:=(bif(g190_m18 x0 x1 x2 x3 x4 x5 x6 x8 x9 x10)then(nilSl:Sl T164)else(g190_m13 x3 x4 x5 x6 x8 x9 x10))
noncomputable def g190_0_0(x0:Int)(x1:ByteArray)(x2:Int)(x3:Sl T160)(x4:Sl ByteArray)(x5:Sl T164)(x6:Int)(x8:ByteArray)(x9:ByteArray)(x10:Int):Int:=(bif(g190_p4 x0 x1 x2 x3 x4 x5 x6)then(bif((g190_m14 x2 x3 x4 x5 x6 x8 x9 x10)!=0)then x0 else(g190_m19 x0 x1 x2 x3 x4 x5 x6 x8 x9 x10))else x0)
noncomputable def g190_0_1(x0:Int)(x1:ByteArray)(x2:Int)(x3:Sl T160)(x4:Sl ByteArray)(x5:Sl T164)(x6:Int)(x8:ByteArray)(x9:ByteArray)(x10:Int):ByteArray:=(bif(g190_p4 x0 x1 x2 x3 x4 x5 x6)then(bif((g190_m14 x2 x3 x4 x5 x6 x8 x9 x10)!=0)then x1 else(g190_m20 x0 x1 x2 x3 x4 x5 x6 x8 x9 x10))else x1)
noncomputable def g190_0_2(x0:Int)(x1:ByteArray)(x2:Int)(x3:Sl T160)(x4:Sl ByteArray)(x5:Sl T164)(x6:Int)(x8:ByteArray)(x9:ByteArray)(x10:Int):Int:=(bif(g190_p4 x0 x1 x2 x3 x4 x5 x6)then(bif((g190_m14 x2 x3 x4 x5 x6 x8 x9 x10)!=0)then x2 else(g190_m21 x0 x1 x2 x3 x4 x5 x6 x8 x9 x10))else x2)
noncomputable def g190_0_3(x0:Int)(x1:ByteArray)(x2:Int)(x3:Sl T160)(x4:Sl ByteArray)(x5:Sl T164)(x6:Int)(x8:ByteArray)(x9:ByteArray)(x10:Int):Sl T160:=(bif(g190_p4 x0 x1 x2 x3 x4 x5 x6)then(bif((g190_m14 x2 x3 x4 x5 x6 x8 x9 x10)!=0)then x3 else(g190_m22 x0 x1 x2 x3 x4 x5 x6 x8 x9 x10))else x3)
noncomputable def g190_0_4(x0:Int)(x1:ByteArray)(x2:Int)(x3:Sl T160)(x4:Sl ByteArray)(x5:Sl T164)(x6:Int)(x8:ByteArray)(x9:ByteArray)(x10:Int):Sl ByteArray:=(bif(g190_p4 x0 x1 x2 x3 x4 x5 x6)then(bif((g190_m14 x2 x3 x4 x5 x6 x8 x9 x10)!=0)then x4 else(g190_m23 x0 x1 x2 x3 x4 x5 x6 x8 x9 x10))else x4)
noncomputable def g190_0_5(x0:Int)(x1:ByteArray)(x2:Int)(x3:Sl T160)(x4:Sl ByteArray)(x5:Sl T164)(x6:Int)(x8:ByteArray)(x9:ByteArray)(x10:Int):Sl T164:=(bif(g190_p4 x0 x1 x2 x3 x4 x5 x6)then(bif((g190_m14 x2 x3 x4 x5 x6 x8 x9 x10)!=0)then x5 else(g190_m24 x0 x1 x2 x3 x4 x5 x6 x8 x9 x10))else x5)
noncomputable def g190_1_0(x0:Int)(x1:ByteArray)(x2:Int)(x3:Sl T160)(x4:Sl ByteArray)(x5:Sl T164)(x6:Int)(x8:ByteArray)(x9:ByteArray)(x10:Int):Int:=(bif(g190_p4 x0 x1 x2 x3 x4 x5 x6)then(g190_m14 x2 x3 x4 x5 x6 x8 x9 x10)else(bif(g189 x0 x1 x2 x3 x4 x5)then 5 else 4))
noncomputable def g190_1_1(x0:Int)(x1:ByteArray)(x2:Int)(x3:Sl T160)(x4:Sl ByteArray)(x5:Sl T164)(x6:Int)(x8:ByteArray)(x9:ByteArray):ByteArray:=(bif(g190_p4 x0 x1 x2 x3 x4 x5 x6)then(g190_m15 x1 x3 x4 x6 x8 x9)else⟨#[]⟩)
noncomputable def g190_1_2(x0:Int)(x1:ByteArray)(x2:Int)(x3:Sl T160)(x4:Sl ByteArray)(x5:Sl T164)(x6:Int)(x8:ByteArray)(x9:ByteArray)(x10:Int):Int:=(bif(g190_p4 x0 x1 x2 x3 x4 x5 x6)then(g190_m16 x2 x3 x4 x5 x6 x8 x9 x10)else 0)
noncomputable def g190_1_3(x0:Int)(x1:ByteArray)(x2:Int)(x3:Sl T160)(x4:Sl ByteArray)(x5:Sl T164)(x6:Int):Sl ByteArray:=(bif(g190_p4 x0 x1 x2 x3 x4 x5 x6)then(g190_m17 x3 x4 x5 x6)else(nilSl:Sl ByteArray))
theorem d190(x0:Int)(x1:ByteArray)(x2:Int)(x3:Sl T160)(x4:Sl ByteArray)(x5:Sl T164)(x6:Int)(h:g190_p4 x0 x1 x2 x3 x4 x5 x6=true)(hl:x0≠4∨1≤x4.n):
  g219 x6≠4∨(7≤x6∧x6≤8)∨1≤x4.n:=by
 by_cases e:g219 x6=4
 ·unfold g190_p4 at h
  cases e1:g189 x0 x1 x2 x3 x4 x5 with
  |true=>
   simp only[e1,cond_true]at h
   by_cases e7:x6=7
   ·omega
   by_cases e8:x6=8
   ·omega
   have hm:g190_m1 x6=true:=by
    cases e2:g190_m1 x6 with
    |true=>rfl
    |false=>rw[e2]at h;cases h
   have k:x6=1∨x6=3∨x6=4∨x6=11∨x6=14:=by
    by_cases a:x6=1
    ·omega
    by_cases b:x6=3
    ·omega
    by_cases c:x6=4
    ·omega
    by_cases d:x6=11
    ·omega
    by_cases f:x6=14
    ·omega
    simp [g190_m1,a,b,c,d,f,e7,e8]at hm
   rcases k with k|k|k|k|k<;>subst k<;>exact absurd e (by simp [g219,g112,g112_m1])
  |false=>
   simp only[e1,cond_false]at h
   have hm:g190_m2 x0 x6=false:=by
    cases e2:g190_m2 x0 x6 with
    |false=>rfl
    |true=>rw[e2]at h;cases h
   unfold g190_m2 at hm
   rw[e]at hm
   have e3:((4:Int)!=x0)=false:=by
    cases e4:((4:Int)!=x0)with
    |false=>rfl
    |true=>rw[e4]at hm;cases hm
   have:=bne_eq_false_iff_eq.1 e3
   omega
 ·exact .inl e
noncomputable def F190:Fq:=⟨[.g [kI,kS,kI,.sl E160,.sl E9,.sl E164],.g [kI,kS,kS,kS,kI]],fun(x0:Int) x1 (x2:Int) x3 x4 x5 (x6:Int) _ x8 x9 (x10:Int)=>⟨⟨some (x3.n≤1000000∧x4.n≤1000000∧x5.n≤1000000∧(x0≠4∨1≤x4.n)),.tup [.agg [.int .i64 (g190_0_0 x0 x1 x2 x3 x4 x5 x6 x8 x9 x10),.str (g190_0_1 x0 x1 x2 x3 x4 x5 x6 x8 x9 x10),.int .i64 (g190_0_2 x0 x1 x2 x3 x4 x5 x6 x8 x9 x10),ofSl 2 e160 (g190_0_3 x0 x1 x2 x3 x4 x5 x6 x8 x9 x10),ofSl 1 e9 (g190_0_4 x0 x1 x2 x3 x4 x5 x6 x8 x9 x10),ofSl 2 e164 (g190_0_5 x0 x1 x2 x3 x4 x5 x6 x8 x9 x10)],.agg [.int .i64 (g190_1_0 x0 x1 x2 x3 x4 x5 x6 x8 x9 x10),.str (g190_1_1 x0 x1 x2 x3 x4 x5 x6 x8 x9),.int .i64 (g190_1_2 x0 x1 x2 x3 x4 x5 x6 x8 x9 x10),ofSl 1 e9 (g190_1_3 x0 x1 x2 x3 x4 x5 x6)]]⟩⟩⟩
theorem pc190:FnOk Tryz.prog 92 F190.sh _ (F190.sh.flatMap Sh.bs) F190.f []:=
 fun(x0:Int) x1 n1 (x2:Int) x3 n3 _ x4 n4 _ x5 n5 _ (x6:Int) x7 n7 x8 n8 x9 n9 (x10:Int) hp=>pure_of_exec (X:=(mkX [(60,F114.ans),(86,F145.ans),(108,F189.ans),(107,F219.ans),(109,F220.ans),(110,F221.ans),(111,F222.ans),(112,F223.ans)])) (R:=⟨.pure,[.cell 4 64,.cell 5 36],[(.c 0 0,kI),(.c 0 1,kS),(.c 0 2,kI),(.c 0 3,.sl E160),(.c 0 4,.sl E9),(.c 0 5,.sl E164),(.c 1 0,kI),(.c 1 1,kS),(.c 1 2,kI),(.c 1 3,.sl E9)],⟨[.agg (us 6 []),.agg (us 4 [])],[]⟩⟩) (h:=(.s .z (.s .z (.s .z (.j ⟨252,[],[(.h 0 0,kI)],[],.f⟩ (.s .z (.s (.j ⟨508,[],[(.t 8,kB)],[],.f⟩ .z .z) (.j ⟨1208925819614629174706428,[],[(.t 80,kB)],[],.f⟩ .z .z))) (.s .z (.jc ⟨692,[.b 1],[(.h 0 0,kI),(.h 0 1,kS),(.h 0 2,kI),(.h 0 3,.sl E160),(.h 0 4,.sl E9),(.h 0 5,.sl E164),(.h 5 0,kI),(.h 5 1,kS),(.h 5 2,kI),(.h 5 3,.sl E9)],[(.b .f (.b .f (.b .l .f))),(.b .f (.b .f (.b .l .f))),.f,(.b .f (.b .f (.b .l .f))),(.b .f (.b .f (.b .l .f))),(.b .f (.b .f (.b .l .f))),.f,(.b .f (.b .f (.b .l .f))),.f,(.b .f (.b .f (.b .l .f)))],.f⟩ [.dat (.h 5 3) E9] (.s .z (.s .z (.s .z (.s .z (.s .z (.s .z (.s .z (.s .z (.s .z (.s (.j ⟨692,[],[],[],.f⟩ (.s .z (.lp ⟨1716,[.b 1],[(.h 5 3,E9)],[(.t 10,kI),(.h 6 0,.blk E9)],some 1,false,692,[],[(.h 6 0,.blk E9)],fun k (s:Int×Sl ByteArray)=>g190_l20 x4 k s.1 s.2,.f,fun(s:Int×Sl ByteArray)=>((0≤s.1∧s.1≤(x4.n:Int))∧((s.2.n:Nat):Int)≤0+(s.1-0)),fun(s:Int×Sl ByteArray)=>(Int.toNat ((x4.n:Int)-s.1)),some fun(r:Sl ByteArray)=>((r.n:Nat):Int)≤0+max ((x4.n:Int)-0) 0⟩ .z)) (.j ⟨692,[],[],[],.f⟩ (.s .z (.lp ⟨2740,[],[],[(.t 11,kI),(.h 6 0,.blk E9)],some 3,false,692,[],[(.h 6 0,.blk E9)],fun k (s:Int×Sl ByteArray)=>g190_l26 x3 k s.1 s.2,.f,fun(s:Int×Sl ByteArray)=>((0≤s.1∧s.1≤(x3.n:Int))∧((s.2.n:Nat):Int)≤(g190_r5 x4).n+(s.1-0)),fun(s:Int×Sl ByteArray)=>(Int.toNat ((x3.n:Int)-s.1)),some fun(r:Sl ByteArray)=>((r.n:Nat):Int)≤(g190_r5 x4).n+max ((x3.n:Int)-0) 0⟩ .z)) (.s .z (.lp ⟨4788,[],[],[(.t 12,kI),(.h 6 0,.blk E9)],some 5,false,692,[],[(.h 6 0,.blk E9)],fun k (s:Int×Sl ByteArray)=>g190_l31 x5 k s.1 s.2,.f,fun(s:Int×Sl ByteArray)=>((0≤s.1∧s.1≤(x5.n:Int))∧((s.2.n:Nat):Int)≤(g190_r6 x3 x4).n+(s.1-0)),fun(s:Int×Sl ByteArray)=>(Int.toNat ((x5.n:Int)-s.1)),some fun(r:Sl ByteArray)=>((r.n:Nat):Int)≤(g190_r6 x3 x4).n+max ((x5.n:Int)-0) 0⟩ .z)))) .z)))))))))) (.s .z (.j ⟨564,[],[(.h 0 0,kI),(.h 0 1,kS),(.h 0 2,kI),(.h 0 3,.sl E160),(.h 0 4,.sl E9),(.h 0 5,.sl E164)],[],.f⟩ (.j ⟨431359146674410236714672241392314090778194310760649159697657763988020,[.b 4],[(.t 228,kB)],[],.f⟩ .z .z) .z))))))))) (ms:=[(.b .f .l),(.b .f .l),(.b .f .l),(.b .f .l),(.b .f .l),(.b .f .l),(.b .l .f),(.b .l .l),(.b .l .l),(.b .l .l)]) (p:=((g190_p4 x0 x1 x2 x3 x4 x5 x6)=true→((x6==1)=false→((x6==2)=false→((x6==3)=false→((x6==17)=false→(((x6==18)=true→(((((0≤(0:Int)∧(0:Int)≤(x4.n:Int))∧((0:Nat):Int)≤0+((0:Int)-0)))∧(∀(v20_0:Int) (v20_1:Sl ByteArray),((0≤v20_0∧v20_0≤(x4.n:Int))∧((v20_1.n:Nat):Int)≤0+(v20_0-0))→(((decide (v20_0<(x4.n:Int)))=true→(((0:Int)≤v20_0∧v20_0<((x4.n:Nat):Int))∧(v20_1.n+1≤549755813888)))∧(((decide (v20_0<(x4.n:Int)))=true→(((0≤(IntKind.i64.wrap (v20_0+1))∧(IntKind.i64.wrap (v20_0+1))≤(x4.n:Int))∧(((v20_1.n+1):Nat):Int)≤0+((IntKind.i64.wrap (v20_0+1))-0))∧(Int.toNat ((x4.n:Int)- (IntKind.i64.wrap (v20_0+1))))<(Int.toNat ((x4.n:Int)-v20_0))))∧((decide (v20_0<(x4.n:Int)))=false→(((v20_1.n:Nat):Int)≤0+max ((x4.n:Int)-0) 0))))))∧(((((g190_r5 x4).n:Nat):Int)≤0+max ((x4.n:Int)-0) 0)→(((((0≤(0:Int)∧(0:Int)≤(x3.n:Int))∧(((g190_r5 x4).n:Nat):Int)≤(g190_r5 x4).n+((0:Int)-0)))∧(∀(v26_0:Int) (v26_1:Sl ByteArray),((0≤v26_0∧v26_0≤(x3.n:Int))∧((v26_1.n:Nat):Int)≤(g190_r5 x4).n+(v26_0-0))→(((decide (v26_0<(x3.n:Int)))=true→(((0:Int)≤v26_0∧v26_0<((x3.n:Nat):Int))∧(v26_1.n+1≤549755813888)))∧(((decide (v26_0<(x3.n:Int)))=true→(((0≤(IntKind.i64.wrap (v26_0+1))∧(IntKind.i64.wrap (v26_0+1))≤(x3.n:Int))∧(((v26_1.n+1):Nat):Int)≤(g190_r5 x4).n+((IntKind.i64.wrap (v26_0+1))-0))∧(Int.toNat ((x3.n:Int)- (IntKind.i64.wrap (v26_0+1))))<(Int.toNat ((x3.n:Int)-v26_0))))∧((decide (v26_0<(x3.n:Int)))=false→(((v26_1.n:Nat):Int)≤(g190_r5 x4).n+max ((x3.n:Int)-0) 0))))))∧(((((g190_r6 x3 x4).n:Nat):Int)≤(g190_r5 x4).n+max ((x3.n:Int)-0) 0)→((((0≤(0:Int)∧(0:Int)≤(x5.n:Int))∧(((g190_r6 x3 x4).n:Nat):Int)≤(g190_r6 x3 x4).n+((0:Int)-0)))∧(∀(v31_0:Int) (v31_1:Sl ByteArray),((0≤v31_0∧v31_0≤(x5.n:Int))∧((v31_1.n:Nat):Int)≤(g190_r6 x3 x4).n+(v31_0-0))→(((decide (v31_0<(x5.n:Int)))=true→(((0:Int)≤v31_0∧v31_0<((x5.n:Nat):Int))∧(v31_1.n+1≤549755813888)))∧(((decide (v31_0<(x5.n:Int)))=true→(((0≤(IntKind.i64.wrap (v31_0+1))∧(IntKind.i64.wrap (v31_0+1))≤(x5.n:Int))∧(((v31_1.n+1):Nat):Int)≤(g190_r6 x3 x4).n+((IntKind.i64.wrap (v31_0+1))-0))∧(Int.toNat ((x5.n:Int)- (IntKind.i64.wrap (v31_0+1))))<(Int.toNat ((x5.n:Int)-v31_0))))∧((decide (v31_0<(x5.n:Int)))=false→(((v31_1.n:Nat):Int)≤(g190_r6 x3 x4).n+max ((x5.n:Int)-0) 0)))))))))))∧((x6==18)=false→((((g219 x6)==3)=true→(x3.n≤1000000))∧(((g219 x6)==3)=false→((((g219 x6)==4)=true→(x4.n≤1000000∧((7≤x6∧x6≤8)∨1≤x4.n)))∧(((g219 x6)==4)=false→((((g219 x6)==5)=true→(x4.n≤1000000))∧(((g219 x6)==5)=false→(x5.n≤1000000))))))))))))))) (mkX_ok ⟨k114,k145,k189,k219,k220,k221,k222,k223,trivial⟩) Tryz.func92 rfl rfl (by kernel_rfl) (have⟨hq0,hq1,hq2,hq3⟩:=hp;(fun h1=>(fun h2=>(fun h3=>(fun h4=>(fun h5=>⟨(fun h6=>⟨⟨(by have:=d190 _ _ _ _ _ _ _ h1 (by omega);have:=ne_of_beq_false h2;have:=ne_of_beq_false h3;have:=ne_of_beq_false h4;have:=ne_of_beq_false h5;have:=eq_of_beq h6;omega),(fun v20_0 v20_1 hI7=>⟨(fun h8=>⟨(by have:=d190 _ _ _ _ _ _ _ h1 (by omega);have:=ne_of_beq_false h2;have:=ne_of_beq_false h3;have:=ne_of_beq_false h4;have:=ne_of_beq_false h5;have:=eq_of_beq h6;have:=of_decide_eq_true h8;omega),(by have:=d190 _ _ _ _ _ _ _ h1 (by omega);have:=ne_of_beq_false h2;have:=ne_of_beq_false h3;have:=ne_of_beq_false h4;have:=ne_of_beq_false h5;have:=eq_of_beq h6;have:=of_decide_eq_true h8;omega)⟩),⟨(fun h9=>(by have:=d190 _ _ _ _ _ _ _ h1 (by omega);have:=ne_of_beq_false h2;have:=ne_of_beq_false h3;have:=ne_of_beq_false h4;have:=ne_of_beq_false h5;have:=eq_of_beq h6;have:=of_decide_eq_true h9;first|omega|(have:=wrap64 (x:=(v20_0+1)) (by omega) (by omega);omega))),(fun h10=>(by have:=d190 _ _ _ _ _ _ _ h1 (by omega);have:=ne_of_beq_false h2;have:=ne_of_beq_false h3;have:=ne_of_beq_false h4;have:=ne_of_beq_false h5;have:=eq_of_beq h6;have:=of_decide_eq_false h10;omega))⟩⟩)⟩,(fun hF11=>⟨⟨(by have:=d190 _ _ _ _ _ _ _ h1 (by omega);have:=ne_of_beq_false h2;have:=ne_of_beq_false h3;have:=ne_of_beq_false h4;have:=ne_of_beq_false h5;have:=eq_of_beq h6;omega),(fun v26_0 v26_1 hI12=>⟨(fun h13=>⟨(by have:=d190 _ _ _ _ _ _ _ h1 (by omega);have:=ne_of_beq_false h2;have:=ne_of_beq_false h3;have:=ne_of_beq_false h4;have:=ne_of_beq_false h5;have:=eq_of_beq h6;have:=of_decide_eq_true h13;omega),(by have:=d190 _ _ _ _ _ _ _ h1 (by omega);have:=ne_of_beq_false h2;have:=ne_of_beq_false h3;have:=ne_of_beq_false h4;have:=ne_of_beq_false h5;have:=eq_of_beq h6;have:=of_decide_eq_true h13;omega)⟩),⟨(fun h14=>(by have:=d190 _ _ _ _ _ _ _ h1 (by omega);have:=ne_of_beq_false h2;have:=ne_of_beq_false h3;have:=ne_of_beq_false h4;have:=ne_of_beq_false h5;have:=eq_of_beq h6;have:=of_decide_eq_true h14;first|omega|(have:=wrap64 (x:=(v26_0+1)) (by omega) (by omega);omega))),(fun h15=>(by have:=d190 _ _ _ _ _ _ _ h1 (by omega);have:=ne_of_beq_false h2;have:=ne_of_beq_false h3;have:=ne_of_beq_false h4;have:=ne_of_beq_false h5;have:=eq_of_beq h6;have:=of_decide_eq_false h15;omega))⟩⟩)⟩,(fun hF16=>⟨(by have:=d190 _ _ _ _ _ _ _ h1 (by omega);have:=ne_of_beq_false h2;have:=ne_of_beq_false h3;have:=ne_of_beq_false h4;have:=ne_of_beq_false h5;have:=eq_of_beq h6;omega),(fun v31_0 v31_1 hI17=>⟨(fun h18=>⟨(by have:=d190 _ _ _ _ _ _ _ h1 (by omega);have:=ne_of_beq_false h2;have:=ne_of_beq_false h3;have:=ne_of_beq_false h4;have:=ne_of_beq_false h5;have:=eq_of_beq h6;have:=of_decide_eq_true h18;omega),(by have:=d190 _ _ _ _ _ _ _ h1 (by omega);have:=ne_of_beq_false h2;have:=ne_of_beq_false h3;have:=ne_of_beq_false h4;have:=ne_of_beq_false h5;have:=eq_of_beq h6;have:=of_decide_eq_true h18;omega)⟩),⟨(fun h19=>(by have:=d190 _ _ _ _ _ _ _ h1 (by omega);have:=ne_of_beq_false h2;have:=ne_of_beq_false h3;have:=ne_of_beq_false h4;have:=ne_of_beq_false h5;have:=eq_of_beq h6;have:=of_decide_eq_true h19;first|omega|(have:=wrap64 (x:=(v31_0+1)) (by omega) (by omega);omega))),(fun h20=>(by have:=d190 _ _ _ _ _ _ _ h1 (by omega);have:=ne_of_beq_false h2;have:=ne_of_beq_false h3;have:=ne_of_beq_false h4;have:=ne_of_beq_false h5;have:=eq_of_beq h6;have:=of_decide_eq_false h20;omega))⟩⟩)⟩)⟩)⟩),(fun h21=>⟨(fun h22=>(by have:=d190 _ _ _ _ _ _ _ h1 (by omega);have:=ne_of_beq_false h2;have:=ne_of_beq_false h3;have:=ne_of_beq_false h4;have:=ne_of_beq_false h5;have:=ne_of_beq_false h21;have:=eq_of_beq h22;omega)),(fun h23=>⟨(fun h24=>(by have:=d190 _ _ _ _ _ _ _ h1 (by omega);have:=ne_of_beq_false h2;have:=ne_of_beq_false h3;have:=ne_of_beq_false h4;have:=ne_of_beq_false h5;have:=ne_of_beq_false h21;have:=ne_of_beq_false h23;have:=eq_of_beq h24;omega)),(fun h25=>⟨(fun h26=>(by have:=d190 _ _ _ _ _ _ _ h1 (by omega);have:=ne_of_beq_false h2;have:=ne_of_beq_false h3;have:=ne_of_beq_false h4;have:=ne_of_beq_false h5;have:=ne_of_beq_false h21;have:=ne_of_beq_false h23;have:=ne_of_beq_false h25;have:=eq_of_beq h26;omega)),(fun h27=>(by have:=d190 _ _ _ _ _ _ _ h1 (by omega);have:=ne_of_beq_false h2;have:=ne_of_beq_false h3;have:=ne_of_beq_false h4;have:=ne_of_beq_false h5;have:=ne_of_beq_false h21;have:=ne_of_beq_false h23;have:=ne_of_beq_false h25;have:=ne_of_beq_false h27;omega))⟩)⟩)⟩)⟩))))))
theorem k190:XOk Tryz.prog 92 F190.ans:=Fq.ok ⟨_,_,Tryz.func92,rfl,by kernel_rfl⟩ pc190
end Go.Proofs.YtfbpilmhnpkfhaaGreatDoor
/-
  Walks: what functions of the program answer, as functions.
-/
namespace Go.Proofs.YtfbpilmhnpkfhaaGreatDoor
open Go Go.Vc Go.RowKit
set_option maxRecDepth 100000
set_option maxHeartbeats 4000000
noncomputable def g102_p1(x0:Int)(x1:ByteArray)(x2:Int)(x3:Sl T160)(x4:Sl ByteArray)(x5:Sl T164):Bool:=(bif(!(g189 x0 x1 x2 x3 x4 x5))then(bif((g74 x0 x1 x2 x3 x4 x5)!=0)then false else true)else true)
noncomputable def g102_m2(x6:Int)(x7:ByteArray)(x8:ByteArray)(x9:ByteArray)(x10:Int):Bool:=(bif((g48 x6 x7 x8 x9 x10)==0)then(decide (x6>18))else false)
noncomputable def g102_m3(x6:Int)(x7:ByteArray)(x8:ByteArray)(x9:ByteArray)(x10:Int):Int:=(bif(g102_m2 x6 x7 x8 x9 x10)then 3 else(g48 x6 x7 x8 x9 x10))
noncomputable def g102_m4(x0:Int)(x1:ByteArray)(x2:Int)(x3:Sl T160)(x4:Sl ByteArray)(x5:Sl T164)(x6:Int)(x8:ByteArray)(x9:ByteArray)(x10:Int):Int:=(bif((g190_1_0 x0 x1 x2 x3 x4 x5 x6 x8 x9 x10)!=0)then x0 else(g190_0_0 x0 x1 x2 x3 x4 x5 x6 x8 x9 x10))
noncomputable def g102_m5(x0:Int)(x1:ByteArray)(x2:Int)(x3:Sl T160)(x4:Sl ByteArray)(x5:Sl T164)(x6:Int)(x8:ByteArray)(x9:ByteArray)(x10:Int):ByteArray:=(bif((g190_1_0 x0 x1 x2 x3 x4 x5 x6 x8 x9 x10)!=0)then x1 else(g190_0_1 x0 x1 x2 x3 x4 x5 x6 x8 x9 x10))
noncomputable def g102_m6(x0:Int)(x1:ByteArray)(x2:Int)(x3:Sl T160)(x4:Sl ByteArray)(x5:Sl T164)(x6:Int)(x8:ByteArray)(x9:ByteArray)(x10:Int):Int:=(bif((g190_1_0 x0 x1 x2 x3 x4 x5 x6 x8 x9 x10)!=0)then x2 else(g190_0_2 x0 x1 x2 x3 x4 x5 x6 x8 x9 x10))
noncomputable def g102_m7(x0:Int)(x1:ByteArray)(x2:Int)(x3:Sl T160)(x4:Sl ByteArray)(x5:Sl T164)(x6:Int)(x8:ByteArray)(x9:ByteArray)(x10:Int):Sl T160:=(bif((g190_1_0 x0 x1 x2 x3 x4 x5 x6 x8 x9 x10)!=0)then x3 else(g190_0_3 x0 x1 x2 x3 x4 x5 x6 x8 x9 x10))
noncomputable def g102_m8(x0:Int)(x1:ByteArray)(x2:Int)(x3:Sl T160)(x4:Sl ByteArray)(x5:Sl T164)(x6:Int)(x8:ByteArray)(x9:ByteArray)(x10:Int):Sl ByteArray:=(bif((g190_1_0 x0 x1 x2 x3 x4 x5 x6 x8 x9 x10)!=0)then x4 else(g190_0_4 x0 x1 x2 x3 x4 x5 x6 x8 x9 x10))
noncomputable def g102_m9(x0:Int)(x1:ByteArray)(x2:Int)(x3:Sl T160)(x4:Sl ByteArray)(x5:Sl T164)(x6:Int)(x8:ByteArray)(x9:ByteArray)(x10:Int):Sl T164:=(bif((g190_1_0 x0 x1 x2 x3 x4 x5 x6 x8 x9 x10)!=0)then x5 else(g190_0_5 x0 x1 x2 x3 x4 x5 x6 x8 x9 x10))
noncomputable def g102_0_0(x0:Int)(x1:ByteArray)(x2:Int)(x3:Sl T160)(x4:Sl ByteArray)(x5:Sl T164)(x6:Int)(x7:ByteArray)(x8:ByteArray)(x9:ByteArray)(x10:Int):Int:=(bif(g102_p1 x0 x1 x2 x3 x4 x5)then(bif((g102_m3 x6 x7 x8 x9 x10)!=0)then 0 else(g73_0 (g102_m4 x0 x1 x2 x3 x4 x5 x6 x8 x9 x10)))else 0)
noncomputable def g102_0_1(x0:Int)(x1:ByteArray)(x2:Int)(x3:Sl T160)(x4:Sl ByteArray)(x5:Sl T164)(x6:Int)(x7:ByteArray)(x8:ByteArray)(x9:ByteArray)(x10:Int):ByteArray:=(bif(g102_p1 x0 x1 x2 x3 x4 x5)then(bif((g102_m3 x6 x7 x8 x9 x10)!=0)then⟨#[]⟩else(g73_1 (g102_m5 x0 x1 x2 x3 x4 x5 x6 x8 x9 x10)))else⟨#[]⟩)
noncomputable def g102_0_2(x0:Int)(x1:ByteArray)(x2:Int)(x3:Sl T160)(x4:Sl ByteArray)(x5:Sl T164)(x6:Int)(x7:ByteArray)(x8:ByteArray)(x9:ByteArray)(x10:Int):Int:=(bif(g102_p1 x0 x1 x2 x3 x4 x5)then(bif((g102_m3 x6 x7 x8 x9 x10)!=0)then 0 else(g73_2 (g102_m6 x0 x1 x2 x3 x4 x5 x6 x8 x9 x10)))else 0)
noncomputable def g102_0_3(x0:Int)(x1:ByteArray)(x2:Int)(x3:Sl T160)(x4:Sl ByteArray)(x5:Sl T164)(x6:Int)(x7:ByteArray)(x8:ByteArray)(x9:ByteArray)(x10:Int):Sl T160:=(bif(g102_p1 x0 x1 x2 x3 x4 x5)then(bif((g102_m3 x6 x7 x8 x9 x10)!=0)then(nilSl:Sl T160)else(g73_3 (g102_m7 x0 x1 x2 x3 x4 x5 x6 x8 x9 x10)))else(nilSl:Sl T160))
noncomputable def g102_0_4(x0:Int)(x1:ByteArray)(x2:Int)(x3:Sl T160)(x4:Sl ByteArray)(x5:Sl T164)(x6:Int)(x7:ByteArray)(x8:ByteArray)(x9:ByteArray)(x10:Int):Sl ByteArray:=(bif(g102_p1 x0 x1 x2 x3 x4 x5)then(bif((g102_m3 x6 x7 x8 x9 x10)!=0)then(nilSl:Sl ByteArray)else(g73_4 (g102_m8 x0 x1 x2 x3 x4 x5 x6 x8 x9 x10)))else(nilSl:Sl ByteArray))
noncomputable def g102_0_5(x0:Int)(x1:ByteArray)(x2:Int)(x3:Sl T160)(x4:Sl ByteArray)(x5:Sl T164)(x6:Int)(x7:ByteArray)(x8:ByteArray)(x9:ByteArray)(x10:Int):Sl T164:=(bif(g102_p1 x0 x1 x2 x3 x4 x5)then(bif((g102_m3 x6 x7 x8 x9 x10)!=0)then(nilSl:Sl T164)else(g73_5 (g102_m9 x0 x1 x2 x3 x4 x5 x6 x8 x9 x10)))else(nilSl:Sl T164))
noncomputable def g102_1_0(x0:Int)(x1:ByteArray)(x2:Int)(x3:Sl T160)(x4:Sl ByteArray)(x5:Sl T164)(x6:Int)(x7:ByteArray)(x8:ByteArray)(x9:ByteArray)(x10:Int):Int:=(bif(g102_p1 x0 x1 x2 x3 x4 x5)then(bif((g102_m3 x6 x7 x8 x9 x10)!=0)then 0 else(g190_1_0 x0 x1 x2 x3 x4 x5 x6 x8 x9 x10))else 0)
noncomputable def g102_1_1(x0:Int)(x1:ByteArray)(x2:Int)(x3:Sl T160)(x4:Sl ByteArray)(x5:Sl T164)(x6:Int)(x7:ByteArray)(x8:ByteArray)(x9:ByteArray)(x10:Int):ByteArray:=(bif(g102_p1 x0 x1 x2 x3 x4 x5)then(bif((g102_m3 x6 x7 x8 x9 x10)!=0)then⟨#[]⟩else(g190_1_1 x0 x1 x2 x3 x4 x5 x6 x8 x9))else⟨#[]⟩)
noncomputable def g102_1_2(x0:Int)(x1:ByteArray)(x2:Int)(x3:Sl T160)(x4:Sl ByteArray)(x5:Sl T164)(x6:Int)(x7:ByteArray)(x8:ByteArray)(x9:ByteArray)(x10:Int):Int:=(bif(g102_p1 x0 x1 x2 x3 x4 x5)then(bif((g102_m3 x6 x7 x8 x9 x10)!=0)then 0 else(g190_1_2 x0 x1 x2 x3 x4 x5 x6 x8 x9 x10))else 0)
noncomputable def g102_1_3(x0:Int)(x1:ByteArray)(x2:Int)(x3:Sl T160)(x4:Sl ByteArray)(x5:Sl T164)(x6:Int)(x7:ByteArray)(x8:ByteArray)(x9:ByteArray)(x10:Int):Sl ByteArray:=(bif(g102_p1 x0 x1 x2 x3 x4 x5)then(bif((g102_m3 x6 x7 x8 x9 x10)!=0)then(nilSl:Sl ByteArray)else(g190_1_3 x0 x1 x2 x3 x4 x5 x6))else(nilSl:Sl ByteArray))
noncomputable def g102_2(x0:Int)(x1:ByteArray)(x2:Int)(x3:Sl T160)(x4:Sl ByteArray)(x5:Sl T164)(x6:Int)(x7:ByteArray)(x8:ByteArray)(x9:ByteArray)(x10:Int):Int:=(bif(g102_p1 x0 x1 x2 x3 x4 x5)then(bif((g102_m3 x6 x7 x8 x9 x10)!=0)then(g102_m3 x6 x7 x8 x9 x10)else 0)else(g74 x0 x1 x2 x3 x4 x5))
theorem none_ok{x0:Int}{x1:ByteArray}{x2:Int}{x3:Sl T160}{x4:Sl ByteArray}{x5:Sl T164}(h:g189 x0 x1 x2 x3 x4 x5=true)(n3:x3.n≤1048576)(n4:x4.n≤1048576)(n5:x5.n≤1048576):x0=0∧x1=⟨#[]⟩∧x2=0∧x3.n=0∧x4.n=0∧x5.n=0:=by
 unfold g189 g189_m1 at h
 cases e0:(x0==0)with
 |false=>rw[e0]at h;cases h
 |true=>
  rw[e0]at h
  cases e1:(x1.toList==(⟨#[]⟩:ByteArray).toList)with
  |false=>rw[e1]at h;cases h
  |true=>
   rw[e1]at h
   cases e2:(x2==0)with
   |false=>rw[e2]at h;cases h
   |true=>
    rw[e2]at h
    have h:=eq_of_beq (show(g145 x3 x4 x5==0)=true from h)
    rw[sum_eq' _ _ _ n3 n4 n5]at h
    have:=eq_of_beq e0
    have:=eq_of_beq e2
    exact⟨by omega,ba_nil (by rw[e1];rfl),by omega,by omega,by omega,by omega⟩
theorem d102(x0:Int)(x1:ByteArray)(x2:Int)(x3:Sl T160)(x4:Sl ByteArray)(x5:Sl T164)(h:g102_p1 x0 x1 x2 x3 x4 x5=true)(n3:x3.n≤1048576)(n4:x4.n≤1048576)(n5:x5.n≤1048576):
  x3.n≤20∧x4.n≤20∧x5.n≤20∧(x0≠4∨1≤x4.n):=by
 unfold g102_p1 at h
 cases e:g189 x0 x1 x2 x3 x4 x5 with
 |true=>
  have:=none_ok e n3 n4 n5
  omega
 |false=>
  rw[e]at h
  have g:g72 x0 x1 x2 x3 x4 x5=0:=by
   rw[g72_eq _ _ _ _ _ _ n3 n4 n5]
   cases e2:(g74 x0 x1 x2 x3 x4 x5 !=0)with
   |false=>exact bne_eq_false_iff_eq.1 e2
   |true=>rw[e2]at h;cases h
  have v:=(chk72 _ _ _ _ _ _ n3 n4 n5 g).2.1
  have s:=(sep72 _ _ _ _ _ _ n3 n4 n5 g).b4
  omega
end Go.Proofs.YtfbpilmhnpkfhaaGreatDoor
/-
  Walks: what functions of the program answer, as functions.
-/
namespace Go.Proofs.YtfbpilmhnpkfhaaGreatDoor
open Go Go.Vc Go.RowKit
set_option maxRecDepth 100000
set_option maxHeartbeats 4000000
noncomputable def g31_m1(x0:Int)(x1:ByteArray)(x2:Int)(x3:Sl T160)(x4:Sl ByteArray)(x5:Sl T164)(x6:Int)(x7:ByteArray)(x8:ByteArray)(x9:ByteArray)(x10:Int):Bool:=(bif((g101_2 (g73_0 x0) (g73_1 x1) (g73_2 x2) (g73_3 x3) (g73_4 x4) (g73_5 x5) x6 x7 x8 x9 x10)==(g102_2 x0 x1 x2 x3 x4 x5 x6 x7 x8 x9 x10))then(bif(g103 (g101_0_0 (g73_0 x0) (g73_1 x1) (g73_2 x2) (g73_3 x3) (g73_4 x4) (g73_5 x5) x6 x7 x8 x9 x10) (g101_0_1 (g73_0 x0) (g73_1 x1) (g73_2 x2) (g73_3 x3) (g73_4 x4) (g73_5 x5) x6 x7 x8 x9 x10) (g101_0_2 (g73_0 x0) (g73_1 x1) (g73_2 x2) (g73_3 x3) (g73_4 x4) (g73_5 x5) x6 x7 x8 x9 x10) (g101_0_3 (g73_0 x0) (g73_1 x1) (g73_2 x2) (g73_3 x3) (g73_4 x4) (g73_5 x5) x6 x7 x8 x9 x10) (g101_0_4 (g73_0 x0) (g73_1 x1) (g73_2 x2) (g73_3 x3) (g73_4 x4) (g73_5 x5) x6 x7 x8 x9 x10) (g101_0_5 (g73_0 x0) (g73_1 x1) (g73_2 x2) (g73_3 x3) (g73_4 x4) (g73_5 x5) x6 x7 x8 x9 x10) (g102_0_0 x0 x1 x2 x3 x4 x5 x6 x7 x8 x9 x10) (g102_0_1 x0 x1 x2 x3 x4 x5 x6 x7 x8 x9 x10) (g102_0_2 x0 x1 x2 x3 x4 x5 x6 x7 x8 x9 x10) (g102_0_3 x0 x1 x2 x3 x4 x5 x6 x7 x8 x9 x10) (g102_0_4 x0 x1 x2 x3 x4 x5 x6 x7 x8 x9 x10) (g102_0_5 x0 x1 x2 x3 x4 x5 x6 x7 x8 x9 x10))then(bif(g104 (g101_1_0 (g73_0 x0) (g73_1 x1) (g73_2 x2) (g73_3 x3) (g73_4 x4) (g73_5 x5) x6 x7 x8 x9 x10) (g101_1_1 (g73_0 x0) (g73_1 x1) (g73_2 x2) (g73_3 x3) (g73_4 x4) (g73_5 x5) x6 x7 x8 x9 x10) (g101_1_2 (g73_0 x0) (g73_1 x1) (g73_2 x2) (g73_3 x3) (g73_4 x4) (g73_5 x5) x6 x7 x8 x9 x10) (g101_1_3 (g73_0 x0) (g73_1 x1) (g73_2 x2) (g73_3 x3) (g73_4 x4) (g73_5 x5) x6 x7 x8 x9 x10) (g102_1_0 x0 x1 x2 x3 x4 x5 x6 x7 x8 x9 x10) (g102_1_1 x0 x1 x2 x3 x4 x5 x6 x7 x8 x9 x10) (g102_1_2 x0 x1 x2 x3 x4 x5 x6 x7 x8 x9 x10) (g102_1_3 x0 x1 x2 x3 x4 x5 x6 x7 x8 x9 x10))then(g103 (g73_0 x0) (g73_1 x1) (g73_2 x2) (g73_3 x3) (g73_4 x4) (g73_5 x5) x0 x1 x2 x3 x4 x5)else false)else false)else false)
noncomputable def g31(x0:Int)(x1:ByteArray)(x2:Int)(x3:Sl T160)(x4:Sl ByteArray)(x5:Sl T164)(x6:Int)(x7:ByteArray)(x8:ByteArray)(x9:ByteArray)(x10:Int):Bool:=(g31_m1 x0 x1 x2 x3 x4 x5 x6 x7 x8 x9 x10)
end Go.Proofs.YtfbpilmhnpkfhaaGreatDoor
/-
  What the reference's loops over sorted lists come to.
-/
namespace Go.Proofs.YtfbpilmhnpkfhaaGreatDoor
open Go Go.Vc Go.RowKit
set_option maxRecDepth 100000
set_option maxHeartbeats 4000000
section
variable {α β:Type}
def lstep(op:Bool)(new:α)(lt eq:α→Bool)(val:α→β)(a:α)(s:Bool×β×Bool×List α):Bool×β×Bool×List α:=
 (s.1||eq a,(bif eq a then val a else s.2.1),s.2.2.1||(op&& !s.2.2.1&& !lt a),(bif op&& !s.2.2.1&& !lt a then s.2.2.2++[new]else s.2.2.2)++(bif eq a then[]else[a]))
theorem lrun1{op:Bool}{new:α}{lt eq:α→Bool}{val:α→β} : ∀(l:List α) (f:Bool) (v:β) (p:Bool) (acc:List α),(∀a∈l,lt a=true∧eq a=false)→l.foldl (fun s a=>lstep op new lt eq val a s) (f,v,p,acc)=(f,v,p,acc++l)
 |[],f,v,p,acc,_=>by simp
 |a::l,f,v,p,acc,h=>by
  obtain⟨h1,h2⟩:=h a (List.mem_cons_self ..)
  rw[List.foldl_cons,show lstep op new lt eq val a (f,v,p,acc)=(f,v,p,acc++[a]) by simp [lstep,h1,h2],lrun1 l f v p _ fun b hb=>h b (List.mem_cons_of_mem _ hb)]
  simp
theorem lrun2{op:Bool}{new:α}{lt eq:α→Bool}{val:α→β} : ∀(l:List α) (f:Bool) (v:β) (p:Bool) (acc:List α),(op=false∨p=true)→(∀a∈l,eq a=false)→l.foldl (fun s a=>lstep op new lt eq val a s) (f,v,p,acc)=(f,v,p,acc++l)
 |[],f,v,p,acc,_,_=>by simp
 |a::l,f,v,p,acc,hp,h=>by
  have h2:=h a (List.mem_cons_self ..)
  have hq:(op&& !p&& !lt a)=false:=by rcases hp with e|e<;>simp [e]
  rw[List.foldl_cons,show lstep op new lt eq val a (f,v,p,acc)=(f,v,p,acc++[a]) by simp [lstep,hq,h2],lrun2 l f v p _ hp fun b hb=>h b (List.mem_cons_of_mem _ hb)]
  simp
theorem lres0{op:Bool}{new:α}{lt eq:α→Bool}{val:α→β}(l:List α)(v:β)(h: ∀a∈l,lt a=true∧eq a=false):l.foldl (fun s a=>lstep op new lt eq val a s) (false,v,false,[])=(false,v,false,l):=by
 rw[lrun1 l false v false [] h];rfl
theorem lres1{op:Bool}{new:α}{lt eq:α→Bool}{val:α→β}(l:List α)(y:α)(t:List α)(v:β)(h: ∀a∈l,lt a=true∧eq a=false)(hy:lt y=false)(ht: ∀a∈t,eq a=false):
  (l++y::t).foldl (fun s a=>lstep op new lt eq val a s) (false,v,false,[])=(eq y,(bif eq y then val y else v),op,(bif op then l++[new]else l)++(bif eq y then[]else[y])++t):=by
 rw[List.foldl_append,lrun1 l false v false [] h,List.foldl_cons,show lstep op new lt eq val y (false,v,false,[]++l)=(eq y,(bif eq y then val y else v),op,(bif op then l++[new]else l)++(bif eq y then[]else[y])) by simp [lstep,hy]]
 rw[lrun2 t _ _ op _ (by cases op<;>simp) ht]
end
theorem cmp_zero(a b:ByteArray):(Lib.compareBytes a.data.toList b.data.toList==0)=(a.toList==b.toList):=by
 rw[ByteArray.toList_eq,ByteArray.toList_eq]
 generalize a.data.toList=l
 generalize b.data.toList=m
 induction l generalizing m with
 |nil=>cases m<;>rfl
 |cons x l ih=>
  cases m with
  |nil=>rfl
  |cons y m=>
   simp only[Lib.compareBytes]
   by_cases h1:x<y
   ·have:x≠y:=fun e=>by subst e;exact UInt8.lt_irrefl x h1
    simp [h1,this]
   ·by_cases h2:y<x
    ·have:x≠y:=fun e=>by subst e;exact UInt8.lt_irrefl x h2
     simp [h1,h2,this]
    ·have h3:x=y:=UInt8.le_antisymm (UInt8.not_lt.1 h2) (UInt8.not_lt.1 h1)
     subst h3
     simp [ih m]
theorem neg_of{x:Int}{b:Bool}(h:decide (x≥0)= !b):decide (x<0)=b:=by
 cases b with
 |true=>have:=of_decide_eq_false h;exact decide_eq_true (by omega)
 |false=>have:=of_decide_eq_true h;exact decide_eq_false (by omega)
theorem z139(a b:ByteArray):(g139 a b==0)=(a.toList==b.toList):=cmp_zero a b
theorem ba_ext{a b:ByteArray}(h:a.toList=b.toList):a=b:=by
 rw[ByteArray.toList_eq,ByteArray.toList_eq]at h
 cases a with
 |mk a=>cases b with
  |mk b=>congr 1;exact Array.toList_inj.1 h
def Rise(n:Nat)(key:Nat→ByteArray):Prop:= ∀i j,i<j→j<n→Op.bytesLess (key i).toList (key j).toList=true
theorem rise_of{n:Nat}{key:Nat→ByteArray}(hn:n≤1048576)(h:hit (fun i=> !(Op.bytesLess (key (Int.toNat (IntKind.i64.wrap (i-1)))).toList (key (Int.toNat i)).toList)) (n-1) 1=false):Rise n key:=fun i j hij hj=>
 chain' (R:=fun i j=>Op.bytesLess (key i).toList (key j).toList=true) n (fun i hi=>by
  have:=hit_no (n-1) 1 h ((i+1:Nat):Int) (by omega) (by omega)
  rw[show IntKind.i64.wrap (((i+1:Nat):Int)-1)=(i:Int) by rw[wrap64 (by omega) (by omega)];omega]at this
  simpa using this) (fun _ _ _ _ _ _=>less_trans) i j hij hj
structure Spot (n:Nat) (key:Nat→ByteArray) (k:ByteArray) (t:Nat):Prop where
 le:t≤n
 lt: ∀m,m<n→Op.bytesLess (key m).toList k.toList=decide (m<t)
 ne: ∀m,m<n→m≠t→((key m).toList==k.toList)=false
theorem spot{n:Nat}{key:Nat→ByteArray}(h:Rise n key)(k:ByteArray): ∃t,Spot n key k t:=by
 obtain⟨t,h1,h2⟩:=cutAt (fun m=>Op.bytesLess (key m).toList k.toList) n fun i j a b c=>less_trans (h i j a b) c
 refine⟨t,h1,h2,fun m hm hne=>beq_eq_false_iff_ne.2 fun e=> ?_⟩
 have g:=h2 m hm
 simp only[e,less_irr]at g
 have g:=of_decide_eq_false g.symm
 have g2:=h2 t (by omega)
 have g3:=h t m (by omega) hm
 rw[e]at g3
 simp only[g3]at g2
 have:=of_decide_eq_true g2.symm
 omega
theorem bs_all{p:Nat→Bool}{n t:Nat}(hn:n≤1048576)(hp: ∀m,m<n→p m=decide (m<t))(ht:t≤n):bsG p ((Int.toNat ((n:Int)-0))+1) 0 (n:Int)=(t:Int):=
 bs_at (by omega) hp ht _ _ _ (Int.le_refl _) (by omega) (by omega) (Int.le_refl _) (by omega)
theorem find3{s:Sl T160}{k:ByteArray}{t:Nat}(hn:s.n≤1048576)(h:Spot s.n (fun i=>(s.at' i).c0) k t):g228_139_0 s k=t∧g228_139_1 s k=(decide (t<s.n)&&((s.at' t).c0.toList==k.toList)):=by
 have e:g228_139_r1 s k=t:=by
  unfold g228_139_r1
  rw[b228_139]
  exact bs_all hn (fun m hm=>(neg_of (c139 _ _)).trans (h.lt m hm)) h.le
 refine⟨e,?_⟩
 unfold g228_139_1 g228_139_m2
 rw[e,Int.toNat_natCast,z139]
 rw[show decide ((t:Int)<(s.n:Int))=decide (t<s.n) by simp]
 cases decide (t<s.n)<;>rfl
theorem l243(a b:ByteArray):g243 a b=Op.bytesLess a.toList b.toList:=by
 unfold g243 g243_m1 g249
 simp
theorem find4{s:Sl ByteArray}{k:ByteArray}{t:Nat}(hn:s.n≤1048576)(h:Spot s.n s.at' k t):g233_0 s k=t∧g233_1 s k=(decide (t<s.n)&&((s.at' t).toList==k.toList)):=by
 have e:g233_r1 s k=t:=by
  unfold g233_r1
  rw[b233]
  exact bs_all hn (fun m hm=>(l243 _ _).trans (h.lt m hm)) h.le
 refine⟨e,?_⟩
 unfold g233_1 g233_m2 g244
 rw[e,Int.toNat_natCast]
 rw[show decide ((t:Int)<(s.n:Int))=decide (t<s.n) by simp]
 cases decide (t<s.n)<;>simp
theorem run3(s:Sl T160)(x6:Int)(k v:ByteArray)(hn:s.n≤1048576):((g220_r10 s x6 k v).1,(g220_r10 s x6 k v).2.1,(g220_r10 s x6 k v).2.2.1,(g220_r10 s x6 k v).2.2.2.B)=
  s.B.foldl (fun st a=>lstep (x6==4) (⟨k,v⟩:T160) (fun a=>Op.bytesLess a.c0.toList k.toList) (fun a=>a.c0.toList==k.toList) (fun a=>a.c1) a st) (false,⟨#[]⟩,false,[]):=by
 have h:=fold0 (fun n i (st:Bool×ByteArray×Bool×Sl T160)=>g220_l1 s x6 k v n st.1 st.2.1 st.2.2.1 i st.2.2.2) s.n (fun j st=>(g220_m8 s k st.1 (j:Int),g220_m9 s k st.2.1 (j:Int),g220_m6 s x6 k st.2.2.1 (j:Int),g220_m7 s x6 k v st.2.2.1 (j:Int) st.2.2.2)) id (by omega) (fun n i st=>by
  show(bif decide (i<(s.n:Int))then _ else _)=_
  cases e:decide (i<(s.n:Int))with
  |false=>rfl
  |true=>
   simp only[cond_true,g220_m8,g220_m9,g220_m6,g220_m7,g220_m5,g220_m4,Int.toNat_natCast]) (false,⟨#[]⟩,false,nilSl)
 rw[←foldB s]
 have h2:g220_r10 s x6 k v=_:=h
 rw[h2]
 exact(List.foldl_hom (fun st:Bool×ByteArray×Bool×Sl T160=>(st.1,st.2.1,st.2.2.1,st.2.2.2.B)) (fun st j=>by
  simp only[lstep,g220_m8,g220_m9,g220_m6,g220_m7,g220_m5,g220_m4,Int.toNat_natCast]
  cases (x6==4)<;>cases st.2.2.1<;>cases Op.bytesLess (s.at' j).c0.toList k.toList<;>cases ((s.at' j).c0.toList==k.toList)<;>cases st.1<;>simp [B_app,B_lit])).symm
theorem run4(s:Sl ByteArray)(x6:Int)(v:ByteArray)(hn:s.n≤1048576):((g222_r9 s x6 v).1,(),(g222_r9 s x6 v).2.1,(g222_r9 s x6 v).2.2.B)=
  s.B.foldl (fun st a=>lstep (x6==11) v (fun a=>Op.bytesLess a.toList v.toList) (fun a=>a.toList==v.toList) (fun _=>()) a st) (false,(),false,[]):=by
 have h:=fold0 (fun n i (st:Bool×Bool×Sl ByteArray)=>g222_l1 s x6 v n st.1 st.2.1 i st.2.2) s.n (fun j st=>(g222_m8 s v st.1 (j:Int),g222_m6 s x6 v st.2.1 (j:Int),g222_m7 s x6 v st.2.1 (j:Int) st.2.2)) id (by omega) (fun n i st=>by
  show(bif decide (i<(s.n:Int))then _ else _)=_
  cases e:decide (i<(s.n:Int))with
  |false=>rfl
  |true=>
   simp only[cond_true,g222_m8,g222_m6,g222_m7,g222_m5,g222_m4,Int.toNat_natCast]) (false,false,nilSl)
 rw[←foldB s]
 have h2:g222_r9 s x6 v=_:=h
 rw[h2]
 exact(List.foldl_hom (fun st:Bool×Bool×Sl ByteArray=>(st.1,(),st.2.1,st.2.2.B)) (fun st j=>by
  simp only[lstep,g222_m8,g222_m6,g222_m7,g222_m5,g222_m4,Int.toNat_natCast]
  cases (x6==11)<;>cases st.2.1<;>cases Op.bytesLess (s.at' j).toList v.toList<;>cases ((s.at' j).toList==v.toList)<;>cases st.1<;>simp [B_app,B_lit])).symm
end Go.Proofs.YtfbpilmhnpkfhaaGreatDoor
/-
  Hash and set: the reference's loops against the search.
-/
namespace Go.Proofs.YtfbpilmhnpkfhaaGreatDoor
open Go Go.Vc Go.RowKit
set_option maxRecDepth 100000
set_option maxHeartbeats 4000000
section
variable {α β:Type}
theorem finL{op:Bool}{new:α}{lt eq:α→Bool}{val:α→β}(l:List α)(t:Nat)(v0:β)(f:Bool)(r:Bool×β×Bool×List α)(hr:r=l.foldl (fun s a=>lstep op new lt eq val a s) (false,v0,false,[]))
  (ht:t≤l.length) (h1: ∀a∈l.take t,lt a=true∧eq a=false) (h2: ∀a∈l.drop (t+1),eq a=false) (h3: ∀y,l[t]? =some y→lt y=false) (hf:f=(l[t]?).any eq):
  r.1=f∧(∀y,l[t]? =some y→f=true→r.2.1=val y)∧(op=false→r.2.2.2=bif f then l.take t++l.drop (t+1)else l)∧(op=true→(bif !r.2.2.1 then r.2.2.2++[new]else r.2.2.2)=l.take t++new::l.drop (bif f then t+1 else t)):=by
 rcases Nat.lt_or_ge t l.length with g|g
 ·have e:l[t]? =some l[t]:=List.getElem?_eq_getElem g
  rw[e]at hf h3
  have hd:l.drop t=l[t]::l.drop (t+1):=List.drop_eq_getElem_cons g
  have hl:l=l.take t++l[t]::l.drop (t+1):=by rw[←hd,List.take_append_drop]
  have h4:=lres1 (op:=op) (new:=new) (lt:=lt) (eq:=eq) (val:=val) (l.take t) l[t] (l.drop (t+1)) v0 h1 (h3 _ rfl) h2
  rw[←hl]at h4
  rw[h4]at hr
  subst hr
  simp only[Option.any_some]at hf
  refine⟨hf.symm,fun y hy hf'=> ?_,fun ho=> ?_,fun ho=> ?_⟩
  ·rw[e]at hy;cases hy
   simp only
   rw[←hf,hf'];rfl
  ·subst ho
   simp only[cond_false]
   rw[←hf]
   cases f with
   |true=>simp
   |false=>simp only[cond_false];rw[List.append_assoc];exact hl.symm
  ·subst ho
   simp only[Bool.not_true,cond_false,cond_true]
   rw[←hf]
   cases f with
   |true=>simp
   |false=>simp only[cond_false,hd];simp
 ·have e:l[t]? =none:=List.getElem?_eq_none g
  rw[e]at hf
  have hl:l.take t=l:=List.take_of_length_le g
  rw[hl]at h1
  rw[lres0 l v0 h1]at hr
  have hf:f=false:=hf
  subst hr hf
  refine⟨rfl,fun y hy=>(by rw[e]at hy;cases hy),fun _=>rfl,fun _=> ?_⟩
  simp only[Bool.not_false,cond_true,cond_false,hl]
  rw[List.drop_eq_nil_of_le g]
end
theorem mem_take{α:Type}(s:Sl α){t:Nat}{a:α}(h:a∈s.B.take t): ∃i,i<s.n∧i<t∧s.at' i=a:=by
 obtain⟨i,hi,he⟩:=List.mem_take_iff_getElem.1 h
 rw[B_len]at hi
 refine⟨i,by omega,by omega,?_⟩
 rw[←he];simp [Sl.B]
theorem mem_drop{α:Type}(s:Sl α){t:Nat}{a:α}(h:a∈s.B.drop t): ∃i,i<s.n∧t≤i∧s.at' i=a:=by
 obtain⟨i,hi,he⟩:=List.mem_drop_iff_getElem.1 h
 rw[B_len]at hi
 refine⟨t+i,by omega,by omega,?_⟩
 rw[←he];simp [Sl.B]
theorem B_some{α:Type}(s:Sl α)(t:Nat):s.B[t]? =if t<s.n then some (s.at' t)else none:=by
 by_cases h:t<s.n
 ·rw[if_pos h,B_get s h]
 ·rw[if_neg h];exact List.getElem?_eq_none (by rw[B_len];omega)
theorem hash(s:Sl T160)(x6:Int)(k v:ByteArray)(hn:s.n≤1048576)(hr:Rise s.n (fun i=>(s.at' i).c0)):
  ∃t:Nat,t≤s.n∧g228_139_0 s k=t∧(g228_139_1 s k=true→t<s.n∧(s.at' t).c0=k)∧(g220_r10 s x6 k v).1=g228_139_1 s k∧(g228_139_1 s k=true→(g220_r10 s x6 k v).2.1=(s.at' t).c1)∧
   (x6≠4→(g220_r10 s x6 k v).2.2.2.B=bif g228_139_1 s k then s.B.take t++s.B.drop (t+1)else s.B)∧
   (x6=4→(g220_m11 s x6 k v).B=s.B.take t++⟨k,v⟩::s.B.drop (bif g228_139_1 s k then t+1 else t)):=by
 obtain⟨t,hs⟩:=spot hr k
 obtain⟨e0,e1⟩:=find3 hn hs
 have hf:g228_139_1 s k=(s.B[t]?).any (fun a=>a.c0.toList==k.toList):=by
  rw[e1,B_some]
  by_cases h:t<s.n
  ·simp [h]
  ·simp [h]
 have h:=finL (op:=x6==4) (new:=(⟨k,v⟩:T160)) (lt:=fun a=>Op.bytesLess a.c0.toList k.toList) (eq:=fun a=>a.c0.toList==k.toList) (val:=fun a=>a.c1) s.B t ⟨#[]⟩ (g228_139_1 s k) _ (run3 s x6 k v hn)
  (by rw[B_len];exact hs.le) (fun a ha=>by
   obtain⟨i,h1,h2,rfl⟩:=mem_take s ha
   exact⟨(hs.lt i h1).trans (decide_eq_true h2),hs.ne i h1 (by omega)⟩) (fun a ha=>by
   obtain⟨i,h1,h2,rfl⟩:=mem_drop s ha
   exact hs.ne i h1 (by omega)) (fun y hy=>by
   rw[B_some]at hy
   split at hy
   ·rename_i ht
    cases hy
    exact(hs.lt t ht).trans (decide_eq_false (by omega))
   ·cases hy) hf
 refine⟨t,hs.le,e0,fun hh=> ?_,h.1,fun hh=> ?_,fun hx=> ?_,fun hx=> ?_⟩
 ·rw[e1,Bool.and_eq_true]at hh
  exact⟨of_decide_eq_true hh.1,ba_ext (eq_of_beq hh.2)⟩
 ·refine h.2.1 (s.at' t) ?_ hh
  rw[e1,Bool.and_eq_true]at hh
  rw[B_some,if_pos (of_decide_eq_true hh.1)]
 ·exact h.2.2.1 (beq_eq_false_iff_ne.2 hx)
 ·rw[←h.2.2.2 (beq_iff_eq.2 hx)]
  unfold g220_m11
  cases (g220_r10 s x6 k v).2.2.1
  ·simp [B_app,B_lit]
  ·rfl
theorem sets(s:Sl ByteArray)(x6:Int)(k:ByteArray)(hn:s.n≤1048576)(hr:Rise s.n s.at'):
  ∃t:Nat,t≤s.n∧g233_0 s k=t∧(g233_1 s k=true→t<s.n∧s.at' t=k)∧(g222_r9 s x6 k).1=g233_1 s k∧
   (x6≠11→(g222_r9 s x6 k).2.2.B=bif g233_1 s k then s.B.take t++s.B.drop (t+1)else s.B)∧
   (x6=11→(g222_m10 s x6 k).B=s.B.take t++k::s.B.drop (bif g233_1 s k then t+1 else t)):=by
 obtain⟨t,hs⟩:=spot hr k
 obtain⟨e0,e1⟩:=find4 hn hs
 have hf:g233_1 s k=(s.B[t]?).any (fun a=>a.toList==k.toList):=by
  rw[e1,B_some]
  by_cases h:t<s.n
  ·simp [h]
  ·simp [h]
 have h:=finL (op:=x6==11) (new:=k) (lt:=fun a=>Op.bytesLess a.toList k.toList) (eq:=fun a=>a.toList==k.toList) (val:=fun _=>()) s.B t () (g233_1 s k) _ (run4 s x6 k hn)
  (by rw[B_len];exact hs.le) (fun a ha=>by
   obtain⟨i,h1,h2,rfl⟩:=mem_take s ha
   exact⟨(hs.lt i h1).trans (decide_eq_true h2),hs.ne i h1 (by omega)⟩) (fun a ha=>by
   obtain⟨i,h1,h2,rfl⟩:=mem_drop s ha
   exact hs.ne i h1 (by omega)) (fun y hy=>by
   rw[B_some]at hy
   split at hy
   ·rename_i ht
    cases hy
    exact(hs.lt t ht).trans (decide_eq_false (by omega))
   ·cases hy) hf
 refine⟨t,hs.le,e0,fun hh=> ?_,h.1,fun hx=> ?_,fun hx=> ?_⟩
 ·rw[e1,Bool.and_eq_true]at hh
  exact⟨of_decide_eq_true hh.1,ba_ext (eq_of_beq hh.2)⟩
 ·exact h.2.2.1 (beq_eq_false_iff_ne.2 hx)
 ·rw[←h.2.2.2 (beq_iff_eq.2 hx)]
  unfold g222_m10
  cases (g222_r9 s x6 k).2.1
  ·simp [B_app,B_lit]
  ·rfl
end Go.Proofs.YtfbpilmhnpkfhaaGreatDoor
/-
  slices.Insert and slices.Delete, at the types of the program.
-/
namespace Go.Proofs.YtfbpilmhnpkfhaaGreatDoor
open Go Go.Vc Go.RowKit Go.Proofs Go.Shelf
set_option maxRecDepth 100000
theorem il1158:InsF Tryz.prog (insR 85 105 106 22 66) 8 128 (.agg #[.string ⟨#[]⟩,.int .i64 0,.string ⟨#[]⟩,.int .i64 0,.slice none 0 0,.slice none 0 0,.slice none 0 0,.int .i64 0]):=
 have i9:(Tryz.prog.info? 66).map (fun i=>(i.zero,i.size,i.bytes))=some (some ((.agg #[.string ⟨#[]⟩,.int .i64 0,.string ⟨#[]⟩,.int .i64 0,.slice none 0 0,.slice none 0 0,.slice none 0 0,.int .i64 0]):Value),8,128):=by kernel_rfl
 ⟨mixed,⟨ "slices.Insert[[]rostrum/api.Entry,rostrum/api.Entry]",by kernel_rfl,by kernel_rfl⟩,by kernel_rfl,by kernel_rfl,size_of_info i9,i9,fun w vb b o m vc lb cb tA tB kA kB h1 h2 h3 h4 h5 h6=>by
  show(callFunc 105 _).run Tryz.prog w=_
  rw[run_callFunc_extern Tryz.func105 (by kernel_rfl) (by kernel_rfl) (by kernel_rfl) (e:=Extern.SlicesOverlaps.overlaps #[22,22] #[4]) (by kernel_rfl),Lib.run_overlaps_apart w 22 4 66 (by kernel_rfl) 8 (size_of_info i9) ⟨vb,0,none⟩ ⟨b,o,none⟩ m vc lb cb h1 tA tB kA kB h2 h3 h4 h5 h6]
  rfl⟩
noncomputable abbrev F1158:Hq:=insQ E175
theorem k1158:XHOk Tryz.prog 85 F1158.ans:=ins_X (E:=E175) il1158 ⟨_,_,Tryz.func85,rfl,by kernel_rfl⟩ (by decide) (by omega) fun m=>Array.length_toList.symm.trans (zeros_one (k:=8) (z:=(.agg #[.string ⟨#[]⟩,.int .i64 0,.string ⟨#[]⟩,.int .i64 0,.slice none 0 0,.slice none 0 0,.slice none 0 0,.int .i64 0])) rfl (by kernel_rfl) m).1
noncomputable abbrev F1152:Hq:=delQ E175
theorem k1152:XHOk Tryz.prog 79 F1152.ans:=del_X (E:=E175) (z:=(.agg #[.string ⟨#[]⟩,.int .i64 0,.string ⟨#[]⟩,.int .i64 0,.slice none 0 0,.slice none 0 0,.slice none 0 0,.int .i64 0])) (delRuns_of (ρ:=delR 79 22 66) (b:=128) mixed ⟨ "slices.Delete[[]rostrum/api.Entry,rostrum/api.Entry]",by kernel_rfl,by kernel_rfl⟩ (by kernel_rfl) (by kernel_rfl)) ⟨_,_,Tryz.func79,rfl,by kernel_rfl⟩ (zeros_one rfl (by kernel_rfl))
end Go.Proofs.YtfbpilmhnpkfhaaGreatDoor
/-
  Walks: what functions of the program answer, as functions.
-/
namespace Go.Proofs.YtfbpilmhnpkfhaaGreatDoor
open Go Go.Vc Go.RowKit
set_option maxRecDepth 100000
set_option maxHeartbeats 4000000
noncomputable def g1151(x0:ByteArray)(x8:ByteArray):Int:=(g143 x0 x8)
noncomputable def F1151:Fq:=⟨[.g [kS,kI,kS,kI,.sl E160,.sl E9,.sl E164,kI],.v kS],fun x0 _ _ _ _ _ _ _ x8=>⟨⟨none,.int .i64 (g1151 x0 x8)⟩⟩⟩
theorem pc1151:FnOk Tryz.prog 78 F1151.sh _ (F1151.sh.flatMap Sh.bs) F1151.f []:=
 fun x0 _ (x1:Int) x2 _ (x3:Int) x4 _ _ x5 _ _ x6 _ _ (x7:Int) x8 _=>pure_of_exec (X:=(mkX [(74,F143.ans)])) (R:=⟨.pure,[.tmp 4],[(.t 0,kI)],⟨[U],[]⟩⟩) (h:= .z) (ms:=[]) (p:=True) (mkX_ok ⟨k143,trivial⟩) Tryz.func78 rfl rfl (by kernel_rfl) (trivial)
theorem k1151:XOk Tryz.prog 78 F1151.ans:=Fq.ok ⟨_,_,Tryz.func78,rfl,by kernel_rfl⟩ pc1151
noncomputable def g1150_1151_l1(x0:Sl T175)(x1:ByteArray):Nat→Int→Int→Int
 |0,_,_=>default
 |k+1,v1_0,v1_1=>(bif(decide (v1_0<v1_1))then(bif(decide ((g1151 (x0.at' (Int.toNat (IntKind.i64.wrap ((IntKind.u64.wrap (IntKind.i64.wrap (v1_0+v1_1)))/2^(Int.toNat 1))))).c0 x1)<0))then(g1150_1151_l1 x0 x1 k (IntKind.i64.wrap ((IntKind.i64.wrap ((IntKind.u64.wrap (IntKind.i64.wrap (v1_0+v1_1)))/2^(Int.toNat 1)))+1)) v1_1)else(g1150_1151_l1 x0 x1 k v1_0 (IntKind.i64.wrap ((IntKind.u64.wrap (IntKind.i64.wrap (v1_0+v1_1)))/2^(Int.toNat 1)))))else v1_0)
noncomputable def g1150_1151_r1(x0:Sl T175)(x1:ByteArray):Int:=g1150_1151_l1 x0 x1 ((Int.toNat ((x0.n:Int)-0))+1) 0 (x0.n:Int)
noncomputable def g1150_1151_m2(x0:Sl T175)(x1:ByteArray):Bool:=(bif(decide ((g1150_1151_r1 x0 x1)<(x0.n:Int)))then((g1151 (x0.at' (Int.toNat (g1150_1151_r1 x0 x1))).c0 x1)==0)else false)
noncomputable def g1150_1151_0(x0:Sl T175)(x1:ByteArray):Int:=(g1150_1151_r1 x0 x1)
noncomputable def g1150_1151_1(x0:Sl T175)(x1:ByteArray):Bool:=(g1150_1151_m2 x0 x1)
noncomputable def F1150_1151:Fq:=⟨[.v (.sl E175),.v kS,.fn 78 []],fun x0 x1=>⟨⟨none,.tup [.int .i64 (g1150_1151_0 x0 x1),.bool (g1150_1151_1 x0 x1)]⟩⟩⟩
theorem pc1150_1151:FnOk Tryz.prog 77 F1150_1151.sh _ (F1150_1151.sh.flatMap Sh.bs) F1150_1151.f []:=
 fun x0 n0 _ x1 n1=>pure_of_exec (X:=(mkX [(78,F1151.ans)])) (R:=⟨.pure,[.tmp 6,.tmp 7],[(.t 0,kI),(.t 1,kB)],⟨[U,U],[]⟩⟩) (h:=(.s .z (.s .z (.s .z (.j ⟨967,[],[],[],.f⟩ (.lp ⟨1991,[],[],[(.t 9,kI),(.t 10,kI)],some 0,false,967,[],[(.t 9,kI)],fun k (s:Int×Int)=>g1150_1151_l1 x0 x1 k s.1 s.2,.f,fun(s:Int×Int)=>(0≤s.1∧s.1≤s.2∧s.2≤(x0.n:Int)),fun(s:Int×Int)=>(Int.toNat (s.2-s.1)),some fun(r:Int)=>0≤r∧r≤(x0.n:Int)⟩ .z) (.j ⟨192,[],[(.t 7,kB)],[],.f⟩ .z .z)))))) (ms:=[]) (p:=((((0≤(0:Int)∧(0:Int)≤(x0.n:Int)∧(x0.n:Int)≤(x0.n:Int)))∧(∀(v1_0:Int) (v1_1:Int),(0≤v1_0∧v1_0≤v1_1∧v1_1≤(x0.n:Int))→(((decide (v1_0<v1_1))=true→(((0:Int)≤1∧(1:Int)≤64)∧((0:Int)≤(IntKind.i64.wrap ((IntKind.u64.wrap (IntKind.i64.wrap (v1_0+v1_1)))/2^(Int.toNat 1)))∧(IntKind.i64.wrap ((IntKind.u64.wrap (IntKind.i64.wrap (v1_0+v1_1)))/2^(Int.toNat 1)))<((x0.n:Nat):Int))))∧(((decide (v1_0<v1_1))=true→(((decide ((g1151 (x0.at' (Int.toNat (IntKind.i64.wrap ((IntKind.u64.wrap (IntKind.i64.wrap (v1_0+v1_1)))/2^(Int.toNat 1))))).c0 x1)<0))=true→((0≤(IntKind.i64.wrap ((IntKind.i64.wrap ((IntKind.u64.wrap (IntKind.i64.wrap (v1_0+v1_1)))/2^(Int.toNat 1)))+1))∧(IntKind.i64.wrap ((IntKind.i64.wrap ((IntKind.u64.wrap (IntKind.i64.wrap (v1_0+v1_1)))/2^(Int.toNat 1)))+1))≤v1_1∧v1_1≤(x0.n:Int))∧(Int.toNat (v1_1- (IntKind.i64.wrap ((IntKind.i64.wrap ((IntKind.u64.wrap (IntKind.i64.wrap (v1_0+v1_1)))/2^(Int.toNat 1)))+1))))<(Int.toNat (v1_1-v1_0))))∧((decide ((g1151 (x0.at' (Int.toNat (IntKind.i64.wrap ((IntKind.u64.wrap (IntKind.i64.wrap (v1_0+v1_1)))/2^(Int.toNat 1))))).c0 x1)<0))=false→((0≤v1_0∧v1_0≤(IntKind.i64.wrap ((IntKind.u64.wrap (IntKind.i64.wrap (v1_0+v1_1)))/2^(Int.toNat 1)))∧(IntKind.i64.wrap ((IntKind.u64.wrap (IntKind.i64.wrap (v1_0+v1_1)))/2^(Int.toNat 1)))≤(x0.n:Int))∧(Int.toNat ((IntKind.i64.wrap ((IntKind.u64.wrap (IntKind.i64.wrap (v1_0+v1_1)))/2^(Int.toNat 1)))-v1_0))<(Int.toNat (v1_1-v1_0))))))∧((decide (v1_0<v1_1))=false→(0≤v1_0∧v1_0≤(x0.n:Int)))))))∧((0≤(g1150_1151_r1 x0 x1)∧(g1150_1151_r1 x0 x1)≤(x0.n:Int))→((decide ((g1150_1151_r1 x0 x1)<(x0.n:Int)))=true→((0:Int)≤(g1150_1151_r1 x0 x1)∧(g1150_1151_r1 x0 x1)<((x0.n:Nat):Int)))))) (mkX_ok ⟨k1151,trivial⟩) Tryz.func77 rfl rfl (by kernel_rfl) (⟨⟨(by omega),(fun v1_0 v1_1 hI1=>⟨(fun h2=>⟨(by have:=of_decide_eq_true h2;omega),(by have:=of_decide_eq_true h2;first|omega|(have:=wrap64 (x:=(v1_0+v1_1)) (by omega) (by omega);have:=wrapu64 (x:=(IntKind.i64.wrap (v1_0+v1_1))) (by omega) (by omega);have:=half2 (IntKind.u64.wrap (IntKind.i64.wrap (v1_0+v1_1)));have:=wrap64 (x:=((IntKind.u64.wrap (IntKind.i64.wrap (v1_0+v1_1)))/2^(Int.toNat 1))) (by omega) (by omega);omega))⟩),⟨(fun h3=>⟨(fun h4=>(by have:=of_decide_eq_true h3;have:=of_decide_eq_true h4;first|omega|(have:=wrap64 (x:=(v1_0+v1_1)) (by omega) (by omega);have:=wrapu64 (x:=(IntKind.i64.wrap (v1_0+v1_1))) (by omega) (by omega);have:=half2 (IntKind.u64.wrap (IntKind.i64.wrap (v1_0+v1_1)));have:=wrap64 (x:=((IntKind.u64.wrap (IntKind.i64.wrap (v1_0+v1_1)))/2^(Int.toNat 1))) (by omega) (by omega);have:=wrap64 (x:=((IntKind.i64.wrap ((IntKind.u64.wrap (IntKind.i64.wrap (v1_0+v1_1)))/2^(Int.toNat 1)))+1)) (by omega) (by omega);omega))),(fun h5=>(by have:=of_decide_eq_true h3;have:=of_decide_eq_false h5;first|omega|(have:=wrap64 (x:=(v1_0+v1_1)) (by omega) (by omega);have:=wrapu64 (x:=(IntKind.i64.wrap (v1_0+v1_1))) (by omega) (by omega);have:=half2 (IntKind.u64.wrap (IntKind.i64.wrap (v1_0+v1_1)));have:=wrap64 (x:=((IntKind.u64.wrap (IntKind.i64.wrap (v1_0+v1_1)))/2^(Int.toNat 1))) (by omega) (by omega);omega)))⟩),(fun h6=>(by have:=of_decide_eq_false h6;omega))⟩⟩)⟩,(fun hF7=>(fun h8=>(by have:=of_decide_eq_true h8;omega)))⟩)
theorem k1150_1151:XOk Tryz.prog 77 F1150_1151.ans:=Fq.ok ⟨_,_,Tryz.func77,rfl,by kernel_rfl⟩ pc1150_1151
theorem b1150_1151(x0:Sl T175)(x1:ByteArray): ∀k i j,g1150_1151_l1 x0 x1 k i j=bsG (fun m=>decide ((g1151 (x0.at' m).c0 x1)<0)) k i j
 |0,_,_=>rfl
 |k+1,i,j=>by simp only[g1150_1151_l1,bsG,b1150_1151 x0 x1 k]
theorem f1150_1151(x0:Sl T175)(x1:ByteArray)(hn:x0.n≤549755813888):0≤g1150_1151_0 x0 x1∧g1150_1151_0 x0 x1≤((x0.n:Nat):Int):=by
 show 0≤g1150_1151_l1 x0 x1 _ _ _∧g1150_1151_l1 x0 x1 _ _ _≤_
 rw[b1150_1151]
 exact bs_bounds (by omega) _ _ _ (by omega) (by omega) (by omega)
theorem t1150_1151(x0:Sl T175)(x1:ByteArray)(h:g1150_1151_1 x0 x1=true):g1150_1151_0 x0 x1<((x0.n:Nat):Int):=by
 unfold g1150_1151_1 g1150_1151_m2 at h
 cases e:decide (g1150_1151_r1 x0 x1<(x0.n:Int))with
 |true=>exact of_decide_eq_true e
 |false=>rw[e]at h;cases h
def TH(b:Bool)(i:Int)(n:Nat):Prop:=(0≤i∧i≤(n:Int))∧(b=true→i<(n:Int))
theorem th_le{b:Bool}{i:Int}{n:Nat}(h:TH b i n):0≤i∧i≤(n:Int):=h.1
theorem th_lt{b:Bool}{i:Int}{n:Nat}(h:TH b i n)(hb:(!b)=false):0≤i∧i<(n:Int):=⟨h.1.1,h.2 (by simpa using hb)⟩
theorem th_find(x0:Sl T175)(x1:ByteArray)(hn:x0.n≤549755813888):TH (g1150_1151_1 x0 x1) (g1150_1151_0 x0 x1) x0.n:=⟨f1150_1151 x0 x1 hn,t1150_1151 x0 x1⟩
def SS(s:Sl T175):Prop:=s.n≤1000000∧ ∀i,i<s.n→(s.at' i).c4.n≤1048576∧(s.at' i).c5.n≤1048576∧(s.at' i).c6.n≤1048576
end Go.Proofs.YtfbpilmhnpkfhaaGreatDoor
/-
  Walks: what functions of the program answer, as functions.
-/
namespace Go.Proofs.YtfbpilmhnpkfhaaGreatDoor
open Go Go.Vc Go.RowKit
set_option maxRecDepth 100000
set_option maxHeartbeats 4000000
noncomputable def g1106_h0_2(x0:ByteArray)(x4:Sl T175):Int:=(g1150_1151_0 x4 x0)
noncomputable def g1106_h0_3(x0:ByteArray)(x4:Sl T175):Bool:=(g1150_1151_1 x4 x0)
noncomputable def F1106:Hq:=⟨[.p 0,.v kS],[(.h 0 0,kI),(.h 0 2,kI),(.h 0 3,kB),(.h 1 0,.blk E175)],[[U,.own 1 0,U,U],[U]],fun x0 x1 _ _ x4=>⟨⟨none,[],[[.int .i64 x1,.own 1 (x4).n,.int .i64 (g1106_h0_2 x0 x4),.bool (g1106_h0_3 x0 x4)],[(Kd.blk E175).av x4]]⟩⟩⟩
theorem pc1106:HqOk Tryz.prog 52 F1106 _ (F1106.sh.flatMap Sh.bs) F1106.f []:=
 fun x0 _ (x1:Int) (x2:Int) x3 x4 _=>heap_of_exec (X:=(mkXh 2 [(77,F1150_1151.ans)] [])) (R:=⟨.heap,[],[(.h 0 0,kI),(.h 0 2,kI),(.h 0 3,kB),(.h 1 0,.blk E175)],⟨[],[[U,.own 1 0,U,U],[U]]⟩⟩) (h:= .z) (ms:=[]) (p:=True) (mkXh_ok ⟨k1150_1151,trivial⟩ trivial) Tryz.func52 rfl rfl rfl (by kernel_rfl) (trivial)
theorem k1106:XHOk Tryz.prog 52 F1106.ans:=Hq.ok ⟨_,_,Tryz.func52,rfl,by kernel_rfl⟩ (by kernel_rfl) pc1106
theorem f1106(x1:ByteArray)(x8:Sl T175)(hn:x8.n≤549755813888):0≤g1106_h0_2 x1 x8∧g1106_h0_2 x1 x8≤((x8.n:Nat):Int):=f1150_1151 x8 x1 hn
theorem t1106(x1:ByteArray)(x8:Sl T175)(h:g1106_h0_3 x1 x8=true):g1106_h0_2 x1 x8<((x8.n:Nat):Int):=t1150_1151 x8 x1 h
theorem tn1106(x1:ByteArray)(x8:Sl T175)(h:(!(g1106_h0_3 x1 x8))=false):g1106_h0_2 x1 x8<((x8.n:Nat):Int):=t1106 x1 x8 (by simpa using h)
theorem th1106{x1:ByteArray}{x8:Sl T175}(h:SS x8):TH (g1106_h0_3 x1 x8) (g1106_h0_2 x1 x8) x8.n:=th_find x8 x1 (by have:=h.1;omega)
noncomputable def g1107_h2_0(x1:Int)(x3:Sl T175):Sl T175:=(Sl.del x3 (Int.toNat x1) (Int.toNat (IntKind.i64.wrap (x1+1))))
noncomputable def F1107:Hq:=⟨[.p 0],[(.h 0 0,kI),(.h 0 2,kI),(.h 0 3,kB),(.h 1 0,.blk E175)],[[U,.own 1 0,U,U],[U]],fun(x0:Int) (x1:Int) x2 x3=>⟨⟨some (x3.n≤1000000∧0≤x1∧x1<(x3.n:Int)),[],[[.int .i64 x0,.own 2 ((g1107_h2_0 x1 x3)).n,.int .i64 x1,.bool x2],[deadB],[(Kd.blk E175).av (g1107_h2_0 x1 x3)]]⟩⟩⟩
theorem pc1107:HqOk Tryz.prog 53 F1107 _ (F1107.sh.flatMap Sh.bs) F1107.f []:=
 fun(x0:Int) (x1:Int) x2 x3 n3 hp=>heap_of_exec (X:=(mkXh 2 [] [(79,F1152.ans)])) (R:=⟨.hp2 true [] [.own (.h 0 1) E175 2],[],[(.h 0 0,kI),(.h 0 2,kI),(.h 0 3,kB),(.h 2 0,.blk E175)],⟨[],[[U,.own 2 0,U,U],[deadB],[U]]⟩⟩) (h:= .z) (ms:=[]) (p:=((0:Int)≤x1∧(x1:Int)<(IntKind.i64.wrap (x1+1))∧((IntKind.i64.wrap (x1+1)):Int)≤((x3.n:Nat):Int))) (mkXh_ok trivial ⟨k1152,trivial⟩) Tryz.func53 rfl rfl rfl (by kernel_rfl) (have⟨hq0,hq1,hq2⟩:=hp;(by first|omega|(have:=wrap64 (x:=(x1+1)) (by omega) (by omega);omega)))
theorem k1107:XHOk Tryz.prog 53 F1107.ans:=Hq.ok ⟨_,_,Tryz.func53,rfl,by kernel_rfl⟩ (by kernel_rfl) pc1107
noncomputable def g1108_m1(x4:Int)(x5:Int):Bool:=(bif(decide (x4<1))then true else(decide (x4>(IntKind.i64.wrap (1073741824-x5)))))
noncomputable def g1108_0(x0:Int)(x4:Int)(x5:Int)(x7:Bool):Int:=(bif(!x7)then 5 else(bif(x0==21)then 0 else(bif(g1108_m1 x4 x5)then 2 else 0)))
noncomputable def g1108_1:ByteArray:=⟨#[]⟩
noncomputable def g1108_2(x0:Int)(x5:Int)(x6:Int)(x7:Bool)(x8:Sl T175):Int:=(bif(!x7)then 0 else(bif(x0==21)then(imax (IntKind.i64.wrap ((x8.at' (Int.toNat x6)).c7-x5)) 0)else 0))
noncomputable def g1108_3:Sl ByteArray:=(nilSl:Sl ByteArray)
noncomputable def g1108_h1_0(x0:Int)(x4:Int)(x5:Int)(x6:Int)(x7:Bool)(x8:Sl T175):Sl T175:=(bif(!x7)then x8 else(bif(x0==21)then x8 else(bif(g1108_m1 x4 x5)then x8 else(Sl.upd x8 (Int.toNat x6) (⟨(x8.at' (Int.toNat x6)).c0,(x8.at' (Int.toNat x6)).c1,(x8.at' (Int.toNat x6)).c2,(x8.at' (Int.toNat x6)).c3,(x8.at' (Int.toNat x6)).c4,(x8.at' (Int.toNat x6)).c5,(x8.at' (Int.toNat x6)).c6,(IntKind.i64.wrap (x5+x4))⟩:T175)))))
noncomputable def F1108:Hq:=⟨[.p 0,.g [kI,kS,kS,kS,kI]],[(.h 0 0,kI),(.h 0 2,kI),(.h 0 3,kB),(.h 1 0,.blk E175)],[[U,.own 1 0,U,U],[U]],fun(x0:Int) _ _ _ (x4:Int) (x5:Int) (x6:Int) x7 x8=>⟨⟨some (TH x7 x6 x8.n∧x8.n≤1000000),[.agg [.int .i64 (g1108_0 x0 x4 x5 x7),.str g1108_1,.int .i64 (g1108_2 x0 x5 x6 x7 x8),ofSl 1 e9 g1108_3]],[[.int .i64 x5,.own 1 ((g1108_h1_0 x0 x4 x5 x6 x7 x8)).n,.int .i64 x6,.bool x7],[(Kd.blk E175).av (g1108_h1_0 x0 x4 x5 x6 x7 x8)]]⟩⟩⟩
theorem pc1108:HqOk Tryz.prog 54 F1108 _ (F1108.sh.flatMap Sh.bs) F1108.f []:=
 fun(x0:Int) x1 n1 x2 n2 x3 n3 (x4:Int) (x5:Int) (x6:Int) x7 x8 n8 hp=>heap_of_exec (X:=(mkXh 2 [] [])) (R:=⟨.heap,[.cell 4 36],[(.c 0 0,kI),(.c 0 1,kS),(.c 0 2,kI),(.c 0 3,.sl E9),(.h 0 0,kI),(.h 0 2,kI),(.h 0 3,kB),(.h 1 0,.blk E175)],⟨[.agg (us 4 [])],[[U,.own 1 0,U,U],[U]]⟩⟩) (h:=(.s .z (.s .z (.s .z (.s .z (.s (.j ⟨1125899906842681,[],[(.t 50,kB)],[],.f⟩ .z .z) .z)))))) (ms:=[.f,.l,(.b .f (.b .f .l)),.l,.l,.l,.l,.f]) (p:=((!x7)=false→(((0:Int)≤x6∧x6<((x8.n:Nat):Int))∧(((x0==21)=true→((Int.toNat x6)<x8.n))∧((x0==21)=false→((g1108_m1 x4 x5)=false→((Int.toNat x6)<x8.n))))))) (mkXh_ok trivial trivial) Tryz.func54 rfl rfl rfl (by kernel_rfl) (have⟨hq0,hq1⟩:=hp;(fun h1=>⟨(by have:=th_lt (by assumption) h1;omega),⟨(fun h2=>(by have:=th_lt (by assumption) h1;have:=eq_of_beq h2;omega)),(fun h3=>(fun h4=>(by have:=th_lt (by assumption) h1;have:=ne_of_beq_false h3;have:=h4;simp [g1108_m1]at this;omega)))⟩⟩))
theorem k1108:XHOk Tryz.prog 54 F1108.ans:=Hq.ok ⟨_,_,Tryz.func54,rfl,by kernel_rfl⟩ (by kernel_rfl) pc1108
noncomputable def g1110_m1(x1:ByteArray)(x12:Int)(x13:Bool)(x14:Sl T175):Sl T175:=(bif(!x13)then(Sl.ins x14 (Int.toNat x12) (⟨x1,0,⟨#[]⟩,0,(nilSl:Sl T160),(nilSl:Sl ByteArray),(nilSl:Sl T164),0⟩:T175))else x14)
noncomputable def g1110_h1_0(x0:Int)(x1:ByteArray)(x5:Int)(x6:ByteArray)(x7:Int)(x8:Sl T160)(x9:Sl ByteArray)(x10:Sl T164)(x12:Int)(x13:Bool)(x14:Sl T175):Sl T175:=(bif(x0==1)then(Sl.upd (Sl.upd (g1110_m1 x1 x12 x13 x14) (Int.toNat x12) (⟨((g1110_m1 x1 x12 x13 x14).at' (Int.toNat x12)).c0,x5,x6,x7,x8,x9,x10,((g1110_m1 x1 x12 x13 x14).at' (Int.toNat x12)).c7⟩:T175)) (Int.toNat x12) (⟨((Sl.upd (g1110_m1 x1 x12 x13 x14) (Int.toNat x12) (⟨((g1110_m1 x1 x12 x13 x14).at' (Int.toNat x12)).c0,x5,x6,x7,x8,x9,x10,((g1110_m1 x1 x12 x13 x14).at' (Int.toNat x12)).c7⟩:T175)).at' (Int.toNat x12)).c0,((Sl.upd (g1110_m1 x1 x12 x13 x14) (Int.toNat x12) (⟨((g1110_m1 x1 x12 x13 x14).at' (Int.toNat x12)).c0,x5,x6,x7,x8,x9,x10,((g1110_m1 x1 x12 x13 x14).at' (Int.toNat x12)).c7⟩:T175)).at' (Int.toNat x12)).c1,((Sl.upd (g1110_m1 x1 x12 x13 x14) (Int.toNat x12) (⟨((g1110_m1 x1 x12 x13 x14).at' (Int.toNat x12)).c0,x5,x6,x7,x8,x9,x10,((g1110_m1 x1 x12 x13 x14).at' (Int.toNat x12)).c7⟩:T175)).at' (Int.toNat x12)).c2,((Sl.upd (g1110_m1 x1 x12 x13 x14) (Int.toNat x12) (⟨((g1110_m1 x1 x12 x13 x14).at' (Int.toNat x12)).c0,x5,x6,x7,x8,x9,x10,((g1110_m1 x1 x12 x13 x14).at' (Int.toNat x12)).c7⟩:T175)).at' (Int.toNat x12)).c3,((Sl.upd (g1110_m1 x1 x12 x13 x14) (Int.toNat x12) (⟨((g1110_m1 x1 x12 x13 x14).at' (Int.toNat x12)).c0,x5,x6,x7,x8,x9,x10,((g1110_m1 x1 x12 x13 x14).at' (Int.toNat x12)).c7⟩:T175)).at' (Int.toNat x12)).c4,((Sl.upd (g1110_m1 x1 x12 x13 x14) (Int.toNat x12) (⟨((g1110_m1 x1 x12 x13 x14).at' (Int.toNat x12)).c0,x5,x6,x7,x8,x9,x10,((g1110_m1 x1 x12 x13 x14).at' (Int.toNat x12)).c7⟩:T175)).at' (Int.toNat x12)).c5,((Sl.upd (g1110_m1 x1 x12 x13 x14) (Int.toNat x12) (⟨((g1110_m1 x1 x12 x13 x14).at' (Int.toNat x12)).c0,x5,x6,x7,x8,x9,x10,((g1110_m1 x1 x12 x13 x14).at' (Int.toNat x12)).c7⟩:T175)).at' (Int.toNat x12)).c6,0⟩:T175))else(Sl.upd (g1110_m1 x1 x12 x13 x14) (Int.toNat x12) (⟨((g1110_m1 x1 x12 x13 x14).at' (Int.toNat x12)).c0,x5,x6,x7,x8,x9,x10,((g1110_m1 x1 x12 x13 x14).at' (Int.toNat x12)).c7⟩:T175)))
theorem n1110(x1:ByteArray)(x12:Int)(x13:Bool)(x14:Sl T175)(h:TH x13 x12 x14.n):0≤x12∧x12<(((g1110_m1 x1 x12 x13 x14).n:Nat):Int):=by
 unfold g1110_m1
 cases x13 with
 |true=>exact⟨h.1.1,h.2 rfl⟩
 |false=>
  refine⟨h.1.1,?_⟩
  show x12<((x14.n+1:Nat):Int)
  have:=h.1.2
  omega
noncomputable def F1110:Hq:=⟨[.p 0,.g [kI,kS,kS,kS,kI],.g [kI,kS,kI,.sl E160,.sl E9,.sl E164]],[(.h 0 0,kI),(.h 0 2,kI),(.h 0 3,kB),(.h 1 0,.blk E175)],[[U,.own 1 0,U,U],[U]],fun(x0:Int) x1 _ _ _ (x5:Int) x6 (x7:Int) x8 x9 x10 (x11:Int) (x12:Int) x13 x14=>⟨⟨some (TH x13 x12 x14.n∧x14.n≤1000000),[],[[.int .i64 x11,.own 1 ((g1110_h1_0 x0 x1 x5 x6 x7 x8 x9 x10 x12 x13 x14)).n,.int .i64 x12,.bool x13],[(Kd.blk E175).av (g1110_h1_0 x0 x1 x5 x6 x7 x8 x9 x10 x12 x13 x14)]]⟩⟩⟩
theorem pc1110:HqOk Tryz.prog 56 F1110 _ (F1110.sh.flatMap Sh.bs) F1110.f []:=
 fun(x0:Int) x1 n1 x2 n2 x3 n3 (x4:Int) (x5:Int) x6 n6 (x7:Int) x8 n8 x9 n9 x10 n10 (x11:Int) (x12:Int) x13 x14 n14 hp=>heap_of_exec (X:=(mkXh 2 [] [(85,F1158.ans)])) (R:=⟨.heap,[],[(.h 0 0,kI),(.h 0 2,kI),(.h 0 3,kB),(.h 1 0,.blk E175)],⟨[],[[U,.own 1 0,U,U],[U]]⟩⟩) (h:=(.s .z (.j ⟨49,[.b 4],[(.h 1 0,.blk E175)],[],.f⟩ .z .z))) (ms:=[.l,.l,.l,.f]) (p:=(((!x13)=true→((0:Int)≤x12∧(x12:Int)≤((x14.n:Nat):Int)∧x14.n+1≤549755813888∧1=1))∧(((0:Int)≤x12∧x12<(((g1110_m1 x1 x12 x13 x14).n:Nat):Int))∧(((Int.toNat x12)<(g1110_m1 x1 x12 x13 x14).n)∧((x0==1)=true→((Int.toNat x12)<(g1110_m1 x1 x12 x13 x14).n)))))) (mkXh_ok trivial ⟨k1158,trivial⟩) Tryz.func56 rfl rfl rfl (by kernel_rfl) (have⟨hq0,hq1⟩:=hp;⟨(fun h1=>(by have:=th_le (b:=x13) (i:=x12) (n:=x14.n) (by assumption);omega)),⟨(by have:=n1110 x1 x12 x13 x14 (by repeat first|assumption|apply ce85|apply cc85'|apply vok_t|apply rmok|apply And.intro|apply ce95|apply cc95|apply th1106);omega),⟨(by have:=n1110 x1 x12 x13 x14 (by repeat first|assumption|apply ce85|apply cc85'|apply vok_t|apply rmok|apply And.intro|apply ce95|apply cc95|apply th1106);omega),(fun h2=>(by have:=eq_of_beq h2;have:=n1110 x1 x12 x13 x14 (by repeat first|assumption|apply ce85|apply cc85'|apply vok_t|apply rmok|apply And.intro|apply ce95|apply cc95|apply th1106);omega))⟩⟩⟩)
theorem k1110:XHOk Tryz.prog 56 F1110.ans:=Hq.ok ⟨_,_,Tryz.func56,rfl,by kernel_rfl⟩ (by kernel_rfl) pc1110
noncomputable def g1049_l1(x1:Sl T175):Nat→Int→Sl T175→Sl T175
 |0,_,_=>default
 |k+1,v1_0,v1_1=>(bif(decide (v1_0<(x1.n:Int)))then(g1049_l1 x1 k (IntKind.i64.wrap (v1_0+1)) (Sl.app v1_1 (Sl.lit ([(x1.at' (Int.toNat v1_0))]:List T175))))else v1_1)
noncomputable def g1049_r1(x1:Sl T175):Sl T175:=g1049_l1 x1 ((Int.toNat ((x1.n:Int)-0))+1) 0 (nilSl:Sl T175)
noncomputable def g1049(x0:Int):Int:=x0
noncomputable def g1049_h0_0(x1:Sl T175):Sl T175:=(g1049_r1 x1)
noncomputable def F1049:Hq:=⟨[.g [kI,.sl E175]],[],[],fun x0 x1=>⟨⟨none,[.agg [.int .i64 (g1049 x0),.own 0 ((g1049_h0_0 x1)).n]],[[(Kd.blk E175).av (g1049_h0_0 x1)]]⟩⟩⟩
theorem pc1049:HqOk Tryz.prog 30 F1049 _ (F1049.sh.flatMap Sh.bs) F1049.f []:=
 fun(x0:Int) x1 n1=>heap_of_exec (X:=(mkX [(49,F210.ans),(35,F211.ans),(50,F212.ans)])) (R:=⟨.hp2 false [] [.own (.c 0 1) E175 0],[.cell 2 24],[(.c 0 0,kI),(.h 0 0,.blk E175)],⟨[.agg [U,.own 0 0]],[[U]]⟩⟩) (h:=(.s .z (.s .z (.j ⟨12,[],[],[],.f⟩ (.s .z (.lp ⟨14348,[.b 0],[(.h 2 1,E175)],[(.t 13,kI),(.h 3 0,.blk E175)],some 0,false,12,[],[(.h 3 0,.blk E175)],fun k (s:Int×Sl T175)=>g1049_l1 x1 k s.1 s.2,.f,fun(s:Int×Sl T175)=>((0≤s.1∧s.1≤(x1.n:Int))∧((s.2.n:Nat):Int)≤0+(s.1-0)),fun(s:Int×Sl T175)=>(Int.toNat ((x1.n:Int)-s.1)),some fun(r:Sl T175)=>((r.n:Nat):Int)≤0+max ((x1.n:Int)-0) 0⟩ .z)) .z)))) (ms:=[]) (p:=((((0≤(0:Int)∧(0:Int)≤(x1.n:Int))∧((0:Nat):Int)≤0+((0:Int)-0)))∧(∀(v1_0:Int) (v1_1:Sl T175),((0≤v1_0∧v1_0≤(x1.n:Int))∧((v1_1.n:Nat):Int)≤0+(v1_0-0))→(((decide (v1_0<(x1.n:Int)))=true→(((0:Int)≤v1_0∧v1_0<((x1.n:Nat):Int))∧(v1_1.n+1≤549755813888)))∧(((decide (v1_0<(x1.n:Int)))=true→(((0≤(IntKind.i64.wrap (v1_0+1))∧(IntKind.i64.wrap (v1_0+1))≤(x1.n:Int))∧(((v1_1.n+1):Nat):Int)≤0+((IntKind.i64.wrap (v1_0+1))-0))∧(Int.toNat ((x1.n:Int)- (IntKind.i64.wrap (v1_0+1))))<(Int.toNat ((x1.n:Int)-v1_0))))∧((decide (v1_0<(x1.n:Int)))=false→(((v1_1.n:Nat):Int)≤0+max ((x1.n:Int)-0) 0))))))) (mkX_ok ⟨k210,k211,k212,trivial⟩) Tryz.func30 rfl rfl rfl (by kernel_rfl) (⟨(by omega),(fun v1_0 v1_1 hI1=>⟨(fun h2=>⟨(by have:=of_decide_eq_true h2;omega),(by have:=of_decide_eq_true h2;omega)⟩),⟨(fun h3=>(by have:=of_decide_eq_true h3;first|omega|(have:=wrap64 (x:=(v1_0+1)) (by omega) (by omega);omega))),(fun h4=>(by have:=of_decide_eq_false h4;omega))⟩⟩)⟩)
theorem k1049:XHOk Tryz.prog 30 F1049.ans:=Hq.ok ⟨_,_,Tryz.func30,rfl,by kernel_rfl⟩ (by kernel_rfl) pc1049
end Go.Proofs.YtfbpilmhnpkfhaaGreatDoor
/-
  Walks: what functions of the program answer, as functions.
-/
namespace Go.Proofs.YtfbpilmhnpkfhaaGreatDoor
open Go Go.Vc Go.RowKit
set_option maxRecDepth 100000
set_option maxHeartbeats 4000000
noncomputable def g1052_l1(x8:Sl T175):Nat→Int→Sl ByteArray→Sl ByteArray
 |0,_,_=>default
 |k+1,v1_0,v1_1=>(bif(decide (v1_0<((x8.n:Nat):Int)))then(g1052_l1 x8 k (IntKind.i64.wrap (v1_0+1)) (Sl.app v1_1 (Sl.lit ([(x8.at' (Int.toNat v1_0)).c0]:List ByteArray))))else v1_1)
noncomputable def g1052_r1(x8:Sl T175):Sl ByteArray:=g1052_l1 x8 ((Int.toNat (((x8.n:Nat):Int)-0))+1) 0 (nilSl:Sl ByteArray)
noncomputable def g1052_m2(x0:Int):Bool:=(bif(x0==20)then(x0==20)else(x0==21))
noncomputable def g1052_m3(x1:ByteArray)(x8:Sl T175):Int:=(bif(g1106_h0_3 x1 x8)then(x8.at' (Int.toNat (g1106_h0_2 x1 x8))).c1 else 0)
noncomputable def g1052_m4(x1:ByteArray)(x8:Sl T175):ByteArray:=(bif(g1106_h0_3 x1 x8)then(x8.at' (Int.toNat (g1106_h0_2 x1 x8))).c2 else⟨#[]⟩)
noncomputable def g1052_m5(x1:ByteArray)(x8:Sl T175):Int:=(bif(g1106_h0_3 x1 x8)then(x8.at' (Int.toNat (g1106_h0_2 x1 x8))).c3 else 0)
noncomputable def g1052_m6(x1:ByteArray)(x8:Sl T175):Sl T160:=(bif(g1106_h0_3 x1 x8)then(x8.at' (Int.toNat (g1106_h0_2 x1 x8))).c4 else(nilSl:Sl T160))
noncomputable def g1052_m7(x1:ByteArray)(x8:Sl T175):Sl ByteArray:=(bif(g1106_h0_3 x1 x8)then(x8.at' (Int.toNat (g1106_h0_2 x1 x8))).c5 else(nilSl:Sl ByteArray))
noncomputable def g1052_m8(x1:ByteArray)(x8:Sl T175):Sl T164:=(bif(g1106_h0_3 x1 x8)then(x8.at' (Int.toNat (g1106_h0_2 x1 x8))).c6 else(nilSl:Sl T164))
noncomputable def g1052_m9(x0:Int)(x1:ByteArray)(x2:ByteArray)(x3:ByteArray)(x4:Int)(x8:Sl T175):Bool:=(bif((g101_0_0 (g1052_m3 x1 x8) (g1052_m4 x1 x8) (g1052_m5 x1 x8) (g1052_m6 x1 x8) (g1052_m7 x1 x8) (g1052_m8 x1 x8) x0 x1 x2 x3 x4)==0)then(g1106_h0_3 x1 x8)else false)
noncomputable def g1052_m10(x1:ByteArray)(x8:Sl T175):Bool:=(bif(!(g1106_h0_3 x1 x8))then(((x8.n:Nat):Int)==12)else false)
noncomputable def g1052_m11(x0:Int)(x1:ByteArray)(x2:ByteArray)(x3:ByteArray)(x4:Int)(x8:Sl T175):Sl T175:=(bif((g101_1_0 (g1052_m3 x1 x8) (g1052_m4 x1 x8) (g1052_m5 x1 x8) (g1052_m6 x1 x8) (g1052_m7 x1 x8) (g1052_m8 x1 x8) x0 x1 x2 x3 x4)!=0)then x8 else(bif(g1052_m9 x0 x1 x2 x3 x4 x8)then(g1107_h2_0 (g1106_h0_2 x1 x8) x8)else(bif((g101_0_0 (g1052_m3 x1 x8) (g1052_m4 x1 x8) (g1052_m5 x1 x8) (g1052_m6 x1 x8) (g1052_m7 x1 x8) (g1052_m8 x1 x8) x0 x1 x2 x3 x4)!=0)then(g1110_h1_0 x0 x1 (g101_0_0 (g1052_m3 x1 x8) (g1052_m4 x1 x8) (g1052_m5 x1 x8) (g1052_m6 x1 x8) (g1052_m7 x1 x8) (g1052_m8 x1 x8) x0 x1 x2 x3 x4) (g101_0_1 (g1052_m3 x1 x8) (g1052_m4 x1 x8) (g1052_m5 x1 x8) (g1052_m6 x1 x8) (g1052_m7 x1 x8) (g1052_m8 x1 x8) x0 x1 x2 x3 x4) (g101_0_2 (g1052_m3 x1 x8) (g1052_m4 x1 x8) (g1052_m5 x1 x8) (g1052_m6 x1 x8) (g1052_m7 x1 x8) (g1052_m8 x1 x8) x0 x1 x2 x3 x4) (g101_0_3 (g1052_m3 x1 x8) (g1052_m4 x1 x8) (g1052_m5 x1 x8) (g1052_m6 x1 x8) (g1052_m7 x1 x8) (g1052_m8 x1 x8) x0 x1 x2 x3 x4) (g101_0_4 (g1052_m3 x1 x8) (g1052_m4 x1 x8) (g1052_m5 x1 x8) (g1052_m6 x1 x8) (g1052_m7 x1 x8) (g1052_m8 x1 x8) x0 x1 x2 x3 x4) (g101_0_5 (g1052_m3 x1 x8) (g1052_m4 x1 x8) (g1052_m5 x1 x8) (g1052_m6 x1 x8) (g1052_m7 x1 x8) (g1052_m8 x1 x8) x0 x1 x2 x3 x4) (g1106_h0_2 x1 x8) (g1106_h0_3 x1 x8) x8)else x8)))
noncomputable def g1052_p12(x0:Int)(x1:ByteArray)(x2:ByteArray)(x3:ByteArray)(x4:Int)(x8:Sl T175):Bool:=(bif((g101_1_0 (g1052_m3 x1 x8) (g1052_m4 x1 x8) (g1052_m5 x1 x8) (g1052_m6 x1 x8) (g1052_m7 x1 x8) (g1052_m8 x1 x8) x0 x1 x2 x3 x4)!=0)then true else(bif(g1052_m9 x0 x1 x2 x3 x4 x8)then true else(bif(g1052_m10 x1 x8)then false else true)))
noncomputable def g1052_0(x0:Int)(x1:ByteArray)(x2:ByteArray)(x3:ByteArray)(x4:Int)(x5:Int)(x8:Sl T175):Int:=(bif(x0==22)then 0 else(bif(x0==19)then 0 else(bif(g1052_m2 x0)then(g1108_0 x0 x4 x5 (g1106_h0_3 x1 x8))else(bif(g1052_p12 x0 x1 x2 x3 x4 x8)then(g101_1_0 (g1052_m3 x1 x8) (g1052_m4 x1 x8) (g1052_m5 x1 x8) (g1052_m6 x1 x8) (g1052_m7 x1 x8) (g1052_m8 x1 x8) x0 x1 x2 x3 x4)else 6))))
noncomputable def g1052_1(x0:Int)(x1:ByteArray)(x2:ByteArray)(x3:ByteArray)(x4:Int)(x8:Sl T175):ByteArray:=(bif(x0==22)then⟨#[]⟩else(bif(x0==19)then⟨#[]⟩else(bif(g1052_m2 x0)then g1108_1 else(bif(g1052_p12 x0 x1 x2 x3 x4 x8)then(g101_1_1 (g1052_m3 x1 x8) (g1052_m4 x1 x8) (g1052_m5 x1 x8) (g1052_m6 x1 x8) (g1052_m7 x1 x8) (g1052_m8 x1 x8) x0 x1 x2 x3 x4)else⟨#[]⟩))))
noncomputable def g1052_2(x0:Int)(x1:ByteArray)(x2:ByteArray)(x3:ByteArray)(x4:Int)(x5:Int)(x8:Sl T175):Int:=(bif(x0==22)then 0 else(bif(x0==19)then(bif(!(g1106_h0_3 x1 x8))then 0 else 1)else(bif(g1052_m2 x0)then(g1108_2 x0 x5 (g1106_h0_2 x1 x8) (g1106_h0_3 x1 x8) x8)else(bif(g1052_p12 x0 x1 x2 x3 x4 x8)then(g101_1_2 (g1052_m3 x1 x8) (g1052_m4 x1 x8) (g1052_m5 x1 x8) (g1052_m6 x1 x8) (g1052_m7 x1 x8) (g1052_m8 x1 x8) x0 x1 x2 x3 x4)else 0))))
noncomputable def g1052_3(x0:Int)(x1:ByteArray)(x2:ByteArray)(x3:ByteArray)(x4:Int)(x8:Sl T175):Sl ByteArray:=(bif(x0==22)then(g1052_r1 x8)else(bif(x0==19)then(nilSl:Sl ByteArray)else(bif(g1052_m2 x0)then g1108_3 else(bif(g1052_p12 x0 x1 x2 x3 x4 x8)then(g101_1_3 (g1052_m3 x1 x8) (g1052_m4 x1 x8) (g1052_m5 x1 x8) (g1052_m6 x1 x8) (g1052_m7 x1 x8) (g1052_m8 x1 x8) x0 x1 x2 x3 x4)else(nilSl:Sl ByteArray)))))
noncomputable def g1052_h0_2(x1:ByteArray)(x8:Sl T175):Int:=(g1106_h0_2 x1 x8)
noncomputable def g1052_h0_3(x1:ByteArray)(x8:Sl T175):Bool:=(g1106_h0_3 x1 x8)
noncomputable def g1052_h2_0(x0:Int)(x1:ByteArray)(x2:ByteArray)(x3:ByteArray)(x4:Int)(x5:Int)(x8:Sl T175):Sl T175:=(bif(x0==22)then x8 else(bif(x0==19)then(bif(!(g1106_h0_3 x1 x8))then x8 else(g1107_h2_0 (g1106_h0_2 x1 x8) x8))else(bif(g1052_m2 x0)then(g1108_h1_0 x0 x4 x5 (g1106_h0_2 x1 x8) (g1106_h0_3 x1 x8) x8)else(bif(g1052_p12 x0 x1 x2 x3 x4 x8)then(g1052_m11 x0 x1 x2 x3 x4 x8)else x8))))
theorem t1052(x0:Int)(x1 x2 x3:ByteArray)(x4:Int)(x8:Sl T175)(h:g1052_m9 x0 x1 x2 x3 x4 x8=true):g1106_h0_2 x1 x8<((x8.n:Nat):Int):=by
 refine t1106 x1 x8 ?_
 unfold g1052_m9 at h
 cases e:g1106_h0_3 x1 x8 with
 |true=>rfl
 |false=>rw[e]at h;simp at h
theorem n1052a(x1:ByteArray)(x8:Sl T175)(h:SS x8):(((g1052_m6 x1 x8).n:Nat):Int)≤1048576:=by
 unfold g1052_m6
 cases e:g1106_h0_3 x1 x8 with
 |false=>show((0:Nat):Int)≤_;omega
 |true=>
  have h1:=f1106 x1 x8 (by have:=h.1;omega)
  have h2:=t1106 x1 x8 e
  have:=h.2 (Int.toNat (g1106_h0_2 x1 x8)) (by omega)
  simp only[cond_true]
  omega
theorem n1052b(x1:ByteArray)(x8:Sl T175)(h:SS x8):(((g1052_m7 x1 x8).n:Nat):Int)≤1048576:=by
 unfold g1052_m7
 cases e:g1106_h0_3 x1 x8 with
 |false=>show((0:Nat):Int)≤_;omega
 |true=>
  have h1:=f1106 x1 x8 (by have:=h.1;omega)
  have h2:=t1106 x1 x8 e
  have:=h.2 (Int.toNat (g1106_h0_2 x1 x8)) (by omega)
  simp only[cond_true]
  omega
theorem n1052c(x1:ByteArray)(x8:Sl T175)(h:SS x8):(((g1052_m8 x1 x8).n:Nat):Int)≤1048576:=by
 unfold g1052_m8
 cases e:g1106_h0_3 x1 x8 with
 |false=>show((0:Nat):Int)≤_;omega
 |true=>
  have h1:=f1106 x1 x8 (by have:=h.1;omega)
  have h2:=t1106 x1 x8 e
  have:=h.2 (Int.toNat (g1106_h0_2 x1 x8)) (by omega)
  simp only[cond_true]
  omega
noncomputable def F1052:Hq:=⟨[.p 0,.g [kI,kS,kS,kS,kI]],[(.h 0 0,kI),(.h 0 2,kI),(.h 0 3,kB),(.h 1 0,.blk E175)],[[U,.own 1 0,U,U],[U]],fun(x0:Int) x1 x2 x3 (x4:Int) (x5:Int) _ _ x8=>⟨⟨some (SS x8∧x8.n≤1000000),[.agg [.int .i64 (g1052_0 x0 x1 x2 x3 x4 x5 x8),.str (g1052_1 x0 x1 x2 x3 x4 x8),.int .i64 (g1052_2 x0 x1 x2 x3 x4 x5 x8),ofSl 1 e9 (g1052_3 x0 x1 x2 x3 x4 x8)]],[[.int .i64 x5,.own 2 ((g1052_h2_0 x0 x1 x2 x3 x4 x5 x8)).n,.int .i64 (g1052_h0_2 x1 x8),.bool (g1052_h0_3 x1 x8)],[deadB],[(Kd.blk E175).av (g1052_h2_0 x0 x1 x2 x3 x4 x5 x8)]]⟩⟩⟩
theorem pc1052:HqOk Tryz.prog 33 F1052 _ (F1052.sh.flatMap Sh.bs) F1052.f []:=
 fun(x0:Int) x1 n1 x2 n2 x3 n3 (x4:Int) (x5:Int) (x6:Int) x7 x8 n8 hp=>heap_of_exec (X:=(mkXh 2 [(55,F101.ans)] [(52,F1106.ans),(53,F1107.ans),(54,F1108.ans),(56,F1110.ans)])) (R:=⟨.hp2 true [.b 2] [.own (.h 0 1) E175 2],[.cell 4 36],[(.c 0 0,kI),(.c 0 1,kS),(.c 0 2,kI),(.c 0 3,.sl E9),(.h 0 0,kI),(.h 0 2,kI),(.h 0 3,kB),(.h 2 0,.blk E175)],⟨[.agg [U,U,U,U]],[[U,.own 2 0,U,U],[deadB],[U]]⟩⟩) (h:=(.s .z (.s .z (.s (.s .z (.s .z (.s (.s .z (.j ⟨57,[],[],[],.f⟩ (.s .z (.lp ⟨117440569,[],[(.h 4 3,E9)],[(.t 26,kI),(.h 5 0,.blk E9)],some 1,false,57,[],[(.h 5 0,.blk E9)],fun k (s:Int×Sl ByteArray)=>g1052_l1 x8 k s.1 s.2,.f,fun(s:Int×Sl ByteArray)=>((0≤s.1∧s.1≤((x8.n:Nat):Int))∧((s.2.n:Nat):Int)≤0+(s.1-0)),fun(s:Int×Sl ByteArray)=>(Int.toNat (((x8.n:Nat):Int)-s.1)),some fun(r:Sl ByteArray)=>((r.n:Nat):Int)≤0+max (((x8.n:Nat):Int)-0) 0⟩ .z)) .z)) (.s .z (.s .z (.j ⟨1125899906842649,[],[(.t 50,kB)],[],.f⟩ .z .z)))))) (.s .z (.j ⟨281,[],[(.h 4 0,kI),(.h 4 1,kS),(.h 4 2,kI),(.h 4 3,.sl E160),(.h 4 4,.sl E9),(.h 4 5,.sl E164)],[],.f⟩ .z (.s .z (.jc ⟨1040,[.b 2,.b 4,.b 5],[(.h 41 0,.blk E175)],[],(.b .f (.b .f (.b .f .l)))⟩ [.own (.h 0 1) E175 41] (.s .z (.s .z (.j ⟨9671406556917033397650969,[.b 4],[(.t 83,kB)],[],.f⟩ .z (.s .z (.j ⟨39614081257132168796771976729,[],[(.t 95,kB)],[],.f⟩ .z .z))))) .z)))))))) (ms:=[(.b .f (.b .l .f)),(.b .f (.b .l .f)),.f,(.b .f (.b .l .f)),.l,.l,.l,.f]) (p:=((((x0==22)=true→((((0≤(0:Int)∧(0:Int)≤((x8.n:Nat):Int))∧((0:Nat):Int)≤0+((0:Int)-0)))∧(∀(v1_0:Int) (v1_1:Sl ByteArray),((0≤v1_0∧v1_0≤((x8.n:Nat):Int))∧((v1_1.n:Nat):Int)≤0+(v1_0-0))→(((decide (v1_0<((x8.n:Nat):Int)))=true→((((0:Int)≤v1_0∧v1_0<((x8.n:Nat):Int))∧((Int.toNat v1_0)<x8.n))∧(v1_1.n+1≤549755813888)))∧(((decide (v1_0<((x8.n:Nat):Int)))=true→(((0≤(IntKind.i64.wrap (v1_0+1))∧(IntKind.i64.wrap (v1_0+1))≤((x8.n:Nat):Int))∧(((v1_1.n+1):Nat):Int)≤0+((IntKind.i64.wrap (v1_0+1))-0))∧(Int.toNat (((x8.n:Nat):Int)- (IntKind.i64.wrap (v1_0+1))))<(Int.toNat (((x8.n:Nat):Int)-v1_0))))∧((decide (v1_0<((x8.n:Nat):Int)))=false→(((v1_1.n:Nat):Int)≤0+max (((x8.n:Nat):Int)-0) 0)))))))∧((x0==22)=false→(((x0==19)=true→((!(g1106_h0_3 x1 x8))=false→(x8.n≤1000000∧0≤(g1106_h0_2 x1 x8)∧(g1106_h0_2 x1 x8)<(x8.n:Int))))∧((x0==19)=false→((g1052_m2 x0)=true→(TH (g1106_h0_3 x1 x8) (g1106_h0_2 x1 x8) x8.n∧x8.n≤1000000))))))∧((x0==22)=false→((x0==19)=false→((g1052_m2 x0)=false→(((g1106_h0_3 x1 x8)=true→(((0:Int)≤(g1106_h0_2 x1 x8)∧(g1106_h0_2 x1 x8)<((x8.n:Nat):Int))∧((Int.toNat (g1106_h0_2 x1 x8))<x8.n)))∧(((g1052_m6 x1 x8).n≤1048576∧(g1052_m7 x1 x8).n≤1048576∧(g1052_m8 x1 x8).n≤1048576)∧(((g101_1_0 (g1052_m3 x1 x8) (g1052_m4 x1 x8) (g1052_m5 x1 x8) (g1052_m6 x1 x8) (g1052_m7 x1 x8) (g1052_m8 x1 x8) x0 x1 x2 x3 x4)!=0)=false→(((g1052_m9 x0 x1 x2 x3 x4 x8)=true→(x8.n≤1000000∧0≤(g1106_h0_2 x1 x8)∧(g1106_h0_2 x1 x8)<(x8.n:Int)))∧((g1052_m9 x0 x1 x2 x3 x4 x8)=false→((g1052_m10 x1 x8)=false→(((g101_0_0 (g1052_m3 x1 x8) (g1052_m4 x1 x8) (g1052_m5 x1 x8) (g1052_m6 x1 x8) (g1052_m7 x1 x8) (g1052_m8 x1 x8) x0 x1 x2 x3 x4)!=0)=true→(TH (g1106_h0_3 x1 x8) (g1106_h0_2 x1 x8) x8.n∧x8.n≤1000000))))))))))))) (mkXh_ok ⟨k101,trivial⟩ ⟨k1106,k1107,k1108,k1110,trivial⟩) Tryz.func33 rfl rfl rfl (by kernel_rfl) (have⟨hq0,hq1⟩:=hp;⟨⟨(fun h1=>⟨(by have:=eq_of_beq h1;omega),(fun v1_0 v1_1 hI2=>⟨(fun h3=>⟨⟨(by have:=eq_of_beq h1;have:=of_decide_eq_true h3;omega),(by have:=eq_of_beq h1;have:=of_decide_eq_true h3;omega)⟩,(by have:=eq_of_beq h1;have:=of_decide_eq_true h3;omega)⟩),⟨(fun h4=>(by have:=eq_of_beq h1;have:=of_decide_eq_true h4;first|omega|(have:=wrap64 (x:=(v1_0+1)) (by omega) (by omega);omega))),(fun h5=>(by have:=eq_of_beq h1;have:=of_decide_eq_false h5;omega))⟩⟩)⟩),(fun h6=>⟨(fun h7=>(fun h8=>(by have:=ne_of_beq_false h6;have:=eq_of_beq h7;have:=tn1106 _ _ h8;have:=f1106 x1 x8 (by omega);omega))),(fun h9=>(fun h10=>⟨(by have:=ne_of_beq_false h6;have:=ne_of_beq_false h9;have:=h10;(try simp [g1052_m2]at this);repeat first|assumption|apply th1106|apply ce85|apply cc85'|apply vok_t|apply rmok|apply And.intro|apply ce95|apply cc95),(by have:=ne_of_beq_false h6;have:=ne_of_beq_false h9;have:=h10;(try simp [g1052_m2]at this);omega)⟩))⟩)⟩,(fun h11=>(fun h12=>(fun h13=>⟨(fun h14=>⟨(by have:=ne_of_beq_false h11;have:=ne_of_beq_false h12;have:=h13;simp [g1052_m2]at this;have:=t1106 _ _ h14;have:=f1106 x1 x8 (by omega);omega),(by have:=ne_of_beq_false h11;have:=ne_of_beq_false h12;have:=h13;simp [g1052_m2]at this;have:=t1106 _ _ h14;have:=f1106 x1 x8 (by omega);omega)⟩),⟨(by have:=ne_of_beq_false h11;have:=ne_of_beq_false h12;have:=h13;simp [g1052_m2]at this;have:=n1052a x1 x8 (by repeat first|assumption|apply th1106|apply ce85|apply cc85'|apply vok_t|apply rmok|apply And.intro|apply ce95|apply cc95);have:=n1052b x1 x8 (by repeat first|assumption|apply th1106|apply ce85|apply cc85'|apply vok_t|apply rmok|apply And.intro|apply ce95|apply cc95);have:=n1052c x1 x8 (by repeat first|assumption|apply th1106|apply ce85|apply cc85'|apply vok_t|apply rmok|apply And.intro|apply ce95|apply cc95);omega),(fun h15=>⟨(fun h16=>(by have:=ne_of_beq_false h11;have:=ne_of_beq_false h12;have:=h13;simp [g1052_m2]at this;have:=bne_eq_false_iff_eq.1 h15;have:=t1052 _ _ _ _ _ _ h16;have:=f1106 x1 x8 (by omega);omega)),(fun h17=>(fun h18=>(fun h19=>⟨(by have:=ne_of_beq_false h11;have:=ne_of_beq_false h12;have:=h13;simp [g1052_m2]at this;have:=bne_eq_false_iff_eq.1 h15;have:=h17;simp [g1052_m9]at this;have:=h18;simp [g1052_m10]at this;have:=bne_iff_ne.1 h19;repeat first|assumption|apply th1106|apply ce85|apply cc85'|apply vok_t|apply rmok|apply And.intro|apply ce95|apply cc95),(by have:=ne_of_beq_false h11;have:=ne_of_beq_false h12;have:=h13;simp [g1052_m2]at this;have:=bne_eq_false_iff_eq.1 h15;have:=h17;simp [g1052_m9]at this;have:=h18;simp [g1052_m10]at this;have:=bne_iff_ne.1 h19;omega)⟩)))⟩)⟩⟩)))⟩)
theorem k1052:XHOk Tryz.prog 33 F1052.ans:=Hq.ok ⟨_,_,Tryz.func33,rfl,by kernel_rfl⟩ (by kernel_rfl) pc1052
end Go.Proofs.YtfbpilmhnpkfhaaGreatDoor
/-
  Walks: what functions of the program answer, as functions.
-/
namespace Go.Proofs.YtfbpilmhnpkfhaaGreatDoor
open Go Go.Vc Go.RowKit
set_option maxRecDepth 100000
set_option maxHeartbeats 4000000
noncomputable def g1162_l1(x1:Sl T175)(x2:ByteArray):Nat→Int→Bool×Int×ByteArray×Int×Sl T160×Sl ByteArray×Sl T164×Int
 |0,_=>default
 |k+1,v1_0=>(bif(decide (v1_0<(x1.n:Int)))then(bif(((x1.at' (Int.toNat v1_0)).c0:ByteArray).toList==(x2:ByteArray).toList)then(true,(x1.at' (Int.toNat v1_0)).c1,(x1.at' (Int.toNat v1_0)).c2,(x1.at' (Int.toNat v1_0)).c3,(x1.at' (Int.toNat v1_0)).c4,(x1.at' (Int.toNat v1_0)).c5,(x1.at' (Int.toNat v1_0)).c6,(x1.at' (Int.toNat v1_0)).c7)else(g1162_l1 x1 x2 k (IntKind.i64.wrap (v1_0+1))))else(false,default,default,default,default,default,default,default))
noncomputable def g1162_r1(x1:Sl T175)(x2:ByteArray):Bool×Int×ByteArray×Int×Sl T160×Sl ByteArray×Sl T164×Int:=g1162_l1 x1 x2 ((Int.toNat ((x1.n:Int)-0))+1) 0
noncomputable def g1162_p2(x1:Sl T175)(x2:ByteArray):Bool:=(bif(g1162_r1 x1 x2).1 then false else true)
noncomputable def g1162_0_0(x1:Sl T175)(x2:ByteArray):Int:=(bif(g1162_p2 x1 x2)then 0 else(g1162_r1 x1 x2).2.1)
noncomputable def g1162_0_1(x1:Sl T175)(x2:ByteArray):ByteArray:=(bif(g1162_p2 x1 x2)then⟨#[]⟩else(g1162_r1 x1 x2).2.2.1)
noncomputable def g1162_0_2(x1:Sl T175)(x2:ByteArray):Int:=(bif(g1162_p2 x1 x2)then 0 else(g1162_r1 x1 x2).2.2.2.1)
noncomputable def g1162_0_3(x1:Sl T175)(x2:ByteArray):Sl T160:=(bif(g1162_p2 x1 x2)then(nilSl:Sl T160)else(g1162_r1 x1 x2).2.2.2.2.1)
noncomputable def g1162_0_4(x1:Sl T175)(x2:ByteArray):Sl ByteArray:=(bif(g1162_p2 x1 x2)then(nilSl:Sl ByteArray)else(g1162_r1 x1 x2).2.2.2.2.2.1)
noncomputable def g1162_0_5(x1:Sl T175)(x2:ByteArray):Sl T164:=(bif(g1162_p2 x1 x2)then(nilSl:Sl T164)else(g1162_r1 x1 x2).2.2.2.2.2.2.1)
noncomputable def g1162_1(x1:Sl T175)(x2:ByteArray):Int:=(bif(g1162_p2 x1 x2)then 0 else(g1162_r1 x1 x2).2.2.2.2.2.2.2)
noncomputable def F1162:Fq:=⟨[.g [kI,.sl E175],.v kS],fun _ x1 x2=>⟨⟨none,.tup [.agg [.int .i64 (g1162_0_0 x1 x2),.str (g1162_0_1 x1 x2),.int .i64 (g1162_0_2 x1 x2),ofSl 2 e160 (g1162_0_3 x1 x2),ofSl 1 e9 (g1162_0_4 x1 x2),ofSl 2 e164 (g1162_0_5 x1 x2)],.int .i64 (g1162_1 x1 x2)]⟩⟩⟩
theorem pc1162:FnOk Tryz.prog 89 F1162.sh _ (F1162.sh.flatMap Sh.bs) F1162.f []:=
 fun(x0:Int) x1 n1 _ x2 n2=>pure_of_exec (X:=X0) (R:=⟨.pure,[.cell 4 64,.tmp 5],[(.c 0 0,kI),(.c 0 1,kS),(.c 0 2,kI),(.c 0 3,.sl E160),(.c 0 4,.sl E9),(.c 0 5,.sl E164),(.t 1,kI)],⟨[.agg (us 6 []),U],[]⟩⟩) (h:=(.s .z (.j ⟨48,[],[],[],.f⟩ (.s .z (.lp ⟨118,[],[],[(.t 6,kI)],some 0,true,48,[.b 0],[],fun k (s:Int)=>g1162_l1 x1 x2 k s,.f,fun(s:Int)=>(0≤s∧s≤(x1.n:Int)),fun(s:Int)=>(Int.toNat ((x1.n:Int)-s)),none⟩ .z)) .z))) (ms:=[]) (p:=(((0≤(0:Int)∧(0:Int)≤(x1.n:Int)))∧(∀(v1_0:Int),(0≤v1_0∧v1_0≤(x1.n:Int))→(((decide (v1_0<(x1.n:Int)))=true→(((0:Int)≤v1_0∧v1_0<((x1.n:Nat):Int))∧((((x1.at' (Int.toNat v1_0)).c0:ByteArray).toList==(x2:ByteArray).toList)=true→(((0:Int)≤v1_0∧v1_0<((x1.n:Nat):Int))∧((0:Int)≤v1_0∧v1_0<((x1.n:Nat):Int))))))∧((decide (v1_0<(x1.n:Int)))=true→((((x1.at' (Int.toNat v1_0)).c0:ByteArray).toList==(x2:ByteArray).toList)=false→((0≤(IntKind.i64.wrap (v1_0+1))∧(IntKind.i64.wrap (v1_0+1))≤(x1.n:Int))∧(Int.toNat ((x1.n:Int)- (IntKind.i64.wrap (v1_0+1))))<(Int.toNat ((x1.n:Int)-v1_0))))))))) X0_ok Tryz.func89 rfl rfl (by kernel_rfl) (⟨(by omega),(fun v1_0 hI1=>⟨(fun h2=>⟨(by have:=of_decide_eq_true h2;omega),(fun h3=>⟨(by have:=of_decide_eq_true h2;omega),(by have:=of_decide_eq_true h2;omega)⟩)⟩),(fun h4=>(fun h5=>(by have:=of_decide_eq_true h4;first|omega|(have:=wrap64 (x:=(v1_0+1)) (by omega) (by omega);omega))))⟩)⟩)
theorem k1162:XOk Tryz.prog 89 F1162.ans:=Fq.ok ⟨_,_,Tryz.func89,rfl,by kernel_rfl⟩ pc1162
def SV(s:Sl T175):Prop:=s.n≤1000000∧ ∀i,i<s.n→(s.at' i).c4.n≤1000000∧(s.at' i).c5.n≤1000000∧(s.at' i).c6.n≤1000000∧((s.at' i).c1≠4∨1≤(s.at' i).c5.n)
theorem v1162(x1:Sl T175)(x2:ByteArray)(h:SV x1):(g1162_0_3 x1 x2).n≤1000000∧(g1162_0_4 x1 x2).n≤1000000∧(g1162_0_5 x1 x2).n≤1000000∧(g1162_0_0 x1 x2≠4∨1≤(g1162_0_4 x1 x2).n):=by
 have e:g1162_r1 x1 x2=scan (fun i=>(x1.at' (Int.toNat i)).c0.toList==x2.toList) (fun i=>((x1.at' (Int.toNat i)).c1,(x1.at' (Int.toNat i)).c2,(x1.at' (Int.toNat i)).c3,(x1.at' (Int.toNat i)).c4,(x1.at' (Int.toNat i)).c5,(x1.at' (Int.toNat i)).c6,(x1.at' (Int.toNat i)).c7)) x1.n 0:=scan0 (fun k i=>g1162_l1 x1 x2 k i) x1.n _ _ (by have:=h.1;omega) fun _ _=>rfl
 unfold g1162_0_3 g1162_0_4 g1162_0_5 g1162_0_0 g1162_p2
 rw[e]
 cases h1:(scan (fun i=>(x1.at' (Int.toNat i)).c0.toList==x2.toList) (fun i=>((x1.at' (Int.toNat i)).c1,(x1.at' (Int.toNat i)).c2,(x1.at' (Int.toNat i)).c3,(x1.at' (Int.toNat i)).c4,(x1.at' (Int.toNat i)).c5,(x1.at' (Int.toNat i)).c6,(x1.at' (Int.toNat i)).c7)) x1.n 0).1 with
 |false=>exact⟨Nat.zero_le _,Nat.zero_le _,Nat.zero_le _,.inl (show(0:Int)≠4 by decide)⟩
 |true=>
  obtain⟨j,g1,g2,_,g4⟩:=scan_snd _ _ h1
  simp only[cond_true,cond_false]
  rw[g4]
  exact h.2 (Int.toNat j) (by omega)
noncomputable def g1163_m2(x1:Sl T175)(x2:ByteArray)(v1_0:Bool)(v1_1:Int):Bool:=(bif(!v1_0)then(!(Op.bytesLess (((x1.at' (Int.toNat v1_1)).c0:ByteArray).toList) ((x2:ByteArray).toList)))else false)
noncomputable def g1163_m3(x1:Sl T175)(x2:ByteArray)(x3:Int)(x4:ByteArray)(x5:Int)(x6:Sl T160)(x7:Sl ByteArray)(x8:Sl T164)(x9:Int)(v1_0:Bool)(v1_1:Int)(v1_2:Sl T175):Sl T175:=(bif(g1163_m2 x1 x2 v1_0 v1_1)then(Sl.app v1_2 (Sl.lit ([(⟨x2,x3,x4,x5,x6,x7,x8,x9⟩:T175)]:List T175)))else v1_2)
noncomputable def g1163_m4(x1:Sl T175)(x2:ByteArray)(v1_0:Bool)(v1_1:Int):Bool:=(bif(g1163_m2 x1 x2 v1_0 v1_1)then true else v1_0)
noncomputable def g1163_m5(x1:Sl T175)(x2:ByteArray)(x3:Int)(x4:ByteArray)(x5:Int)(x6:Sl T160)(x7:Sl ByteArray)(x8:Sl T164)(x9:Int)(v1_0:Bool)(v1_1:Int)(v1_2:Sl T175):Sl T175:=(bif(!(((x1.at' (Int.toNat v1_1)).c0:ByteArray).toList==(x2:ByteArray).toList))then(Sl.app (g1163_m3 x1 x2 x3 x4 x5 x6 x7 x8 x9 v1_0 v1_1 v1_2) (Sl.lit ([(x1.at' (Int.toNat v1_1))]:List T175)))else(g1163_m3 x1 x2 x3 x4 x5 x6 x7 x8 x9 v1_0 v1_1 v1_2))
noncomputable def g1163_l1(x1:Sl T175)(x2:ByteArray)(x3:Int)(x4:ByteArray)(x5:Int)(x6:Sl T160)(x7:Sl ByteArray)(x8:Sl T164)(x9:Int):Nat→Bool→Int→Sl T175→Bool×Sl T175
 |0,_,_,_=>default
 |k+1,v1_0,v1_1,v1_2=>(bif(decide (v1_1<(x1.n:Int)))then(g1163_l1 x1 x2 x3 x4 x5 x6 x7 x8 x9 k (g1163_m4 x1 x2 v1_0 v1_1) (IntKind.i64.wrap (v1_1+1)) (g1163_m5 x1 x2 x3 x4 x5 x6 x7 x8 x9 v1_0 v1_1 v1_2))else(v1_0,v1_2))
noncomputable def g1163_r6(x1:Sl T175)(x2:ByteArray)(x3:Int)(x4:ByteArray)(x5:Int)(x6:Sl T160)(x7:Sl ByteArray)(x8:Sl T164)(x9:Int):Bool×Sl T175:=g1163_l1 x1 x2 x3 x4 x5 x6 x7 x8 x9 ((Int.toNat (((x1.n:Nat):Int)-0))+1) (x3==0) 0 (nilSl:Sl T175)
noncomputable def g1163_m7(x1:Sl T175)(x2:ByteArray)(x3:Int)(x4:ByteArray)(x5:Int)(x6:Sl T160)(x7:Sl ByteArray)(x8:Sl T164)(x9:Int):Sl T175:=(bif(!(g1163_r6 x1 x2 x3 x4 x5 x6 x7 x8 x9).1)then(Sl.app (g1163_r6 x1 x2 x3 x4 x5 x6 x7 x8 x9).2 (Sl.lit ([(⟨x2,x3,x4,x5,x6,x7,x8,x9⟩:T175)]:List T175)))else(g1163_r6 x1 x2 x3 x4 x5 x6 x7 x8 x9).2)
noncomputable def g1163_0(x0:Int):Int:=x0
noncomputable def g1163_1(x1:Sl T175)(x2:ByteArray)(x3:Int)(x4:ByteArray)(x5:Int)(x6:Sl T160)(x7:Sl ByteArray)(x8:Sl T164)(x9:Int):Sl T175:=(g1163_m7 x1 x2 x3 x4 x5 x6 x7 x8 x9)
theorem n1163a(x1:Sl T175)(x2:ByteArray)(x3:Int)(x4:ByteArray)(x5:Int)(x6:Sl T160)(x7:Sl ByteArray)(x8:Sl T164)(x9:Int)(b:Bool)(i:Int)(s:Sl T175):(((g1163_m3 x1 x2 x3 x4 x5 x6 x7 x8 x9 b i s).n:Nat):Int)≤s.n+1:=by
 unfold g1163_m3;cases g1163_m2 x1 x2 b i
 ·show((s.n:Nat):Int)≤_;omega
 ·show(((s.n+1:Nat)):Int)≤_;omega
theorem n1163b(x1:Sl T175)(x2:ByteArray)(x3:Int)(x4:ByteArray)(x5:Int)(x6:Sl T160)(x7:Sl ByteArray)(x8:Sl T164)(x9:Int)(b:Bool)(i:Int)(s:Sl T175):(((g1163_m5 x1 x2 x3 x4 x5 x6 x7 x8 x9 b i s).n:Nat):Int)≤s.n+2:=by
 have:=n1163a x1 x2 x3 x4 x5 x6 x7 x8 x9 b i s
 unfold g1163_m5;cases (!(((x1.at' (Int.toNat i)).c0:ByteArray).toList==(x2:ByteArray).toList))
 ·show(((g1163_m3 x1 x2 x3 x4 x5 x6 x7 x8 x9 b i s).n:Nat):Int)≤_;omega
 ·show((((g1163_m3 x1 x2 x3 x4 x5 x6 x7 x8 x9 b i s).n+1:Nat)):Int)≤_;omega
noncomputable def F1163:Fq:=⟨[.g [kI,.sl E175],.v kS,.g [kI,kS,kI,.sl E160,.sl E9,.sl E164],.v kI],fun(x0:Int) x1 x2 (x3:Int) x4 (x5:Int) x6 x7 x8 (x9:Int)=>⟨⟨some (x1.n≤1000000),.agg [.int .i64 (g1163_0 x0),ofSl 8 e175 (g1163_1 x1 x2 x3 x4 x5 x6 x7 x8 x9)]⟩⟩⟩
theorem pc1163:FnOk Tryz.prog 90 F1163.sh _ (F1163.sh.flatMap Sh.bs) F1163.f []:=
 fun(x0:Int) x1 n1 _ x2 n2 (x3:Int) x4 n4 (x5:Int) x6 n6 _ x7 n7 _ x8 n8 _ (x9:Int) hp=>pure_of_exec (X:=X0) (R:=⟨.pure,[.cell 8 24],[(.c 0 0,kI),(.c 0 1,.sl E175)],⟨[.agg (us 2 [])],[]⟩⟩) (h:=(.s .z (.s .z (.s .z (.s .z (.j ⟨3840,[],[],[],.f⟩ (.s .z (.lp ⟨7954,[.b 1],[(.h 3 1,E175)],[(.t 11,kB),(.t 12,kI),(.h 5 0,.blk E175)],some 0,false,3840,[.b 0],[(.t 11,kB),(.h 5 0,.blk E175)],fun k (s:Bool×Int×Sl T175)=>g1163_l1 x1 x2 x3 x4 x5 x6 x7 x8 x9 k s.1 s.2.1 s.2.2,.f,fun(s:Bool×Int×Sl T175)=>(0≤s.2.1∧s.2.1≤((x1.n:Nat):Int)∧((s.2.2.n:Nat):Int)≤2*s.2.1),fun(s:Bool×Int×Sl T175)=>(Int.toNat (((x1.n:Nat):Int)-s.2.1)),some fun(r:Bool×Sl T175)=>(((r.2.n:Nat):Int)≤2000000)⟩ (.s .z (.j ⟨71778325860720402,[.b 6],[(.h 5 0,.blk E175)],[],.f⟩ (.j ⟨2206799503122,[.b 6],[(.h 5 0,.blk E175),(.t 11,kB)],[],.f⟩ (.j ⟨2206799503122,[],[(.t 32,kB),(.t 41,kB)],[],.f⟩ .z .z) .z) .z)))) (.j ⟨768,[.b 4,.b 6],[(.h 5 0,.blk E175)],[],.f⟩ .z .z))))))) (ms:=[]) (p:=((((0≤(0:Int)∧(0:Int)≤((x1.n:Nat):Int)∧((0:Nat):Int)≤2*(0:Int)))∧(∀(v1_0:Bool) (v1_1:Int) (v1_2:Sl T175),(0≤v1_1∧v1_1≤((x1.n:Nat):Int)∧((v1_2.n:Nat):Int)≤2*v1_1)→(((decide (v1_1<(x1.n:Int)))=true→((((!v1_0)=true→((0:Int)≤v1_1∧v1_1<((x1.n:Nat):Int)))∧((g1163_m2 x1 x2 v1_0 v1_1)=true→(v1_2.n+1≤549755813888)))∧(((0:Int)≤v1_1∧v1_1<((x1.n:Nat):Int))∧((!(((x1.at' (Int.toNat v1_1)).c0:ByteArray).toList==(x2:ByteArray).toList))=true→(((0:Int)≤v1_1∧v1_1<((x1.n:Nat):Int))∧((g1163_m3 x1 x2 x3 x4 x5 x6 x7 x8 x9 v1_0 v1_1 v1_2).n+1≤549755813888))))))∧(((decide (v1_1<(x1.n:Int)))=true→((0≤(IntKind.i64.wrap (v1_1+1))∧(IntKind.i64.wrap (v1_1+1))≤((x1.n:Nat):Int)∧(((g1163_m5 x1 x2 x3 x4 x5 x6 x7 x8 x9 v1_0 v1_1 v1_2).n:Nat):Int)≤2*(IntKind.i64.wrap (v1_1+1)))∧(Int.toNat (((x1.n:Nat):Int)- (IntKind.i64.wrap (v1_1+1))))<(Int.toNat (((x1.n:Nat):Int)-v1_1))))∧((decide (v1_1<(x1.n:Int)))=false→((((v1_2.n:Nat):Int)≤2000000)))))))∧((((((g1163_r6 x1 x2 x3 x4 x5 x6 x7 x8 x9).2.n:Nat):Int)≤2000000))→((!(g1163_r6 x1 x2 x3 x4 x5 x6 x7 x8 x9).1)=true→((g1163_r6 x1 x2 x3 x4 x5 x6 x7 x8 x9).2.n+1≤549755813888))))) X0_ok Tryz.func90 rfl rfl (by kernel_rfl) (⟨⟨(by omega),(fun v1_0 v1_1 v1_2 hI1=>⟨(fun h2=>⟨⟨(fun h3=>(by have:=of_decide_eq_true h2;omega)),(fun h4=>(by have:=of_decide_eq_true h2;have:=h4;(try simp [g1163_m2]at this);omega))⟩,⟨(by have:=of_decide_eq_true h2;omega),(fun h5=>⟨(by have:=of_decide_eq_true h2;omega),(by have:=of_decide_eq_true h2;have:=n1163a x1 x2 x3 x4 x5 x6 x7 x8 x9 v1_0 v1_1 v1_2;omega)⟩)⟩⟩),⟨(fun h6=>(by have:=of_decide_eq_true h6;have:=n1163b x1 x2 x3 x4 x5 x6 x7 x8 x9 v1_0 v1_1 v1_2;first|omega|(have:=wrap64 (x:=(v1_1+1)) (by omega) (by omega);omega))),(fun h7=>(by have:=of_decide_eq_false h7;omega))⟩⟩)⟩,(fun hF8=>(fun h9=>(by omega)))⟩)
theorem k1163:XOk Tryz.prog 90 F1163.ans:=Fq.ok ⟨_,_,Tryz.func90,rfl,by kernel_rfl⟩ pc1163
end Go.Proofs.YtfbpilmhnpkfhaaGreatDoor
/-
  A store's keys: the search against the reference's loops.
-/
namespace Go.Proofs.YtfbpilmhnpkfhaaGreatDoor
open Go Go.Vc Go.RowKit
set_option maxRecDepth 100000
set_option maxHeartbeats 4000000
theorem z1151(a b:ByteArray):(g1151 a b==0)=(a.toList==b.toList):=cmp_zero a b
theorem findK{s:Sl T175}{k:ByteArray}{t:Nat}(hn:s.n≤1048576)(h:Spot s.n (fun i=>(s.at' i).c0) k t):g1150_1151_0 s k=t∧g1150_1151_1 s k=(decide (t<s.n)&&((s.at' t).c0.toList==k.toList)):=by
 have e:g1150_1151_r1 s k=t:=by
  unfold g1150_1151_r1
  rw[b1150_1151]
  exact bs_all hn (fun m hm=>(neg_of (show decide (g1151 _ _≥0)=_ from c139 _ _)).trans (h.lt m hm)) h.le
 refine⟨e,?_⟩
 unfold g1150_1151_1 g1150_1151_m2
 rw[e,Int.toNat_natCast,z1151]
 rw[show decide ((t:Int)<(s.n:Int))=decide (t<s.n) by simp]
 cases decide (t<s.n)<;>rfl
theorem runK(s:Sl T175)(k:ByteArray)(x3:Int)(x4:ByteArray)(x5:Int)(x6:Sl T160)(x7:Sl ByteArray)(x8:Sl T164)(x9:Int)(hn:s.n≤1048576):((g1163_r6 s k x3 x4 x5 x6 x7 x8 x9).1,(g1163_r6 s k x3 x4 x5 x6 x7 x8 x9).2.B)=
  (fun r:Bool×Unit×Bool×List T175=>((x3==0)||r.2.2.1,r.2.2.2)) (s.B.foldl (fun st a=>lstep (x3 !=0) (⟨k,x3,x4,x5,x6,x7,x8,x9⟩:T175) (fun a=>Op.bytesLess a.c0.toList k.toList) (fun a=>a.c0.toList==k.toList) (fun _=>()) a st) (false,(),false,[])):=by
 have h:=fold0 (fun n i (st:Bool×Sl T175)=>g1163_l1 s k x3 x4 x5 x6 x7 x8 x9 n st.1 i st.2) s.n (fun j st=>(g1163_m4 s k st.1 (j:Int),g1163_m5 s k x3 x4 x5 x6 x7 x8 x9 st.1 (j:Int) st.2)) id (by omega) (fun n i st=>by
  show(bif decide (i<(s.n:Int))then _ else _)=_
  cases e:decide (i<(s.n:Int))with
  |false=>rfl
  |true=>
   simp only[cond_true,g1163_m4,g1163_m5,g1163_m3,g1163_m2,Int.toNat_natCast]) ((x3==0),nilSl)
 rw[←foldB s]
 have h2:g1163_r6 s k x3 x4 x5 x6 x7 x8 x9=_:=h
 rw[h2]
 have key: ∀(l:List Nat) (a:Bool×Sl T175) (b:Bool×Unit×Bool×List T175),(a.1,a.2.B)=((x3==0)||b.2.2.1,b.2.2.2)→
   (fun a:Bool×Sl T175=>(a.1,a.2.B)) (l.foldl (fun st (j:Nat)=>(g1163_m4 s k st.1 (j:Int),g1163_m5 s k x3 x4 x5 x6 x7 x8 x9 st.1 (j:Int) st.2)) a)=
   (fun r:Bool×Unit×Bool×List T175=>((x3==0)||r.2.2.1,r.2.2.2)) (l.foldl (fun st (j:Nat)=>lstep (x3 !=0) (⟨k,x3,x4,x5,x6,x7,x8,x9⟩:T175) (fun a=>Op.bytesLess a.c0.toList k.toList) (fun a=>a.c0.toList==k.toList) (fun _=>()) (s.at' j) st) b):=by
  intro l
  induction l with
  |nil=>intro a b hab;exact hab
  |cons j l ih=>
   intro a b hab
   rw[List.foldl_cons,List.foldl_cons]
   refine ih _ _ ?_
   simp only[Prod.mk.injEq]at hab
   obtain⟨h1,h2⟩:=hab
   simp only[lstep,g1163_m4,g1163_m5,g1163_m3,g1163_m2,Int.toNat_natCast]
   rw[h1,←h2]
   have hne:(x3 !=0)= !(x3==0):=rfl
   rw[hne]
   cases (x3==0)<;>cases b.2.2.1<;>cases Op.bytesLess (s.at' j).c0.toList k.toList<;>cases ((s.at' j).c0.toList==k.toList)<;>simp [B_app,B_lit]
 exact key _ _ _ (by simp [B_nil])
theorem lookK(s:Sl T175)(k:ByteArray){t:Nat}(hn:s.n≤1048576)(h:Spot s.n (fun i=>(s.at' i).c0) k t):g1162_r1 s k=bif(decide (t<s.n)&&((s.at' t).c0.toList==k.toList))then(true,(s.at' t).c1,(s.at' t).c2,(s.at' t).c3,(s.at' t).c4,(s.at' t).c5,(s.at' t).c6,(s.at' t).c7)else(false,default,default,default,default,default,default,default):=by
 have key: ∀(m fu i:Nat),i+m=s.n→m≤fu→i≤t→g1162_l1 s k (fu+1) (i:Int)=bif(decide (t<s.n)&&((s.at' t).c0.toList==k.toList))then(true,(s.at' t).c1,(s.at' t).c2,(s.at' t).c3,(s.at' t).c4,(s.at' t).c5,(s.at' t).c6,(s.at' t).c7)else(false,default,default,default,default,default,default,default):=by
  have late: ∀(m fu i:Nat),i+m=s.n→m≤fu→t<i→g1162_l1 s k (fu+1) (i:Int)=(false,default,default,default,default,default,default,default):=by
   intro m
   induction m with
   |zero=>
    intro fu i hi _ _
    show(bif decide ((i:Int)<(s.n:Int))then _ else _)=_
    rw[decide_eq_false (by omega)];rfl
   |succ m ih=>
    intro fu i hi hf ht
    obtain⟨fu,rfl⟩: ∃q,fu=q+1:=⟨fu-1,by omega⟩
    show(bif decide ((i:Int)<(s.n:Int))then _ else _)=_
    rw[decide_eq_true (by omega)]
    simp only[cond_true,Int.toNat_natCast]
    rw[h.ne i (by omega) (by omega)]
    simp only[cond_false]
    rw[wrap64 (by omega) (by omega)]
    exact ih fu (i+1) (by omega) (by omega) (by omega)
  intro m
  induction m with
  |zero=>
   intro fu i hi _ hit
   show(bif decide ((i:Int)<(s.n:Int))then _ else _)=_
   rw[decide_eq_false (by omega),decide_eq_false (by omega)];rfl
  |succ m ih=>
   intro fu i hi hf hit
   obtain⟨fu,rfl⟩: ∃q,fu=q+1:=⟨fu-1,by omega⟩
   show(bif decide ((i:Int)<(s.n:Int))then _ else _)=_
   rw[decide_eq_true (by omega)]
   simp only[cond_true,Int.toNat_natCast]
   by_cases e:i=t
   ·subst e
    rw[decide_eq_true (show i<s.n by omega)]
    simp only[Bool.true_and]
    cases e2:((s.at' i).c0.toList==k.toList)with
    |true=>rfl
    |false=>
     simp only[cond_false]
     rw[wrap64 (by omega) (by omega)]
     exact late m fu (i+1) (by omega) (by omega) (by omega)
   ·rw[h.ne i (by omega) e]
    simp only[cond_false]
    rw[wrap64 (by omega) (by omega)]
    exact ih fu (i+1) (by omega) (by omega) (by omega)
 exact key s.n (Int.toNat ((s.n:Int)-0)) 0 (by omega) (by omega) (Nat.zero_le _)
structure KeyAt (s:Sl T175) (k:ByteArray) (t:Nat) (f:Bool):Prop where
 le:t≤s.n
 hit:f=true→t<s.n∧(s.at' t).c0=k
 i0:g1150_1151_0 s k=t
 i1:g1150_1151_1 s k=f
 look:g1162_r1 s k=bif f then(true,(s.at' t).c1,(s.at' t).c2,(s.at' t).c3,(s.at' t).c4,(s.at' t).c5,(s.at' t).c6,(s.at' t).c7)else(false,default,default,default,default,default,default,default)
 out: ∀(x4:ByteArray) (x5:Int) (x6:Sl T160) (x7:Sl ByteArray) (x8:Sl T164) (x9:Int),(g1163_1 s k 0 x4 x5 x6 x7 x8 x9).B=bif f then s.B.take t++s.B.drop (t+1)else s.B
 put: ∀(x3:Int) (x4:ByteArray) (x5:Int) (x6:Sl T160) (x7:Sl ByteArray) (x8:Sl T164) (x9:Int),x3≠0→(g1163_1 s k x3 x4 x5 x6 x7 x8 x9).B=s.B.take t++⟨k,x3,x4,x5,x6,x7,x8,x9⟩::s.B.drop (bif f then t+1 else t)
theorem keyAt(s:Sl T175)(k:ByteArray)(hn:s.n≤1048576){t:Nat}(hs:Spot s.n (fun i=>(s.at' i).c0) k t):KeyAt s k t (decide (t<s.n)&&((s.at' t).c0.toList==k.toList)):=by
 obtain⟨e0,e1⟩:=findK hn hs
 have hf:(decide (t<s.n)&&((s.at' t).c0.toList==k.toList))=(s.B[t]?).any (fun a=>a.c0.toList==k.toList):=by
  rw[B_some]
  by_cases h:t<s.n
  ·simp [h]
  ·simp [h]
 have h:=fun(x3:Int) (x4:ByteArray) (x5:Int) (x6:Sl T160) (x7:Sl ByteArray) (x8:Sl T164) (x9:Int)=>finL (op:=x3 !=0) (new:=(⟨k,x3,x4,x5,x6,x7,x8,x9⟩:T175)) (lt:=fun a=>Op.bytesLess a.c0.toList k.toList) (eq:=fun a=>a.c0.toList==k.toList) (val:=fun _=>()) s.B t () _ _ rfl
  (by rw[B_len];exact hs.le) (fun a ha=>by
   obtain⟨i,h1,h2,rfl⟩:=mem_take s ha
   exact⟨(hs.lt i h1).trans (decide_eq_true h2),hs.ne i h1 (by omega)⟩) (fun a ha=>by
   obtain⟨i,h1,h2,rfl⟩:=mem_drop s ha
   exact hs.ne i h1 (by omega)) (fun y hy=>by
   rw[B_some]at hy
   split at hy
   ·rename_i ht
    cases hy
    exact(hs.lt t ht).trans (decide_eq_false (by omega))
   ·cases hy) hf
 refine⟨hs.le,fun hh=> ?_,e0,e1,lookK s k hn hs,fun x4 x5 x6 x7 x8 x9=> ?_,fun x3 x4 x5 x6 x7 x8 x9 hx=> ?_⟩
 ·rw[Bool.and_eq_true]at hh
  exact⟨of_decide_eq_true hh.1,ba_ext (eq_of_beq hh.2)⟩
 ·have r:=runK s k 0 x4 x5 x6 x7 x8 x9 hn
  simp only[Prod.mk.injEq]at r
  have r1:(g1163_r6 s k 0 x4 x5 x6 x7 x8 x9).1=true:=r.1
  unfold g1163_1 g1163_m7
  rw[r1]
  exact r.2.trans ((h 0 x4 x5 x6 x7 x8 x9).2.2.1 rfl)
 ·have r:=runK s k x3 x4 x5 x6 x7 x8 x9 hn
  have h3:(x3==0)=false:=beq_eq_false_iff_ne.2 hx
  simp only[h3,Bool.false_or,Prod.mk.injEq]at r
  rw[←(h x3 x4 x5 x6 x7 x8 x9).2.2.2 (bne_iff_ne.2 hx)]
  unfold g1163_1 g1163_m7
  rw[←r.1,←r.2]
  cases (g1163_r6 s k x3 x4 x5 x6 x7 x8 x9).1
  ·simp [B_app,B_lit]
  ·rfl
theorem nB'{α:Type}{s t:Sl α}(h:s.B=t.B):s.n=t.n:=by rw[←B_len s,←B_len t,h]
theorem at_of_B{α:Type}{s t:Sl α}(h:s.B=t.B){i:Nat}(hi:i<s.n):s.at' i=t.at' i:=by
 have h1:=B_some s i
 rw[h,B_some,if_pos hi,if_pos (by rw[←nB' h];exact hi)]at h1
 exact(Option.some.inj h1).symm
end Go.Proofs.YtfbpilmhnpkfhaaGreatDoor
/-
  Lists and ranks: the reference's loops against the program's steps.
-/
namespace Go.Proofs.YtfbpilmhnpkfhaaGreatDoor
open Go Go.Vc Go.RowKit
set_option maxRecDepth 100000
set_option maxHeartbeats 4000000
theorem foldN{σ ρ:Type}(F:Nat→Int→σ→ρ)(n:Nat)(step:Nat→σ→σ)(out:σ→ρ)(hn:n≤549755813888)(hF: ∀k (i:Nat) s,F (k+1) (i:Int) s=bif decide ((i:Int)<(n:Int))then F k (IntKind.i64.wrap ((i:Int)+1)) (step i s)else out s):
  ∀(m k i:Nat) (s:σ),i+m=n→m≤k→F (k+1) (i:Int) s=out ((List.range' i m).foldl (fun s j=>step j s) s)
 |0,k,i,s,hi,_=>by
  rw[hF,show decide ((i:Int)<(n:Int))=false by simp;omega];rfl
 |m+1,k,i,s,hi,hk=>by
  obtain⟨k,rfl⟩: ∃k',k=k'+1:=⟨k-1,by omega⟩
  rw[hF,show decide ((i:Int)<(n:Int))=true by simp;omega]
  simp only[cond_true]
  rw[wrap64 (x:=(i:Int)+1) (by omega) (by omega)]
  have:=foldN F n step out hn hF m k (i+1) (step i s) (by omega) (by omega)
  rw[show(((i+1:Nat)):Int)=(i:Int)+1 by omega]at this
  rw[this]
  rfl
theorem foldN0{σ ρ:Type}(F:Nat→Int→σ→ρ)(n:Nat)(step:Nat→σ→σ)(out:σ→ρ)(hn:n≤549755813888)(hF: ∀k (i:Nat) s,F (k+1) (i:Int) s=bif decide ((i:Int)<(n:Int))then F k (IntKind.i64.wrap ((i:Int)+1)) (step i s)else out s)(s:σ):
  F (Int.toNat ((n:Int)-0)+1) 0 s=out ((List.range n).foldl (fun s j=>step j s) s):=by
 have:=foldN F n step out hn hF n (Int.toNat ((n:Int)-0)) 0 s (by omega) (by omega)
 rw[List.range_eq_range'];exact this
section
variable {α γ:Type}
theorem foldMap(f:α→γ): ∀(l:List α) (a:List γ),l.foldl (fun b x=>b++[f x]) a=a++l.map f
 |[],a=>by simp
 |x::l,a=>by rw[List.foldl_cons,foldMap f l];simp
theorem mapB[Inhabited γ](F:Nat→Int→Sl γ→Sl γ)(s:Sl α)(f:α→γ)(hn:s.n≤549755813888)(hF: ∀k i a,F (k+1) i a=bif decide (i<(s.n:Int))then F k (IntKind.i64.wrap (i+1)) (Sl.app a (Sl.lit [f (s.at' (Int.toNat i))]))else a)(a:Sl γ):
  (F (Int.toNat ((s.n:Int)-0)+1) 0 a).B=a.B++s.B.map f:=by
 rw[fold0 F s.n (fun j a=>Sl.app a (Sl.lit [f (s.at' j)])) id hn (fun k i a=>hF k i a) a]
 rw[←foldMap f s.B a.B,←foldB s (fun x b=>b++[f x])]
 exact(List.foldl_hom Sl.B fun st j=>by rw[B_app,B_lit]).symm
theorem foldSkip(f:Nat→α)(m:Int): ∀(l:List Nat) (a:List α),(∀j∈l,(j:Int)≠m)→l.foldl (fun b (j:Nat)=>bif((j:Int)!=m)then b++[f j]else b) a=a++l.map f
 |[],a,_=>by simp
 |x::l,a,h=>by
  have e:((x:Int)!=m)=true:=by simpa[bne_iff_ne]using h x (List.mem_cons_self ..)
  rw[List.foldl_cons,e]
  simp only[cond_true]
  rw[foldSkip f m l _ fun j hj=>h j (List.mem_cons_of_mem _ hj)];simp
theorem range_cut{n m:Nat}(h:m<n):List.range n=(List.range n).take m++m::(List.range n).drop (m+1):=by
 have h1:m<(List.range n).length:=by simpa using h
 have h2:=List.drop_eq_getElem_cons h1
 rw[List.getElem_range]at h2
 rw[←h2,List.take_append_drop]
theorem range_take{n m j:Nat}(h:j∈(List.range n).take m):j<m:=by
 obtain⟨i,hi,he⟩:=List.mem_take_iff_getElem.1 h
 rw[List.getElem_range]at he
 simp at hi
 omega
theorem range_drop{n m j:Nat}(h:j∈(List.range n).drop m):m≤j:=by
 obtain⟨i,hi,he⟩:=List.mem_drop_iff_getElem.1 h
 rw[List.getElem_range]at he
 omega
theorem B_take(s:Sl α)(m:Nat):s.B.take m=((List.range s.n).take m).map s.at':=by
 unfold Sl.B;rw[List.map_take]
theorem B_drop(s:Sl α)(m:Nat):s.B.drop m=((List.range s.n).drop m).map s.at':=by
 unfold Sl.B;rw[List.map_drop]
theorem skipB[Inhabited α](F:Nat→Int→Sl α→Sl α)(s:Sl α)(m:Nat)(hm:m<s.n)(hn:s.n≤549755813888)(hF: ∀k i a,F (k+1) i a=bif decide (i<(s.n:Int))then F k (IntKind.i64.wrap (i+1)) (bif(i !=(m:Int))then(Sl.app a (Sl.lit [s.at' (Int.toNat i)]))else a)else a):
  (F (Int.toNat ((s.n:Int)-0)+1) 0 nilSl).B=s.B.take m++s.B.drop (m+1):=by
 rw[foldN0 F s.n (fun j a=>bif((j:Int)!=(m:Int))then Sl.app a (Sl.lit [s.at' j])else a) id hn (fun k i a=>by
  rw[hF,Int.toNat_natCast];rfl) nilSl]
 have h:=(List.foldl_hom (l:=List.range s.n) (init:=(nilSl:Sl α)) (g₁:=fun a (j:Nat)=>bif((j:Int)!=(m:Int))then Sl.app a (Sl.lit [s.at' j])else a) (g₂:=fun b (j:Nat)=>bif((j:Int)!=(m:Int))then b++[s.at' j]else b) Sl.B fun st j=>by
  cases ((j:Int)!=(m:Int))<;>simp [B_app,B_lit]).symm
 refine h.trans ?_
 rw[range_cut hm,List.foldl_append,foldSkip s.at' m ((List.range s.n).take m) _ fun j hj=>by have:=range_take hj;omega]
 rw[List.foldl_cons,show(((m:Nat):Int)!=(m:Int))=false by simp]
 simp only[cond_false]
 rw[foldSkip s.at' m ((List.range s.n).drop (m+1)) _ fun j hj=>by have:=range_drop hj;omega]
 rw[←B_take,←B_drop,B_nil];rfl
end
theorem s221(s:Sl ByteArray)(x6:Int)(v:ByteArray)(hn:s.n≤1048576):(g221_r3 s x6 v).B=(g221_m2 x6 v).B++s.B:=by
 have:=mapB (g221_l6 s) s (fun x=>x) (by omega) (fun _ _ _=>rfl) (g221_m2 x6 v)
 rw[List.map_id']at this;exact this
theorem push7(s:Sl ByteArray)(v:ByteArray)(hn:s.n≤1048576):(g221_m4 s 7 v).B=s.B++[v]:=by
 show((g221_r3 s 7 v).app (Sl.lit [v])).B=_
 rw[B_app,B_lit,s221 s 7 v hn]
 show[]++s.B++[v]=_
 simp
theorem push8(s:Sl ByteArray)(v:ByteArray)(hn:s.n≤1048576):(g221_m4 s 8 v).B=v::s.B:=by
 show(g221_r3 s 8 v).B=_
 rw[s221 s 8 v hn]
 show(Sl.lit [v]).B++s.B=_
 rw[B_lit];rfl
theorem pop(s:Sl ByteArray)(x6:Int)(m:Nat)(hm:m<s.n)(hn:s.n≤1048576)(e:g221_m5 s x6=m):(g221_r7 s x6).B=s.B.take m++s.B.drop (m+1):=by
 refine skipB (g221_l16 s x6) s m hm (by omega) fun k i a=> ?_
 show(bif decide (i<(s.n:Int))then g221_l16 s x6 k (IntKind.i64.wrap (i+1)) (g221_m6 s x6 i a)else a)=_
 unfold g221_m6
 rw[e]
theorem show18(x3:Sl T160)(x4:Sl ByteArray)(x5:Sl T164)(h3:x3.n≤1048576)(h4:x4.n≤1048576)(h5:x5.n≤1048576):(g214 x3 x4 x5).B=(g190_r7 x3 x4 x5).B:=by
 have a1:=mapB (g214_l1 x3) x3 (fun x=>x.c0) (by omega) (fun _ _ _=>rfl) x4
 have a2:=mapB (g214_l6 x5) x5 (fun x=>x.c0) (by omega) (fun _ _ _=>rfl) (g214_r1 x3 x4)
 have b0:=mapB (g190_l20 x4) x4 (fun x=>x) (by omega) (fun _ _ _=>rfl) (nilSl:Sl ByteArray)
 have b1:=mapB (g190_l26 x3) x3 (fun x=>x.c0) (by omega) (fun _ _ _=>rfl) (g190_r5 x4)
 have b2:=mapB (g190_l31 x5) x5 (fun x=>x.c0) (by omega) (fun _ _ _=>rfl) (g190_r6 x3 x4)
 refine a2.trans (Eq.trans ?_ b2.symm)
 rw[show(g190_r6 x3 x4).B=_ from b1,show(g190_r5 x4).B=_ from b0,show(g214_r1 x3 x4).B=_ from a1]
 simp [B_nil]
theorem above_trans{a:ByteArray}{x:Int}{b:ByteArray}{y:Int}{c:ByteArray}{z:Int}(h1:g146 a x b y=true)(h2:g146 b y c z=true):g146 a x c z=true:=by
 unfold g146 at h1 h2 ⊢
 by_cases e1:x=y
 ·subst e1
  rw[show(x !=x)=false by simp]at h1
  by_cases e2:x=z
  ·subst e2
   rw[show(x !=x)=false by simp]at h2 ⊢
   exact less_trans h1 h2
  ·rw[show(x !=z)=true by simpa using e2]at h2 ⊢
   exact h2
 ·rw[show(x !=y)=true by simpa using e1]at h1
  have h1:=of_decide_eq_true h1
  by_cases e2:y=z
  ·subst e2
   rw[show(x !=y)=true by simpa using e1]
   exact decide_eq_true h1
  ·rw[show(y !=z)=true by simpa using e2]at h2
   have h2:=of_decide_eq_true h2
   rw[show(x !=z)=true by simp;omega]
   exact decide_eq_true (show x<z by omega)
theorem above_tot{a:ByteArray}{x:Int}{b:ByteArray}{y:Int}(h:(a.toList==b.toList)=false):g146 a x b y= !(g146 b y a x):=by
 unfold g146
 by_cases e1:x=y
 ·subst e1
  rw[show(x !=x)=false by simp]
  simp only[cond_false]
  cases h1:Op.bytesLess a.toList b.toList with
  |true=>
   cases h2:Op.bytesLess b.toList a.toList with
   |true=>have:=less_trans h1 h2;rw[less_irr]at this;cases this
   |false=>rfl
  |false=>
   cases h2:Op.bytesLess b.toList a.toList with
   |true=>rfl
   |false=>rw[less_tri h1 h2]at h;simp at h
 ·rw[show(x !=y)=true by simpa using e1,show(y !=x)=true by simpa using fun e=>e1 e.symm]
  simp only[cond_true]
  by_cases h1:x<y
  ·have: ¬(y<x):=by omega
   simp [h1,this]
  ·have:y<x:=by omega
   simp [h1,this]
theorem eq144(s:Sl T164)(k:ByteArray)(hn:s.n≤1048576):g144 s k=g147 s k:=by
 have e1:g197_201s_r1 s k=scan (fun i=>(s.at' (Int.toNat i)).c0.toList==k.toList) (fun i=>i) s.n 0:=scan0 (fun n i=>g197_201s_l1 s k n i) s.n _ _ (by omega) fun _ _=>rfl
 have e2:g147_r1 s k=scan (fun i=>(s.at' (Int.toNat i)).c0.toList==k.toList) (fun i=>i) s.n 0:=scan0 (fun n i=>g147_l1 s k n i) s.n _ _ (by omega) fun _ _=>rfl
 unfold g144 g197_201s g197_201s_p2 g147 g147_p2
 rw[e1,e2]
theorem at147(s:Sl T164)(k:ByteArray)(hn:s.n≤1048576)(hu: ∀i j,i<j→j<s.n→((s.at' i).c0.toList==(s.at' j).c0.toList)=false):
  (g147 s k= -1∧ ∀i,i<s.n→((s.at' i).c0.toList==k.toList)=false)∨ ∃j:Nat,g147 s k=j∧j<s.n∧ ∀i,i<s.n→i≠j→((s.at' i).c0.toList==k.toList)=false:=by
 have e2:g147_r1 s k=scan (fun i=>(s.at' (Int.toNat i)).c0.toList==k.toList) (fun i=>i) s.n 0:=scan0 (fun n i=>g147_l1 s k n i) s.n _ _ (by omega) fun _ _=>rfl
 unfold g147 g147_p2
 rw[e2]
 cases h:(scan (fun i=>(s.at' (Int.toNat i)).c0.toList==k.toList) (fun i=>i) s.n 0).1 with
 |false=>
  refine .inl ⟨rfl,fun i hi=> ?_⟩
  have:=scan_none _ _ h (i:Int) (by omega) (by omega)
  simpa using this
 |true=>
  obtain⟨j,h1,h2,h3,h4⟩:=scan_snd _ _ h
  refine .inr ⟨j.toNat,?_,by omega,fun i hi hne=> ?_⟩
  ·show(scan _ _ _ _).2=_
   rw[h4];omega
  ·have h3:=eq_of_beq h3
   rw[←h3]
   rcases Nat.lt_or_ge i j.toNat with g|g
   ·exact hu i j.toNat g (by omega)
   ·have:=hu j.toNat i (by omega) hi
    rw[beq_eq_false_iff_ne]at this ⊢
    exact fun e=>this e.symm
end Go.Proofs.YtfbpilmhnpkfhaaGreatDoor
/-
  Ranks.
-/
namespace Go.Proofs.YtfbpilmhnpkfhaaGreatDoor
open Go Go.Vc Go.RowKit
set_option maxRecDepth 100000
set_option maxHeartbeats 4000000
theorem foldRel{α σ τ:Type}(f:Nat→α)(g:Nat→σ→σ)(abs:σ→τ)(h:α→τ→τ): ∀(l:List Nat) (st:σ),(∀j∈l,∀st,abs (g j st)=h (f j) (abs st))→abs (l.foldl (fun st j=>g j st) st)=(l.map f).foldl (fun t a=>h a t) (abs st)
 |[],_,_=>rfl
 |j::l,st,hs=>by
  rw[List.foldl_cons,foldRel f g abs h l _ fun i hi=>hs i (List.mem_cons_of_mem _ hi),hs j (List.mem_cons_self ..)]
  rfl
noncomputable def without(s:Sl T164)(k:ByteArray):List T164:=bif decide (g147 s k≥0)then s.B.take (g147 s k).toNat++s.B.drop ((g147 s k).toNat+1)else s.B
def Uniq(s:Sl T164):Prop:= ∀i j,i<j→j<s.n→((s.at' i).c0.toList==(s.at' j).c0.toList)=false
theorem wo218(s:Sl T164)(k:ByteArray)(hn:s.n≤1048576)(hu:Uniq s):(g218_m3 k s).B=without s k:=by
 unfold g218_m3 without
 rw[eq144 s k hn]
 rcases at147 s k hn hu with⟨e,_⟩|⟨j,e,hj,_⟩
 ·rw[e];rfl
 ·rw[e,show decide ((j:Int)≥0)=true from decide_eq_true (by omega)]
  simp only[cond_true]
  rw[wrap64 (x:=(j:Int)+1) (by omega) (by omega),show Int.toNat ((j:Int)+1)=j+1 by omega,Int.toNat_natCast,B_del s j hj]
noncomputable abbrev rstep(k:ByteArray)(v:Int)(a:T164)(st:Bool×Unit×Bool×List T164):=lstep true (⟨k,v⟩:T164) (fun a=> !(g146 k v a.c0 a.c1)) (fun _=>false) (fun _=>()) a st
theorem run5(s:Sl T164)(x6:Int)(k:ByteArray)(v:Int)(hn:s.n≤1048576)(hu:Uniq s):
  (false,(),(g223_r7 s x6 k v).1,(g223_r7 s x6 k v).2.B)=(without s k).foldl (fun st a=>rstep k v a st) (false,(),(x6==15),[]):=by
 have h:=foldN0 (fun n i (st:Bool×Sl T164)=>g223_l3 s k v n st.1 i st.2) s.n (fun j st=>(g223_m6 s k v st.1 (j:Int),g223_m5 s k v st.1 (j:Int) st.2)) id (by omega) (fun n i st=>rfl) ((x6==15),nilSl)
 have h2:g223_r7 s x6 k v=_:=h
 rw[h2]
 have hstep: ∀j:Nat,(j:Int)≠g147 s k→ ∀st:Bool×Sl T164,(fun st:Bool×Sl T164=>(false,(),st.1,st.2.B)) (g223_m6 s k v st.1 (j:Int),g223_m5 s k v st.1 (j:Int) st.2)=rstep k v (s.at' j) ((fun st:Bool×Sl T164=>(false,(),st.1,st.2.B)) st):=fun j hj st=>by
  have e:((j:Int)==g147 s k)=false:=beq_eq_false_iff_ne.2 hj
  simp only[lstep,g223_m6,g223_m5,g223_m4,g223_m3,g223_m2,e,cond_false,Int.toNat_natCast]
  cases st.1<;>cases g146 k v (s.at' j).c0 (s.at' j).c1<;>simp [B_app,B_lit]
 simp only[id]
 rcases at147 s k hn hu with⟨e,_⟩|⟨j,e,hj,_⟩
 ·have:=foldRel s.at' (fun j st=>(g223_m6 s k v st.1 (j:Int),g223_m5 s k v st.1 (j:Int) st.2)) (fun st:Bool×Sl T164=>(false,(),st.1,st.2.B)) (rstep k v) (List.range s.n) ((x6==15),nilSl) fun j _=>hstep j (by omega)
  refine this.trans ?_
  unfold without
  rw[e]
  rfl
 ·rw[range_cut hj,List.foldl_append,List.foldl_cons]
  have h1:=foldRel s.at' (fun j st=>(g223_m6 s k v st.1 (j:Int),g223_m5 s k v st.1 (j:Int) st.2)) (fun st:Bool×Sl T164=>(false,(),st.1,st.2.B)) (rstep k v) ((List.range s.n).take j) ((x6==15),nilSl) fun i hi=>hstep i (by have:=range_take hi;omega)
  generalize hA:((List.range s.n).take j).foldl (fun(st:Bool×Sl T164) (j:Nat)=>(g223_m6 s k v st.1 (j:Int),g223_m5 s k v st.1 (j:Int) st.2)) ((x6==15),nilSl)=A at h1 ⊢
  have e6:(g223_m6 s k v A.1 (j:Int),g223_m5 s k v A.1 (j:Int) A.2)=A:=by
   simp only[g223_m6,g223_m5]
   rw[show((j:Int)==g147 s k)=true from beq_iff_eq.2 e.symm]
   rfl
  rw[e6]
  have h3:=foldRel s.at' (fun j st=>(g223_m6 s k v st.1 (j:Int),g223_m5 s k v st.1 (j:Int) st.2)) (fun st:Bool×Sl T164=>(false,(),st.1,st.2.B)) (rstep k v) ((List.range s.n).drop (j+1)) A fun i hi=>hstep i (by have:=range_drop hi;omega)
  refine h3.trans ?_
  rw[h1]
  unfold without
  rw[e,show decide ((j:Int)≥0)=true from decide_eq_true (by omega)]
  simp only[cond_true]
  rw[Int.toNat_natCast,List.foldl_append,B_take,B_drop]
  rfl
theorem wo_mem{s:Sl T164}{k:ByteArray}(hn:s.n≤1048576)(hu:Uniq s){a:T164}(h:a∈without s k):(a.c0.toList==k.toList)=false:=by
 unfold without at h
 rcases at147 s k hn hu with⟨e,hk⟩|⟨j,e,hj,hk⟩
 ·rw[e]at h
  have h:a∈s.B:=h
  obtain⟨i,hi,rfl⟩: ∃i,i<s.n∧s.at' i=a:=by
   simpa[Sl.B]using h
  exact hk i hi
 ·rw[e,show decide ((j:Int)≥0)=true from decide_eq_true (by omega),Int.toNat_natCast]at h
  simp only[cond_true]at h
  rcases List.mem_append.1 h with h|h
  ·obtain⟨i,h1,h2,rfl⟩:=mem_take s h
   exact hk i h1 (by omega)
  ·obtain⟨i,h1,h2,rfl⟩:=mem_drop s h
   exact hk i h1 (by omega)
theorem wo_pair{s:Sl T164}{k:ByteArray}(hp:s.B.Pairwise fun a b=>g146 a.c0 a.c1 b.c0 b.c1=true):(without s k).Pairwise fun a b=>g146 a.c0 a.c1 b.c0 b.c1=true:=by
 unfold without
 cases decide (g147 s k≥0)
 ·exact hp
 ·refine hp.sublist ?_
  simp only[cond_true]
  have:=List.take_append_drop (g147 s k).toNat s.B
  conv=>rhs;rw[←this]
  refine List.Sublist.append (List.Sublist.refl _) ?_
  rw[←List.drop_drop]
  exact List.drop_sublist _ _
theorem wo_len(s:Sl T164)(k:ByteArray):(without s k).length≤s.n:=by
 unfold without
 cases decide (g147 s k≥0)
 ·simp [B_len]
 ·simp [B_len];omega
theorem rank(s:Sl T164)(k:ByteArray)(v:Int)(hn:s.n≤1048576)(hu:Uniq s)(hp:s.B.Pairwise fun a b=>g146 a.c0 a.c1 b.c0 b.c1=true):
  (g223_r7 s 15 k v).2.B=(g218_m3 k s).B∧
  ∃t:Nat,t≤(g218_m3 k s).n∧g236_141_0 (g218_m3 k s) k v=t∧(g223_m8 s 14 k v).B=(g218_m3 k s).B.take t++⟨k,v⟩::(g218_m3 k s).B.drop t:=by
 have hw:=wo218 s k hn hu
 have hq: ∀a∈without s k,g146 a.c0 a.c1 k v= !(g146 k v a.c0 a.c1):=fun a ha=>above_tot (wo_mem hn hu ha)
 have hpw:=wo_pair (k:=k) hp
 have hlen:=wo_len s k
 rw[←hw]at hq hpw hlen
 generalize hM:g218_m3 k s=M at hw hq hpw hlen ⊢
 have hl:M.n≤1048576:=by rw[B_len]at hlen;omega
 constructor
 ·have h1:=run5 s 15 k v hn hu
  rw[←hw,show((15:Int)==15)=true from rfl,lrun2 M.B _ _ _ _ (.inr rfl) (fun _ _=>rfl)]at h1
  exact(Prod.mk.inj (Prod.mk.inj (Prod.mk.inj h1).2).2).2
 ·have hat: ∀i,i<M.n→M.at' i∈M.B:=fun i hi=>by
   simp only[Sl.B,List.mem_map,List.mem_range];exact⟨i,hi,rfl⟩
  obtain⟨t,h1,h2⟩:=cutAt (fun m=>g146 (M.at' m).c0 (M.at' m).c1 k v) M.n fun i j a b c=>by
   have:=List.pairwise_iff_getElem.1 hpw i j (by rw[B_len];omega) (by rw[B_len];omega) a
   simp only[Sl.B,List.getElem_map,List.getElem_range]at this
   exact above_trans this c
  refine⟨t,h1,?_,?_⟩
  ·show g236_141_r1 M k v=t
   unfold g236_141_r1
   rw[b236_141]
   exact bs_all hl (fun m hm=>(neg_of (c141 _ _ _ _)).trans (h2 m hm)) h1
  ·have hr:=run5 s 14 k v hn hu
   rw[←hw]at hr
   have h:=finL (op:=true) (new:=(⟨k,v⟩:T164)) (lt:=fun a=> !(g146 k v a.c0 a.c1)) (eq:=fun _=>false) (val:=fun _=>()) M.B t () false _ hr
    (by rw[B_len];exact h1) (fun a ha=>by
     obtain⟨i,g1,g2,rfl⟩:=mem_take M ha
     refine⟨?_,rfl⟩
     rw[←hq _ (hat i g1)]
     exact(h2 i g1).trans (decide_eq_true g2)) (fun a _=>rfl) (fun y hy=>by
     rw[B_some]at hy
     split at hy
     ·rename_i ht
      cases hy
      show(!(g146 k v (M.at' t).c0 (M.at' t).c1))=false
      rw[←hq _ (hat t ht)]
      exact(h2 t ht).trans (decide_eq_false (by omega))
     ·cases hy) (by cases M.B[t]? <;>rfl)
   have h4:=h.2.2.2 rfl
   simp only[cond_false]at h4
   rw[←h4]
   unfold g223_m8
   cases (g223_r7 s 14 k v).1
   ·simp [B_app,B_lit]
   ·rfl
end Go.Proofs.YtfbpilmhnpkfhaaGreatDoor
/-
  One command on one value: the program's step against the reference's.
-/
namespace Go.Proofs.YtfbpilmhnpkfhaaGreatDoor
open Go Go.Vc Go.RowKit
set_option maxRecDepth 100000
set_option maxHeartbeats 4000000
structure Eqv (x0:Int) (x1:ByteArray) (x2:Int) (x3:Sl T160) (x4:Sl ByteArray) (x5:Sl T164) (x6:Int) (x8 x9:ByteArray) (x10:Int) (K:Int):Prop where
 e0:g188_0 x6 x8 x9 x10 K x2 x3 x4 x5=g190_m14 x2 x3 x4 x5 x6 x8 x9 x10
 e1:g188_1 x6 x8 x9 x10 K x1 x2 x3 x4 x5=g190_m15 x1 x3 x4 x6 x8 x9
 e2:g188_2 x6 x8 x9 x10 K x2 x3 x4 x5=g190_m16 x2 x3 x4 x5 x6 x8 x9 x10
 e3:(g188_3 x6 x8 x9 x10 K x2 x3 x4 x5).B=(g190_m17 x3 x4 x5 x6).B
 k0:g190_m14 x2 x3 x4 x5 x6 x8 x9 x10=0→g188_h0_0 x6 K=g190_m8 x0 x1 x2 x3 x4 x5 x6 x8 x9 x10
 k1:g190_m14 x2 x3 x4 x5 x6 x8 x9 x10=0→g188_h0_1 x6 x9 x1=g190_m9 x1 x3 x4 x5 x6 x8 x9 x10
 k2:g190_m14 x2 x3 x4 x5 x6 x8 x9 x10=0→g188_h0_2 x6 x10 x2=g190_m10 x2 x3 x4 x5 x6 x8 x9 x10
 k3:g190_m14 x2 x3 x4 x5 x6 x8 x9 x10=0→(g188_h0_3 x6 x8 x9 K x3).B=(g190_m11 x3 x4 x5 x6 x8 x9 x10).B
 k4:g190_m14 x2 x3 x4 x5 x6 x8 x9 x10=0→(g188_h0_4 x6 x9 K x4).B=(g190_m12 x3 x4 x5 x6 x8 x9 x10).B
 k5:g190_m14 x2 x3 x4 x5 x6 x8 x9 x10=0→(g188_h0_5 x6 x9 x10 K x5).B=(g190_m13 x3 x4 x5 x6 x8 x9 x10).B
structure Good (K:Int) (x1:ByteArray) (x2:Int) (x3:Sl T160) (x4:Sl ByteArray) (x5:Sl T164):Prop where
 t:K≠1→x1=⟨#[]⟩
 i:K≠2→x2=0
 a3:K≠3→x3.n=0
 a4:K≠4→K≠5→x4.n=0
 a5:K≠6→x5.n=0
 n3:x3.n≤20
 n4:x4.n≤20
 n5:x5.n≤20
 r3:Rise x3.n (fun i=>(x3.at' i).c0)
 r4:K≠4→Rise x4.n x4.at'
 u5:Uniq x5
 p5:x5.B.Pairwise fun a b=>g146 a.c0 a.c1 b.c0 b.c1=true
theorem B_z{α:Type}{s:Sl α}(h:s.n=0):s.B=[]:=by
 unfold Sl.B;rw[h];rfl
section
variable {x0:Int} {x1:ByteArray} {x2:Int} {x3:Sl T160} {x4:Sl ByteArray} {x5:Sl T164} {x8 x9:ByteArray} {x10:Int} {K:Int}
theorem ev1(_:g190_m3 x0 x1 x2 x3 x4 x5 1=K):Eqv x0 x1 x2 x3 x4 x5 1 x8 x9 x10 K:=
 ⟨rfl,rfl,rfl,rfl,fun _=>rfl,fun _=>rfl,fun _=>rfl,fun _=>rfl,fun _=>rfl,fun _=>rfl⟩
theorem ev2(hm:g190_m3 x0 x1 x2 x3 x4 x5 2=K):Eqv x0 x1 x2 x3 x4 x5 2 x8 x9 x10 K:=
 ⟨rfl,rfl,rfl,rfl,fun _=>hm.symm,fun _=>rfl,fun _=>rfl,fun _=>rfl,fun _=>rfl,fun _=>rfl⟩
theorem ev3(hm:g190_m3 x0 x1 x2 x3 x4 x5 3=K):Eqv x0 x1 x2 x3 x4 x5 3 x8 x9 x10 K:=by
 have e:g117 (IntKind.i64.wrap (x2+x10))=g114 (IntKind.i64.wrap (x2+x10)):=g117_eq _
 refine⟨?_,?_,?_,?_,fun _=>hm.symm,fun _=>rfl,fun _=> ?_,fun _=>rfl,fun _=>rfl,fun _=>rfl⟩
 ·show(bif(!(g117 (IntKind.i64.wrap (x2+x10))))then(g187_0 7)else g213_0)=(bif(!(g114 (IntKind.i64.wrap (x2+x10))))then 7 else 0)
  rw[e];rfl
 ·show(bif(!(g117 (IntKind.i64.wrap (x2+x10))))then g187_1 else g213_1)=_
  cases (!(g117 (IntKind.i64.wrap (x2+x10))))<;>rfl
 ·show(bif(!(g117 (IntKind.i64.wrap (x2+x10))))then g187_2 else(g213_2 (IntKind.i64.wrap (x2+x10))))=(bif(!(g114 (IntKind.i64.wrap (x2+x10))))then 0 else(IntKind.i64.wrap (x2+x10)))
  rw[e];rfl
 ·show(bif(!(g117 (IntKind.i64.wrap (x2+x10))))then g187_3 else g213_3).B=(nilSl:Sl ByteArray).B
  cases (!(g117 (IntKind.i64.wrap (x2+x10))))<;>rfl
 ·show(bif(!(g117 (IntKind.i64.wrap (x2+x10))))then x2 else(IntKind.i64.wrap (x2+x10)))=(bif(!(g114 (IntKind.i64.wrap (x2+x10))))then x2 else(IntKind.i64.wrap (x2+x10)))
  rw[e]
theorem ev17(hm:g190_m3 x0 x1 x2 x3 x4 x5 17=K):Eqv x0 x1 x2 x3 x4 x5 17 x8 x9 x10 K:=
 ⟨rfl,rfl,rfl,rfl,fun _=>hm.symm,fun _=>rfl,fun _=>rfl,fun _=>rfl,fun _=>rfl,fun _=>rfl⟩
theorem ev18(hm:g190_m3 x0 x1 x2 x3 x4 x5 18=K)(h:Good K x1 x2 x3 x4 x5):Eqv x0 x1 x2 x3 x4 x5 18 x8 x9 x10 K:=
 ⟨rfl,rfl,rfl,show18 x3 x4 x5 (by have:=h.n3;omega) (by have:=h.n4;omega) (by have:=h.n5;omega),fun _=>hm.symm,fun _=>rfl,fun _=>rfl,fun _=>rfl,fun _=>rfl,fun _=>rfl⟩
theorem ev4(_:g190_m3 x0 x1 x2 x3 x4 x5 4=3)(h:Good 3 x1 x2 x3 x4 x5):Eqv x0 x1 x2 x3 x4 x5 4 x8 x9 x10 3:=by
 obtain⟨t,ht,h0,hf,hr,hv,_,hm11⟩:=hash x3 4 x8 x9 (by have:=h.n3;omega) h.r3
 have hm11:=hm11 rfl
 have hn:(g220_m11 x3 4 x8 x9).n=bif g228_139_1 x3 x8 then x3.n else x3.n+1:=by
  rw[←B_len,hm11]
  cases hF:g228_139_1 x3 x8
  ·simp [B_len];omega
  ·have:=(hf hF).1;simp [B_len];omega
 have z1:=h.t (by decide)
 have z2:=h.i (by decide)
 have z4:=B_z (h.a4 (by decide) (by decide))
 have z5:=B_z (h.a5 (by decide))
 have n3:=h.n3
 have q0:g215_0 4 x8 x3=bif g228_139_1 x3 x8 then 0 else bif((x3.n:Int)==20)then 6 else 0:=by
  cases hF:g228_139_1 x3 x8<;>simp [g215_0,g215_p5,g215_m1,g215_m2,hF,g187_0,g213_0]
 have q1:decide ((((g220_m11 x3 4 x8 x9).n:Nat):Int)>20)=(!(g228_139_1 x3 x8)&&((x3.n:Int)==20)):=by
  rw[hn]
  cases g228_139_1 x3 x8
  ·show decide (((x3.n+1:Nat):Int)>20)=(true&&((x3.n:Int)==20))
   by_cases e:x3.n=20
   ·rw[e];rfl
   ·rw[decide_eq_false (by omega),show((x3.n:Int)==20)=false from beq_eq_false_iff_ne.2 (by omega)];rfl
  ·show decide (((x3.n:Nat):Int)>20)=false
   exact decide_eq_false (by omega)
 have qe:g190_m14 x2 x3 x4 x5 4 x8 x9 x10=bif(!(g228_139_1 x3 x8)&&((x3.n:Int)==20))then 6 else 0:=by
  show(bif decide ((((g220_m11 x3 4 x8 x9).n:Nat):Int)>20)then 6 else 0)=_
  rw[q1]
 have qz:g190_m14 x2 x3 x4 x5 4 x8 x9 x10=0→(!(g228_139_1 x3 x8)&&((x3.n:Int)==20))=false:=fun h=>by
  rw[qe]at h
  cases e:(!(g228_139_1 x3 x8)&&((x3.n:Int)==20))with
  |false=>rfl
  |true=>rw[e]at h;cases h
 refine⟨?_,?_,?_,?_,fun g=> ?_,fun g=> ?_,fun g=> ?_,fun g=> ?_,fun g=> ?_,fun g=> ?_⟩
 ·show g215_0 4 x8 x3=_
  rw[q0,qe]
  cases g228_139_1 x3 x8<;>rfl
 ·show g215_1 4 x8 x3=⟨#[]⟩
  cases hF:g228_139_1 x3 x8<;>cases hN:((x3.n:Int)==20)<;>simp [g215_1,g215_p5,g215_m1,g215_m2,hF,hN,g187_1,g213_1]
 ·show g215_2 4 x8 x3=(bif decide ((((g220_m11 x3 4 x8 x9).n:Nat):Int)>20)then 0 else(g238 (!(g220_r10 x3 4 x8 x9).1)))
  rw[q1,hr]
  cases hF:g228_139_1 x3 x8<;>cases hN:((x3.n:Int)==20)<;>simp [g215_2,g215_p5,g215_m1,g215_m2,hF,hN,g187_2,g213_2,g238]
 ·show(g215_3 4 x8 x3).B=(nilSl:Sl ByteArray).B
  cases hF:g228_139_1 x3 x8<;>cases hN:((x3.n:Int)==20)<;>simp [g215_3,g215_p5,g215_m1,g215_m2,hF,hN,g187_3,g213_3]
 ·show(3:Int)=(bif decide ((((g220_m11 x3 4 x8 x9).n:Nat):Int)>20)then(g190_m3 x0 x1 x2 x3 x4 x5 4)else 3)
  rw[q1,qz g];rfl
 ·show x1=(bif decide ((((g220_m11 x3 4 x8 x9).n:Nat):Int)>20)then x1 else⟨#[]⟩)
  rw[q1,qz g];exact z1
 ·show x2=(bif decide ((((g220_m11 x3 4 x8 x9).n:Nat):Int)>20)then x2 else 0)
  rw[q1,qz g];exact z2
 ·show(g215_h0_3 4 x8 x9 x3).B=(bif decide ((((g220_m11 x3 4 x8 x9).n:Nat):Int)>20)then x3 else(g220_m11 x3 4 x8 x9)).B
  have g:=qz g
  rw[q1,g]
  show _=(g220_m11 x3 4 x8 x9).B
  rw[hm11]
  cases hF:g228_139_1 x3 x8 with
  |true=>
   obtain⟨f1,f2⟩:=hf hF
   have:g215_h0_3 4 x8 x9 x3=Sl.upd x3 t ⟨x8,x9⟩:=by
    simp [g215_h0_3,g215_p5,g215_m1,hF,h0,f2]
   rw[this,B_upd]
   simp only[cond_true]
   rw[List.set_eq_take_append_cons_drop,if_pos (by rw[B_len];exact f1)]
  |false=>
   rw[hF]at g
   have hN:((x3.n:Int)==20)=false:=by simpa using g
   have:g215_h0_3 4 x8 x9 x3=Sl.ins x3 t ⟨x8,x9⟩:=by
    simp [g215_h0_3,g215_p5,g215_m1,g215_m2,hF,hN,h0]
   rw[this,B_ins _ _ _ ht]
   rfl
 ·show x4.B=(bif decide ((((g220_m11 x3 4 x8 x9).n:Nat):Int)>20)then x4 else(nilSl:Sl ByteArray)).B
  rw[q1,qz g];exact z4
 ·show x5.B=(bif decide ((((g220_m11 x3 4 x8 x9).n:Nat):Int)>20)then x5 else(nilSl:Sl T164)).B
  rw[q1,qz g];exact z5
end
end Go.Proofs.YtfbpilmhnpkfhaaGreatDoor
/-
  One command on one value: the other kinds.
-/
namespace Go.Proofs.YtfbpilmhnpkfhaaGreatDoor
open Go Go.Vc Go.RowKit
set_option maxRecDepth 100000
set_option maxHeartbeats 4000000
section
variable {x0:Int} {x1:ByteArray} {x2:Int} {x3:Sl T160} {x4:Sl ByteArray} {x5:Sl T164} {x8 x9:ByteArray} {x10:Int} {K:Int}
theorem ev5(hm:g190_m3 x0 x1 x2 x3 x4 x5 5=3)(h:Good 3 x1 x2 x3 x4 x5):Eqv x0 x1 x2 x3 x4 x5 5 x8 x9 x10 3:=by
 obtain⟨t,ht,h0,hf,hr,hv,_,_⟩:=hash x3 5 x8 x9 (by have:=h.n3;omega) h.r3
 have p:g215_p5 5 x8 x3=false:=by
  cases hF:g228_139_1 x3 x8<;>simp [g215_p5,g215_m1,g215_m2,g215_m3,hF]
 refine⟨?_,?_,?_,?_,fun g=>hm.symm,fun g=>rfl,fun g=>rfl,fun g=> ?_,fun g=>rfl,fun g=>rfl⟩
 ·show g215_0 5 x8 x3=(bif(!(g220_r10 x3 5 x8 x9).1)then 5 else 0)
  rw[hr]
  cases hF:g228_139_1 x3 x8<;>simp [g215_0,p,g215_m1,g215_m2,g215_m3,hF,g187_0]
 ·show g215_1 5 x8 x3=(bif(!(g220_r10 x3 5 x8 x9).1)then⟨#[]⟩else(g220_r10 x3 5 x8 x9).2.1)
  rw[hr]
  cases hF:g228_139_1 x3 x8 with
  |true=>rw[hv hF];simp [g215_1,p,g215_m1,g215_m2,g215_m3,hF,h0]
  |false=>simp [g215_1,p,g215_m1,g215_m2,g215_m3,hF,g187_1]
 ·show g215_2 5 x8 x3=0
  cases hF:g228_139_1 x3 x8<;>simp [g215_2,p,g215_m1,g215_m2,g215_m3,hF,g187_2]
 ·show(g215_3 5 x8 x3).B=(nilSl:Sl ByteArray).B
  cases hF:g228_139_1 x3 x8<;>simp [g215_3,p,g215_m1,g215_m2,g215_m3,hF,g187_3]
 ·show(g215_h0_3 5 x8 x9 x3).B=x3.B
  simp [g215_h0_3,p,g215_m1,g215_m2]
theorem ev6(_:g190_m3 x0 x1 x2 x3 x4 x5 6=3)(h:Good 3 x1 x2 x3 x4 x5):Eqv x0 x1 x2 x3 x4 x5 6 x8 x9 x10 3:=by
 obtain⟨t,ht,h0,hf,hr,hv,hd,_⟩:=hash x3 6 x8 x9 (by have:=h.n3;omega) h.r3
 have n3:=h.n3
 refine⟨rfl,rfl,?_,rfl,fun g=>rfl,fun g=>h.t (by decide),fun g=>h.i (by decide),fun g=> ?_,fun g=>B_z (h.a4 (by decide) (by decide)),fun g=>B_z (h.a5 (by decide))⟩
 ·show g213_2 (g231 (g228_139_1 x3 x8))=g238 (g220_r10 x3 6 x8 x9).1
  rw[hr];rfl
 ·show(g215_m4 x8 x3).B=(g220_r10 x3 6 x8 x9).2.2.2.B
  rw[hd (by decide)]
  unfold g215_m4
  cases hF:g228_139_1 x3 x8 with
  |true=>
   have f1:=(hf hF).1
   simp only[cond_true]
   rw[h0,wrap64 (by omega) (by omega),Int.toNat_natCast,show Int.toNat ((t:Int)+1)=t+1 by omega,B_del _ _ f1]
  |false=>rfl
theorem ge20{n:Nat}(h:n≤20):decide ((n:Int)≥20)=((n:Int)==20):=by
 by_cases e:n=20
 ·rw[e];rfl
 ·rw[decide_eq_false (by omega),show((n:Int)==20)=false from beq_eq_false_iff_ne.2 (by omega)]
theorem ev78(x6:Int)(hx:x6=7∨x6=8)(_:g190_m3 x0 x1 x2 x3 x4 x5 x6=4)(h:Good 4 x1 x2 x3 x4 x5):Eqv x0 x1 x2 x3 x4 x5 x6 x8 x9 x10 4:=by
 have n4:=h.n4
 have z1:=h.t (by decide)
 have z2:=h.i (by decide)
 have z3:=B_z (h.a3 (by decide))
 have z5:=B_z (h.a5 (by decide))
 have q:=ge20 n4
 have qe:g190_m14 x2 x3 x4 x5 x6 x8 x9 x10=bif((x4.n:Int)==20)then 6 else 0:=by
  rw[←q]
  rcases hx with e|e<;>subst e<;>rfl
 have qz:g190_m14 x2 x3 x4 x5 x6 x8 x9 x10=0→((x4.n:Int)==20)=false:=fun h=>by
  rw[qe]at h
  cases e:((x4.n:Int)==20)with
  |false=>rfl
  |true=>rw[e]at h;cases h
 have p:g216_p4 x6 x4=false:=by
  rcases hx with e|e<;>subst e<;>cases hN:((x4.n:Int)==20)<;>simp [g216_p4,g216_m1,hN]
 have m:g216_m1 x6 x4=((x4.n:Int)==20):=by
  rcases hx with e|e<;>subst e<;>rfl
 have a0:g188_0 x6 x8 x9 x10 4 x2 x3 x4 x5=g216_0 x6 x4:=by rcases hx with e|e<;>subst e<;>rfl
 have a1:g188_1 x6 x8 x9 x10 4 x1 x2 x3 x4 x5=g216_1 x6 x4:=by rcases hx with e|e<;>subst e<;>rfl
 have a2:g188_2 x6 x8 x9 x10 4 x2 x3 x4 x5=g216_2 x6 x4:=by rcases hx with e|e<;>subst e<;>rfl
 have a3:g188_3 x6 x8 x9 x10 4 x2 x3 x4 x5=g216_3 x6 x4:=by rcases hx with e|e<;>subst e<;>rfl
 have b1:g190_m15 x1 x3 x4 x6 x8 x9=⟨#[]⟩:=by rcases hx with e|e<;>subst e<;>rfl
 have b2:g190_m16 x2 x3 x4 x5 x6 x8 x9 x10=bif decide ((x4.n:Int)≥20)then 0 else(IntKind.i64.wrap ((x4.n:Int)+1)):=by rcases hx with e|e<;>subst e<;>rfl
 have b3:g190_m17 x3 x4 x5 x6=nilSl:=by rcases hx with e|e<;>subst e<;>rfl
 have c0:g190_m8 x0 x1 x2 x3 x4 x5 x6 x8 x9 x10=bif decide ((x4.n:Int)≥20)then(g190_m3 x0 x1 x2 x3 x4 x5 x6)else 4:=by rcases hx with e|e<;>subst e<;>rfl
 have c1:g190_m9 x1 x3 x4 x5 x6 x8 x9 x10=bif decide ((x4.n:Int)≥20)then x1 else⟨#[]⟩:=by rcases hx with e|e<;>subst e<;>rfl
 have c2:g190_m10 x2 x3 x4 x5 x6 x8 x9 x10=bif decide ((x4.n:Int)≥20)then x2 else 0:=by rcases hx with e|e<;>subst e<;>rfl
 have c3:g190_m11 x3 x4 x5 x6 x8 x9 x10=bif decide ((x4.n:Int)≥20)then x3 else nilSl:=by rcases hx with e|e<;>subst e<;>rfl
 have c4:g190_m12 x3 x4 x5 x6 x8 x9 x10=bif decide ((x4.n:Int)≥20)then x4 else g221_m4 x4 x6 x9:=by rcases hx with e|e<;>subst e<;>rfl
 have c5:g190_m13 x3 x4 x5 x6 x8 x9 x10=bif decide ((x4.n:Int)≥20)then x5 else nilSl:=by rcases hx with e|e<;>subst e<;>rfl
 have d0:g188_h0_0 x6 4=4:=by rcases hx with e|e<;>subst e<;>rfl
 have d1:g188_h0_1 x6 x9 x1=x1:=by rcases hx with e|e<;>subst e<;>rfl
 have d2:g188_h0_2 x6 x10 x2=x2:=by rcases hx with e|e<;>subst e<;>rfl
 have d3:g188_h0_3 x6 x8 x9 4 x3=x3:=by rcases hx with e|e<;>subst e<;>rfl
 have d4:g188_h0_4 x6 x9 4 x4=g216_h0_4 x6 x9 x4:=by rcases hx with e|e<;>subst e<;>rfl
 have d5:g188_h0_5 x6 x9 x10 4 x5=x5:=by rcases hx with e|e<;>subst e<;>rfl
 refine⟨?_,?_,?_,?_,fun g=> ?_,fun g=> ?_,fun g=> ?_,fun g=> ?_,fun g=> ?_,fun g=> ?_⟩
 ·rw[a0,qe];unfold g216_0;rw[p,m];rfl
 ·rw[a1,b1];unfold g216_1;rw[p,m];cases ((x4.n:Int)==20)<;>rfl
 ·rw[a2,b2,q];unfold g216_2;rw[p,m];rfl
 ·rw[a3,b3];unfold g216_3;rw[p,m];cases ((x4.n:Int)==20)<;>rfl
 ·rw[d0,c0,q,qz g];rfl
 ·rw[d1,c1,q,qz g];exact z1
 ·rw[d2,c2,q,qz g];exact z2
 ·rw[d3,c3,q,qz g];exact z3
 ·rw[d4,c4,q,qz g]
  unfold g216_h0_4
  rw[p,m,qz g]
  simp only[cond_false]
  rcases hx with e|e<;>subst e
  ·rw[push7 _ _ (by omega)]
   show(Sl.app x4 (Sl.lit [x9])).B=_
   rw[B_app,B_lit]
  ·rw[push8 _ _ (by omega)]
   show(Sl.ins x4 0 x9).B=_
   rw[B_ins _ _ _ (Nat.zero_le _)];rfl
 ·rw[d5,c5,q,qz g];exact z5
theorem ev9(h:Good 4 x1 x2 x3 x4 x5)(hl:1≤x4.n):Eqv x0 x1 x2 x3 x4 x5 9 x8 x9 x10 4:=by
 have n4:=h.n4
 have w:IntKind.i64.wrap (((x4.n:Nat):Int)-1)=((x4.n-1:Nat):Int):=by rw[wrap64 (by omega) (by omega)];omega
 refine⟨rfl,rfl,rfl,rfl,fun g=>rfl,fun g=>h.t (by decide),fun g=>h.i (by decide),fun g=>B_z (h.a3 (by decide)),fun g=> ?_,fun g=>B_z (h.a5 (by decide))⟩
 show(Sl.part x4 0 (IntKind.i64.wrap (((x4.n:Nat):Int)-1))).B=(g221_r7 x4 9).B
 rw[pop x4 9 (x4.n-1) (by omega) (by omega) w,w,B_part _ _ _ (Int.le_refl _) (by omega) (by omega)]
 rw[show x4.B.drop (x4.n-1+1)=[]from List.drop_eq_nil_of_le (by rw[B_len];omega),List.append_nil]
 simp
theorem ev10(h:Good 4 x1 x2 x3 x4 x5)(hl:1≤x4.n):Eqv x0 x1 x2 x3 x4 x5 10 x8 x9 x10 4:=by
 have n4:=h.n4
 refine⟨rfl,rfl,rfl,rfl,fun g=>rfl,fun g=>h.t (by decide),fun g=>h.i (by decide),fun g=>B_z (h.a3 (by decide)),fun g=> ?_,fun g=>B_z (h.a5 (by decide))⟩
 show(Sl.part x4 1 ((x4.n:Nat):Int)).B=(g221_r7 x4 10).B
 rw[pop x4 10 0 (by omega) (by omega) rfl,B_part _ _ _ (by omega) (by omega) (by omega)]
 rw[List.take_of_length_le (by simp [B_len])]
 rfl
theorem ev11(_:g190_m3 x0 x1 x2 x3 x4 x5 11=5)(h:Good 5 x1 x2 x3 x4 x5):Eqv x0 x1 x2 x3 x4 x5 11 x8 x9 x10 5:=by
 obtain⟨t,ht,h0,hf,hr,_,hm10⟩:=sets x4 11 x9 (by have:=h.n4;omega) (h.r4 (by decide))
 have hm10:=hm10 rfl
 have n4:=h.n4
 have hn:(g222_m10 x4 11 x9).n=bif g233_1 x4 x9 then x4.n else x4.n+1:=by
  rw[←B_len,hm10]
  cases hF:g233_1 x4 x9
  ·simp [B_len];omega
  ·have:=(hf hF).1;simp [B_len];omega
 have q1:decide ((((g222_m10 x4 11 x9).n:Nat):Int)>20)=(!(g233_1 x4 x9)&&((x4.n:Int)==20)):=by
  rw[hn]
  cases g233_1 x4 x9
  ·show decide (((x4.n+1:Nat):Int)>20)=(true&&((x4.n:Int)==20))
   by_cases e:x4.n=20
   ·rw[e];rfl
   ·rw[decide_eq_false (by omega),show((x4.n:Int)==20)=false from beq_eq_false_iff_ne.2 (by omega)];rfl
  ·show decide (((x4.n:Nat):Int)>20)=false
   exact decide_eq_false (by omega)
 have qe:g190_m14 x2 x3 x4 x5 11 x8 x9 x10=bif(!(g233_1 x4 x9)&&((x4.n:Int)==20))then 6 else 0:=by
  show(bif decide ((((g222_m10 x4 11 x9).n:Nat):Int)>20)then 6 else 0)=_
  rw[q1]
 have qz:g190_m14 x2 x3 x4 x5 11 x8 x9 x10=0→(!(g233_1 x4 x9)&&((x4.n:Int)==20))=false:=fun h=>by
  rw[qe]at h
  cases e:(!(g233_1 x4 x9)&&((x4.n:Int)==20))with
  |false=>rfl
  |true=>rw[e]at h;cases h
 refine⟨?_,?_,?_,?_,fun g=> ?_,fun g=> ?_,fun g=> ?_,fun g=> ?_,fun g=> ?_,fun g=> ?_⟩
 ·rw[qe]
  show g217_0 11 x9 x4=_
  cases hF:g233_1 x4 x9<;>cases hN:((x4.n:Int)==20)<;>simp [g217_0,g217_p5,g217_m1,g217_m2,hF,hN,g187_0,g213_0]
 ·show g217_1 11 x9 x4=⟨#[]⟩
  cases hF:g233_1 x4 x9<;>cases hN:((x4.n:Int)==20)<;>simp [g217_1,g217_p5,g217_m1,g217_m2,hF,hN,g187_1,g213_1]
 ·show g217_2 11 x9 x4=(bif decide ((((g222_m10 x4 11 x9).n:Nat):Int)>20)then 0 else(g238 (!(g222_r9 x4 11 x9).1)))
  rw[q1,hr]
  cases hF:g233_1 x4 x9<;>cases hN:((x4.n:Int)==20)<;>simp [g217_2,g217_p5,g217_m1,g217_m2,hF,hN,g187_2,g213_2,g238]
 ·show(g217_3 11 x9 x4).B=(nilSl:Sl ByteArray).B
  cases hF:g233_1 x4 x9<;>cases hN:((x4.n:Int)==20)<;>simp [g217_3,g217_p5,g217_m1,g217_m2,hF,hN,g187_3,g213_3]
 ·show(5:Int)=(bif decide ((((g222_m10 x4 11 x9).n:Nat):Int)>20)then(g190_m3 x0 x1 x2 x3 x4 x5 11)else 5)
  rw[q1,qz g];rfl
 ·show x1=(bif decide ((((g222_m10 x4 11 x9).n:Nat):Int)>20)then x1 else⟨#[]⟩)
  rw[q1,qz g];exact h.t (by decide)
 ·show x2=(bif decide ((((g222_m10 x4 11 x9).n:Nat):Int)>20)then x2 else 0)
  rw[q1,qz g];exact h.i (by decide)
 ·show x3.B=(bif decide ((((g222_m10 x4 11 x9).n:Nat):Int)>20)then x3 else(nilSl:Sl T160)).B
  rw[q1,qz g];exact B_z (h.a3 (by decide))
 ·show(g217_h0_4 11 x9 x4).B=(bif decide ((((g222_m10 x4 11 x9).n:Nat):Int)>20)then x4 else(g222_m10 x4 11 x9)).B
  have g:=qz g
  rw[q1,g]
  show _=(g222_m10 x4 11 x9).B
  rw[hm10]
  cases hF:g233_1 x4 x9 with
  |true=>
   obtain⟨f1,f2⟩:=hf hF
   have:g217_h0_4 11 x9 x4=x4:=by simp [g217_h0_4,g217_p5,g217_m1,g217_m2,hF]
   rw[this]
   simp only[cond_true]
   have:=B_at x4 f1
   rw[f2]at this
   rw[←this,List.take_append_drop]
  |false=>
   rw[hF]at g
   have hN:((x4.n:Int)==20)=false:=by simpa using g
   have:g217_h0_4 11 x9 x4=Sl.ins x4 t x9:=by
    simp [g217_h0_4,g217_p5,g217_m1,g217_m2,hF,hN,h0]
   rw[this,B_ins _ _ _ ht]
   rfl
 ·show x5.B=(bif decide ((((g222_m10 x4 11 x9).n:Nat):Int)>20)then x5 else(nilSl:Sl T164)).B
  rw[q1,qz g];exact B_z (h.a5 (by decide))
theorem ev12(h:Good 5 x1 x2 x3 x4 x5):Eqv x0 x1 x2 x3 x4 x5 12 x8 x9 x10 5:=by
 obtain⟨t,ht,h0,hf,hr,hd,_⟩:=sets x4 12 x9 (by have:=h.n4;omega) (h.r4 (by decide))
 have n4:=h.n4
 refine⟨rfl,rfl,?_,rfl,fun g=>rfl,fun g=>h.t (by decide),fun g=>h.i (by decide),fun g=>B_z (h.a3 (by decide)),fun g=> ?_,fun g=>B_z (h.a5 (by decide))⟩
 ·show g213_2 (g231 (g233_1 x4 x9))=g238 (g222_r9 x4 12 x9).1
  rw[hr];rfl
 ·show(g217_m4 12 x9 x4).B=(g222_r9 x4 12 x9).2.2.B
  rw[hd (by decide)]
  have:g217_m3 12 x9 x4=g233_1 x4 x9:=rfl
  unfold g217_m4
  rw[this]
  cases hF:g233_1 x4 x9 with
  |true=>
   have f1:=(hf hF).1
   simp only[cond_true]
   rw[h0,wrap64 (by omega) (by omega),Int.toNat_natCast,show Int.toNat ((t:Int)+1)=t+1 by omega,B_del _ _ f1]
  |false=>rfl
theorem ev13(hm:g190_m3 x0 x1 x2 x3 x4 x5 13=5)(h:Good 5 x1 x2 x3 x4 x5):Eqv x0 x1 x2 x3 x4 x5 13 x8 x9 x10 5:=by
 obtain⟨t,ht,h0,hf,hr,hd,_⟩:=sets x4 13 x9 (by have:=h.n4;omega) (h.r4 (by decide))
 refine⟨rfl,rfl,?_,rfl,fun g=>hm.symm,fun g=>rfl,fun g=>rfl,fun g=>rfl,fun g=>rfl,fun g=>rfl⟩
 show g213_2 (g231 (g233_1 x4 x9))=g238 (g222_r9 x4 13 x9).1
 rw[hr];rfl
theorem ev14(_:g190_m3 x0 x1 x2 x3 x4 x5 14=6)(h:Good 6 x1 x2 x3 x4 x5):Eqv x0 x1 x2 x3 x4 x5 14 x8 x9 x10 6:=by
 have n5:=h.n5
 have e44:=eq144 x5 x9 (by omega)
 obtain⟨_,t,ht,h0,hB⟩:=rank x5 x9 x10 (by omega) h.u5 h.p5
 have hn:(g223_m8 x5 14 x9 x10).n=(bif decide (g147 x5 x9<0)then x5.n else x5.n-1)+1:=by
  rw[←B_len,hB]
  have:(g218_m3 x9 x5).B.length=bif decide (g147 x5 x9<0)then x5.n else x5.n-1:=by
   rw[wo218 x5 x9 (by omega) h.u5]
   unfold without
   rcases at147 x5 x9 (by omega) h.u5 with⟨e,_⟩|⟨j,e,hj,_⟩
   ·rw[e];exact B_len _
   ·rw[e,show decide ((j:Int)≥0)=true from decide_eq_true (by omega),show decide ((j:Int)<0)=false from decide_eq_false (by omega)]
    simp [B_len];omega
  rw[←B_len]at ht
  simp only[List.length_append,List.length_cons,List.length_take,List.length_drop]
  omega
 have q1:decide ((((g223_m8 x5 14 x9 x10).n:Nat):Int)>20)=(decide (g147 x5 x9<0)&&((x5.n:Int)==20)):=by
  rw[hn]
  cases decide (g147 x5 x9<0)
  ·show decide (((x5.n-1+1:Nat):Int)>20)=false
   exact decide_eq_false (by omega)
  ·show decide (((x5.n+1:Nat):Int)>20)=(true&&((x5.n:Int)==20))
   by_cases e:x5.n=20
   ·rw[e];rfl
   ·rw[decide_eq_false (by omega),show((x5.n:Int)==20)=false from beq_eq_false_iff_ne.2 (by omega)];rfl
 have qm:g218_m2 14 x9 x5=(decide (g147 x5 x9<0)&&((x5.n:Int)==20)):=by
  show(bif decide (g144 x5 x9<0)then((x5.n:Int)==20)else false)=_
  rw[e44]
  cases decide (g147 x5 x9<0)<;>rfl
 have qe:g190_m14 x2 x3 x4 x5 14 x8 x9 x10=bif(decide (g147 x5 x9<0)&&((x5.n:Int)==20))then 6 else 0:=by
  show(bif decide ((((g223_m8 x5 14 x9 x10).n:Nat):Int)>20)then 6 else 0)=_
  rw[q1]
 have qz:g190_m14 x2 x3 x4 x5 14 x8 x9 x10=0→(decide (g147 x5 x9<0)&&((x5.n:Int)==20))=false:=fun h=>by
  rw[qe]at h
  cases e:(decide (g147 x5 x9<0)&&((x5.n:Int)==20))with
  |false=>rfl
  |true=>rw[e]at h;cases h
 refine⟨?_,?_,?_,?_,fun g=> ?_,fun g=> ?_,fun g=> ?_,fun g=> ?_,fun g=> ?_,fun g=> ?_⟩
 ·rw[qe]
  show(bif g218_m2 14 x9 x5 then(g187_0 6)else g213_0)=_
  rw[qm];rfl
 ·show(bif g218_m2 14 x9 x5 then g187_1 else g213_1)=⟨#[]⟩
  cases g218_m2 14 x9 x5<;>rfl
 ·show(bif g218_m2 14 x9 x5 then g187_2 else(g213_2 (g231 (decide ((g144 x5 x9)<0)))))=(bif decide ((((g223_m8 x5 14 x9 x10).n:Nat):Int)>20)then 0 else(g238 (decide ((g147 x5 x9)<0))))
  rw[q1,qm,e44];rfl
 ·show(bif g218_m2 14 x9 x5 then g187_3 else g213_3).B=(nilSl:Sl ByteArray).B
  cases g218_m2 14 x9 x5<;>rfl
 ·show(6:Int)=(bif decide ((((g223_m8 x5 14 x9 x10).n:Nat):Int)>20)then(g190_m3 x0 x1 x2 x3 x4 x5 14)else 6)
  rw[q1,qz g];rfl
 ·show x1=(bif decide ((((g223_m8 x5 14 x9 x10).n:Nat):Int)>20)then x1 else⟨#[]⟩)
  rw[q1,qz g];exact h.t (by decide)
 ·show x2=(bif decide ((((g223_m8 x5 14 x9 x10).n:Nat):Int)>20)then x2 else 0)
  rw[q1,qz g];exact h.i (by decide)
 ·show x3.B=(bif decide ((((g223_m8 x5 14 x9 x10).n:Nat):Int)>20)then x3 else(nilSl:Sl T160)).B
  rw[q1,qz g];exact B_z (h.a3 (by decide))
 ·show x4.B=(bif decide ((((g223_m8 x5 14 x9 x10).n:Nat):Int)>20)then x4 else(nilSl:Sl ByteArray)).B
  rw[q1,qz g];exact B_z (h.a4 (by decide) (by decide))
 ·show(bif g218_m2 14 x9 x5 then x5 else(Sl.ins (g218_m3 x9 x5) (Int.toNat (g236_141_0 (g218_m3 x9 x5) x9 x10)) (⟨x9,x10⟩:T164))).B=(bif decide ((((g223_m8 x5 14 x9 x10).n:Nat):Int)>20)then x5 else(g223_m8 x5 14 x9 x10)).B
  rw[q1,qm,qz g]
  simp only[cond_false]
  rw[hB,h0,Int.toNat_natCast,B_ins _ _ _ ht]
theorem ev15(h:Good 6 x1 x2 x3 x4 x5):Eqv x0 x1 x2 x3 x4 x5 15 x8 x9 x10 6:=by
 have n5:=h.n5
 have e44:=eq144 x5 x9 (by omega)
 obtain⟨hB,_⟩:=rank x5 x9 x10 (by omega) h.u5 h.p5
 refine⟨rfl,rfl,?_,rfl,fun g=>rfl,fun g=>h.t (by decide),fun g=>h.i (by decide),fun g=>B_z (h.a3 (by decide)),fun g=>B_z (h.a4 (by decide) (by decide)),fun g=> ?_⟩
 ·show g213_2 (g231 (decide (g144 x5 x9≥0)))=g238 (decide (g147 x5 x9≥0))
  rw[e44];rfl
 ·show(g218_m3 x9 x5).B=(g223_r7 x5 15 x9 x10).2.B
  exact hB.symm
theorem ev16(hm:g190_m3 x0 x1 x2 x3 x4 x5 16=6)(h:Good 6 x1 x2 x3 x4 x5):Eqv x0 x1 x2 x3 x4 x5 16 x8 x9 x10 6:=by
 have n5:=h.n5
 have e44:=eq144 x5 x9 (by omega)
 have m:g218_m1 16 x9 x5=decide (g147 x5 x9<0):=by
  show decide (g144 x5 x9<0)=_
  rw[e44]
 refine⟨?_,?_,?_,?_,fun g=>hm.symm,fun g=>rfl,fun g=>rfl,fun g=>rfl,fun g=>rfl,fun g=> ?_⟩
 ·show(bif g218_m1 16 x9 x5 then(g187_0 5)else g213_0)=(bif(decide ((g147 x5 x9)<0))then 5 else 0)
  rw[m];rfl
 ·show(bif g218_m1 16 x9 x5 then g187_1 else g213_1)=⟨#[]⟩
  cases g218_m1 16 x9 x5<;>rfl
 ·show(bif g218_m1 16 x9 x5 then g187_2 else(g213_2 (g144 x5 x9)))=(bif(decide ((g147 x5 x9)<0))then 0 else(g147 x5 x9))
  rw[m,e44];rfl
 ·show(bif g218_m1 16 x9 x5 then g187_3 else g213_3).B=(nilSl:Sl ByteArray).B
  cases g218_m1 16 x9 x5<;>rfl
 ·show(bif g218_m1 16 x9 x5 then x5 else x5).B=x5.B
  cases g218_m1 16 x9 x5<;>rfl
end
end Go.Proofs.YtfbpilmhnpkfhaaGreatDoor
namespace Go.Proofs.YtfbpilmhnpkfhaaGreatDoor
open Go Go.Vc Go.RowKit
set_option maxRecDepth 100000
theorem e47(x0:Int)(x1 x2 x3:ByteArray)(x4:Int):(g47 x0 x1 x2 x3 x4==g48 x0 x1 x2 x3 x4)=true:=by
 by_cases h:1≤x0∧x0≤22
 ·have hx:x0=1∨x0=2∨x0=3∨x0=4∨x0=5∨x0=6∨x0=7∨x0=8∨x0=9∨x0=10∨x0=11∨x0=12∨x0=13∨x0=14∨x0=15∨x0=16∨x0=17∨x0=18∨x0=19∨x0=20∨x0=21∨x0=22:=by omega
  unfold g47 g48 g47_m9 g47_m8 g47_m7 g47_m6 g47_m5 g47_m4 g47_m3 g47_m2 g47_m1 g48_m4 g48_m3 g48_m2 g48_m1
  simp only[g118_eq,g116_eq,g117_eq,g112_eq]
  generalize g118 x1=b1
  generalize g118 x2=b2
  generalize g113 x3=b3
  generalize g114 x4=b4
  rcases hx with rfl|rfl|rfl|rfl|rfl|rfl|rfl|rfl|rfl|rfl|rfl|rfl|rfl|rfl|rfl|rfl|rfl|rfl|rfl|rfl|rfl|rfl<;>
  simp only[Int.reduceBEq,Int.reduceLE,Int.reduceLT,ge_iff_le,gt_iff_lt,decide_true,decide_false,Bool.and_true,Bool.true_and,Bool.and_false,cond_true,cond_false,Bool.not_true,Bool.not_false,beq_self_eq_true,bne]<;>
  (generalize (x1.toList==ByteArray.toList ⟨#[]⟩)=e1;generalize (x2.toList==ByteArray.toList ⟨#[]⟩)=e2;generalize (x3.toList==ByteArray.toList ⟨#[]⟩)=e3;generalize (x4==0)=e4
   revert e1 e2 e3 e4 b1 b2 b3 b4;decide)
 ·unfold g47 g48 g47_m1
  have h1:g112 x0 1 22=false:=by rw[g112_eq];simp;omega
  have h2:(bif decide (x0<1)then true else decide (x0>22))=true:=by
   by_cases h3:x0<1
   ·simp [h3]
   ·simp [h3];omega
  rw[h1,h2];rfl
theorem g47_eq(x0:Int)(x1 x2 x3:ByteArray)(x4:Int):g47 x0 x1 x2 x3 x4=g48 x0 x1 x2 x3 x4:=eq_of_beq (e47 x0 x1 x2 x3 x4)
theorem g49_eq(x0 x1 x2:Int)(x3 x4 x5:ByteArray)(x6:Int):g49 x0 x1 x2 x3 x4 x5 x6=g50 x0 x1 x2 x3 x4 x5 x6:=by
 unfold g49 g50 g49_m1 g50_m1 g50_m2
 rw[g47_eq]
 simp only[g119_eq,bne]
 cases x0==0
 ·rfl
 ·simp only[cond_true,Bool.true_and]
  cases x1==0<;>simp
end Go.Proofs.YtfbpilmhnpkfhaaGreatDoor
