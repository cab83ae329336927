/-
  Walks: what functions of the program answer, as functions.
-/
import Derived.Test.YtfbpilmhnpkfhaaGreatDoorCl
import Derived.Test.YtfbpilmhnpkfhaaGreatDoorEc
import Derived.Test.YtfbpilmhnpkfhaaGreatDoorVcH
import Derived.Test.YtfbpilmhnpkfhaaGreatDoorWd
set_option linter.all false
namespace Go.Proofs.YtfbpilmhnpkfhaaGreatDoor
open Go Go.Vc Go.RowKit
set_option maxRecDepth 100000
set_option maxHeartbeats 4000000
noncomputable def g112_m1(x0:Int)(x1:Int)(x2:Int):Bool:=(bif(decide (x0≥x1))then(decide (x0≤x2))else false)
noncomputable def g112(x0:Int)(x1:Int)(x2:Int):Bool:=(g112_m1 x0 x1 x2)
noncomputable def F112:Fq:=⟨[.v kI,.v kI,.v kI],fun x0 x1 x2=>⟨⟨none,.bool (g112 x0 x1 x2)⟩⟩⟩
theorem pc112:FnOk Tryz.prog 20 F112.sh _ (F112.sh.flatMap Sh.bs) F112.f []:=
 fun(x0:Int) (x1:Int) (x2:Int)=>pure_of_exec (X:=X0) (R:=⟨.pure,[.tmp 6],[(.t 0,kB)],⟨[U],[]⟩⟩) (h:=(.s .z (.j ⟨64,[],[(.t 6,kB)],[],.f⟩ .z .z))) (ms:=[]) (p:=True) X0_ok Tryz.func20 rfl rfl (by kernel_rfl) (trivial)
theorem k112:XOk Tryz.prog 20 F112.ans:=Fq.ok ⟨_,_,Tryz.func20,rfl,by kernel_rfl⟩ pc112
noncomputable def g113(x0:ByteArray):Bool:=(decide (((x0:ByteArray).size:Int)≤20))
noncomputable def F113:Fq:=⟨[.v kS],fun x0=>⟨⟨none,.bool (g113 x0)⟩⟩⟩
theorem pc113:FnOk Tryz.prog 59 F113.sh _ (F113.sh.flatMap Sh.bs) F113.f []:=
 fun x0 _=>pure_of_exec (X:=X0) (R:=⟨.pure,[.tmp 2],[(.t 0,kB)],⟨[U],[]⟩⟩) (h:= .z) (ms:=[]) (p:=True) X0_ok Tryz.func59 rfl rfl (by kernel_rfl) (trivial)
theorem k113:XOk Tryz.prog 59 F113.ans:=Fq.ok ⟨_,_,Tryz.func59,rfl,by kernel_rfl⟩ pc113
noncomputable def g114(x0:Int):Bool:=(g112 x0 (-1099511627776) 1099511627776)
noncomputable def F114:Fq:=⟨[.v kI],fun x0=>⟨⟨none,.bool (g114 x0)⟩⟩⟩
theorem pc114:FnOk Tryz.prog 60 F114.sh _ (F114.sh.flatMap Sh.bs) F114.f []:=
 fun(x0:Int)=>pure_of_exec (X:=(mkX [(20,F112.ans)])) (R:=⟨.pure,[.tmp 2],[(.t 0,kB)],⟨[U],[]⟩⟩) (h:= .z) (ms:=[]) (p:=True) (mkX_ok ⟨k112,trivial⟩) Tryz.func60 rfl rfl (by kernel_rfl) (trivial)
theorem k114:XOk Tryz.prog 60 F114.ans:=Fq.ok ⟨_,_,Tryz.func60,rfl,by kernel_rfl⟩ pc114
noncomputable def g118(x0:ByteArray):Bool:=(g112 ((x0:ByteArray).size:Int) 1 12)
noncomputable def F118:Fq:=⟨[.v kS],fun x0=>⟨⟨none,.bool (g118 x0)⟩⟩⟩
theorem pc118:FnOk Tryz.prog 57 F118.sh _ (F118.sh.flatMap Sh.bs) F118.f []:=
 fun x0 _=>pure_of_exec (X:=(mkX [(20,F112.ans)])) (R:=⟨.pure,[.tmp 2],[(.t 0,kB)],⟨[U],[]⟩⟩) (h:= .z) (ms:=[]) (p:=True) (mkX_ok ⟨k112,trivial⟩) Tryz.func57 rfl rfl (by kernel_rfl) (trivial)
theorem k118:XOk Tryz.prog 57 F118.ans:=Fq.ok ⟨_,_,Tryz.func57,rfl,by kernel_rfl⟩ pc118
noncomputable def g115_m1(x0:ByteArray):Bool:=(bif(decide (((x0:ByteArray).size:Int)≥1))then(decide (((x0:ByteArray).size:Int)≤12))else false)
noncomputable def g115(x0:ByteArray):Bool:=(g115_m1 x0)
noncomputable def F115:Fq:=⟨[.v kS],fun x0=>⟨⟨none,.bool (g115 x0)⟩⟩⟩
theorem pc115:FnOk Tryz.prog 46 F115.sh _ (F115.sh.flatMap Sh.bs) F115.f []:=
 fun x0 _=>pure_of_exec (X:=X0) (R:=⟨.pure,[.tmp 2],[(.t 0,kB)],⟨[U],[]⟩⟩) (h:=(.s .z (.j ⟨4,[],[(.t 2,kB)],[],.f⟩ .z .z))) (ms:=[]) (p:=True) X0_ok Tryz.func46 rfl rfl (by kernel_rfl) (trivial)
theorem k115:XOk Tryz.prog 46 F115.ans:=Fq.ok ⟨_,_,Tryz.func46,rfl,by kernel_rfl⟩ pc115
noncomputable def g116(x0:ByteArray):Bool:=(decide (((x0:ByteArray).size:Int)≤20))
noncomputable def F116:Fq:=⟨[.v kS],fun x0=>⟨⟨none,.bool (g116 x0)⟩⟩⟩
theorem pc116:FnOk Tryz.prog 47 F116.sh _ (F116.sh.flatMap Sh.bs) F116.f []:=
 fun x0 _=>pure_of_exec (X:=X0) (R:=⟨.pure,[.tmp 2],[(.t 0,kB)],⟨[U],[]⟩⟩) (h:= .z) (ms:=[]) (p:=True) X0_ok Tryz.func47 rfl rfl (by kernel_rfl) (trivial)
theorem k116:XOk Tryz.prog 47 F116.ans:=Fq.ok ⟨_,_,Tryz.func47,rfl,by kernel_rfl⟩ pc116
noncomputable def g117_m1(x0:Int):Bool:=(bif(decide (x0≥(-1099511627776)))then(decide (x0≤1099511627776))else false)
noncomputable def g117(x0:Int):Bool:=(g117_m1 x0)
noncomputable def F117:Fq:=⟨[.v kI],fun x0=>⟨⟨none,.bool (g117 x0)⟩⟩⟩
theorem pc117:FnOk Tryz.prog 48 F117.sh _ (F117.sh.flatMap Sh.bs) F117.f []:=
 fun(x0:Int)=>pure_of_exec (X:=X0) (R:=⟨.pure,[.tmp 2],[(.t 0,kB)],⟨[U],[]⟩⟩) (h:=(.s .z (.j ⟨4,[],[(.t 2,kB)],[],.f⟩ .z .z))) (ms:=[]) (p:=True) X0_ok Tryz.func48 rfl rfl (by kernel_rfl) (trivial)
theorem k117:XOk Tryz.prog 48 F117.ans:=Fq.ok ⟨_,_,Tryz.func48,rfl,by kernel_rfl⟩ pc117
noncomputable def g119_m1(x0:Int):Bool:=(bif(decide (x0≥1))then(decide (x0≤1048576))else false)
noncomputable def g119(x0:Int):Bool:=(g119_m1 x0)
noncomputable def F119:Fq:=⟨[.v kI],fun x0=>⟨⟨none,.bool (g119 x0)⟩⟩⟩
theorem pc119:FnOk Tryz.prog 28 F119.sh _ (F119.sh.flatMap Sh.bs) F119.f []:=
 fun(x0:Int)=>pure_of_exec (X:=X0) (R:=⟨.pure,[.tmp 2],[(.t 0,kB)],⟨[U],[]⟩⟩) (h:=(.s .z (.j ⟨4,[],[(.t 2,kB)],[],.f⟩ .z .z))) (ms:=[]) (p:=True) X0_ok Tryz.func28 rfl rfl (by kernel_rfl) (trivial)
theorem k119:XOk Tryz.prog 28 F119.ans:=Fq.ok ⟨_,_,Tryz.func28,rfl,by kernel_rfl⟩ pc119
noncomputable def g120(x0:Int):Bool:=(g112 x0 1 1048576)
noncomputable def F120:Fq:=⟨[.v kI],fun x0=>⟨⟨none,.bool (g120 x0)⟩⟩⟩
theorem pc120:FnOk Tryz.prog 37 F120.sh _ (F120.sh.flatMap Sh.bs) F120.f []:=
 fun(x0:Int)=>pure_of_exec (X:=(mkX [(20,F112.ans)])) (R:=⟨.pure,[.tmp 2],[(.t 0,kB)],⟨[U],[]⟩⟩) (h:= .z) (ms:=[]) (p:=True) (mkX_ok ⟨k112,trivial⟩) Tryz.func37 rfl rfl (by kernel_rfl) (trivial)
theorem k120:XOk Tryz.prog 37 F120.ans:=Fq.ok ⟨_,_,Tryz.func37,rfl,by kernel_rfl⟩ pc120
end Go.Proofs.YtfbpilmhnpkfhaaGreatDoor
/-
  Walks: what functions of the program answer, as functions.
-/
namespace Go.Proofs.YtfbpilmhnpkfhaaGreatDoor
open Go Go.Vc Go.RowKit
set_option maxRecDepth 100000
set_option maxHeartbeats 4000000
noncomputable def g111(x0:ByteArray):Bool:=(decide (((x0:ByteArray).size:Int)>20))
noncomputable def F111:Fq:=⟨[.v kS],fun x0=>⟨⟨none,.bool (g111 x0)⟩⟩⟩
theorem pc111:FnOk Tryz.prog 45 F111.sh _ (F111.sh.flatMap Sh.bs) F111.f []:=
 fun x0 _=>pure_of_exec (X:=X0) (R:=⟨.pure,[.tmp 2],[(.t 0,kB)],⟨[U],[]⟩⟩) (h:= .z) (ms:=[]) (p:=True) X0_ok Tryz.func45 rfl rfl (by kernel_rfl) (trivial)
theorem k111:XOk Tryz.prog 45 F111.ans:=Fq.ok ⟨_,_,Tryz.func45,rfl,by kernel_rfl⟩ pc111
noncomputable def g192_111_l1(x0:Sl ByteArray):Nat→Int→Bool×Int
 |0,_=>default
 |k+1,v1_0=>(bif(decide (v1_0<(x0.n:Int)))then(bif(g111 (x0.at' (Int.toNat v1_0)))then(true,v1_0)else(g192_111_l1 x0 k (IntKind.i64.wrap (v1_0+1))))else(false,default))
noncomputable def g192_111_r1(x0:Sl ByteArray):Bool×Int:=g192_111_l1 x0 ((Int.toNat ((x0.n:Int)-0))+1) 0
noncomputable def g192_111_p2(x0:Sl ByteArray):Bool:=(bif(g192_111_r1 x0).1 then false else true)
noncomputable def g192_111(x0:Sl ByteArray):Int:=(bif(g192_111_p2 x0)then(-1)else(g192_111_r1 x0).2)
noncomputable def F192_111:Fq:=⟨[.v (.sl E9),.fn 45 []],fun x0=>⟨⟨none,.int .i64 (g192_111 x0)⟩⟩⟩
theorem pc192_111:FnOk Tryz.prog 76 F192_111.sh _ (F192_111.sh.flatMap Sh.bs) F192_111.f []:=
 fun x0 n0 _=>pure_of_exec (X:=(mkX [(45,F111.ans)])) (R:=⟨.pure,[.tmp 4],[(.t 0,kI)],⟨[U],[]⟩⟩) (h:=(.s .z (.j ⟨16,[],[],[],.f⟩ (.s .z (.lp ⟨403,[],[],[(.t 8,kI)],some 0,true,16,[],[],fun k (s:Int)=>g192_111_l1 x0 k s,.f,fun(s:Int)=>(0≤s∧s≤(x0.n:Int)),fun(s:Int)=>(Int.toNat ((x0.n:Int)-s)),none⟩ .z)) .z))) (ms:=[]) (p:=(((0≤(0:Int)∧(0:Int)≤(x0.n:Int)))∧(∀(v1_0:Int),(0≤v1_0∧v1_0≤(x0.n:Int))→(((decide (v1_0<(x0.n:Int)))=true→((0:Int)≤v1_0∧v1_0<((x0.n:Nat):Int)))∧((decide (v1_0<(x0.n:Int)))=true→((g111 (x0.at' (Int.toNat v1_0)))=false→((0≤(IntKind.i64.wrap (v1_0+1))∧(IntKind.i64.wrap (v1_0+1))≤(x0.n:Int))∧(Int.toNat ((x0.n:Int)- (IntKind.i64.wrap (v1_0+1))))<(Int.toNat ((x0.n:Int)-v1_0))))))))) (mkX_ok ⟨k111,trivial⟩) Tryz.func76 rfl rfl (by kernel_rfl) (⟨(by omega),(fun v1_0 hI1=>⟨(fun h2=>(by have:=of_decide_eq_true h2;omega)),(fun h3=>(fun h4=>(by have:=of_decide_eq_true h3;first|omega|(have:=wrap64 (x:=(v1_0+1)) (by omega) (by omega);omega))))⟩)⟩)
theorem k192_111:XOk Tryz.prog 76 F192_111.ans:=Fq.ok ⟨_,_,Tryz.func76,rfl,by kernel_rfl⟩ pc192_111
noncomputable def g110_111(x0:Sl ByteArray):Bool:=(decide ((g192_111 x0)≥0))
noncomputable def F110_111:Fq:=⟨[.v (.sl E9),.fn 45 []],fun x0=>⟨⟨none,.bool (g110_111 x0)⟩⟩⟩
theorem pc110_111:FnOk Tryz.prog 44 F110_111.sh _ (F110_111.sh.flatMap Sh.bs) F110_111.f []:=
 fun x0 _ _=>pure_of_exec (X:=(mkX [(76,F192_111.ans)])) (R:=⟨.pure,[.tmp 4],[(.t 0,kB)],⟨[U],[]⟩⟩) (h:= .z) (ms:=[]) (p:=True) (mkX_ok ⟨k192_111,trivial⟩) Tryz.func44 rfl rfl (by kernel_rfl) (trivial)
theorem k110_111:XOk Tryz.prog 44 F110_111.ans:=Fq.ok ⟨_,_,Tryz.func44,rfl,by kernel_rfl⟩ pc110_111
noncomputable def g42_m1(x0:Int):Bool:=(bif(decide (x0<0))then true else(decide (x0>13)))
noncomputable def g42_m2(x1:ByteArray)(x3:Sl ByteArray):Bool:=(bif(decide (((x1:ByteArray).size:Int)>20))then true else(decide ((x3.n:Int)>20)))
noncomputable def g42_m3(x2:Int):Bool:=(bif(decide (x2<(-1099511627776)))then true else(decide (x2>1099511627776)))
noncomputable def g42(x0:Int)(x1:ByteArray)(x2:Int)(x3:Sl ByteArray):Int:=(bif(g42_m1 x0)then 3 else(bif(g42_m2 x1 x3)then 1 else(bif(g110_111 x3)then 1 else(bif(g42_m3 x2)then 2 else 0))))
noncomputable def F42:Fq:=⟨[.g [kI,kS,kI,.sl E9]],fun x0 x1 x2 x3=>⟨⟨none,.int .i64 (g42 x0 x1 x2 x3)⟩⟩⟩
theorem pc42:FnOk Tryz.prog 27 F42.sh _ (F42.sh.flatMap Sh.bs) F42.f []:=
 fun(x0:Int) x1 _ (x2:Int) x3 _ _=>pure_of_exec (X:=(mkX [(44,F110_111.ans)])) (R:=⟨.pure,[.tmp 2],[(.t 0,kI)],⟨[U],[]⟩⟩) (h:=(.s .z (.s (.j ⟨1030,[],[(.t 10,kB)],[],.f⟩ .z .z) (.s (.j ⟨1048582,[],[(.t 20,kB)],[],.f⟩ .z .z) (.s .z (.s (.j ⟨2147483652,[.b 0],[(.t 31,kB)],[],.f⟩ .z .z) .z)))))) (ms:=[]) (p:=True) (mkX_ok ⟨k110_111,trivial⟩) Tryz.func27 rfl rfl (by kernel_rfl) (trivial)
theorem k42:XOk Tryz.prog 27 F42.ans:=Fq.ok ⟨_,_,Tryz.func27,rfl,by kernel_rfl⟩ pc42
noncomputable def g44_m1(x1:ByteArray)(x3:Sl ByteArray):Bool:=(bif(!(g113 x1))then true else(decide ((x3.n:Int)>20)))
noncomputable def g44_l5(x3:Sl ByteArray):Nat→Int→Bool×Int
 |0,_=>default
 |k+1,v5_0=>(bif(decide (v5_0<(x3.n:Int)))then(bif(!(g113 (x3.at' (Int.toNat v5_0))))then(true,1)else(g44_l5 x3 k (IntKind.i64.wrap (v5_0+1))))else(false,default))
noncomputable def g44_r2(x3:Sl ByteArray):Bool×Int:=g44_l5 x3 ((Int.toNat ((x3.n:Int)-0))+1) 0
noncomputable def g44_p3(x3:Sl ByteArray):Bool:=(bif(g44_r2 x3).1 then false else true)
noncomputable def g44(x0:Int)(x1:ByteArray)(x2:Int)(x3:Sl ByteArray):Int:=(bif(!(g112 x0 0 13))then 3 else(bif(g44_m1 x1 x3)then 1 else(bif(g44_p3 x3)then(bif(!(g114 x2))then 2 else 0)else(g44_r2 x3).2)))
noncomputable def F44:Fq:=⟨[.g [kI,kS,kI,.sl E9]],fun x0 x1 x2 x3=>⟨⟨none,.int .i64 (g44 x0 x1 x2 x3)⟩⟩⟩
theorem pc44:FnOk Tryz.prog 38 F44.sh _ (F44.sh.flatMap Sh.bs) F44.f []:=
 fun(x0:Int) x1 n1 (x2:Int) x3 n3 _=>pure_of_exec (X:=(mkX [(20,F112.ans),(59,F113.ans),(60,F114.ans)])) (R:=⟨.pure,[.tmp 2],[(.t 0,kI)],⟨[U],[]⟩⟩) (h:=(.s .z (.s .z (.s (.j ⟨131078,[],[(.t 17,kB)],[],.f⟩ .z .z) (.j ⟨6,[],[],[],.f⟩ (.s .z (.lp ⟨14,[],[],[(.t 3,kI)],some 0,true,6,[],[],fun k (s:Int)=>g44_l5 x3 k s,.f,fun(s:Int)=>(0≤s∧s≤(x3.n:Int)),fun(s:Int)=>(Int.toNat ((x3.n:Int)-s)),none⟩ .z)) .z))))) (ms:=[]) (p:=((!(g112 x0 0 13))=false→((g44_m1 x1 x3)=false→(((0≤(0:Int)∧(0:Int)≤(x3.n:Int)))∧(∀(v5_0:Int),(0≤v5_0∧v5_0≤(x3.n:Int))→(((decide (v5_0<(x3.n:Int)))=true→((0:Int)≤v5_0∧v5_0<((x3.n:Nat):Int)))∧((decide (v5_0<(x3.n:Int)))=true→((!(g113 (x3.at' (Int.toNat v5_0))))=false→((0≤(IntKind.i64.wrap (v5_0+1))∧(IntKind.i64.wrap (v5_0+1))≤(x3.n:Int))∧(Int.toNat ((x3.n:Int)- (IntKind.i64.wrap (v5_0+1))))<(Int.toNat ((x3.n:Int)-v5_0))))))))))) (mkX_ok ⟨k112,k113,k114,trivial⟩) Tryz.func38 rfl rfl (by kernel_rfl) ((fun h1=>(fun h2=>⟨(by have:=h2;simp [g44_m1]at this;omega),(fun v5_0 hI3=>⟨(fun h4=>(by have:=h2;simp [g44_m1]at this;have:=of_decide_eq_true h4;omega)),(fun h5=>(fun h6=>(by have:=h2;simp [g44_m1]at this;have:=of_decide_eq_true h5;first|omega|(have:=wrap64 (x:=(v5_0+1)) (by omega) (by omega);omega))))⟩)⟩)))
theorem k44:XOk Tryz.prog 38 F44.ans:=Fq.ok ⟨_,_,Tryz.func38,rfl,by kernel_rfl⟩ pc44
end Go.Proofs.YtfbpilmhnpkfhaaGreatDoor
/-
  Walks: what functions of the program answer, as functions.
-/
namespace Go.Proofs.YtfbpilmhnpkfhaaGreatDoor
open Go Go.Vc Go.RowKit
set_option maxRecDepth 100000
set_option maxHeartbeats 4000000
noncomputable def g143(x0:ByteArray)(x1:ByteArray):Int:=(g200 x0 x1)
noncomputable def F143:Fq:=⟨[.v kS,.v kS],fun x0 x1=>⟨⟨none,.int .i64 (g143 x0 x1)⟩⟩⟩
theorem pc143:FnOk Tryz.prog 74 F143.sh _ (F143.sh.flatMap Sh.bs) F143.f []:=
 fun x0 _ x1 _=>pure_of_exec (X:=(mkX [(97,F200.ans)])) (R:=⟨.pure,[.tmp 4],[(.t 0,kI)],⟨[U],[]⟩⟩) (h:= .z) (ms:=[]) (p:=True) (mkX_ok ⟨k200,trivial⟩) Tryz.func74 rfl rfl (by kernel_rfl) (trivial)
theorem k143:XOk Tryz.prog 74 F143.ans:=Fq.ok ⟨_,_,Tryz.func74,rfl,by kernel_rfl⟩ pc143
noncomputable def g139(x0:ByteArray)(x2:ByteArray):Int:=(g143 x0 x2)
noncomputable def F139:Fq:=⟨[.g [kS,kS],.g [kS,kS]],fun x0 _ x2 _=>⟨⟨none,.int .i64 (g139 x0 x2)⟩⟩⟩
theorem pc139:FnOk Tryz.prog 70 F139.sh _ (F139.sh.flatMap Sh.bs) F139.f []:=
 fun x0 _ x1 _ x2 _ x3 _=>pure_of_exec (X:=(mkX [(74,F143.ans)])) (R:=⟨.pure,[.tmp 4],[(.t 0,kI)],⟨[U],[]⟩⟩) (h:= .z) (ms:=[]) (p:=True) (mkX_ok ⟨k143,trivial⟩) Tryz.func70 rfl rfl (by kernel_rfl) (trivial)
theorem k139:XOk Tryz.prog 70 F139.ans:=Fq.ok ⟨_,_,Tryz.func70,rfl,by kernel_rfl⟩ pc139
noncomputable def g138_139_l1(x0:Sl T160):Nat→Int→Bool×Bool
 |0,_=>default
 |k+1,v1_0=>(bif(decide (v1_0<(x0.n:Int)))then(bif(decide ((g139 (x0.at' (Int.toNat (IntKind.i64.wrap (v1_0-1)))).c0 (x0.at' (Int.toNat v1_0)).c0)≥0))then(true,false)else(g138_139_l1 x0 k (IntKind.i64.wrap (v1_0+1))))else(false,default))
noncomputable def g138_139_r1(x0:Sl T160):Bool×Bool:=g138_139_l1 x0 ((Int.toNat ((x0.n:Int)-1))+1) 1
noncomputable def g138_139_p2(x0:Sl T160):Bool:=(bif(g138_139_r1 x0).1 then false else true)
noncomputable def g138_139(x0:Sl T160):Bool:=(bif(g138_139_p2 x0)then true else(g138_139_r1 x0).2)
noncomputable def F138_139:Fq:=⟨[.v (.sl E160),.fn 70 []],fun x0=>⟨⟨none,.bool (g138_139 x0)⟩⟩⟩
theorem pc138_139:FnOk Tryz.prog 69 F138_139.sh _ (F138_139.sh.flatMap Sh.bs) F138_139.f []:=
 fun x0 n0 _=>pure_of_exec (X:=(mkX [(70,F139.ans)])) (R:=⟨.pure,[.tmp 4],[(.t 0,kB)],⟨[U],[]⟩⟩) (h:=(.s .z (.j ⟨16,[],[],[],.f⟩ (.s .z (.lp ⟨51,[],[],[(.t 5,kI)],some 0,true,16,[],[],fun k (s:Int)=>g138_139_l1 x0 k s,.f,fun(s:Int)=>(1≤s∧(s≤(x0.n:Int)∨s=1)),fun(s:Int)=>(Int.toNat ((x0.n:Int)-s)),none⟩ .z)) .z))) (ms:=[]) (p:=(((1≤(1:Int)∧((1:Int)≤(x0.n:Int)∨(1:Int)=1)))∧(∀(v1_0:Int),(1≤v1_0∧(v1_0≤(x0.n:Int)∨v1_0=1))→(((decide (v1_0<(x0.n:Int)))=true→((0≤(IntKind.i64.wrap (v1_0-1))∧(IntKind.i64.wrap (v1_0-1))<((x0.n:Nat):Int))∧(0≤v1_0∧v1_0<((x0.n:Nat):Int))))∧((decide (v1_0<(x0.n:Int)))=true→((decide ((g139 (x0.at' (Int.toNat (IntKind.i64.wrap (v1_0-1)))).c0 (x0.at' (Int.toNat v1_0)).c0)≥0))=false→((1≤(IntKind.i64.wrap (v1_0+1))∧((IntKind.i64.wrap (v1_0+1))≤(x0.n:Int)∨(IntKind.i64.wrap (v1_0+1))=1))∧(Int.toNat ((x0.n:Int)- (IntKind.i64.wrap (v1_0+1))))<(Int.toNat ((x0.n:Int)-v1_0))))))))) (mkX_ok ⟨k139,trivial⟩) Tryz.func69 rfl rfl (by kernel_rfl) (⟨(by omega),(fun v1_0 hI1=>⟨(fun h2=>⟨(by have:=of_decide_eq_true h2;first|omega|(have:=wrap64 (x:=(v1_0-1)) (by omega) (by omega);omega)),(by have:=of_decide_eq_true h2;omega)⟩),(fun h3=>(fun h4=>(by have:=of_decide_eq_true h3;have:=of_decide_eq_false h4;first|omega|(have:=wrap64 (x:=(v1_0+1)) (by omega) (by omega);omega))))⟩)⟩)
theorem k138_139:XOk Tryz.prog 69 F138_139.ans:=Fq.ok ⟨_,_,Tryz.func69,rfl,by kernel_rfl⟩ pc138_139
noncomputable def g198_l1(x0:Sl Int):Nat→Int→Bool×Int
 |0,_=>default
 |k+1,v1_0=>(bif(decide (v1_0<(x0.n:Int)))then(bif((x0.at' (Int.toNat v1_0))!=0)then(true,(x0.at' (Int.toNat v1_0)))else(g198_l1 x0 k (IntKind.i64.wrap (v1_0+1))))else(false,default))
noncomputable def g198_r1(x0:Sl Int):Bool×Int:=g198_l1 x0 ((Int.toNat ((x0.n:Int)-0))+1) 0
noncomputable def g198_p2(x0:Sl Int):Bool:=(bif(g198_r1 x0).1 then false else true)
noncomputable def g198(x0:Sl Int):Int:=(bif(g198_p2 x0)then 0 else(g198_r1 x0).2)
noncomputable def F198:Fq:=⟨[.v (.sl E3)],fun x0=>⟨⟨none,.int .i64 (g198 x0)⟩⟩⟩
theorem pc198:FnOk Tryz.prog 95 F198.sh _ (F198.sh.flatMap Sh.bs) F198.f []:=
 fun x0 n0 _=>pure_of_exec (X:=X0) (R:=⟨.pure,[.tmp 2],[(.t 0,kI)],⟨[U],[]⟩⟩) (h:=(.s .z (.s .z (.j ⟨12,[],[],[],.f⟩ (.s .z (.lp ⟨460,[],[],[(.t 8,kI)],some 0,true,12,[],[],fun k (s:Int)=>g198_l1 x0 k s,.f,fun(s:Int)=>(0≤s∧s≤(x0.n:Int)),fun(s:Int)=>(Int.toNat ((x0.n:Int)-s)),none⟩ .z)) .z)))) (ms:=[]) (p:=(((0≤(0:Int)∧(0:Int)≤(x0.n:Int)))∧(∀(v1_0:Int),(0≤v1_0∧v1_0≤(x0.n:Int))→(((decide (v1_0<(x0.n:Int)))=true→(0≤v1_0∧v1_0<((x0.n:Nat):Int)))∧((decide (v1_0<(x0.n:Int)))=true→(((x0.at' (Int.toNat v1_0))!=0)=false→((0≤(IntKind.i64.wrap (v1_0+1))∧(IntKind.i64.wrap (v1_0+1))≤(x0.n:Int))∧(Int.toNat ((x0.n:Int)- (IntKind.i64.wrap (v1_0+1))))<(Int.toNat ((x0.n:Int)-v1_0))))))))) X0_ok Tryz.func95 rfl rfl (by kernel_rfl) (⟨(by omega),(fun v1_0 hI1=>⟨(fun h2=>(by have:=of_decide_eq_true h2;omega)),(fun h3=>(fun h4=>(by have:=of_decide_eq_true h3;have:=bne_eq_false_iff_eq.1 h4;first|omega|(have:=wrap64 (x:=(v1_0+1)) (by omega) (by omega);omega))))⟩)⟩)
theorem k198:XOk Tryz.prog 95 F198.ans:=Fq.ok ⟨_,_,Tryz.func95,rfl,by kernel_rfl⟩ pc198
noncomputable def g225(x0:Int):Bool:=(x0 !=x0)
noncomputable def F225:Fq:=⟨[.v kI],fun x0=>⟨⟨none,.bool (g225 x0)⟩⟩⟩
theorem pc225:FnOk Tryz.prog 113 F225.sh _ (F225.sh.flatMap Sh.bs) F225.f []:=
 fun(x0:Int)=>pure_of_exec (X:=X0) (R:=⟨.pure,[.tmp 2],[(.t 0,kB)],⟨[U],[]⟩⟩) (h:= .z) (ms:=[]) (p:=True) X0_ok Tryz.func113 rfl rfl (by kernel_rfl) (trivial)
theorem k225:XOk Tryz.prog 113 F225.ans:=Fq.ok ⟨_,_,Tryz.func113,rfl,by kernel_rfl⟩ pc225
noncomputable def g199(x0:Int)(x1:Int):Int:=(bif(g225 x0)then(bif(g225 x1)then 0 else(-1))else(bif(g225 x1)then 1 else(bif(decide (x0<x1))then(-1)else(bif(decide (x0>x1))then 1 else 0))))
noncomputable def F199:Fq:=⟨[.v kI,.v kI],fun x0 x1=>⟨⟨none,.int .i64 (g199 x0 x1)⟩⟩⟩
theorem pc199:FnOk Tryz.prog 96 F199.sh _ (F199.sh.flatMap Sh.bs) F199.f []:=
 fun(x0:Int) (x1:Int)=>pure_of_exec (X:=(mkX [(113,F225.ans)])) (R:=⟨.pure,[.tmp 4],[(.t 0,kI)],⟨[U],[]⟩⟩) (h:= .z) (ms:=[]) (p:=True) (mkX_ok ⟨k225,trivial⟩) Tryz.func96 rfl rfl (by kernel_rfl) (trivial)
theorem k199:XOk Tryz.prog 96 F199.ans:=Fq.ok ⟨_,_,Tryz.func96,rfl,by kernel_rfl⟩ pc199
noncomputable def g141(x0:ByteArray)(x1:Int)(x2:ByteArray)(x3:Int):Int:=(g198 (Sl.lit ([(g199 x1 x3),(g143 x0 x2)]:List Int)))
noncomputable def F141:Fq:=⟨[.g [kS,kI],.g [kS,kI]],fun x0 x1 x2 x3=>⟨⟨none,.int .i64 (g141 x0 x1 x2 x3)⟩⟩⟩
theorem pc141:FnOk Tryz.prog 72 F141.sh _ (F141.sh.flatMap Sh.bs) F141.f []:=
 fun x0 _ (x1:Int) x2 _ (x3:Int)=>pure_of_exec (X:=(mkX [(74,F143.ans),(95,F198.ans),(96,F199.ans)])) (R:=⟨.pure,[.tmp 4],[(.t 0,kI)],⟨[U],[]⟩⟩) (h:= .z) (ms:=[]) (p:=True) (mkX_ok ⟨k143,k198,k199,trivial⟩) Tryz.func72 rfl rfl (by kernel_rfl) (trivial)
theorem k141:XOk Tryz.prog 72 F141.ans:=Fq.ok ⟨_,_,Tryz.func72,rfl,by kernel_rfl⟩ pc141
noncomputable def g140_141_l1(x0:Sl T164):Nat→Int→Bool×Bool
 |0,_=>default
 |k+1,v1_0=>(bif(decide (v1_0<(x0.n:Int)))then(bif(decide ((g141 (x0.at' (Int.toNat (IntKind.i64.wrap (v1_0-1)))).c0 (x0.at' (Int.toNat (IntKind.i64.wrap (v1_0-1)))).c1 (x0.at' (Int.toNat v1_0)).c0 (x0.at' (Int.toNat v1_0)).c1)≥0))then(true,false)else(g140_141_l1 x0 k (IntKind.i64.wrap (v1_0+1))))else(false,default))
noncomputable def g140_141_r1(x0:Sl T164):Bool×Bool:=g140_141_l1 x0 ((Int.toNat ((x0.n:Int)-1))+1) 1
noncomputable def g140_141_p2(x0:Sl T164):Bool:=(bif(g140_141_r1 x0).1 then false else true)
noncomputable def g140_141(x0:Sl T164):Bool:=(bif(g140_141_p2 x0)then true else(g140_141_r1 x0).2)
noncomputable def F140_141:Fq:=⟨[.v (.sl E164),.fn 72 []],fun x0=>⟨⟨none,.bool (g140_141 x0)⟩⟩⟩
theorem pc140_141:FnOk Tryz.prog 71 F140_141.sh _ (F140_141.sh.flatMap Sh.bs) F140_141.f []:=
 fun x0 n0 _=>pure_of_exec (X:=(mkX [(72,F141.ans)])) (R:=⟨.pure,[.tmp 4],[(.t 0,kB)],⟨[U],[]⟩⟩) (h:=(.s .z (.j ⟨16,[],[],[],.f⟩ (.s .z (.lp ⟨51,[],[],[(.t 5,kI)],some 0,true,16,[],[],fun k (s:Int)=>g140_141_l1 x0 k s,.f,fun(s:Int)=>(1≤s∧(s≤(x0.n:Int)∨s=1)),fun(s:Int)=>(Int.toNat ((x0.n:Int)-s)),none⟩ .z)) .z))) (ms:=[]) (p:=(((1≤(1:Int)∧((1:Int)≤(x0.n:Int)∨(1:Int)=1)))∧(∀(v1_0:Int),(1≤v1_0∧(v1_0≤(x0.n:Int)∨v1_0=1))→(((decide (v1_0<(x0.n:Int)))=true→((0≤(IntKind.i64.wrap (v1_0-1))∧(IntKind.i64.wrap (v1_0-1))<((x0.n:Nat):Int))∧(0≤v1_0∧v1_0<((x0.n:Nat):Int))))∧((decide (v1_0<(x0.n:Int)))=true→((decide ((g141 (x0.at' (Int.toNat (IntKind.i64.wrap (v1_0-1)))).c0 (x0.at' (Int.toNat (IntKind.i64.wrap (v1_0-1)))).c1 (x0.at' (Int.toNat v1_0)).c0 (x0.at' (Int.toNat v1_0)).c1)≥0))=false→((1≤(IntKind.i64.wrap (v1_0+1))∧((IntKind.i64.wrap (v1_0+1))≤(x0.n:Int)∨(IntKind.i64.wrap (v1_0+1))=1))∧(Int.toNat ((x0.n:Int)- (IntKind.i64.wrap (v1_0+1))))<(Int.toNat ((x0.n:Int)-v1_0))))))))) (mkX_ok ⟨k141,trivial⟩) Tryz.func71 rfl rfl (by kernel_rfl) (⟨(by omega),(fun v1_0 hI1=>⟨(fun h2=>⟨(by have:=of_decide_eq_true h2;first|omega|(have:=wrap64 (x:=(v1_0-1)) (by omega) (by omega);omega)),(by have:=of_decide_eq_true h2;omega)⟩),(fun h3=>(fun h4=>(by have:=of_decide_eq_true h3;have:=of_decide_eq_false h4;first|omega|(have:=wrap64 (x:=(v1_0+1)) (by omega) (by omega);omega))))⟩)⟩)
theorem k140_141:XOk Tryz.prog 71 F140_141.ans:=Fq.ok ⟨_,_,Tryz.func71,rfl,by kernel_rfl⟩ pc140_141
noncomputable def g142_143_l1(x0:Sl ByteArray):Nat→Int→Bool×Bool
 |0,_=>default
 |k+1,v1_0=>(bif(decide (v1_0<(x0.n:Int)))then(bif(decide ((g143 (x0.at' (Int.toNat (IntKind.i64.wrap (v1_0-1)))) (x0.at' (Int.toNat v1_0)))≥0))then(true,false)else(g142_143_l1 x0 k (IntKind.i64.wrap (v1_0+1))))else(false,default))
noncomputable def g142_143_r1(x0:Sl ByteArray):Bool×Bool:=g142_143_l1 x0 ((Int.toNat ((x0.n:Int)-1))+1) 1
noncomputable def g142_143_p2(x0:Sl ByteArray):Bool:=(bif(g142_143_r1 x0).1 then false else true)
noncomputable def g142_143(x0:Sl ByteArray):Bool:=(bif(g142_143_p2 x0)then true else(g142_143_r1 x0).2)
noncomputable def F142_143:Fq:=⟨[.v (.sl E9),.fn 74 []],fun x0=>⟨⟨none,.bool (g142_143 x0)⟩⟩⟩
theorem pc142_143:FnOk Tryz.prog 73 F142_143.sh _ (F142_143.sh.flatMap Sh.bs) F142_143.f []:=
 fun x0 n0 _=>pure_of_exec (X:=(mkX [(74,F143.ans)])) (R:=⟨.pure,[.tmp 4],[(.t 0,kB)],⟨[U],[]⟩⟩) (h:=(.s .z (.j ⟨16,[],[],[],.f⟩ (.s .z (.lp ⟨51,[],[],[(.t 5,kI)],some 0,true,16,[],[],fun k (s:Int)=>g142_143_l1 x0 k s,.f,fun(s:Int)=>(1≤s∧(s≤(x0.n:Int)∨s=1)),fun(s:Int)=>(Int.toNat ((x0.n:Int)-s)),none⟩ .z)) .z))) (ms:=[]) (p:=(((1≤(1:Int)∧((1:Int)≤(x0.n:Int)∨(1:Int)=1)))∧(∀(v1_0:Int),(1≤v1_0∧(v1_0≤(x0.n:Int)∨v1_0=1))→(((decide (v1_0<(x0.n:Int)))=true→((0≤(IntKind.i64.wrap (v1_0-1))∧(IntKind.i64.wrap (v1_0-1))<((x0.n:Nat):Int))∧(0≤v1_0∧v1_0<((x0.n:Nat):Int))))∧((decide (v1_0<(x0.n:Int)))=true→((decide ((g143 (x0.at' (Int.toNat (IntKind.i64.wrap (v1_0-1)))) (x0.at' (Int.toNat v1_0)))≥0))=false→((1≤(IntKind.i64.wrap (v1_0+1))∧((IntKind.i64.wrap (v1_0+1))≤(x0.n:Int)∨(IntKind.i64.wrap (v1_0+1))=1))∧(Int.toNat ((x0.n:Int)- (IntKind.i64.wrap (v1_0+1))))<(Int.toNat ((x0.n:Int)-v1_0))))))))) (mkX_ok ⟨k143,trivial⟩) Tryz.func73 rfl rfl (by kernel_rfl) (⟨(by omega),(fun v1_0 hI1=>⟨(fun h2=>⟨(by have:=of_decide_eq_true h2;first|omega|(have:=wrap64 (x:=(v1_0-1)) (by omega) (by omega);omega)),(by have:=of_decide_eq_true h2;omega)⟩),(fun h3=>(fun h4=>(by have:=of_decide_eq_true h3;have:=of_decide_eq_false h4;first|omega|(have:=wrap64 (x:=(v1_0+1)) (by omega) (by omega);omega))))⟩)⟩)
theorem k142_143:XOk Tryz.prog 73 F142_143.ans:=Fq.ok ⟨_,_,Tryz.func73,rfl,by kernel_rfl⟩ pc142_143
noncomputable def g132(x0:ByteArray):Bool:=(!(g116 x0))
noncomputable def F132:Fq:=⟨[.v kS],fun x0=>⟨⟨none,.bool (g132 x0)⟩⟩⟩
theorem pc132:FnOk Tryz.prog 63 F132.sh _ (F132.sh.flatMap Sh.bs) F132.f []:=
 fun x0 _=>pure_of_exec (X:=(mkX [(47,F116.ans)])) (R:=⟨.pure,[.tmp 2],[(.t 0,kB)],⟨[U],[]⟩⟩) (h:= .z) (ms:=[]) (p:=True) (mkX_ok ⟨k116,trivial⟩) Tryz.func63 rfl rfl (by kernel_rfl) (trivial)
theorem k132:XOk Tryz.prog 63 F132.ans:=Fq.ok ⟨_,_,Tryz.func63,rfl,by kernel_rfl⟩ pc132
noncomputable def g192_132_l1(x0:Sl ByteArray):Nat→Int→Bool×Int
 |0,_=>default
 |k+1,v1_0=>(bif(decide (v1_0<(x0.n:Int)))then(bif(g132 (x0.at' (Int.toNat v1_0)))then(true,v1_0)else(g192_132_l1 x0 k (IntKind.i64.wrap (v1_0+1))))else(false,default))
noncomputable def g192_132_r1(x0:Sl ByteArray):Bool×Int:=g192_132_l1 x0 ((Int.toNat ((x0.n:Int)-0))+1) 0
noncomputable def g192_132_p2(x0:Sl ByteArray):Bool:=(bif(g192_132_r1 x0).1 then false else true)
noncomputable def g192_132(x0:Sl ByteArray):Int:=(bif(g192_132_p2 x0)then(-1)else(g192_132_r1 x0).2)
noncomputable def F192_132:Fq:=⟨[.v (.sl E9),.fn 63 []],fun x0=>⟨⟨none,.int .i64 (g192_132 x0)⟩⟩⟩
theorem pc192_132:FnOk Tryz.prog 76 F192_132.sh _ (F192_132.sh.flatMap Sh.bs) F192_132.f []:=
 fun x0 n0 _=>pure_of_exec (X:=(mkX [(63,F132.ans)])) (R:=⟨.pure,[.tmp 4],[(.t 0,kI)],⟨[U],[]⟩⟩) (h:=(.s .z (.j ⟨16,[],[],[],.f⟩ (.s .z (.lp ⟨403,[],[],[(.t 8,kI)],some 0,true,16,[],[],fun k (s:Int)=>g192_132_l1 x0 k s,.f,fun(s:Int)=>(0≤s∧s≤(x0.n:Int)),fun(s:Int)=>(Int.toNat ((x0.n:Int)-s)),none⟩ .z)) .z))) (ms:=[]) (p:=(((0≤(0:Int)∧(0:Int)≤(x0.n:Int)))∧(∀(v1_0:Int),(0≤v1_0∧v1_0≤(x0.n:Int))→(((decide (v1_0<(x0.n:Int)))=true→(0≤v1_0∧v1_0<((x0.n:Nat):Int)))∧((decide (v1_0<(x0.n:Int)))=true→((g132 (x0.at' (Int.toNat v1_0)))=false→((0≤(IntKind.i64.wrap (v1_0+1))∧(IntKind.i64.wrap (v1_0+1))≤(x0.n:Int))∧(Int.toNat ((x0.n:Int)- (IntKind.i64.wrap (v1_0+1))))<(Int.toNat ((x0.n:Int)-v1_0))))))))) (mkX_ok ⟨k132,trivial⟩) Tryz.func76 rfl rfl (by kernel_rfl) (⟨(by omega),(fun v1_0 hI1=>⟨(fun h2=>(by have:=of_decide_eq_true h2;omega)),(fun h3=>(fun h4=>(by have:=of_decide_eq_true h3;first|omega|(have:=wrap64 (x:=(v1_0+1)) (by omega) (by omega);omega))))⟩)⟩)
theorem k192_132:XOk Tryz.prog 76 F192_132.ans:=Fq.ok ⟨_,_,Tryz.func76,rfl,by kernel_rfl⟩ pc192_132
noncomputable def g110_132(x0:Sl ByteArray):Bool:=(decide ((g192_132 x0)≥0))
noncomputable def F110_132:Fq:=⟨[.v (.sl E9),.fn 63 []],fun x0=>⟨⟨none,.bool (g110_132 x0)⟩⟩⟩
theorem pc110_132:FnOk Tryz.prog 44 F110_132.sh _ (F110_132.sh.flatMap Sh.bs) F110_132.f []:=
 fun x0 _ _=>pure_of_exec (X:=(mkX [(76,F192_132.ans)])) (R:=⟨.pure,[.tmp 4],[(.t 0,kB)],⟨[U],[]⟩⟩) (h:= .z) (ms:=[]) (p:=True) (mkX_ok ⟨k192_132,trivial⟩) Tryz.func44 rfl rfl (by kernel_rfl) (trivial)
theorem k110_132:XOk Tryz.prog 44 F110_132.ans:=Fq.ok ⟨_,_,Tryz.func44,rfl,by kernel_rfl⟩ pc110_132
noncomputable def g134_m1(x0:ByteArray)(x1:ByteArray):Bool:=(bif(!(g115 x0))then true else(!(g116 x1)))
noncomputable def g134(x0:ByteArray)(x1:ByteArray):Bool:=(g134_m1 x0 x1)
noncomputable def F134:Fq:=⟨[.g [kS,kS]],fun x0 x1=>⟨⟨none,.bool (g134 x0 x1)⟩⟩⟩
theorem pc134:FnOk Tryz.prog 65 F134.sh _ (F134.sh.flatMap Sh.bs) F134.f []:=
 fun x0 _ x1 _=>pure_of_exec (X:=(mkX [(46,F115.ans),(47,F116.ans)])) (R:=⟨.pure,[.tmp 2],[(.t 0,kB)],⟨[U],[]⟩⟩) (h:=(.s .z (.j ⟨4,[.b 0],[(.t 2,kB)],[],.f⟩ .z .z))) (ms:=[]) (p:=True) (mkX_ok ⟨k115,k116,trivial⟩) Tryz.func65 rfl rfl (by kernel_rfl) (trivial)
theorem k134:XOk Tryz.prog 65 F134.ans:=Fq.ok ⟨_,_,Tryz.func65,rfl,by kernel_rfl⟩ pc134
noncomputable def g196_134_l1(x0:Sl T160):Nat→Int→Bool×Int
 |0,_=>default
 |k+1,v1_0=>(bif(decide (v1_0<(x0.n:Int)))then(bif(g134 (x0.at' (Int.toNat v1_0)).c0 (x0.at' (Int.toNat v1_0)).c1)then(true,v1_0)else(g196_134_l1 x0 k (IntKind.i64.wrap (v1_0+1))))else(false,default))
noncomputable def g196_134_r1(x0:Sl T160):Bool×Int:=g196_134_l1 x0 ((Int.toNat ((x0.n:Int)-0))+1) 0
noncomputable def g196_134_p2(x0:Sl T160):Bool:=(bif(g196_134_r1 x0).1 then false else true)
noncomputable def g196_134(x0:Sl T160):Int:=(bif(g196_134_p2 x0)then(-1)else(g196_134_r1 x0).2)
noncomputable def F196_134:Fq:=⟨[.v (.sl E160),.fn 65 []],fun x0=>⟨⟨none,.int .i64 (g196_134 x0)⟩⟩⟩
theorem pc196_134:FnOk Tryz.prog 93 F196_134.sh _ (F196_134.sh.flatMap Sh.bs) F196_134.f []:=
 fun x0 n0 _=>pure_of_exec (X:=(mkX [(65,F134.ans)])) (R:=⟨.pure,[.tmp 4],[(.t 0,kI)],⟨[U],[]⟩⟩) (h:=(.s .z (.j ⟨16,[],[],[],.f⟩ (.s .z (.lp ⟨403,[],[],[(.t 8,kI)],some 0,true,16,[],[],fun k (s:Int)=>g196_134_l1 x0 k s,.f,fun(s:Int)=>(0≤s∧s≤(x0.n:Int)),fun(s:Int)=>(Int.toNat ((x0.n:Int)-s)),none⟩ .z)) .z))) (ms:=[]) (p:=(((0≤(0:Int)∧(0:Int)≤(x0.n:Int)))∧(∀(v1_0:Int),(0≤v1_0∧v1_0≤(x0.n:Int))→(((decide (v1_0<(x0.n:Int)))=true→(0≤v1_0∧v1_0<((x0.n:Nat):Int)))∧((decide (v1_0<(x0.n:Int)))=true→((g134 (x0.at' (Int.toNat v1_0)).c0 (x0.at' (Int.toNat v1_0)).c1)=false→((0≤(IntKind.i64.wrap (v1_0+1))∧(IntKind.i64.wrap (v1_0+1))≤(x0.n:Int))∧(Int.toNat ((x0.n:Int)- (IntKind.i64.wrap (v1_0+1))))<(Int.toNat ((x0.n:Int)-v1_0))))))))) (mkX_ok ⟨k134,trivial⟩) Tryz.func93 rfl rfl (by kernel_rfl) (⟨(by omega),(fun v1_0 hI1=>⟨(fun h2=>(by have:=of_decide_eq_true h2;omega)),(fun h3=>(fun h4=>(by have:=of_decide_eq_true h3;first|omega|(have:=wrap64 (x:=(v1_0+1)) (by omega) (by omega);omega))))⟩)⟩)
theorem k196_134:XOk Tryz.prog 93 F196_134.ans:=Fq.ok ⟨_,_,Tryz.func93,rfl,by kernel_rfl⟩ pc196_134
noncomputable def g133_134(x0:Sl T160):Bool:=(decide ((g196_134 x0)≥0))
noncomputable def F133_134:Fq:=⟨[.v (.sl E160),.fn 65 []],fun x0=>⟨⟨none,.bool (g133_134 x0)⟩⟩⟩
theorem pc133_134:FnOk Tryz.prog 64 F133_134.sh _ (F133_134.sh.flatMap Sh.bs) F133_134.f []:=
 fun x0 _ _=>pure_of_exec (X:=(mkX [(93,F196_134.ans)])) (R:=⟨.pure,[.tmp 4],[(.t 0,kB)],⟨[U],[]⟩⟩) (h:= .z) (ms:=[]) (p:=True) (mkX_ok ⟨k196_134,trivial⟩) Tryz.func64 rfl rfl (by kernel_rfl) (trivial)
theorem k133_134:XOk Tryz.prog 64 F133_134.ans:=Fq.ok ⟨_,_,Tryz.func64,rfl,by kernel_rfl⟩ pc133_134
noncomputable def g136(x0:ByteArray):Bool:=(!(g116 x0))
noncomputable def F136:Fq:=⟨[.g [kS,kI]],fun x0 _=>⟨⟨none,.bool (g136 x0)⟩⟩⟩
theorem pc136:FnOk Tryz.prog 67 F136.sh _ (F136.sh.flatMap Sh.bs) F136.f []:=
 fun x0 _ (x1:Int)=>pure_of_exec (X:=(mkX [(47,F116.ans)])) (R:=⟨.pure,[.tmp 2],[(.t 0,kB)],⟨[U],[]⟩⟩) (h:= .z) (ms:=[]) (p:=True) (mkX_ok ⟨k116,trivial⟩) Tryz.func67 rfl rfl (by kernel_rfl) (trivial)
theorem k136:XOk Tryz.prog 67 F136.ans:=Fq.ok ⟨_,_,Tryz.func67,rfl,by kernel_rfl⟩ pc136
noncomputable def g197_136_l1(x0:Sl T164):Nat→Int→Bool×Int
 |0,_=>default
 |k+1,v1_0=>(bif(decide (v1_0<(x0.n:Int)))then(bif(g136 (x0.at' (Int.toNat v1_0)).c0)then(true,v1_0)else(g197_136_l1 x0 k (IntKind.i64.wrap (v1_0+1))))else(false,default))
noncomputable def g197_136_r1(x0:Sl T164):Bool×Int:=g197_136_l1 x0 ((Int.toNat ((x0.n:Int)-0))+1) 0
noncomputable def g197_136_p2(x0:Sl T164):Bool:=(bif(g197_136_r1 x0).1 then false else true)
noncomputable def g197_136(x0:Sl T164):Int:=(bif(g197_136_p2 x0)then(-1)else(g197_136_r1 x0).2)
noncomputable def F197_136:Fq:=⟨[.v (.sl E164),.fn 67 []],fun x0=>⟨⟨none,.int .i64 (g197_136 x0)⟩⟩⟩
theorem pc197_136:FnOk Tryz.prog 94 F197_136.sh _ (F197_136.sh.flatMap Sh.bs) F197_136.f []:=
 fun x0 n0 _=>pure_of_exec (X:=(mkX [(67,F136.ans)])) (R:=⟨.pure,[.tmp 4],[(.t 0,kI)],⟨[U],[]⟩⟩) (h:=(.s .z (.j ⟨16,[],[],[],.f⟩ (.s .z (.lp ⟨403,[],[],[(.t 8,kI)],some 0,true,16,[],[],fun k (s:Int)=>g197_136_l1 x0 k s,.f,fun(s:Int)=>(0≤s∧s≤(x0.n:Int)),fun(s:Int)=>(Int.toNat ((x0.n:Int)-s)),none⟩ .z)) .z))) (ms:=[]) (p:=(((0≤(0:Int)∧(0:Int)≤(x0.n:Int)))∧(∀(v1_0:Int),(0≤v1_0∧v1_0≤(x0.n:Int))→(((decide (v1_0<(x0.n:Int)))=true→(0≤v1_0∧v1_0<((x0.n:Nat):Int)))∧((decide (v1_0<(x0.n:Int)))=true→((g136 (x0.at' (Int.toNat v1_0)).c0)=false→((0≤(IntKind.i64.wrap (v1_0+1))∧(IntKind.i64.wrap (v1_0+1))≤(x0.n:Int))∧(Int.toNat ((x0.n:Int)- (IntKind.i64.wrap (v1_0+1))))<(Int.toNat ((x0.n:Int)-v1_0))))))))) (mkX_ok ⟨k136,trivial⟩) Tryz.func94 rfl rfl (by kernel_rfl) (⟨(by omega),(fun v1_0 hI1=>⟨(fun h2=>(by have:=of_decide_eq_true h2;omega)),(fun h3=>(fun h4=>(by have:=of_decide_eq_true h3;first|omega|(have:=wrap64 (x:=(v1_0+1)) (by omega) (by omega);omega))))⟩)⟩)
theorem k197_136:XOk Tryz.prog 94 F197_136.ans:=Fq.ok ⟨_,_,Tryz.func94,rfl,by kernel_rfl⟩ pc197_136
noncomputable def g135_136(x0:Sl T164):Bool:=(decide ((g197_136 x0)≥0))
noncomputable def F135_136:Fq:=⟨[.v (.sl E164),.fn 67 []],fun x0=>⟨⟨none,.bool (g135_136 x0)⟩⟩⟩
theorem pc135_136:FnOk Tryz.prog 66 F135_136.sh _ (F135_136.sh.flatMap Sh.bs) F135_136.f []:=
 fun x0 _ _=>pure_of_exec (X:=(mkX [(94,F197_136.ans)])) (R:=⟨.pure,[.tmp 4],[(.t 0,kB)],⟨[U],[]⟩⟩) (h:= .z) (ms:=[]) (p:=True) (mkX_ok ⟨k197_136,trivial⟩) Tryz.func66 rfl rfl (by kernel_rfl) (trivial)
theorem k135_136:XOk Tryz.prog 66 F135_136.ans:=Fq.ok ⟨_,_,Tryz.func66,rfl,by kernel_rfl⟩ pc135_136
noncomputable def g137(x1:Int):Bool:=(!(g117 x1))
noncomputable def F137:Fq:=⟨[.g [kS,kI]],fun _ x1=>⟨⟨none,.bool (g137 x1)⟩⟩⟩
theorem pc137:FnOk Tryz.prog 68 F137.sh _ (F137.sh.flatMap Sh.bs) F137.f []:=
 fun x0 _ (x1:Int)=>pure_of_exec (X:=(mkX [(48,F117.ans)])) (R:=⟨.pure,[.tmp 2],[(.t 0,kB)],⟨[U],[]⟩⟩) (h:= .z) (ms:=[]) (p:=True) (mkX_ok ⟨k117,trivial⟩) Tryz.func68 rfl rfl (by kernel_rfl) (trivial)
theorem k137:XOk Tryz.prog 68 F137.ans:=Fq.ok ⟨_,_,Tryz.func68,rfl,by kernel_rfl⟩ pc137
noncomputable def g197_137_l1(x0:Sl T164):Nat→Int→Bool×Int
 |0,_=>default
 |k+1,v1_0=>(bif(decide (v1_0<(x0.n:Int)))then(bif(g137 (x0.at' (Int.toNat v1_0)).c1)then(true,v1_0)else(g197_137_l1 x0 k (IntKind.i64.wrap (v1_0+1))))else(false,default))
noncomputable def g197_137_r1(x0:Sl T164):Bool×Int:=g197_137_l1 x0 ((Int.toNat ((x0.n:Int)-0))+1) 0
noncomputable def g197_137_p2(x0:Sl T164):Bool:=(bif(g197_137_r1 x0).1 then false else true)
noncomputable def g197_137(x0:Sl T164):Int:=(bif(g197_137_p2 x0)then(-1)else(g197_137_r1 x0).2)
noncomputable def F197_137:Fq:=⟨[.v (.sl E164),.fn 68 []],fun x0=>⟨⟨none,.int .i64 (g197_137 x0)⟩⟩⟩
theorem pc197_137:FnOk Tryz.prog 94 F197_137.sh _ (F197_137.sh.flatMap Sh.bs) F197_137.f []:=
 fun x0 n0 _=>pure_of_exec (X:=(mkX [(68,F137.ans)])) (R:=⟨.pure,[.tmp 4],[(.t 0,kI)],⟨[U],[]⟩⟩) (h:=(.s .z (.j ⟨16,[],[],[],.f⟩ (.s .z (.lp ⟨403,[],[],[(.t 8,kI)],some 0,true,16,[],[],fun k (s:Int)=>g197_137_l1 x0 k s,.f,fun(s:Int)=>(0≤s∧s≤(x0.n:Int)),fun(s:Int)=>(Int.toNat ((x0.n:Int)-s)),none⟩ .z)) .z))) (ms:=[]) (p:=(((0≤(0:Int)∧(0:Int)≤(x0.n:Int)))∧(∀(v1_0:Int),(0≤v1_0∧v1_0≤(x0.n:Int))→(((decide (v1_0<(x0.n:Int)))=true→(0≤v1_0∧v1_0<((x0.n:Nat):Int)))∧((decide (v1_0<(x0.n:Int)))=true→((g137 (x0.at' (Int.toNat v1_0)).c1)=false→((0≤(IntKind.i64.wrap (v1_0+1))∧(IntKind.i64.wrap (v1_0+1))≤(x0.n:Int))∧(Int.toNat ((x0.n:Int)- (IntKind.i64.wrap (v1_0+1))))<(Int.toNat ((x0.n:Int)-v1_0))))))))) (mkX_ok ⟨k137,trivial⟩) Tryz.func94 rfl rfl (by kernel_rfl) (⟨(by omega),(fun v1_0 hI1=>⟨(fun h2=>(by have:=of_decide_eq_true h2;omega)),(fun h3=>(fun h4=>(by have:=of_decide_eq_true h3;first|omega|(have:=wrap64 (x:=(v1_0+1)) (by omega) (by omega);omega))))⟩)⟩)
theorem k197_137:XOk Tryz.prog 94 F197_137.ans:=Fq.ok ⟨_,_,Tryz.func94,rfl,by kernel_rfl⟩ pc197_137
noncomputable def g135_137(x0:Sl T164):Bool:=(decide ((g197_137 x0)≥0))
noncomputable def F135_137:Fq:=⟨[.v (.sl E164),.fn 68 []],fun x0=>⟨⟨none,.bool (g135_137 x0)⟩⟩⟩
theorem pc135_137:FnOk Tryz.prog 66 F135_137.sh _ (F135_137.sh.flatMap Sh.bs) F135_137.f []:=
 fun x0 _ _=>pure_of_exec (X:=(mkX [(94,F197_137.ans)])) (R:=⟨.pure,[.tmp 4],[(.t 0,kB)],⟨[U],[]⟩⟩) (h:= .z) (ms:=[]) (p:=True) (mkX_ok ⟨k197_137,trivial⟩) Tryz.func66 rfl rfl (by kernel_rfl) (trivial)
theorem k135_137:XOk Tryz.prog 66 F135_137.ans:=Fq.ok ⟨_,_,Tryz.func66,rfl,by kernel_rfl⟩ pc135_137
noncomputable def g131(x3:Sl T160)(x4:Sl ByteArray)(x5:Sl T164):Int:=(IntKind.i64.wrap ((IntKind.i64.wrap ((x3.n:Int)+(x4.n:Int)))+(x5.n:Int)))
noncomputable def F131:Fq:=⟨[.g [kI,kS,kI,.sl E160,.sl E9,.sl E164]],fun _ _ _ x3 x4 x5=>⟨⟨none,.int .i64 (g131 x3 x4 x5)⟩⟩⟩
theorem pc131:FnOk Tryz.prog 62 F131.sh _ (F131.sh.flatMap Sh.bs) F131.f []:=
 fun(x0:Int) x1 _ (x2:Int) x3 _ _ x4 _ _ x5 _ _=>pure_of_exec (X:=X0) (R:=⟨.pure,[.tmp 2],[(.t 0,kI)],⟨[U],[]⟩⟩) (h:= .z) (ms:=[]) (p:=True) X0_ok Tryz.func62 rfl rfl (by kernel_rfl) (trivial)
theorem k131:XOk Tryz.prog 62 F131.ans:=Fq.ok ⟨_,_,Tryz.func62,rfl,by kernel_rfl⟩ pc131
noncomputable def g201s(x0:ByteArray)(x2:ByteArray):Bool:=((x0:ByteArray).toList==(x2:ByteArray).toList)
noncomputable def F201s:Fq:=⟨[.g [kS,kI],.r [kS]],fun x0 _ x2=>⟨⟨none,.bool (g201s x0 x2)⟩⟩⟩
theorem pc201s:FnOk Tryz.prog 98 F201s.sh _ (F201s.sh.flatMap Sh.bs) F201s.f []:=
 fun x0 _ (x1:Int) x2=>pure_of_exec (X:=X0) (R:=⟨.pure,[.tmp 3],[(.t 0,kB)],⟨[U],[]⟩⟩) (h:= .z) (ms:=[]) (p:=True) X0_ok Tryz.func98 rfl rfl (by kernel_rfl) (trivial)
theorem k201s:XOk Tryz.prog 98 F201s.ans:=Fq.ok ⟨_,_,Tryz.func98,rfl,by kernel_rfl⟩ pc201s
noncomputable def g197_201s_l1(x0:Sl T164)(x1:ByteArray):Nat→Int→Bool×Int
 |0,_=>default
 |k+1,v1_0=>(bif(decide (v1_0<(x0.n:Int)))then(bif(g201s (x0.at' (Int.toNat v1_0)).c0 x1)then(true,v1_0)else(g197_201s_l1 x0 x1 k (IntKind.i64.wrap (v1_0+1))))else(false,default))
noncomputable def g197_201s_r1(x0:Sl T164)(x1:ByteArray):Bool×Int:=g197_201s_l1 x0 x1 ((Int.toNat ((x0.n:Int)-0))+1) 0
noncomputable def g197_201s_p2(x0:Sl T164)(x1:ByteArray):Bool:=(bif(g197_201s_r1 x0 x1).1 then false else true)
noncomputable def g197_201s(x0:Sl T164)(x1:ByteArray):Int:=(bif(g197_201s_p2 x0 x1)then(-1)else(g197_201s_r1 x0 x1).2)
noncomputable def F197_201s:Fq:=⟨[.v (.sl E164),.fn 98 [[kS]]],fun x0 x1=>⟨⟨none,.int .i64 (g197_201s x0 x1)⟩⟩⟩
theorem pc197_201s:FnOk Tryz.prog 94 F197_201s.sh _ (F197_201s.sh.flatMap Sh.bs) F197_201s.f []:=
 fun x0 n0 _ x1=>pure_of_exec (X:=(mkX [(98,F201s.ans)])) (R:=⟨.pure,[.tmp 4],[(.t 0,kI)],⟨[U],[]⟩⟩) (h:=(.s .z (.j ⟨16,[],[],[],.f⟩ (.s .z (.lp ⟨403,[],[],[(.t 8,kI)],some 0,true,16,[],[],fun k (s:Int)=>g197_201s_l1 x0 x1 k s,.f,fun(s:Int)=>(0≤s∧s≤(x0.n:Int)),fun(s:Int)=>(Int.toNat ((x0.n:Int)-s)),none⟩ .z)) .z))) (ms:=[]) (p:=(((0≤(0:Int)∧(0:Int)≤(x0.n:Int)))∧(∀(v1_0:Int),(0≤v1_0∧v1_0≤(x0.n:Int))→(((decide (v1_0<(x0.n:Int)))=true→(0≤v1_0∧v1_0<((x0.n:Nat):Int)))∧((decide (v1_0<(x0.n:Int)))=true→((g201s (x0.at' (Int.toNat v1_0)).c0 x1)=false→((0≤(IntKind.i64.wrap (v1_0+1))∧(IntKind.i64.wrap (v1_0+1))≤(x0.n:Int))∧(Int.toNat ((x0.n:Int)- (IntKind.i64.wrap (v1_0+1))))<(Int.toNat ((x0.n:Int)-v1_0))))))))) (mkX_ok ⟨k201s,trivial⟩) Tryz.func94 rfl rfl (by kernel_rfl) (⟨(by omega),(fun v1_0 hI1=>⟨(fun h2=>(by have:=of_decide_eq_true h2;omega)),(fun h3=>(fun h4=>(by have:=of_decide_eq_true h3;first|omega|(have:=wrap64 (x:=(v1_0+1)) (by omega) (by omega);omega))))⟩)⟩)
theorem k197_201s:XOk Tryz.prog 94 F197_201s.ans:=Fq.ok ⟨_,_,Tryz.func94,rfl,by kernel_rfl⟩ pc197_201s
noncomputable def g144(x0:Sl T164)(x1:ByteArray):Int:=(g197_201s x0 x1)
noncomputable def F144:Fq:=⟨[.v (.sl E164),.v kS],fun x0 x1=>⟨⟨none,.int .i64 (g144 x0 x1)⟩⟩⟩
theorem pc144:FnOk Tryz.prog 75 F144.sh _ (F144.sh.flatMap Sh.bs) F144.f []:=
 fun x0 _ _ x1 _=>pure_of_exec (X:=(mkX [(94,F197_201s.ans)])) (R:=⟨.pure,[.tmp 4],[(.t 0,kI)],⟨[U],[]⟩⟩) (h:=(.s .z (.s (.fz 3 0 .z) .z))) (ms:=[]) (p:=True) (mkX_ok ⟨k197_201s,trivial⟩) Tryz.func75 rfl rfl (by kernel_rfl) (trivial)
theorem k144:XOk Tryz.prog 75 F144.ans:=Fq.ok ⟨_,_,Tryz.func75,rfl,by kernel_rfl⟩ pc144
noncomputable def g72_m1(x0:Int):Bool:=(bif(decide (x0<1))then true else(decide (x0>6)))
noncomputable def g72_m2(x0:Int)(x1:ByteArray):ByteArray:=(bif(x0==1)then⟨#[]⟩else x1)
noncomputable def g72_m3(x0:Int)(x2:Int):Int:=(bif(x0==1)then x2 else(bif(x0==2)then 0 else x2))
noncomputable def g72_m4(x0:Int)(x3:Sl T160):Sl T160:=(bif(x0==1)then x3 else(bif(x0==2)then x3 else(bif(x0==3)then(nilSl:Sl T160)else x3)))
noncomputable def g72_m5(x0:Int)(x4:Sl ByteArray):Sl ByteArray:=(bif(x0==1)then x4 else(bif(x0==2)then x4 else(bif(x0==3)then x4 else(bif(x0==6)then x4 else(nilSl:Sl ByteArray)))))
noncomputable def g72_m6(x0:Int)(x5:Sl T164):Sl T164:=(bif(x0==1)then x5 else(bif(x0==2)then x5 else(bif(x0==3)then x5 else(bif(x0==6)then(nilSl:Sl T164)else x5))))
noncomputable def g72_m7(x0:Int)(x1:ByteArray)(x2:Int)(x3:Sl T160)(x4:Sl ByteArray)(x5:Sl T164):Bool:=(bif(!(((g72_m2 x0 x1):ByteArray).toList==(⟨#[]⟩:ByteArray).toList))then true else(bif((g72_m3 x0 x2)!=0)then true else(decide ((g131 (g72_m4 x0 x3) (g72_m5 x0 x4) (g72_m6 x0 x5))>0))))
noncomputable def g72_m8(x0:Int)(x3:Sl T160)(x4:Sl ByteArray)(x5:Sl T164):Bool:=(bif(decide (x0≥3))then(bif(decide ((g131 x3 x4 x5)<1))then true else(decide ((g131 x3 x4 x5)>20)))else false)
noncomputable def g72_m9(x1:ByteArray)(x4:Sl ByteArray):Bool:=(bif(!(g116 x1))then true else(g110_132 x4))
noncomputable def g72_m10(x2:Int)(x5:Sl T164):Bool:=(bif(!(g117 x2))then true else(g135_137 x5))
noncomputable def g72_m11(x0:Int)(x3:Sl T160)(x4:Sl ByteArray)(x5:Sl T164):Bool:=(bif(g138_139 x3)then(bif(g140_141 x5)then(bif(x0 !=5)then true else(g142_143 x4))else false)else false)
noncomputable def g72_m12(x5:Sl T164)(v29_0:Bool)(v29_1:Int):Bool:=(bif v29_0 then(decide ((g144 (Sl.part x5 0 v29_1) (x5.at' (Int.toNat v29_1)).c0)<0))else false)
noncomputable def g72_l29(x5:Sl T164):Nat→Bool→Int→Bool
 |0,_,_=>default
 |k+1,v29_0,v29_1=>(bif(decide (v29_1<(x5.n:Int)))then(g72_l29 x5 k (g72_m12 x5 v29_0 v29_1) (IntKind.i64.wrap (v29_1+1)))else v29_0)
noncomputable def g72_r15(x0:Int)(x3:Sl T160)(x4:Sl ByteArray)(x5:Sl T164):Bool:=g72_l29 x5 ((Int.toNat ((x5.n:Int)-0))+1) (g72_m11 x0 x3 x4 x5) 0
noncomputable def g72(x0:Int)(x1:ByteArray)(x2:Int)(x3:Sl T160)(x4:Sl ByteArray)(x5:Sl T164):Int:=(bif(g72_m1 x0)then 3 else(bif(g72_m7 x0 x1 x2 x3 x4 x5)then 8 else(bif(g72_m8 x0 x3 x4 x5)then 1 else(bif(g72_m9 x1 x4)then 1 else(bif(g133_134 x3)then 1 else(bif(g135_136 x5)then 1 else(bif(g72_m10 x2 x5)then 2 else(bif(!(g72_r15 x0 x3 x4 x5))then 10 else 0))))))))
noncomputable def F72:Fq:=⟨[.g [kI,kS,kI,.sl E160,.sl E9,.sl E164]],fun x0 x1 x2 x3 x4 x5=>⟨⟨none,.int .i64 (g72 x0 x1 x2 x3 x4 x5)⟩⟩⟩
theorem pc72:FnOk Tryz.prog 43 F72.sh _ (F72.sh.flatMap Sh.bs) F72.f []:=
 fun(x0:Int) x1 n1 (x2:Int) x3 n3 _ x4 n4 _ x5 n5 _=>pure_of_exec (X:=(mkX [(44,F110_132.ans),(47,F116.ans),(48,F117.ans),(62,F131.ans),(64,F133_134.ans),(66,F135_136.ans),(66,F135_137.ans),(69,F138_139.ans),(71,F140_141.ans),(73,F142_143.ans),(75,F144.ans)])) (R:=⟨.pure,[.tmp 2],[(.t 0,kI)],⟨[U],[]⟩⟩) (h:=(.s .z (.s (.j ⟨16390,[],[(.t 14,kB)],[],.f⟩ .z .z) (.s .z (.j ⟨14,[],[(.h 1 1,kS),(.h 1 2,kI),(.h 1 3,.sl E160),(.h 1 4,.sl E9),(.h 1 5,.sl E164)],[(.b .f .l),(.b .f (.b .f .l)),(.b .f (.b .f (.b .f .l))),.f,.f],.f⟩ .z (.s (.j ⟨8796093022214,[.b 1],[(.t 43,kB)],[],.f⟩ .z .z) (.s (.j ⟨72057594037927942,[],[(.t 56,kB)],[],.f⟩ .z .z) (.s (.j ⟨36893488147419103238,[],[(.t 65,kB)],[],.f⟩ .z .z) (.s .z (.s .z (.s (.j ⟨1208925819614629174706182,[],[(.t 80,kB)],[],.f⟩ .z .z) (.j ⟨22,[],[(.t 4,kB)],[],.f⟩ .z (.j ⟨20,[],[],[],.f⟩ (.s .z (.lp ⟨8873554201597605810476922437654,[],[],[(.t 4,kB),(.t 102,kI)],some 1,false,20,[.b 0],[(.t 4,kB)],fun k (s:Bool×Int)=>g72_l29 x5 k s.1 s.2,.f,fun(s:Bool×Int)=>(0≤s.2∧s.2≤(x5.n:Int)),fun(s:Bool×Int)=>(Int.toNat ((x5.n:Int)-s.2)),none⟩ (.s .z (.s .z (.s (.s .z (.j ⟨166801268929831109337140697872990326,[],[(.t 4,kB),(.t 108,kB),(.t 117,kB)],[],.f⟩ .z .z)) .z))))) .z))))))))))))) (ms:=[]) (p:=((g72_m1 x0)=false→((g72_m7 x0 x1 x2 x3 x4 x5)=false→((g72_m8 x0 x3 x4 x5)=false→((g72_m9 x1 x4)=false→((g133_134 x3)=false→((g135_136 x5)=false→((g72_m10 x2 x5)=false→(((0≤(0:Int)∧(0:Int)≤(x5.n:Int)))∧(∀(v29_0:Bool) (v29_1:Int),(0≤v29_1∧v29_1≤(x5.n:Int))→(((decide (v29_1<(x5.n:Int)))=true→((0≤v29_1∧v29_1<((x5.n:Nat):Int))∧(v29_0=true→(((0:Int)≤0)∧((0:Int)≤v29_1)∧((v29_1:Int)≤v29_1)∧((v29_1:Int)≤((x5.n:Nat):Int))))))∧((decide (v29_1<(x5.n:Int)))=true→((0≤(IntKind.i64.wrap (v29_1+1))∧(IntKind.i64.wrap (v29_1+1))≤(x5.n:Int))∧(Int.toNat ((x5.n:Int)- (IntKind.i64.wrap (v29_1+1))))<(Int.toNat ((x5.n:Int)-v29_1))))))))))))))) (mkX_ok ⟨k110_132,k116,k117,k131,k133_134,k135_136,k135_137,k138_139,k140_141,k142_143,k144,trivial⟩) Tryz.func43 rfl rfl (by kernel_rfl) ((fun h1=>(fun h2=>(fun h3=>(fun h4=>(fun h5=>(fun h6=>(fun h7=>⟨(by have:=h1;simp [g72_m1]at this;have:=h2;simp [g72_m7]at this;have:=h3;simp [g72_m8]at this;have:=h4;simp [g72_m9]at this;have:=h7;simp [g72_m10]at this;omega),(fun v29_0 v29_1 hI8=>⟨(fun h9=>⟨(by have:=h1;simp [g72_m1]at this;have:=h2;simp [g72_m7]at this;have:=h3;simp [g72_m8]at this;have:=h4;simp [g72_m9]at this;have:=h7;simp [g72_m10]at this;have:=of_decide_eq_true h9;omega),(fun h10=>(by have:=h1;simp [g72_m1]at this;have:=h2;simp [g72_m7]at this;have:=h3;simp [g72_m8]at this;have:=h4;simp [g72_m9]at this;have:=h7;simp [g72_m10]at this;have:=of_decide_eq_true h9;omega))⟩),(fun h11=>(by have:=h1;simp [g72_m1]at this;have:=h2;simp [g72_m7]at this;have:=h3;simp [g72_m8]at this;have:=h4;simp [g72_m9]at this;have:=h7;simp [g72_m10]at this;have:=of_decide_eq_true h11;first|omega|(have:=wrap64 (x:=(v29_1+1)) (by omega) (by omega);omega)))⟩)⟩))))))))
theorem k72:XOk Tryz.prog 43 F72.ans:=Fq.ok ⟨_,_,Tryz.func43,rfl,by kernel_rfl⟩ pc72
end Go.Proofs.YtfbpilmhnpkfhaaGreatDoor
/-
  Walks: what functions of the program answer, as functions.
-/
namespace Go.Proofs.YtfbpilmhnpkfhaaGreatDoor
open Go Go.Vc Go.RowKit
set_option maxRecDepth 100000
set_option maxHeartbeats 4000000
noncomputable def g145(x3:Sl T160)(x4:Sl ByteArray)(x5:Sl T164):Int:=(IntKind.i64.wrap ((IntKind.i64.wrap ((x3.n:Int)+(x4.n:Int)))+(x5.n:Int)))
noncomputable def F145:Fq:=⟨[.g [kI,kS,kI,.sl E160,.sl E9,.sl E164]],fun _ _ _ x3 x4 x5=>⟨⟨none,.int .i64 (g145 x3 x4 x5)⟩⟩⟩
theorem pc145:FnOk Tryz.prog 86 F145.sh _ (F145.sh.flatMap Sh.bs) F145.f []:=
 fun(x0:Int) x1 _ (x2:Int) x3 _ _ x4 _ _ x5 _ _=>pure_of_exec (X:=X0) (R:=⟨.pure,[.tmp 2],[(.t 0,kI)],⟨[U],[]⟩⟩) (h:= .z) (ms:=[]) (p:=True) X0_ok Tryz.func86 rfl rfl (by kernel_rfl) (trivial)
theorem k145:XOk Tryz.prog 86 F145.ans:=Fq.ok ⟨_,_,Tryz.func86,rfl,by kernel_rfl⟩ pc145
noncomputable def g146(x0:ByteArray)(x1:Int)(x2:ByteArray)(x3:Int):Bool:=(bif(x1 !=x3)then(decide (x1<x3))else(Op.bytesLess ((x0:ByteArray).toList) ((x2:ByteArray).toList)))
noncomputable def F146:Fq:=⟨[.g [kS,kI],.g [kS,kI]],fun x0 x1 x2 x3=>⟨⟨none,.bool (g146 x0 x1 x2 x3)⟩⟩⟩
theorem pc146:FnOk Tryz.prog 87 F146.sh _ (F146.sh.flatMap Sh.bs) F146.f []:=
 fun x0 _ (x1:Int) x2 _ (x3:Int)=>pure_of_exec (X:=X0) (R:=⟨.pure,[.tmp 4],[(.t 0,kB)],⟨[U],[]⟩⟩) (h:= .z) (ms:=[]) (p:=True) X0_ok Tryz.func87 rfl rfl (by kernel_rfl) (trivial)
theorem k146:XOk Tryz.prog 87 F146.ans:=Fq.ok ⟨_,_,Tryz.func87,rfl,by kernel_rfl⟩ pc146
noncomputable def g147_l1(x0:Sl T164)(x1:ByteArray):Nat→Int→Bool×Int
 |0,_=>default
 |k+1,v1_0=>(bif(decide (v1_0<(x0.n:Int)))then(bif(((x0.at' (Int.toNat v1_0)).c0:ByteArray).toList==(x1:ByteArray).toList)then(true,v1_0)else(g147_l1 x0 x1 k (IntKind.i64.wrap (v1_0+1))))else(false,default))
noncomputable def g147_r1(x0:Sl T164)(x1:ByteArray):Bool×Int:=g147_l1 x0 x1 ((Int.toNat ((x0.n:Int)-0))+1) 0
noncomputable def g147_p2(x0:Sl T164)(x1:ByteArray):Bool:=(bif(g147_r1 x0 x1).1 then false else true)
noncomputable def g147(x0:Sl T164)(x1:ByteArray):Int:=(bif(g147_p2 x0 x1)then(-1)else(g147_r1 x0 x1).2)
noncomputable def F147:Fq:=⟨[.v (.sl E164),.v kS],fun x0 x1=>⟨⟨none,.int .i64 (g147 x0 x1)⟩⟩⟩
theorem pc147:FnOk Tryz.prog 88 F147.sh _ (F147.sh.flatMap Sh.bs) F147.f []:=
 fun x0 n0 _ x1 n1=>pure_of_exec (X:=X0) (R:=⟨.pure,[.tmp 4],[(.t 0,kI)],⟨[U],[]⟩⟩) (h:=(.s .z (.j ⟨16,[],[],[],.f⟩ (.s .z (.lp ⟨51,[],[],[(.t 5,kI)],some 0,true,16,[],[],fun k (s:Int)=>g147_l1 x0 x1 k s,.f,fun(s:Int)=>(0≤s∧s≤(x0.n:Int)),fun(s:Int)=>(Int.toNat ((x0.n:Int)-s)),none⟩ .z)) .z))) (ms:=[]) (p:=(((0≤(0:Int)∧(0:Int)≤(x0.n:Int)))∧(∀(v1_0:Int),(0≤v1_0∧v1_0≤(x0.n:Int))→(((decide (v1_0<(x0.n:Int)))=true→(0≤v1_0∧v1_0<((x0.n:Nat):Int)))∧((decide (v1_0<(x0.n:Int)))=true→((((x0.at' (Int.toNat v1_0)).c0:ByteArray).toList==(x1:ByteArray).toList)=false→((0≤(IntKind.i64.wrap (v1_0+1))∧(IntKind.i64.wrap (v1_0+1))≤(x0.n:Int))∧(Int.toNat ((x0.n:Int)- (IntKind.i64.wrap (v1_0+1))))<(Int.toNat ((x0.n:Int)-v1_0))))))))) X0_ok Tryz.func88 rfl rfl (by kernel_rfl) (⟨(by omega),(fun v1_0 hI1=>⟨(fun h2=>(by have:=of_decide_eq_true h2;omega)),(fun h3=>(fun h4=>(by have:=of_decide_eq_true h3;first|omega|(have:=wrap64 (x:=(v1_0+1)) (by omega) (by omega);omega))))⟩)⟩)
theorem k147:XOk Tryz.prog 88 F147.ans:=Fq.ok ⟨_,_,Tryz.func88,rfl,by kernel_rfl⟩ pc147
noncomputable def g73_l1(x3:Sl T160):Nat→Int→Sl T160→Sl T160
 |0,_,_=>default
 |k+1,v1_0,v1_1=>(bif(decide (v1_0<(x3.n:Int)))then(g73_l1 x3 k (IntKind.i64.wrap (v1_0+1)) (Sl.app v1_1 (Sl.lit ([(x3.at' (Int.toNat v1_0))]:List T160))))else v1_1)
noncomputable def g73_r1(x3:Sl T160):Sl T160:=g73_l1 x3 ((Int.toNat ((x3.n:Int)-0))+1) 0 (nilSl:Sl T160)
noncomputable def g73_l7(x4:Sl ByteArray):Nat→Int→Sl ByteArray→Sl ByteArray
 |0,_,_=>default
 |k+1,v7_0,v7_1=>(bif(decide (v7_0<(x4.n:Int)))then(g73_l7 x4 k (IntKind.i64.wrap (v7_0+1)) (Sl.app v7_1 (Sl.lit ([(x4.at' (Int.toNat v7_0))]:List ByteArray))))else v7_1)
noncomputable def g73_r2(x4:Sl ByteArray):Sl ByteArray:=g73_l7 x4 ((Int.toNat ((x4.n:Int)-0))+1) 0 (nilSl:Sl ByteArray)
noncomputable def g73_l13(x5:Sl T164):Nat→Int→Sl T164→Sl T164
 |0,_,_=>default
 |k+1,v13_0,v13_1=>(bif(decide (v13_0<(x5.n:Int)))then(g73_l13 x5 k (IntKind.i64.wrap (v13_0+1)) (Sl.app v13_1 (Sl.lit ([(x5.at' (Int.toNat v13_0))]:List T164))))else v13_1)
noncomputable def g73_r3(x5:Sl T164):Sl T164:=g73_l13 x5 ((Int.toNat ((x5.n:Int)-0))+1) 0 (nilSl:Sl T164)
noncomputable def g73_0(x0:Int):Int:=x0
noncomputable def g73_1(x1:ByteArray):ByteArray:=x1
noncomputable def g73_2(x2:Int):Int:=x2
noncomputable def g73_3(x3:Sl T160):Sl T160:=(g73_r1 x3)
noncomputable def g73_4(x4:Sl ByteArray):Sl ByteArray:=(g73_r2 x4)
noncomputable def g73_5(x5:Sl T164):Sl T164:=(g73_r3 x5)
noncomputable def F73:Fq:=⟨[.g [kI,kS,kI,.sl E160,.sl E9,.sl E164]],fun x0 x1 x2 x3 x4 x5=>⟨⟨none,.agg [.int .i64 (g73_0 x0),.str (g73_1 x1),.int .i64 (g73_2 x2),ofSl 2 e160 (g73_3 x3),ofSl 1 e9 (g73_4 x4),ofSl 2 e164 (g73_5 x5)]⟩⟩⟩
theorem pc73:FnOk Tryz.prog 25 F73.sh _ (F73.sh.flatMap Sh.bs) F73.f []:=
 fun(x0:Int) x1 n1 (x2:Int) x3 n3 _ x4 n4 _ x5 n5 _=>pure_of_exec (X:=X0) (R:=⟨.pure,[.cell 2 64],[(.c 0 0,kI),(.c 0 1,kS),(.c 0 2,kI),(.c 0 3,.sl E160),(.c 0 4,.sl E9),(.c 0 5,.sl E164)],⟨[.agg (us 6 [])],[]⟩⟩) (h:=(.s .z (.s .z (.j ⟨14,[],[],[],.f⟩ (.s .z (.lp ⟨30,[],[(.h 2 3,E160)],[(.t 4,kI),(.h 3 0,.blk E160)],some 0,false,14,[],[(.h 3 0,.blk E160)],fun k (s:Int×Sl T160)=>g73_l1 x3 k s.1 s.2,.f,fun(s:Int×Sl T160)=>((0≤s.1∧s.1≤(x3.n:Int))∧((s.2.n:Nat):Int)≤0+(s.1-0)),fun(s:Int×Sl T160)=>(Int.toNat ((x3.n:Int)-s.1)),some fun(r:Sl T160)=>((r.n:Nat):Int)≤0+max ((x3.n:Int)-0) 0⟩ .z)) (.j ⟨14,[],[],[],.f⟩ (.s .z (.lp ⟨46,[],[(.h 2 4,E9)],[(.t 5,kI),(.h 4 0,.blk E9)],some 2,false,14,[],[(.h 4 0,.blk E9)],fun k (s:Int×Sl ByteArray)=>g73_l7 x4 k s.1 s.2,.f,fun(s:Int×Sl ByteArray)=>((0≤s.1∧s.1≤(x4.n:Int))∧((s.2.n:Nat):Int)≤0+(s.1-0)),fun(s:Int×Sl ByteArray)=>(Int.toNat ((x4.n:Int)-s.1)),some fun(r:Sl ByteArray)=>((r.n:Nat):Int)≤0+max ((x4.n:Int)-0) 0⟩ .z)) (.j ⟨12,[],[],[],.f⟩ (.s .z (.lp ⟨78,[],[(.h 2 5,E164)],[(.t 6,kI),(.h 5 0,.blk E164)],some 4,false,12,[.b 0],[(.h 5 0,.blk E164)],fun k (s:Int×Sl T164)=>g73_l13 x5 k s.1 s.2,.f,fun(s:Int×Sl T164)=>((0≤s.1∧s.1≤(x5.n:Int))∧((s.2.n:Nat):Int)≤0+(s.1-0)),fun(s:Int×Sl T164)=>(Int.toNat ((x5.n:Int)-s.1)),some fun(r:Sl T164)=>((r.n:Nat):Int)≤0+max ((x5.n:Int)-0) 0⟩ .z)) .z)))))) (ms:=[]) (p:=(((((0≤(0:Int)∧(0:Int)≤(x3.n:Int))∧((0:Nat):Int)≤0+((0:Int)-0)))∧(∀(v1_0:Int) (v1_1:Sl T160),((0≤v1_0∧v1_0≤(x3.n:Int))∧((v1_1.n:Nat):Int)≤0+(v1_0-0))→(((decide (v1_0<(x3.n:Int)))=true→((0≤v1_0∧v1_0<((x3.n:Nat):Int))∧(v1_1.n+1≤549755813888)))∧(((decide (v1_0<(x3.n:Int)))=true→(((0≤(IntKind.i64.wrap (v1_0+1))∧(IntKind.i64.wrap (v1_0+1))≤(x3.n:Int))∧(((v1_1.n+1):Nat):Int)≤0+((IntKind.i64.wrap (v1_0+1))-0))∧(Int.toNat ((x3.n:Int)- (IntKind.i64.wrap (v1_0+1))))<(Int.toNat ((x3.n:Int)-v1_0))))∧((decide (v1_0<(x3.n:Int)))=false→(((v1_1.n:Nat):Int)≤0+max ((x3.n:Int)-0) 0))))))∧(((((g73_r1 x3).n:Nat):Int)≤0+max ((x3.n:Int)-0) 0)→(((((0≤(0:Int)∧(0:Int)≤(x4.n:Int))∧((0:Nat):Int)≤0+((0:Int)-0)))∧(∀(v7_0:Int) (v7_1:Sl ByteArray),((0≤v7_0∧v7_0≤(x4.n:Int))∧((v7_1.n:Nat):Int)≤0+(v7_0-0))→(((decide (v7_0<(x4.n:Int)))=true→((0≤v7_0∧v7_0<((x4.n:Nat):Int))∧(v7_1.n+1≤549755813888)))∧(((decide (v7_0<(x4.n:Int)))=true→(((0≤(IntKind.i64.wrap (v7_0+1))∧(IntKind.i64.wrap (v7_0+1))≤(x4.n:Int))∧(((v7_1.n+1):Nat):Int)≤0+((IntKind.i64.wrap (v7_0+1))-0))∧(Int.toNat ((x4.n:Int)- (IntKind.i64.wrap (v7_0+1))))<(Int.toNat ((x4.n:Int)-v7_0))))∧((decide (v7_0<(x4.n:Int)))=false→(((v7_1.n:Nat):Int)≤0+max ((x4.n:Int)-0) 0))))))∧(((((g73_r2 x4).n:Nat):Int)≤0+max ((x4.n:Int)-0) 0)→((((0≤(0:Int)∧(0:Int)≤(x5.n:Int))∧((0:Nat):Int)≤0+((0:Int)-0)))∧(∀(v13_0:Int) (v13_1:Sl T164),((0≤v13_0∧v13_0≤(x5.n:Int))∧((v13_1.n:Nat):Int)≤0+(v13_0-0))→(((decide (v13_0<(x5.n:Int)))=true→((0≤v13_0∧v13_0<((x5.n:Nat):Int))∧(v13_1.n+1≤549755813888)))∧(((decide (v13_0<(x5.n:Int)))=true→(((0≤(IntKind.i64.wrap (v13_0+1))∧(IntKind.i64.wrap (v13_0+1))≤(x5.n:Int))∧(((v13_1.n+1):Nat):Int)≤0+((IntKind.i64.wrap (v13_0+1))-0))∧(Int.toNat ((x5.n:Int)- (IntKind.i64.wrap (v13_0+1))))<(Int.toNat ((x5.n:Int)-v13_0))))∧((decide (v13_0<(x5.n:Int)))=false→(((v13_1.n:Nat):Int)≤0+max ((x5.n:Int)-0) 0))))))))))) X0_ok Tryz.func25 rfl rfl (by kernel_rfl) (⟨⟨(by omega),(fun v1_0 v1_1 hI1=>⟨(fun h2=>⟨(by have:=of_decide_eq_true h2;omega),(by have:=of_decide_eq_true h2;omega)⟩),⟨(fun h3=>(by have:=of_decide_eq_true h3;first|omega|(have:=wrap64 (x:=(v1_0+1)) (by omega) (by omega);omega))),(fun h4=>(by have:=of_decide_eq_false h4;omega))⟩⟩)⟩,(fun hF5=>⟨⟨(by omega),(fun v7_0 v7_1 hI6=>⟨(fun h7=>⟨(by have:=of_decide_eq_true h7;omega),(by have:=of_decide_eq_true h7;omega)⟩),⟨(fun h8=>(by have:=of_decide_eq_true h8;first|omega|(have:=wrap64 (x:=(v7_0+1)) (by omega) (by omega);omega))),(fun h9=>(by have:=of_decide_eq_false h9;omega))⟩⟩)⟩,(fun hF10=>⟨(by omega),(fun v13_0 v13_1 hI11=>⟨(fun h12=>⟨(by have:=of_decide_eq_true h12;omega),(by have:=of_decide_eq_true h12;omega)⟩),⟨(fun h13=>(by have:=of_decide_eq_true h13;first|omega|(have:=wrap64 (x:=(v13_0+1)) (by omega) (by omega);omega))),(fun h14=>(by have:=of_decide_eq_false h14;omega))⟩⟩)⟩)⟩)⟩)
theorem k73:XOk Tryz.prog 25 F73.ans:=Fq.ok ⟨_,_,Tryz.func25,rfl,by kernel_rfl⟩ pc73
end Go.Proofs.YtfbpilmhnpkfhaaGreatDoor
/-
  Walks: what functions of the program answer, as functions.
-/
namespace Go.Proofs.YtfbpilmhnpkfhaaGreatDoor
open Go Go.Vc Go.RowKit
set_option maxRecDepth 100000
set_option maxHeartbeats 4000000
noncomputable def g74_m1(x0:Int):Bool:=(bif(x0==4)then true else(x0==5))
noncomputable def g74_m2(x0:Int)(x1:ByteArray)(x2:Int)(x3:Sl T160)(x4:Sl ByteArray)(x5:Sl T164):Bool:=(bif(x0 !=1)then(bif(!((x1:ByteArray).toList==(⟨#[]⟩:ByteArray).toList))then true else(bif(x0 !=2)then(bif(x2 !=0)then true else(bif(x0 !=3)then(bif(decide ((x3.n:Int)>0))then true else(bif(!(g74_m1 x0))then(bif(decide ((x4.n:Int)>0))then true else(bif(x0 !=6)then(decide ((x5.n:Int)>0))else false))else(bif(x0 !=6)then(decide ((x5.n:Int)>0))else false)))else(bif(!(g74_m1 x0))then(bif(decide ((x4.n:Int)>0))then true else(bif(x0 !=6)then(decide ((x5.n:Int)>0))else false))else(bif(x0 !=6)then(decide ((x5.n:Int)>0))else false))))else(bif(x0 !=3)then(bif(decide ((x3.n:Int)>0))then true else(bif(!(g74_m1 x0))then(bif(decide ((x4.n:Int)>0))then true else(bif(x0 !=6)then(decide ((x5.n:Int)>0))else false))else(bif(x0 !=6)then(decide ((x5.n:Int)>0))else false)))else(bif(!(g74_m1 x0))then(bif(decide ((x4.n:Int)>0))then true else(bif(x0 !=6)then(decide ((x5.n:Int)>0))else false))else(bif(x0 !=6)then(decide ((x5.n:Int)>0))else false)))))else(bif(x0 !=2)then(bif(x2 !=0)then true else(bif(x0 !=3)then(bif(decide ((x3.n:Int)>0))then true else(bif(!(g74_m1 x0))then(bif(decide ((x4.n:Int)>0))then true else(bif(x0 !=6)then(decide ((x5.n:Int)>0))else false))else(bif(x0 !=6)then(decide ((x5.n:Int)>0))else false)))else(bif(!(g74_m1 x0))then(bif(decide ((x4.n:Int)>0))then true else(bif(x0 !=6)then(decide ((x5.n:Int)>0))else false))else(bif(x0 !=6)then(decide ((x5.n:Int)>0))else false))))else(bif(x0 !=3)then(bif(decide ((x3.n:Int)>0))then true else(bif(!(g74_m1 x0))then(bif(decide ((x4.n:Int)>0))then true else(bif(x0 !=6)then(decide ((x5.n:Int)>0))else false))else(bif(x0 !=6)then(decide ((x5.n:Int)>0))else false)))else(bif(!(g74_m1 x0))then(bif(decide ((x4.n:Int)>0))then true else(bif(x0 !=6)then(decide ((x5.n:Int)>0))else false))else(bif(x0 !=6)then(decide ((x5.n:Int)>0))else false)))))
noncomputable def g74_m3(x0:Int)(x1:ByteArray)(x3:Sl T160)(x4:Sl ByteArray)(x5:Sl T164):Bool:=(bif(decide (x0≥3))then(bif(!(g112 (g145 x3 x4 x5) 1 20))then true else(!(g113 x1)))else(!(g113 x1)))
noncomputable def g74_l56(x4:Sl ByteArray):Nat→Int→Bool×Int
 |0,_=>default
 |k+1,v56_0=>(bif(decide (v56_0<(x4.n:Int)))then(bif(!(g113 (x4.at' (Int.toNat v56_0))))then(true,1)else(g74_l56 x4 k (IntKind.i64.wrap (v56_0+1))))else(false,default))
noncomputable def g74_r4(x4:Sl ByteArray):Bool×Int:=g74_l56 x4 ((Int.toNat ((x4.n:Int)-0))+1) 0
noncomputable def g74_p5(x4:Sl ByteArray):Bool:=(bif(g74_r4 x4).1 then false else true)
noncomputable def g74_m7(x3:Sl T160)(v63_0:Int):Bool:=(bif(!(g118 (x3.at' (Int.toNat v63_0)).c0))then true else(!(g113 (x3.at' (Int.toNat v63_0)).c1)))
noncomputable def g74_l63(x3:Sl T160):Nat→Int→Bool×Int
 |0,_=>default
 |k+1,v63_0=>(bif(decide (v63_0<(x3.n:Int)))then(bif(g74_m7 x3 v63_0)then(true,1)else(g74_l63 x3 k (IntKind.i64.wrap (v63_0+1))))else(false,default))
noncomputable def g74_r8(x3:Sl T160):Bool×Int:=g74_l63 x3 ((Int.toNat ((x3.n:Int)-0))+1) 0
noncomputable def g74_p9(x3:Sl T160):Bool:=(bif(g74_r8 x3).1 then false else true)
noncomputable def g74_l74(x5:Sl T164):Nat→Int→Bool×Int
 |0,_=>default
 |k+1,v74_0=>(bif(decide (v74_0<(x5.n:Int)))then(bif(!(g113 (x5.at' (Int.toNat v74_0)).c0))then(true,1)else(g74_l74 x5 k (IntKind.i64.wrap (v74_0+1))))else(false,default))
noncomputable def g74_r10(x5:Sl T164):Bool×Int:=g74_l74 x5 ((Int.toNat ((x5.n:Int)-0))+1) 0
noncomputable def g74_p11(x5:Sl T164):Bool:=(bif(g74_r10 x5).1 then false else true)
noncomputable def g74_l82(x5:Sl T164):Nat→Int→Bool×Int
 |0,_=>default
 |k+1,v82_0=>(bif(decide (v82_0<(x5.n:Int)))then(bif(!(g114 (x5.at' (Int.toNat v82_0)).c1))then(true,2)else(g74_l82 x5 k (IntKind.i64.wrap (v82_0+1))))else(false,default))
noncomputable def g74_r12(x5:Sl T164):Bool×Int:=g74_l82 x5 ((Int.toNat ((x5.n:Int)-0))+1) 0
noncomputable def g74_p13(x5:Sl T164):Bool:=(bif(g74_r12 x5).1 then false else true)
noncomputable def g74_l89(x3:Sl T160):Nat→Int→Bool×Int
 |0,_=>default
 |k+1,v89_0=>(bif(decide (v89_0<(x3.n:Int)))then(bif(!(Op.bytesLess (((x3.at' (Int.toNat (IntKind.i64.wrap (v89_0-1)))).c0:ByteArray).toList) (((x3.at' (Int.toNat v89_0)).c0:ByteArray).toList)))then(true,10)else(g74_l89 x3 k (IntKind.i64.wrap (v89_0+1))))else(false,default))
noncomputable def g74_r14(x3:Sl T160):Bool×Int:=g74_l89 x3 ((Int.toNat ((x3.n:Int)-1))+1) 1
noncomputable def g74_p15(x3:Sl T160):Bool:=(bif(g74_r14 x3).1 then false else true)
noncomputable def g74_m17(x0:Int)(x4:Sl ByteArray)(v96_0:Int):Bool:=(bif(decide (v96_0<(x4.n:Int)))then(x0==5)else false)
noncomputable def g74_l96(x0:Int)(x4:Sl ByteArray):Nat→Int→Bool×Int
 |0,_=>default
 |k+1,v96_0=>(bif(g74_m17 x0 x4 v96_0)then(bif(!(Op.bytesLess (((x4.at' (Int.toNat (IntKind.i64.wrap (v96_0-1)))):ByteArray).toList) (((x4.at' (Int.toNat v96_0)):ByteArray).toList)))then(true,10)else(g74_l96 x0 x4 k (IntKind.i64.wrap (v96_0+1))))else(false,default))
noncomputable def g74_r18(x0:Int)(x4:Sl ByteArray):Bool×Int:=g74_l96 x0 x4 ((Int.toNat ((x4.n:Int)-1))+1) 1
noncomputable def g74_p19(x0:Int)(x4:Sl ByteArray):Bool:=(bif(g74_r18 x0 x4).1 then false else true)
noncomputable def g74_m21(x5:Sl T164)(v107_0:Int):Bool:=(bif(!(g146 (x5.at' (Int.toNat (IntKind.i64.wrap (v107_0-1)))).c0 (x5.at' (Int.toNat (IntKind.i64.wrap (v107_0-1)))).c1 (x5.at' (Int.toNat v107_0)).c0 (x5.at' (Int.toNat v107_0)).c1))then true else(decide ((g147 (Sl.part x5 0 v107_0) (x5.at' (Int.toNat v107_0)).c0)≥0)))
noncomputable def g74_l107(x5:Sl T164):Nat→Int→Bool×Int
 |0,_=>default
 |k+1,v107_0=>(bif(decide (v107_0<(x5.n:Int)))then(bif(g74_m21 x5 v107_0)then(true,10)else(g74_l107 x5 k (IntKind.i64.wrap (v107_0+1))))else(false,default))
noncomputable def g74_r22(x5:Sl T164):Bool×Int:=g74_l107 x5 ((Int.toNat ((x5.n:Int)-1))+1) 1
noncomputable def g74_p23(x5:Sl T164):Bool:=(bif(g74_r22 x5).1 then false else true)
noncomputable def g74(x0:Int)(x1:ByteArray)(x2:Int)(x3:Sl T160)(x4:Sl ByteArray)(x5:Sl T164):Int:=(bif(!(g112 x0 1 6))then 3 else(bif(g74_m2 x0 x1 x2 x3 x4 x5)then 8 else(bif(g74_m3 x0 x1 x3 x4 x5)then 1 else(bif(g74_p5 x4)then(bif(g74_p9 x3)then(bif(g74_p11 x5)then(bif(!(g114 x2))then 2 else(bif(g74_p13 x5)then(bif(g74_p15 x3)then(bif(g74_p19 x0 x4)then(bif(g74_p23 x5)then 0 else(g74_r22 x5).2)else(g74_r18 x0 x4).2)else(g74_r14 x3).2)else(g74_r12 x5).2))else(g74_r10 x5).2)else(g74_r8 x3).2)else(g74_r4 x4).2))))
noncomputable def F74:Fq:=⟨[.g [kI,kS,kI,.sl E160,.sl E9,.sl E164]],fun x0 x1 x2 x3 x4 x5=>⟨⟨none,.int .i64 (g74 x0 x1 x2 x3 x4 x5)⟩⟩⟩
theorem pc74:FnOk Tryz.prog 58 F74.sh _ (F74.sh.flatMap Sh.bs) F74.f []:=
 fun(x0:Int) x1 n1 (x2:Int) x3 n3 _ x4 n4 _ x5 n5 _=>pure_of_exec (X:=(mkX [(20,F112.ans),(59,F113.ans),(60,F114.ans),(57,F118.ans),(86,F145.ans),(87,F146.ans),(88,F147.ans)])) (R:=⟨.pure,[.tmp 2],[(.t 0,kI)],⟨[U],[]⟩⟩) (h:=(.s .z (.s .z (.j ⟨14,[],[(.t 3,kB)],[],.f⟩ .z (.s (.j ⟨4722366482869645213702,[],[(.t 72,kB)],[],.f⟩ .z .z) (.s (.j ⟨154742504910672534362390534,[],[(.t 87,kB)],[],.f⟩ .z .z) (.j ⟨6,[],[],[],.f⟩ (.s .z (.lp ⟨22,[],[],[(.t 4,kI)],some 0,true,6,[],[],fun k (s:Int)=>g74_l56 x4 k s,.f,fun(s:Int)=>(0≤s∧s≤(x4.n:Int)),fun(s:Int)=>(Int.toNat ((x4.n:Int)-s)),none⟩ .z)) (.j ⟨6,[],[],[],.f⟩ (.s .z (.lp ⟨38,[],[],[(.t 5,kI)],some 2,true,6,[],[],fun k (s:Int)=>g74_l63 x3 k s,.f,fun(s:Int)=>(0≤s∧s≤(x3.n:Int)),fun(s:Int)=>(Int.toNat ((x3.n:Int)-s)),none⟩ (.s .z (.s (.j ⟨85402406880747956281061822902168453158,[],[(.t 117,kB),(.t 126,kB)],[],.f⟩ .z .z) .z)))) (.j ⟨6,[],[],[],.f⟩ (.s .z (.lp ⟨70,[],[],[(.t 6,kI)],some 4,true,6,[],[],fun k (s:Int)=>g74_l74 x5 k s,.f,fun(s:Int)=>(0≤s∧s≤(x5.n:Int)),fun(s:Int)=>(Int.toNat ((x5.n:Int)-s)),none⟩ .z)) (.s .z (.j ⟨6,[],[],[],.f⟩ (.s .z (.lp ⟨134,[],[],[(.t 7,kI)],some 6,true,6,[],[],fun k (s:Int)=>g74_l82 x5 k s,.f,fun(s:Int)=>(0≤s∧s≤(x5.n:Int)),fun(s:Int)=>(Int.toNat ((x5.n:Int)-s)),none⟩ .z)) (.j ⟨6,[],[],[],.f⟩ (.s .z (.lp ⟨262,[],[],[(.t 8,kI)],some 8,true,6,[],[],fun k (s:Int)=>g74_l89 x3 k s,.f,fun(s:Int)=>(1≤s∧(s≤(x3.n:Int)∨s=1)),fun(s:Int)=>(Int.toNat ((x3.n:Int)-s)),none⟩ .z)) (.j ⟨6,[],[],[],.f⟩ (.s .z (.lp ⟨518,[],[],[(.t 9,kI)],some 10,true,6,[],[],fun k (s:Int)=>g74_l96 x0 x4 k s,.f,fun(s:Int)=>(1≤s∧(s≤(x4.n:Int)∨s=1)),fun(s:Int)=>(Int.toNat ((x4.n:Int)-s)),none⟩ (.s (.j ⟨3524739743991544374224198162445711122323099981022285005318,[],[(.t 187,kB),(.t 191,kB)],[],.f⟩ .z .z) .z))) (.j ⟨4,[],[],[],.f⟩ (.s .z (.lp ⟨1030,[],[],[(.t 10,kI)],some 12,true,4,[.b 0],[],fun k (s:Int)=>g74_l107 x5 k s,.f,fun(s:Int)=>(1≤s∧(s≤(x5.n:Int)∨s=1)),fun(s:Int)=>(Int.toNat ((x5.n:Int)-s)),none⟩ (.s .z (.s (.j ⟨883639201986657991150194455927654745705193609135353618237074007977362438,[],[(.t 226,kB),(.t 239,kB)],[],.f⟩ .z .z) .z)))) .z)))))))))))))) (ms:=[]) (p:=((!(g112 x0 1 6))=false→((g74_m2 x0 x1 x2 x3 x4 x5)=false→((g74_m3 x0 x1 x3 x4 x5)=false→((((0≤(0:Int)∧(0:Int)≤(x4.n:Int)))∧(∀(v56_0:Int),(0≤v56_0∧v56_0≤(x4.n:Int))→(((decide (v56_0<(x4.n:Int)))=true→(0≤v56_0∧v56_0<((x4.n:Nat):Int)))∧((decide (v56_0<(x4.n:Int)))=true→((!(g113 (x4.at' (Int.toNat v56_0))))=false→((0≤(IntKind.i64.wrap (v56_0+1))∧(IntKind.i64.wrap (v56_0+1))≤(x4.n:Int))∧(Int.toNat ((x4.n:Int)- (IntKind.i64.wrap (v56_0+1))))<(Int.toNat ((x4.n:Int)-v56_0))))))))∧((g74_p5 x4)=true→((((0≤(0:Int)∧(0:Int)≤(x3.n:Int)))∧(∀(v63_0:Int),(0≤v63_0∧v63_0≤(x3.n:Int))→(((decide (v63_0<(x3.n:Int)))=true→((0≤v63_0∧v63_0<((x3.n:Nat):Int))∧((!(g118 (x3.at' (Int.toNat v63_0)).c0))=false→(0≤v63_0∧v63_0<((x3.n:Nat):Int)))))∧((decide (v63_0<(x3.n:Int)))=true→((g74_m7 x3 v63_0)=false→((0≤(IntKind.i64.wrap (v63_0+1))∧(IntKind.i64.wrap (v63_0+1))≤(x3.n:Int))∧(Int.toNat ((x3.n:Int)- (IntKind.i64.wrap (v63_0+1))))<(Int.toNat ((x3.n:Int)-v63_0))))))))∧((g74_p9 x3)=true→((((0≤(0:Int)∧(0:Int)≤(x5.n:Int)))∧(∀(v74_0:Int),(0≤v74_0∧v74_0≤(x5.n:Int))→(((decide (v74_0<(x5.n:Int)))=true→(0≤v74_0∧v74_0<((x5.n:Nat):Int)))∧((decide (v74_0<(x5.n:Int)))=true→((!(g113 (x5.at' (Int.toNat v74_0)).c0))=false→((0≤(IntKind.i64.wrap (v74_0+1))∧(IntKind.i64.wrap (v74_0+1))≤(x5.n:Int))∧(Int.toNat ((x5.n:Int)- (IntKind.i64.wrap (v74_0+1))))<(Int.toNat ((x5.n:Int)-v74_0))))))))∧((g74_p11 x5)=true→((!(g114 x2))=false→((((0≤(0:Int)∧(0:Int)≤(x5.n:Int)))∧(∀(v82_0:Int),(0≤v82_0∧v82_0≤(x5.n:Int))→(((decide (v82_0<(x5.n:Int)))=true→(0≤v82_0∧v82_0<((x5.n:Nat):Int)))∧((decide (v82_0<(x5.n:Int)))=true→((!(g114 (x5.at' (Int.toNat v82_0)).c1))=false→((0≤(IntKind.i64.wrap (v82_0+1))∧(IntKind.i64.wrap (v82_0+1))≤(x5.n:Int))∧(Int.toNat ((x5.n:Int)- (IntKind.i64.wrap (v82_0+1))))<(Int.toNat ((x5.n:Int)-v82_0))))))))∧((g74_p13 x5)=true→((((1≤(1:Int)∧((1:Int)≤(x3.n:Int)∨(1:Int)=1)))∧(∀(v89_0:Int),(1≤v89_0∧(v89_0≤(x3.n:Int)∨v89_0=1))→(((decide (v89_0<(x3.n:Int)))=true→((0≤(IntKind.i64.wrap (v89_0-1))∧(IntKind.i64.wrap (v89_0-1))<((x3.n:Nat):Int))∧(0≤v89_0∧v89_0<((x3.n:Nat):Int))))∧((decide (v89_0<(x3.n:Int)))=true→((!(Op.bytesLess (((x3.at' (Int.toNat (IntKind.i64.wrap (v89_0-1)))).c0:ByteArray).toList) (((x3.at' (Int.toNat v89_0)).c0:ByteArray).toList)))=false→((1≤(IntKind.i64.wrap (v89_0+1))∧((IntKind.i64.wrap (v89_0+1))≤(x3.n:Int)∨(IntKind.i64.wrap (v89_0+1))=1))∧(Int.toNat ((x3.n:Int)- (IntKind.i64.wrap (v89_0+1))))<(Int.toNat ((x3.n:Int)-v89_0))))))))∧((g74_p15 x3)=true→((((1≤(1:Int)∧((1:Int)≤(x4.n:Int)∨(1:Int)=1)))∧(∀(v96_0:Int),(1≤v96_0∧(v96_0≤(x4.n:Int)∨v96_0=1))→(((g74_m17 x0 x4 v96_0)=true→((0≤(IntKind.i64.wrap (v96_0-1))∧(IntKind.i64.wrap (v96_0-1))<((x4.n:Nat):Int))∧(0≤v96_0∧v96_0<((x4.n:Nat):Int))))∧((g74_m17 x0 x4 v96_0)=true→((!(Op.bytesLess (((x4.at' (Int.toNat (IntKind.i64.wrap (v96_0-1)))):ByteArray).toList) (((x4.at' (Int.toNat v96_0)):ByteArray).toList)))=false→((1≤(IntKind.i64.wrap (v96_0+1))∧((IntKind.i64.wrap (v96_0+1))≤(x4.n:Int)∨(IntKind.i64.wrap (v96_0+1))=1))∧(Int.toNat ((x4.n:Int)- (IntKind.i64.wrap (v96_0+1))))<(Int.toNat ((x4.n:Int)-v96_0))))))))∧((g74_p19 x0 x4)=true→(((1≤(1:Int)∧((1:Int)≤(x5.n:Int)∨(1:Int)=1)))∧(∀(v107_0:Int),(1≤v107_0∧(v107_0≤(x5.n:Int)∨v107_0=1))→(((decide (v107_0<(x5.n:Int)))=true→((0≤(IntKind.i64.wrap (v107_0-1))∧(IntKind.i64.wrap (v107_0-1))<((x5.n:Nat):Int))∧((0≤v107_0∧v107_0<((x5.n:Nat):Int))∧((!(g146 (x5.at' (Int.toNat (IntKind.i64.wrap (v107_0-1)))).c0 (x5.at' (Int.toNat (IntKind.i64.wrap (v107_0-1)))).c1 (x5.at' (Int.toNat v107_0)).c0 (x5.at' (Int.toNat v107_0)).c1))=false→((((0:Int)≤0)∧((0:Int)≤v107_0)∧((v107_0:Int)≤v107_0)∧((v107_0:Int)≤((x5.n:Nat):Int)))∧(0≤v107_0∧v107_0<((x5.n:Nat):Int)))))))∧((decide (v107_0<(x5.n:Int)))=true→((g74_m21 x5 v107_0)=false→((1≤(IntKind.i64.wrap (v107_0+1))∧((IntKind.i64.wrap (v107_0+1))≤(x5.n:Int)∨(IntKind.i64.wrap (v107_0+1))=1))∧(Int.toNat ((x5.n:Int)- (IntKind.i64.wrap (v107_0+1))))<(Int.toNat ((x5.n:Int)-v107_0))))))))))))))))))))))))) (mkX_ok ⟨k112,k113,k114,k118,k145,k146,k147,trivial⟩) Tryz.func58 rfl rfl (by kernel_rfl) ((fun h1=>(fun h2=>(fun h3=>⟨⟨(by have:=h2;simp [g74_m2]at this;have:=h3;simp [g74_m3]at this;omega),(fun v56_0 hI4=>⟨(fun h5=>(by have:=h2;simp [g74_m2]at this;have:=h3;simp [g74_m3]at this;have:=of_decide_eq_true h5;omega)),(fun h6=>(fun h7=>(by have:=h2;simp [g74_m2]at this;have:=h3;simp [g74_m3]at this;have:=of_decide_eq_true h6;first|omega|(have:=wrap64 (x:=(v56_0+1)) (by omega) (by omega);omega))))⟩)⟩,(fun h8=>⟨⟨(by have:=h2;simp [g74_m2]at this;have:=h3;simp [g74_m3]at this;omega),(fun v63_0 hI9=>⟨(fun h10=>⟨(by have:=h2;simp [g74_m2]at this;have:=h3;simp [g74_m3]at this;have:=of_decide_eq_true h10;omega),(fun h11=>(by have:=h2;simp [g74_m2]at this;have:=h3;simp [g74_m3]at this;have:=of_decide_eq_true h10;omega))⟩),(fun h12=>(fun h13=>(by have:=h2;simp [g74_m2]at this;have:=h3;simp [g74_m3]at this;have:=of_decide_eq_true h12;have:=h13;simp [g74_m7]at this;first|omega|(have:=wrap64 (x:=(v63_0+1)) (by omega) (by omega);omega))))⟩)⟩,(fun h14=>⟨⟨(by have:=h2;simp [g74_m2]at this;have:=h3;simp [g74_m3]at this;omega),(fun v74_0 hI15=>⟨(fun h16=>(by have:=h2;simp [g74_m2]at this;have:=h3;simp [g74_m3]at this;have:=of_decide_eq_true h16;omega)),(fun h17=>(fun h18=>(by have:=h2;simp [g74_m2]at this;have:=h3;simp [g74_m3]at this;have:=of_decide_eq_true h17;first|omega|(have:=wrap64 (x:=(v74_0+1)) (by omega) (by omega);omega))))⟩)⟩,(fun h19=>(fun h20=>⟨⟨(by have:=h2;simp [g74_m2]at this;have:=h3;simp [g74_m3]at this;omega),(fun v82_0 hI21=>⟨(fun h22=>(by have:=h2;simp [g74_m2]at this;have:=h3;simp [g74_m3]at this;have:=of_decide_eq_true h22;omega)),(fun h23=>(fun h24=>(by have:=h2;simp [g74_m2]at this;have:=h3;simp [g74_m3]at this;have:=of_decide_eq_true h23;first|omega|(have:=wrap64 (x:=(v82_0+1)) (by omega) (by omega);omega))))⟩)⟩,(fun h25=>⟨⟨(by have:=h2;simp [g74_m2]at this;have:=h3;simp [g74_m3]at this;omega),(fun v89_0 hI26=>⟨(fun h27=>⟨(by have:=h2;simp [g74_m2]at this;have:=h3;simp [g74_m3]at this;have:=of_decide_eq_true h27;first|omega|(have:=wrap64 (x:=(v89_0-1)) (by omega) (by omega);omega)),(by have:=h2;simp [g74_m2]at this;have:=h3;simp [g74_m3]at this;have:=of_decide_eq_true h27;omega)⟩),(fun h28=>(fun h29=>(by have:=h2;simp [g74_m2]at this;have:=h3;simp [g74_m3]at this;have:=of_decide_eq_true h28;first|omega|(have:=wrap64 (x:=(v89_0+1)) (by omega) (by omega);omega))))⟩)⟩,(fun h30=>⟨⟨(by have:=h2;simp [g74_m2]at this;have:=h3;simp [g74_m3]at this;omega),(fun v96_0 hI31=>⟨(fun h32=>⟨(by have:=h2;simp [g74_m2]at this;have:=h3;simp [g74_m3]at this;have:=h32;(try simp [g74_m17]at this);first|omega|(have:=wrap64 (x:=(v96_0-1)) (by omega) (by omega);omega)),(by have:=h2;simp [g74_m2]at this;have:=h3;simp [g74_m3]at this;have:=h32;(try simp [g74_m17]at this);omega)⟩),(fun h33=>(fun h34=>(by have:=h2;simp [g74_m2]at this;have:=h3;simp [g74_m3]at this;have:=h33;(try simp [g74_m17]at this);first|omega|(have:=wrap64 (x:=(v96_0+1)) (by omega) (by omega);omega))))⟩)⟩,(fun h35=>⟨(by have:=h2;simp [g74_m2]at this;have:=h3;simp [g74_m3]at this;omega),(fun v107_0 hI36=>⟨(fun h37=>⟨(by have:=h2;simp [g74_m2]at this;have:=h3;simp [g74_m3]at this;have:=of_decide_eq_true h37;first|omega|(have:=wrap64 (x:=(v107_0-1)) (by omega) (by omega);omega)),⟨(by have:=h2;simp [g74_m2]at this;have:=h3;simp [g74_m3]at this;have:=of_decide_eq_true h37;omega),(fun h38=>⟨(by have:=h2;simp [g74_m2]at this;have:=h3;simp [g74_m3]at this;have:=of_decide_eq_true h37;omega),(by have:=h2;simp [g74_m2]at this;have:=h3;simp [g74_m3]at this;have:=of_decide_eq_true h37;omega)⟩)⟩⟩),(fun h39=>(fun h40=>(by have:=h2;simp [g74_m2]at this;have:=h3;simp [g74_m3]at this;have:=of_decide_eq_true h39;have:=h40;simp [g74_m21]at this;first|omega|(have:=wrap64 (x:=(v107_0+1)) (by omega) (by omega);omega))))⟩)⟩)⟩)⟩)⟩))⟩)⟩)⟩))))
theorem k74:XOk Tryz.prog 58 F74.ans:=Fq.ok ⟨_,_,Tryz.func58,rfl,by kernel_rfl⟩ pc74
end Go.Proofs.YtfbpilmhnpkfhaaGreatDoor
/-
  Walks: what functions of the program answer, as functions.
-/
namespace Go.Proofs.YtfbpilmhnpkfhaaGreatDoor
open Go Go.Vc Go.RowKit
set_option maxRecDepth 100000
set_option maxHeartbeats 4000000
noncomputable def g78_m1(x0:Int)(x1:Sl T175):Bool:=(bif(decide (x0<0))then true else(bif(decide (x0>1073741824))then true else(decide ((x1.n:Int)>12))))
noncomputable def g78_m7(x1:Sl T175)(v5_0:Int):Bool:=(bif(decide ((((x1.at' (Int.toNat v5_0)).c0:ByteArray).size:Int)<1))then true else(bif(decide ((((x1.at' (Int.toNat v5_0)).c0:ByteArray).size:Int)>12))then true else(bif((g72 (x1.at' (Int.toNat v5_0)).c1 (x1.at' (Int.toNat v5_0)).c2 (x1.at' (Int.toNat v5_0)).c3 (x1.at' (Int.toNat v5_0)).c4 (x1.at' (Int.toNat v5_0)).c5 (x1.at' (Int.toNat v5_0)).c6)!=0)then true else(bif(decide (v5_0>0))then(!(Op.bytesLess (((x1.at' (Int.toNat (IntKind.i64.wrap (v5_0-1)))).c0:ByteArray).toList) (((x1.at' (Int.toNat v5_0)).c0:ByteArray).toList)))else false))))
noncomputable def g78_m9(x0:Int)(x1:Sl T175)(v5_0:Int):Bool:=(bif((x1.at' (Int.toNat v5_0)).c7 !=0)then(bif(decide ((x1.at' (Int.toNat v5_0)).c7≤x0))then true else(decide ((x1.at' (Int.toNat v5_0)).c7>1073741824)))else false)
noncomputable def g78_l5(x0:Int)(x1:Sl T175):Nat→Int→Bool×Int
 |0,_=>default
 |k+1,v5_0=>(bif(decide (v5_0<(x1.n:Int)))then(bif(g78_m7 x1 v5_0)then(true,13)else(bif(g78_m9 x0 x1 v5_0)then(true,13)else(g78_l5 x0 x1 k (IntKind.i64.wrap (v5_0+1)))))else(false,default))
noncomputable def g78_r10(x0:Int)(x1:Sl T175):Bool×Int:=g78_l5 x0 x1 ((Int.toNat ((x1.n:Int)-0))+1) 0
noncomputable def g78_p11(x0:Int)(x1:Sl T175):Bool:=(bif(g78_r10 x0 x1).1 then false else true)
noncomputable def g78(x0:Int)(x1:Sl T175):Int:=(bif(g78_m1 x0 x1)then 13 else(bif(g78_p11 x0 x1)then 0 else(g78_r10 x0 x1).2))
noncomputable def F78:Fq:=⟨[.g [kI,.sl E175]],fun x0 x1=>⟨⟨none,.int .i64 (g78 x0 x1)⟩⟩⟩
theorem pc78:FnOk Tryz.prog 26 F78.sh _ (F78.sh.flatMap Sh.bs) F78.f []:=
 fun(x0:Int) x1 n1 _=>pure_of_exec (X:=(mkX [(43,F72.ans)])) (R:=⟨.pure,[.tmp 2],[(.t 0,kI)],⟨[U],[]⟩⟩) (h:=(.s .z (.s (.j ⟨262150,[],[(.t 18,kB)],[],.f⟩ .z .z) (.j ⟨4,[],[],[],.f⟩ (.s .z (.lp ⟨7340038,[],[],[(.t 22,kI)],some 0,true,4,[.b 0],[],fun k (s:Int)=>g78_l5 x0 x1 k s,.f,fun(s:Int)=>(0≤s∧s≤(x1.n:Int)),fun(s:Int)=>(Int.toNat ((x1.n:Int)-s)),none⟩ (.s .z (.s .z (.s (.s .z (.s (.j ⟨288243780743594014,[],[(.t 31,kB),(.t 36,kB),(.t 37,kB),(.t 42,kB),(.t 43,kB),(.t 58,kB)],[(.b .f .l),(.b .f .l),(.b .f (.b .f .l)),(.b .f (.b .f .l)),(.b .f (.b .f (.b .f .l))),.f],.f⟩ .z .z) (.j ⟨9453668120804585373726,[],[(.t 62,kB),(.t 73,kB)],[(.b .l .f),.f],.f⟩ .z .z))) .z))))) .z)))) (ms:=[]) (p:=((g78_m1 x0 x1)=false→(((0≤(0:Int)∧(0:Int)≤(x1.n:Int)))∧(∀(v5_0:Int),(0≤v5_0∧v5_0≤(x1.n:Int))→(((decide (v5_0<(x1.n:Int)))=true→((0≤v5_0∧v5_0<((x1.n:Nat):Int))∧((decide ((((x1.at' (Int.toNat v5_0)).c0:ByteArray).size:Int)<1))=false→((decide ((((x1.at' (Int.toNat v5_0)).c0:ByteArray).size:Int)>12))=false→(((g72 (x1.at' (Int.toNat v5_0)).c1 (x1.at' (Int.toNat v5_0)).c2 (x1.at' (Int.toNat v5_0)).c3 (x1.at' (Int.toNat v5_0)).c4 (x1.at' (Int.toNat v5_0)).c5 (x1.at' (Int.toNat v5_0)).c6)!=0)=false→((decide (v5_0>0))=true→(0≤(IntKind.i64.wrap (v5_0-1))∧(IntKind.i64.wrap (v5_0-1))<((x1.n:Nat):Int))))))))∧((decide (v5_0<(x1.n:Int)))=true→((g78_m7 x1 v5_0)=false→((g78_m9 x0 x1 v5_0)=false→((0≤(IntKind.i64.wrap (v5_0+1))∧(IntKind.i64.wrap (v5_0+1))≤(x1.n:Int))∧(Int.toNat ((x1.n:Int)- (IntKind.i64.wrap (v5_0+1))))<(Int.toNat ((x1.n:Int)-v5_0))))))))))) (mkX_ok ⟨k72,trivial⟩) Tryz.func26 rfl rfl (by kernel_rfl) ((fun h1=>⟨(by have:=h1;simp [g78_m1]at this;omega),(fun v5_0 hI2=>⟨(fun h3=>⟨(by have:=h1;simp [g78_m1]at this;have:=of_decide_eq_true h3;omega),(fun h4=>(fun h5=>(fun h6=>(fun h7=>(by have:=h1;simp [g78_m1]at this;have:=of_decide_eq_true h3;have:=of_decide_eq_false h4;have:=of_decide_eq_false h5;have:=bne_eq_false_iff_eq.1 h6;have:=of_decide_eq_true h7;first|omega|(have:=wrap64 (x:=(v5_0-1)) (by omega) (by omega);omega))))))⟩),(fun h8=>(fun h9=>(fun h10=>(by have:=h1;simp [g78_m1]at this;have:=of_decide_eq_true h8;have:=h9;simp [g78_m7]at this;have:=h10;simp [g78_m9]at this;first|omega|(have:=wrap64 (x:=(v5_0+1)) (by omega) (by omega);omega)))))⟩)⟩))
theorem k78:XOk Tryz.prog 26 F78.ans:=Fq.ok ⟨_,_,Tryz.func26,rfl,by kernel_rfl⟩ pc78
noncomputable def g79_l1(x1:Sl T175):Nat→Int→Sl T175→Sl T175
 |0,_,_=>default
 |k+1,v1_0,v1_1=>(bif(decide (v1_0<(x1.n:Int)))then(g79_l1 x1 k (IntKind.i64.wrap (v1_0+1)) (Sl.app v1_1 (Sl.lit ([(⟨(x1.at' (Int.toNat v1_0)).c0,(g73_0 (x1.at' (Int.toNat v1_0)).c1),(g73_1 (x1.at' (Int.toNat v1_0)).c2),(g73_2 (x1.at' (Int.toNat v1_0)).c3),(g73_3 (x1.at' (Int.toNat v1_0)).c4),(g73_4 (x1.at' (Int.toNat v1_0)).c5),(g73_5 (x1.at' (Int.toNat v1_0)).c6),(x1.at' (Int.toNat v1_0)).c7⟩:T175)]:List T175))))else v1_1)
noncomputable def g79_r1(x1:Sl T175):Sl T175:=g79_l1 x1 ((Int.toNat ((x1.n:Int)-0))+1) 0 (nilSl:Sl T175)
noncomputable def g79_0(x0:Int):Int:=x0
noncomputable def g79_1(x1:Sl T175):Sl T175:=(g79_r1 x1)
noncomputable def F79:Fq:=⟨[.g [kI,.sl E175]],fun x0 x1=>⟨⟨none,.agg [.int .i64 (g79_0 x0),ofSl 8 e175 (g79_1 x1)]⟩⟩⟩
theorem pc79:FnOk Tryz.prog 9 F79.sh _ (F79.sh.flatMap Sh.bs) F79.f []:=
 fun(x0:Int) x1 n1 _=>pure_of_exec (X:=(mkX [(25,F73.ans)])) (R:=⟨.pure,[.cell 2 24],[(.c 0 0,kI),(.c 0 1,.sl E175)],⟨[.agg (us 2 [])],[]⟩⟩) (h:=(.s .z (.s .z (.j ⟨12,[],[],[],.f⟩ (.s .z (.lp ⟨30,[],[(.h 2 1,E175)],[(.t 4,kI),(.h 3 0,.blk E175)],some 0,false,12,[.b 0],[(.h 3 0,.blk E175)],fun k (s:Int×Sl T175)=>g79_l1 x1 k s.1 s.2,.f,fun(s:Int×Sl T175)=>((0≤s.1∧s.1≤(x1.n:Int))∧((s.2.n:Nat):Int)≤0+(s.1-0)),fun(s:Int×Sl T175)=>(Int.toNat ((x1.n:Int)-s.1)),some fun(r:Sl T175)=>((r.n:Nat):Int)≤0+max ((x1.n:Int)-0) 0⟩ .z)) .z)))) (ms:=[]) (p:=((((0≤(0:Int)∧(0:Int)≤(x1.n:Int))∧((0:Nat):Int)≤0+((0:Int)-0)))∧(∀(v1_0:Int) (v1_1:Sl T175),((0≤v1_0∧v1_0≤(x1.n:Int))∧((v1_1.n:Nat):Int)≤0+(v1_0-0))→(((decide (v1_0<(x1.n:Int)))=true→((0≤v1_0∧v1_0<((x1.n:Nat):Int))∧(v1_1.n+1≤549755813888)))∧(((decide (v1_0<(x1.n:Int)))=true→(((0≤(IntKind.i64.wrap (v1_0+1))∧(IntKind.i64.wrap (v1_0+1))≤(x1.n:Int))∧(((v1_1.n+1):Nat):Int)≤0+((IntKind.i64.wrap (v1_0+1))-0))∧(Int.toNat ((x1.n:Int)- (IntKind.i64.wrap (v1_0+1))))<(Int.toNat ((x1.n:Int)-v1_0))))∧((decide (v1_0<(x1.n:Int)))=false→(((v1_1.n:Nat):Int)≤0+max ((x1.n:Int)-0) 0))))))) (mkX_ok ⟨k73,trivial⟩) Tryz.func9 rfl rfl (by kernel_rfl) (⟨(by omega),(fun v1_0 v1_1 hI1=>⟨(fun h2=>⟨(by have:=of_decide_eq_true h2;omega),(by have:=of_decide_eq_true h2;omega)⟩),⟨(fun h3=>(by have:=of_decide_eq_true h3;first|omega|(have:=wrap64 (x:=(v1_0+1)) (by omega) (by omega);omega))),(fun h4=>(by have:=of_decide_eq_false h4;omega))⟩⟩)⟩)
theorem k79:XOk Tryz.prog 9 F79.ans:=Fq.ok ⟨_,_,Tryz.func9,rfl,by kernel_rfl⟩ pc79
noncomputable def g80_m1(x0:Int)(x1:Sl T175):Bool:=(bif(!(g112 x0 0 1073741824))then true else(decide ((x1.n:Int)>12)))
noncomputable def g80_m5(x1:Sl T175)(v4_0:Int):Bool:=(bif(!(g118 (x1.at' (Int.toNat v4_0)).c0))then true else(bif((g74 (x1.at' (Int.toNat v4_0)).c1 (x1.at' (Int.toNat v4_0)).c2 (x1.at' (Int.toNat v4_0)).c3 (x1.at' (Int.toNat v4_0)).c4 (x1.at' (Int.toNat v4_0)).c5 (x1.at' (Int.toNat v4_0)).c6)!=0)then true else(bif(decide (v4_0>0))then(!(Op.bytesLess (((x1.at' (Int.toNat (IntKind.i64.wrap (v4_0-1)))).c0:ByteArray).toList) (((x1.at' (Int.toNat v4_0)).c0:ByteArray).toList)))else false)))
noncomputable def g80_m7(x0:Int)(x1:Sl T175)(v4_0:Int):Bool:=(bif((x1.at' (Int.toNat v4_0)).c7 !=0)then(bif(!(g112 (x1.at' (Int.toNat v4_0)).c7 0 1073741824))then true else(decide ((x1.at' (Int.toNat v4_0)).c7≤x0)))else false)
noncomputable def g80_l4(x0:Int)(x1:Sl T175):Nat→Int→Bool×Int
 |0,_=>default
 |k+1,v4_0=>(bif(decide (v4_0<(x1.n:Int)))then(bif(g80_m5 x1 v4_0)then(true,13)else(bif(g80_m7 x0 x1 v4_0)then(true,13)else(g80_l4 x0 x1 k (IntKind.i64.wrap (v4_0+1)))))else(false,default))
noncomputable def g80_r8(x0:Int)(x1:Sl T175):Bool×Int:=g80_l4 x0 x1 ((Int.toNat ((x1.n:Int)-0))+1) 0
noncomputable def g80_p9(x0:Int)(x1:Sl T175):Bool:=(bif(g80_r8 x0 x1).1 then false else true)
noncomputable def g80(x0:Int)(x1:Sl T175):Int:=(bif(g80_m1 x0 x1)then 13 else(bif(g80_p9 x0 x1)then 0 else(g80_r8 x0 x1).2))
noncomputable def F80:Fq:=⟨[.g [kI,.sl E175]],fun x0 x1=>⟨⟨none,.int .i64 (g80 x0 x1)⟩⟩⟩
theorem pc80:FnOk Tryz.prog 36 F80.sh _ (F80.sh.flatMap Sh.bs) F80.f []:=
 fun(x0:Int) x1 n1 _=>pure_of_exec (X:=(mkX [(58,F74.ans),(20,F112.ans),(57,F118.ans)])) (R:=⟨.pure,[.tmp 2],[(.t 0,kI)],⟨[U],[]⟩⟩) (h:=(.s .z (.s (.j ⟨16390,[],[(.t 14,kB)],[],.f⟩ .z .z) (.j ⟨4,[],[],[],.f⟩ (.s .z (.lp ⟨14,[],[],[(.t 3,kI)],some 0,true,4,[.b 0],[],fun k (s:Int)=>g80_l4 x0 x1 k s,.f,fun(s:Int)=>(0≤s∧s≤(x1.n:Int)),fun(s:Int)=>(Int.toNat ((x1.n:Int)-s)),none⟩ (.s .z (.s (.s .z (.s (.j ⟨4503810077589534,[],[(.t 31,kB),(.t 36,kB),(.t 37,kB),(.t 52,kB)],[(.b .f .l),(.b .f .l),(.b .f (.b .f .l)),.f],.f⟩ .z .z) (.j ⟨295287516978251530270,[],[(.t 56,kB),(.t 68,kB)],[(.b .l .f),.f],.f⟩ .z .z))) .z)))) .z)))) (ms:=[]) (p:=((g80_m1 x0 x1)=false→(((0≤(0:Int)∧(0:Int)≤(x1.n:Int)))∧(∀(v4_0:Int),(0≤v4_0∧v4_0≤(x1.n:Int))→(((decide (v4_0<(x1.n:Int)))=true→((0≤v4_0∧v4_0<((x1.n:Nat):Int))∧((!(g118 (x1.at' (Int.toNat v4_0)).c0))=false→(((g74 (x1.at' (Int.toNat v4_0)).c1 (x1.at' (Int.toNat v4_0)).c2 (x1.at' (Int.toNat v4_0)).c3 (x1.at' (Int.toNat v4_0)).c4 (x1.at' (Int.toNat v4_0)).c5 (x1.at' (Int.toNat v4_0)).c6)!=0)=false→((decide (v4_0>0))=true→(0≤(IntKind.i64.wrap (v4_0-1))∧(IntKind.i64.wrap (v4_0-1))<((x1.n:Nat):Int)))))))∧((decide (v4_0<(x1.n:Int)))=true→((g80_m5 x1 v4_0)=false→((g80_m7 x0 x1 v4_0)=false→((0≤(IntKind.i64.wrap (v4_0+1))∧(IntKind.i64.wrap (v4_0+1))≤(x1.n:Int))∧(Int.toNat ((x1.n:Int)- (IntKind.i64.wrap (v4_0+1))))<(Int.toNat ((x1.n:Int)-v4_0))))))))))) (mkX_ok ⟨k74,k112,k118,trivial⟩) Tryz.func36 rfl rfl (by kernel_rfl) ((fun h1=>⟨(by have:=h1;simp [g80_m1]at this;omega),(fun v4_0 hI2=>⟨(fun h3=>⟨(by have:=h1;simp [g80_m1]at this;have:=of_decide_eq_true h3;omega),(fun h4=>(fun h5=>(fun h6=>(by have:=h1;simp [g80_m1]at this;have:=of_decide_eq_true h3;have:=bne_eq_false_iff_eq.1 h5;have:=of_decide_eq_true h6;first|omega|(have:=wrap64 (x:=(v4_0-1)) (by omega) (by omega);omega)))))⟩),(fun h7=>(fun h8=>(fun h9=>(by have:=h1;simp [g80_m1]at this;have:=of_decide_eq_true h7;have:=h8;simp [g80_m5]at this;have:=h9;simp [g80_m7]at this;first|omega|(have:=wrap64 (x:=(v4_0+1)) (by omega) (by omega);omega)))))⟩)⟩))
theorem k80:XOk Tryz.prog 36 F80.ans:=Fq.ok ⟨_,_,Tryz.func36,rfl,by kernel_rfl⟩ pc80
end Go.Proofs.YtfbpilmhnpkfhaaGreatDoor
/-
  Walks: what functions of the program answer, as functions.
-/
namespace Go.Proofs.YtfbpilmhnpkfhaaGreatDoor
open Go Go.Vc Go.RowKit
set_option maxRecDepth 100000
set_option maxHeartbeats 4000000
noncomputable def g152_l1(x3:Sl ByteArray):Nat→Int→Sl ByteArray→Sl ByteArray
 |0,_,_=>default
 |k+1,v1_0,v1_1=>(bif(decide (v1_0<(x3.n:Int)))then(g152_l1 x3 k (IntKind.i64.wrap (v1_0+1)) (Sl.app v1_1 (Sl.lit ([(x3.at' (Int.toNat v1_0))]:List ByteArray))))else v1_1)
noncomputable def g152_r1(x3:Sl ByteArray):Sl ByteArray:=g152_l1 x3 ((Int.toNat ((x3.n:Int)-0))+1) 0 (nilSl:Sl ByteArray)
noncomputable def g152_0(x0:Int):Int:=x0
noncomputable def g152_1(x1:ByteArray):ByteArray:=x1
noncomputable def g152_2(x2:Int):Int:=x2
noncomputable def g152_3(x3:Sl ByteArray):Sl ByteArray:=(g152_r1 x3)
noncomputable def F152:Fq:=⟨[.g [kI,kS,kI,.sl E9]],fun x0 x1 x2 x3=>⟨⟨none,.agg [.int .i64 (g152_0 x0),.str (g152_1 x1),.int .i64 (g152_2 x2),ofSl 1 e9 (g152_3 x3)]⟩⟩⟩
theorem pc152:FnOk Tryz.prog 10 F152.sh _ (F152.sh.flatMap Sh.bs) F152.f []:=
 fun(x0:Int) x1 n1 (x2:Int) x3 n3 _=>pure_of_exec (X:=X0) (R:=⟨.pure,[.cell 2 36],[(.c 0 0,kI),(.c 0 1,kS),(.c 0 2,kI),(.c 0 3,.sl E9)],⟨[.agg (us 4 [])],[]⟩⟩) (h:=(.s .z (.s .z (.j ⟨12,[],[],[],.f⟩ (.s .z (.lp ⟨30,[],[(.h 2 3,E9)],[(.t 4,kI),(.h 3 0,.blk E9)],some 0,false,12,[.b 0],[(.h 3 0,.blk E9)],fun k (s:Int×Sl ByteArray)=>g152_l1 x3 k s.1 s.2,.f,fun(s:Int×Sl ByteArray)=>((0≤s.1∧s.1≤(x3.n:Int))∧((s.2.n:Nat):Int)≤0+(s.1-0)),fun(s:Int×Sl ByteArray)=>(Int.toNat ((x3.n:Int)-s.1)),some fun(r:Sl ByteArray)=>((r.n:Nat):Int)≤0+max ((x3.n:Int)-0) 0⟩ .z)) .z)))) (ms:=[]) (p:=((((0≤(0:Int)∧(0:Int)≤(x3.n:Int))∧((0:Nat):Int)≤0+((0:Int)-0)))∧(∀(v1_0:Int) (v1_1:Sl ByteArray),((0≤v1_0∧v1_0≤(x3.n:Int))∧((v1_1.n:Nat):Int)≤0+(v1_0-0))→(((decide (v1_0<(x3.n:Int)))=true→((0≤v1_0∧v1_0<((x3.n:Nat):Int))∧(v1_1.n+1≤549755813888)))∧(((decide (v1_0<(x3.n:Int)))=true→(((0≤(IntKind.i64.wrap (v1_0+1))∧(IntKind.i64.wrap (v1_0+1))≤(x3.n:Int))∧(((v1_1.n+1):Nat):Int)≤0+((IntKind.i64.wrap (v1_0+1))-0))∧(Int.toNat ((x3.n:Int)- (IntKind.i64.wrap (v1_0+1))))<(Int.toNat ((x3.n:Int)-v1_0))))∧((decide (v1_0<(x3.n:Int)))=false→(((v1_1.n:Nat):Int)≤0+max ((x3.n:Int)-0) 0))))))) X0_ok Tryz.func10 rfl rfl (by kernel_rfl) (⟨(by omega),(fun v1_0 v1_1 hI1=>⟨(fun h2=>⟨(by have:=of_decide_eq_true h2;omega),(by have:=of_decide_eq_true h2;omega)⟩),⟨(fun h3=>(by have:=of_decide_eq_true h3;first|omega|(have:=wrap64 (x:=(v1_0+1)) (by omega) (by omega);omega))),(fun h4=>(by have:=of_decide_eq_false h4;omega))⟩⟩)⟩)
theorem k152:XOk Tryz.prog 10 F152.ans:=Fq.ok ⟨_,_,Tryz.func10,rfl,by kernel_rfl⟩ pc152
noncomputable def g84_m1(x0:Int)(x1:Sl T175)(x2:Int)(x3:Sl T137):Bool:=(bif((g78 x0 x1)!=0)then true else(bif(decide (x2<1))then true else(bif(decide (x2>1048577))then true else(decide ((x3.n:Int)>4)))))
noncomputable def g84_m5(x2:Int)(x3:Sl T137)(v6_0:Int):Bool:=(bif(decide ((x3.at' (Int.toNat v6_0)).c0<1))then true else(bif(decide ((x3.at' (Int.toNat v6_0)).c0≥x2))then true else(bif(decide (v6_0>0))then(decide ((x3.at' (Int.toNat (IntKind.i64.wrap (v6_0-1)))).c0≥(x3.at' (Int.toNat v6_0)).c0))else false)))
noncomputable def g84_m13(x0:Int)(x3:Sl T137)(v6_0:Int):Bool:=(bif(decide ((x3.at' (Int.toNat v6_0)).c1<0))then true else(bif(decide ((x3.at' (Int.toNat v6_0)).c1>1048576))then true else(bif(decide ((x3.at' (Int.toNat v6_0)).c2<0))then true else(bif(decide ((x3.at' (Int.toNat v6_0)).c2>x0))then true else((g42 (x3.at' (Int.toNat v6_0)).c3 (x3.at' (Int.toNat v6_0)).c4 (x3.at' (Int.toNat v6_0)).c5 (x3.at' (Int.toNat v6_0)).c6)!=0)))))
noncomputable def g84_l6(x0:Int)(x2:Int)(x3:Sl T137):Nat→Int→Bool×Int
 |0,_=>default
 |k+1,v6_0=>(bif(decide (v6_0<(x3.n:Int)))then(bif(g84_m5 x2 x3 v6_0)then(true,13)else(bif(g84_m13 x0 x3 v6_0)then(true,13)else(g84_l6 x0 x2 x3 k (IntKind.i64.wrap (v6_0+1)))))else(false,default))
noncomputable def g84_r14(x0:Int)(x2:Int)(x3:Sl T137):Bool×Int:=g84_l6 x0 x2 x3 ((Int.toNat ((x3.n:Int)-0))+1) 0
noncomputable def g84_p15(x0:Int)(x2:Int)(x3:Sl T137):Bool:=(bif(g84_r14 x0 x2 x3).1 then false else true)
noncomputable def g84(x0:Int)(x1:Sl T175)(x2:Int)(x3:Sl T137):Int:=(bif(g84_m1 x0 x1 x2 x3)then 13 else(bif(g84_p15 x0 x2 x3)then 0 else(g84_r14 x0 x2 x3).2))
noncomputable def F84:Fq:=⟨[.g [kI,.sl E175,kI,.sl E137]],fun x0 x1 x2 x3=>⟨⟨none,.int .i64 (g84 x0 x1 x2 x3)⟩⟩⟩
theorem pc84:FnOk Tryz.prog 11 F84.sh _ (F84.sh.flatMap Sh.bs) F84.f []:=
 fun(x0:Int) x1 n1 _ (x2:Int) x3 n3 _=>pure_of_exec (X:=(mkX [(27,F42.ans),(26,F78.ans)])) (R:=⟨.pure,[.tmp 2],[(.t 0,kI)],⟨[U],[]⟩⟩) (h:=(.s .z (.s (.j ⟨16777222,[],[(.t 24,kB)],[],.f⟩ .z .z) (.j ⟨4,[],[],[],.f⟩ (.s .z (.lp ⟨469762054,[],[],[(.t 28,kI)],some 0,true,4,[.b 0],[],fun k (s:Int)=>g84_l6 x0 x2 x3 k s,.f,fun(s:Int)=>(0≤s∧s≤(x3.n:Int)),fun(s:Int)=>(Int.toNat ((x3.n:Int)-s)),none⟩ (.s .z (.s .z (.s (.s .z (.s (.j ⟨288243707663089694,[],[(.t 36,kB),(.t 42,kB),(.t 43,kB),(.t 58,kB)],[(.b .f .l),(.b .f .l),(.b .f (.b .f .l)),.f],.f⟩ .z .z) (.j ⟨40506328802898258549538846,[],[(.t 62,kB),(.t 66,kB),(.t 67,kB),(.t 71,kB),(.t 72,kB),(.t 79,kB),(.t 80,kB),(.t 85,kB)],[(.b .f .l),(.b .f .l),(.b .f (.b .f .l)),(.b .f (.b .f .l)),(.b .f (.b .f (.b .f .l))),(.b .f (.b .f (.b .f .l))),.f,.f],.f⟩ .z .z))) .z))))) .z)))) (ms:=[]) (p:=((g84_m1 x0 x1 x2 x3)=false→(((0≤(0:Int)∧(0:Int)≤(x3.n:Int)))∧(∀(v6_0:Int),(0≤v6_0∧v6_0≤(x3.n:Int))→(((decide (v6_0<(x3.n:Int)))=true→((0≤v6_0∧v6_0<((x3.n:Nat):Int))∧((decide ((x3.at' (Int.toNat v6_0)).c0<1))=false→((decide ((x3.at' (Int.toNat v6_0)).c0≥x2))=false→((decide (v6_0>0))=true→(0≤(IntKind.i64.wrap (v6_0-1))∧(IntKind.i64.wrap (v6_0-1))<((x3.n:Nat):Int)))))))∧((decide (v6_0<(x3.n:Int)))=true→((g84_m5 x2 x3 v6_0)=false→((g84_m13 x0 x3 v6_0)=false→((0≤(IntKind.i64.wrap (v6_0+1))∧(IntKind.i64.wrap (v6_0+1))≤(x3.n:Int))∧(Int.toNat ((x3.n:Int)- (IntKind.i64.wrap (v6_0+1))))<(Int.toNat ((x3.n:Int)-v6_0))))))))))) (mkX_ok ⟨k42,k78,trivial⟩) Tryz.func11 rfl rfl (by kernel_rfl) ((fun h1=>⟨(by have:=h1;simp [g84_m1]at this;omega),(fun v6_0 hI2=>⟨(fun h3=>⟨(by have:=h1;simp [g84_m1]at this;have:=of_decide_eq_true h3;omega),(fun h4=>(fun h5=>(fun h6=>(by have:=h1;simp [g84_m1]at this;have:=of_decide_eq_true h3;have:=of_decide_eq_false h4;have:=of_decide_eq_false h5;have:=of_decide_eq_true h6;first|omega|(have:=wrap64 (x:=(v6_0-1)) (by omega) (by omega);omega)))))⟩),(fun h7=>(fun h8=>(fun h9=>(by have:=h1;simp [g84_m1]at this;have:=of_decide_eq_true h7;have:=h8;simp [g84_m5]at this;have:=h9;simp [g84_m13]at this;first|omega|(have:=wrap64 (x:=(v6_0+1)) (by omega) (by omega);omega)))))⟩)⟩))
theorem k84:XOk Tryz.prog 11 F84.ans:=Fq.ok ⟨_,_,Tryz.func11,rfl,by kernel_rfl⟩ pc84
noncomputable def g85_l1(x3:Sl T137):Nat→Int→Sl T137→Sl T137
 |0,_,_=>default
 |k+1,v1_0,v1_1=>(bif(decide (v1_0<(x3.n:Int)))then(g85_l1 x3 k (IntKind.i64.wrap (v1_0+1)) (Sl.app v1_1 (Sl.lit ([(⟨(x3.at' (Int.toNat v1_0)).c0,(x3.at' (Int.toNat v1_0)).c1,(x3.at' (Int.toNat v1_0)).c2,(g152_0 (x3.at' (Int.toNat v1_0)).c3),(g152_1 (x3.at' (Int.toNat v1_0)).c4),(g152_2 (x3.at' (Int.toNat v1_0)).c5),(g152_3 (x3.at' (Int.toNat v1_0)).c6)⟩:T137)]:List T137))))else v1_1)
noncomputable def g85_r1(x3:Sl T137):Sl T137:=g85_l1 x3 ((Int.toNat ((x3.n:Int)-0))+1) 0 (nilSl:Sl T137)
noncomputable def g85_0(x0:Int):Int:=(g79_0 x0)
noncomputable def g85_1(x1:Sl T175):Sl T175:=(g79_1 x1)
noncomputable def g85_2(x2:Int):Int:=x2
noncomputable def g85_3(x3:Sl T137):Sl T137:=(g85_r1 x3)
noncomputable def F85:Fq:=⟨[.g [kI,.sl E175,kI,.sl E137]],fun x0 x1 x2 x3=>⟨⟨none,.agg [.int .i64 (g85_0 x0),ofSl 8 e175 (g85_1 x1),.int .i64 (g85_2 x2),ofSl 7 e137 (g85_3 x3)]⟩⟩⟩
theorem pc85:FnOk Tryz.prog 4 F85.sh _ (F85.sh.flatMap Sh.bs) F85.f []:=
 fun(x0:Int) x1 n1 _ (x2:Int) x3 n3 _=>pure_of_exec (X:=(mkX [(9,F79.ans),(10,F152.ans)])) (R:=⟨.pure,[.cell 2 27],[(.c 0 0,kI),(.c 0 1,.sl E175),(.c 0 2,kI),(.c 0 3,.sl E137)],⟨[.agg (us 4 [])],[]⟩⟩) (h:=(.s .z (.s .z (.j ⟨12,[],[],[],.f⟩ (.s .z (.lp ⟨30,[],[(.h 2 3,E137)],[(.t 4,kI),(.h 3 0,.blk E137)],some 0,false,12,[.b 0],[(.h 3 0,.blk E137)],fun k (s:Int×Sl T137)=>g85_l1 x3 k s.1 s.2,.f,fun(s:Int×Sl T137)=>((0≤s.1∧s.1≤(x3.n:Int))∧((s.2.n:Nat):Int)≤0+(s.1-0)),fun(s:Int×Sl T137)=>(Int.toNat ((x3.n:Int)-s.1)),some fun(r:Sl T137)=>((r.n:Nat):Int)≤0+max ((x3.n:Int)-0) 0⟩ .z)) .z)))) (ms:=[]) (p:=((((0≤(0:Int)∧(0:Int)≤(x3.n:Int))∧((0:Nat):Int)≤0+((0:Int)-0)))∧(∀(v1_0:Int) (v1_1:Sl T137),((0≤v1_0∧v1_0≤(x3.n:Int))∧((v1_1.n:Nat):Int)≤0+(v1_0-0))→(((decide (v1_0<(x3.n:Int)))=true→((0≤v1_0∧v1_0<((x3.n:Nat):Int))∧(v1_1.n+1≤549755813888)))∧(((decide (v1_0<(x3.n:Int)))=true→(((0≤(IntKind.i64.wrap (v1_0+1))∧(IntKind.i64.wrap (v1_0+1))≤(x3.n:Int))∧(((v1_1.n+1):Nat):Int)≤0+((IntKind.i64.wrap (v1_0+1))-0))∧(Int.toNat ((x3.n:Int)- (IntKind.i64.wrap (v1_0+1))))<(Int.toNat ((x3.n:Int)-v1_0))))∧((decide (v1_0<(x3.n:Int)))=false→(((v1_1.n:Nat):Int)≤0+max ((x3.n:Int)-0) 0))))))) (mkX_ok ⟨k79,k152,trivial⟩) Tryz.func4 rfl rfl (by kernel_rfl) (⟨(by omega),(fun v1_0 v1_1 hI1=>⟨(fun h2=>⟨(by have:=of_decide_eq_true h2;omega),(by have:=of_decide_eq_true h2;omega)⟩),⟨(fun h3=>(by have:=of_decide_eq_true h3;first|omega|(have:=wrap64 (x:=(v1_0+1)) (by omega) (by omega);omega))),(fun h4=>(by have:=of_decide_eq_false h4;omega))⟩⟩)⟩)
theorem k85:XOk Tryz.prog 4 F85.ans:=Fq.ok ⟨_,_,Tryz.func4,rfl,by kernel_rfl⟩ pc85
noncomputable def g86_m1(x0:Int)(x1:Sl T175)(x2:Int)(x3:Sl T137):Bool:=(bif((g80 x0 x1)!=0)then true else(bif(!(g112 x2 1 1048577))then true else(decide ((x3.n:Int)>4))))
noncomputable def g86_m11(x0:Int)(x2:Int)(x3:Sl T137)(v5_0:Int):Bool:=(bif(!(g120 (x3.at' (Int.toNat v5_0)).c0))then true else(bif(decide ((x3.at' (Int.toNat v5_0)).c0≥x2))then true else(bif(decide (v5_0>0))then(bif(decide ((x3.at' (Int.toNat (IntKind.i64.wrap (v5_0-1)))).c0≥(x3.at' (Int.toNat v5_0)).c0))then true else(bif(!(g112 (x3.at' (Int.toNat v5_0)).c1 0 1048576))then true else(bif(!(g112 (x3.at' (Int.toNat v5_0)).c2 0 x0))then true else((g44 (x3.at' (Int.toNat v5_0)).c3 (x3.at' (Int.toNat v5_0)).c4 (x3.at' (Int.toNat v5_0)).c5 (x3.at' (Int.toNat v5_0)).c6)!=0))))else(bif(!(g112 (x3.at' (Int.toNat v5_0)).c1 0 1048576))then true else(bif(!(g112 (x3.at' (Int.toNat v5_0)).c2 0 x0))then true else((g44 (x3.at' (Int.toNat v5_0)).c3 (x3.at' (Int.toNat v5_0)).c4 (x3.at' (Int.toNat v5_0)).c5 (x3.at' (Int.toNat v5_0)).c6)!=0))))))
noncomputable def g86_l5(x0:Int)(x2:Int)(x3:Sl T137):Nat→Int→Bool×Int
 |0,_=>default
 |k+1,v5_0=>(bif(decide (v5_0<(x3.n:Int)))then(bif(g86_m11 x0 x2 x3 v5_0)then(true,13)else(g86_l5 x0 x2 x3 k (IntKind.i64.wrap (v5_0+1))))else(false,default))
noncomputable def g86_r12(x0:Int)(x2:Int)(x3:Sl T137):Bool×Int:=g86_l5 x0 x2 x3 ((Int.toNat ((x3.n:Int)-0))+1) 0
noncomputable def g86_p13(x0:Int)(x2:Int)(x3:Sl T137):Bool:=(bif(g86_r12 x0 x2 x3).1 then false else true)
noncomputable def g86(x0:Int)(x1:Sl T175)(x2:Int)(x3:Sl T137):Int:=(bif(g86_m1 x0 x1 x2 x3)then 13 else(bif(g86_p13 x0 x2 x3)then 0 else(g86_r12 x0 x2 x3).2))
noncomputable def F86:Fq:=⟨[.g [kI,.sl E175,kI,.sl E137]],fun x0 x1 x2 x3=>⟨⟨none,.int .i64 (g86 x0 x1 x2 x3)⟩⟩⟩
theorem pc86:FnOk Tryz.prog 19 F86.sh _ (F86.sh.flatMap Sh.bs) F86.f []:=
 fun(x0:Int) x1 n1 _ (x2:Int) x3 n3 _=>pure_of_exec (X:=(mkX [(38,F44.ans),(36,F80.ans),(20,F112.ans),(37,F120.ans)])) (R:=⟨.pure,[.tmp 2],[(.t 0,kI)],⟨[U],[]⟩⟩) (h:=(.s .z (.s (.j ⟨1048582,[],[(.t 20,kB)],[],.f⟩ .z .z) (.j ⟨4,[],[],[],.f⟩ (.s .z (.lp ⟨14,[],[],[(.t 3,kI)],some 0,true,4,[.b 0],[],fun k (s:Int)=>g86_l5 x0 x2 x3 k s,.f,fun(s:Int)=>(0≤s∧s≤(x3.n:Int)),fun(s:Int)=>(Int.toNat ((x3.n:Int)-s)),none⟩ (.s .z (.s (.s .z (.j ⟨1265706627282427038400542,[],[(.t 37,kB),(.t 43,kB),(.t 44,kB),(.t 59,kB),(.t 60,kB),(.t 65,kB),(.t 66,kB),(.t 74,kB),(.t 75,kB),(.t 80,kB)],[(.b .f .l),(.b .f .l),(.b .f (.b .f .l)),(.b .f (.b .f (.b .l .l))),(.b .f (.b .f (.b (.b .f .l) .l))),(.b .f (.b .f (.b (.b .f .l) .l))),(.b .f (.b .f (.b (.b .f (.b .f .l)) (.b .f .l)))),(.b .f (.b .f (.b (.b .f (.b .f .l)) (.b .f .l)))),.f,.f],.f⟩ .z .z)) .z)))) .z)))) (ms:=[]) (p:=((g86_m1 x0 x1 x2 x3)=false→(((0≤(0:Int)∧(0:Int)≤(x3.n:Int)))∧(∀(v5_0:Int),(0≤v5_0∧v5_0≤(x3.n:Int))→(((decide (v5_0<(x3.n:Int)))=true→((0≤v5_0∧v5_0<((x3.n:Nat):Int))∧((!(g120 (x3.at' (Int.toNat v5_0)).c0))=false→((decide ((x3.at' (Int.toNat v5_0)).c0≥x2))=false→((decide (v5_0>0))=true→(0≤(IntKind.i64.wrap (v5_0-1))∧(IntKind.i64.wrap (v5_0-1))<((x3.n:Nat):Int)))))))∧((decide (v5_0<(x3.n:Int)))=true→((g86_m11 x0 x2 x3 v5_0)=false→((0≤(IntKind.i64.wrap (v5_0+1))∧(IntKind.i64.wrap (v5_0+1))≤(x3.n:Int))∧(Int.toNat ((x3.n:Int)- (IntKind.i64.wrap (v5_0+1))))<(Int.toNat ((x3.n:Int)-v5_0)))))))))) (mkX_ok ⟨k44,k80,k112,k120,trivial⟩) Tryz.func19 rfl rfl (by kernel_rfl) ((fun h1=>⟨(by have:=h1;simp [g86_m1]at this;omega),(fun v5_0 hI2=>⟨(fun h3=>⟨(by have:=h1;simp [g86_m1]at this;have:=of_decide_eq_true h3;omega),(fun h4=>(fun h5=>(fun h6=>(by have:=h1;simp [g86_m1]at this;have:=of_decide_eq_true h3;have:=of_decide_eq_false h5;have:=of_decide_eq_true h6;first|omega|(have:=wrap64 (x:=(v5_0-1)) (by omega) (by omega);omega)))))⟩),(fun h7=>(fun h8=>(by have:=h1;simp [g86_m1]at this;have:=of_decide_eq_true h7;have:=h8;simp [g86_m11]at this;first|omega|(have:=wrap64 (x:=(v5_0+1)) (by omega) (by omega);omega))))⟩)⟩))
theorem k86:XOk Tryz.prog 19 F86.ans:=Fq.ok ⟨_,_,Tryz.func19,rfl,by kernel_rfl⟩ pc86
end Go.Proofs.YtfbpilmhnpkfhaaGreatDoor
namespace Go.Proofs.YtfbpilmhnpkfhaaGreatDoor
open Go Go.Vc Go.RowKit
set_option maxRecDepth 100000
theorem g112_eq(n l h:Int):g112 n l h=(decide (n≥l)&&decide (n≤h)):=by
 unfold g112 g112_m1;cases decide (n≥l)<;>rfl
theorem g118_eq(x:ByteArray):g115 x=g118 x:=by
 unfold g118 g115 g115_m1;rw[g112_eq];cases decide ((x.size:Int)≥1)<;>rfl
theorem g116_eq(x:ByteArray):g116 x=g113 x:=rfl
theorem g117_eq(x:Int):g117 x=g114 x:=by
 unfold g117 g117_m1 g114;rw[g112_eq];cases decide (x≥(-1099511627776))<;>rfl
theorem g119_eq(x:Int):g119 x=g120 x:=by
 unfold g119 g119_m1 g120;rw[g112_eq];cases decide (x≥1)<;>rfl
end Go.Proofs.YtfbpilmhnpkfhaaGreatDoor
namespace Go.Proofs.YtfbpilmhnpkfhaaGreatDoor
open Go Go.Vc Go.RowKit
set_option maxRecDepth 100000
set_option maxHeartbeats 4000000
theorem copy73_3(s:Sl T160)(h:Canon s)(hn:s.n≤549755813888):g73_3 s=s:=copy_id (g73_l1 s) s h hn fun _ _ _=>rfl
theorem copy73_4(s:Sl ByteArray)(h:Canon s)(hn:s.n≤549755813888):g73_4 s=s:=copy_id (g73_l7 s) s h hn fun _ _ _=>rfl
theorem copy73_5(s:Sl T164)(h:Canon s)(hn:s.n≤549755813888):g73_5 s=s:=copy_id (g73_l13 s) s h hn fun _ _ _=>rfl
theorem a110(s:Sl ByteArray)(hn:s.n≤549755813888):g110_132 s=hit (fun i=> !(g113 (s.at' (Int.toNat i)))) s.n 0:=
 idx_hit _ _ _ (scan0 (g192_132_l1 s) s.n (fun i=> !(g113 (s.at' (Int.toNat i)))) (fun i=>i) hn fun _ _=>rfl)
theorem a133(s:Sl T160)(hn:s.n≤549755813888):g133_134 s=hit (fun i=>g134 (s.at' (Int.toNat i)).c0 (s.at' (Int.toNat i)).c1) s.n 0:=
 idx_hit _ _ _ (scan0 (g196_134_l1 s) s.n (fun i=>g134 (s.at' (Int.toNat i)).c0 (s.at' (Int.toNat i)).c1) (fun i=>i) hn fun _ _=>rfl)
theorem a135(s:Sl T164)(hn:s.n≤549755813888):g135_136 s=hit (fun i=> !(g113 (s.at' (Int.toNat i)).c0)) s.n 0:=
 idx_hit _ _ _ (scan0 (g197_136_l1 s) s.n (fun i=> !(g113 (s.at' (Int.toNat i)).c0)) (fun i=>i) hn fun _ _=>rfl)
theorem a137(s:Sl T164)(hn:s.n≤549755813888):g135_137 s=hit (fun i=> !(g117 (s.at' (Int.toNat i)).c1)) s.n 0:=
 idx_hit _ _ _ (scan0 (g197_137_l1 s) s.n (fun i=> !(g117 (s.at' (Int.toNat i)).c1)) (fun i=>i) hn fun _ _=>rfl)
theorem a144(s:Sl T164)(x:ByteArray)(hn:s.n≤549755813888):decide (g144 s x≥0)=hit (fun i=>(s.at' (Int.toNat i)).c0.toList==x.toList) s.n 0:=
 idx_hit _ _ _ (scan0 (g197_201s_l1 s x) s.n (fun i=>(s.at' (Int.toNat i)).c0.toList==x.toList) (fun i=>i) hn fun _ _=>rfl)
theorem a147(s:Sl T164)(x:ByteArray)(hn:s.n≤549755813888):decide (g147 s x≥0)=hit (fun i=>(s.at' (Int.toNat i)).c0.toList==x.toList) s.n 0:=
 idx_hit _ _ _ (scan0 (g147_l1 s x) s.n (fun i=>(s.at' (Int.toNat i)).c0.toList==x.toList) (fun i=>i) hn fun _ _=>rfl)
noncomputable def o3(s:Sl T160):Bool:=hit (fun i=> !(Op.bytesLess (s.at' (Int.toNat (IntKind.i64.wrap (i-1)))).c0.toList (s.at' (Int.toNat i)).c0.toList)) (s.n-1) 1
noncomputable def o4(s:Sl ByteArray):Bool:=hit (fun i=> !(Op.bytesLess (s.at' (Int.toNat (IntKind.i64.wrap (i-1)))).toList (s.at' (Int.toNat i)).toList)) (s.n-1) 1
noncomputable def o5(s:Sl T164):Bool:=hit (fun i=> !(g146 (s.at' (Int.toNat (IntKind.i64.wrap (i-1)))).c0 (s.at' (Int.toNat (IntKind.i64.wrap (i-1)))).c1 (s.at' (Int.toNat i)).c0 (s.at' (Int.toNat i)).c1)) (s.n-1) 1
noncomputable def same(s:Sl T164)(i:Int):Bool:=hit (fun j=>((Sl.part s 0 i).at' (Int.toNat j)).c0.toList==(s.at' (Int.toNat i)).c0.toList) (Sl.part s 0 i).n 0
theorem rise{F:Bool×Bool}{bad:Int→Bool}{m:Nat}(h:F=scan bad (fun _=>false) m 1):(bif(bif F.1 then false else true)then true else F.2)= !(hit bad m 1):=by
 rw[h,scan_const]
 cases hit bad m 1<;>rfl
theorem c139(a b:ByteArray):decide (g139 a b≥0)= !(Op.bytesLess a.toList b.toList):=cmp_less a b
theorem a138(s:Sl T160)(hn:s.n≤549755813888):g138_139 s= !(o3 s):=by
 refine(rise (scanG (g138_139_l1 s) s.n (fun i=>decide (g139 (s.at' (Int.toNat (IntKind.i64.wrap (i-1)))).c0 (s.at' (Int.toNat i)).c0≥0)) (fun _=>false) hn fun _ _=>rfl)).trans ?_
 congr 1
 exact hit_congr _ _ fun j _ _=>c139 _ _
theorem a142(s:Sl ByteArray)(hn:s.n≤549755813888):g142_143 s= !(o4 s):=by
 refine(rise (scanG (g142_143_l1 s) s.n (fun i=>decide (g143 (s.at' (Int.toNat (IntKind.i64.wrap (i-1)))) (s.at' (Int.toNat i))≥0)) (fun _=>false) hn fun _ _=>rfl)).trans ?_
 congr 1
 exact hit_congr _ _ fun j _ _=>cmp_less _ _
theorem e198(a b:Int):g198 (Sl.lit [a,b])=bif a !=0 then a else b:=by
 have h:g198_r1 (Sl.lit [a,b])=scan (fun i=>(Sl.lit [a,b]).at' (Int.toNat i)!=0) (fun i=>(Sl.lit [a,b]).at' (Int.toNat i)) 2 0:=
  scan0 (g198_l1 (Sl.lit [a,b])) 2 _ _ (by omega) fun _ _=>rfl
 have e0:(Sl.lit [a,b]).at' (Int.toNat 0)=a:=rfl
 have e1:(Sl.lit [a,b]).at' (Int.toNat (0+1))=b:=rfl
 simp only[g198,g198_p2,h,scan,e0,e1]
 cases h1:(a !=0)
 ·cases h2:(b !=0)
  ·have:b=0:=by simpa[bne]using h2
   subst this;rfl
  ·rfl
 ·rfl
theorem e199(a b:Int):g199 a b=bif decide (a<b)then-1 else bif decide (a>b)then 1 else 0:=by
 simp [g199,g225]
theorem c141(a:ByteArray)(x:Int)(b:ByteArray)(y:Int):decide (g141 a x b y≥0)= !(g146 a x b y):=by
 simp only[g141,e198,e199,g146]
 by_cases h1:x<y
 ·have h2:x≠y:=by omega
  simp [h1,h2]
 ·by_cases h2:x>y
  ·have h3:x≠y:=by omega
   simp [h1,h2,h3]
  ·have h3:x=y:=by omega
   subst h3
   have e1:decide (x<x)=false:=by simp
   have e2:decide (x>x)=false:=by simp
   have e3:(x !=x)=false:=by simp
   rw[e1,e3]
   exact cmp_less a b
theorem a140(s:Sl T164)(hn:s.n≤549755813888):g140_141 s= !(o5 s):=by
 refine(rise (scanG (g140_141_l1 s) s.n (fun i=>decide (g141 (s.at' (Int.toNat (IntKind.i64.wrap (i-1)))).c0 (s.at' (Int.toNat (IntKind.i64.wrap (i-1)))).c1 (s.at' (Int.toNat i)).c0 (s.at' (Int.toNat i)).c1≥0)) (fun _=>false) hn fun _ _=>rfl)).trans ?_
 congr 1
 exact hit_congr _ _ fun j _ _=>c141 _ _ _ _
theorem fall{F:Bool×Int}{bad:Int→Bool}{c:Int}{m:Nat}{i:Int}(h:F=scan bad (fun _=>c) m i)(X:Int):(bif(bif F.1 then false else true)then X else F.2)=bif hit bad m i then c else X:=by
 rw[h,scan_const]
 cases hit bad m i<;>rfl
theorem u4(s:Sl ByteArray)(hn:s.n≤549755813888):g74_r4 s=scan (fun i=> !(g113 (s.at' (Int.toNat i)))) (fun _=>1) s.n 0:=
 scan0 (g74_l56 s) s.n _ _ hn fun _ _=>rfl
theorem u8(s:Sl T160)(hn:s.n≤549755813888):g74_r8 s=scan (fun i=>g134 (s.at' (Int.toNat i)).c0 (s.at' (Int.toNat i)).c1) (fun _=>1) s.n 0:=
 scan0 (g74_l63 s) s.n _ _ hn fun k i=>by
  have:g74_m7 s i=g134 (s.at' (Int.toNat i)).c0 (s.at' (Int.toNat i)).c1:=by
   simp only[g74_m7,g134,g134_m1,g118_eq,g116_eq]
  show(bif decide (i<(s.n:Int))then(bif(g74_m7 s i)then(true,1)else _)else _)=_
  rw[this]
theorem u10(s:Sl T164)(hn:s.n≤549755813888):g74_r10 s=scan (fun i=> !(g113 (s.at' (Int.toNat i)).c0)) (fun _=>1) s.n 0:=
 scan0 (g74_l74 s) s.n _ _ hn fun _ _=>rfl
theorem u12(s:Sl T164)(hn:s.n≤549755813888):g74_r12 s=scan (fun i=> !(g117 (s.at' (Int.toNat i)).c1)) (fun _=>2) s.n 0:=
 scan0 (g74_l82 s) s.n _ _ hn fun k i=>by
  simp only[g117_eq];rfl
theorem u14(s:Sl T160)(hn:s.n≤549755813888):g74_r14 s=scan (fun i=> !(Op.bytesLess (s.at' (Int.toNat (IntKind.i64.wrap (i-1)))).c0.toList (s.at' (Int.toNat i)).c0.toList)) (fun _=>10) (s.n-1) 1:=
 scanG (g74_l89 s) s.n _ _ hn fun _ _=>rfl
theorem u18(x:Int)(s:Sl ByteArray)(hn:s.n≤549755813888)(X:Int):(bif g74_p19 x s then X else(g74_r18 x s).2)=bif(x==5&&o4 s)then 10 else X:=by
 cases hx:(x==5)with
 |false=>
  have:g74_r18 x s=(false,default):=by
   show(bif(bif decide ((1:Int)<(s.n:Int))then(x==5)else false)then _ else _)=_
   rw[hx];cases decide ((1:Int)<(s.n:Int))<;>rfl
  simp only[g74_p19,this];rfl
 |true=>
  have:g74_r18 x s=scan (fun i=> !(Op.bytesLess (s.at' (Int.toNat (IntKind.i64.wrap (i-1)))).toList (s.at' (Int.toNat i)).toList)) (fun _=>10) (s.n-1) 1:=
   scanG (g74_l96 x s) s.n _ _ hn fun k i=>by
    have:g74_m17 x s i=decide (i<(s.n:Int)):=by
     simp only[g74_m17,hx];cases decide (i<(s.n:Int))<;>rfl
    show(bif g74_m17 x s i then _ else _)=_
    rw[this]
  exact fall this X
theorem part_n{α:Type}[Inhabited α](s:Sl α)(i:Int)(h0:0≤i)(h1:i≤s.n):((Sl.part s 0 i).n:Int)=i:=by
 simp [Sl.part];omega
theorem u22(s:Sl T164)(hn:s.n≤1048576):g74_r22 s=scan (fun i=> !(g146 (s.at' (Int.toNat (IntKind.i64.wrap (i-1)))).c0 (s.at' (Int.toNat (IntKind.i64.wrap (i-1)))).c1 (s.at' (Int.toNat i)).c0 (s.at' (Int.toNat i)).c1)||decide (g147 (Sl.part s 0 i) (s.at' (Int.toNat i)).c0≥0)) (fun _=>10) (s.n-1) 1:=
 scanG (g74_l107 s) s.n _ _ (by omega) fun k i=>by
  have:g74_m21 s i=(!(g146 (s.at' (Int.toNat (IntKind.i64.wrap (i-1)))).c0 (s.at' (Int.toNat (IntKind.i64.wrap (i-1)))).c1 (s.at' (Int.toNat i)).c0 (s.at' (Int.toNat i)).c1)||decide (g147 (Sl.part s 0 i) (s.at' (Int.toNat i)).c0≥0)):=by
   simp only[g74_m21]
   cases g146 (s.at' (Int.toNat (IntKind.i64.wrap (i-1)))).c0 (s.at' (Int.toNat (IntKind.i64.wrap (i-1)))).c1 (s.at' (Int.toNat i)).c0 (s.at' (Int.toNat i)).c1<;>rfl
  show(bif decide (i<(s.n:Int))then(bif(g74_m21 s i)then(true,10)else _)else _)=_
  rw[this]
theorem same147(s:Sl T164)(i:Int)(h0:0≤i)(h1:i<s.n)(hn:s.n≤1048576):decide (g147 (Sl.part s 0 i) (s.at' (Int.toNat i)).c0≥0)=same s i:=by
 have:=part_n s i h0 (by omega)
 exact a147 _ _ (by omega)
theorem same144(s:Sl T164)(i:Int)(h0:0≤i)(h1:i<s.n)(hn:s.n≤1048576):decide (g144 (Sl.part s 0 i) (s.at' (Int.toNat i)).c0≥0)=same s i:=by
 have:=part_n s i h0 (by omega)
 exact a144 _ _ (by omega)
theorem o22(s:Sl T164)(hn:s.n≤1048576)(X:Int):(bif g74_p23 s then X else(g74_r22 s).2)=bif(o5 s||hit (same s) (s.n-1) 1)then 10 else X:=by
 refine(fall (u22 s hn) X).trans ?_
 rw[hit_or]
 rw[show hit (fun i=>decide (g147 (Sl.part s 0 i) (s.at' (Int.toNat i)).c0≥0)) (s.n-1) 1=hit (same s) (s.n-1) 1 from hit_congr _ _ fun j h1 h2=>same147 s j (by omega) (by omega) hn]
 rfl
theorem l23(s:Sl T164)(hn:s.n≤1048576): ∀(m k:Nat) (b:Bool) (i:Int),0≤i→i+(m:Int)=s.n→m≤k→g72_l29 s (k+1) b i=(b&& !(hit (same s) m i))
 |0,k,b,i,h0,hi,hk=>by
  show(bif decide (i<(s.n:Int))then _ else b)=_
  rw[show decide (i<(s.n:Int))=false by simp;omega]
  simp [hit]
 |m+1,k,b,i,h0,hi,hk=>by
  obtain⟨k,rfl⟩: ∃k',k=k'+1:=⟨k-1,by omega⟩
  show(bif decide (i<(s.n:Int))then g72_l29 s (k+1) (g72_m12 s b i) (IntKind.i64.wrap (i+1))else b)=_
  rw[show decide (i<(s.n:Int))=true by simp;omega]
  simp only[cond_true]
  rw[wrap64 (by omega) (by omega),l23 s hn m k _ (i+1) (by omega) (by omega) (by omega)]
  have e:decide (g144 (Sl.part s 0 i) (s.at' (Int.toNat i)).c0<0)= !(same s i):=by
   rw[←same144 s i h0 (by omega) hn]
   by_cases h:g144 (Sl.part s 0 i) (s.at' (Int.toNat i)).c0<0
   ·have: ¬(0≤g144 (Sl.part s 0 i) (s.at' (Int.toNat i)).c0):=by omega
    simp [h,this]
   ·have:0≤g144 (Sl.part s 0 i) (s.at' (Int.toNat i)).c0:=by omega
    simp [h,this]
  simp only[g72_m12,e,hit]
  cases b<;>cases same s i<;>simp
theorem l23z(s:Sl T164)(hn:s.n≤1048576):hit (same s) s.n 0=hit (same s) (s.n-1) 1:=by
 rcases Nat.eq_zero_or_pos s.n with h|h
 ·rw[h];rfl
 ·obtain⟨m,hm⟩: ∃m,s.n=m+1:=⟨s.n-1,by omega⟩
  rw[hm]
  show(same s 0||hit (same s) m (0+1))=hit (same s) (m+1-1) 1
  have:same s 0=false:=by
   have h:=part_n s 0 (Int.le_refl _) (by omega)
   have h:(Sl.part s 0 0).n=0:=by omega
   simp only[same]
   rw[h];rfl
  rw[this];rfl
theorem e15(x:Int)(s3:Sl T160)(s4:Sl ByteArray)(s5:Sl T164)(h3:s3.n≤1048576)(h4:s4.n≤1048576)(h5:s5.n≤1048576):g72_r15 x s3 s4 s5=(!(o3 s3)&& !(o5 s5)&&(!(x==5)|| !(o4 s4))&& !(hit (same s5) (s5.n-1) 1)):=by
 rw[←l23z s5 h5]
 unfold g72_r15
 rw[l23 s5 h5 s5.n _ _ 0 (Int.le_refl _) (by omega) (by omega)]
 simp only[g72_m11,a138 s3 (by omega),a140 s5 (by omega),a142 s4 (by omega),bne]
 cases o3 s3<;>cases o5 s5<;>cases x==5<;>cases o4 s4<;>rfl
theorem sum_eq(s3:Sl T160)(s4:Sl ByteArray)(s5:Sl T164)(h3:s3.n≤1048576)(h4:s4.n≤1048576)(h5:s5.n≤1048576):g131 s3 s4 s5=(s3.n:Int)+s4.n+s5.n:=by
 unfold g131
 rw[wrap64 (x:=(s3.n:Int)+s4.n) (by omega) (by omega),wrap64 (by omega) (by omega)]
theorem sum_eq'(s3:Sl T160)(s4:Sl ByteArray)(s5:Sl T164)(h3:s3.n≤1048576)(h4:s4.n≤1048576)(h5:s5.n≤1048576):g145 s3 s4 s5=(s3.n:Int)+s4.n+s5.n:=sum_eq s3 s4 s5 h3 h4 h5
theorem sum_pos(s3:Sl T160)(s4:Sl ByteArray)(s5:Sl T164)(h3:s3.n≤1048576)(h4:s4.n≤1048576)(h5:s5.n≤1048576):decide (g131 s3 s4 s5>0)=(decide ((s3.n:Int)>0)||decide ((s4.n:Int)>0)||decide ((s5.n:Int)>0)):=by
 rw[sum_eq _ _ _ h3 h4 h5,Bool.eq_iff_iff]
 simp only[Bool.or_eq_true,decide_eq_true_eq]
 omega
theorem forms(x0:Int)(x1:ByteArray)(x2:Int)(s3:Sl T160)(s4:Sl ByteArray)(s5:Sl T164)(h3:s3.n≤1048576)(h4:s4.n≤1048576)(h5:s5.n≤1048576)(h:1≤x0∧x0≤6):g72_m7 x0 x1 x2 s3 s4 s5=g74_m2 x0 x1 x2 s3 s4 s5:=by
 have hx:x0=1∨x0=2∨x0=3∨x0=4∨x0=5∨x0=6:=by omega
 unfold g72_m7 g74_m2
 have hz {α:Type} [Inhabited α]:decide ((((nilSl:Sl α).n:Nat):Int)>0)=false:=rfl
 have b3:(g72_m4 x0 s3).n≤1048576:=by
  unfold g72_m4;cases x0==1<;>cases x0==2<;>cases x0==3<;>simp [nilSl,h3]
 have b4:(g72_m5 x0 s4).n≤1048576:=by
  unfold g72_m5;cases x0==1<;>cases x0==2<;>cases x0==3<;>cases x0==6<;>simp [nilSl,h4]
 have b5:(g72_m6 x0 s5).n≤1048576:=by
  unfold g72_m6;cases x0==1<;>cases x0==2<;>cases x0==3<;>cases x0==6<;>simp [nilSl,h5]
 rw[sum_pos _ _ _ b3 b4 b5]
 unfold g72_m2 g72_m3 g72_m4 g72_m5 g72_m6 g74_m1
 clear b3 b4 b5
 have he:(ByteArray.toList ⟨#[]⟩==ByteArray.toList ⟨#[]⟩)=true:=by simp
 rcases hx with rfl|rfl|rfl|rfl|rfl|rfl<;>
  simp only[Int.reduceBEq,beq_self_eq_true,bne,cond_true,cond_false,Bool.not_true,Bool.not_false,he,hz]<;>
  (generalize decide ((s3.n:Int)>0)=a3;generalize decide ((s4.n:Int)>0)=a4;generalize decide ((s5.n:Int)>0)=a5
   generalize (x1.toList==ByteArray.toList ⟨#[]⟩)=e1;generalize (x2==0)=e2
   revert a3 a4 a5 e1 e2;decide)
theorem g72_eq(x0:Int)(x1:ByteArray)(x2:Int)(s3:Sl T160)(s4:Sl ByteArray)(s5:Sl T164)(h3:s3.n≤1048576)(h4:s4.n≤1048576)(h5:s5.n≤1048576):g72 x0 x1 x2 s3 s4 s5=g74 x0 x1 x2 s3 s4 s5:=by
 unfold g72 g74
 have hm:g72_m1 x0= !(g112 x0 1 6):=by
  rw[g112_eq];unfold g72_m1
  by_cases h1:x0<1
  ·have: ¬(x0≥1):=by omega
   simp [h1,this]
  ·by_cases h2:x0>6
   ·have: ¬(x0≤6):=by omega
    simp [h2,this]
   ·have:x0≥1:=by omega
    have:x0≤6:=by omega
    simp [*]
 rw[hm]
 cases hr:g112 x0 1 6 with
 |false=>rfl
 |true=>
  simp only[Bool.not_true,cond_false]
  have hr:1≤x0∧x0≤6:=by simpa[g112_eq]using hr
  rw[forms x0 x1 x2 s3 s4 s5 h3 h4 h5 hr]
  cases g74_m2 x0 x1 x2 s3 s4 s5
  ·simp only[cond_false]
   have f4:=fun X=>fall (u4 s4 (by omega)) X
   have f8:=fun X=>fall (u8 s3 (by omega)) X
   have f10:=fun X=>fall (u10 s5 (by omega)) X
   have f12:=fun X=>fall (u12 s5 (by omega)) X
   have f14:=fun X=>fall (u14 s3 (by omega)) X
   have f18:=fun X=>u18 x0 s4 (by omega) X
   have f22:=fun X=>o22 s5 h5 X
   simp only[g74_p5,g74_p9,g74_p11,g74_p13,g74_p15,f4,f8,f10,f12,f14,f18,f22]
   have hs:g112 (g145 s3 s4 s5) 1 20= !(bif decide (g131 s3 s4 s5<1)then true else decide (g131 s3 s4 s5>20)):=by
    rw[sum_eq _ _ _ h3 h4 h5,sum_eq' _ _ _ h3 h4 h5,g112_eq]
    generalize (s3.n:Int)+s4.n+s5.n=t
    by_cases h1:t<1
    ·have: ¬(t≥1):=by omega
     simp [h1,this]
    ·by_cases h2:t>20
     ·have: ¬(t≤20):=by omega
      simp [h2,this]
     ·have:t≥1:=by omega
      have:t≤20:=by omega
      simp [*]
   simp only[g74_m3,g72_m8,g72_m9,g72_m10,hs,a110 s4 (by omega),a133 s3 (by omega),a135 s5 (by omega),a137 s5 (by omega),e15 x0 s3 s4 s5 h3 h4 h5,g116_eq,g117_eq]
   have ho:hit (fun i=> !(Op.bytesLess (s3.at' (Int.toNat (IntKind.i64.wrap (i-1)))).c0.toList (s3.at' (Int.toNat i)).c0.toList)) (s3.n-1) 1=o3 s3:=rfl
   rw[ho]
   generalize (bif decide (g131 s3 s4 s5<1)then true else decide (g131 s3 s4 s5>20))=b1
   generalize g113 x1=b2
   generalize g114 x2=b3
   generalize hit _ s4.n 0=b4
   generalize hit _ s3.n 0=b5
   generalize hit (fun i=> !(g113 _)) s5.n 0=b6
   generalize hit _ s5.n 0=b7
   generalize o3 s3=b8
   generalize o4 s4=b9
   generalize o5 s5=b10
   generalize hit _ (s5.n-1) 1=b11
   generalize (x0==5)=b12
   cases decide (x0≥3)<;>cases b1<;>cases b2<;>try rfl
   all_goals (cases b4<;>cases b5<;>cases b6<;>cases b3<;>cases b7<;>try rfl)
   all_goals (cases b8<;>cases b9<;>cases b10<;>cases b11<;>cases b12<;>rfl)
  ·rfl
end Go.Proofs.YtfbpilmhnpkfhaaGreatDoor
namespace Go.Vc
open Go Go.RowKit
theorem copy_idc{α:Type}[Inhabited α](F:Nat→Int→Sl α→Sl α)(s:Sl α)(f:Int→α)(hs:Canon s)(hn:s.n≤549755813888)(hf: ∀i:Nat,i<s.n→f (i:Int)=s.at' i)(hF: ∀k i t,F (k+1) i t=bif decide (i<(s.n:Int))then F k (IntKind.i64.wrap (i+1)) (Sl.app t (Sl.lit [f i]))else t):
  F (Int.toNat ((s.n:Int)-0)+1) 0 nilSl=s:=by
 rw[copyL F s.n f hn hF s.n _ 0 nilSl Canon.nil (Int.le_refl _) (by omega) (by omega),nil_app]
 refine Canon.eq (Canon.tab _ _ _) hs rfl fun i hi=> ?_
 have hi:i<s.n:=hi
 simp only[tab,blt_t hi,cond_true]
 rw[show(0:Int)+(i:Int)=(i:Int) by omega]
 exact hf i hi
theorem bif_or{α:Type}(a b:Bool)(x y:α):(bif a then x else bif b then x else y)=bif(a||b)then x else y:=by cases a<;>rfl
end Go.Vc
namespace Go.Proofs.YtfbpilmhnpkfhaaGreatDoor
open Go Go.Vc Go.RowKit
set_option maxRecDepth 100000
set_option maxHeartbeats 4000000
theorem copy79(s:Sl T175)(h:Canon s)(hn:s.n≤549755813888)(hw: ∀i,i<s.n→W175 (s.at' i)):g79_1 s=s:=by
 refine copy_idc (g79_l1 s) s (fun i=>⟨(s.at' (Int.toNat i)).c0,g73_0 (s.at' (Int.toNat i)).c1,g73_1 (s.at' (Int.toNat i)).c2,g73_2 (s.at' (Int.toNat i)).c3,g73_3 (s.at' (Int.toNat i)).c4,g73_4 (s.at' (Int.toNat i)).c5,g73_5 (s.at' (Int.toNat i)).c6,(s.at' (Int.toNat i)).c7⟩) h hn (fun i hi=> ?_) fun _ _ _=>rfl
 obtain⟨⟨a1,a2⟩,⟨b1,b2⟩,c1,c2⟩:=hw i hi
 simp only[Int.toNat_natCast,g73_0,g73_1,g73_2]
 rw[copy73_3 _ a1 (by omega),copy73_4 _ b1 (by omega),copy73_5 _ c1 (by omega)]
theorem n118(x:ByteArray)(b:Bool):(bif !(g118 x)then true else b)=(bif decide ((x.size:Int)<1)then true else bif decide ((x.size:Int)>12)then true else b):=by
 have:(!(g118 x))=(decide ((x.size:Int)<1)||decide ((x.size:Int)>12)):=by
  unfold g118
  rw[g112_eq]
  by_cases h1:(x.size:Int)<1
  ·have: ¬((x.size:Int)≥1):=by omega
   simp only[h1,this,decide_true,decide_false,Bool.false_and,Bool.not_false,Bool.true_or]
  ·by_cases h2:(x.size:Int)>12
   ·have: ¬((x.size:Int)≤12):=by omega
    simp only[h2,this,decide_true,decide_false,Bool.and_false,Bool.not_false,Bool.or_true]
   ·have h3:(x.size:Int)≥1:=by omega
    have h4:(x.size:Int)≤12:=by omega
    simp only[h1,h2,h3,h4,decide_true,decide_false,Bool.and_true,Bool.not_true,Bool.or_false]
 rw[this]
 cases decide ((x.size:Int)<1)<;>cases decide ((x.size:Int)>12)<;>rfl
theorem until_eq(x u:Int)(h:0≤x):(bif(!(g112 u 0 1073741824))then true else decide (u≤x))=(bif decide (u≤x)then true else decide (u>1073741824)):=by
 rw[g112_eq]
 by_cases h1:u≤x
 ·simp [h1]
 ·have h2:u≥0:=by omega
  by_cases h3:u>1073741824
  ·have: ¬(u≤1073741824):=by omega
   simp [h1,h3,this]
  ·have:u≤1073741824:=by omega
   simp [h1,h2,h3,this]
theorem e78(x0:Int)(s:Sl T175)(h0:0≤x0)(hn:s.n≤549755813888)(hw: ∀i,i<s.n→W175 (s.at' i)):g78_r10 x0 s=g80_r8 x0 s:=by
 have hl:g78_r10 x0 s=scan (fun i=>g78_m7 s i||g78_m9 x0 s i) (fun _=>13) s.n 0:=scan0 (g78_l5 x0 s) s.n _ _ hn fun k i=>by
  show(bif decide (i<(s.n:Int))then(bif(g78_m7 s i)then(true,13)else(bif(g78_m9 x0 s i)then(true,13)else g78_l5 x0 s k (IntKind.i64.wrap (i+1))))else(false,default))=_
  rw[bif_or]
 have hr:g80_r8 x0 s=scan (fun i=>g80_m5 s i||g80_m7 x0 s i) (fun _=>13) s.n 0:=scan0 (g80_l4 x0 s) s.n _ _ hn fun k i=>by
  show(bif decide (i<(s.n:Int))then(bif(g80_m5 s i)then(true,13)else(bif(g80_m7 x0 s i)then(true,13)else g80_l4 x0 s k (IntKind.i64.wrap (i+1))))else(false,default))=_
  rw[bif_or]
 rw[hl,hr]
 refine scan_congr _ _ (fun j j0 j1=> ?_) fun _ _ _=>rfl
 obtain⟨⟨_,a2⟩,⟨_,b2⟩,_,c2⟩:=hw (Int.toNat j) (by omega)
 have e5:g80_m5 s j=g78_m7 s j:=by
  simp only[g80_m5,g78_m7]
  rw[g72_eq _ _ _ _ _ _ a2 b2 c2]
  exact n118 _ _
 have e7:g80_m7 x0 s j=g78_m9 x0 s j:=by
  simp only[g80_m7,g78_m9]
  rw[until_eq _ _ h0]
 rw[e5,e7]
theorem g78_eq(x0:Int)(s:Sl T175)(hn:s.n≤549755813888)(hw: ∀i,i<s.n→W175 (s.at' i)):g78 x0 s=g80 x0 s:=by
 unfold g78 g80
 have hm:g78_m1 x0 s=g80_m1 x0 s:=by
  unfold g78_m1 g80_m1
  rw[g112_eq]
  by_cases h1:x0<0
  ·have: ¬(x0≥0):=by omega
   simp [h1,this]
  ·have h3:x0≥0:=by omega
   by_cases h2:x0>1073741824
   ·have: ¬(x0≤1073741824):=by omega
    simp [h2,this]
   ·have:x0≤1073741824:=by omega
    simp [h1,h2,h3,this]
 rw[hm]
 cases h:g80_m1 x0 s with
 |true=>rfl
 |false=>
  have h0:0≤x0:=by
   unfold g80_m1 at h
   rw[g112_eq]at h
   by_cases h3:x0≥0
   ·exact h3
   ·simp [h3]at h
  simp only[g78_p11,g80_p9,e78 x0 s h0 hn hw]
end Go.Proofs.YtfbpilmhnpkfhaaGreatDoor
namespace Go.Proofs.YtfbpilmhnpkfhaaGreatDoor
open Go Go.Vc Go.RowKit
set_option maxRecDepth 100000
theorem scan192(s:Sl ByteArray)(hn:s.n≤549755813888):g192_111_r1 s=scan (fun i=>g111 (s.at' (Int.toNat i))) (fun i=>i) s.n 0:=scan0 (g192_111_l1 s) s.n _ _ hn fun _ _=>rfl
theorem scan44(s:Sl ByteArray)(hn:s.n≤549755813888):g44_r2 s=scan (fun i=> !(g113 (s.at' (Int.toNat i)))) (fun _=>1) s.n 0:=scan0 (g44_l5 s) s.n _ _ hn fun _ _=>rfl
theorem t111(s:ByteArray):g111 s= !(g113 s):=by
 simp only[g111,g113]
 by_cases h:(s.size:Int)>20<;>simp [h]<;>omega
theorem g42_eq(x0:Int)(x1:ByteArray)(x2:Int)(x3:Sl ByteArray)(hm:x3.n≤1048576):g42 x0 x1 x2 x3=g44 x0 x1 x2 x3:=by
 have hn:x3.n≤549755813888:=by omega
 have h1:g110_111 x3=(g44_r2 x3).1:=by
  simp only[g110_111,g192_111,g192_111_p2]
  have e:(g192_111_r1 x3).1=(g44_r2 x3).1:=by
   rw[scan192 x3 hn,scan44 x3 hn,scan_fst _ _ (fun _=>(1:Int))]
   congr 1
   exact scan_congr _ _ (fun j _ _=>t111 _) (fun _ _ _=>rfl)
  rw[←e]
  rcases Bool.eq_false_or_eq_true (g192_111_r1 x3).1 with h|h
  ·have h4:0≤(g192_111_r1 x3).2:=by
    rw[scan192 x3 hn]at h ⊢
    obtain⟨j,h1,h2,_,h4⟩:=scan_snd _ _ h
    rw[h4];exact h1
   simp [h,h4]
  ·simp [h]
 have h2:(g44_r2 x3).1=true→(g44_r2 x3).2=1:=fun h=>by
  rw[scan44 x3 hn]at h ⊢
  obtain⟨j,_,_,_,h4⟩:=scan_snd _ _ h
  exact h4
 simp only[g42,g44,h1,g44_p3]
 have e0:g42_m1 x0= !(g112 x0 0 13):=by
  simp only[g42_m1,g112,g112_m1]
  by_cases h1:x0<0<;>by_cases h2:x0>13<;>simp [h1,h2]<;>omega
 have e1:g42_m2 x1 x3=g44_m1 x1 x3:=by
  simp only[g42_m2,g44_m1,←t111]
  rfl
 have e2:g42_m3 x2= !(g114 x2):=by
  simp only[g42_m3,g114,g112,g112_m1]
  by_cases h1:x2< -1099511627776<;>by_cases h2:x2>1099511627776<;>simp [h1,h2]<;>omega
 rw[e0,e1,e2]
 cases g112 x0 0 13<;>cases g44_m1 x1 x3<;>cases h3:(g44_r2 x3).1<;>cases g114 x2<;>simp<;>exact(h2 h3).symm
end Go.Proofs.YtfbpilmhnpkfhaaGreatDoor
namespace Go.Proofs.YtfbpilmhnpkfhaaGreatDoor
open Go Go.Vc Go.RowKit
set_option maxRecDepth 100000
set_option maxHeartbeats 4000000
theorem copy152(s:Sl ByteArray)(h:Canon s)(hn:s.n≤549755813888):g152_3 s=s:=copy_id (g152_l1 s) s h hn fun _ _ _=>rfl
theorem copy85(s:Sl T137)(h:Canon s)(hn:s.n≤549755813888)(hw: ∀i,i<s.n→W137 (s.at' i)):g85_3 s=s:=by
 refine copy_idc (g85_l1 s) s (fun i=>⟨(s.at' (Int.toNat i)).c0,(s.at' (Int.toNat i)).c1,(s.at' (Int.toNat i)).c2,g152_0 (s.at' (Int.toNat i)).c3,g152_1 (s.at' (Int.toNat i)).c4,g152_2 (s.at' (Int.toNat i)).c5,g152_3 (s.at' (Int.toNat i)).c6⟩) h hn (fun i hi=> ?_) fun _ _ _=>rfl
 obtain⟨a1,a2⟩:=hw i hi
 simp only[Int.toNat_natCast,g152_0,g152_1,g152_2]
 rw[copy152 _ a1 (by omega)]
theorem in_not(n l h:Int):(!(g112 n l h))=(decide (n<l)||decide (n>h)):=by
 rw[g112_eq]
 by_cases h1:n<l
 ·have: ¬(n≥l):=by omega
  simp [h1,this]
 ·by_cases h2:n>h
  ·have: ¬(n≤h):=by omega
   simp [h2,this]
  ·have h3:n≥l:=by omega
   have h4:n≤h:=by omega
   simp [h1,h2,h3,h4]
theorem e84(x0 x2:Int)(s:Sl T137)(hx:x2≤1048577)(hn:s.n≤549755813888)(hw: ∀i,i<s.n→W137 (s.at' i)):g84_r14 x0 x2 s=g86_r12 x0 x2 s:=by
 have hl:g84_r14 x0 x2 s=scan (fun i=>g84_m5 x2 s i||g84_m13 x0 s i) (fun _=>13) s.n 0:=scan0 (g84_l6 x0 x2 s) s.n _ _ hn fun k i=>by
  show(bif decide (i<(s.n:Int))then(bif(g84_m5 x2 s i)then(true,13)else(bif(g84_m13 x0 s i)then(true,13)else g84_l6 x0 x2 s k (IntKind.i64.wrap (i+1))))else(false,default))=_
  rw[bif_or]
 have hr:g86_r12 x0 x2 s=scan (fun i=>g86_m11 x0 x2 s i) (fun _=>13) s.n 0:=scan0 (g86_l5 x0 x2 s) s.n _ _ hn fun k i=>rfl
 rw[hl,hr]
 refine scan_congr _ _ (fun j j0 j1=> ?_) fun _ _ _=>rfl
 obtain⟨_,a2⟩:=hw (Int.toNat j) (by omega)
 simp only[g86_m11,g84_m5,g84_m13,g120,in_not,g42_eq _ _ _ _ a2]
 generalize (s.at' (Int.toNat j)).c0=a
 generalize (s.at' (Int.toNat j)).c1=b
 generalize (s.at' (Int.toNat j)).c2=c
 generalize (s.at' (Int.toNat (IntKind.i64.wrap (j-1)))).c0=d
 generalize (g44 _ _ _ _ !=0)=e
 have h1:(decide (a<1)||decide (a>1048576)||decide (a≥x2))=(decide (a<1)||decide (a≥x2)):=by
  by_cases h:a>1048576
  ·have:a≥x2:=by omega
   simp [h,this]
  ·simp [h]
 revert h1
 generalize decide (a<1)=p1
 generalize decide (a>1048576)=p2
 generalize decide (a≥x2)=p3
 generalize decide (b<0)=p4
 generalize decide (b>1048576)=p5
 generalize decide (c<0)=p6
 generalize decide (c>x0)=p7
 generalize decide (j>0)=p8
 generalize decide (d≥a)=p9
 cases p1<;>cases p2<;>cases p3<;>intro h1<;>first|(cases h1;done)|skip
 all_goals cases p4<;>cases p5<;>cases p6<;>cases p7<;>cases p8<;>cases p9<;>cases e<;>rfl
theorem g84_eq(x0:Int)(s1:Sl T175)(x2:Int)(s3:Sl T137)(h1:s1.n≤549755813888)(w1: ∀i,i<s1.n→W175 (s1.at' i))(h3:s3.n≤549755813888)(w3: ∀i,i<s3.n→W137 (s3.at' i)):g84 x0 s1 x2 s3=g86 x0 s1 x2 s3:=by
 unfold g84 g86
 have hm:g84_m1 x0 s1 x2 s3=g86_m1 x0 s1 x2 s3:=by
  simp only[g84_m1,g86_m1,g78_eq x0 s1 h1 w1,in_not]
  cases decide (x2<1)<;>cases decide (x2>1048577)<;>rfl
 rw[hm]
 cases h:g86_m1 x0 s1 x2 s3 with
 |true=>rfl
 |false=>
  have hx:x2≤1048577:=by
   simp only[g86_m1,in_not]at h
   by_cases h3:x2>1048577
   ·simp [h3]at h
   ·omega
  simp only[g84_p15,g86_p13,e84 x0 x2 s3 hx h3 w3]
end Go.Proofs.YtfbpilmhnpkfhaaGreatDoor
namespace Go.Proofs.YtfbpilmhnpkfhaaGreatDoor
open Go Go.Vc Go.RowKit
set_option maxRecDepth 100000
set_option maxHeartbeats 4000000
theorem hit_no{bad:Int→Bool} : ∀(m:Nat) (i:Int),hit bad m i=false→ ∀j:Int,i≤j→j<i+m→bad j=false
 |0,i,_,j,h1,h2=>by omega
 |m+1,i,h,j,h1,h2=>by
  simp only[hit,Bool.or_eq_false_iff]at h
  by_cases e:j=i
  ·rw[e];exact h.1
  ·exact hit_no m (i+1) h.2 j (by omega) (by omega)
theorem hit_nat{bad:Int→Bool}{n:Nat}(h:hit bad n 0=false)(i:Nat)(hi:i<n):bad (i:Int)=false:=hit_no n 0 h i (by omega) (by omega)
theorem bz{b:Bool}{c X:Int}(h:(bif b then c else X)=0)(hc:c≠0):b=false∧X=0:=by
 cases b with
 |true=>exact absurd h hc
 |false=>exact⟨rfl,h⟩
theorem bt{a b:Bool}(h:(bif a then true else b)=false):a=false∧b=false:=by
 cases a with
 |true=>simp at h
 |false=>exact⟨rfl,h⟩
theorem df{p:Prop}[Decidable p](h:decide p=false): ¬p:=of_decide_eq_false h
def VOK(x1:ByteArray)(x2:Int)(x3:Sl T160)(x4:Sl ByteArray)(x5:Sl T164):Prop:=
 (x1.size≤20∧ -1099511627776≤x2∧x2≤1099511627776)∧(x3.n≤20∧x4.n≤20∧x5.n≤20)∧(∀i,i<x3.n→(x3.at' i).c0.size≤20∧(x3.at' i).c1.size≤20)∧(∀i,i<x4.n→(x4.at' i).size≤20)∧(∀i,i<x5.n→(x5.at' i).c0.size≤20∧ -1099511627776≤(x5.at' i).c1∧(x5.at' i).c1≤1099511627776)
def TOK(x:Sl ByteArray):Prop:=x.n≤20∧ ∀i,i<x.n→(x.at' i).size≤20
def EOK(x:T175):Prop:=x.c0.size≤20∧VOK x.c2 x.c3 x.c4 x.c5 x.c6∧0≤x.c7∧x.c7≤1073741824
def KOK(x:T137):Prop:=((0≤x.c0∧x.c0≤1048577)∧(0≤x.c1∧x.c1≤1048576)∧(0≤x.c2∧x.c2≤1073741824))∧((0≤x.c3∧x.c3≤13)∧x.c4.size≤20∧ -1099511627776≤x.c5∧x.c5≤1099511627776)∧TOK x.c6
def MOK(x0:Int)(x1:Sl T175)(x2:Int)(x3:Sl T137):Prop:=((0≤x0∧x0≤1073741824)∧(1≤x2∧x2≤1048577)∧x1.n≤12∧x3.n≤4)∧(∀i,i<x1.n→EOK (x1.at' i))∧(∀i,i<x3.n→KOK (x3.at' i))
theorem vok_t{x1:ByteArray}{x2:Int}{x3:Sl T160}{x4:Sl ByteArray}{x5:Sl T164}(h:VOK x1 x2 x3 x4 x5):TOK x4:=⟨h.2.1.2.1,h.2.2.2.1⟩
def CE(s:Sl T175):Prop:=Canon s∧s.n≤1048576∧ ∀i,i<s.n→W175 (s.at' i)
def CC(s:Sl T137):Prop:=Canon s∧s.n≤1048576∧ ∀i,i<s.n→W137 (s.at' i)
def CZ(s:Sl T175):Prop:=s.n≤549755813888∧ ∀i,i<s.n→(s.at' i).c4.n≤549755813888∧(s.at' i).c5.n≤549755813888∧(s.at' i).c6.n≤549755813888
def CY(s:Sl T137):Prop:=s.n≤549755813888∧ ∀i,i<s.n→(s.at' i).c6.n≤549755813888
theorem CE.z{s:Sl T175}(h:CE s):CZ s:=⟨by have:=h.2.1;omega,fun i hi=>by
 obtain⟨⟨_,w1⟩,⟨_,w2⟩,_,w3⟩:=h.2.2 i hi
 exact⟨by omega,by omega,by omega⟩⟩
theorem CC.y{s:Sl T137}(h:CC s):CY s:=⟨by have:=h.2.1;omega,fun i hi=>by
 have:=(h.2.2 i hi).2
 omega⟩
theorem cz_of{s:Sl T175}(h:CE s):CZ s:=h.z
theorem ce79{s:Sl T175}(h:CE s):g79_1 s=s:=copy79 s h.1 (by have:=h.2.1;omega) h.2.2
theorem cc85{s:Sl T137}(h:CC s):g85_3 s=s:=copy85 s h.1 (by have:=h.2.1;omega) h.2.2
theorem ce85{s:Sl T175}(h:CE s):CE (g85_1 s):=by
 show CE (g79_1 s)
 rw[ce79 h];exact h
theorem cc85'{s:Sl T137}(h:CC s):CC (g85_3 s):=by rw[cc85 h];exact h
theorem s113{x:ByteArray}(h:(!(g113 x))=false):x.size≤20:=by
 unfold g113 at h
 by_cases a:(x.size:Int)≤20
 ·omega
 ·simp [a]at h
theorem s115{x:ByteArray}(h:(!(g115 x))=false):x.size≤20:=by
 unfold g115 g115_m1 at h
 by_cases a:(x.size:Int)≤12
 ·omega
 ·simp [a]at h
theorem s117{x:Int}(h:(!(g117 x))=false): -1099511627776≤x∧x≤1099511627776:=by
 unfold g117 g117_m1 at h
 by_cases a:x≥ -1099511627776
 ·by_cases b:x≤1099511627776
  ·omega
  ·simp [b]at h
 ·simp [a]at h
theorem a111(s:Sl ByteArray)(hn:s.n≤549755813888):g110_111 s=hit (fun i=>g111 (s.at' (Int.toNat i))) s.n 0:=idx_hit _ _ _ (scan192 s hn)
theorem sumZ(s3:Sl T160)(s4:Sl ByteArray)(s5:Sl T164)(h3:s3.n≤549755813888)(h4:s4.n≤549755813888)(h5:s5.n≤549755813888):g131 s3 s4 s5=(s3.n:Int)+s4.n+s5.n:=by
 unfold g131
 rw[wrap64 (x:=(s3.n:Int)+s4.n) (by omega) (by omega),wrap64 (by omega) (by omega)]
theorem chk42z(x0:Int)(x1:ByteArray)(x2:Int)(x3:Sl ByteArray)(hn:x3.n≤549755813888)(h:g42 x0 x1 x2 x3=0):((0≤x0∧x0≤13)∧x1.size≤20∧ -1099511627776≤x2∧x2≤1099511627776)∧TOK x3:=by
 unfold g42 at h
 obtain⟨a1,h⟩:=bz h (by decide)
 obtain⟨a2,h⟩:=bz h (by decide)
 obtain⟨a3,h⟩:=bz h (by decide)
 obtain⟨a4,_⟩:=bz h (by decide)
 unfold g42_m1 at a1;unfold g42_m2 at a2;unfold g42_m3 at a4
 obtain⟨b1,b2⟩:=bt a1
 obtain⟨b3,b4⟩:=bt a2
 obtain⟨b5,b6⟩:=bt a4
 have c1:=df b1;have c2:=df b2;have c3:=df b3;have c4:=df b4;have c5:=df b5;have c6:=df b6
 refine⟨⟨⟨by omega,by omega⟩,by omega,by omega,by omega⟩,by omega,fun i hi=> ?_⟩
 rw[a111 _ (by omega)]at a3
 have:=hit_nat a3 i hi
 simp only[Int.toNat_natCast,g111]at this
 have:=df this
 omega
theorem chk72z(x0:Int)(x1:ByteArray)(x2:Int)(s3:Sl T160)(s4:Sl ByteArray)(s5:Sl T164)(h3:s3.n≤549755813888)(h4:s4.n≤549755813888)(h5:s5.n≤549755813888)(h:g72 x0 x1 x2 s3 s4 s5=0):VOK x1 x2 s3 s4 s5:=by
 unfold g72 at h
 obtain⟨a1,h⟩:=bz h (by decide)
 obtain⟨a2,h⟩:=bz h (by decide)
 obtain⟨a3,h⟩:=bz h (by decide)
 obtain⟨a4,h⟩:=bz h (by decide)
 obtain⟨a5,h⟩:=bz h (by decide)
 obtain⟨a6,h⟩:=bz h (by decide)
 obtain⟨a7,_⟩:=bz h (by decide)
 have hs:s3.n≤20∧s4.n≤20∧s5.n≤20:=by
  unfold g72_m1 at a1
  obtain⟨b1,b2⟩:=bt a1
  have c1:=df b1
  have c2:=df b2
  by_cases e1:x0=1
  ·subst e1
   unfold g72_m7 g72_m4 g72_m5 g72_m6 at a2
   simp only[beq_self_eq_true,cond_true]at a2
   obtain⟨_,a2⟩:=bt a2
   obtain⟨_,a2⟩:=bt a2
   rw[sumZ _ _ _ h3 h4 h5]at a2
   have:=df a2
   omega
  ·by_cases e2:x0=2
   ·subst e2
    unfold g72_m7 g72_m4 g72_m5 g72_m6 at a2
    simp only[beq_self_eq_true,Int.reduceBEq,cond_true,cond_false]at a2
    obtain⟨_,a2⟩:=bt a2
    obtain⟨_,a2⟩:=bt a2
    rw[sumZ _ _ _ h3 h4 h5]at a2
    have:=df a2
    omega
   ·unfold g72_m8 at a3
    rw[decide_eq_true (show x0≥3 by omega)]at a3
    simp only[cond_true]at a3
    obtain⟨_,a3⟩:=bt a3
    rw[sumZ _ _ _ h3 h4 h5]at a3
    have:=df a3
    omega
 unfold g72_m9 at a4
 obtain⟨b1,b2⟩:=bt a4
 unfold g72_m10 at a7
 obtain⟨b3,b4⟩:=bt a7
 rw[a110 _ (by omega)]at b2
 rw[a133 _ (by omega)]at a5
 rw[a135 _ (by omega)]at a6
 rw[a137 _ (by omega)]at b4
 refine⟨⟨s113 b1,s117 b3⟩,hs,fun i hi=> ?_,fun i hi=> ?_,fun i hi=> ?_⟩
 ·have:=hit_nat a5 i hi
  simp only[Int.toNat_natCast,g134,g134_m1]at this
  obtain⟨c1,c2⟩:=bt this
  exact⟨s115 c1,s113 c2⟩
 ·have:=hit_nat b2 i hi
  simp only[Int.toNat_natCast]at this
  exact s113 this
 ·have t1:=hit_nat a6 i hi
  have t2:=hit_nat b4 i hi
  simp only[Int.toNat_natCast]at t1 t2
  exact⟨s113 t1,s117 t2⟩
theorem chk72(x0:Int)(x1:ByteArray)(x2:Int)(s3:Sl T160)(s4:Sl ByteArray)(s5:Sl T164)(h3:s3.n≤1048576)(h4:s4.n≤1048576)(h5:s5.n≤1048576)(h:g72 x0 x1 x2 s3 s4 s5=0):VOK x1 x2 s3 s4 s5:=chk72z x0 x1 x2 s3 s4 s5 (by omega) (by omega) (by omega) h
theorem chk78(x0:Int)(s:Sl T175)(hc:CZ s)(h:g78 x0 s=0):((0≤x0∧x0≤1073741824)∧s.n≤12)∧ ∀i,i<s.n→EOK (s.at' i):=by
 have hn:=hc.1
 unfold g78 at h
 obtain⟨a1,h⟩:=bz h (by decide)
 unfold g78_m1 at a1
 obtain⟨b1,a1⟩:=bt a1
 obtain⟨b2,b3⟩:=bt a1
 have c1:=df b1;have c2:=df b2;have c3:=df b3
 have hl:g78_r10 x0 s=scan (fun i=>g78_m7 s i||g78_m9 x0 s i) (fun _=>13) s.n 0:=scan0 (g78_l5 x0 s) s.n _ _ (by omega) fun k i=>by
  show(bif decide (i<(s.n:Int))then(bif(g78_m7 s i)then(true,13)else(bif(g78_m9 x0 s i)then(true,13)else g78_l5 x0 s k (IntKind.i64.wrap (i+1))))else(false,default))=_
  rw[bif_or]
 unfold g78_p11 at h
 rw[fall hl]at h
 obtain⟨hh,_⟩:=bz h (by decide)
 refine⟨⟨⟨by omega,by omega⟩,by omega⟩,fun i hi=> ?_⟩
 have q:=hit_nat hh i hi
 simp only[Bool.or_eq_false_iff]at q
 obtain⟨q1,q2⟩:=q
 obtain⟨w1,w2,w3⟩:=hc.2 i hi
 unfold g78_m7 at q1
 unfold g78_m9 at q2
 simp only[Int.toNat_natCast]at q1 q2
 obtain⟨d1,q1⟩:=bt q1
 obtain⟨d2,q1⟩:=bt q1
 obtain⟨d3,q1⟩:=bt q1
 have e2:=df d2
 refine⟨by omega,chk72z _ _ _ _ _ _ w1 w2 w3 (bne_eq_false_iff_eq.1 d3),?_⟩
 by_cases z:(s.at' i).c7=0
 ·rw[z];omega
 ·rw[show((s.at' i).c7 !=0)=true by simp [z]]at q2
  simp only[cond_true]at q2
  obtain⟨d4,d5⟩:=bt q2
  have:=df d4
  have:=df d5
  omega
theorem chk84(x0:Int)(x1:Sl T175)(x2:Int)(x3:Sl T137)(hc:CZ x1)(hk:CY x3)(h:g84 x0 x1 x2 x3=0):MOK x0 x1 x2 x3:=by
 have hn:=hk.1
 unfold g84 at h
 obtain⟨a1,h⟩:=bz h (by decide)
 unfold g84_m1 at a1
 obtain⟨b1,a1⟩:=bt a1
 obtain⟨b2,a1⟩:=bt a1
 obtain⟨b3,b4⟩:=bt a1
 have c2:=df b2;have c3:=df b3;have c4:=df b4
 obtain⟨⟨m1,m2⟩,m3⟩:=chk78 x0 x1 hc (bne_eq_false_iff_eq.1 b1)
 have hl:g84_r14 x0 x2 x3=scan (fun i=>g84_m5 x2 x3 i||g84_m13 x0 x3 i) (fun _=>13) x3.n 0:=scan0 (g84_l6 x0 x2 x3) x3.n _ _ (by omega) fun k i=>by
  show(bif decide (i<(x3.n:Int))then(bif(g84_m5 x2 x3 i)then(true,13)else(bif(g84_m13 x0 x3 i)then(true,13)else g84_l6 x0 x2 x3 k (IntKind.i64.wrap (i+1))))else(false,default))=_
  rw[bif_or]
 unfold g84_p15 at h
 rw[fall hl]at h
 obtain⟨hh,_⟩:=bz h (by decide)
 refine⟨⟨m1,⟨by omega,by omega⟩,m2,by omega⟩,m3,fun i hi=> ?_⟩
 have q:=hit_nat hh i hi
 simp only[Bool.or_eq_false_iff]at q
 obtain⟨q1,q2⟩:=q
 unfold g84_m5 at q1
 unfold g84_m13 at q2
 simp only[Int.toNat_natCast]at q1 q2
 obtain⟨d1,q1⟩:=bt q1
 obtain⟨d2,_⟩:=bt q1
 obtain⟨d3,q2⟩:=bt q2
 obtain⟨d4,q2⟩:=bt q2
 obtain⟨d5,q2⟩:=bt q2
 obtain⟨d6,q2⟩:=bt q2
 have e1:=df d1;have e2:=df d2;have e3:=df d3;have e4:=df d4;have e5:=df d5;have e6:=df d6
 obtain⟨k1,k2⟩:=chk42z _ _ _ _ (hk.2 i hi) (bne_eq_false_iff_eq.1 q2)
 exact⟨⟨⟨by omega,by omega⟩,⟨by omega,by omega⟩,⟨by omega,by omega⟩⟩,k1,k2⟩
end Go.Proofs.YtfbpilmhnpkfhaaGreatDoor
/-
  Walks: what functions of the program answer, as functions.
-/
namespace Go.Proofs.YtfbpilmhnpkfhaaGreatDoor
open Go Go.Vc Go.RowKit
set_option maxRecDepth 100000
set_option maxHeartbeats 4000000
noncomputable def g48_m1(x0:Int):Bool:=(bif(x0==1)then true else(bif(x0==4)then true else(bif(x0==7)then true else(bif(x0==8)then true else(g112 x0 11 16)))))
noncomputable def g48_m2(x0:Int):Bool:=(bif(x0==3)then true else(bif(x0==14)then true else(x0==20)))
noncomputable def g48_m3(x0:Int)(x1:ByteArray)(x2:ByteArray)(x3:ByteArray)(x4:Int):Bool:=(bif(!(g48_m1 x0))then(bif(!((x3:ByteArray).toList==(⟨#[]⟩:ByteArray).toList))then true else(bif(!(g112 x0 4 6))then(bif(!((x2:ByteArray).toList==(⟨#[]⟩:ByteArray).toList))then true else(bif(!(g48_m2 x0))then(bif(x4 !=0)then true else(bif(!(x0 !=22))then(!((x1:ByteArray).toList==(⟨#[]⟩:ByteArray).toList))else false))else(bif(!(x0 !=22))then(!((x1:ByteArray).toList==(⟨#[]⟩:ByteArray).toList))else false)))else(bif(!(g48_m2 x0))then(bif(x4 !=0)then true else(bif(!(x0 !=22))then(!((x1:ByteArray).toList==(⟨#[]⟩:ByteArray).toList))else false))else(bif(!(x0 !=22))then(!((x1:ByteArray).toList==(⟨#[]⟩:ByteArray).toList))else false))))else(bif(!(g112 x0 4 6))then(bif(!((x2:ByteArray).toList==(⟨#[]⟩:ByteArray).toList))then true else(bif(!(g48_m2 x0))then(bif(x4 !=0)then true else(bif(!(x0 !=22))then(!((x1:ByteArray).toList==(⟨#[]⟩:ByteArray).toList))else false))else(bif(!(x0 !=22))then(!((x1:ByteArray).toList==(⟨#[]⟩:ByteArray).toList))else false)))else(bif(!(g48_m2 x0))then(bif(x4 !=0)then true else(bif(!(x0 !=22))then(!((x1:ByteArray).toList==(⟨#[]⟩:ByteArray).toList))else false))else(bif(!(x0 !=22))then(!((x1:ByteArray).toList==(⟨#[]⟩:ByteArray).toList))else false))))
noncomputable def g48_m4(x0:Int)(x1:ByteArray)(x2:ByteArray)(x3:ByteArray):Bool:=(bif(x0 !=22)then(bif(!(g118 x1))then true else(bif(g112 x0 4 6)then(bif(!(g118 x2))then true else(!(g113 x3)))else(!(g113 x3))))else(bif(g112 x0 4 6)then(bif(!(g118 x2))then true else(!(g113 x3)))else(!(g113 x3))))
noncomputable def g48(x0:Int)(x1:ByteArray)(x2:ByteArray)(x3:ByteArray)(x4:Int):Int:=(bif(!(g112 x0 1 22))then 3 else(bif(g48_m3 x0 x1 x2 x3 x4)then 8 else(bif(g48_m4 x0 x1 x2 x3)then 1 else(bif(!(g114 x4))then 2 else 0))))
noncomputable def F48:Fq:=⟨[.g [kI,kS,kS,kS,kI]],fun x0 x1 x2 x3 x4=>⟨⟨none,.int .i64 (g48 x0 x1 x2 x3 x4)⟩⟩⟩
theorem pc48:FnOk Tryz.prog 39 F48.sh _ (F48.sh.flatMap Sh.bs) F48.f []:=
 fun(x0:Int) x1 _ x2 _ x3 _ (x4:Int)=>pure_of_exec (X:=(mkX [(20,F112.ans),(59,F113.ans),(60,F114.ans),(57,F118.ans)])) (R:=⟨.pure,[.tmp 2],[(.t 0,kI)],⟨[U],[]⟩⟩) (h:=(.s .z (.s .z (.j ⟨14,[],[(.t 3,kB)],[],.f⟩ .z (.s .z (.j ⟨62,[],[(.t 5,kB)],[],.f⟩ .z (.s .z (.s (.j ⟨77371252455336267181195350,[],[(.t 86,kB)],[],.f⟩ .z .z) (.s (.j ⟨324518553658426726783156020576262,[],[(.t 108,kB)],[],.f⟩ .z .z) .z))))))))) (ms:=[]) (p:=True) (mkX_ok ⟨k112,k113,k114,k118,trivial⟩) Tryz.func39 rfl rfl (by kernel_rfl) (trivial)
theorem k48:XOk Tryz.prog 39 F48.ans:=Fq.ok ⟨_,_,Tryz.func39,rfl,by kernel_rfl⟩ pc48
noncomputable def g47_m1(x0:Int):Bool:=(bif(decide (x0<1))then true else(decide (x0>22)))
noncomputable def g47_m2(x0:Int):Bool:=(bif(x0==1)then(x0==1)else(bif(x0==7)then(x0==7)else(bif(x0==8)then(x0==8)else(bif(x0==11)then(x0==11)else(bif(x0==12)then(x0==12)else(bif(x0==13)then(x0==13)else(bif(x0==15)then(x0==15)else(x0==16))))))))
noncomputable def g47_m3(x0:Int):Bool:=(bif(x0==3)then(x0==3)else(x0==20))
noncomputable def g47_m4(x0:Int):Bool:=(bif(x0==5)then(x0==5)else(x0==6))
noncomputable def g47_m5(x0:Int)(x1:ByteArray):ByteArray:=(bif(g47_m2 x0)then x1 else(bif(g47_m3 x0)then x1 else(bif(x0==4)then x1 else(bif(g47_m4 x0)then x1 else(bif(x0==14)then x1 else(bif(x0==22)then⟨#[]⟩else x1))))))
noncomputable def g47_m6(x0:Int)(x2:ByteArray):ByteArray:=(bif(g47_m2 x0)then⟨#[]⟩else(bif(g47_m3 x0)then⟨#[]⟩else(bif(x0==4)then x2 else(bif(g47_m4 x0)then x2 else⟨#[]⟩))))
noncomputable def g47_m7(x0:Int)(x3:ByteArray):ByteArray:=(bif(g47_m2 x0)then x3 else(bif(g47_m3 x0)then⟨#[]⟩else(bif(x0==4)then x3 else(bif(g47_m4 x0)then⟨#[]⟩else(bif(x0==14)then x3 else⟨#[]⟩)))))
noncomputable def g47_m8(x0:Int)(x4:Int):Int:=(bif(g47_m2 x0)then 0 else(bif(g47_m3 x0)then x4 else(bif(x0==4)then 0 else(bif(g47_m4 x0)then 0 else(bif(x0==14)then x4 else 0)))))
noncomputable def g47_m9(x0:Int)(x1:ByteArray)(x2:ByteArray)(x3:ByteArray):Bool:=(bif(x0 !=22)then(bif(!(g115 x1))then true else(bif(decide (x0≥4))then(bif(decide (x0≤6))then(bif(!(g115 x2))then true else(!(g116 x3)))else(!(g116 x3)))else(!(g116 x3))))else(bif(decide (x0≥4))then(bif(decide (x0≤6))then(bif(!(g115 x2))then true else(!(g116 x3)))else(!(g116 x3)))else(!(g116 x3))))
noncomputable def g47(x0:Int)(x1:ByteArray)(x2:ByteArray)(x3:ByteArray)(x4:Int):Int:=(bif(g47_m1 x0)then 3 else(bif(!((x0==x0)&&(((x1:ByteArray).toList==((g47_m5 x0 x1):ByteArray).toList)&&(((x2:ByteArray).toList==((g47_m6 x0 x2):ByteArray).toList)&&(((x3:ByteArray).toList==((g47_m7 x0 x3):ByteArray).toList)&&((x4==(g47_m8 x0 x4))&&true))))))then 8 else(bif(g47_m9 x0 x1 x2 x3)then 1 else(bif(!(g117 x4))then 2 else 0))))
noncomputable def F47:Fq:=⟨[.g [kI,kS,kS,kS,kI]],fun x0 x1 x2 x3 x4=>⟨⟨none,.int .i64 (g47 x0 x1 x2 x3 x4)⟩⟩⟩
theorem pc47:FnOk Tryz.prog 29 F47.sh _ (F47.sh.flatMap Sh.bs) F47.f []:=
 fun(x0:Int) x1 _ x2 _ x3 _ (x4:Int)=>pure_of_exec (X:=(mkX [(46,F115.ans),(47,F116.ans),(48,F117.ans)])) (R:=⟨.pure,[.tmp 2],[(.t 0,kI)],⟨[U],[]⟩⟩) (h:=(.s .z (.s (.j ⟨2054,[],[(.t 11,kB)],[],.f⟩ .z .z) (.s .z (.j ⟨14,[],[(.h 1 1,kS),(.h 1 2,kS),(.h 1 3,kS),(.h 1 4,kI)],[.f,(.b .f (.b .f (.b .f (.b .f .l)))),(.b .f (.b .f (.b .f (.b .f (.b .f .l))))),(.b .f (.b .f (.b .f (.b .f (.b .f .l)))))],.f⟩ (.s .z (.j ⟨786446,[],[(.t 19,kB)],[],.f⟩ .z (.s .z (.j ⟨2147745806,[],[(.t 31,kB)],[],.f⟩ .z (.s .z (.s .z (.s .z (.j ⟨35184372350990,[],[(.t 45,kB)],[],.f⟩ .z .z)))))))) (.s .z (.s (.j ⟨39614081257132168796771975174,[.b 1],[(.t 95,kB)],[],.f⟩ .z .z) .z))))))) (ms:=[]) (p:=True) (mkX_ok ⟨k115,k116,k117,trivial⟩) Tryz.func29 rfl rfl (by kernel_rfl) (trivial)
theorem k47:XOk Tryz.prog 29 F47.ans:=Fq.ok ⟨_,_,Tryz.func29,rfl,by kernel_rfl⟩ pc47
noncomputable def g49_m1(x0:Int)(x1:Int):Bool:=(bif(!(g119 x0))then true else(!(g119 x1)))
noncomputable def g49(x0:Int)(x1:Int)(x2:Int)(x3:ByteArray)(x4:ByteArray)(x5:ByteArray)(x6:Int):Int:=(bif(x0==0)then(bif(!((x0==0)&&((x1==0)&&((x2==0)&&(((x3:ByteArray).toList==(⟨#[]⟩:ByteArray).toList)&&(((x4:ByteArray).toList==(⟨#[]⟩:ByteArray).toList)&&(((x5:ByteArray).toList==(⟨#[]⟩:ByteArray).toList)&&((x6==0)&&true))))))))then 8 else 0)else(bif(g49_m1 x0 x1)then 2 else(g47 x2 x3 x4 x5 x6)))
noncomputable def F49:Fq:=⟨[.g [kI,kI,kI,kS,kS,kS,kI]],fun x0 x1 x2 x3 x4 x5 x6=>⟨⟨none,.int .i64 (g49 x0 x1 x2 x3 x4 x5 x6)⟩⟩⟩
theorem pc49:FnOk Tryz.prog 12 F49.sh _ (F49.sh.flatMap Sh.bs) F49.f []:=
 fun(x0:Int) (x1:Int) (x2:Int) x3 _ x4 _ x5 _ (x6:Int)=>pure_of_exec (X:=(mkX [(29,F47.ans),(28,F119.ans)])) (R:=⟨.pure,[.tmp 2],[(.t 0,kI)],⟨[U],[]⟩⟩) (h:=(.s .z (.s .z (.s (.j ⟨262150,[],[(.t 18,kB)],[],.f⟩ .z .z) .z)))) (ms:=[]) (p:=True) (mkX_ok ⟨k47,k119,trivial⟩) Tryz.func12 rfl rfl (by kernel_rfl) (trivial)
theorem k49:XOk Tryz.prog 12 F49.ans:=Fq.ok ⟨_,_,Tryz.func12,rfl,by kernel_rfl⟩ pc49
noncomputable def g50_m1(x1:Int)(x2:Int)(x3:ByteArray)(x4:ByteArray)(x5:ByteArray)(x6:Int):Bool:=(bif(x1 !=0)then true else(!((x2==0)&&(((x3:ByteArray).toList==(⟨#[]⟩:ByteArray).toList)&&(((x4:ByteArray).toList==(⟨#[]⟩:ByteArray).toList)&&(((x5:ByteArray).toList==(⟨#[]⟩:ByteArray).toList)&&((x6==0)&&true)))))))
noncomputable def g50_m2(x0:Int)(x1:Int):Bool:=(bif(!(g120 x0))then true else(!(g120 x1)))
noncomputable def g50(x0:Int)(x1:Int)(x2:Int)(x3:ByteArray)(x4:ByteArray)(x5:ByteArray)(x6:Int):Int:=(bif(x0==0)then(bif(g50_m1 x1 x2 x3 x4 x5 x6)then 8 else 0)else(bif(g50_m2 x0 x1)then 2 else(g48 x2 x3 x4 x5 x6)))
noncomputable def F50:Fq:=⟨[.g [kI,kI,kI,kS,kS,kS,kI]],fun x0 x1 x2 x3 x4 x5 x6=>⟨⟨none,.int .i64 (g50 x0 x1 x2 x3 x4 x5 x6)⟩⟩⟩
theorem pc50:FnOk Tryz.prog 21 F50.sh _ (F50.sh.flatMap Sh.bs) F50.f []:=
 fun(x0:Int) (x1:Int) (x2:Int) x3 _ x4 _ x5 _ (x6:Int)=>pure_of_exec (X:=(mkX [(39,F48.ans),(37,F120.ans)])) (R:=⟨.pure,[.tmp 2],[(.t 0,kI)],⟨[U],[]⟩⟩) (h:=(.s .z (.s (.s .z (.s (.s (.j ⟨16390,[],[(.t 14,kB)],[],.f⟩ .z .z) .z) .z)) (.s (.j ⟨16777222,[],[(.t 24,kB)],[],.f⟩ .z .z) .z)))) (ms:=[]) (p:=True) (mkX_ok ⟨k48,k120,trivial⟩) Tryz.func21 rfl rfl (by kernel_rfl) (trivial)
theorem k50:XOk Tryz.prog 21 F50.ans:=Fq.ok ⟨_,_,Tryz.func21,rfl,by kernel_rfl⟩ pc50
end Go.Proofs.YtfbpilmhnpkfhaaGreatDoor
