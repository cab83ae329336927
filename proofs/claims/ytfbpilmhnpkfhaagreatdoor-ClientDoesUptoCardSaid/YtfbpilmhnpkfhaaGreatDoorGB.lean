/-
  slices.Insert and slices.Delete, at the types of the program.
-/
import Derived.Test.YtfbpilmhnpkfhaaGreatDoorTy
import Derived.Test.YtfbpilmhnpkfhaaGreatDoorVcN
import Derived.Test.YtfbpilmhnpkfhaaGreatDoorCl
import Derived.Test.YtfbpilmhnpkfhaaGreatDoorEc
import Derived.Test.YtfbpilmhnpkfhaaGreatDoorGA
import Derived.Test.YtfbpilmhnpkfhaaGreatDoorVcH
set_option linter.all false
namespace Go.Proofs.YtfbpilmhnpkfhaaGreatDoor
open Go Go.Vc Go.RowKit Go.Proofs Go.Shelf
set_option maxRecDepth 100000
def insR(f ov rot T E:Nat):Ren:=⟨fun n=>match n with
 |22=>f
 |29=>ov
 |30=>rot
 |n=>n,fun n=>match n with
 |24=>T
 |9=>E
 |n=>n,fun n=>n⟩
def delR(f T E:Nat):Ren:=⟨fun n=>match n with
 |45=>f
 |n=>n,fun n=>match n with
 |22=>T
 |23=>E
 |n=>n,fun n=>n⟩
theorem il229:InsF Tryz.prog (insR 116 126 127 61 85) 2 32 (.agg #[.string ⟨#[]⟩,.string ⟨#[]⟩]):=
 have i9:(Tryz.prog.info? 85).map (fun i=>(i.zero,i.size,i.bytes))=some (some ((.agg #[.string ⟨#[]⟩,.string ⟨#[]⟩]):Value),2,32):=by kernel_rfl
 ⟨mixed,⟨ "slices.Insert[[]rostrum/api.Pair,rostrum/api.Pair]",by kernel_rfl,by kernel_rfl⟩,by kernel_rfl,by kernel_rfl,size_of_info i9,i9,fun w vb b o m vc lb cb tA tB kA kB h1 h2 h3 h4 h5 h6=>by
  show(callFunc 126 _).run Tryz.prog w=_
  rw[run_callFunc_extern Tryz.func126 (by kernel_rfl) (by kernel_rfl) (by kernel_rfl) (e:=Extern.SlicesOverlaps.overlaps #[61,61] #[4]) (by kernel_rfl),Lib.run_overlaps_apart w 61 4 85 (by kernel_rfl) 2 (size_of_info i9) ⟨vb,0,none⟩ ⟨b,o,none⟩ m vc lb cb h1 tA tB kA kB h2 h3 h4 h5 h6]
  rfl⟩
noncomputable abbrev F229:Hq:=insQ E160
theorem k229:XHOk Tryz.prog 116 F229.ans:=ins_X (E:=E160) il229 ⟨_,_,Tryz.func116,rfl,by kernel_rfl⟩ (by decide) (by omega) fun m=>Array.length_toList.symm.trans (zeros_one (k:=2) (z:=(.agg #[.string ⟨#[]⟩,.string ⟨#[]⟩])) rfl (by kernel_rfl) m).1
theorem il232:InsF Tryz.prog (insR 119 128 129 34 9) 1 16 (.string ⟨#[]⟩):=
 have i9:(Tryz.prog.info? 9).map (fun i=>(i.zero,i.size,i.bytes))=some (some ((.string ⟨#[]⟩):Value),1,16):=by kernel_rfl
 ⟨mixed,⟨ "slices.Insert[[]string,string]",by kernel_rfl,by kernel_rfl⟩,by kernel_rfl,by kernel_rfl,size_of_info i9,i9,fun w vb b o m vc lb cb tA tB kA kB h1 h2 h3 h4 h5 h6=>by
  show(callFunc 128 _).run Tryz.prog w=_
  rw[run_callFunc_extern Tryz.func128 (by kernel_rfl) (by kernel_rfl) (by kernel_rfl) (e:=Extern.SlicesOverlaps.overlaps #[34,34] #[4]) (by kernel_rfl),Lib.run_overlaps_apart w 34 4 9 (by kernel_rfl) 1 (size_of_info i9) ⟨vb,0,none⟩ ⟨b,o,none⟩ m vc lb cb h1 tA tB kA kB h2 h3 h4 h5 h6]
  rfl⟩
noncomputable abbrev F232:Hq:=insQ E9
theorem k232:XHOk Tryz.prog 119 F232.ans:=ins_X (E:=E9) il232 ⟨_,_,Tryz.func119,rfl,by kernel_rfl⟩ (by decide) (by omega) fun m=>Array.length_toList.symm.trans (zeros_one (k:=1) (z:=(.string ⟨#[]⟩)) rfl (by kernel_rfl) m).1
theorem il237:InsF Tryz.prog (insR 124 132 133 62 87) 2 24 (.agg #[.string ⟨#[]⟩,.int .i64 0]):=
 have i9:(Tryz.prog.info? 87).map (fun i=>(i.zero,i.size,i.bytes))=some (some ((.agg #[.string ⟨#[]⟩,.int .i64 0]):Value),2,24):=by kernel_rfl
 ⟨mixed,⟨ "slices.Insert[[]rostrum/api.Score,rostrum/api.Score]",by kernel_rfl,by kernel_rfl⟩,by kernel_rfl,by kernel_rfl,size_of_info i9,i9,fun w vb b o m vc lb cb tA tB kA kB h1 h2 h3 h4 h5 h6=>by
  show(callFunc 132 _).run Tryz.prog w=_
  rw[run_callFunc_extern Tryz.func132 (by kernel_rfl) (by kernel_rfl) (by kernel_rfl) (e:=Extern.SlicesOverlaps.overlaps #[62,62] #[4]) (by kernel_rfl),Lib.run_overlaps_apart w 62 4 87 (by kernel_rfl) 2 (size_of_info i9) ⟨vb,0,none⟩ ⟨b,o,none⟩ m vc lb cb h1 tA tB kA kB h2 h3 h4 h5 h6]
  rfl⟩
noncomputable abbrev F237:Hq:=insQ E164
theorem k237:XHOk Tryz.prog 124 F237.ans:=ins_X (E:=E164) il237 ⟨_,_,Tryz.func124,rfl,by kernel_rfl⟩ (by decide) (by omega) fun m=>Array.length_toList.symm.trans (zeros_one (k:=2) (z:=(.agg #[.string ⟨#[]⟩,.int .i64 0])) rfl (by kernel_rfl) m).1
noncomputable abbrev F230:Hq:=delQ E160
theorem k230:XHOk Tryz.prog 117 F230.ans:=del_X (E:=E160) (z:=(.agg #[.string ⟨#[]⟩,.string ⟨#[]⟩])) (delRuns_of (ρ:=delR 117 61 85) (b:=32) mixed ⟨ "slices.Delete[[]rostrum/api.Pair,rostrum/api.Pair]",by kernel_rfl,by kernel_rfl⟩ (by kernel_rfl) (by kernel_rfl)) ⟨_,_,Tryz.func117,rfl,by kernel_rfl⟩ (zeros_one rfl (by kernel_rfl))
noncomputable abbrev F234:Hq:=delQ E9
theorem k234:XHOk Tryz.prog 121 F234.ans:=del_X (E:=E9) (z:=(.string ⟨#[]⟩)) (delRuns_of (ρ:=delR 121 34 9) (b:=16) mixed ⟨ "slices.Delete[[]string,string]",by kernel_rfl,by kernel_rfl⟩ (by kernel_rfl) (by kernel_rfl)) ⟨_,_,Tryz.func121,rfl,by kernel_rfl⟩ (zeros_one rfl (by kernel_rfl))
noncomputable abbrev F235:Hq:=delQ E164
theorem k235:XHOk Tryz.prog 122 F235.ans:=del_X (E:=E164) (z:=(.agg #[.string ⟨#[]⟩,.int .i64 0])) (delRuns_of (ρ:=delR 122 62 87) (b:=24) mixed ⟨ "slices.Delete[[]rostrum/api.Score,rostrum/api.Score]",by kernel_rfl,by kernel_rfl⟩ (by kernel_rfl) (by kernel_rfl)) ⟨_,_,Tryz.func122,rfl,by kernel_rfl⟩ (zeros_one rfl (by kernel_rfl))
end Go.Proofs.YtfbpilmhnpkfhaaGreatDoor
/-
  Walks: what functions of the program answer, as functions.
-/
namespace Go.Proofs.YtfbpilmhnpkfhaaGreatDoor
open Go Go.Vc Go.RowKit
set_option maxRecDepth 100000
set_option maxHeartbeats 4000000
noncomputable def g185_m1(x0:Int):Bool:=(bif(x0==4)then(x0==4)else(bif(x0==5)then(x0==5)else(x0==6)))
noncomputable def g185_m2(x0:Int):Bool:=(bif(x0==7)then(x0==7)else(bif(x0==8)then(x0==8)else(bif(x0==9)then(x0==9)else(x0==10))))
noncomputable def g185_m3(x0:Int):Bool:=(bif(x0==11)then(x0==11)else(bif(x0==12)then(x0==12)else(x0==13)))
noncomputable def g185_m4(x0:Int):Bool:=(bif(x0==14)then(x0==14)else(bif(x0==15)then(x0==15)else(x0==16)))
noncomputable def g185(x0:Int):Int:=(bif(x0==2)then 1 else(bif(x0==3)then 2 else(bif(g185_m1 x0)then 3 else(bif(g185_m2 x0)then 4 else(bif(g185_m3 x0)then 5 else(bif(g185_m4 x0)then 6 else 0))))))
noncomputable def F185:Fq:=⟨[.v kI],fun x0=>⟨⟨none,.int .i64 (g185 x0)⟩⟩⟩
theorem pc185:FnOk Tryz.prog 81 F185.sh _ (F185.sh.flatMap Sh.bs) F185.f []:=
 fun(x0:Int)=>pure_of_exec (X:=X0) (R:=⟨.pure,[.tmp 2],[(.t 0,kI)],⟨[U],[]⟩⟩) (h:=(.s .z (.s (.s .z (.s .z (.s .z (.s .z (.s .z (.j ⟨268,[],[(.t 8,kB)],[],.f⟩ .z (.s .z (.j ⟨4108,[],[(.t 12,kB)],[],.f⟩ .z (.s .z (.j ⟨131084,[],[(.t 17,kB)],[],.f⟩ .z (.s .z (.j ⟨2097156,[],[(.t 21,kB)],[],.f⟩ .z .z)))))))))))) .z))) (ms:=[]) (p:=True) X0_ok Tryz.func81 rfl rfl (by kernel_rfl) (trivial)
theorem k185:XOk Tryz.prog 81 F185.ans:=Fq.ok ⟨_,_,Tryz.func81,rfl,by kernel_rfl⟩ pc185
noncomputable def g186_m1(x0:Int):Bool:=(bif(x0==1)then(x0==1)else(bif(x0==3)then(x0==3)else(bif(x0==4)then(x0==4)else(bif(x0==7)then(x0==7)else(bif(x0==8)then(x0==8)else(bif(x0==11)then(x0==11)else(x0==14)))))))
noncomputable def g186(x0:Int):Bool:=(bif(g186_m1 x0)then true else false)
noncomputable def F186:Fq:=⟨[.v kI],fun x0=>⟨⟨none,.bool (g186 x0)⟩⟩⟩
theorem pc186:FnOk Tryz.prog 82 F186.sh _ (F186.sh.flatMap Sh.bs) F186.f []:=
 fun(x0:Int)=>pure_of_exec (X:=X0) (R:=⟨.pure,[.tmp 2],[(.t 0,kB)],⟨[U],[]⟩⟩) (h:=(.s .z (.s (.s .z (.j ⟨20,[],[(.t 4,kB)],[],.f⟩ .z .z)) .z))) (ms:=[]) (p:=True) X0_ok Tryz.func82 rfl rfl (by kernel_rfl) (trivial)
theorem k186:XOk Tryz.prog 82 F186.ans:=Fq.ok ⟨_,_,Tryz.func82,rfl,by kernel_rfl⟩ pc186
noncomputable def g187_0(x0:Int):Int:=x0
noncomputable def g187_1:ByteArray:=⟨#[]⟩
noncomputable def g187_2:Int:=0
noncomputable def g187_3:Sl ByteArray:=(nilSl:Sl ByteArray)
noncomputable def F187:Fq:=⟨[.v kI],fun x0=>⟨⟨none,.agg [.int .i64 (g187_0 x0),.str g187_1,.int .i64 g187_2,ofSl 1 e9 g187_3]⟩⟩⟩
theorem pc187:FnOk Tryz.prog 83 F187.sh _ (F187.sh.flatMap Sh.bs) F187.f []:=
 fun(x0:Int)=>pure_of_exec (X:=X0) (R:=⟨.pure,[.cell 2 36],[(.c 0 0,kI),(.c 0 1,kS),(.c 0 2,kI),(.c 0 3,.sl E9)],⟨[.agg (us 4 [])],[]⟩⟩) (h:= .z) (ms:=[]) (p:=True) X0_ok Tryz.func83 rfl rfl (by kernel_rfl) (trivial)
theorem k187:XOk Tryz.prog 83 F187.ans:=Fq.ok ⟨_,_,Tryz.func83,rfl,by kernel_rfl⟩ pc187
noncomputable def g213_0:Int:=0
noncomputable def g213_1:ByteArray:=⟨#[]⟩
noncomputable def g213_2(x0:Int):Int:=x0
noncomputable def g213_3:Sl ByteArray:=(nilSl:Sl ByteArray)
noncomputable def F213:Fq:=⟨[.v kI],fun x0=>⟨⟨none,.agg [.int .i64 g213_0,.str g213_1,.int .i64 (g213_2 x0),ofSl 1 e9 g213_3]⟩⟩⟩
theorem pc213:FnOk Tryz.prog 99 F213.sh _ (F213.sh.flatMap Sh.bs) F213.f []:=
 fun(x0:Int)=>pure_of_exec (X:=X0) (R:=⟨.pure,[.cell 2 36],[(.c 0 0,kI),(.c 0 1,kS),(.c 0 2,kI),(.c 0 3,.sl E9)],⟨[.agg (us 4 [])],[]⟩⟩) (h:= .z) (ms:=[]) (p:=True) X0_ok Tryz.func99 rfl rfl (by kernel_rfl) (trivial)
theorem k213:XOk Tryz.prog 99 F213.ans:=Fq.ok ⟨_,_,Tryz.func99,rfl,by kernel_rfl⟩ pc213
noncomputable def g231(x0:Bool):Int:=(bif x0 then 1 else 0)
noncomputable def F231:Fq:=⟨[.v kB],fun x0=>⟨⟨none,.int .i64 (g231 x0)⟩⟩⟩
theorem pc231:FnOk Tryz.prog 118 F231.sh _ (F231.sh.flatMap Sh.bs) F231.f []:=
 fun x0=>pure_of_exec (X:=X0) (R:=⟨.pure,[.tmp 2],[(.t 0,kI)],⟨[U],[]⟩⟩) (h:= .z) (ms:=[]) (p:=True) X0_ok Tryz.func118 rfl rfl (by kernel_rfl) (trivial)
theorem k231:XOk Tryz.prog 118 F231.ans:=Fq.ok ⟨_,_,Tryz.func118,rfl,by kernel_rfl⟩ pc231
end Go.Proofs.YtfbpilmhnpkfhaaGreatDoor
/-
  Walks: what functions of the program answer, as functions.
-/
namespace Go.Proofs.YtfbpilmhnpkfhaaGreatDoor
open Go Go.Vc Go.RowKit
set_option maxRecDepth 100000
set_option maxHeartbeats 4000000
noncomputable def g214_l1(x3:Sl T160):Nat→Int→Sl ByteArray→Sl ByteArray
 |0,_,_=>default
 |k+1,v1_0,v1_1=>(bif(decide (v1_0<(x3.n:Int)))then(g214_l1 x3 k (IntKind.i64.wrap (v1_0+1)) (Sl.app v1_1 (Sl.lit ([(x3.at' (Int.toNat v1_0)).c0]:List ByteArray))))else v1_1)
noncomputable def g214_r1(x3:Sl T160)(x4:Sl ByteArray):Sl ByteArray:=g214_l1 x3 ((Int.toNat ((x3.n:Int)-0))+1) 0 x4
noncomputable def g214_l6(x5:Sl T164):Nat→Int→Sl ByteArray→Sl ByteArray
 |0,_,_=>default
 |k+1,v6_0,v6_1=>(bif(decide (v6_0<(x5.n:Int)))then(g214_l6 x5 k (IntKind.i64.wrap (v6_0+1)) (Sl.app v6_1 (Sl.lit ([(x5.at' (Int.toNat v6_0)).c0]:List ByteArray))))else v6_1)
noncomputable def g214_r2(x3:Sl T160)(x4:Sl ByteArray)(x5:Sl T164):Sl ByteArray:=g214_l6 x5 ((Int.toNat ((x5.n:Int)-0))+1) 0 (g214_r1 x3 x4)
noncomputable def g214(x3:Sl T160)(x4:Sl ByteArray)(x5:Sl T164):Sl ByteArray:=(g214_r2 x3 x4 x5)
noncomputable def F214:Fq:=⟨[.g [kI,kS,kI,.sl E160,.sl E9,.sl E164]],fun _ _ _ x3 x4 x5=>⟨⟨some (x3.n≤100000000000∧x4.n≤100000000000∧x5.n≤100000000000),(Kd.blk E9).av (g214 x3 x4 x5)⟩⟩⟩
theorem pc214:FnOk Tryz.prog 100 F214.sh _ (F214.sh.flatMap Sh.bs) F214.f []:=
 fun(x0:Int) x1 n1 (x2:Int) x3 n3 _ x4 n4 _ x5 n5 _ hp=>pure_of_exec (X:=(mkX [(35,F211.ans)])) (R:=⟨.own E9,[.tmp 2],[(.h 0 0,.blk E9)],⟨[],[]⟩⟩) (h:=(.s .z (.s .z (.j ⟨14,[],[],[],.f⟩ (.s .z (.lp ⟨28686,[],[],[(.t 14,kI),(.h 1 0,.blk E9)],some 0,false,14,[],[(.h 1 0,.blk E9)],fun k (s:Int×Sl ByteArray)=>g214_l1 x3 k s.1 s.2,.f,fun(s:Int×Sl ByteArray)=>((0≤s.1∧s.1≤(x3.n:Int))∧((s.2.n:Nat):Int)≤x4.n+(s.1-0)),fun(s:Int×Sl ByteArray)=>(Int.toNat ((x3.n:Int)-s.1)),some fun(r:Sl ByteArray)=>((r.n:Nat):Int)≤x4.n+max ((x3.n:Int)-0) 0⟩ .z)) (.j ⟨12,[],[],[],.f⟩ (.s .z (.lp ⟨234881036,[.b 0],[],[(.t 27,kI),(.h 1 0,.blk E9)],some 2,false,12,[],[(.h 1 0,.blk E9)],fun k (s:Int×Sl ByteArray)=>g214_l6 x5 k s.1 s.2,.f,fun(s:Int×Sl ByteArray)=>((0≤s.1∧s.1≤(x5.n:Int))∧((s.2.n:Nat):Int)≤(g214_r1 x3 x4).n+(s.1-0)),fun(s:Int×Sl ByteArray)=>(Int.toNat ((x5.n:Int)-s.1)),some fun(r:Sl ByteArray)=>((r.n:Nat):Int)≤(g214_r1 x3 x4).n+max ((x5.n:Int)-0) 0⟩ .z)) .z))))) (ms:=[]) (p:=(((((0≤(0:Int)∧(0:Int)≤(x3.n:Int))∧((x4.n:Nat):Int)≤x4.n+((0:Int)-0)))∧(∀(v1_0:Int) (v1_1:Sl ByteArray),((0≤v1_0∧v1_0≤(x3.n:Int))∧((v1_1.n:Nat):Int)≤x4.n+(v1_0-0))→(((decide (v1_0<(x3.n:Int)))=true→(((0:Int)≤v1_0∧v1_0<((x3.n:Nat):Int))∧(v1_1.n+1≤549755813888)))∧(((decide (v1_0<(x3.n:Int)))=true→(((0≤(IntKind.i64.wrap (v1_0+1))∧(IntKind.i64.wrap (v1_0+1))≤(x3.n:Int))∧(((v1_1.n+1):Nat):Int)≤x4.n+((IntKind.i64.wrap (v1_0+1))-0))∧(Int.toNat ((x3.n:Int)- (IntKind.i64.wrap (v1_0+1))))<(Int.toNat ((x3.n:Int)-v1_0))))∧((decide (v1_0<(x3.n:Int)))=false→(((v1_1.n:Nat):Int)≤x4.n+max ((x3.n:Int)-0) 0))))))∧(((((g214_r1 x3 x4).n:Nat):Int)≤x4.n+max ((x3.n:Int)-0) 0)→((((0≤(0:Int)∧(0:Int)≤(x5.n:Int))∧(((g214_r1 x3 x4).n:Nat):Int)≤(g214_r1 x3 x4).n+((0:Int)-0)))∧(∀(v6_0:Int) (v6_1:Sl ByteArray),((0≤v6_0∧v6_0≤(x5.n:Int))∧((v6_1.n:Nat):Int)≤(g214_r1 x3 x4).n+(v6_0-0))→(((decide (v6_0<(x5.n:Int)))=true→(((0:Int)≤v6_0∧v6_0<((x5.n:Nat):Int))∧(v6_1.n+1≤549755813888)))∧(((decide (v6_0<(x5.n:Int)))=true→(((0≤(IntKind.i64.wrap (v6_0+1))∧(IntKind.i64.wrap (v6_0+1))≤(x5.n:Int))∧(((v6_1.n+1):Nat):Int)≤(g214_r1 x3 x4).n+((IntKind.i64.wrap (v6_0+1))-0))∧(Int.toNat ((x5.n:Int)- (IntKind.i64.wrap (v6_0+1))))<(Int.toNat ((x5.n:Int)-v6_0))))∧((decide (v6_0<(x5.n:Int)))=false→(((v6_1.n:Nat):Int)≤(g214_r1 x3 x4).n+max ((x5.n:Int)-0) 0))))))))) (mkX_ok ⟨k211,trivial⟩) Tryz.func100 rfl rfl (by kernel_rfl) (have⟨hq0,hq1,hq2⟩:=hp;⟨⟨(by omega),(fun v1_0 v1_1 hI1=>⟨(fun h2=>⟨(by have:=of_decide_eq_true h2;omega),(by have:=of_decide_eq_true h2;omega)⟩),⟨(fun h3=>(by have:=of_decide_eq_true h3;first|omega|(have:=wrap64 (x:=(v1_0+1)) (by omega) (by omega);omega))),(fun h4=>(by have:=of_decide_eq_false h4;omega))⟩⟩)⟩,(fun hF5=>⟨(by omega),(fun v6_0 v6_1 hI6=>⟨(fun h7=>⟨(by have:=of_decide_eq_true h7;omega),(by have:=of_decide_eq_true h7;omega)⟩),⟨(fun h8=>(by have:=of_decide_eq_true h8;first|omega|(have:=wrap64 (x:=(v6_0+1)) (by omega) (by omega);omega))),(fun h9=>(by have:=of_decide_eq_false h9;omega))⟩⟩)⟩)⟩)
theorem k214:XOk Tryz.prog 100 F214.ans:=Fq.ok ⟨_,_,Tryz.func100,rfl,by kernel_rfl⟩ pc214
noncomputable def g249(x0:ByteArray):Bool:=(!((x0:ByteArray).toList==(x0:ByteArray).toList))
noncomputable def F249:Fq:=⟨[.v kS],fun x0=>⟨⟨none,.bool (g249 x0)⟩⟩⟩
theorem pc249:FnOk Tryz.prog 137 F249.sh _ (F249.sh.flatMap Sh.bs) F249.f []:=
 fun x0 _=>pure_of_exec (X:=X0) (R:=⟨.pure,[.tmp 2],[(.t 0,kB)],⟨[U],[]⟩⟩) (h:= .z) (ms:=[]) (p:=True) X0_ok Tryz.func137 rfl rfl (by kernel_rfl) (trivial)
theorem k249:XOk Tryz.prog 137 F249.ans:=Fq.ok ⟨_,_,Tryz.func137,rfl,by kernel_rfl⟩ pc249
noncomputable def g243_m1(x0:ByteArray)(x1:ByteArray):Bool:=(bif(g249 x0)then(bif(!(g249 x1))then true else(Op.bytesLess ((x0:ByteArray).toList) ((x1:ByteArray).toList)))else(Op.bytesLess ((x0:ByteArray).toList) ((x1:ByteArray).toList)))
noncomputable def g243(x0:ByteArray)(x1:ByteArray):Bool:=(g243_m1 x0 x1)
noncomputable def F243:Fq:=⟨[.v kS,.v kS],fun x0 x1=>⟨⟨none,.bool (g243 x0 x1)⟩⟩⟩
theorem pc243:FnOk Tryz.prog 130 F243.sh _ (F243.sh.flatMap Sh.bs) F243.f []:=
 fun x0 _ x1 _=>pure_of_exec (X:=(mkX [(137,F249.ans)])) (R:=⟨.pure,[.tmp 4],[(.t 0,kB)],⟨[U],[]⟩⟩) (h:=(.s .z (.j ⟨16,[],[(.t 4,kB)],[],.f⟩ .z .z))) (ms:=[]) (p:=True) (mkX_ok ⟨k249,trivial⟩) Tryz.func130 rfl rfl (by kernel_rfl) (trivial)
theorem k243:XOk Tryz.prog 130 F243.ans:=Fq.ok ⟨_,_,Tryz.func130,rfl,by kernel_rfl⟩ pc243
noncomputable def g244(x0:ByteArray):Bool:=(!((x0:ByteArray).toList==(x0:ByteArray).toList))
noncomputable def F244:Fq:=⟨[.v kS],fun x0=>⟨⟨none,.bool (g244 x0)⟩⟩⟩
theorem pc244:FnOk Tryz.prog 131 F244.sh _ (F244.sh.flatMap Sh.bs) F244.f []:=
 fun x0 _=>pure_of_exec (X:=X0) (R:=⟨.pure,[.tmp 2],[(.t 0,kB)],⟨[U],[]⟩⟩) (h:= .z) (ms:=[]) (p:=True) X0_ok Tryz.func131 rfl rfl (by kernel_rfl) (trivial)
theorem k244:XOk Tryz.prog 131 F244.ans:=Fq.ok ⟨_,_,Tryz.func131,rfl,by kernel_rfl⟩ pc244
noncomputable def g228_139_l1(x0:Sl T160)(x1:ByteArray):Nat→Int→Int→Int
 |0,_,_=>default
 |k+1,v1_0,v1_1=>(bif(decide (v1_0<v1_1))then(bif(decide ((g139 (x0.at' (Int.toNat (IntKind.i64.wrap ((IntKind.u64.wrap (IntKind.i64.wrap (v1_0+v1_1)))/2^(Int.toNat 1))))).c0 x1)<0))then(g228_139_l1 x0 x1 k (IntKind.i64.wrap ((IntKind.i64.wrap ((IntKind.u64.wrap (IntKind.i64.wrap (v1_0+v1_1)))/2^(Int.toNat 1)))+1)) v1_1)else(g228_139_l1 x0 x1 k v1_0 (IntKind.i64.wrap ((IntKind.u64.wrap (IntKind.i64.wrap (v1_0+v1_1)))/2^(Int.toNat 1)))))else v1_0)
noncomputable def g228_139_r1(x0:Sl T160)(x1:ByteArray):Int:=g228_139_l1 x0 x1 ((Int.toNat ((x0.n:Int)-0))+1) 0 (x0.n:Int)
noncomputable def g228_139_m2(x0:Sl T160)(x1:ByteArray):Bool:=(bif(decide ((g228_139_r1 x0 x1)<(x0.n:Int)))then((g139 (x0.at' (Int.toNat (g228_139_r1 x0 x1))).c0 x1)==0)else false)
noncomputable def g228_139_0(x0:Sl T160)(x1:ByteArray):Int:=(g228_139_r1 x0 x1)
noncomputable def g228_139_1(x0:Sl T160)(x1:ByteArray):Bool:=(g228_139_m2 x0 x1)
noncomputable def F228_139:Fq:=⟨[.v (.sl E160),.g [kS,kS],.fn 70 []],fun x0 x1 _=>⟨⟨none,.tup [.int .i64 (g228_139_0 x0 x1),.bool (g228_139_1 x0 x1)]⟩⟩⟩
theorem pc228_139:FnOk Tryz.prog 115 F228_139.sh _ (F228_139.sh.flatMap Sh.bs) F228_139.f []:=
 fun x0 n0 _ x1 n1 x2 n2=>pure_of_exec (X:=(mkX [(70,F139.ans)])) (R:=⟨.pure,[.tmp 6,.tmp 7],[(.t 0,kI),(.t 1,kB)],⟨[U,U],[]⟩⟩) (h:=(.s .z (.s .z (.s .z (.j ⟨981,[],[],[],.f⟩ (.lp ⟨2005,[],[],[(.t 9,kI),(.t 10,kI)],some 0,false,981,[],[(.t 9,kI)],fun k (s:Int×Int)=>g228_139_l1 x0 x1 k s.1 s.2,.f,fun(s:Int×Int)=>(0≤s.1∧s.1≤s.2∧s.2≤(x0.n:Int)),fun(s:Int×Int)=>(Int.toNat (s.2-s.1)),some fun(r:Int)=>0≤r∧r≤(x0.n:Int)⟩ .z) (.j ⟨192,[.b 0],[(.t 7,kB)],[],.f⟩ .z .z)))))) (ms:=[]) (p:=((((0≤(0:Int)∧(0:Int)≤(x0.n:Int)∧(x0.n:Int)≤(x0.n:Int)))∧(∀(v1_0:Int) (v1_1:Int),(0≤v1_0∧v1_0≤v1_1∧v1_1≤(x0.n:Int))→(((decide (v1_0<v1_1))=true→(((0:Int)≤1∧(1:Int)≤64)∧((0:Int)≤(IntKind.i64.wrap ((IntKind.u64.wrap (IntKind.i64.wrap (v1_0+v1_1)))/2^(Int.toNat 1)))∧(IntKind.i64.wrap ((IntKind.u64.wrap (IntKind.i64.wrap (v1_0+v1_1)))/2^(Int.toNat 1)))<((x0.n:Nat):Int))))∧(((decide (v1_0<v1_1))=true→(((decide ((g139 (x0.at' (Int.toNat (IntKind.i64.wrap ((IntKind.u64.wrap (IntKind.i64.wrap (v1_0+v1_1)))/2^(Int.toNat 1))))).c0 x1)<0))=true→((0≤(IntKind.i64.wrap ((IntKind.i64.wrap ((IntKind.u64.wrap (IntKind.i64.wrap (v1_0+v1_1)))/2^(Int.toNat 1)))+1))∧(IntKind.i64.wrap ((IntKind.i64.wrap ((IntKind.u64.wrap (IntKind.i64.wrap (v1_0+v1_1)))/2^(Int.toNat 1)))+1))≤v1_1∧v1_1≤(x0.n:Int))∧(Int.toNat (v1_1- (IntKind.i64.wrap ((IntKind.i64.wrap ((IntKind.u64.wrap (IntKind.i64.wrap (v1_0+v1_1)))/2^(Int.toNat 1)))+1))))<(Int.toNat (v1_1-v1_0))))∧((decide ((g139 (x0.at' (Int.toNat (IntKind.i64.wrap ((IntKind.u64.wrap (IntKind.i64.wrap (v1_0+v1_1)))/2^(Int.toNat 1))))).c0 x1)<0))=false→((0≤v1_0∧v1_0≤(IntKind.i64.wrap ((IntKind.u64.wrap (IntKind.i64.wrap (v1_0+v1_1)))/2^(Int.toNat 1)))∧(IntKind.i64.wrap ((IntKind.u64.wrap (IntKind.i64.wrap (v1_0+v1_1)))/2^(Int.toNat 1)))≤(x0.n:Int))∧(Int.toNat ((IntKind.i64.wrap ((IntKind.u64.wrap (IntKind.i64.wrap (v1_0+v1_1)))/2^(Int.toNat 1)))-v1_0))<(Int.toNat (v1_1-v1_0))))))∧((decide (v1_0<v1_1))=false→(0≤v1_0∧v1_0≤(x0.n:Int)))))))∧((0≤(g228_139_r1 x0 x1)∧(g228_139_r1 x0 x1)≤(x0.n:Int))→((decide ((g228_139_r1 x0 x1)<(x0.n:Int)))=true→((0:Int)≤(g228_139_r1 x0 x1)∧(g228_139_r1 x0 x1)<((x0.n:Nat):Int)))))) (mkX_ok ⟨k139,trivial⟩) Tryz.func115 rfl rfl (by kernel_rfl) (⟨⟨(by omega),(fun v1_0 v1_1 hI1=>⟨(fun h2=>⟨(by have:=of_decide_eq_true h2;omega),(by have:=of_decide_eq_true h2;first|omega|(have:=wrap64 (x:=(v1_0+v1_1)) (by omega) (by omega);have:=wrapu64 (x:=(IntKind.i64.wrap (v1_0+v1_1))) (by omega) (by omega);have:=half2 (IntKind.u64.wrap (IntKind.i64.wrap (v1_0+v1_1)));have:=wrap64 (x:=((IntKind.u64.wrap (IntKind.i64.wrap (v1_0+v1_1)))/2^(Int.toNat 1))) (by omega) (by omega);omega))⟩),⟨(fun h3=>⟨(fun h4=>(by have:=of_decide_eq_true h3;have:=of_decide_eq_true h4;first|omega|(have:=wrap64 (x:=(v1_0+v1_1)) (by omega) (by omega);have:=wrapu64 (x:=(IntKind.i64.wrap (v1_0+v1_1))) (by omega) (by omega);have:=half2 (IntKind.u64.wrap (IntKind.i64.wrap (v1_0+v1_1)));have:=wrap64 (x:=((IntKind.u64.wrap (IntKind.i64.wrap (v1_0+v1_1)))/2^(Int.toNat 1))) (by omega) (by omega);have:=wrap64 (x:=((IntKind.i64.wrap ((IntKind.u64.wrap (IntKind.i64.wrap (v1_0+v1_1)))/2^(Int.toNat 1)))+1)) (by omega) (by omega);omega))),(fun h5=>(by have:=of_decide_eq_true h3;have:=of_decide_eq_false h5;first|omega|(have:=wrap64 (x:=(v1_0+v1_1)) (by omega) (by omega);have:=wrapu64 (x:=(IntKind.i64.wrap (v1_0+v1_1))) (by omega) (by omega);have:=half2 (IntKind.u64.wrap (IntKind.i64.wrap (v1_0+v1_1)));have:=wrap64 (x:=((IntKind.u64.wrap (IntKind.i64.wrap (v1_0+v1_1)))/2^(Int.toNat 1))) (by omega) (by omega);omega)))⟩),(fun h6=>(by have:=of_decide_eq_false h6;omega))⟩⟩)⟩,(fun hF7=>(fun h8=>(by have:=of_decide_eq_true h8;omega)))⟩)
theorem k228_139:XOk Tryz.prog 115 F228_139.ans:=Fq.ok ⟨_,_,Tryz.func115,rfl,by kernel_rfl⟩ pc228_139
theorem b228_139(x0:Sl T160)(x1:ByteArray): ∀k i j,g228_139_l1 x0 x1 k i j=bsG (fun m=>decide ((g139 (x0.at' m).c0 x1)<0)) k i j
 |0,_,_=>rfl
 |k+1,i,j=>by simp only[g228_139_l1,bsG,b228_139 x0 x1 k]
theorem f228_139(x0:Sl T160)(x1:ByteArray)(hn:x0.n≤549755813888):0≤g228_139_0 x0 x1∧g228_139_0 x0 x1≤((x0.n:Nat):Int):=by
 show 0≤g228_139_l1 x0 x1 _ _ _∧g228_139_l1 x0 x1 _ _ _≤_
 rw[b228_139]
 exact bs_bounds (by omega) _ _ _ (by omega) (by omega) (by omega)
theorem t228_139(x0:Sl T160)(x1:ByteArray)(h:g228_139_1 x0 x1=true):g228_139_0 x0 x1<((x0.n:Nat):Int):=by
 unfold g228_139_1 g228_139_m2 at h
 cases e:decide (g228_139_r1 x0 x1<(x0.n:Int))with
 |true=>exact of_decide_eq_true e
 |false=>rw[e]at h;cases h
noncomputable def g236_141_l1(x0:Sl T164)(x1:ByteArray)(x2:Int):Nat→Int→Int→Int
 |0,_,_=>default
 |k+1,v1_0,v1_1=>(bif(decide (v1_0<v1_1))then(bif(decide ((g141 (x0.at' (Int.toNat (IntKind.i64.wrap ((IntKind.u64.wrap (IntKind.i64.wrap (v1_0+v1_1)))/2^(Int.toNat 1))))).c0 (x0.at' (Int.toNat (IntKind.i64.wrap ((IntKind.u64.wrap (IntKind.i64.wrap (v1_0+v1_1)))/2^(Int.toNat 1))))).c1 x1 x2)<0))then(g236_141_l1 x0 x1 x2 k (IntKind.i64.wrap ((IntKind.i64.wrap ((IntKind.u64.wrap (IntKind.i64.wrap (v1_0+v1_1)))/2^(Int.toNat 1)))+1)) v1_1)else(g236_141_l1 x0 x1 x2 k v1_0 (IntKind.i64.wrap ((IntKind.u64.wrap (IntKind.i64.wrap (v1_0+v1_1)))/2^(Int.toNat 1)))))else v1_0)
noncomputable def g236_141_r1(x0:Sl T164)(x1:ByteArray)(x2:Int):Int:=g236_141_l1 x0 x1 x2 ((Int.toNat ((x0.n:Int)-0))+1) 0 (x0.n:Int)
noncomputable def g236_141_m2(x0:Sl T164)(x1:ByteArray)(x2:Int):Bool:=(bif(decide ((g236_141_r1 x0 x1 x2)<(x0.n:Int)))then((g141 (x0.at' (Int.toNat (g236_141_r1 x0 x1 x2))).c0 (x0.at' (Int.toNat (g236_141_r1 x0 x1 x2))).c1 x1 x2)==0)else false)
noncomputable def g236_141_0(x0:Sl T164)(x1:ByteArray)(x2:Int):Int:=(g236_141_r1 x0 x1 x2)
noncomputable def g236_141_1(x0:Sl T164)(x1:ByteArray)(x2:Int):Bool:=(g236_141_m2 x0 x1 x2)
noncomputable def F236_141:Fq:=⟨[.v (.sl E164),.g [kS,kI],.fn 72 []],fun x0 x1 x2=>⟨⟨none,.tup [.int .i64 (g236_141_0 x0 x1 x2),.bool (g236_141_1 x0 x1 x2)]⟩⟩⟩
theorem pc236_141:FnOk Tryz.prog 123 F236_141.sh _ (F236_141.sh.flatMap Sh.bs) F236_141.f []:=
 fun x0 n0 _ x1 n1 (x2:Int)=>pure_of_exec (X:=(mkX [(72,F141.ans)])) (R:=⟨.pure,[.tmp 6,.tmp 7],[(.t 0,kI),(.t 1,kB)],⟨[U,U],[]⟩⟩) (h:=(.s .z (.s .z (.s .z (.j ⟨981,[],[],[],.f⟩ (.lp ⟨2005,[],[],[(.t 9,kI),(.t 10,kI)],some 0,false,981,[],[(.t 9,kI)],fun k (s:Int×Int)=>g236_141_l1 x0 x1 x2 k s.1 s.2,.f,fun(s:Int×Int)=>(0≤s.1∧s.1≤s.2∧s.2≤(x0.n:Int)),fun(s:Int×Int)=>(Int.toNat (s.2-s.1)),some fun(r:Int)=>0≤r∧r≤(x0.n:Int)⟩ .z) (.j ⟨192,[.b 0],[(.t 7,kB)],[],.f⟩ .z .z)))))) (ms:=[]) (p:=((((0≤(0:Int)∧(0:Int)≤(x0.n:Int)∧(x0.n:Int)≤(x0.n:Int)))∧(∀(v1_0:Int) (v1_1:Int),(0≤v1_0∧v1_0≤v1_1∧v1_1≤(x0.n:Int))→(((decide (v1_0<v1_1))=true→(((0:Int)≤1∧(1:Int)≤64)∧((0:Int)≤(IntKind.i64.wrap ((IntKind.u64.wrap (IntKind.i64.wrap (v1_0+v1_1)))/2^(Int.toNat 1)))∧(IntKind.i64.wrap ((IntKind.u64.wrap (IntKind.i64.wrap (v1_0+v1_1)))/2^(Int.toNat 1)))<((x0.n:Nat):Int))))∧(((decide (v1_0<v1_1))=true→(((decide ((g141 (x0.at' (Int.toNat (IntKind.i64.wrap ((IntKind.u64.wrap (IntKind.i64.wrap (v1_0+v1_1)))/2^(Int.toNat 1))))).c0 (x0.at' (Int.toNat (IntKind.i64.wrap ((IntKind.u64.wrap (IntKind.i64.wrap (v1_0+v1_1)))/2^(Int.toNat 1))))).c1 x1 x2)<0))=true→((0≤(IntKind.i64.wrap ((IntKind.i64.wrap ((IntKind.u64.wrap (IntKind.i64.wrap (v1_0+v1_1)))/2^(Int.toNat 1)))+1))∧(IntKind.i64.wrap ((IntKind.i64.wrap ((IntKind.u64.wrap (IntKind.i64.wrap (v1_0+v1_1)))/2^(Int.toNat 1)))+1))≤v1_1∧v1_1≤(x0.n:Int))∧(Int.toNat (v1_1- (IntKind.i64.wrap ((IntKind.i64.wrap ((IntKind.u64.wrap (IntKind.i64.wrap (v1_0+v1_1)))/2^(Int.toNat 1)))+1))))<(Int.toNat (v1_1-v1_0))))∧((decide ((g141 (x0.at' (Int.toNat (IntKind.i64.wrap ((IntKind.u64.wrap (IntKind.i64.wrap (v1_0+v1_1)))/2^(Int.toNat 1))))).c0 (x0.at' (Int.toNat (IntKind.i64.wrap ((IntKind.u64.wrap (IntKind.i64.wrap (v1_0+v1_1)))/2^(Int.toNat 1))))).c1 x1 x2)<0))=false→((0≤v1_0∧v1_0≤(IntKind.i64.wrap ((IntKind.u64.wrap (IntKind.i64.wrap (v1_0+v1_1)))/2^(Int.toNat 1)))∧(IntKind.i64.wrap ((IntKind.u64.wrap (IntKind.i64.wrap (v1_0+v1_1)))/2^(Int.toNat 1)))≤(x0.n:Int))∧(Int.toNat ((IntKind.i64.wrap ((IntKind.u64.wrap (IntKind.i64.wrap (v1_0+v1_1)))/2^(Int.toNat 1)))-v1_0))<(Int.toNat (v1_1-v1_0))))))∧((decide (v1_0<v1_1))=false→(0≤v1_0∧v1_0≤(x0.n:Int)))))))∧((0≤(g236_141_r1 x0 x1 x2)∧(g236_141_r1 x0 x1 x2)≤(x0.n:Int))→((decide ((g236_141_r1 x0 x1 x2)<(x0.n:Int)))=true→((0:Int)≤(g236_141_r1 x0 x1 x2)∧(g236_141_r1 x0 x1 x2)<((x0.n:Nat):Int)))))) (mkX_ok ⟨k141,trivial⟩) Tryz.func123 rfl rfl (by kernel_rfl) (⟨⟨(by omega),(fun v1_0 v1_1 hI1=>⟨(fun h2=>⟨(by have:=of_decide_eq_true h2;omega),(by have:=of_decide_eq_true h2;first|omega|(have:=wrap64 (x:=(v1_0+v1_1)) (by omega) (by omega);have:=wrapu64 (x:=(IntKind.i64.wrap (v1_0+v1_1))) (by omega) (by omega);have:=half2 (IntKind.u64.wrap (IntKind.i64.wrap (v1_0+v1_1)));have:=wrap64 (x:=((IntKind.u64.wrap (IntKind.i64.wrap (v1_0+v1_1)))/2^(Int.toNat 1))) (by omega) (by omega);omega))⟩),⟨(fun h3=>⟨(fun h4=>(by have:=of_decide_eq_true h3;have:=of_decide_eq_true h4;first|omega|(have:=wrap64 (x:=(v1_0+v1_1)) (by omega) (by omega);have:=wrapu64 (x:=(IntKind.i64.wrap (v1_0+v1_1))) (by omega) (by omega);have:=half2 (IntKind.u64.wrap (IntKind.i64.wrap (v1_0+v1_1)));have:=wrap64 (x:=((IntKind.u64.wrap (IntKind.i64.wrap (v1_0+v1_1)))/2^(Int.toNat 1))) (by omega) (by omega);have:=wrap64 (x:=((IntKind.i64.wrap ((IntKind.u64.wrap (IntKind.i64.wrap (v1_0+v1_1)))/2^(Int.toNat 1)))+1)) (by omega) (by omega);omega))),(fun h5=>(by have:=of_decide_eq_true h3;have:=of_decide_eq_false h5;first|omega|(have:=wrap64 (x:=(v1_0+v1_1)) (by omega) (by omega);have:=wrapu64 (x:=(IntKind.i64.wrap (v1_0+v1_1))) (by omega) (by omega);have:=half2 (IntKind.u64.wrap (IntKind.i64.wrap (v1_0+v1_1)));have:=wrap64 (x:=((IntKind.u64.wrap (IntKind.i64.wrap (v1_0+v1_1)))/2^(Int.toNat 1))) (by omega) (by omega);omega)))⟩),(fun h6=>(by have:=of_decide_eq_false h6;omega))⟩⟩)⟩,(fun hF7=>(fun h8=>(by have:=of_decide_eq_true h8;omega)))⟩)
theorem k236_141:XOk Tryz.prog 123 F236_141.ans:=Fq.ok ⟨_,_,Tryz.func123,rfl,by kernel_rfl⟩ pc236_141
theorem b236_141(x0:Sl T164)(x1:ByteArray)(x2:Int): ∀k i j,g236_141_l1 x0 x1 x2 k i j=bsG (fun m=>decide ((g141 (x0.at' m).c0 (x0.at' m).c1 x1 x2)<0)) k i j
 |0,_,_=>rfl
 |k+1,i,j=>by simp only[g236_141_l1,bsG,b236_141 x0 x1 x2 k]
theorem f236_141(x0:Sl T164)(x1:ByteArray)(x2:Int)(hn:x0.n≤549755813888):0≤g236_141_0 x0 x1 x2∧g236_141_0 x0 x1 x2≤((x0.n:Nat):Int):=by
 show 0≤g236_141_l1 x0 x1 x2 _ _ _∧g236_141_l1 x0 x1 x2 _ _ _≤_
 rw[b236_141]
 exact bs_bounds (by omega) _ _ _ (by omega) (by omega) (by omega)
noncomputable def g233_l1(x0:Sl ByteArray)(x1:ByteArray):Nat→Int→Int→Int
 |0,_,_=>default
 |k+1,v1_0,v1_1=>(bif(decide (v1_0<v1_1))then(bif(g243 (x0.at' (Int.toNat (IntKind.i64.wrap ((IntKind.u64.wrap (IntKind.i64.wrap (v1_0+v1_1)))/2^(Int.toNat 1))))) x1)then(g233_l1 x0 x1 k (IntKind.i64.wrap ((IntKind.i64.wrap ((IntKind.u64.wrap (IntKind.i64.wrap (v1_0+v1_1)))/2^(Int.toNat 1)))+1)) v1_1)else(g233_l1 x0 x1 k v1_0 (IntKind.i64.wrap ((IntKind.u64.wrap (IntKind.i64.wrap (v1_0+v1_1)))/2^(Int.toNat 1)))))else v1_0)
noncomputable def g233_r1(x0:Sl ByteArray)(x1:ByteArray):Int:=g233_l1 x0 x1 ((Int.toNat ((x0.n:Int)-0))+1) 0 (x0.n:Int)
noncomputable def g233_m2(x0:Sl ByteArray)(x1:ByteArray):Bool:=(bif(decide ((g233_r1 x0 x1)<(x0.n:Int)))then(bif(((x0.at' (Int.toNat (g233_r1 x0 x1))):ByteArray).toList==(x1:ByteArray).toList)then true else(bif(g244 (x0.at' (Int.toNat (g233_r1 x0 x1))))then(g244 x1)else false))else false)
noncomputable def g233_0(x0:Sl ByteArray)(x1:ByteArray):Int:=(g233_r1 x0 x1)
noncomputable def g233_1(x0:Sl ByteArray)(x1:ByteArray):Bool:=(g233_m2 x0 x1)
noncomputable def F233:Fq:=⟨[.v (.sl E9),.v kS],fun x0 x1=>⟨⟨none,.tup [.int .i64 (g233_0 x0 x1),.bool (g233_1 x0 x1)]⟩⟩⟩
theorem pc233:FnOk Tryz.prog 120 F233.sh _ (F233.sh.flatMap Sh.bs) F233.f []:=
 fun x0 n0 _ x1 n1=>pure_of_exec (X:=(mkX [(130,F243.ans),(131,F244.ans)])) (R:=⟨.pure,[.tmp 4,.tmp 5],[(.t 0,kI),(.t 1,kB)],⟨[U,U],[]⟩⟩) (h:=(.s .z (.s .z (.s .z (.j ⟨243,[],[],[],.f⟩ (.lp ⟨499,[],[],[(.t 7,kI),(.t 8,kI)],some 0,false,243,[],[(.t 7,kI)],fun k (s:Int×Int)=>g233_l1 x0 x1 k s.1 s.2,.f,fun(s:Int×Int)=>(0≤s.1∧s.1≤s.2∧s.2≤(x0.n:Int)),fun(s:Int×Int)=>(Int.toNat (s.2-s.1)),some fun(r:Int)=>0≤r∧r≤(x0.n:Int)⟩ .z) (.j ⟨48,[],[(.t 5,kB)],[],.f⟩ .z .z)))))) (ms:=[]) (p:=((((0≤(0:Int)∧(0:Int)≤(x0.n:Int)∧(x0.n:Int)≤(x0.n:Int)))∧(∀(v1_0:Int) (v1_1:Int),(0≤v1_0∧v1_0≤v1_1∧v1_1≤(x0.n:Int))→(((decide (v1_0<v1_1))=true→(((0:Int)≤1∧(1:Int)≤64)∧((0:Int)≤(IntKind.i64.wrap ((IntKind.u64.wrap (IntKind.i64.wrap (v1_0+v1_1)))/2^(Int.toNat 1)))∧(IntKind.i64.wrap ((IntKind.u64.wrap (IntKind.i64.wrap (v1_0+v1_1)))/2^(Int.toNat 1)))<((x0.n:Nat):Int))))∧(((decide (v1_0<v1_1))=true→(((g243 (x0.at' (Int.toNat (IntKind.i64.wrap ((IntKind.u64.wrap (IntKind.i64.wrap (v1_0+v1_1)))/2^(Int.toNat 1))))) x1)=true→((0≤(IntKind.i64.wrap ((IntKind.i64.wrap ((IntKind.u64.wrap (IntKind.i64.wrap (v1_0+v1_1)))/2^(Int.toNat 1)))+1))∧(IntKind.i64.wrap ((IntKind.i64.wrap ((IntKind.u64.wrap (IntKind.i64.wrap (v1_0+v1_1)))/2^(Int.toNat 1)))+1))≤v1_1∧v1_1≤(x0.n:Int))∧(Int.toNat (v1_1- (IntKind.i64.wrap ((IntKind.i64.wrap ((IntKind.u64.wrap (IntKind.i64.wrap (v1_0+v1_1)))/2^(Int.toNat 1)))+1))))<(Int.toNat (v1_1-v1_0))))∧((g243 (x0.at' (Int.toNat (IntKind.i64.wrap ((IntKind.u64.wrap (IntKind.i64.wrap (v1_0+v1_1)))/2^(Int.toNat 1))))) x1)=false→((0≤v1_0∧v1_0≤(IntKind.i64.wrap ((IntKind.u64.wrap (IntKind.i64.wrap (v1_0+v1_1)))/2^(Int.toNat 1)))∧(IntKind.i64.wrap ((IntKind.u64.wrap (IntKind.i64.wrap (v1_0+v1_1)))/2^(Int.toNat 1)))≤(x0.n:Int))∧(Int.toNat ((IntKind.i64.wrap ((IntKind.u64.wrap (IntKind.i64.wrap (v1_0+v1_1)))/2^(Int.toNat 1)))-v1_0))<(Int.toNat (v1_1-v1_0))))))∧((decide (v1_0<v1_1))=false→(0≤v1_0∧v1_0≤(x0.n:Int)))))))∧((0≤(g233_r1 x0 x1)∧(g233_r1 x0 x1)≤(x0.n:Int))→((decide ((g233_r1 x0 x1)<(x0.n:Int)))=true→(((0:Int)≤(g233_r1 x0 x1)∧(g233_r1 x0 x1)<((x0.n:Nat):Int))∧((((x0.at' (Int.toNat (g233_r1 x0 x1))):ByteArray).toList==(x1:ByteArray).toList)=false→((0:Int)≤(g233_r1 x0 x1)∧(g233_r1 x0 x1)<((x0.n:Nat):Int)))))))) (mkX_ok ⟨k243,k244,trivial⟩) Tryz.func120 rfl rfl (by kernel_rfl) (⟨⟨(by omega),(fun v1_0 v1_1 hI1=>⟨(fun h2=>⟨(by have:=of_decide_eq_true h2;omega),(by have:=of_decide_eq_true h2;first|omega|(have:=wrap64 (x:=(v1_0+v1_1)) (by omega) (by omega);have:=wrapu64 (x:=(IntKind.i64.wrap (v1_0+v1_1))) (by omega) (by omega);have:=half2 (IntKind.u64.wrap (IntKind.i64.wrap (v1_0+v1_1)));have:=wrap64 (x:=((IntKind.u64.wrap (IntKind.i64.wrap (v1_0+v1_1)))/2^(Int.toNat 1))) (by omega) (by omega);omega))⟩),⟨(fun h3=>⟨(fun h4=>(by have:=of_decide_eq_true h3;first|omega|(have:=wrap64 (x:=(v1_0+v1_1)) (by omega) (by omega);have:=wrapu64 (x:=(IntKind.i64.wrap (v1_0+v1_1))) (by omega) (by omega);have:=half2 (IntKind.u64.wrap (IntKind.i64.wrap (v1_0+v1_1)));have:=wrap64 (x:=((IntKind.u64.wrap (IntKind.i64.wrap (v1_0+v1_1)))/2^(Int.toNat 1))) (by omega) (by omega);have:=wrap64 (x:=((IntKind.i64.wrap ((IntKind.u64.wrap (IntKind.i64.wrap (v1_0+v1_1)))/2^(Int.toNat 1)))+1)) (by omega) (by omega);omega))),(fun h5=>(by have:=of_decide_eq_true h3;first|omega|(have:=wrap64 (x:=(v1_0+v1_1)) (by omega) (by omega);have:=wrapu64 (x:=(IntKind.i64.wrap (v1_0+v1_1))) (by omega) (by omega);have:=half2 (IntKind.u64.wrap (IntKind.i64.wrap (v1_0+v1_1)));have:=wrap64 (x:=((IntKind.u64.wrap (IntKind.i64.wrap (v1_0+v1_1)))/2^(Int.toNat 1))) (by omega) (by omega);omega)))⟩),(fun h6=>(by have:=of_decide_eq_false h6;omega))⟩⟩)⟩,(fun hF7=>(fun h8=>⟨(by have:=of_decide_eq_true h8;omega),(fun h9=>(by have:=of_decide_eq_true h8;omega))⟩))⟩)
theorem k233:XOk Tryz.prog 120 F233.ans:=Fq.ok ⟨_,_,Tryz.func120,rfl,by kernel_rfl⟩ pc233
theorem b233(x0:Sl ByteArray)(x1:ByteArray): ∀k i j,g233_l1 x0 x1 k i j=bsG (fun m=>(g243 (x0.at' m) x1)) k i j
 |0,_,_=>rfl
 |k+1,i,j=>by simp only[g233_l1,bsG,b233 x0 x1 k]
theorem f233(x0:Sl ByteArray)(x1:ByteArray)(hn:x0.n≤549755813888):0≤g233_0 x0 x1∧g233_0 x0 x1≤((x0.n:Nat):Int):=by
 show 0≤g233_l1 x0 x1 _ _ _∧g233_l1 x0 x1 _ _ _≤_
 rw[b233]
 exact bs_bounds (by omega) _ _ _ (by omega) (by omega) (by omega)
theorem t233(x0:Sl ByteArray)(x1:ByteArray)(h:g233_1 x0 x1=true):g233_0 x0 x1<((x0.n:Nat):Int):=by
 unfold g233_1 g233_m2 at h
 cases e:decide (g233_r1 x0 x1<(x0.n:Int))with
 |true=>exact of_decide_eq_true e
 |false=>rw[e]at h;cases h
end Go.Proofs.YtfbpilmhnpkfhaaGreatDoor
/-
  Walks: what functions of the program answer, as functions.
-/
namespace Go.Proofs.YtfbpilmhnpkfhaaGreatDoor
open Go Go.Vc Go.RowKit
set_option maxRecDepth 100000
set_option maxHeartbeats 4000000
noncomputable def g184_0(x0:Int):Int:=x0
noncomputable def g184_1(x1:ByteArray):ByteArray:=x1
noncomputable def g184_2(x2:Int):Int:=x2
noncomputable def F184:Hq:=⟨[.g [kI,kS,kI,.sl E160,.sl E9,.sl E164]],[],[],fun x0 x1 x2 x3 x4 x5=>⟨⟨none,[.agg [.int .i64 (g184_0 x0),.str (g184_1 x1),.int .i64 (g184_2 x2),.own 0 (x3).n,.own 1 (x4).n,.own 2 (x5).n]],[[(Kd.blk E160).av x3],[(Kd.blk E9).av x4],[(Kd.blk E164).av x5]]⟩⟩⟩
theorem pc184:HqOk Tryz.prog 80 F184 _ (F184.sh.flatMap Sh.bs) F184.f []:=
 fun(x0:Int) x1 _ (x2:Int) x3 _ x4 _ x5 _=>heap_of_exec (X:=(mkX [(49,F210.ans),(35,F211.ans),(50,F212.ans)])) (R:=⟨.hp2 false [.b 0,.b 1] [.own (.c 0 3) E160 0,.own (.c 0 4) E9 1,.own (.c 0 5) E164 2],[.cell 2 64],[(.c 0 0,kI),(.c 0 1,kS),(.c 0 2,kI),(.h 0 0,.blk E160),(.h 1 0,.blk E9),(.h 2 0,.blk E164)],⟨[.agg [U,U,U,.own 0 0,.own 1 0,.own 2 0]],[[U],[U],[U]]⟩⟩) (h:= .z) (ms:=[]) (p:=True) (mkX_ok ⟨k210,k211,k212,trivial⟩) Tryz.func80 rfl rfl rfl (by kernel_rfl) (trivial)
theorem k184:XHOk Tryz.prog 80 F184.ans:=Hq.ok ⟨_,_,Tryz.func80,rfl,by kernel_rfl⟩ (by kernel_rfl) pc184
noncomputable def g215_m1(x0:Int)(x2:ByteArray)(x8:Sl T160):Bool:=(bif(x0==4)then(g228_139_1 x8 x2)else false)
noncomputable def g215_m2(x0:Int)(x8:Sl T160):Bool:=(bif(x0==4)then(((x8.n:Nat):Int)==20)else false)
noncomputable def g215_m3(x0:Int)(x2:ByteArray)(x8:Sl T160):Bool:=(bif(x0==5)then(!(g228_139_1 x8 x2))else false)
noncomputable def g215_m4(x2:ByteArray)(x8:Sl T160):Sl T160:=(bif(g228_139_1 x8 x2)then(Sl.del x8 (Int.toNat (g228_139_0 x8 x2)) (Int.toNat (IntKind.i64.wrap ((g228_139_0 x8 x2)+1))))else x8)
noncomputable def g215_p5(x0:Int)(x2:ByteArray)(x8:Sl T160):Bool:=(bif(g215_m1 x0 x2 x8)then false else(bif(g215_m2 x0 x8)then false else(bif(x0==4)then false else(bif(g215_m3 x0 x2 x8)then false else(bif(x0==5)then false else true)))))
noncomputable def g215_0(x0:Int)(x2:ByteArray)(x8:Sl T160):Int:=(bif(g215_p5 x0 x2 x8)then g213_0 else(bif(g215_m1 x0 x2 x8)then g213_0 else(bif(g215_m2 x0 x8)then(g187_0 6)else(bif(x0==4)then g213_0 else(bif(g215_m3 x0 x2 x8)then(g187_0 5)else 0)))))
noncomputable def g215_1(x0:Int)(x2:ByteArray)(x8:Sl T160):ByteArray:=(bif(g215_p5 x0 x2 x8)then g213_1 else(bif(g215_m1 x0 x2 x8)then g213_1 else(bif(g215_m2 x0 x8)then g187_1 else(bif(x0==4)then g213_1 else(bif(g215_m3 x0 x2 x8)then g187_1 else(x8.at' (Int.toNat (g228_139_0 x8 x2))).c1)))))
noncomputable def g215_2(x0:Int)(x2:ByteArray)(x8:Sl T160):Int:=(bif(g215_p5 x0 x2 x8)then(g213_2 (g231 (g228_139_1 x8 x2)))else(bif(g215_m1 x0 x2 x8)then(g213_2 0)else(bif(g215_m2 x0 x8)then g187_2 else(bif(x0==4)then(g213_2 1)else(bif(g215_m3 x0 x2 x8)then g187_2 else 0)))))
noncomputable def g215_3(x0:Int)(x2:ByteArray)(x8:Sl T160):Sl ByteArray:=(bif(g215_p5 x0 x2 x8)then g213_3 else(bif(g215_m1 x0 x2 x8)then g213_3 else(bif(g215_m2 x0 x8)then g187_3 else(bif(x0==4)then g213_3 else(bif(g215_m3 x0 x2 x8)then g187_3 else(nilSl:Sl ByteArray))))))
noncomputable def g215_h0_3(x0:Int)(x2:ByteArray)(x3:ByteArray)(x8:Sl T160):Sl T160:=(bif(g215_p5 x0 x2 x8)then(g215_m4 x2 x8)else(bif(g215_m1 x0 x2 x8)then(Sl.upd x8 (Int.toNat (g228_139_0 x8 x2)) (⟨(x8.at' (Int.toNat (g228_139_0 x8 x2))).c0,x3⟩:T160))else(bif(g215_m2 x0 x8)then x8 else(bif(x0==4)then(Sl.ins x8 (Int.toNat (g228_139_0 x8 x2)) (⟨x2,x3⟩:T160))else x8))))
theorem m215a(x0:Int)(x2:ByteArray)(x8:Sl T160)(h:g215_m1 x0 x2 x8=true):g228_139_0 x8 x2<((x8.n:Nat):Int):=by
 unfold g215_m1 at h
 cases e:(x0==4)with
 |true=>rw[e]at h;exact t228_139 _ _ h
 |false=>rw[e]at h;cases h
theorem m215b(x0:Int)(x2:ByteArray)(x8:Sl T160)(h:g215_m3 x0 x2 x8=false):x0=5→g228_139_0 x8 x2<((x8.n:Nat):Int):=by
 intro h5
 unfold g215_m3 at h
 rw[show(x0==5)=true from beq_iff_eq.2 h5]at h
 exact t228_139 _ _ (by simpa using h)
noncomputable def F215:Hq:=⟨[.p 0,.g [kI,kS,kS,kS,kI]],[(.h 0 0,kI),(.h 0 1,kS),(.h 0 2,kI),(.h 1 0,.blk E160),(.h 2 0,.blk E9),(.h 3 0,.blk E164)],[[U,U,U,.own 1 0,.own 2 0,.own 3 0],[U],[U],[U]],fun(x0:Int) _ x2 x3 _ (x5:Int) x6 (x7:Int) x8 x9 x10=>⟨⟨some (x8.n≤1000000),[.agg [.int .i64 (g215_0 x0 x2 x8),.str (g215_1 x0 x2 x8),.int .i64 (g215_2 x0 x2 x8),ofSl 1 e9 (g215_3 x0 x2 x8)]],[[.int .i64 x5,.str x6,.int .i64 x7,ofSl 2 e160 (g215_h0_3 x0 x2 x3 x8),ofSl 1 e9 x9,ofSl 2 e164 x10],[deadB],[deadB],[deadB]]⟩⟩⟩
theorem pc215:HqOk Tryz.prog 101 F215 _ (F215.sh.flatMap Sh.bs) F215.f []:=
 fun(x0:Int) x1 n1 x2 n2 x3 n3 (x4:Int) (x5:Int) x6 n6 (x7:Int) x8 n8 x9 n9 x10 n10 hp=>heap_of_exec (X:=(mkXh 4 [(83,F187.ans),(99,F213.ans),(115,F228_139.ans),(118,F231.ans)] [(116,F229.ans),(117,F230.ans)])) (R:=⟨.hp2 true [] [.dat (.h 0 3) E160,.kill 1,.dat (.h 0 4) E9,.kill 2,.dat (.h 0 5) E164,.kill 3],[.cell 4 36],[(.c 0 0,kI),(.c 0 1,kS),(.c 0 2,kI),(.c 0 3,.sl E9),(.h 0 0,kI),(.h 0 1,kS),(.h 0 2,kI),(.h 0 3,.sl E160),(.h 0 4,.sl E9),(.h 0 5,.sl E164)],⟨[.agg [U,U,U,U]],[[U,U,U,U,U,U],[deadB],[deadB],[deadB]]⟩⟩) (h:=(.s .z (.s .z (.jc ⟨80,[.b 4],[(.h 8 0,.blk E160)],[],(.b .f (.b .f (.b .f (.b .f (.b .f .l)))))⟩ [.own (.h 0 3) E160 8] (.j ⟨262265,[],[(.t 18,kB)],[],.f⟩ .z (.s .z (.j ⟨34359738489,[],[(.t 35,kB)],[],.f⟩ .z (.s .z (.s .z (.s .z (.j ⟨295147905179352825977,[],[(.t 68,kB)],[],.f⟩ .z .z))))))) .z)))) (ms:=[.f,.f,.f,.f,.l,.l,.l,(.b .f (.b .f (.b .f (.b .f .l)))),.l,.l]) (p:=(((g215_m1 x0 x2 x8)=true→(((0:Int)≤(g228_139_0 x8 x2)∧(g228_139_0 x8 x2)<((x8.n:Nat):Int))∧((Int.toNat (g228_139_0 x8 x2))<x8.n)))∧((g215_m1 x0 x2 x8)=false→((g215_m2 x0 x8)=false→(((x0==4)=true→((0:Int)≤(g228_139_0 x8 x2)∧((g228_139_0 x8 x2):Int)≤((x8.n:Nat):Int)∧x8.n+1≤549755813888∧1=1))∧((x0==4)=false→((g215_m3 x0 x2 x8)=false→(((x0==5)=true→(((0:Int)≤(g228_139_0 x8 x2)∧(g228_139_0 x8 x2)<((x8.n:Nat):Int))∧((Int.toNat (g228_139_0 x8 x2))<x8.n)))∧((x0==5)=false→((g228_139_1 x8 x2)=true→((0:Int)≤(g228_139_0 x8 x2)∧((g228_139_0 x8 x2):Int)<(IntKind.i64.wrap ((g228_139_0 x8 x2)+1))∧((IntKind.i64.wrap ((g228_139_0 x8 x2)+1)):Int)≤((x8.n:Nat):Int)))))))))))) (mkXh_ok ⟨k187,k213,k228_139,k231,trivial⟩ ⟨k229,k230,trivial⟩) Tryz.func101 rfl rfl rfl (by kernel_rfl) (⟨(fun h1=>⟨(by have:=m215a _ _ _ h1;have:=f228_139 x8 x2 (by omega);omega),(by have:=m215a _ _ _ h1;have:=f228_139 x8 x2 (by omega);omega)⟩),(fun h2=>(fun h3=>⟨(fun h4=>(by have:=h2;simp [g215_m1]at this;have:=h3;simp [g215_m2]at this;have:=eq_of_beq h4;have:=f228_139 x8 x2 (by omega);omega)),(fun h5=>(fun h6=>⟨(fun h7=>⟨(by have:=h2;simp [g215_m1]at this;have:=h3;simp [g215_m2]at this;have:=ne_of_beq_false h5;have:=m215b _ _ _ h6;have:=eq_of_beq h7;have:=f228_139 x8 x2 (by omega);omega),(by have:=h2;simp [g215_m1]at this;have:=h3;simp [g215_m2]at this;have:=ne_of_beq_false h5;have:=m215b _ _ _ h6;have:=eq_of_beq h7;have:=f228_139 x8 x2 (by omega);omega)⟩),(fun h8=>(fun h9=>(by have:=h2;simp [g215_m1]at this;have:=h3;simp [g215_m2]at this;have:=ne_of_beq_false h5;have:=m215b _ _ _ h6;have:=ne_of_beq_false h8;have:=t228_139 _ _ h9;have:=f228_139 x8 x2 (by omega);first|omega|(have:=wrap64 (x:=((g228_139_0 x8 x2)+1)) (by omega) (by omega);omega))))⟩))⟩))⟩)
theorem k215:XHOk Tryz.prog 101 F215.ans:=Hq.ok ⟨_,_,Tryz.func101,rfl,by kernel_rfl⟩ (by kernel_rfl) pc215
noncomputable def g216_m1(x0:Int)(x9:Sl ByteArray):Bool:=(bif(decide (x0≤8))then(((x9.n:Nat):Int)==20)else false)
noncomputable def g216_m2(x0:Int)(x9:Sl ByteArray):Sl ByteArray:=(bif(x0==9)then(Sl.part x9 0 (IntKind.i64.wrap (((x9.n:Nat):Int)-1)))else(Sl.part x9 1 ((x9.n:Nat):Int)))
noncomputable def g216_m3(x0:Int)(x9:Sl ByteArray):ByteArray:=(bif(x0==9)then(x9.at' (Int.toNat (IntKind.i64.wrap (((x9.n:Nat):Int)-1))))else(x9.at' (Int.toNat 0)))
noncomputable def g216_p4(x0:Int)(x9:Sl ByteArray):Bool:=(bif(g216_m1 x0 x9)then false else(bif(x0==7)then false else(bif(x0==8)then false else true)))
noncomputable def g216_0(x0:Int)(x9:Sl ByteArray):Int:=(bif(g216_p4 x0 x9)then 0 else(bif(g216_m1 x0 x9)then(g187_0 6)else g213_0))
noncomputable def g216_1(x0:Int)(x9:Sl ByteArray):ByteArray:=(bif(g216_p4 x0 x9)then(g216_m3 x0 x9)else(bif(g216_m1 x0 x9)then g187_1 else g213_1))
noncomputable def g216_2(x0:Int)(x9:Sl ByteArray):Int:=(bif(g216_p4 x0 x9)then 0 else(bif(g216_m1 x0 x9)then g187_2 else(g213_2 (IntKind.i64.wrap (((x9.n:Nat):Int)+1)))))
noncomputable def g216_3(x0:Int)(x9:Sl ByteArray):Sl ByteArray:=(bif(g216_p4 x0 x9)then(nilSl:Sl ByteArray)else(bif(g216_m1 x0 x9)then g187_3 else g213_3))
noncomputable def g216_h0_4(x0:Int)(x3:ByteArray)(x9:Sl ByteArray):Sl ByteArray:=(bif(g216_p4 x0 x9)then(g216_m2 x0 x9)else(bif(g216_m1 x0 x9)then x9 else(bif(x0==7)then(Sl.app x9 (Sl.lit ([x3]:List ByteArray)))else(Sl.ins x9 (Int.toNat 0) x3))))
noncomputable def F216:Hq:=⟨[.p 0,.g [kI,kS,kS,kS,kI]],[(.h 0 0,kI),(.h 0 1,kS),(.h 0 2,kI),(.h 1 0,.blk E160),(.h 2 0,.blk E9),(.h 3 0,.blk E164)],[[U,U,U,.own 1 0,.own 2 0,.own 3 0],[U],[U],[U]],fun(x0:Int) _ _ x3 _ (x5:Int) x6 (x7:Int) x8 x9 x10=>⟨⟨some (x9.n≤1000000∧((7≤x0∧x0≤8)∨1≤x9.n)),[.agg [.int .i64 (g216_0 x0 x9),.str (g216_1 x0 x9),.int .i64 (g216_2 x0 x9),ofSl 1 e9 (g216_3 x0 x9)]],[[.int .i64 x5,.str x6,.int .i64 x7,ofSl 2 e160 x8,ofSl 1 e9 (g216_h0_4 x0 x3 x9),ofSl 2 e164 x10],[deadB],[deadB],[deadB]]⟩⟩⟩
theorem pc216:HqOk Tryz.prog 102 F216 _ (F216.sh.flatMap Sh.bs) F216.f []:=
 fun(x0:Int) x1 n1 x2 n2 x3 n3 (x4:Int) (x5:Int) x6 n6 (x7:Int) x8 n8 x9 n9 x10 n10 hp=>heap_of_exec (X:=(mkXh 4 [(83,F187.ans),(99,F213.ans)] [(119,F232.ans)])) (R:=⟨.hp2 true [] [.dat (.h 0 3) E160,.kill 1,.dat (.h 0 4) E9,.kill 2,.dat (.h 0 5) E164,.kill 3],[.cell 4 36],[(.c 0 0,kI),(.c 0 1,kS),(.c 0 2,kI),(.c 0 3,.sl E9),(.h 0 0,kI),(.h 0 1,kS),(.h 0 2,kI),(.h 0 3,.sl E160),(.h 0 4,.sl E9),(.h 0 5,.sl E164)],⟨[.agg [U,U,U,U]],[[U,U,U,U,U,U],[deadB],[deadB],[deadB]]⟩⟩) (h:=(.s .z (.s .z (.s .z (.j ⟨80,[.b 4],[(.h 0 4,.sl E9),(.t 6,kS)],[],(.b .f (.b .f (.b .f .l)))⟩ (.j ⟨67108985,[],[(.t 26,kB)],[],.f⟩ .z (.s .z (.s .z (.s .z (.s .z (.s .z (.s .z (.s (.cv [(.h 0 4,E9)]) (.cv [(.h 0 4,E9)]))))))))) .z))))) (ms:=[(.b .f (.b .f .l)),(.b .f (.b .f .l)),(.b .f (.b .f .l)),(.b .f (.b .f .l)),.l,.l,.l,.l,.f,.l]) (p:=((g216_m1 x0 x9)=false→(((x0==7)=true→(x9.n+1≤549755813888))∧((x0==7)=false→(((x0==8)=true→((0:Int)≤0∧(0:Int)≤((x9.n:Nat):Int)∧x9.n+1≤549755813888∧1=1))∧((x0==8)=false→(((x0==9)=true→(((0:Int)≤(IntKind.i64.wrap (((x9.n:Nat):Int)-1))∧(IntKind.i64.wrap (((x9.n:Nat):Int)-1))<((x9.n:Nat):Int))∧(((0:Int)≤0)∧((0:Int)≤(IntKind.i64.wrap (((x9.n:Nat):Int)-1)))∧(((IntKind.i64.wrap (((x9.n:Nat):Int)-1)):Int)≤(IntKind.i64.wrap (((x9.n:Nat):Int)-1)))∧(((IntKind.i64.wrap (((x9.n:Nat):Int)-1)):Int)≤((x9.n:Nat):Int)))))∧((x0==9)=false→(((0:Int)≤0∧0<((x9.n:Nat):Int))∧(((0:Int)≤1)∧((1:Int)≤((x9.n:Nat):Int))∧((((x9.n:Nat):Int):Int)≤((x9.n:Nat):Int))∧((((x9.n:Nat):Int):Int)≤((x9.n:Nat):Int)))))))))))) (mkXh_ok ⟨k187,k213,trivial⟩ ⟨k232,trivial⟩) Tryz.func102 rfl rfl rfl (by kernel_rfl) (have⟨hq0,hq1⟩:=hp;(fun h1=>⟨(fun h2=>(by have:=h1;simp [g216_m1]at this;have:=eq_of_beq h2;omega)),(fun h3=>⟨(fun h4=>(by have:=h1;simp [g216_m1]at this;have:=ne_of_beq_false h3;have:=eq_of_beq h4;omega)),(fun h5=>⟨(fun h6=>⟨(by have:=h1;simp [g216_m1]at this;have:=ne_of_beq_false h3;have:=ne_of_beq_false h5;have:=eq_of_beq h6;first|omega|(have:=wrap64 (x:=(((x9.n:Nat):Int)-1)) (by omega) (by omega);omega)),(by have:=h1;simp [g216_m1]at this;have:=ne_of_beq_false h3;have:=ne_of_beq_false h5;have:=eq_of_beq h6;first|omega|(have:=wrap64 (x:=(((x9.n:Nat):Int)-1)) (by omega) (by omega);omega))⟩),(fun h7=>⟨(by have:=h1;simp [g216_m1]at this;have:=ne_of_beq_false h3;have:=ne_of_beq_false h5;have:=ne_of_beq_false h7;omega),(by have:=h1;simp [g216_m1]at this;have:=ne_of_beq_false h3;have:=ne_of_beq_false h5;have:=ne_of_beq_false h7;omega)⟩)⟩)⟩)⟩))
theorem k216:XHOk Tryz.prog 102 F216.ans:=Hq.ok ⟨_,_,Tryz.func102,rfl,by kernel_rfl⟩ (by kernel_rfl) pc216
noncomputable def g217_m1(x0:Int)(x3:ByteArray)(x9:Sl ByteArray):Bool:=(bif(x0==11)then(bif(!(g233_1 x9 x3))then(((x9.n:Nat):Int)==20)else false)else false)
noncomputable def g217_m2(x0:Int)(x3:ByteArray)(x9:Sl ByteArray):Bool:=(bif(x0==11)then(!(g233_1 x9 x3))else false)
noncomputable def g217_m3(x0:Int)(x3:ByteArray)(x9:Sl ByteArray):Bool:=(bif(x0==12)then(g233_1 x9 x3)else false)
noncomputable def g217_m4(x0:Int)(x3:ByteArray)(x9:Sl ByteArray):Sl ByteArray:=(bif(g217_m3 x0 x3 x9)then(Sl.del x9 (Int.toNat (g233_0 x9 x3)) (Int.toNat (IntKind.i64.wrap ((g233_0 x9 x3)+1))))else x9)
noncomputable def g217_p5(x0:Int)(x3:ByteArray)(x9:Sl ByteArray):Bool:=(bif(g217_m1 x0 x3 x9)then false else(bif(g217_m2 x0 x3 x9)then false else(bif(x0==11)then false else true)))
noncomputable def g217_0(x0:Int)(x3:ByteArray)(x9:Sl ByteArray):Int:=(bif(g217_p5 x0 x3 x9)then g213_0 else(bif(g217_m1 x0 x3 x9)then(g187_0 6)else g213_0))
noncomputable def g217_1(x0:Int)(x3:ByteArray)(x9:Sl ByteArray):ByteArray:=(bif(g217_p5 x0 x3 x9)then g213_1 else(bif(g217_m1 x0 x3 x9)then g187_1 else g213_1))
noncomputable def g217_2(x0:Int)(x3:ByteArray)(x9:Sl ByteArray):Int:=(bif(g217_p5 x0 x3 x9)then(g213_2 (g231 (g233_1 x9 x3)))else(bif(g217_m1 x0 x3 x9)then g187_2 else(bif(g217_m2 x0 x3 x9)then(g213_2 1)else(g213_2 0))))
noncomputable def g217_3(x0:Int)(x3:ByteArray)(x9:Sl ByteArray):Sl ByteArray:=(bif(g217_p5 x0 x3 x9)then g213_3 else(bif(g217_m1 x0 x3 x9)then g187_3 else g213_3))
noncomputable def g217_h0_4(x0:Int)(x3:ByteArray)(x9:Sl ByteArray):Sl ByteArray:=(bif(g217_p5 x0 x3 x9)then(g217_m4 x0 x3 x9)else(bif(g217_m1 x0 x3 x9)then x9 else(bif(g217_m2 x0 x3 x9)then(Sl.ins x9 (Int.toNat (g233_0 x9 x3)) x3)else x9)))
theorem m217a(x0:Int)(x3:ByteArray)(x9:Sl ByteArray)(h:g217_m3 x0 x3 x9=true):g233_0 x9 x3<((x9.n:Nat):Int):=by
 unfold g217_m3 at h
 cases e:(x0==12)with
 |true=>rw[e]at h;exact t233 _ _ h
 |false=>rw[e]at h;cases h
noncomputable def F217:Hq:=⟨[.p 0,.g [kI,kS,kS,kS,kI]],[(.h 0 0,kI),(.h 0 1,kS),(.h 0 2,kI),(.h 1 0,.blk E160),(.h 2 0,.blk E9),(.h 3 0,.blk E164)],[[U,U,U,.own 1 0,.own 2 0,.own 3 0],[U],[U],[U]],fun(x0:Int) _ _ x3 _ (x5:Int) x6 (x7:Int) x8 x9 x10=>⟨⟨some (x9.n≤1000000),[.agg [.int .i64 (g217_0 x0 x3 x9),.str (g217_1 x0 x3 x9),.int .i64 (g217_2 x0 x3 x9),ofSl 1 e9 (g217_3 x0 x3 x9)]],[[.int .i64 x5,.str x6,.int .i64 x7,ofSl 2 e160 x8,ofSl 1 e9 (g217_h0_4 x0 x3 x9),ofSl 2 e164 x10],[deadB],[deadB],[deadB]]⟩⟩⟩
theorem pc217:HqOk Tryz.prog 103 F217 _ (F217.sh.flatMap Sh.bs) F217.f []:=
 fun(x0:Int) x1 n1 x2 n2 x3 n3 (x4:Int) (x5:Int) x6 n6 (x7:Int) x8 n8 x9 n9 x10 n10 hp=>heap_of_exec (X:=(mkXh 4 [(83,F187.ans),(99,F213.ans),(118,F231.ans),(120,F233.ans)] [(119,F232.ans),(121,F234.ans)])) (R:=⟨.hp2 true [] [.dat (.h 0 3) E160,.kill 1,.dat (.h 0 4) E9,.kill 2,.dat (.h 0 5) E164,.kill 3],[.cell 4 36],[(.c 0 0,kI),(.c 0 1,kS),(.c 0 2,kI),(.c 0 3,.sl E9),(.h 0 0,kI),(.h 0 1,kS),(.h 0 2,kI),(.h 0 3,.sl E160),(.h 0 4,.sl E9),(.h 0 5,.sl E164)],⟨[.agg [U,U,U,U]],[[U,U,U,U,U,U],[deadB],[deadB],[deadB]]⟩⟩) (h:=(.s .z (.s .z (.jc ⟨80,[],[(.h 8 0,.blk E9)],[],(.b .f (.b .f (.b .f .l)))⟩ [.own (.h 0 4) E9 8] (.j ⟨131193,[],[(.t 17,kB)],[],.f⟩ .z (.s .z (.j ⟨17179869305,[],[(.t 34,kB)],[],.f⟩ .z (.s .z (.s .z (.s .z (.j ⟨1152921504606847089,[.b 4],[(.t 60,kB)],[],.f⟩ .z .z))))))) .z)))) (ms:=[(.b .f (.b .f .l)),(.b .f (.b .f .l)),.f,(.b .f (.b .f .l)),.l,.l,.l,.l,.f,.l]) (p:=((g217_m1 x0 x3 x9)=false→(((g217_m2 x0 x3 x9)=true→((0:Int)≤(g233_0 x9 x3)∧((g233_0 x9 x3):Int)≤((x9.n:Nat):Int)∧x9.n+1≤549755813888∧1=1))∧((g217_m2 x0 x3 x9)=false→((x0==11)=false→((g217_m3 x0 x3 x9)=true→((0:Int)≤(g233_0 x9 x3)∧((g233_0 x9 x3):Int)<(IntKind.i64.wrap ((g233_0 x9 x3)+1))∧((IntKind.i64.wrap ((g233_0 x9 x3)+1)):Int)≤((x9.n:Nat):Int)))))))) (mkXh_ok ⟨k187,k213,k231,k233,trivial⟩ ⟨k232,k234,trivial⟩) Tryz.func103 rfl rfl rfl (by kernel_rfl) ((fun h1=>⟨(fun h2=>(by have:=h1;simp [g217_m1]at this;have:=h2;(try simp [g217_m2]at this);have:=f233 x9 x3 (by omega);omega)),(fun h3=>(fun h4=>(fun h5=>(by have:=h1;simp [g217_m1]at this;have:=h3;simp [g217_m2]at this;have:=ne_of_beq_false h4;have:=m217a _ _ _ h5;have:=f233 x9 x3 (by omega);first|omega|(have:=wrap64 (x:=((g233_0 x9 x3)+1)) (by omega) (by omega);omega)))))⟩))
theorem k217:XHOk Tryz.prog 103 F217.ans:=Hq.ok ⟨_,_,Tryz.func103,rfl,by kernel_rfl⟩ (by kernel_rfl) pc217
noncomputable def g218_m1(x0:Int)(x3:ByteArray)(x10:Sl T164):Bool:=(bif(x0==16)then(decide ((g144 x10 x3)<0))else false)
noncomputable def g218_m2(x0:Int)(x3:ByteArray)(x10:Sl T164):Bool:=(bif(x0==14)then(bif(decide ((g144 x10 x3)<0))then(((x10.n:Nat):Int)==20)else false)else false)
noncomputable def g218_m3(x3:ByteArray)(x10:Sl T164):Sl T164:=(bif(decide ((g144 x10 x3)≥0))then(Sl.del x10 (Int.toNat (g144 x10 x3)) (Int.toNat (IntKind.i64.wrap ((g144 x10 x3)+1))))else x10)
noncomputable def g218_0(x0:Int)(x3:ByteArray)(x10:Sl T164):Int:=(bif(g218_m1 x0 x3 x10)then(g187_0 5)else(bif(x0==16)then g213_0 else(bif(g218_m2 x0 x3 x10)then(g187_0 6)else g213_0)))
noncomputable def g218_1(x0:Int)(x3:ByteArray)(x10:Sl T164):ByteArray:=(bif(g218_m1 x0 x3 x10)then g187_1 else(bif(x0==16)then g213_1 else(bif(g218_m2 x0 x3 x10)then g187_1 else g213_1)))
noncomputable def g218_2(x0:Int)(x3:ByteArray)(x10:Sl T164):Int:=(bif(g218_m1 x0 x3 x10)then g187_2 else(bif(x0==16)then(g213_2 (g144 x10 x3))else(bif(g218_m2 x0 x3 x10)then g187_2 else(bif(x0==15)then(g213_2 (g231 (decide ((g144 x10 x3)≥0))))else(g213_2 (g231 (decide ((g144 x10 x3)<0))))))))
noncomputable def g218_3(x0:Int)(x3:ByteArray)(x10:Sl T164):Sl ByteArray:=(bif(g218_m1 x0 x3 x10)then g187_3 else(bif(x0==16)then g213_3 else(bif(g218_m2 x0 x3 x10)then g187_3 else g213_3)))
noncomputable def g218_h0_5(x0:Int)(x3:ByteArray)(x4:Int)(x10:Sl T164):Sl T164:=(bif(g218_m1 x0 x3 x10)then x10 else(bif(x0==16)then x10 else(bif(g218_m2 x0 x3 x10)then x10 else(bif(x0==15)then(g218_m3 x3 x10)else(Sl.ins (g218_m3 x3 x10) (Int.toNat (g236_141_0 (g218_m3 x3 x10) x3 x4)) (⟨x3,x4⟩:T164))))))
theorem f144(x0:Sl T164)(x1:ByteArray)(hn:x0.n≤549755813888): -1≤g144 x0 x1∧g144 x0 x1<((x0.n:Nat):Int):=by
 have e:g197_201s_r1 x0 x1=scan (fun i=>g201s (x0.at' (Int.toNat i)).c0 x1) (fun i=>i) x0.n 0:=scan0 (fun k i=>g197_201s_l1 x0 x1 k i) x0.n _ _ hn fun _ _=>rfl
 unfold g144 g197_201s g197_201s_p2
 rw[e]
 cases h:(scan (fun i=>g201s (x0.at' (Int.toNat i)).c0 x1) (fun i=>i) x0.n 0).1 with
 |true=>
  obtain⟨j,h1,h2,_,h4⟩:=scan_snd _ _ h
  show-1≤(scan _ _ _ _).2∧(scan _ _ _ _).2<_
  rw[h4];omega
 |false=>show-1≤(-1:Int)∧(-1:Int)<_;omega
theorem f218m(x3:ByteArray)(x10:Sl T164)(hn:x10.n≤549755813888):((g218_m3 x3 x10).n:Int)≤((x10.n:Nat):Int):=by
 unfold g218_m3
 cases decide (g144 x10 x3≥0)
 ·exact Int.le_refl _
 ·show(((Sl.del x10 _ _).n:Nat):Int)≤_
  unfold Sl.del
  simp only[]
  omega
noncomputable def F218:Hq:=⟨[.p 0,.g [kI,kS,kS,kS,kI]],[(.h 0 0,kI),(.h 0 1,kS),(.h 0 2,kI),(.h 1 0,.blk E160),(.h 2 0,.blk E9),(.h 3 0,.blk E164)],[[U,U,U,.own 1 0,.own 2 0,.own 3 0],[U],[U],[U]],fun(x0:Int) _ _ x3 (x4:Int) (x5:Int) x6 (x7:Int) x8 x9 x10=>⟨⟨some (x10.n≤1000000),[.agg [.int .i64 (g218_0 x0 x3 x10),.str (g218_1 x0 x3 x10),.int .i64 (g218_2 x0 x3 x10),ofSl 1 e9 (g218_3 x0 x3 x10)]],[[.int .i64 x5,.str x6,.int .i64 x7,ofSl 2 e160 x8,ofSl 1 e9 x9,ofSl 2 e164 (g218_h0_5 x0 x3 x4 x10)],[deadB],[deadB],[deadB]]⟩⟩⟩
theorem pc218:HqOk Tryz.prog 104 F218 _ (F218.sh.flatMap Sh.bs) F218.f []:=
 fun(x0:Int) x1 n1 x2 n2 x3 n3 (x4:Int) (x5:Int) x6 n6 (x7:Int) x8 n8 x9 n9 x10 n10 hp=>heap_of_exec (X:=(mkXh 4 [(75,F144.ans),(83,F187.ans),(99,F213.ans),(118,F231.ans),(123,F236_141.ans)] [(122,F235.ans),(124,F237.ans)])) (R:=⟨.hp2 true [] [.dat (.h 0 3) E160,.kill 1,.dat (.h 0 4) E9,.kill 2,.dat (.h 0 5) E164,.kill 3],[.cell 4 36],[(.c 0 0,kI),(.c 0 1,kS),(.c 0 2,kI),(.c 0 3,.sl E9),(.h 0 0,kI),(.h 0 1,kS),(.h 0 2,kI),(.h 0 3,.sl E160),(.h 0 4,.sl E9),(.h 0 5,.sl E164)],⟨[.agg [U,U,U,U]],[[U,U,U,U,U,U],[deadB],[deadB],[deadB]]⟩⟩) (h:=(.s .z (.s .z (.s (.j ⟨65593,[],[(.t 16,kB)],[],.f⟩ .z (.s .z (.s .z (.s .z (.j ⟨2147483705,[],[(.t 31,kB)],[],.f⟩ .z .z))))) (.jc ⟨57,[],[(.h 8 0,.blk E164)],[],.f⟩ [.own (.h 0 5) E164 8] .z .z))))) (ms:=[(.b .f (.b .f (.b .f .l))),(.b .f (.b .f (.b .f .l))),.f,(.b .f (.b .f (.b .f .l))),.l,.l,.l,.l,.l,.f]) (p:=((g218_m1 x0 x3 x10)=false→((x0==16)=false→((g218_m2 x0 x3 x10)=false→(((decide ((g144 x10 x3)≥0))=true→((0:Int)≤(g144 x10 x3)∧((g144 x10 x3):Int)<(IntKind.i64.wrap ((g144 x10 x3)+1))∧((IntKind.i64.wrap ((g144 x10 x3)+1)):Int)≤((x10.n:Nat):Int)))∧((x0==15)=false→((0:Int)≤(g236_141_0 (g218_m3 x3 x10) x3 x4)∧((g236_141_0 (g218_m3 x3 x10) x3 x4):Int)≤(((g218_m3 x3 x10).n:Nat):Int)∧(g218_m3 x3 x10).n+1≤549755813888∧1=1))))))) (mkXh_ok ⟨k144,k187,k213,k231,k236_141,trivial⟩ ⟨k235,k237,trivial⟩) Tryz.func104 rfl rfl rfl (by kernel_rfl) ((fun h1=>(fun h2=>(fun h3=>⟨(fun h4=>(by have:=h1;simp [g218_m1]at this;have:=ne_of_beq_false h2;have:=h3;simp [g218_m2]at this;have:=of_decide_eq_true h4;have:=f144 x10 x3 (by omega);first|omega|(have:=wrap64 (x:=((g144 x10 x3)+1)) (by omega) (by omega);omega))),(fun h5=>(by have:=h1;simp [g218_m1]at this;have:=ne_of_beq_false h2;have:=h3;simp [g218_m2]at this;have:=ne_of_beq_false h5;have:=f218m x3 x10 (by omega);have:=f236_141 (g218_m3 x3 x10) x3 x4 (by omega);omega))⟩))))
theorem k218:XHOk Tryz.prog 104 F218.ans:=Hq.ok ⟨_,_,Tryz.func104,rfl,by kernel_rfl⟩ (by kernel_rfl) pc218
end Go.Proofs.YtfbpilmhnpkfhaaGreatDoor
/-
  Walks: what functions of the program answer, as functions.
-/
namespace Go.Proofs.YtfbpilmhnpkfhaaGreatDoor
open Go Go.Vc Go.RowKit
set_option maxRecDepth 100000
set_option maxHeartbeats 4000000
noncomputable def g188_0(x0:Int)(x2:ByteArray)(x3:ByteArray)(x4:Int)(x5:Int)(x7:Int)(x8:Sl T160)(x9:Sl ByteArray)(x10:Sl T164):Int:=(bif(x0==1)then g213_0 else(bif(x0==2)then 0 else(bif(x0==3)then(bif(!(g117 (IntKind.i64.wrap (x7+x4))))then(g187_0 7)else g213_0)else(bif(x0==17)then g213_0 else(bif(x0==18)then 0 else(bif(x5==3)then(g215_0 x0 x2 x8)else(bif(x5==4)then(g216_0 x0 x9)else(bif(x5==5)then(g217_0 x0 x3 x9)else(g218_0 x0 x3 x10)))))))))
noncomputable def g188_1(x0:Int)(x2:ByteArray)(x3:ByteArray)(x4:Int)(x5:Int)(x6:ByteArray)(x7:Int)(x8:Sl T160)(x9:Sl ByteArray)(x10:Sl T164):ByteArray:=(bif(x0==1)then g213_1 else(bif(x0==2)then x6 else(bif(x0==3)then(bif(!(g117 (IntKind.i64.wrap (x7+x4))))then g187_1 else g213_1)else(bif(x0==17)then g213_1 else(bif(x0==18)then⟨#[]⟩else(bif(x5==3)then(g215_1 x0 x2 x8)else(bif(x5==4)then(g216_1 x0 x9)else(bif(x5==5)then(g217_1 x0 x3 x9)else(g218_1 x0 x3 x10)))))))))
noncomputable def g188_2(x0:Int)(x2:ByteArray)(x3:ByteArray)(x4:Int)(x5:Int)(x7:Int)(x8:Sl T160)(x9:Sl ByteArray)(x10:Sl T164):Int:=(bif(x0==1)then(g213_2 0)else(bif(x0==2)then 0 else(bif(x0==3)then(bif(!(g117 (IntKind.i64.wrap (x7+x4))))then g187_2 else(g213_2 (IntKind.i64.wrap (x7+x4))))else(bif(x0==17)then(g213_2 (g131 x8 x9 x10))else(bif(x0==18)then 0 else(bif(x5==3)then(g215_2 x0 x2 x8)else(bif(x5==4)then(g216_2 x0 x9)else(bif(x5==5)then(g217_2 x0 x3 x9)else(g218_2 x0 x3 x10)))))))))
noncomputable def g188_3(x0:Int)(x2:ByteArray)(x3:ByteArray)(x4:Int)(x5:Int)(x7:Int)(x8:Sl T160)(x9:Sl ByteArray)(x10:Sl T164):Sl ByteArray:=(bif(x0==1)then g213_3 else(bif(x0==2)then(nilSl:Sl ByteArray)else(bif(x0==3)then(bif(!(g117 (IntKind.i64.wrap (x7+x4))))then g187_3 else g213_3)else(bif(x0==17)then g213_3 else(bif(x0==18)then(g214 x8 x9 x10)else(bif(x5==3)then(g215_3 x0 x2 x8)else(bif(x5==4)then(g216_3 x0 x9)else(bif(x5==5)then(g217_3 x0 x3 x9)else(g218_3 x0 x3 x10)))))))))
noncomputable def g188_h0_0(x0:Int)(x5:Int):Int:=(bif(x0==1)then 1 else x5)
noncomputable def g188_h0_1(x0:Int)(x3:ByteArray)(x6:ByteArray):ByteArray:=(bif(x0==1)then x3 else x6)
noncomputable def g188_h0_2(x0:Int)(x4:Int)(x7:Int):Int:=(bif(x0==1)then 0 else(bif(x0==2)then x7 else(bif(x0==3)then(bif(!(g117 (IntKind.i64.wrap (x7+x4))))then x7 else(IntKind.i64.wrap (x7+x4)))else x7)))
noncomputable def g188_h0_3(x0:Int)(x2:ByteArray)(x3:ByteArray)(x5:Int)(x8:Sl T160):Sl T160:=(bif(x0==1)then(nilSl:Sl T160)else(bif(x0==2)then x8 else(bif(x0==3)then x8 else(bif(x0==17)then x8 else(bif(x0==18)then x8 else(bif(x5==3)then(g215_h0_3 x0 x2 x3 x8)else x8))))))
noncomputable def g188_h0_4(x0:Int)(x3:ByteArray)(x5:Int)(x9:Sl ByteArray):Sl ByteArray:=(bif(x0==1)then(nilSl:Sl ByteArray)else(bif(x0==2)then x9 else(bif(x0==3)then x9 else(bif(x0==17)then x9 else(bif(x0==18)then x9 else(bif(x5==3)then x9 else(bif(x5==4)then(g216_h0_4 x0 x3 x9)else(bif(x5==5)then(g217_h0_4 x0 x3 x9)else x9))))))))
noncomputable def g188_h0_5(x0:Int)(x3:ByteArray)(x4:Int)(x5:Int)(x10:Sl T164):Sl T164:=(bif(x0==1)then(nilSl:Sl T164)else(bif(x0==2)then x10 else(bif(x0==3)then x10 else(bif(x0==17)then x10 else(bif(x0==18)then x10 else(bif(x5==3)then x10 else(bif(x5==4)then x10 else(bif(x5==5)then x10 else(g218_h0_5 x0 x3 x4 x10)))))))))
noncomputable def F188:Hq:=⟨[.p 0,.g [kI,kS,kS,kS,kI]],[(.h 0 0,kI),(.h 0 1,kS),(.h 0 2,kI),(.h 1 0,.blk E160),(.h 2 0,.blk E9),(.h 3 0,.blk E164)],[[U,U,U,.own 1 0,.own 2 0,.own 3 0],[U],[U],[U]],fun(x0:Int) _ x2 x3 (x4:Int) (x5:Int) x6 (x7:Int) x8 x9 x10=>⟨⟨some (x8.n≤1000000∧x9.n≤1000000∧x10.n≤1000000∧(x5≠4∨(7≤x0∧x0≤8)∨1≤x9.n)),[.agg [.int .i64 (g188_0 x0 x2 x3 x4 x5 x7 x8 x9 x10),.str (g188_1 x0 x2 x3 x4 x5 x6 x7 x8 x9 x10),.int .i64 (g188_2 x0 x2 x3 x4 x5 x7 x8 x9 x10),ofSl 1 e9 (g188_3 x0 x2 x3 x4 x5 x7 x8 x9 x10)]],[[.int .i64 (g188_h0_0 x0 x5),.str (g188_h0_1 x0 x3 x6),.int .i64 (g188_h0_2 x0 x4 x7),ofSl 2 e160 (g188_h0_3 x0 x2 x3 x5 x8),ofSl 1 e9 (g188_h0_4 x0 x3 x5 x9),ofSl 2 e164 (g188_h0_5 x0 x3 x4 x5 x10)],[deadB],[deadB],[deadB]]⟩⟩⟩
theorem pc188:HqOk Tryz.prog 84 F188 _ (F188.sh.flatMap Sh.bs) F188.f []:=
 fun(x0:Int) x1 n1 x2 n2 x3 n3 (x4:Int) (x5:Int) x6 n6 (x7:Int) x8 n8 x9 n9 x10 n10 hp=>heap_of_exec (X:=(mkXh 4 [(48,F117.ans),(62,F131.ans),(83,F187.ans),(99,F213.ans),(100,F214.ans)] [(101,F215.ans),(102,F216.ans),(103,F217.ans),(104,F218.ans)])) (R:=⟨.hp2 true [] [.dat (.h 0 3) E160,.kill 1,.dat (.h 0 4) E9,.kill 2,.dat (.h 0 5) E164,.kill 3],[.cell 4 36],[(.c 0 0,kI),(.c 0 1,kS),(.c 0 2,kI),(.c 0 3,.sl E9),(.h 0 0,kI),(.h 0 1,kS),(.h 0 2,kI),(.h 0 3,.sl E160),(.h 0 4,.sl E9),(.h 0 5,.sl E164)],⟨[.agg [U,U,U,U]],[[U,U,U,U,U,U],[deadB],[deadB],[deadB]]⟩⟩) (h:= .z) (ms:=[.f,.f,.f,.f,(.b .f .l),(.b .f .l),(.b .f (.b .f (.b .f .l))),(.b .f (.b .f (.b .l (.b .f (.b .f (.b .f .l)))))),(.b .f (.b .f (.b .l .f))),(.b .f (.b .f (.b .l .f)))]) (p:=(((x0==1)=false→((x0==2)=false→((x0==3)=false→((x0==17)=false→((x0==18)=true→(x8.n≤100000000000∧x9.n≤100000000000∧x10.n≤100000000000))))))∧((x0==1)=false→((x0==2)=false→((x0==3)=false→((x0==17)=false→((x0==18)=false→((((x5==3)=true→(x8.n≤1000000))∧((x5==3)=false→(((x5==4)=true→(x9.n≤1000000∧((7≤x0∧x0≤8)∨1≤x9.n)))∧((x5==4)=false→((x5==5)=true→(x9.n≤1000000))))))∧((x5==3)=false→((x5==4)=false→((x5==5)=false→(x10.n≤1000000)))))))))))) (mkXh_ok ⟨k117,k131,k187,k213,k214,trivial⟩ ⟨k215,k216,k217,k218,trivial⟩) Tryz.func84 rfl rfl rfl (by kernel_rfl) (have⟨hq0,hq1,hq2,hq3⟩:=hp;⟨(fun h1=>(fun h2=>(fun h3=>(fun h4=>(fun h5=>(by have:=ne_of_beq_false h1;have:=ne_of_beq_false h2;have:=ne_of_beq_false h3;have:=ne_of_beq_false h4;have:=eq_of_beq h5;omega)))))),(fun h6=>(fun h7=>(fun h8=>(fun h9=>(fun h10=>⟨⟨(fun h11=>(by have:=ne_of_beq_false h6;have:=ne_of_beq_false h7;have:=ne_of_beq_false h8;have:=ne_of_beq_false h9;have:=ne_of_beq_false h10;have:=eq_of_beq h11;omega)),(fun h12=>⟨(fun h13=>(by have:=ne_of_beq_false h6;have:=ne_of_beq_false h7;have:=ne_of_beq_false h8;have:=ne_of_beq_false h9;have:=ne_of_beq_false h10;have:=ne_of_beq_false h12;have:=eq_of_beq h13;omega)),(fun h14=>(fun h15=>(by have:=ne_of_beq_false h6;have:=ne_of_beq_false h7;have:=ne_of_beq_false h8;have:=ne_of_beq_false h9;have:=ne_of_beq_false h10;have:=ne_of_beq_false h12;have:=ne_of_beq_false h14;have:=eq_of_beq h15;omega)))⟩)⟩,(fun h16=>(fun h17=>(fun h18=>(by have:=ne_of_beq_false h6;have:=ne_of_beq_false h7;have:=ne_of_beq_false h8;have:=ne_of_beq_false h9;have:=ne_of_beq_false h10;have:=ne_of_beq_false h16;have:=ne_of_beq_false h17;have:=ne_of_beq_false h18;omega))))⟩)))))⟩)
theorem k188:XHOk Tryz.prog 84 F188.ans:=Hq.ok ⟨_,_,Tryz.func84,rfl,by kernel_rfl⟩ (by kernel_rfl) pc188
end Go.Proofs.YtfbpilmhnpkfhaaGreatDoor
namespace Go.Proofs.YtfbpilmhnpkfhaaGreatDoor
open Go Go.Vc Go.RowKit
set_option maxRecDepth 100000
set_option maxHeartbeats 4000000
structure VSep (x0:Int) (x1:ByteArray) (x2:Int) (s3:Sl T160) (s4:Sl ByteArray) (s5:Sl T164):Prop where
 k:1≤x0∧x0≤6
 t:x0≠1→x1=⟨#[]⟩
 i:x0≠2→x2=0
 a3:x0≠3→s3.n=0
 a4:x0≠4→x0≠5→s4.n=0
 a5:x0≠6→s5.n=0
 b3:x0=3→1≤s3.n∧s3.n≤20
 b4:x0=4∨x0=5→1≤s4.n∧s4.n≤20
 b5:x0=6→1≤s5.n∧s5.n≤20
theorem ba_nil{x:ByteArray}(h:(!(x.toList==(⟨#[]⟩:ByteArray).toList))=false):x=⟨#[]⟩:=by
 have h:x.toList=(⟨#[]⟩:ByteArray).toList:=by simpa using h
 have h2:x.data.toList=[]:=by
  have e: ∀y:ByteArray,y.toList=y.data.toList:=fun y=>ByteArray.toList_eq y
  rw[e,e]at h;exact h
 cases x with
 |mk d=>cases d with
  |mk l=>simp at h2;subst h2;rfl
theorem sep72(x0:Int)(x1:ByteArray)(x2:Int)(s3:Sl T160)(s4:Sl ByteArray)(s5:Sl T164)(h3:s3.n≤1048576)(h4:s4.n≤1048576)(h5:s5.n≤1048576)(h:g72 x0 x1 x2 s3 s4 s5=0):VSep x0 x1 x2 s3 s4 s5:=by
 unfold g72 at h
 obtain⟨a1,h⟩:=bz h (by decide)
 obtain⟨a2,h⟩:=bz h (by decide)
 obtain⟨a3,_⟩:=bz h (by decide)
 unfold g72_m1 at a1
 obtain⟨b1,b2⟩:=bt a1
 have c1:=df b1
 have c2:=df b2
 unfold g72_m7 g72_m2 g72_m3 g72_m4 g72_m5 g72_m6 at a2
 obtain⟨d1,a2⟩:=bt a2
 obtain⟨d2,a2⟩:=bt a2
 unfold g72_m8 at a3
 have k:x0=1∨x0=2∨x0=3∨x0=4∨x0=5∨x0=6:=by omega
 have z3:(nilSl:Sl T160).n=0:=rfl
 have z4:(nilSl:Sl ByteArray).n=0:=rfl
 have z5:(nilSl:Sl T164).n=0:=rfl
 have a2:=df a2
 have c3:3≤x0→ ¬(g131 s3 s4 s5<1)∧ ¬(g131 s3 s4 s5>20):=fun hx=>by
  rw[decide_eq_true (show x0≥3 by omega)]at a3
  obtain⟨e1,e2⟩:=bt a3
  exact⟨df e1,df e2⟩
 rw[sum_eq _ _ _ h3 h4 h5]at c3
 have t1:x0≠1→x1=⟨#[]⟩:=fun hx=>by
  rw[show(x0==1)=false from beq_eq_false_iff_ne.2 hx]at d1
  exact ba_nil d1
 have t2:x0≠2→x2=0:=fun hx=>by
  rw[show(x0==2)=false from beq_eq_false_iff_ne.2 hx]at d2
  have d2:=bne_eq_false_iff_eq.1 d2
  revert d2
  cases (x0==1)<;>exact id
 rcases k with e|e|e|e|e|e<;>subst e<;>
 simp only[beq_self_eq_true,Int.reduceBEq,cond_true,cond_false]at a2<;>
 rw[sum_eq _ _ _ (by omega) (by omega) (by omega)]at a2<;>
 exact⟨by omega,t1,t2,by omega,by omega,by omega,by omega,by omega,by omega⟩
end Go.Proofs.YtfbpilmhnpkfhaaGreatDoor
/-
  Walks: what functions of the program answer, as functions.
-/
namespace Go.Proofs.YtfbpilmhnpkfhaaGreatDoor
open Go Go.Vc Go.RowKit
set_option maxRecDepth 100000
set_option maxHeartbeats 4000000
noncomputable def g191_l2(x0:Sl ByteArray)(x1:Sl ByteArray):Nat→Int→Bool×Bool
 |0,_=>default
 |k+1,v2_0=>(bif(decide (v2_0<(x0.n:Int)))then(bif(!(((x0.at' (Int.toNat v2_0)):ByteArray).toList==((x1.at' (Int.toNat v2_0)):ByteArray).toList))then(true,false)else(g191_l2 x0 x1 k (IntKind.i64.wrap (v2_0+1))))else(false,default))
noncomputable def g191_r1(x0:Sl ByteArray)(x1:Sl ByteArray):Bool×Bool:=g191_l2 x0 x1 ((Int.toNat ((x0.n:Int)-0))+1) 0
noncomputable def g191_p2(x0:Sl ByteArray)(x1:Sl ByteArray):Bool:=(bif(g191_r1 x0 x1).1 then false else true)
noncomputable def g191(x0:Sl ByteArray)(x1:Sl ByteArray):Bool:=(bif((x0.n:Int)!=(x1.n:Int))then false else(bif(g191_p2 x0 x1)then true else(g191_r1 x0 x1).2))
noncomputable def F191:Fq:=⟨[.v (.sl E9),.v (.sl E9)],fun x0 x1=>⟨⟨none,.bool (g191 x0 x1)⟩⟩⟩
theorem pc191:FnOk Tryz.prog 24 F191.sh _ (F191.sh.flatMap Sh.bs) F191.f []:=
 fun x0 n0 _ x1 n1 _=>pure_of_exec (X:=X0) (R:=⟨.pure,[.tmp 4],[(.t 0,kB)],⟨[U],[]⟩⟩) (h:=(.s .z (.s .z (.j ⟨16,[],[],[],.f⟩ (.s .z (.lp ⟨51,[],[],[(.t 5,kI)],some 0,true,16,[],[],fun k (s:Int)=>g191_l2 x0 x1 k s,.f,fun(s:Int)=>(0≤s∧s≤(x0.n:Int)),fun(s:Int)=>(Int.toNat ((x0.n:Int)-s)),none⟩ .z)) .z)))) (ms:=[]) (p:=(((x0.n:Int)!=(x1.n:Int))=false→(((0≤(0:Int)∧(0:Int)≤(x0.n:Int)))∧(∀(v2_0:Int),(0≤v2_0∧v2_0≤(x0.n:Int))→(((decide (v2_0<(x0.n:Int)))=true→(((0:Int)≤v2_0∧v2_0<((x0.n:Nat):Int))∧((0:Int)≤v2_0∧v2_0<((x1.n:Nat):Int))))∧((decide (v2_0<(x0.n:Int)))=true→((!(((x0.at' (Int.toNat v2_0)):ByteArray).toList==((x1.at' (Int.toNat v2_0)):ByteArray).toList))=false→((0≤(IntKind.i64.wrap (v2_0+1))∧(IntKind.i64.wrap (v2_0+1))≤(x0.n:Int))∧(Int.toNat ((x0.n:Int)- (IntKind.i64.wrap (v2_0+1))))<(Int.toNat ((x0.n:Int)-v2_0)))))))))) X0_ok Tryz.func24 rfl rfl (by kernel_rfl) ((fun h1=>⟨(by have:=bne_eq_false_iff_eq.1 h1;omega),(fun v2_0 hI2=>⟨(fun h3=>⟨(by have:=bne_eq_false_iff_eq.1 h1;have:=of_decide_eq_true h3;omega),(by have:=bne_eq_false_iff_eq.1 h1;have:=of_decide_eq_true h3;omega)⟩),(fun h4=>(fun h5=>(by have:=bne_eq_false_iff_eq.1 h1;have:=of_decide_eq_true h4;first|omega|(have:=wrap64 (x:=(v2_0+1)) (by omega) (by omega);omega))))⟩)⟩))
theorem k191:XOk Tryz.prog 24 F191.ans:=Fq.ok ⟨_,_,Tryz.func24,rfl,by kernel_rfl⟩ pc191
noncomputable def g103_m1(x0:Int)(x1:ByteArray)(x2:Int)(x3:Sl T160)(x4:Sl ByteArray)(x5:Sl T164)(x6:Int)(x7:ByteArray)(x8:Int)(x9:Sl T160)(x10:Sl ByteArray)(x11:Sl T164):Bool:=(bif(x0 !=x6)then true else(bif(!((x1:ByteArray).toList==(x7:ByteArray).toList))then true else(bif(x2 !=x8)then true else(bif((x3.n:Int)!=(x9.n:Int))then true else(bif((x5.n:Int)!=(x11.n:Int))then true else(!(g191 x4 x10)))))))
noncomputable def g103_l8(x3:Sl T160)(x9:Sl T160):Nat→Int→Bool×Bool
 |0,_=>default
 |k+1,v8_0=>(bif(decide (v8_0<(x3.n:Int)))then(bif(!((((x3.at' (Int.toNat v8_0)).c0:ByteArray).toList==((x9.at' (Int.toNat v8_0)).c0:ByteArray).toList)&&((((x3.at' (Int.toNat v8_0)).c1:ByteArray).toList==((x9.at' (Int.toNat v8_0)).c1:ByteArray).toList)&&true)))then(true,false)else(g103_l8 x3 x9 k (IntKind.i64.wrap (v8_0+1))))else(false,default))
noncomputable def g103_r2(x3:Sl T160)(x9:Sl T160):Bool×Bool:=g103_l8 x3 x9 ((Int.toNat ((x3.n:Int)-0))+1) 0
noncomputable def g103_p3(x3:Sl T160)(x9:Sl T160):Bool:=(bif(g103_r2 x3 x9).1 then false else true)
noncomputable def g103_l15(x5:Sl T164)(x11:Sl T164):Nat→Int→Bool×Bool
 |0,_=>default
 |k+1,v15_0=>(bif(decide (v15_0<(x5.n:Int)))then(bif(!((((x5.at' (Int.toNat v15_0)).c0:ByteArray).toList==((x11.at' (Int.toNat v15_0)).c0:ByteArray).toList)&&(((x5.at' (Int.toNat v15_0)).c1==(x11.at' (Int.toNat v15_0)).c1)&&true)))then(true,false)else(g103_l15 x5 x11 k (IntKind.i64.wrap (v15_0+1))))else(false,default))
noncomputable def g103_r4(x5:Sl T164)(x11:Sl T164):Bool×Bool:=g103_l15 x5 x11 ((Int.toNat ((x5.n:Int)-0))+1) 0
noncomputable def g103_p5(x5:Sl T164)(x11:Sl T164):Bool:=(bif(g103_r4 x5 x11).1 then false else true)
noncomputable def g103(x0:Int)(x1:ByteArray)(x2:Int)(x3:Sl T160)(x4:Sl ByteArray)(x5:Sl T164)(x6:Int)(x7:ByteArray)(x8:Int)(x9:Sl T160)(x10:Sl ByteArray)(x11:Sl T164):Bool:=(bif(g103_m1 x0 x1 x2 x3 x4 x5 x6 x7 x8 x9 x10 x11)then false else(bif(g103_p3 x3 x9)then(bif(g103_p5 x5 x11)then true else(g103_r4 x5 x11).2)else(g103_r2 x3 x9).2))
noncomputable def F103:Fq:=⟨[.g [kI,kS,kI,.sl E160,.sl E9,.sl E164],.g [kI,kS,kI,.sl E160,.sl E9,.sl E164]],fun x0 x1 x2 x3 x4 x5 x6 x7 x8 x9 x10 x11=>⟨⟨none,.bool (g103 x0 x1 x2 x3 x4 x5 x6 x7 x8 x9 x10 x11)⟩⟩⟩
theorem pc103:FnOk Tryz.prog 42 F103.sh _ (F103.sh.flatMap Sh.bs) F103.f []:=
 fun(x0:Int) x1 n1 (x2:Int) x3 n3 _ x4 n4 _ x5 n5 _ (x6:Int) x7 n7 (x8:Int) x9 n9 _ x10 n10 _ x11 n11 _=>pure_of_exec (X:=(mkX [(24,F191.ans)])) (R:=⟨.pure,[.tmp 4],[(.t 0,kB)],⟨[U],[]⟩⟩) (h:=(.s .z (.s (.j ⟨2251799813685276,[],[(.t 51,kB)],[],.f⟩ .z .z) (.j ⟨28,[],[],[],.f⟩ (.s .z (.lp ⟨60,[],[],[(.t 5,kI)],some 0,true,28,[],[],fun k (s:Int)=>g103_l8 x3 x9 k s,.f,fun(s:Int)=>(0≤s∧s≤(x3.n:Int)),fun(s:Int)=>(Int.toNat ((x3.n:Int)-s)),none⟩ .z)) (.j ⟨16,[],[],[],.f⟩ (.s .z (.lp ⟨92,[],[],[(.t 6,kI)],some 2,true,16,[.b 0,.b 1],[],fun k (s:Int)=>g103_l15 x5 x11 k s,.f,fun(s:Int)=>(0≤s∧s≤(x5.n:Int)),fun(s:Int)=>(Int.toNat ((x5.n:Int)-s)),none⟩ .z)) .z))))) (ms:=[]) (p:=((g103_m1 x0 x1 x2 x3 x4 x5 x6 x7 x8 x9 x10 x11)=false→((((0≤(0:Int)∧(0:Int)≤(x3.n:Int)))∧(∀(v8_0:Int),(0≤v8_0∧v8_0≤(x3.n:Int))→(((decide (v8_0<(x3.n:Int)))=true→(((0:Int)≤v8_0∧v8_0<((x3.n:Nat):Int))∧((0:Int)≤v8_0∧v8_0<((x9.n:Nat):Int))))∧((decide (v8_0<(x3.n:Int)))=true→((!((((x3.at' (Int.toNat v8_0)).c0:ByteArray).toList==((x9.at' (Int.toNat v8_0)).c0:ByteArray).toList)&&((((x3.at' (Int.toNat v8_0)).c1:ByteArray).toList==((x9.at' (Int.toNat v8_0)).c1:ByteArray).toList)&&true)))=false→((0≤(IntKind.i64.wrap (v8_0+1))∧(IntKind.i64.wrap (v8_0+1))≤(x3.n:Int))∧(Int.toNat ((x3.n:Int)- (IntKind.i64.wrap (v8_0+1))))<(Int.toNat ((x3.n:Int)-v8_0))))))))∧((g103_p3 x3 x9)=true→(((0≤(0:Int)∧(0:Int)≤(x5.n:Int)))∧(∀(v15_0:Int),(0≤v15_0∧v15_0≤(x5.n:Int))→(((decide (v15_0<(x5.n:Int)))=true→(((0:Int)≤v15_0∧v15_0<((x5.n:Nat):Int))∧((0:Int)≤v15_0∧v15_0<((x11.n:Nat):Int))))∧((decide (v15_0<(x5.n:Int)))=true→((!((((x5.at' (Int.toNat v15_0)).c0:ByteArray).toList==((x11.at' (Int.toNat v15_0)).c0:ByteArray).toList)&&(((x5.at' (Int.toNat v15_0)).c1==(x11.at' (Int.toNat v15_0)).c1)&&true)))=false→((0≤(IntKind.i64.wrap (v15_0+1))∧(IntKind.i64.wrap (v15_0+1))≤(x5.n:Int))∧(Int.toNat ((x5.n:Int)- (IntKind.i64.wrap (v15_0+1))))<(Int.toNat ((x5.n:Int)-v15_0)))))))))))) (mkX_ok ⟨k191,trivial⟩) Tryz.func42 rfl rfl (by kernel_rfl) ((fun h1=>⟨⟨(by have:=h1;simp [g103_m1]at this;omega),(fun v8_0 hI2=>⟨(fun h3=>⟨(by have:=h1;simp [g103_m1]at this;have:=of_decide_eq_true h3;omega),(by have:=h1;simp [g103_m1]at this;have:=of_decide_eq_true h3;omega)⟩),(fun h4=>(fun h5=>(by have:=h1;simp [g103_m1]at this;have:=of_decide_eq_true h4;first|omega|(have:=wrap64 (x:=(v8_0+1)) (by omega) (by omega);omega))))⟩)⟩,(fun h6=>⟨(by have:=h1;simp [g103_m1]at this;omega),(fun v15_0 hI7=>⟨(fun h8=>⟨(by have:=h1;simp [g103_m1]at this;have:=of_decide_eq_true h8;omega),(by have:=h1;simp [g103_m1]at this;have:=of_decide_eq_true h8;omega)⟩),(fun h9=>(fun h10=>(by have:=h1;simp [g103_m1]at this;have:=of_decide_eq_true h9;first|omega|(have:=wrap64 (x:=(v15_0+1)) (by omega) (by omega);omega))))⟩)⟩)⟩))
theorem k103:XOk Tryz.prog 42 F103.ans:=Fq.ok ⟨_,_,Tryz.func42,rfl,by kernel_rfl⟩ pc103
noncomputable def g104_m1(x0:Int)(x1:ByteArray)(x2:Int)(x3:Sl ByteArray)(x4:Int)(x5:ByteArray)(x6:Int)(x7:Sl ByteArray):Bool:=(bif(x0==x4)then(bif((x1:ByteArray).toList==(x5:ByteArray).toList)then(bif(x2==x6)then(g191 x3 x7)else false)else false)else false)
noncomputable def g104(x0:Int)(x1:ByteArray)(x2:Int)(x3:Sl ByteArray)(x4:Int)(x5:ByteArray)(x6:Int)(x7:Sl ByteArray):Bool:=(g104_m1 x0 x1 x2 x3 x4 x5 x6 x7)
noncomputable def F104:Fq:=⟨[.g [kI,kS,kI,.sl E9],.g [kI,kS,kI,.sl E9]],fun x0 x1 x2 x3 x4 x5 x6 x7=>⟨⟨none,.bool (g104 x0 x1 x2 x3 x4 x5 x6 x7)⟩⟩⟩
theorem pc104:FnOk Tryz.prog 8 F104.sh _ (F104.sh.flatMap Sh.bs) F104.f []:=
 fun(x0:Int) x1 _ (x2:Int) x3 _ _ (x4:Int) x5 _ (x6:Int) x7 _ _=>pure_of_exec (X:=(mkX [(24,F191.ans)])) (R:=⟨.pure,[.tmp 4],[(.t 0,kB)],⟨[U],[]⟩⟩) (h:=(.s .z (.j ⟨16,[.b 0,.b 1],[(.t 4,kB)],[],.f⟩ .z .z))) (ms:=[]) (p:=True) (mkX_ok ⟨k191,trivial⟩) Tryz.func8 rfl rfl (by kernel_rfl) (trivial)
theorem k104:XOk Tryz.prog 8 F104.ans:=Fq.ok ⟨_,_,Tryz.func8,rfl,by kernel_rfl⟩ pc104
noncomputable def g105_m1(x0:Int)(x1:Sl T175)(x2:Int)(x3:Sl T175):Bool:=(bif(x0 !=x2)then true else((x1.n:Int)!=(x3.n:Int)))
noncomputable def g105_m5(x1:Sl T175)(x3:Sl T175)(v4_0:Int):Bool:=(bif(!(((x1.at' (Int.toNat v4_0)).c0:ByteArray).toList==((x3.at' (Int.toNat v4_0)).c0:ByteArray).toList))then true else(bif((x1.at' (Int.toNat v4_0)).c7 !=(x3.at' (Int.toNat v4_0)).c7)then true else(!(g103 (x1.at' (Int.toNat v4_0)).c1 (x1.at' (Int.toNat v4_0)).c2 (x1.at' (Int.toNat v4_0)).c3 (x1.at' (Int.toNat v4_0)).c4 (x1.at' (Int.toNat v4_0)).c5 (x1.at' (Int.toNat v4_0)).c6 (x3.at' (Int.toNat v4_0)).c1 (x3.at' (Int.toNat v4_0)).c2 (x3.at' (Int.toNat v4_0)).c3 (x3.at' (Int.toNat v4_0)).c4 (x3.at' (Int.toNat v4_0)).c5 (x3.at' (Int.toNat v4_0)).c6))))
noncomputable def g105_l4(x1:Sl T175)(x3:Sl T175):Nat→Int→Bool×Bool
 |0,_=>default
 |k+1,v4_0=>(bif(decide (v4_0<(x1.n:Int)))then(bif(g105_m5 x1 x3 v4_0)then(true,false)else(g105_l4 x1 x3 k (IntKind.i64.wrap (v4_0+1))))else(false,default))
noncomputable def g105_r6(x1:Sl T175)(x3:Sl T175):Bool×Bool:=g105_l4 x1 x3 ((Int.toNat ((x1.n:Int)-0))+1) 0
noncomputable def g105_p7(x1:Sl T175)(x3:Sl T175):Bool:=(bif(g105_r6 x1 x3).1 then false else true)
noncomputable def g105(x0:Int)(x1:Sl T175)(x2:Int)(x3:Sl T175):Bool:=(bif(g105_m1 x0 x1 x2 x3)then false else(bif(g105_p7 x1 x3)then true else(g105_r6 x1 x3).2))
noncomputable def F105:Fq:=⟨[.g [kI,.sl E175],.g [kI,.sl E175]],fun x0 x1 x2 x3=>⟨⟨none,.bool (g105 x0 x1 x2 x3)⟩⟩⟩
theorem pc105:FnOk Tryz.prog 23 F105.sh _ (F105.sh.flatMap Sh.bs) F105.f []:=
 fun(x0:Int) x1 n1 _ (x2:Int) x3 n3 _=>pure_of_exec (X:=(mkX [(42,F103.ans)])) (R:=⟨.pure,[.tmp 4],[(.t 0,kB)],⟨[U],[]⟩⟩) (h:=(.s .z (.s (.j ⟨2097180,[],[(.t 21,kB)],[],.f⟩ .z .z) (.j ⟨16,[],[],[],.f⟩ (.s .z (.lp ⟨60,[],[],[(.t 5,kI)],some 0,true,16,[.b 0,.b 1],[],fun k (s:Int)=>g105_l4 x1 x3 k s,.f,fun(s:Int)=>(0≤s∧s≤(x1.n:Int)),fun(s:Int)=>(Int.toNat ((x1.n:Int)-s)),none⟩ (.s .z (.s (.s .z (.s .z (.j ⟨291643259837481212,[],[(.t 44,kB),(.t 50,kB),(.t 51,kB),(.t 58,kB)],[(.b .f .l),(.b .f .l),.f,.f],.f⟩ .z .z))) .z)))) .z)))) (ms:=[]) (p:=((g105_m1 x0 x1 x2 x3)=false→(((0≤(0:Int)∧(0:Int)≤(x1.n:Int)))∧(∀(v4_0:Int),(0≤v4_0∧v4_0≤(x1.n:Int))→(((decide (v4_0<(x1.n:Int)))=true→(((0:Int)≤v4_0∧v4_0<((x1.n:Nat):Int))∧((0:Int)≤v4_0∧v4_0<((x3.n:Nat):Int))))∧((decide (v4_0<(x1.n:Int)))=true→((g105_m5 x1 x3 v4_0)=false→((0≤(IntKind.i64.wrap (v4_0+1))∧(IntKind.i64.wrap (v4_0+1))≤(x1.n:Int))∧(Int.toNat ((x1.n:Int)- (IntKind.i64.wrap (v4_0+1))))<(Int.toNat ((x1.n:Int)-v4_0)))))))))) (mkX_ok ⟨k103,trivial⟩) Tryz.func23 rfl rfl (by kernel_rfl) ((fun h1=>⟨(by have:=h1;simp [g105_m1]at this;omega),(fun v4_0 hI2=>⟨(fun h3=>⟨(by have:=h1;simp [g105_m1]at this;have:=of_decide_eq_true h3;omega),(by have:=h1;simp [g105_m1]at this;have:=of_decide_eq_true h3;omega)⟩),(fun h4=>(fun h5=>(by have:=h1;simp [g105_m1]at this;have:=of_decide_eq_true h4;have:=h5;simp [g105_m5]at this;first|omega|(have:=wrap64 (x:=(v4_0+1)) (by omega) (by omega);omega))))⟩)⟩))
theorem k105:XOk Tryz.prog 23 F105.ans:=Fq.ok ⟨_,_,Tryz.func23,rfl,by kernel_rfl⟩ pc105
noncomputable def g34_m1(x0:Int)(x1:Sl T175)(x2:Int)(x3:Sl T137)(x4:Int)(x5:Sl T175)(x6:Int)(x7:Sl T137):Bool:=(bif(x2 !=x6)then true else(bif(!(g105 x0 x1 x4 x5))then true else((x3.n:Int)!=(x7.n:Int))))
noncomputable def g34_m7(x3:Sl T137)(x7:Sl T137)(v5_0:Int):Bool:=(bif((x3.at' (Int.toNat v5_0)).c0 !=(x7.at' (Int.toNat v5_0)).c0)then true else(bif((x3.at' (Int.toNat v5_0)).c1 !=(x7.at' (Int.toNat v5_0)).c1)then true else(bif((x3.at' (Int.toNat v5_0)).c2 !=(x7.at' (Int.toNat v5_0)).c2)then true else(!(g104 (x3.at' (Int.toNat v5_0)).c3 (x3.at' (Int.toNat v5_0)).c4 (x3.at' (Int.toNat v5_0)).c5 (x3.at' (Int.toNat v5_0)).c6 (x7.at' (Int.toNat v5_0)).c3 (x7.at' (Int.toNat v5_0)).c4 (x7.at' (Int.toNat v5_0)).c5 (x7.at' (Int.toNat v5_0)).c6)))))
noncomputable def g34_l5(x3:Sl T137)(x7:Sl T137):Nat→Int→Bool×Bool
 |0,_=>default
 |k+1,v5_0=>(bif(decide (v5_0<(x3.n:Int)))then(bif(g34_m7 x3 x7 v5_0)then(true,false)else(g34_l5 x3 x7 k (IntKind.i64.wrap (v5_0+1))))else(false,default))
noncomputable def g34_r8(x3:Sl T137)(x7:Sl T137):Bool×Bool:=g34_l5 x3 x7 ((Int.toNat ((x3.n:Int)-0))+1) 0
noncomputable def g34_p9(x3:Sl T137)(x7:Sl T137):Bool:=(bif(g34_r8 x3 x7).1 then false else true)
noncomputable def g34(x0:Int)(x1:Sl T175)(x2:Int)(x3:Sl T137)(x4:Int)(x5:Sl T175)(x6:Int)(x7:Sl T137):Bool:=(bif(g34_m1 x0 x1 x2 x3 x4 x5 x6 x7)then false else(bif(g34_p9 x3 x7)then true else(g34_r8 x3 x7).2))
noncomputable def F34:Fq:=⟨[.g [kI,.sl E175,kI,.sl E137],.g [kI,.sl E175,kI,.sl E137]],fun x0 x1 x2 x3 x4 x5 x6 x7=>⟨⟨none,.bool (g34 x0 x1 x2 x3 x4 x5 x6 x7)⟩⟩⟩
theorem pc34:FnOk Tryz.prog 7 F34.sh _ (F34.sh.flatMap Sh.bs) F34.f []:=
 fun(x0:Int) x1 n1 _ (x2:Int) x3 n3 _ (x4:Int) x5 n5 _ (x6:Int) x7 n7 _=>pure_of_exec (X:=(mkX [(8,F104.ans),(23,F105.ans)])) (R:=⟨.pure,[.tmp 4],[(.t 0,kB)],⟨[U],[]⟩⟩) (h:=(.s .z (.s (.j ⟨536870940,[],[(.t 29,kB)],[],.f⟩ .z .z) (.j ⟨16,[],[],[],.f⟩ (.s .z (.lp ⟨60,[],[],[(.t 5,kI)],some 0,true,16,[.b 0,.b 1],[],fun k (s:Int)=>g34_l5 x3 x7 k s,.f,fun(s:Int)=>(0≤s∧s≤(x3.n:Int)),fun(s:Int)=>(Int.toNat ((x3.n:Int)-s)),none⟩ (.s .z (.s (.s .z (.s .z (.j ⟨9556287128405104656636,[],[(.t 52,kB),(.t 58,kB),(.t 59,kB),(.t 65,kB),(.t 66,kB),(.t 73,kB)],[(.b .f .l),(.b .f .l),(.b .f (.b .f .l)),(.b .f (.b .f .l)),.f,.f],.f⟩ .z .z))) .z)))) .z)))) (ms:=[]) (p:=((g34_m1 x0 x1 x2 x3 x4 x5 x6 x7)=false→(((0≤(0:Int)∧(0:Int)≤(x3.n:Int)))∧(∀(v5_0:Int),(0≤v5_0∧v5_0≤(x3.n:Int))→(((decide (v5_0<(x3.n:Int)))=true→(((0:Int)≤v5_0∧v5_0<((x3.n:Nat):Int))∧((0:Int)≤v5_0∧v5_0<((x7.n:Nat):Int))))∧((decide (v5_0<(x3.n:Int)))=true→((g34_m7 x3 x7 v5_0)=false→((0≤(IntKind.i64.wrap (v5_0+1))∧(IntKind.i64.wrap (v5_0+1))≤(x3.n:Int))∧(Int.toNat ((x3.n:Int)- (IntKind.i64.wrap (v5_0+1))))<(Int.toNat ((x3.n:Int)-v5_0)))))))))) (mkX_ok ⟨k104,k105,trivial⟩) Tryz.func7 rfl rfl (by kernel_rfl) ((fun h1=>⟨(by have:=h1;simp [g34_m1]at this;omega),(fun v5_0 hI2=>⟨(fun h3=>⟨(by have:=h1;simp [g34_m1]at this;have:=of_decide_eq_true h3;omega),(by have:=h1;simp [g34_m1]at this;have:=of_decide_eq_true h3;omega)⟩),(fun h4=>(fun h5=>(by have:=h1;simp [g34_m1]at this;have:=of_decide_eq_true h4;have:=h5;simp [g34_m7]at this;first|omega|(have:=wrap64 (x:=(v5_0+1)) (by omega) (by omega);omega))))⟩)⟩))
theorem k34:XOk Tryz.prog 7 F34.ans:=Fq.ok ⟨_,_,Tryz.func7,rfl,by kernel_rfl⟩ pc34
end Go.Proofs.YtfbpilmhnpkfhaaGreatDoor
namespace Go.Vc
open Go Go.RowKit
def SlE{α:Type}(R:α→α→Prop)(a b:Sl α):Prop:=a.n=b.n∧ ∀i,i<a.n→R (a.at' i) (b.at' i)
theorem SlE.rfl'{α:Type}{R:α→α→Prop}(h: ∀x,R x x)(a:Sl α):SlE R a a:=⟨rfl,fun _ _=>h _⟩
theorem clean0{β:Type}[Inhabited β](F:Nat→Int→Bool×β)(n:Nat)(bad:Int→Bool)(c:Int→β)(hn:n≤549755813888)(hF: ∀k i,F (k+1) i=bif decide (i<(n:Int))then(bif bad i then(true,c i)else F k (IntKind.i64.wrap (i+1)))else(false,default))(h: ∀i:Nat,i<n→bad (i:Int)=false):
  F (Int.toNat ((n:Int)-0)+1) 0=(false,default):=
 (scan0 F n bad c hn hF).trans (scan_clean n 0 fun j h1 h2=>by
  obtain⟨k,rfl⟩:=Int.eq_ofNat_of_zero_le h1
  exact h k (by omega))
end Go.Vc
namespace Go.Proofs.YtfbpilmhnpkfhaaGreatDoor
open Go Go.Vc Go.RowKit
set_option maxRecDepth 100000
theorem ne_self(x:Int):(x !=x)=false:=by simp
theorem t191{a b:Sl ByteArray}(h:SlE Eq a b)(hn:a.n≤549755813888):g191 a b=true:=by
 have c:g191_r1 a b=(false,default):=clean0 (g191_l2 a b) a.n _ (fun _=>false) hn (fun _ _=>rfl) fun i hi=>by
  simp only[Int.toNat_natCast]
  rw[h.2 i hi];simp
 unfold g191 g191_p2
 rw[c,h.1,ne_self];rfl
theorem t103{x0:Int}{x1:ByteArray}{x2:Int}{a3 b3:Sl T160}{a4 b4:Sl ByteArray}{a5 b5:Sl T164}(h3:SlE Eq a3 b3)(h4:SlE Eq a4 b4)(h5:SlE Eq a5 b5)(n3:a3.n≤549755813888)(n4:a4.n≤549755813888)(n5:a5.n≤549755813888):g103 x0 x1 x2 a3 a4 a5 x0 x1 x2 b3 b4 b5=true:=by
 have c1:g103_r2 a3 b3=(false,default):=clean0 (g103_l8 a3 b3) a3.n _ (fun _=>false) n3 (fun _ _=>rfl) fun i hi=>by
  simp only[Int.toNat_natCast]
  rw[h3.2 i hi];simp
 have c2:g103_r4 a5 b5=(false,default):=clean0 (g103_l15 a5 b5) a5.n _ (fun _=>false) n5 (fun _ _=>rfl) fun i hi=>by
  simp only[Int.toNat_natCast]
  rw[h5.2 i hi];simp
 have m:g103_m1 x0 x1 x2 a3 a4 a5 x0 x1 x2 b3 b4 b5=false:=by
  unfold g103_m1
  rw[t191 h4 n4,h3.1,h5.1]
  simp only[ne_self,beq_self_eq_true,Bool.not_true,cond_false]
 unfold g103 g103_p3 g103_p5
 rw[m,c1,c2];rfl
theorem t104{x0:Int}{x1:ByteArray}{x2:Int}{a b:Sl ByteArray}(h:SlE Eq a b)(hn:a.n≤549755813888):g104 x0 x1 x2 a x0 x1 x2 b=true:=by
 unfold g104 g104_m1
 rw[t191 h hn]
 simp only[beq_self_eq_true,cond_true]
def R175(x y:T175):Prop:=(x.c0=y.c0∧x.c1=y.c1∧x.c2=y.c2∧x.c3=y.c3∧x.c7=y.c7)∧(SlE Eq x.c4 y.c4∧SlE Eq x.c5 y.c5∧SlE Eq x.c6 y.c6)∧(x.c4.n≤549755813888∧x.c5.n≤549755813888∧x.c6.n≤549755813888)
def R137(x y:T137):Prop:=(x.c0=y.c0∧x.c1=y.c1∧x.c2=y.c2∧x.c3=y.c3∧x.c4=y.c4∧x.c5=y.c5)∧SlE Eq x.c6 y.c6∧x.c6.n≤549755813888
theorem t105{x0:Int}{a b:Sl T175}(h:SlE R175 a b)(hn:a.n≤549755813888):g105 x0 a x0 b=true:=by
 have c:g105_r6 a b=(false,default):=clean0 (g105_l4 a b) a.n (fun i=>g105_m5 a b i) (fun _=>false) hn (fun _ _=>rfl) fun i hi=>by
  show g105_m5 a b (i:Int)=false
  unfold g105_m5
  simp only[Int.toNat_natCast]
  obtain⟨⟨e0,e1,e2,e3,e7⟩,⟨s4,s5,s6⟩,n4,n5,n6⟩:=h.2 i hi
  rw[←e0,←e1,←e2,←e3,←e7,t103 s4 s5 s6 n4 n5 n6]
  simp only[ne_self,beq_self_eq_true,Bool.not_true,cond_false]
 have m:g105_m1 x0 a x0 b=false:=by
  unfold g105_m1
  rw[h.1]
  simp only[ne_self,cond_false]
 unfold g105 g105_p7
 rw[m,c];rfl
theorem t34{x0 x2:Int}{a b:Sl T175}{c d:Sl T137}(h:SlE R175 a b)(hn:a.n≤549755813888)(k:SlE R137 c d)(kn:c.n≤549755813888):g34 x0 a x2 c x0 b x2 d=true:=by
 have cl:g34_r8 c d=(false,default):=clean0 (g34_l5 c d) c.n (fun i=>g34_m7 c d i) (fun _=>false) kn (fun _ _=>rfl) fun i hi=>by
  show g34_m7 c d (i:Int)=false
  unfold g34_m7
  simp only[Int.toNat_natCast]
  obtain⟨⟨e0,e1,e2,e3,e4,e5⟩,s6,n6⟩:=k.2 i hi
  rw[←e0,←e1,←e2,←e3,←e4,←e5,t104 s6 n6]
  simp only[ne_self,Bool.not_true,cond_false]
 have m:g34_m1 x0 a x2 c x0 b x2 d=false:=by
  unfold g34_m1
  rw[t105 h hn,k.1]
  simp only[ne_self,Bool.not_true,cond_false]
 unfold g34 g34_p9
 rw[m,cl];rfl
end Go.Proofs.YtfbpilmhnpkfhaaGreatDoor
/-
  Lists with one value put in, taken out; the order of texts; loops as folds.
-/
namespace Go.Vc
open Go
set_option maxRecDepth 100000
theorem less_irr: ∀a:List UInt8,Op.bytesLess a a=false
 |[]=>rfl
 |x::a=>by
  simp only[Op.bytesLess,Bool.or_eq_false_iff,decide_eq_false_iff_not]
  exact⟨UInt8.lt_irrefl x,by simp [less_irr a]⟩
theorem less_cons{x y:UInt8}{a b:List UInt8} :Op.bytesLess (x::a) (y::b)=true↔x<y∨(x=y∧Op.bytesLess a b=true):=by
 simp only[Op.bytesLess,Bool.or_eq_true,Bool.and_eq_true,decide_eq_true_eq,beq_iff_eq]
theorem less_trans: ∀{a b c:List UInt8},Op.bytesLess a b=true→Op.bytesLess b c=true→Op.bytesLess a c=true
 |_,_,[],_,h=>by simp [Op.bytesLess]at h
 |[],_,_::_,_,_=>rfl
 |_::_,[],_::_,h,_=>by simp [Op.bytesLess]at h
 |x::a,y::b,z::c,h1,h2=>by
  rw[less_cons]at h1 h2 ⊢
  rcases h1 with h1|⟨e1,h1⟩
  ·rcases h2 with h2|⟨e2,h2⟩
   ·exact .inl (UInt8.lt_trans h1 h2)
   ·subst e2;exact .inl h1
  ·subst e1
   rcases h2 with h2|⟨e2,h2⟩
   ·exact .inl h2
   ·exact .inr ⟨e2,less_trans h1 h2⟩
theorem less_tri: ∀{a b:List UInt8},Op.bytesLess a b=false→Op.bytesLess b a=false→a=b
 |[],[],_,_=>rfl
 |[],_::_,h,_=>by simp [Op.bytesLess]at h
 |_::_,[],_,h=>by simp [Op.bytesLess]at h
 |x::a,y::b,h1,h2=>by
  have n1: ¬(x<y∨(x=y∧Op.bytesLess a b=true)):=fun h=>by rw[less_cons.2 h]at h1;cases h1
  have n2: ¬(y<x∨(y=x∧Op.bytesLess b a=true)):=fun h=>by rw[less_cons.2 h]at h2;cases h2
  have e:x=y:=UInt8.le_antisymm (UInt8.not_lt.1 fun h=>n2 (.inl h)) (UInt8.not_lt.1 fun h=>n1 (.inl h))
  subst e
  have e1:Op.bytesLess a b=false:=by
   cases h:Op.bytesLess a b with
   |false=>rfl
   |true=>exact absurd (.inr ⟨rfl,h⟩) n1
  have e2:Op.bytesLess b a=false:=by
   cases h:Op.bytesLess b a with
   |false=>rfl
   |true=>exact absurd (.inr ⟨rfl,h⟩) n2
  rw[less_tri e1 e2]
theorem cutAt(p:Nat→Bool): ∀n:Nat,(∀i j,i<j→j<n→p j=true→p i=true)→ ∃t,t≤n∧ ∀m,m<n→p m=decide (m<t)
 |0,_=>⟨0,Nat.le_refl _,fun m h=>by omega⟩
 |n+1,h=>by
  obtain⟨t,h1,h2⟩:=cutAt p n fun i j a b c=>h i j a (by omega) c
  cases e:p n with
  |true=>
   refine⟨n+1,Nat.le_refl _,fun m hm=> ?_⟩
   rw[show decide (m<n+1)=true from decide_eq_true hm]
   rcases Nat.lt_or_ge m n with g|g
   ·exact h m n g (by omega) e
   ·rw[show m=n by omega,e]
  |false=>
   refine⟨t,by omega,fun m hm=> ?_⟩
   rcases Nat.lt_or_ge m n with g|g
   ·exact h2 m g
   ·rw[show m=n by omega,e]
    exact(decide_eq_false (by omega)).symm
theorem chain{R:Nat→Nat→Prop}(n:Nat)(h1: ∀i,i+1<n→R i (i+1))(ht: ∀i j k,i<j→j<k→k<n→R i j→R j k→R i k): ∀(d i:Nat),i+d+1<n→R i (i+d+1)
 |0,i,h=>h1 i h
 |d+1,i,h=>ht i (i+d+1) (i+(d+1)+1) (by omega) (by omega) h (chain n h1 ht d i (by omega)) (h1 (i+d+1) h)
theorem chain'{R:Nat→Nat→Prop}(n:Nat)(h1: ∀i,i+1<n→R i (i+1))(ht: ∀i j k,i<j→j<k→k<n→R i j→R j k→R i k)(i j:Nat)(hij:i<j)(hj:j<n):R i j:=by
 have:=chain n h1 ht (j-i-1) i (by omega)
 rwa [show i+(j-i-1)+1=j by omega]at this
theorem foldF{σ ρ:Type}(F:Nat→Int→σ→ρ)(n:Nat)(step:Nat→σ→σ)(out:σ→ρ)(hn:n≤549755813888)(hF: ∀k i s,F (k+1) i s=bif decide (i<(n:Int))then F k (IntKind.i64.wrap (i+1)) (step (Int.toNat i) s)else out s):
  ∀(m k i:Nat) (s:σ),i+m=n→m≤k→F (k+1) (i:Int) s=out ((List.range' i m).foldl (fun s j=>step j s) s)
 |0,k,i,s,hi,_=>by
  rw[hF,show decide ((i:Int)<(n:Int))=false by simp;omega];rfl
 |m+1,k,i,s,hi,hk=>by
  obtain⟨k,rfl⟩: ∃k',k=k'+1:=⟨k-1,by omega⟩
  rw[hF,show decide ((i:Int)<(n:Int))=true by simp;omega]
  simp only[cond_true]
  rw[wrap64 (x:=(i:Int)+1) (by omega) (by omega)]
  have:=foldF F n step out hn hF m k (i+1) (step i s) (by omega) (by omega)
  rw[show(((i+1:Nat)):Int)=(i:Int)+1 by omega]at this
  rw[show Int.toNat (i:Int)=i from Int.toNat_natCast i,this]
  rfl
theorem fold0{σ ρ:Type}(F:Nat→Int→σ→ρ)(n:Nat)(step:Nat→σ→σ)(out:σ→ρ)(hn:n≤549755813888)(hF: ∀k i s,F (k+1) i s=bif decide (i<(n:Int))then F k (IntKind.i64.wrap (i+1)) (step (Int.toNat i) s)else out s)(s:σ):
  F (Int.toNat ((n:Int)-0)+1) 0 s=out ((List.range n).foldl (fun s j=>step j s) s):=by
 have:=foldF F n step out hn hF n (Int.toNat ((n:Int)-0)) 0 s (by omega) (by omega)
 rw[List.range_eq_range'];exact this
section
variable {α:Type}
theorem foldB{σ:Type}(s:Sl α)(step:α→σ→σ)(st:σ):(List.range s.n).foldl (fun st j=>step (s.at' j) st) st=s.B.foldl (fun st a=>step a st) st:=by
 unfold Sl.B
 rw[List.foldl_map]
theorem SlE_of{s t:Sl α}(h:s.B=t.B):SlE Eq s t:=by
 have hn:s.n=t.n:=by rw[←B_len s,←B_len t,h]
 refine⟨hn,fun i hi=> ?_⟩
 have h1:=B_get s hi
 rw[h,B_get t (by omega)]at h1
 exact(Option.some.inj h1).symm
theorem nbeq_f{a b:Nat}(h:a≠b):Nat.beq a b=false:=by
 cases e:Nat.beq a b with
 |false=>rfl
 |true=>exact absurd (Nat.eq_of_beq_eq_true e) h
theorem B_ins(s:Sl α)(i:Nat)(x:α)(hi:i≤s.n):(s.ins i x).B=s.B.take i++x::s.B.drop i:=by
 apply List.ext_getElem
 ·simp only[B_len,List.length_append,List.length_take,List.length_cons,List.length_drop]
  show s.n+1=_
  omega
 ·intro j h1 h2
  have hj:j<s.n+1:=by rw[B_len]at h1;exact h1
  have e:(s.ins i x).B[j]=(s.ins i x).at' j:=by simp [Sl.B]
  rw[e]
  simp only[Sl.ins]
  rcases Nat.lt_trichotomy j i with g|g|g
  ·rw[blt_t g,List.getElem_append_left (by simp [B_len];omega)]
   simp [Sl.B]
  ·subst g
   rw[blt_f (Nat.le_refl _),show Nat.beq j j=true from Nat.beq_refl j,List.getElem_append_right (by simp [B_len];omega)]
   simp [B_len,Nat.min_eq_left hi]
  ·rw[blt_f (by omega),show Nat.beq j i=false from nbeq_f (by omega),List.getElem_append_right (by simp [B_len];omega)]
   simp only[B_len,List.length_take,Nat.min_eq_left hi,cond_false]
   obtain⟨d,hd⟩: ∃d,j-i=d+1:=⟨j-i-1,by omega⟩
   simp only[hd,List.getElem_cons_succ,List.getElem_drop]
   simp only[Sl.B,List.getElem_map,List.getElem_range]
   congr 1;omega
theorem B_del(s:Sl α)(i:Nat)(hi:i<s.n):(s.del i (i+1)).B=s.B.take i++s.B.drop (i+1):=by
 apply List.ext_getElem
 ·simp only[B_len,List.length_append,List.length_take,List.length_drop]
  show s.n- (i+1-i)=_
  omega
 ·intro j h1 h2
  have hj:j<s.n- (i+1-i):=by rw[B_len]at h1;exact h1
  have e:(s.del i (i+1)).B[j]=(s.del i (i+1)).at' j:=by simp [Sl.B]
  rw[e]
  simp only[Sl.del]
  rcases Nat.lt_or_ge j i with g|g
  ·rw[blt_t g,List.getElem_append_left (by simp [B_len];omega)]
   simp [Sl.B]
  ·rw[blt_f g,List.getElem_append_right (by simp [B_len];omega)]
   simp only[List.getElem_drop,Sl.B,List.getElem_map,List.getElem_range,cond_false,List.length_take,List.length_map,List.length_range]
   congr 1;omega
theorem B_at(s:Sl α){i:Nat}(h:i<s.n):s.B.drop i=s.at' i::s.B.drop (i+1):=by
 rw[List.drop_eq_getElem_cons (by rw[B_len];exact h)]
 simp [Sl.B]
end
end Go.Vc
/-
  Walks: what functions of the program answer, as functions.
-/
namespace Go.Proofs.YtfbpilmhnpkfhaaGreatDoor
open Go Go.Vc Go.RowKit
set_option maxRecDepth 100000
set_option maxHeartbeats 4000000
end Go.Proofs.YtfbpilmhnpkfhaaGreatDoor
/-
  Walks: what functions of the program answer, as functions.
-/
namespace Go.Proofs.YtfbpilmhnpkfhaaGreatDoor
open Go Go.Vc Go.RowKit
set_option maxRecDepth 100000
set_option maxHeartbeats 4000000
noncomputable def g101_m1(x0:Int)(x1:ByteArray)(x2:Int)(x3:Sl T160)(x4:Sl ByteArray)(x5:Sl T164):Bool:=(bif(x0==0)then(bif((x1:ByteArray).toList==(⟨#[]⟩:ByteArray).toList)then(bif(x2==0)then((g131 x3 x4 x5)==0)else false)else false)else false)
noncomputable def g101_m2(x0:Int)(x1:ByteArray)(x2:Int)(x3:Sl T160)(x4:Sl ByteArray)(x5:Sl T164):Bool:=(bif((g72 x0 x1 x2 x3 x4 x5)!=0)then(!(g101_m1 x0 x1 x2 x3 x4 x5))else false)
noncomputable def g101_m3(x0:Int)(x1:ByteArray)(x2:Int)(x3:Sl T160)(x4:Sl ByteArray)(x5:Sl T164)(x6:Int):Bool:=(bif(g101_m1 x0 x1 x2 x3 x4 x5)then(!(g186 x6))else false)
noncomputable def g101_m4(x0:Int)(x6:Int):Bool:=(bif((g185 x6)!=0)then((g185 x6)!=x0)else false)
noncomputable def g101_m5(x0:Int)(x6:Int):Bool:=(bif(decide (x6≥17))then(decide (x0<3))else false)
noncomputable def g101_m6(x0:Int)(x6:Int):Bool:=(bif(g101_m4 x0 x6)then(g101_m4 x0 x6)else(g101_m5 x0 x6))
noncomputable def g101_m7(x0:Int)(x1:ByteArray)(x2:Int)(x3:Sl T160)(x4:Sl ByteArray)(x5:Sl T164)(x6:Int):Int:=(bif(g101_m1 x0 x1 x2 x3 x4 x5)then(g185 x6)else(g184_0 x0))
noncomputable def g101_p8(x0:Int)(x1:ByteArray)(x2:Int)(x3:Sl T160)(x4:Sl ByteArray)(x5:Sl T164)(x6:Int):Bool:=(bif(g101_m3 x0 x1 x2 x3 x4 x5 x6)then false else(bif(g101_m1 x0 x1 x2 x3 x4 x5)then true else(bif(g101_m6 x0 x6)then false else true)))
noncomputable def g101_m9(x0:Int)(x1:ByteArray)(x2:Int)(x3:Sl T160)(x4:Sl ByteArray)(x5:Sl T164)(x6:Int)(x8:ByteArray)(x9:ByteArray)(x10:Int):Bool:=(bif(decide ((g188_h0_0 x6 (g101_m7 x0 x1 x2 x3 x4 x5 x6))≥3))then((g131 (g188_h0_3 x6 x8 x9 (g101_m7 x0 x1 x2 x3 x4 x5 x6) x3) (g188_h0_4 x6 x9 (g101_m7 x0 x1 x2 x3 x4 x5 x6) x4) (g188_h0_5 x6 x9 x10 (g101_m7 x0 x1 x2 x3 x4 x5 x6) x5))==0)else false)
noncomputable def g101_m10(x0:Int)(x1:ByteArray)(x2:Int)(x3:Sl T160)(x4:Sl ByteArray)(x5:Sl T164)(x6:Int)(x8:ByteArray)(x9:ByteArray)(x10:Int):Int:=(bif(g101_m9 x0 x1 x2 x3 x4 x5 x6 x8 x9 x10)then 0 else(g188_h0_0 x6 (g101_m7 x0 x1 x2 x3 x4 x5 x6)))
noncomputable def g101_m11(x0:Int)(x1:ByteArray)(x2:Int)(x3:Sl T160)(x4:Sl ByteArray)(x5:Sl T164)(x6:Int)(x8:ByteArray)(x9:ByteArray)(x10:Int):ByteArray:=(bif(g101_m9 x0 x1 x2 x3 x4 x5 x6 x8 x9 x10)then⟨#[]⟩else(g188_h0_1 x6 x9 (g184_1 x1)))
noncomputable def g101_m12(x0:Int)(x1:ByteArray)(x2:Int)(x3:Sl T160)(x4:Sl ByteArray)(x5:Sl T164)(x6:Int)(x8:ByteArray)(x9:ByteArray)(x10:Int):Int:=(bif(g101_m9 x0 x1 x2 x3 x4 x5 x6 x8 x9 x10)then 0 else(g188_h0_2 x6 x10 (g184_2 x2)))
noncomputable def g101_m13(x0:Int)(x1:ByteArray)(x2:Int)(x3:Sl T160)(x4:Sl ByteArray)(x5:Sl T164)(x6:Int)(x8:ByteArray)(x9:ByteArray)(x10:Int):Sl T160:=(bif(g101_m9 x0 x1 x2 x3 x4 x5 x6 x8 x9 x10)then(nilSl:Sl T160)else(g188_h0_3 x6 x8 x9 (g101_m7 x0 x1 x2 x3 x4 x5 x6) x3))
noncomputable def g101_m14(x0:Int)(x1:ByteArray)(x2:Int)(x3:Sl T160)(x4:Sl ByteArray)(x5:Sl T164)(x6:Int)(x8:ByteArray)(x9:ByteArray)(x10:Int):Sl ByteArray:=(bif(g101_m9 x0 x1 x2 x3 x4 x5 x6 x8 x9 x10)then(nilSl:Sl ByteArray)else(g188_h0_4 x6 x9 (g101_m7 x0 x1 x2 x3 x4 x5 x6) x4))
noncomputable def g101_m15(x0:Int)(x1:ByteArray)(x2:Int)(x3:Sl T160)(x4:Sl ByteArray)(x5:Sl T164)(x6:Int)(x8:ByteArray)(x9:ByteArray)(x10:Int):Sl T164:=(bif(g101_m9 x0 x1 x2 x3 x4 x5 x6 x8 x9 x10)then(nilSl:Sl T164)else(g188_h0_5 x6 x9 x10 (g101_m7 x0 x1 x2 x3 x4 x5 x6) x5))
noncomputable def g101_0_0(x0:Int)(x1:ByteArray)(x2:Int)(x3:Sl T160)(x4:Sl ByteArray)(x5:Sl T164)(x6:Int)(x7:ByteArray)(x8:ByteArray)(x9:ByteArray)(x10:Int):Int:=(bif(g101_m2 x0 x1 x2 x3 x4 x5)then 0 else(bif((g47 x6 x7 x8 x9 x10)!=0)then 0 else(bif(decide (x6>18))then 0 else(bif(g101_p8 x0 x1 x2 x3 x4 x5 x6)then(bif((g188_0 x6 x8 x9 x10 (g101_m7 x0 x1 x2 x3 x4 x5 x6) (g184_2 x2) x3 x4 x5)!=0)then(g184_0 x0)else(g184_0 (g101_m10 x0 x1 x2 x3 x4 x5 x6 x8 x9 x10)))else(g184_0 x0)))))
noncomputable def g101_0_1(x0:Int)(x1:ByteArray)(x2:Int)(x3:Sl T160)(x4:Sl ByteArray)(x5:Sl T164)(x6:Int)(x7:ByteArray)(x8:ByteArray)(x9:ByteArray)(x10:Int):ByteArray:=(bif(g101_m2 x0 x1 x2 x3 x4 x5)then⟨#[]⟩else(bif((g47 x6 x7 x8 x9 x10)!=0)then⟨#[]⟩else(bif(decide (x6>18))then⟨#[]⟩else(bif(g101_p8 x0 x1 x2 x3 x4 x5 x6)then(bif((g188_0 x6 x8 x9 x10 (g101_m7 x0 x1 x2 x3 x4 x5 x6) (g184_2 x2) x3 x4 x5)!=0)then(g184_1 x1)else(g184_1 (g101_m11 x0 x1 x2 x3 x4 x5 x6 x8 x9 x10)))else(g184_1 x1)))))
noncomputable def g101_0_2(x0:Int)(x1:ByteArray)(x2:Int)(x3:Sl T160)(x4:Sl ByteArray)(x5:Sl T164)(x6:Int)(x7:ByteArray)(x8:ByteArray)(x9:ByteArray)(x10:Int):Int:=(bif(g101_m2 x0 x1 x2 x3 x4 x5)then 0 else(bif((g47 x6 x7 x8 x9 x10)!=0)then 0 else(bif(decide (x6>18))then 0 else(bif(g101_p8 x0 x1 x2 x3 x4 x5 x6)then(bif((g188_0 x6 x8 x9 x10 (g101_m7 x0 x1 x2 x3 x4 x5 x6) (g184_2 x2) x3 x4 x5)!=0)then(g184_2 x2)else(g184_2 (g101_m12 x0 x1 x2 x3 x4 x5 x6 x8 x9 x10)))else(g184_2 x2)))))
noncomputable def g101_0_3(x0:Int)(x1:ByteArray)(x2:Int)(x3:Sl T160)(x4:Sl ByteArray)(x5:Sl T164)(x6:Int)(x7:ByteArray)(x8:ByteArray)(x9:ByteArray)(x10:Int):Sl T160:=(bif(g101_m2 x0 x1 x2 x3 x4 x5)then(nilSl:Sl T160)else(bif((g47 x6 x7 x8 x9 x10)!=0)then(nilSl:Sl T160)else(bif(decide (x6>18))then(nilSl:Sl T160)else(bif(g101_p8 x0 x1 x2 x3 x4 x5 x6)then(bif((g188_0 x6 x8 x9 x10 (g101_m7 x0 x1 x2 x3 x4 x5 x6) (g184_2 x2) x3 x4 x5)!=0)then x3 else(g101_m13 x0 x1 x2 x3 x4 x5 x6 x8 x9 x10))else x3))))
noncomputable def g101_0_4(x0:Int)(x1:ByteArray)(x2:Int)(x3:Sl T160)(x4:Sl ByteArray)(x5:Sl T164)(x6:Int)(x7:ByteArray)(x8:ByteArray)(x9:ByteArray)(x10:Int):Sl ByteArray:=(bif(g101_m2 x0 x1 x2 x3 x4 x5)then(nilSl:Sl ByteArray)else(bif((g47 x6 x7 x8 x9 x10)!=0)then(nilSl:Sl ByteArray)else(bif(decide (x6>18))then(nilSl:Sl ByteArray)else(bif(g101_p8 x0 x1 x2 x3 x4 x5 x6)then(bif((g188_0 x6 x8 x9 x10 (g101_m7 x0 x1 x2 x3 x4 x5 x6) (g184_2 x2) x3 x4 x5)!=0)then x4 else(g101_m14 x0 x1 x2 x3 x4 x5 x6 x8 x9 x10))else x4))))
noncomputable def g101_0_5(x0:Int)(x1:ByteArray)(x2:Int)(x3:Sl T160)(x4:Sl ByteArray)(x5:Sl T164)(x6:Int)(x7:ByteArray)(x8:ByteArray)(x9:ByteArray)(x10:Int):Sl T164:=(bif(g101_m2 x0 x1 x2 x3 x4 x5)then(nilSl:Sl T164)else(bif((g47 x6 x7 x8 x9 x10)!=0)then(nilSl:Sl T164)else(bif(decide (x6>18))then(nilSl:Sl T164)else(bif(g101_p8 x0 x1 x2 x3 x4 x5 x6)then(bif((g188_0 x6 x8 x9 x10 (g101_m7 x0 x1 x2 x3 x4 x5 x6) (g184_2 x2) x3 x4 x5)!=0)then x5 else(g101_m15 x0 x1 x2 x3 x4 x5 x6 x8 x9 x10))else x5))))
noncomputable def g101_1_0(x0:Int)(x1:ByteArray)(x2:Int)(x3:Sl T160)(x4:Sl ByteArray)(x5:Sl T164)(x6:Int)(x7:ByteArray)(x8:ByteArray)(x9:ByteArray)(x10:Int):Int:=(bif(g101_m2 x0 x1 x2 x3 x4 x5)then 0 else(bif((g47 x6 x7 x8 x9 x10)!=0)then 0 else(bif(decide (x6>18))then 0 else(bif(g101_p8 x0 x1 x2 x3 x4 x5 x6)then(g188_0 x6 x8 x9 x10 (g101_m7 x0 x1 x2 x3 x4 x5 x6) (g184_2 x2) x3 x4 x5)else(bif(g101_m3 x0 x1 x2 x3 x4 x5 x6)then(g187_0 5)else(g187_0 4))))))
noncomputable def g101_1_1(x0:Int)(x1:ByteArray)(x2:Int)(x3:Sl T160)(x4:Sl ByteArray)(x5:Sl T164)(x6:Int)(x7:ByteArray)(x8:ByteArray)(x9:ByteArray)(x10:Int):ByteArray:=(bif(g101_m2 x0 x1 x2 x3 x4 x5)then⟨#[]⟩else(bif((g47 x6 x7 x8 x9 x10)!=0)then⟨#[]⟩else(bif(decide (x6>18))then⟨#[]⟩else(bif(g101_p8 x0 x1 x2 x3 x4 x5 x6)then(g188_1 x6 x8 x9 x10 (g101_m7 x0 x1 x2 x3 x4 x5 x6) (g184_1 x1) (g184_2 x2) x3 x4 x5)else g187_1))))
noncomputable def g101_1_2(x0:Int)(x1:ByteArray)(x2:Int)(x3:Sl T160)(x4:Sl ByteArray)(x5:Sl T164)(x6:Int)(x7:ByteArray)(x8:ByteArray)(x9:ByteArray)(x10:Int):Int:=(bif(g101_m2 x0 x1 x2 x3 x4 x5)then 0 else(bif((g47 x6 x7 x8 x9 x10)!=0)then 0 else(bif(decide (x6>18))then 0 else(bif(g101_p8 x0 x1 x2 x3 x4 x5 x6)then(g188_2 x6 x8 x9 x10 (g101_m7 x0 x1 x2 x3 x4 x5 x6) (g184_2 x2) x3 x4 x5)else g187_2))))
noncomputable def g101_1_3(x0:Int)(x1:ByteArray)(x2:Int)(x3:Sl T160)(x4:Sl ByteArray)(x5:Sl T164)(x6:Int)(x7:ByteArray)(x8:ByteArray)(x9:ByteArray)(x10:Int):Sl ByteArray:=(bif(g101_m2 x0 x1 x2 x3 x4 x5)then(nilSl:Sl ByteArray)else(bif((g47 x6 x7 x8 x9 x10)!=0)then(nilSl:Sl ByteArray)else(bif(decide (x6>18))then(nilSl:Sl ByteArray)else(bif(g101_p8 x0 x1 x2 x3 x4 x5 x6)then(g188_3 x6 x8 x9 x10 (g101_m7 x0 x1 x2 x3 x4 x5 x6) (g184_2 x2) x3 x4 x5)else g187_3))))
noncomputable def g101_2(x0:Int)(x1:ByteArray)(x2:Int)(x3:Sl T160)(x4:Sl ByteArray)(x5:Sl T164)(x6:Int)(x7:ByteArray)(x8:ByteArray)(x9:ByteArray)(x10:Int):Int:=(bif(g101_m2 x0 x1 x2 x3 x4 x5)then(g72 x0 x1 x2 x3 x4 x5)else(bif((g47 x6 x7 x8 x9 x10)!=0)then(g47 x6 x7 x8 x9 x10)else(bif(decide (x6>18))then 3 else 0)))
theorem d185{x:Int}(h:g186 x=true):g185 x≠4∨(7≤x∧x≤8):=by
 by_cases e7:x=7
 ·omega
 by_cases e8:x=8
 ·omega
 refine .inl fun e=> ?_
 unfold g186 g186_m1 at h
 have k:x=1∨x=3∨x=4∨x=11∨x=14:=by
  by_cases a:x=1
  ·omega
  by_cases b:x=3
  ·omega
  by_cases c:x=4
  ·omega
  by_cases d:x=11
  ·omega
  by_cases f:x=14
  ·omega
  simp [a,b,c,d,f,e7,e8]at h
 rcases k with k|k|k|k|k<;>subst k<;>simp [g185,g185_m1,g185_m2,g185_m3,g185_m4]at e
theorem d101(x0:Int)(x1:ByteArray)(x2:Int)(x3:Sl T160)(x4:Sl ByteArray)(x5:Sl T164)(x6:Int)(h1:g101_m2 x0 x1 x2 x3 x4 x5=false)(h:g101_p8 x0 x1 x2 x3 x4 x5 x6=true)(n3:x3.n≤1048576)(n4:x4.n≤1048576)(n5:x5.n≤1048576):
  x3.n≤20∧x4.n≤20∧x5.n≤20∧((g101_m7 x0 x1 x2 x3 x4 x5 x6)≠4∨(7≤x6∧x6≤8)∨1≤x4.n):=by
 unfold g101_p8 g101_m3 at h
 unfold g101_m2 at h1
 unfold g101_m7
 cases e:g101_m1 x0 x1 x2 x3 x4 x5 with
 |true=>
  simp only[e,cond_true]at h ⊢
  have hk:g186 x6=true:=by
   cases e2:g186 x6 with
   |true=>rfl
   |false=>rw[e2]at h;cases h
  unfold g101_m1 at e
  have hz:(g131 x3 x4 x5==0)=true:=by
   cases e2:(g131 x3 x4 x5==0)with
   |true=>rfl
   |false=>rw[e2]at e;revert e;cases (x0==0)<;>cases (x1.toList==(⟨#[]⟩:ByteArray).toList)<;>cases (x2==0)<;>simp
  have hz:=eq_of_beq hz
  rw[sum_eq _ _ _ n3 n4 n5]at hz
  have:=d185 hk
  omega
 |false=>
  simp only[e,cond_false,Bool.not_false]at h h1 ⊢
  have g:g72 x0 x1 x2 x3 x4 x5=0:=by
   cases e2:(g72 x0 x1 x2 x3 x4 x5 !=0)with
   |false=>exact bne_eq_false_iff_eq.1 e2
   |true=>rw[e2]at h1;cases h1
  have v:=(chk72 _ _ _ _ _ _ n3 n4 n5 g).2.1
  have s:=(sep72 _ _ _ _ _ _ n3 n4 n5 g).b4
  unfold g184_0
  omega
noncomputable def F101:Fq:=⟨[.g [kI,kS,kI,.sl E160,.sl E9,.sl E164],.g [kI,kS,kS,kS,kI]],fun(x0:Int) x1 (x2:Int) x3 x4 x5 (x6:Int) x7 x8 x9 (x10:Int)=>⟨⟨some (x3.n≤1048576∧x4.n≤1048576∧x5.n≤1048576),.tup [.agg [.int .i64 (g101_0_0 x0 x1 x2 x3 x4 x5 x6 x7 x8 x9 x10),.str (g101_0_1 x0 x1 x2 x3 x4 x5 x6 x7 x8 x9 x10),.int .i64 (g101_0_2 x0 x1 x2 x3 x4 x5 x6 x7 x8 x9 x10),ofSl 2 e160 (g101_0_3 x0 x1 x2 x3 x4 x5 x6 x7 x8 x9 x10),ofSl 1 e9 (g101_0_4 x0 x1 x2 x3 x4 x5 x6 x7 x8 x9 x10),ofSl 2 e164 (g101_0_5 x0 x1 x2 x3 x4 x5 x6 x7 x8 x9 x10)],.agg [.int .i64 (g101_1_0 x0 x1 x2 x3 x4 x5 x6 x7 x8 x9 x10),.str (g101_1_1 x0 x1 x2 x3 x4 x5 x6 x7 x8 x9 x10),.int .i64 (g101_1_2 x0 x1 x2 x3 x4 x5 x6 x7 x8 x9 x10),ofSl 1 e9 (g101_1_3 x0 x1 x2 x3 x4 x5 x6 x7 x8 x9 x10)],.int .i64 (g101_2 x0 x1 x2 x3 x4 x5 x6 x7 x8 x9 x10)]⟩⟩⟩
theorem pc101:FnOk Tryz.prog 55 F101.sh _ (F101.sh.flatMap Sh.bs) F101.f []:=
 fun(x0:Int) x1 n1 (x2:Int) x3 n3 _ x4 n4 _ x5 n5 _ (x6:Int) x7 n7 x8 n8 x9 n9 (x10:Int) hp=>pure_of_exec (X:=(mkXh 0 [(29,F47.ans),(43,F72.ans),(62,F131.ans),(81,F185.ans),(82,F186.ans),(83,F187.ans)] [(80,F184.ans),(84,F188.ans)])) (R:=⟨.pure,[.cell 4 64,.cell 5 36,.tmp 6],[(.c 0 0,kI),(.c 0 1,kS),(.c 0 2,kI),(.c 0 3,.sl E160),(.c 0 4,.sl E9),(.c 0 5,.sl E164),(.c 1 0,kI),(.c 1 1,kS),(.c 1 2,kI),(.c 1 3,.sl E9),(.t 2,kI)],⟨[.agg (us 6 []),.agg (us 4 []),U],[]⟩⟩) (h:=(.s .z (.j ⟨252,[],[(.t 7,kB)],[],.f⟩ .z (.s (.s .z (.j ⟨274877907452,[],[(.t 38,kB)],[],.f⟩ .z .z)) (.s .z (.s .z (.s .z (.s .z (.j ⟨1148,[],[(.h 7 0,kI)],[],.f⟩ (.j ⟨576460752303426812,[],[(.t 59,kB)],[],.f⟩ .z (.s .z (.s .z (.s .z (.j ⟨9444732965739290428540,[],[(.t 73,kB)],[],.f⟩ (.j ⟨9444732965739290428540,[],[(.t 73,kB)],[],.f⟩ .z (.s .z (.j ⟨9444732965739290428540,[],[(.t 73,kB)],[],.f⟩ .z .z))) .z))))) (.s .z (.s .z (.j ⟨5232,[],[(.h 7 0,kI),(.h 7 1,kS),(.h 7 2,kI),(.h 7 3,.sl E160),(.h 7 4,.sl E9),(.h 7 5,.sl E164)],[],.f⟩ (.j ⟨162259276829213363391578010293360,[.b 0,.b 1,.b 4,.b 5,.b 6],[(.t 107,kB)],[],.f⟩ .z .z) .z)))))))))))) (ms:=[(.b .f (.b .f (.b .f (.b .f .l)))),(.b .f (.b .f (.b .f (.b .f .l)))),(.b .f (.b .f (.b .f (.b .f .l)))),(.b .f (.b .f (.b .f (.b .f .l)))),(.b .f (.b .f (.b .f (.b .f .l)))),(.b .f (.b .f (.b .f (.b .f .l)))),(.b .f (.b .f (.b .f (.b .l .f)))),(.b .f (.b .f (.b .f (.b .l .l)))),(.b .f (.b .f (.b .f (.b .l .l)))),(.b .f (.b .f (.b .f (.b .l .l)))),(.b .f (.b .f (.b .f .l)))]) (p:=((g101_m2 x0 x1 x2 x3 x4 x5)=false→(((g47 x6 x7 x8 x9 x10)!=0)=false→((decide (x6>18))=false→((g101_p8 x0 x1 x2 x3 x4 x5 x6)=true→(x3.n≤1000000∧x4.n≤1000000∧x5.n≤1000000∧((g101_m7 x0 x1 x2 x3 x4 x5 x6)≠4∨(7≤x6∧x6≤8)∨1≤x4.n))))))) (mkXh_ok ⟨k47,k72,k131,k185,k186,k187,trivial⟩ ⟨k184,k188,trivial⟩) Tryz.func55 rfl rfl (by kernel_rfl) (have⟨hq0,hq1,hq2⟩:=hp;(fun h1=>(fun h2=>(fun h3=>(fun h4=>(by have:=h1;simp [g101_m2]at this;have:=bne_eq_false_iff_eq.1 h2;have:=of_decide_eq_false h3;have:=d101 _ _ _ _ _ _ _ (by assumption) h4 (by omega) (by omega) (by omega);omega))))))
theorem k101:XOk Tryz.prog 55 F101.ans:=Fq.ok ⟨_,_,Tryz.func55,rfl,by kernel_rfl⟩ pc101
end Go.Proofs.YtfbpilmhnpkfhaaGreatDoor
/-
  Walks: what functions of the program answer, as functions.
-/
namespace Go.Proofs.YtfbpilmhnpkfhaaGreatDoor
open Go Go.Vc Go.RowKit
set_option maxRecDepth 100000
set_option maxHeartbeats 4000000
noncomputable def g189_m1(x0:Int)(x1:ByteArray)(x2:Int)(x3:Sl T160)(x4:Sl ByteArray)(x5:Sl T164):Bool:=(bif(x0==0)then(bif((x1:ByteArray).toList==(⟨#[]⟩:ByteArray).toList)then(bif(x2==0)then((g145 x3 x4 x5)==0)else false)else false)else false)
noncomputable def g189(x0:Int)(x1:ByteArray)(x2:Int)(x3:Sl T160)(x4:Sl ByteArray)(x5:Sl T164):Bool:=(g189_m1 x0 x1 x2 x3 x4 x5)
noncomputable def F189:Fq:=⟨[.g [kI,kS,kI,.sl E160,.sl E9,.sl E164]],fun x0 x1 x2 x3 x4 x5=>⟨⟨none,.bool (g189 x0 x1 x2 x3 x4 x5)⟩⟩⟩
theorem pc189:FnOk Tryz.prog 108 F189.sh _ (F189.sh.flatMap Sh.bs) F189.f []:=
 fun(x0:Int) x1 _ (x2:Int) x3 _ _ x4 _ _ x5 _ _=>pure_of_exec (X:=(mkX [(86,F145.ans)])) (R:=⟨.pure,[.tmp 2],[(.t 0,kB)],⟨[U],[]⟩⟩) (h:=(.s .z (.j ⟨4,[.b 0],[(.t 2,kB)],[],.f⟩ .z .z))) (ms:=[]) (p:=True) (mkX_ok ⟨k145,trivial⟩) Tryz.func108 rfl rfl (by kernel_rfl) (trivial)
theorem k189:XOk Tryz.prog 108 F189.ans:=Fq.ok ⟨_,_,Tryz.func108,rfl,by kernel_rfl⟩ pc189
noncomputable def g219(x0:Int):Int:=(bif(x0==2)then 1 else(bif(x0==3)then 2 else(bif(g112 x0 4 6)then 3 else(bif(g112 x0 7 10)then 4 else(bif(g112 x0 11 13)then 5 else(bif(g112 x0 14 16)then 6 else 0))))))
noncomputable def F219:Fq:=⟨[.v kI],fun x0=>⟨⟨none,.int .i64 (g219 x0)⟩⟩⟩
theorem pc219:FnOk Tryz.prog 107 F219.sh _ (F219.sh.flatMap Sh.bs) F219.f []:=
 fun(x0:Int)=>pure_of_exec (X:=(mkX [(20,F112.ans)])) (R:=⟨.pure,[.tmp 2],[(.t 0,kI)],⟨[U],[]⟩⟩) (h:= .z) (ms:=[]) (p:=True) (mkX_ok ⟨k112,trivial⟩) Tryz.func107 rfl rfl (by kernel_rfl) (trivial)
theorem k219:XOk Tryz.prog 107 F219.ans:=Fq.ok ⟨_,_,Tryz.func107,rfl,by kernel_rfl⟩ pc219
noncomputable def g238(x0:Bool):Int:=(bif x0 then 1 else 0)
noncomputable def F238:Fq:=⟨[.v kB],fun x0=>⟨⟨none,.int .i64 (g238 x0)⟩⟩⟩
theorem pc238:FnOk Tryz.prog 91 F238.sh _ (F238.sh.flatMap Sh.bs) F238.f []:=
 fun x0=>pure_of_exec (X:=X0) (R:=⟨.pure,[.tmp 2],[(.t 0,kI)],⟨[U],[]⟩⟩) (h:= .z) (ms:=[]) (p:=True) X0_ok Tryz.func91 rfl rfl (by kernel_rfl) (trivial)
theorem k238:XOk Tryz.prog 91 F238.ans:=Fq.ok ⟨_,_,Tryz.func91,rfl,by kernel_rfl⟩ pc238
noncomputable def g220_m4(x3:Sl T160)(x6:Int)(x8:ByteArray)(v1_2:Bool)(v1_3:Int):Bool:=(bif(x6==4)then(bif(!v1_2)then(!(Op.bytesLess (((x3.at' (Int.toNat v1_3)).c0:ByteArray).toList) ((x8:ByteArray).toList)))else false)else false)
noncomputable def g220_m5(x3:Sl T160)(x6:Int)(x8:ByteArray)(x9:ByteArray)(v1_2:Bool)(v1_3:Int)(v1_4:Sl T160):Sl T160:=(bif(g220_m4 x3 x6 x8 v1_2 v1_3)then(Sl.app v1_4 (Sl.lit ([(⟨x8,x9⟩:T160)]:List T160)))else v1_4)
noncomputable def g220_m6(x3:Sl T160)(x6:Int)(x8:ByteArray)(v1_2:Bool)(v1_3:Int):Bool:=(bif(g220_m4 x3 x6 x8 v1_2 v1_3)then true else v1_2)
noncomputable def g220_m7(x3:Sl T160)(x6:Int)(x8:ByteArray)(x9:ByteArray)(v1_2:Bool)(v1_3:Int)(v1_4:Sl T160):Sl T160:=(bif(!(((x3.at' (Int.toNat v1_3)).c0:ByteArray).toList==(x8:ByteArray).toList))then(Sl.app (g220_m5 x3 x6 x8 x9 v1_2 v1_3 v1_4) (Sl.lit ([(x3.at' (Int.toNat v1_3))]:List T160)))else(g220_m5 x3 x6 x8 x9 v1_2 v1_3 v1_4))
noncomputable def g220_m8(x3:Sl T160)(x8:ByteArray)(v1_0:Bool)(v1_3:Int):Bool:=(bif(!(((x3.at' (Int.toNat v1_3)).c0:ByteArray).toList==(x8:ByteArray).toList))then v1_0 else true)
noncomputable def g220_m9(x3:Sl T160)(x8:ByteArray)(v1_1:ByteArray)(v1_3:Int):ByteArray:=(bif(!(((x3.at' (Int.toNat v1_3)).c0:ByteArray).toList==(x8:ByteArray).toList))then v1_1 else(x3.at' (Int.toNat v1_3)).c1)
noncomputable def g220_l1(x3:Sl T160)(x6:Int)(x8:ByteArray)(x9:ByteArray):Nat→Bool→ByteArray→Bool→Int→Sl T160→Bool×ByteArray×Bool×Sl T160
 |0,_,_,_,_,_=>default
 |k+1,v1_0,v1_1,v1_2,v1_3,v1_4=>(bif(decide (v1_3<(x3.n:Int)))then(g220_l1 x3 x6 x8 x9 k (g220_m8 x3 x8 v1_0 v1_3) (g220_m9 x3 x8 v1_1 v1_3) (g220_m6 x3 x6 x8 v1_2 v1_3) (IntKind.i64.wrap (v1_3+1)) (g220_m7 x3 x6 x8 x9 v1_2 v1_3 v1_4))else(v1_0,v1_1,v1_2,v1_4))
noncomputable def g220_r10(x3:Sl T160)(x6:Int)(x8:ByteArray)(x9:ByteArray):Bool×ByteArray×Bool×Sl T160:=g220_l1 x3 x6 x8 x9 ((Int.toNat (((x3.n:Nat):Int)-0))+1) false ⟨#[]⟩ false 0 (nilSl:Sl T160)
noncomputable def g220_m11(x3:Sl T160)(x6:Int)(x8:ByteArray)(x9:ByteArray):Sl T160:=(bif(!(g220_r10 x3 x6 x8 x9).2.2.1)then(Sl.app (g220_r10 x3 x6 x8 x9).2.2.2 (Sl.lit ([(⟨x8,x9⟩:T160)]:List T160)))else(g220_r10 x3 x6 x8 x9).2.2.2)
noncomputable def g220_0_0(x0:Int)(x3:Sl T160)(x6:Int)(x8:ByteArray)(x9:ByteArray):Int:=(bif(x6==5)then x0 else(bif(x6==6)then 3 else(bif(decide ((((g220_m11 x3 x6 x8 x9).n:Nat):Int)>20))then x0 else 3)))
noncomputable def g220_0_1(x1:ByteArray)(x3:Sl T160)(x6:Int)(x8:ByteArray)(x9:ByteArray):ByteArray:=(bif(x6==5)then x1 else(bif(x6==6)then⟨#[]⟩else(bif(decide ((((g220_m11 x3 x6 x8 x9).n:Nat):Int)>20))then x1 else⟨#[]⟩)))
noncomputable def g220_0_2(x2:Int)(x3:Sl T160)(x6:Int)(x8:ByteArray)(x9:ByteArray):Int:=(bif(x6==5)then x2 else(bif(x6==6)then 0 else(bif(decide ((((g220_m11 x3 x6 x8 x9).n:Nat):Int)>20))then x2 else 0)))
noncomputable def g220_0_3(x3:Sl T160)(x6:Int)(x8:ByteArray)(x9:ByteArray):Sl T160:=(bif(x6==5)then x3 else(bif(x6==6)then(g220_r10 x3 x6 x8 x9).2.2.2 else(bif(decide ((((g220_m11 x3 x6 x8 x9).n:Nat):Int)>20))then x3 else(g220_m11 x3 x6 x8 x9))))
noncomputable def g220_0_4(x3:Sl T160)(x4:Sl ByteArray)(x6:Int)(x8:ByteArray)(x9:ByteArray):Sl ByteArray:=(bif(x6==5)then x4 else(bif(x6==6)then(nilSl:Sl ByteArray)else(bif(decide ((((g220_m11 x3 x6 x8 x9).n:Nat):Int)>20))then x4 else(nilSl:Sl ByteArray))))
noncomputable def g220_0_5(x3:Sl T160)(x5:Sl T164)(x6:Int)(x8:ByteArray)(x9:ByteArray):Sl T164:=(bif(x6==5)then x5 else(bif(x6==6)then(nilSl:Sl T164)else(bif(decide ((((g220_m11 x3 x6 x8 x9).n:Nat):Int)>20))then x5 else(nilSl:Sl T164))))
noncomputable def g220_1_0(x3:Sl T160)(x6:Int)(x8:ByteArray)(x9:ByteArray):Int:=(bif(x6==5)then(bif(!(g220_r10 x3 x6 x8 x9).1)then 5 else 0)else(bif(x6==6)then 0 else(bif(decide ((((g220_m11 x3 x6 x8 x9).n:Nat):Int)>20))then 6 else 0)))
noncomputable def g220_1_1(x3:Sl T160)(x6:Int)(x8:ByteArray)(x9:ByteArray):ByteArray:=(bif(x6==5)then(bif(!(g220_r10 x3 x6 x8 x9).1)then⟨#[]⟩else(g220_r10 x3 x6 x8 x9).2.1)else⟨#[]⟩)
noncomputable def g220_1_2(x3:Sl T160)(x6:Int)(x8:ByteArray)(x9:ByteArray):Int:=(bif(x6==5)then 0 else(bif(x6==6)then(g238 (g220_r10 x3 x6 x8 x9).1)else(bif(decide ((((g220_m11 x3 x6 x8 x9).n:Nat):Int)>20))then 0 else(g238 (!(g220_r10 x3 x6 x8 x9).1)))))
noncomputable def g220_1_3:Sl ByteArray:=(nilSl:Sl ByteArray)
theorem n220a(x3:Sl T160)(x6:Int)(x8 x9:ByteArray)(b:Bool)(i:Int)(s:Sl T160):(((g220_m5 x3 x6 x8 x9 b i s).n:Nat):Int)≤s.n+1:=by
 unfold g220_m5;cases g220_m4 x3 x6 x8 b i
 ·show((s.n:Nat):Int)≤_;omega
 ·show(((s.n+1:Nat)):Int)≤_;omega
theorem n220b(x3:Sl T160)(x6:Int)(x8 x9:ByteArray)(b:Bool)(i:Int)(s:Sl T160):(((g220_m7 x3 x6 x8 x9 b i s).n:Nat):Int)≤s.n+2:=by
 have:=n220a x3 x6 x8 x9 b i s
 unfold g220_m7;cases (!(((x3.at' (Int.toNat i)).c0:ByteArray).toList==(x8:ByteArray).toList))
 ·show(((g220_m5 x3 x6 x8 x9 b i s).n:Nat):Int)≤_;omega
 ·show((((g220_m5 x3 x6 x8 x9 b i s).n+1:Nat)):Int)≤_;omega
noncomputable def F220:Fq:=⟨[.g [kI,kS,kI,.sl E160,.sl E9,.sl E164],.g [kI,kS,kS,kS,kI]],fun(x0:Int) x1 (x2:Int) x3 x4 x5 (x6:Int) _ x8 x9 _=>⟨⟨some (x3.n≤1000000),.tup [.agg [.int .i64 (g220_0_0 x0 x3 x6 x8 x9),.str (g220_0_1 x1 x3 x6 x8 x9),.int .i64 (g220_0_2 x2 x3 x6 x8 x9),ofSl 2 e160 (g220_0_3 x3 x6 x8 x9),ofSl 1 e9 (g220_0_4 x3 x4 x6 x8 x9),ofSl 2 e164 (g220_0_5 x3 x5 x6 x8 x9)],.agg [.int .i64 (g220_1_0 x3 x6 x8 x9),.str (g220_1_1 x3 x6 x8 x9),.int .i64 (g220_1_2 x3 x6 x8 x9),ofSl 1 e9 g220_1_3]]⟩⟩⟩
theorem pc220:FnOk Tryz.prog 109 F220.sh _ (F220.sh.flatMap Sh.bs) F220.f []:=
 fun(x0:Int) x1 n1 (x2:Int) x3 n3 _ x4 n4 _ x5 n5 _ (x6:Int) x7 n7 x8 n8 x9 n9 (x10:Int) hp=>pure_of_exec (X:=(mkX [(91,F238.ans)])) (R:=⟨.pure,[.cell 4 64,.cell 5 36],[(.c 0 0,kI),(.c 0 1,kS),(.c 0 2,kI),(.c 0 3,.sl E160),(.c 0 4,.sl E9),(.c 0 5,.sl E164),(.c 1 0,kI),(.c 1 1,kS),(.c 1 2,kI),(.c 1 3,.sl E9)],⟨[.agg (us 6 []),.agg (us 4 [])],[]⟩⟩) (h:=(.s .z (.s .z (.s .z (.s .z (.s .z (.j ⟨1020,[],[],[],.f⟩ (.s .z (.lp ⟨2044,[],[(.h 4 3,E160)],[(.t 7,kB),(.t 8,kS),(.t 9,kB),(.t 10,kI),(.h 5 0,.blk E160)],some 0,false,1020,[],[(.t 7,kB),(.t 8,kS),(.t 9,kB),(.h 5 0,.blk E160)],fun k (s:Bool×ByteArray×Bool×Int×Sl T160)=>g220_l1 x3 x6 x8 x9 k s.1 s.2.1 s.2.2.1 s.2.2.2.1 s.2.2.2.2,.f,fun(s:Bool×ByteArray×Bool×Int×Sl T160)=>(0≤s.2.2.2.1∧s.2.2.2.1≤((x3.n:Nat):Int)∧((s.2.2.2.2.n:Nat):Int)≤2*s.2.2.2.1),fun(s:Bool×ByteArray×Bool×Int×Sl T160)=>(Int.toNat (((x3.n:Nat):Int)-s.2.2.2.1)),some fun(r:Bool×ByteArray×Bool×Sl T160)=>(((r.2.2.2.n:Nat):Int)≤2000000)⟩ (.s .z (.j ⟨17451730412498940,[.b 7],[(.h 5 0,.blk E160),(.t 7,kB),(.t 8,kS)],[],.f⟩ (.s .z (.j ⟨281856438268,[.b 7],[(.h 5 0,.blk E160),(.t 9,kB)],[],.f⟩ (.j ⟨281856438268,[],[(.t 28,kB),(.t 31,kB),(.t 32,kB),(.t 38,kB)],[(.b .l .f),(.b .l .f),.f,.f],.f⟩ .z .z) .z)) .z)))) (.s .z (.s .z (.j ⟨244,[.b 1,.b 6],[(.h 5 0,.blk E160)],[],.f⟩ .z .z)))))))))) (ms:=[(.b .l .f),(.b .l .f),(.b .l .f),(.b .l .f),(.b .l .f),(.b .l .f),.f,(.b .f .l),(.b .l .f),.l]) (p:=((((0≤(0:Int)∧(0:Int)≤((x3.n:Nat):Int)∧((0:Nat):Int)≤2*(0:Int)))∧(∀(v1_0:Bool) (v1_1:ByteArray) (v1_2:Bool) (v1_3:Int) (v1_4:Sl T160),(0≤v1_3∧v1_3≤((x3.n:Nat):Int)∧((v1_4.n:Nat):Int)≤2*v1_3)→(((decide (v1_3<(x3.n:Int)))=true→(((0:Int)≤v1_3∧v1_3<((x3.n:Nat):Int))∧(((g220_m4 x3 x6 x8 v1_2 v1_3)=true→(v1_4.n+1≤549755813888))∧((!(((x3.at' (Int.toNat v1_3)).c0:ByteArray).toList==(x8:ByteArray).toList))=true→((g220_m5 x3 x6 x8 x9 v1_2 v1_3 v1_4).n+1≤549755813888)))))∧(((decide (v1_3<(x3.n:Int)))=true→((0≤(IntKind.i64.wrap (v1_3+1))∧(IntKind.i64.wrap (v1_3+1))≤((x3.n:Nat):Int)∧(((g220_m7 x3 x6 x8 x9 v1_2 v1_3 v1_4).n:Nat):Int)≤2*(IntKind.i64.wrap (v1_3+1)))∧(Int.toNat (((x3.n:Nat):Int)- (IntKind.i64.wrap (v1_3+1))))<(Int.toNat (((x3.n:Nat):Int)-v1_3))))∧((decide (v1_3<(x3.n:Int)))=false→((((v1_4.n:Nat):Int)≤2000000)))))))∧((((((g220_r10 x3 x6 x8 x9).2.2.2.n:Nat):Int)≤2000000))→((x6==5)=false→((x6==6)=false→((!(g220_r10 x3 x6 x8 x9).2.2.1)=true→((g220_r10 x3 x6 x8 x9).2.2.2.n+1≤549755813888))))))) (mkX_ok ⟨k238,trivial⟩) Tryz.func109 rfl rfl (by kernel_rfl) (⟨⟨(by omega),(fun v1_0 v1_1 v1_2 v1_3 v1_4 hI1=>⟨(fun h2=>⟨(by have:=of_decide_eq_true h2;omega),⟨(fun h3=>(by have:=of_decide_eq_true h2;have:=h3;(try simp [g220_m4]at this);omega)),(fun h4=>(by have:=of_decide_eq_true h2;have:=n220a x3 x6 x8 x9 v1_2 v1_3 v1_4;omega))⟩⟩),⟨(fun h5=>(by have:=of_decide_eq_true h5;have:=n220b x3 x6 x8 x9 v1_2 v1_3 v1_4;first|omega|(have:=wrap64 (x:=(v1_3+1)) (by omega) (by omega);omega))),(fun h6=>(by have:=of_decide_eq_false h6;omega))⟩⟩)⟩,(fun hF7=>(fun h8=>(fun h9=>(fun h10=>(by have:=ne_of_beq_false h8;have:=ne_of_beq_false h9;omega)))))⟩)
theorem k220:XOk Tryz.prog 109 F220.ans:=Fq.ok ⟨_,_,Tryz.func109,rfl,by kernel_rfl⟩ pc220
noncomputable def g221_m1(x6:Int):Bool:=(bif(x6==7)then true else(x6==8))
noncomputable def g221_m2(x6:Int)(x9:ByteArray):Sl ByteArray:=(bif(x6==8)then(Sl.lit ([x9]:List ByteArray))else(nilSl:Sl ByteArray))
noncomputable def g221_l6(x4:Sl ByteArray):Nat→Int→Sl ByteArray→Sl ByteArray
 |0,_,_=>default
 |k+1,v6_0,v6_1=>(bif(decide (v6_0<(x4.n:Int)))then(g221_l6 x4 k (IntKind.i64.wrap (v6_0+1)) (Sl.app v6_1 (Sl.lit ([(x4.at' (Int.toNat v6_0))]:List ByteArray))))else v6_1)
noncomputable def g221_r3(x4:Sl ByteArray)(x6:Int)(x9:ByteArray):Sl ByteArray:=g221_l6 x4 ((Int.toNat (((x4.n:Nat):Int)-0))+1) 0 (g221_m2 x6 x9)
noncomputable def g221_m4(x4:Sl ByteArray)(x6:Int)(x9:ByteArray):Sl ByteArray:=(bif(x6==7)then(Sl.app (g221_r3 x4 x6 x9) (Sl.lit ([x9]:List ByteArray)))else(g221_r3 x4 x6 x9))
noncomputable def g221_m5(x4:Sl ByteArray)(x6:Int):Int:=(bif(x6==10)then 0 else(IntKind.i64.wrap ((x4.n:Int)-1)))
noncomputable def g221_m6(x4:Sl ByteArray)(x6:Int)(v16_0:Int)(v16_1:Sl ByteArray):Sl ByteArray:=(bif(v16_0 !=(g221_m5 x4 x6))then(Sl.app v16_1 (Sl.lit ([(x4.at' (Int.toNat v16_0))]:List ByteArray)))else v16_1)
noncomputable def g221_l16(x4:Sl ByteArray)(x6:Int):Nat→Int→Sl ByteArray→Sl ByteArray
 |0,_,_=>default
 |k+1,v16_0,v16_1=>(bif(decide (v16_0<(x4.n:Int)))then(g221_l16 x4 x6 k (IntKind.i64.wrap (v16_0+1)) (g221_m6 x4 x6 v16_0 v16_1))else v16_1)
noncomputable def g221_r7(x4:Sl ByteArray)(x6:Int):Sl ByteArray:=g221_l16 x4 x6 ((Int.toNat (((x4.n:Nat):Int)-0))+1) 0 (nilSl:Sl ByteArray)
noncomputable def g221_0_0(x0:Int)(x4:Sl ByteArray)(x6:Int):Int:=(bif(g221_m1 x6)then(bif(decide ((x4.n:Int)≥20))then x0 else 4)else 4)
noncomputable def g221_0_1(x1:ByteArray)(x4:Sl ByteArray)(x6:Int):ByteArray:=(bif(g221_m1 x6)then(bif(decide ((x4.n:Int)≥20))then x1 else⟨#[]⟩)else⟨#[]⟩)
noncomputable def g221_0_2(x2:Int)(x4:Sl ByteArray)(x6:Int):Int:=(bif(g221_m1 x6)then(bif(decide ((x4.n:Int)≥20))then x2 else 0)else 0)
noncomputable def g221_0_3(x3:Sl T160)(x4:Sl ByteArray)(x6:Int):Sl T160:=(bif(g221_m1 x6)then(bif(decide ((x4.n:Int)≥20))then x3 else(nilSl:Sl T160))else(nilSl:Sl T160))
noncomputable def g221_0_4(x4:Sl ByteArray)(x6:Int)(x9:ByteArray):Sl ByteArray:=(bif(g221_m1 x6)then(bif(decide ((x4.n:Int)≥20))then x4 else(g221_m4 x4 x6 x9))else(g221_r7 x4 x6))
noncomputable def g221_0_5(x4:Sl ByteArray)(x5:Sl T164)(x6:Int):Sl T164:=(bif(g221_m1 x6)then(bif(decide ((x4.n:Int)≥20))then x5 else(nilSl:Sl T164))else(nilSl:Sl T164))
noncomputable def g221_1_0(x4:Sl ByteArray)(x6:Int):Int:=(bif(g221_m1 x6)then(bif(decide ((x4.n:Int)≥20))then 6 else 0)else 0)
noncomputable def g221_1_1(x4:Sl ByteArray)(x6:Int):ByteArray:=(bif(g221_m1 x6)then⟨#[]⟩else(x4.at' (Int.toNat (g221_m5 x4 x6))))
noncomputable def g221_1_2(x4:Sl ByteArray)(x6:Int):Int:=(bif(g221_m1 x6)then(bif(decide ((x4.n:Int)≥20))then 0 else(IntKind.i64.wrap ((x4.n:Int)+1)))else 0)
noncomputable def g221_1_3:Sl ByteArray:=(nilSl:Sl ByteArray)
theorem n221a(x6:Int)(x9:ByteArray):(((g221_m2 x6 x9).n:Nat):Int)≤1:=by
 unfold g221_m2;cases (x6==8)
 ·show((0:Nat):Int)≤_;omega
 ·show((1:Nat):Int)≤_;omega
theorem n221b(x4:Sl ByteArray)(x6:Int)(i:Int)(s:Sl ByteArray):(((g221_m6 x4 x6 i s).n:Nat):Int)≤s.n+1:=by
 unfold g221_m6;cases (i !=(g221_m5 x4 x6))
 ·show((s.n:Nat):Int)≤_;omega
 ·show(((s.n+1:Nat)):Int)≤_;omega
theorem n221c(x4:Sl ByteArray)(x6:Int):(1≤((x4.n:Nat):Int)∧((x4.n:Nat):Int)≤1000000)→(0≤g221_m5 x4 x6∧g221_m5 x4 x6<((x4.n:Nat):Int)):=by
 intro h
 unfold g221_m5
 cases (x6==10)
 ·show 0≤IntKind.i64.wrap _∧IntKind.i64.wrap _<_
  rw[wrap64 (by omega) (by omega)];omega
 ·show(0:Int)≤0∧(0:Int)<_;omega
noncomputable def F221:Fq:=⟨[.g [kI,kS,kI,.sl E160,.sl E9,.sl E164],.g [kI,kS,kS,kS,kI]],fun(x0:Int) x1 (x2:Int) x3 x4 x5 (x6:Int) _ _ x9 _=>⟨⟨some (x4.n≤1000000∧((7≤x6∧x6≤8)∨1≤x4.n)),.tup [.agg [.int .i64 (g221_0_0 x0 x4 x6),.str (g221_0_1 x1 x4 x6),.int .i64 (g221_0_2 x2 x4 x6),ofSl 2 e160 (g221_0_3 x3 x4 x6),ofSl 1 e9 (g221_0_4 x4 x6 x9),ofSl 2 e164 (g221_0_5 x4 x5 x6)],.agg [.int .i64 (g221_1_0 x4 x6),.str (g221_1_1 x4 x6),.int .i64 (g221_1_2 x4 x6),ofSl 1 e9 g221_1_3]]⟩⟩⟩
theorem pc221:FnOk Tryz.prog 110 F221.sh _ (F221.sh.flatMap Sh.bs) F221.f []:=
 fun(x0:Int) x1 n1 (x2:Int) x3 n3 _ x4 n4 _ x5 n5 _ (x6:Int) x7 n7 x8 n8 x9 n9 (x10:Int) hp=>pure_of_exec (X:=X0) (R:=⟨.pure,[.cell 4 64,.cell 5 36],[(.c 0 0,kI),(.c 0 1,kS),(.c 0 2,kI),(.c 0 3,.sl E160),(.c 0 4,.sl E9),(.c 0 5,.sl E164),(.c 1 0,kI),(.c 1 1,kS),(.c 1 2,kI),(.c 1 3,.sl E9)],⟨[.agg (us 6 []),.agg (us 4 [])],[]⟩⟩) (h:=(.s .z (.s .z (.s (.j ⟨4194428,[],[(.t 22,kB)],[],.f⟩ .z (.s (.s .z (.s .z (.jc ⟨252,[.b 5],[(.h 8 0,.blk E9)],[],.f⟩ [.own (.h 4 4) E9 8] .z (.j ⟨252,[],[],[],.f⟩ (.s .z (.lp ⟨508,[],[],[(.t 8,kI),(.h 8 0,.blk E9)],some 0,false,252,[],[(.h 8 0,.blk E9)],fun k (s:Int×Sl ByteArray)=>g221_l6 x4 k s.1 s.2,.f,fun(s:Int×Sl ByteArray)=>(0≤s.1∧s.1≤((x4.n:Nat):Int)∧((s.2.n:Nat):Int)≤1+s.1),fun(s:Int×Sl ByteArray)=>(Int.toNat (((x4.n:Nat):Int)-s.1)),some fun(r:Sl ByteArray)=>(((r.n:Nat):Int)≤1000001)⟩ .z)) (.j ⟨252,[.b 9],[(.h 8 0,.blk E9)],[],.f⟩ .z .z))))) .z)) (.s .z (.j ⟨628,[.b 1],[(.t 9,kI)],[],.f⟩ .z (.s .z (.j ⟨1588,[],[],[],.f⟩ (.s .z (.lp ⟨3700,[],[(.h 4 4,E9)],[(.t 11,kI),(.h 5 0,.blk E9)],some 2,false,1588,[],[(.h 5 0,.blk E9)],fun k (s:Int×Sl ByteArray)=>g221_l16 x4 x6 k s.1 s.2,.f,fun(s:Int×Sl ByteArray)=>(0≤s.1∧s.1≤((x4.n:Nat):Int)∧((s.2.n:Nat):Int)≤s.1),fun(s:Int×Sl ByteArray)=>(Int.toNat (((x4.n:Nat):Int)-s.1)),some fun(r:Sl ByteArray)=>(((r.n:Nat):Int)≤1000000)⟩ (.s .z (.j ⟨2181733315085776088731252,[.b 6],[(.h 5 0,.blk E9)],[],.f⟩ .z .z)))) .z)))))))) (ms:=[.f,.f,.f,.f,.f,.f,.f,(.b .l .f),.f,.l]) (p:=(((g221_m1 x6)=true→((decide ((x4.n:Int)≥20))=false→(((x6==8)=true→(1≤549755813888))∧((((0≤(0:Int)∧(0:Int)≤((x4.n:Nat):Int)∧(((g221_m2 x6 x9).n:Nat):Int)≤1+(0:Int)))∧(∀(v6_0:Int) (v6_1:Sl ByteArray),(0≤v6_0∧v6_0≤((x4.n:Nat):Int)∧((v6_1.n:Nat):Int)≤1+v6_0)→(((decide (v6_0<(x4.n:Int)))=true→(((0:Int)≤v6_0∧v6_0<((x4.n:Nat):Int))∧(v6_1.n+1≤549755813888)))∧(((decide (v6_0<(x4.n:Int)))=true→((0≤(IntKind.i64.wrap (v6_0+1))∧(IntKind.i64.wrap (v6_0+1))≤((x4.n:Nat):Int)∧(((v6_1.n+1):Nat):Int)≤1+(IntKind.i64.wrap (v6_0+1)))∧(Int.toNat (((x4.n:Nat):Int)- (IntKind.i64.wrap (v6_0+1))))<(Int.toNat (((x4.n:Nat):Int)-v6_0))))∧((decide (v6_0<(x4.n:Int)))=false→((((v6_1.n:Nat):Int)≤1000001)))))))∧((((((g221_r3 x4 x6 x9).n:Nat):Int)≤1000001))→((x6==7)=true→((g221_r3 x4 x6 x9).n+1≤549755813888)))))))∧((g221_m1 x6)=false→((((0≤(0:Int)∧(0:Int)≤((x4.n:Nat):Int)∧((0:Nat):Int)≤(0:Int)))∧(∀(v16_0:Int) (v16_1:Sl ByteArray),(0≤v16_0∧v16_0≤((x4.n:Nat):Int)∧((v16_1.n:Nat):Int)≤v16_0)→(((decide (v16_0<(x4.n:Int)))=true→((v16_0 !=(g221_m5 x4 x6))=true→(((0:Int)≤v16_0∧v16_0<((x4.n:Nat):Int))∧(v16_1.n+1≤549755813888))))∧(((decide (v16_0<(x4.n:Int)))=true→((0≤(IntKind.i64.wrap (v16_0+1))∧(IntKind.i64.wrap (v16_0+1))≤((x4.n:Nat):Int)∧(((g221_m6 x4 x6 v16_0 v16_1).n:Nat):Int)≤(IntKind.i64.wrap (v16_0+1)))∧(Int.toNat (((x4.n:Nat):Int)- (IntKind.i64.wrap (v16_0+1))))<(Int.toNat (((x4.n:Nat):Int)-v16_0))))∧((decide (v16_0<(x4.n:Int)))=false→((((v16_1.n:Nat):Int)≤1000000)))))))∧((((((g221_r7 x4 x6).n:Nat):Int)≤1000000))→((0:Int)≤(g221_m5 x4 x6)∧(g221_m5 x4 x6)<((x4.n:Nat):Int))))))) X0_ok Tryz.func110 rfl rfl (by kernel_rfl) (have⟨hq0,hq1⟩:=hp;⟨(fun h1=>(fun h2=>⟨(fun h3=>(by have:=h1;(try simp [g221_m1]at this);have:=of_decide_eq_false h2;have:=eq_of_beq h3;omega)),⟨⟨(by have:=h1;(try simp [g221_m1]at this);have:=of_decide_eq_false h2;have:=n221a x6 x9;omega),(fun v6_0 v6_1 hI4=>⟨(fun h5=>⟨(by have:=h1;(try simp [g221_m1]at this);have:=of_decide_eq_false h2;have:=of_decide_eq_true h5;omega),(by have:=h1;(try simp [g221_m1]at this);have:=of_decide_eq_false h2;have:=of_decide_eq_true h5;omega)⟩),⟨(fun h6=>(by have:=h1;(try simp [g221_m1]at this);have:=of_decide_eq_false h2;have:=of_decide_eq_true h6;first|omega|(have:=wrap64 (x:=(v6_0+1)) (by omega) (by omega);omega))),(fun h7=>(by have:=h1;(try simp [g221_m1]at this);have:=of_decide_eq_false h2;have:=of_decide_eq_false h7;omega))⟩⟩)⟩,(fun hF8=>(fun h9=>(by have:=h1;(try simp [g221_m1]at this);have:=of_decide_eq_false h2;have:=eq_of_beq h9;omega)))⟩⟩)),(fun h10=>⟨⟨(by have:=h10;simp [g221_m1]at this;omega),(fun v16_0 v16_1 hI11=>⟨(fun h12=>(fun h13=>⟨(by have:=h10;simp [g221_m1]at this;have:=of_decide_eq_true h12;have:=bne_iff_ne.1 h13;omega),(by have:=h10;simp [g221_m1]at this;have:=of_decide_eq_true h12;have:=bne_iff_ne.1 h13;omega)⟩)),⟨(fun h14=>(by have:=h10;simp [g221_m1]at this;have:=of_decide_eq_true h14;have:=n221b x4 x6 v16_0 v16_1;first|omega|(have:=wrap64 (x:=(v16_0+1)) (by omega) (by omega);omega))),(fun h15=>(by have:=h10;simp [g221_m1]at this;have:=of_decide_eq_false h15;omega))⟩⟩)⟩,(fun hF16=>(by have:=h10;simp [g221_m1]at this;have:=n221c x4 x6;omega))⟩)⟩)
theorem k221:XOk Tryz.prog 110 F221.ans:=Fq.ok ⟨_,_,Tryz.func110,rfl,by kernel_rfl⟩ pc221
noncomputable def g222_m4(x4:Sl ByteArray)(x6:Int)(x9:ByteArray)(v1_1:Bool)(v1_2:Int):Bool:=(bif(x6==11)then(bif(!v1_1)then(!(Op.bytesLess (((x4.at' (Int.toNat v1_2)):ByteArray).toList) ((x9:ByteArray).toList)))else false)else false)
noncomputable def g222_m5(x4:Sl ByteArray)(x6:Int)(x9:ByteArray)(v1_1:Bool)(v1_2:Int)(v1_3:Sl ByteArray):Sl ByteArray:=(bif(g222_m4 x4 x6 x9 v1_1 v1_2)then(Sl.app v1_3 (Sl.lit ([x9]:List ByteArray)))else v1_3)
noncomputable def g222_m6(x4:Sl ByteArray)(x6:Int)(x9:ByteArray)(v1_1:Bool)(v1_2:Int):Bool:=(bif(g222_m4 x4 x6 x9 v1_1 v1_2)then true else v1_1)
noncomputable def g222_m7(x4:Sl ByteArray)(x6:Int)(x9:ByteArray)(v1_1:Bool)(v1_2:Int)(v1_3:Sl ByteArray):Sl ByteArray:=(bif(((x4.at' (Int.toNat v1_2)):ByteArray).toList==(x9:ByteArray).toList)then(g222_m5 x4 x6 x9 v1_1 v1_2 v1_3)else(Sl.app (g222_m5 x4 x6 x9 v1_1 v1_2 v1_3) (Sl.lit ([(x4.at' (Int.toNat v1_2))]:List ByteArray))))
noncomputable def g222_m8(x4:Sl ByteArray)(x9:ByteArray)(v1_0:Bool)(v1_2:Int):Bool:=(bif(((x4.at' (Int.toNat v1_2)):ByteArray).toList==(x9:ByteArray).toList)then true else v1_0)
noncomputable def g222_l1(x4:Sl ByteArray)(x6:Int)(x9:ByteArray):Nat→Bool→Bool→Int→Sl ByteArray→Bool×Bool×Sl ByteArray
 |0,_,_,_,_=>default
 |k+1,v1_0,v1_1,v1_2,v1_3=>(bif(decide (v1_2<(x4.n:Int)))then(g222_l1 x4 x6 x9 k (g222_m8 x4 x9 v1_0 v1_2) (g222_m6 x4 x6 x9 v1_1 v1_2) (IntKind.i64.wrap (v1_2+1)) (g222_m7 x4 x6 x9 v1_1 v1_2 v1_3))else(v1_0,v1_1,v1_3))
noncomputable def g222_r9(x4:Sl ByteArray)(x6:Int)(x9:ByteArray):Bool×Bool×Sl ByteArray:=g222_l1 x4 x6 x9 ((Int.toNat (((x4.n:Nat):Int)-0))+1) false false 0 (nilSl:Sl ByteArray)
noncomputable def g222_m10(x4:Sl ByteArray)(x6:Int)(x9:ByteArray):Sl ByteArray:=(bif(!(g222_r9 x4 x6 x9).2.1)then(Sl.app (g222_r9 x4 x6 x9).2.2 (Sl.lit ([x9]:List ByteArray)))else(g222_r9 x4 x6 x9).2.2)
noncomputable def g222_0_0(x0:Int)(x4:Sl ByteArray)(x6:Int)(x9:ByteArray):Int:=(bif(x6==13)then x0 else(bif(x6==12)then 5 else(bif(decide ((((g222_m10 x4 x6 x9).n:Nat):Int)>20))then x0 else 5)))
noncomputable def g222_0_1(x1:ByteArray)(x4:Sl ByteArray)(x6:Int)(x9:ByteArray):ByteArray:=(bif(x6==13)then x1 else(bif(x6==12)then⟨#[]⟩else(bif(decide ((((g222_m10 x4 x6 x9).n:Nat):Int)>20))then x1 else⟨#[]⟩)))
noncomputable def g222_0_2(x2:Int)(x4:Sl ByteArray)(x6:Int)(x9:ByteArray):Int:=(bif(x6==13)then x2 else(bif(x6==12)then 0 else(bif(decide ((((g222_m10 x4 x6 x9).n:Nat):Int)>20))then x2 else 0)))
noncomputable def g222_0_3(x3:Sl T160)(x4:Sl ByteArray)(x6:Int)(x9:ByteArray):Sl T160:=(bif(x6==13)then x3 else(bif(x6==12)then(nilSl:Sl T160)else(bif(decide ((((g222_m10 x4 x6 x9).n:Nat):Int)>20))then x3 else(nilSl:Sl T160))))
noncomputable def g222_0_4(x4:Sl ByteArray)(x6:Int)(x9:ByteArray):Sl ByteArray:=(bif(x6==13)then x4 else(bif(x6==12)then(g222_r9 x4 x6 x9).2.2 else(bif(decide ((((g222_m10 x4 x6 x9).n:Nat):Int)>20))then x4 else(g222_m10 x4 x6 x9))))
noncomputable def g222_0_5(x4:Sl ByteArray)(x5:Sl T164)(x6:Int)(x9:ByteArray):Sl T164:=(bif(x6==13)then x5 else(bif(x6==12)then(nilSl:Sl T164)else(bif(decide ((((g222_m10 x4 x6 x9).n:Nat):Int)>20))then x5 else(nilSl:Sl T164))))
noncomputable def g222_1_0(x4:Sl ByteArray)(x6:Int)(x9:ByteArray):Int:=(bif(x6==13)then 0 else(bif(x6==12)then 0 else(bif(decide ((((g222_m10 x4 x6 x9).n:Nat):Int)>20))then 6 else 0)))
noncomputable def g222_1_1:ByteArray:=⟨#[]⟩
noncomputable def g222_1_2(x4:Sl ByteArray)(x6:Int)(x9:ByteArray):Int:=(bif(x6==13)then(g238 (g222_r9 x4 x6 x9).1)else(bif(x6==12)then(g238 (g222_r9 x4 x6 x9).1)else(bif(decide ((((g222_m10 x4 x6 x9).n:Nat):Int)>20))then 0 else(g238 (!(g222_r9 x4 x6 x9).1)))))
noncomputable def g222_1_3:Sl ByteArray:=(nilSl:Sl ByteArray)
theorem n222a(x4:Sl ByteArray)(x6:Int)(x9:ByteArray)(b:Bool)(i:Int)(s:Sl ByteArray):(((g222_m5 x4 x6 x9 b i s).n:Nat):Int)≤s.n+1:=by
 unfold g222_m5;cases g222_m4 x4 x6 x9 b i
 ·show((s.n:Nat):Int)≤_;omega
 ·show(((s.n+1:Nat)):Int)≤_;omega
theorem n222b(x4:Sl ByteArray)(x6:Int)(x9:ByteArray)(b:Bool)(i:Int)(s:Sl ByteArray):(((g222_m7 x4 x6 x9 b i s).n:Nat):Int)≤s.n+2:=by
 have:=n222a x4 x6 x9 b i s
 unfold g222_m7;cases (((x4.at' (Int.toNat i)):ByteArray).toList==(x9:ByteArray).toList)
 ·show((((g222_m5 x4 x6 x9 b i s).n+1:Nat)):Int)≤_;omega
 ·show(((g222_m5 x4 x6 x9 b i s).n:Nat):Int)≤_;omega
noncomputable def F222:Fq:=⟨[.g [kI,kS,kI,.sl E160,.sl E9,.sl E164],.g [kI,kS,kS,kS,kI]],fun(x0:Int) x1 (x2:Int) x3 x4 x5 (x6:Int) _ _ x9 _=>⟨⟨some (x4.n≤1000000),.tup [.agg [.int .i64 (g222_0_0 x0 x4 x6 x9),.str (g222_0_1 x1 x4 x6 x9),.int .i64 (g222_0_2 x2 x4 x6 x9),ofSl 2 e160 (g222_0_3 x3 x4 x6 x9),ofSl 1 e9 (g222_0_4 x4 x6 x9),ofSl 2 e164 (g222_0_5 x4 x5 x6 x9)],.agg [.int .i64 (g222_1_0 x4 x6 x9),.str g222_1_1,.int .i64 (g222_1_2 x4 x6 x9),ofSl 1 e9 g222_1_3]]⟩⟩⟩
theorem pc222:FnOk Tryz.prog 111 F222.sh _ (F222.sh.flatMap Sh.bs) F222.f []:=
 fun(x0:Int) x1 n1 (x2:Int) x3 n3 _ x4 n4 _ x5 n5 _ (x6:Int) x7 n7 x8 n8 x9 n9 (x10:Int) hp=>pure_of_exec (X:=(mkX [(91,F238.ans)])) (R:=⟨.pure,[.cell 4 64,.cell 5 36],[(.c 0 0,kI),(.c 0 1,kS),(.c 0 2,kI),(.c 0 3,.sl E160),(.c 0 4,.sl E9),(.c 0 5,.sl E164),(.c 1 0,kI),(.c 1 1,kS),(.c 1 2,kI),(.c 1 3,.sl E9)],⟨[.agg (us 6 []),.agg (us 4 [])],[]⟩⟩) (h:=(.s .z (.s .z (.s .z (.s .z (.j ⟨508,[],[],[],.f⟩ (.s .z (.lp ⟨1020,[],[(.h 4 4,E9)],[(.t 7,kB),(.t 8,kB),(.t 9,kI),(.h 5 0,.blk E9)],some 0,false,508,[],[(.t 7,kB),(.t 8,kB),(.h 5 0,.blk E9)],fun k (s:Bool×Bool×Int×Sl ByteArray)=>g222_l1 x4 x6 x9 k s.1 s.2.1 s.2.2.1 s.2.2.2,.f,fun(s:Bool×Bool×Int×Sl ByteArray)=>(0≤s.2.2.1∧s.2.2.1≤((x4.n:Nat):Int)∧((s.2.2.2.n:Nat):Int)≤2*s.2.2.1),fun(s:Bool×Bool×Int×Sl ByteArray)=>(Int.toNat (((x4.n:Nat):Int)-s.2.2.1)),some fun(r:Bool×Bool×Sl ByteArray)=>(((r.2.2.n:Nat):Int)≤2000000)⟩ (.s .z (.j ⟨1121519094529020,[],[(.h 5 0,.blk E9),(.t 7,kB)],[],.f⟩ (.j ⟨17234197500,[.b 6],[(.h 5 0,.blk E9),(.t 8,kB)],[],.f⟩ (.j ⟨17234197500,[],[(.t 21,kB),(.t 24,kB),(.t 25,kB),(.t 34,kB)],[(.b .l .f),(.b .l .f),.f,.f],.f⟩ .z .z) .z) .z)))) (.s .z (.s .z (.j ⟨244,[.b 1,.b 6],[(.h 5 0,.blk E9)],[],.f⟩ .z .z))))))))) (ms:=[.f,.f,.f,.f,.f,.f,.f,.l,.f,.l]) (p:=((((0≤(0:Int)∧(0:Int)≤((x4.n:Nat):Int)∧((0:Nat):Int)≤2*(0:Int)))∧(∀(v1_0:Bool) (v1_1:Bool) (v1_2:Int) (v1_3:Sl ByteArray),(0≤v1_2∧v1_2≤((x4.n:Nat):Int)∧((v1_3.n:Nat):Int)≤2*v1_2)→(((decide (v1_2<(x4.n:Int)))=true→((((x6==11)=true→((!v1_1)=true→((0:Int)≤v1_2∧v1_2<((x4.n:Nat):Int))))∧((g222_m4 x4 x6 x9 v1_1 v1_2)=true→(v1_3.n+1≤549755813888)))∧(((0:Int)≤v1_2∧v1_2<((x4.n:Nat):Int))∧((((x4.at' (Int.toNat v1_2)):ByteArray).toList==(x9:ByteArray).toList)=false→(((0:Int)≤v1_2∧v1_2<((x4.n:Nat):Int))∧((g222_m5 x4 x6 x9 v1_1 v1_2 v1_3).n+1≤549755813888))))))∧(((decide (v1_2<(x4.n:Int)))=true→((0≤(IntKind.i64.wrap (v1_2+1))∧(IntKind.i64.wrap (v1_2+1))≤((x4.n:Nat):Int)∧(((g222_m7 x4 x6 x9 v1_1 v1_2 v1_3).n:Nat):Int)≤2*(IntKind.i64.wrap (v1_2+1)))∧(Int.toNat (((x4.n:Nat):Int)- (IntKind.i64.wrap (v1_2+1))))<(Int.toNat (((x4.n:Nat):Int)-v1_2))))∧((decide (v1_2<(x4.n:Int)))=false→((((v1_3.n:Nat):Int)≤2000000)))))))∧((((((g222_r9 x4 x6 x9).2.2.n:Nat):Int)≤2000000))→((x6==13)=false→((x6==12)=false→((!(g222_r9 x4 x6 x9).2.1)=true→((g222_r9 x4 x6 x9).2.2.n+1≤549755813888))))))) (mkX_ok ⟨k238,trivial⟩) Tryz.func111 rfl rfl (by kernel_rfl) (⟨⟨(by omega),(fun v1_0 v1_1 v1_2 v1_3 hI1=>⟨(fun h2=>⟨⟨(fun h3=>(fun h4=>(by have:=of_decide_eq_true h2;have:=eq_of_beq h3;omega))),(fun h5=>(by have:=of_decide_eq_true h2;have:=h5;(try simp [g222_m4]at this);omega))⟩,⟨(by have:=of_decide_eq_true h2;omega),(fun h6=>⟨(by have:=of_decide_eq_true h2;omega),(by have:=of_decide_eq_true h2;have:=n222a x4 x6 x9 v1_1 v1_2 v1_3;omega)⟩)⟩⟩),⟨(fun h7=>(by have:=of_decide_eq_true h7;have:=n222b x4 x6 x9 v1_1 v1_2 v1_3;first|omega|(have:=wrap64 (x:=(v1_2+1)) (by omega) (by omega);omega))),(fun h8=>(by have:=of_decide_eq_false h8;omega))⟩⟩)⟩,(fun hF9=>(fun h10=>(fun h11=>(fun h12=>(by have:=ne_of_beq_false h10;have:=ne_of_beq_false h11;omega)))))⟩)
theorem k222:XOk Tryz.prog 111 F222.ans:=Fq.ok ⟨_,_,Tryz.func111,rfl,by kernel_rfl⟩ pc222
noncomputable def g223_m2(x5:Sl T164)(x9:ByteArray)(x10:Int)(v3_0:Bool)(v3_1:Int):Bool:=(bif(!v3_0)then(g146 x9 x10 (x5.at' (Int.toNat v3_1)).c0 (x5.at' (Int.toNat v3_1)).c1)else false)
noncomputable def g223_m3(x5:Sl T164)(x9:ByteArray)(x10:Int)(v3_0:Bool)(v3_1:Int)(v3_2:Sl T164):Sl T164:=(bif(g223_m2 x5 x9 x10 v3_0 v3_1)then(Sl.app v3_2 (Sl.lit ([(⟨x9,x10⟩:T164)]:List T164)))else v3_2)
noncomputable def g223_m4(x5:Sl T164)(x9:ByteArray)(x10:Int)(v3_0:Bool)(v3_1:Int):Bool:=(bif(g223_m2 x5 x9 x10 v3_0 v3_1)then true else v3_0)
noncomputable def g223_m5(x5:Sl T164)(x9:ByteArray)(x10:Int)(v3_0:Bool)(v3_1:Int)(v3_2:Sl T164):Sl T164:=(bif(v3_1==(g147 x5 x9))then v3_2 else(Sl.app (g223_m3 x5 x9 x10 v3_0 v3_1 v3_2) (Sl.lit ([(x5.at' (Int.toNat v3_1))]:List T164))))
noncomputable def g223_m6(x5:Sl T164)(x9:ByteArray)(x10:Int)(v3_0:Bool)(v3_1:Int):Bool:=(bif(v3_1==(g147 x5 x9))then v3_0 else(g223_m4 x5 x9 x10 v3_0 v3_1))
noncomputable def g223_l3(x5:Sl T164)(x9:ByteArray)(x10:Int):Nat→Bool→Int→Sl T164→Bool×Sl T164
 |0,_,_,_=>default
 |k+1,v3_0,v3_1,v3_2=>(bif(decide (v3_1<(x5.n:Int)))then(g223_l3 x5 x9 x10 k (g223_m6 x5 x9 x10 v3_0 v3_1) (IntKind.i64.wrap (v3_1+1)) (g223_m5 x5 x9 x10 v3_0 v3_1 v3_2))else(v3_0,v3_2))
noncomputable def g223_r7(x5:Sl T164)(x6:Int)(x9:ByteArray)(x10:Int):Bool×Sl T164:=g223_l3 x5 x9 x10 ((Int.toNat (((x5.n:Nat):Int)-0))+1) (x6==15) 0 (nilSl:Sl T164)
noncomputable def g223_m8(x5:Sl T164)(x6:Int)(x9:ByteArray)(x10:Int):Sl T164:=(bif(!(g223_r7 x5 x6 x9 x10).1)then(Sl.app (g223_r7 x5 x6 x9 x10).2 (Sl.lit ([(⟨x9,x10⟩:T164)]:List T164)))else(g223_r7 x5 x6 x9 x10).2)
noncomputable def g223_0_0(x0:Int)(x5:Sl T164)(x6:Int)(x9:ByteArray)(x10:Int):Int:=(bif(x6==16)then x0 else(bif(x6==15)then 6 else(bif(decide ((((g223_m8 x5 x6 x9 x10).n:Nat):Int)>20))then x0 else 6)))
noncomputable def g223_0_1(x1:ByteArray)(x5:Sl T164)(x6:Int)(x9:ByteArray)(x10:Int):ByteArray:=(bif(x6==16)then x1 else(bif(x6==15)then⟨#[]⟩else(bif(decide ((((g223_m8 x5 x6 x9 x10).n:Nat):Int)>20))then x1 else⟨#[]⟩)))
noncomputable def g223_0_2(x2:Int)(x5:Sl T164)(x6:Int)(x9:ByteArray)(x10:Int):Int:=(bif(x6==16)then x2 else(bif(x6==15)then 0 else(bif(decide ((((g223_m8 x5 x6 x9 x10).n:Nat):Int)>20))then x2 else 0)))
noncomputable def g223_0_3(x3:Sl T160)(x5:Sl T164)(x6:Int)(x9:ByteArray)(x10:Int):Sl T160:=(bif(x6==16)then x3 else(bif(x6==15)then(nilSl:Sl T160)else(bif(decide ((((g223_m8 x5 x6 x9 x10).n:Nat):Int)>20))then x3 else(nilSl:Sl T160))))
noncomputable def g223_0_4(x4:Sl ByteArray)(x5:Sl T164)(x6:Int)(x9:ByteArray)(x10:Int):Sl ByteArray:=(bif(x6==16)then x4 else(bif(x6==15)then(nilSl:Sl ByteArray)else(bif(decide ((((g223_m8 x5 x6 x9 x10).n:Nat):Int)>20))then x4 else(nilSl:Sl ByteArray))))
noncomputable def g223_0_5(x5:Sl T164)(x6:Int)(x9:ByteArray)(x10:Int):Sl T164:=(bif(x6==16)then x5 else(bif(x6==15)then(g223_r7 x5 x6 x9 x10).2 else(bif(decide ((((g223_m8 x5 x6 x9 x10).n:Nat):Int)>20))then x5 else(g223_m8 x5 x6 x9 x10))))
noncomputable def g223_1_0(x5:Sl T164)(x6:Int)(x9:ByteArray)(x10:Int):Int:=(bif(x6==16)then(bif(decide ((g147 x5 x9)<0))then 5 else 0)else(bif(x6==15)then 0 else(bif(decide ((((g223_m8 x5 x6 x9 x10).n:Nat):Int)>20))then 6 else 0)))
noncomputable def g223_1_1:ByteArray:=⟨#[]⟩
noncomputable def g223_1_2(x5:Sl T164)(x6:Int)(x9:ByteArray)(x10:Int):Int:=(bif(x6==16)then(bif(decide ((g147 x5 x9)<0))then 0 else(g147 x5 x9))else(bif(x6==15)then(g238 (decide ((g147 x5 x9)≥0)))else(bif(decide ((((g223_m8 x5 x6 x9 x10).n:Nat):Int)>20))then 0 else(g238 (decide ((g147 x5 x9)<0))))))
noncomputable def g223_1_3:Sl ByteArray:=(nilSl:Sl ByteArray)
theorem n223a(x5:Sl T164)(x9:ByteArray)(x10:Int)(b:Bool)(i:Int)(s:Sl T164):(((g223_m3 x5 x9 x10 b i s).n:Nat):Int)≤s.n+1:=by
 unfold g223_m3;cases g223_m2 x5 x9 x10 b i
 ·show((s.n:Nat):Int)≤_;omega
 ·show(((s.n+1:Nat)):Int)≤_;omega
theorem n223b(x5:Sl T164)(x9:ByteArray)(x10:Int)(b:Bool)(i:Int)(s:Sl T164):(((g223_m5 x5 x9 x10 b i s).n:Nat):Int)≤s.n+2:=by
 have:=n223a x5 x9 x10 b i s
 unfold g223_m5;cases (i==(g147 x5 x9))
 ·show((((g223_m3 x5 x9 x10 b i s).n+1:Nat)):Int)≤_;omega
 ·show((s.n:Nat):Int)≤_;omega
noncomputable def F223:Fq:=⟨[.g [kI,kS,kI,.sl E160,.sl E9,.sl E164],.g [kI,kS,kS,kS,kI]],fun(x0:Int) x1 (x2:Int) x3 x4 x5 (x6:Int) _ _ x9 (x10:Int)=>⟨⟨some (x5.n≤1000000),.tup [.agg [.int .i64 (g223_0_0 x0 x5 x6 x9 x10),.str (g223_0_1 x1 x5 x6 x9 x10),.int .i64 (g223_0_2 x2 x5 x6 x9 x10),ofSl 2 e160 (g223_0_3 x3 x5 x6 x9 x10),ofSl 1 e9 (g223_0_4 x4 x5 x6 x9 x10),ofSl 2 e164 (g223_0_5 x5 x6 x9 x10)],.agg [.int .i64 (g223_1_0 x5 x6 x9 x10),.str g223_1_1,.int .i64 (g223_1_2 x5 x6 x9 x10),ofSl 1 e9 g223_1_3]]⟩⟩⟩
theorem pc223:FnOk Tryz.prog 112 F223.sh _ (F223.sh.flatMap Sh.bs) F223.f []:=
 fun(x0:Int) x1 n1 (x2:Int) x3 n3 _ x4 n4 _ x5 n5 _ (x6:Int) x7 n7 x8 n8 x9 n9 (x10:Int) hp=>pure_of_exec (X:=(mkX [(87,F146.ans),(88,F147.ans),(91,F238.ans)])) (R:=⟨.pure,[.cell 4 64,.cell 5 36],[(.c 0 0,kI),(.c 0 1,kS),(.c 0 2,kI),(.c 0 3,.sl E160),(.c 0 4,.sl E9),(.c 0 5,.sl E164),(.c 1 0,kI),(.c 1 1,kS),(.c 1 2,kI),(.c 1 3,.sl E9)],⟨[.agg (us 6 []),.agg (us 4 [])],[]⟩⟩) (h:=(.s .z (.s .z (.s .z (.s .z (.s .z (.s .z (.j ⟨1020,[],[],[],.f⟩ (.s .z (.lp ⟨2044,[],[(.h 4 5,E164)],[(.t 9,kB),(.t 10,kI),(.h 6 0,.blk E164)],some 0,false,1020,[],[(.t 9,kB),(.h 6 0,.blk E164)],fun k (s:Bool×Int×Sl T164)=>g223_l3 x5 x9 x10 k s.1 s.2.1 s.2.2,.f,fun(s:Bool×Int×Sl T164)=>(0≤s.2.1∧s.2.1≤((x5.n:Nat):Int)∧((s.2.2.n:Nat):Int)≤2*s.2.1),fun(s:Bool×Int×Sl T164)=>(Int.toNat (((x5.n:Nat):Int)-s.2.1)),some fun(r:Bool×Sl T164)=>(((r.2.n:Nat):Int)≤2000000)⟩ (.s .z (.j ⟨31851477469180,[],[(.h 6 0,.blk E164),(.t 9,kB)],[],.f⟩ (.s .z (.j ⟨36306939101054972,[.b 7],[(.h 6 0,.blk E164),(.t 9,kB)],[],.f⟩ (.j ⟨36306939101054972,[],[(.t 47,kB),(.t 55,kB)],[],.f⟩ .z .z) .z)) .z)))) (.s .z (.j ⟨244,[.b 1,.b 5,.b 7],[(.h 6 0,.blk E164)],[],.f⟩ .z .z)))))))))) (ms:=[(.b .l .f),(.b .l .f),(.b .l .f),(.b .l .f),(.b .l .f),(.b .l .f),.f,.l,.f,.l]) (p:=((x6==16)=false→((((0≤(0:Int)∧(0:Int)≤((x5.n:Nat):Int)∧((0:Nat):Int)≤2*(0:Int)))∧(∀(v3_0:Bool) (v3_1:Int) (v3_2:Sl T164),(0≤v3_1∧v3_1≤((x5.n:Nat):Int)∧((v3_2.n:Nat):Int)≤2*v3_1)→(((decide (v3_1<(x5.n:Int)))=true→((v3_1==(g147 x5 x9))=false→((((!v3_0)=true→((0:Int)≤v3_1∧v3_1<((x5.n:Nat):Int)))∧((g223_m2 x5 x9 x10 v3_0 v3_1)=true→(v3_2.n+1≤549755813888)))∧(((0:Int)≤v3_1∧v3_1<((x5.n:Nat):Int))∧((g223_m3 x5 x9 x10 v3_0 v3_1 v3_2).n+1≤549755813888)))))∧(((decide (v3_1<(x5.n:Int)))=true→((0≤(IntKind.i64.wrap (v3_1+1))∧(IntKind.i64.wrap (v3_1+1))≤((x5.n:Nat):Int)∧(((g223_m5 x5 x9 x10 v3_0 v3_1 v3_2).n:Nat):Int)≤2*(IntKind.i64.wrap (v3_1+1)))∧(Int.toNat (((x5.n:Nat):Int)- (IntKind.i64.wrap (v3_1+1))))<(Int.toNat (((x5.n:Nat):Int)-v3_1))))∧((decide (v3_1<(x5.n:Int)))=false→((((v3_2.n:Nat):Int)≤2000000)))))))∧((((((g223_r7 x5 x6 x9 x10).2.n:Nat):Int)≤2000000))→((x6==15)=false→((!(g223_r7 x5 x6 x9 x10).1)=true→((g223_r7 x5 x6 x9 x10).2.n+1≤549755813888))))))) (mkX_ok ⟨k146,k147,k238,trivial⟩) Tryz.func112 rfl rfl (by kernel_rfl) ((fun h1=>⟨⟨(by have:=ne_of_beq_false h1;omega),(fun v3_0 v3_1 v3_2 hI2=>⟨(fun h3=>(fun h4=>⟨⟨(fun h5=>(by have:=ne_of_beq_false h1;have:=of_decide_eq_true h3;have:=ne_of_beq_false h4;omega)),(fun h6=>(by have:=ne_of_beq_false h1;have:=of_decide_eq_true h3;have:=ne_of_beq_false h4;have:=h6;(try simp [g223_m2]at this);omega))⟩,⟨(by have:=ne_of_beq_false h1;have:=of_decide_eq_true h3;have:=ne_of_beq_false h4;omega),(by have:=ne_of_beq_false h1;have:=of_decide_eq_true h3;have:=ne_of_beq_false h4;have:=n223a x5 x9 x10 v3_0 v3_1 v3_2;omega)⟩⟩)),⟨(fun h7=>(by have:=ne_of_beq_false h1;have:=of_decide_eq_true h7;have:=n223b x5 x9 x10 v3_0 v3_1 v3_2;first|omega|(have:=wrap64 (x:=(v3_1+1)) (by omega) (by omega);omega))),(fun h8=>(by have:=ne_of_beq_false h1;have:=of_decide_eq_false h8;omega))⟩⟩)⟩,(fun hF9=>(fun h10=>(fun h11=>(by have:=ne_of_beq_false h1;have:=ne_of_beq_false h10;omega))))⟩))
theorem k223:XOk Tryz.prog 112 F223.ans:=Fq.ok ⟨_,_,Tryz.func112,rfl,by kernel_rfl⟩ pc223
end Go.Proofs.YtfbpilmhnpkfhaaGreatDoor
