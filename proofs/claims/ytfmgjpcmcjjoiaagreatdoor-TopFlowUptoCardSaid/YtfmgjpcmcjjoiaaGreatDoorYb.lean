/- Part of a proof: walks of the program. -/
import Derived.Test.YtfmgjpcmcjjoiaaGreatDoorXx
open Go.IntKind (i64 u64 u8)
open Int (toNat)
set_option maxRecDepth 100000
set_option maxHeartbeats 4000000
set_option linter.all false
noncomputable section
namespace Go.Proofs.YtfmgjpcmcjjoiaaGreatDoor
open Go Go.RowKit Go.Vc
section
variable(i:Nat)(ac:aK)(C:Cr)(nd:Nd)(ka:Sl aF)
def aqQ:Int:=(bif(decide ((ka.n:Int)>0))then(ac.c2.tmod (ka.n:Int))else(-1))
def Uc:Nd:=(Nd.bif nd.up (oY (⟨2,(i:Int),ac.c2,ac.c3,ac.c4,ac.c5,ac.c6,ac.c7,ac.c8,ac.c9⟩:aK) nd) nd)
def Ud:Sl aF:=(bif nd.up then(re (⟨2,(i:Int),ac.c2,ac.c3,ac.c4,ac.c5,ac.c6,ac.c7,ac.c8,ac.c9⟩:aK) nd ka)else ka)
def PL:Hr:=⟨[.p 0,.g [kI,kI,kI,kI,kI,kI,kS,kS,kS,kI]],bP,eC,dS,fun(y0:Int) (y1:Int) (y2:Int) (y3:Int) (y4:Int) (y5:Int) y6 y7 y8 (y9:Int)=>cg fun C=>⟨⟨some (du C (⟨y0,y1,y2,y3,y4,y5,y6,y7,y8,y9⟩:aK)),[],bN [10,13,11,14,12,15,16,8,9] 7 (C.put i (Uc i (⟨y0,y1,y2,y3,y4,y5,y6,y7,y8,y9⟩:aK) (C.nd i)) (Ud i (⟨y0,y1,y2,y3,y4,y5,y6,y7,y8,y9⟩:aK) (C.nd i) C.ax) C.told C.aY)⟩⟩⟩
def Z0:RS:=⟨.dY true [.b 10] [.own (.h 0 99) bK 16,.own (.h 0 29) cA 10,.own (.h 0 62) cA 11,.own (.h 0 95) cA 12,.own (.h 0 32) bK 13,.own (.h 0 65) bK 14,.own (.h 0 98) bK 15] (qB i [10,13,11,14,12,15,16,8,9] 7 [] 0 C) (qj i [10,13,11,14,12,15,16,8,9]),[],[]++pD i [10,13,11,14,12,15,16,8,9],⟨[],[]⟩⟩
def asc:Hn (Z0 i C).kd:=(.ai (.ai (.ai (.j ⟨57,[],[(.t 5,kI)],[],.f⟩ .z (.ck ⟨([.ptr 0 0,U,U,.ptr 10 0,.ptr 0 (33*i+0),ae (aqQ ac C.ax)]++(us 135 ([]))),bS aJ 1 C [(10,[ae 2,ae (i:Int),ae ac.c2,ae ac.c3,ae ac.c4,ae ac.c5,.str ac.c6,.str ac.c7,.str ac.c8,ae ac.c9])]⟩ (.ai (.ai (.c false (.ai (.c false (.ai (.c false (.s (.ai (.c false .z)) (.c false (.ai (.c false (.ai (.c false .z))))))))))))))))))
def X_(i:Nat)(ac:aK)(C:Cr):Prop:=(((decide ((C.ax.n:Int)>0))=true→(((C.ax.n:Int):Int)≠0))∧((C.nd i).up=true→(iO (C.nd i))))
theorem ayA(i:Nat)(hi:i<3)(ac:aK)(C:Cr)(hb:dA C)(n6:ac.c6.size≤549755813888)(n7:ac.c7.size≤549755813888)(n8:ac.c8.size≤549755813888)(hp:du C ac):X_ i ac C:=by
 have hN:=fR hb i hi;unfold fq at hN;unfold X_;exact have:=iz hp i;have:=(iz hp i).lb;have:=(iz hp i).ws;have:=mq hp;have:=hp.2.s6;have:=hp.2.s7;have:=hp.2.s8;have:=hp.2.pk;(⟨(fun h1=>(by have:=ay h1;omega)),(fun h2=>(by assumption))⟩)
theorem W0(i:Nat)(hi:i<3)(ac:aK)(n6:ac.c6.size≤549755813888)(n7:ac.c7.size≤549755813888)(n8:ac.c8.size≤549755813888)(C:Cr)(hb:dA C)(hp:du C ac):fj Tryz.prog 31 ((PL i).args ([ae 2,ae (i:Int),ae ac.c2,ae ac.c3,ae ac.c4,ae ac.c5,.str ac.c6,.str ac.c7,.str ac.c8,ae ac.c9]++fX C)) ((PL i).hv (([ae 2,ae (i:Int),ae ac.c2,ae ac.c3,ae ac.c4,ae ac.c5,.str ac.c6,.str ac.c7,.str ac.c8,ae ac.c9]++fX C).drop (PL i).na)) [] (bN [10,13,11,14,12,15,16,8,9] 7 (C.put i (Uc i ac (C.nd i)) (Ud i ac (C.nd i) C.ax) C.told C.aY)):=by
 refine dD (Z0 i C) (asc i ac C) (X_ i ac C) (bB 10 aQ (az (Iy i hi) bA)) Tryz.func31 (List.replicate 34 .f++[.l,.l]) ?_ ?_ (ayA i hi ac C hb n6 n7 n8 hp)
 ·rcases bJ hi with rfl|rfl|rfl<;>kernel_rfl
 ·rcases bJ hi with rfl|rfl|rfl<;>kernel_rfl
end
section
variable(i:Nat)(ac:aK)(C:Cr)(nd:Nd)(ka:Sl aF)
def aqS:Int:=(bif(decide ((ka.n:Int)>0))then(ac.c2.tmod (ka.n:Int))else(-1))
def Ug:Nd:=(Nd.bif nd.up (oY (⟨4,(i:Int),ac.c2,ac.c3,ac.c4,ac.c5,ac.c6,ac.c7,ac.c8,ac.c9⟩:aK) nd) nd)
def Uh:Sl aF:=(bif nd.up then(re (⟨4,(i:Int),ac.c2,ac.c3,ac.c4,ac.c5,ac.c6,ac.c7,ac.c8,ac.c9⟩:aK) nd ka)else ka)
def PN:Hr:=⟨[.p 0,.g [kI,kI,kI,kI,kI,kI,kS,kS,kS,kI]],bP,eC,dS,fun(y0:Int) (y1:Int) (y2:Int) (y3:Int) (y4:Int) (y5:Int) y6 y7 y8 (y9:Int)=>cg fun C=>⟨⟨some (du C (⟨y0,y1,y2,y3,y4,y5,y6,y7,y8,y9⟩:aK)),[],bN [10,13,11,14,12,15,16,8,9] 7 (C.put i (Ug i (⟨y0,y1,y2,y3,y4,y5,y6,y7,y8,y9⟩:aK) (C.nd i)) (Uh i (⟨y0,y1,y2,y3,y4,y5,y6,y7,y8,y9⟩:aK) (C.nd i) C.ax) C.told C.aY)⟩⟩⟩
def Z3:RS:=⟨.dY true [.b 10] [.own (.h 0 99) bK 16,.own (.h 0 29) cA 10,.own (.h 0 62) cA 11,.own (.h 0 95) cA 12,.own (.h 0 32) bK 13,.own (.h 0 65) bK 14,.own (.h 0 98) bK 15] (qB i [10,13,11,14,12,15,16,8,9] 7 [] 0 C) (qj i [10,13,11,14,12,15,16,8,9]),[],[]++pD i [10,13,11,14,12,15,16,8,9],⟨[],[]⟩⟩
def ase:Hn (Z3 i C).kd:=(.ai (.ai (.ai (.j ⟨57,[],[(.t 5,kI)],[],.f⟩ .z (.ck ⟨([.ptr 0 0,U,U,.ptr 10 0,.ptr 0 (33*i+0),ae (aqS ac C.ax)]++(us 135 ([]))),bS aJ 1 C [(10,[ae 4,ae (i:Int),ae ac.c2,ae ac.c3,ae ac.c4,ae ac.c5,.str ac.c6,.str ac.c7,.str ac.c8,ae ac.c9])]⟩ (.ai (.ai (.c false (.ai (.c false (.ai (.c false (.s (.ai (.c false .z)) (.c false (.ai (.c false (.ai (.c false .z))))))))))))))))))
def Yb(i:Nat)(ac:aK)(C:Cr):Prop:=(((decide ((C.ax.n:Int)>0))=true→(((C.ax.n:Int):Int)≠0))∧((C.nd i).up=true→(iO (C.nd i))))
theorem ayC(i:Nat)(hi:i<3)(ac:aK)(C:Cr)(hb:dA C)(n6:ac.c6.size≤549755813888)(n7:ac.c7.size≤549755813888)(n8:ac.c8.size≤549755813888)(hp:du C ac):Yb i ac C:=by
 have hN:=fR hb i hi;unfold fq at hN;unfold Yb;exact have:=iz hp i;have:=(iz hp i).lb;have:=(iz hp i).ws;have:=mq hp;have:=hp.2.s6;have:=hp.2.s7;have:=hp.2.s8;have:=hp.2.pk;(⟨(fun h1=>(by have:=ay h1;omega)),(fun h2=>(by assumption))⟩)
theorem Xi(i:Nat)(hi:i<3)(ac:aK)(n6:ac.c6.size≤549755813888)(n7:ac.c7.size≤549755813888)(n8:ac.c8.size≤549755813888)(C:Cr)(hb:dA C)(hp:du C ac):fj Tryz.prog 31 ((PN i).args ([ae 4,ae (i:Int),ae ac.c2,ae ac.c3,ae ac.c4,ae ac.c5,.str ac.c6,.str ac.c7,.str ac.c8,ae ac.c9]++fX C)) ((PN i).hv (([ae 4,ae (i:Int),ae ac.c2,ae ac.c3,ae ac.c4,ae ac.c5,.str ac.c6,.str ac.c7,.str ac.c8,ae ac.c9]++fX C).drop (PN i).na)) [] (bN [10,13,11,14,12,15,16,8,9] 7 (C.put i (Ug i ac (C.nd i)) (Uh i ac (C.nd i) C.ax) C.told C.aY)):=by
 refine dD (Z3 i C) (ase i ac C) (Yb i ac C) (bB 10 aQ (az (Iy i hi) bA)) Tryz.func31 (List.replicate 34 .f++[.l,.l]) ?_ ?_ (ayC i hi ac C hb n6 n7 n8 hp)
 ·rcases bJ hi with rfl|rfl|rfl<;>kernel_rfl
 ·rcases bJ hi with rfl|rfl|rfl<;>kernel_rfl
end
section
variable(i:Nat)(ac:aK)(C:Cr)(nd:Nd)(ka:Sl aF)
def aqX:Int:=(bif(decide ((ka.n:Int)>0))then(ac.c2.tmod (ka.n:Int))else(-1))
def Um:Nd:=(Nd.bif nd.up (oY (⟨9,(i:Int),ac.c2,ac.c3,ac.c4,ac.c5,ac.c6,ac.c7,ac.c8,ac.c9⟩:aK) nd) nd)
def Un:Sl aF:=(bif nd.up then(re (⟨9,(i:Int),ac.c2,ac.c3,ac.c4,ac.c5,ac.c6,ac.c7,ac.c8,ac.c9⟩:aK) nd ka)else ka)
def PT:Hr:=⟨[.p 0,.g [kI,kI,kI,kI,kI,kI,kS,kS,kS,kI]],bP,eC,dS,fun(y0:Int) (y1:Int) (y2:Int) (y3:Int) (y4:Int) (y5:Int) y6 y7 y8 (y9:Int)=>cg fun C=>⟨⟨some (du C (⟨y0,y1,y2,y3,y4,y5,y6,y7,y8,y9⟩:aK)),[],bN [10,13,11,14,12,15,16,8,9] 7 (C.put i (Um i (⟨y0,y1,y2,y3,y4,y5,y6,y7,y8,y9⟩:aK) (C.nd i)) (Un i (⟨y0,y1,y2,y3,y4,y5,y6,y7,y8,y9⟩:aK) (C.nd i) C.ax) C.told C.aY)⟩⟩⟩
def aac:RS:=⟨.dY true [.b 10] [.own (.h 0 99) bK 16,.own (.h 0 29) cA 10,.own (.h 0 62) cA 11,.own (.h 0 95) cA 12,.own (.h 0 32) bK 13,.own (.h 0 65) bK 14,.own (.h 0 98) bK 15] (qB i [10,13,11,14,12,15,16,8,9] 7 [] 0 C) (qj i [10,13,11,14,12,15,16,8,9]),[],[]++pD i [10,13,11,14,12,15,16,8,9],⟨[],[]⟩⟩
def asj:Hn (aac i C).kd:=(.ai (.ai (.ai (.j ⟨57,[],[(.t 5,kI)],[],.f⟩ .z (.ck ⟨([.ptr 0 0,U,U,.ptr 10 0,.ptr 0 (33*i+0),ae (aqX ac C.ax)]++(us 135 ([]))),bS aJ 1 C [(10,[ae 9,ae (i:Int),ae ac.c2,ae ac.c3,ae ac.c4,ae ac.c5,.str ac.c6,.str ac.c7,.str ac.c8,ae ac.c9])]⟩ (.ai (.ai (.c false (.ai (.c false (.ai (.c false (.s (.ai (.c false .z)) (.c false (.ai (.c false (.ai (.c false .z))))))))))))))))))
def Yg(i:Nat)(ac:aK)(C:Cr):Prop:=(((decide ((C.ax.n:Int)>0))=true→(((C.ax.n:Int):Int)≠0))∧((C.nd i).up=true→(iO (C.nd i))))
theorem ayH(i:Nat)(hi:i<3)(ac:aK)(C:Cr)(hb:dA C)(n6:ac.c6.size≤549755813888)(n7:ac.c7.size≤549755813888)(n8:ac.c8.size≤549755813888)(hp:du C ac):Yg i ac C:=by
 have hN:=fR hb i hi;unfold fq at hN;unfold Yg;exact have:=iz hp i;have:=(iz hp i).lb;have:=(iz hp i).ws;have:=mq hp;have:=hp.2.s6;have:=hp.2.s7;have:=hp.2.s8;have:=hp.2.pk;(⟨(fun h1=>(by have:=ay h1;omega)),(fun h2=>(by assumption))⟩)
theorem Xk(i:Nat)(hi:i<3)(ac:aK)(n6:ac.c6.size≤549755813888)(n7:ac.c7.size≤549755813888)(n8:ac.c8.size≤549755813888)(C:Cr)(hb:dA C)(hp:du C ac):fj Tryz.prog 31 ((PT i).args ([ae 9,ae (i:Int),ae ac.c2,ae ac.c3,ae ac.c4,ae ac.c5,.str ac.c6,.str ac.c7,.str ac.c8,ae ac.c9]++fX C)) ((PT i).hv (([ae 9,ae (i:Int),ae ac.c2,ae ac.c3,ae ac.c4,ae ac.c5,.str ac.c6,.str ac.c7,.str ac.c8,ae ac.c9]++fX C).drop (PT i).na)) [] (bN [10,13,11,14,12,15,16,8,9] 7 (C.put i (Um i ac (C.nd i)) (Un i ac (C.nd i) C.ax) C.told C.aY)):=by
 refine dD (aac i C) (asj i ac C) (Yg i ac C) (bB 10 aQ (az (Iy i hi) bA)) Tryz.func31 (List.replicate 34 .f++[.l,.l]) ?_ ?_ (ayH i hi ac C hb n6 n7 n8 hp)
 ·rcases bJ hi with rfl|rfl|rfl<;>kernel_rfl
 ·rcases bJ hi with rfl|rfl|rfl<;>kernel_rfl
end
section
variable(i:Nat)(ac:aK)(C:Cr)(nd:Nd)(ka:Sl aF)
def aq0:Int:=(bif(decide ((ka.n:Int)>0))then(ac.c2.tmod (ka.n:Int))else(-1))
def Uq:Nd:=(Nd.bif nd.up (oY (⟨11,(i:Int),ac.c2,ac.c3,ac.c4,ac.c5,ac.c6,ac.c7,ac.c8,ac.c9⟩:aK) nd) nd)
def Ur:Sl aF:=(bif nd.up then(re (⟨11,(i:Int),ac.c2,ac.c3,ac.c4,ac.c5,ac.c6,ac.c7,ac.c8,ac.c9⟩:aK) nd ka)else ka)
def PV:Hr:=⟨[.p 0,.g [kI,kI,kI,kI,kI,kI,kS,kS,kS,kI]],bP,eC,dS,fun(y0:Int) (y1:Int) (y2:Int) (y3:Int) (y4:Int) (y5:Int) y6 y7 y8 (y9:Int)=>cg fun C=>⟨⟨some (du C (⟨y0,y1,y2,y3,y4,y5,y6,y7,y8,y9⟩:aK)),[],bN [10,13,11,14,12,15,16,8,9] 7 (C.put i (Uq i (⟨y0,y1,y2,y3,y4,y5,y6,y7,y8,y9⟩:aK) (C.nd i)) (Ur i (⟨y0,y1,y2,y3,y4,y5,y6,y7,y8,y9⟩:aK) (C.nd i) C.ax) C.told C.aY)⟩⟩⟩
def aae:RS:=⟨.dY true [.b 10] [.own (.h 0 99) bK 16,.own (.h 0 29) cA 10,.own (.h 0 62) cA 11,.own (.h 0 95) cA 12,.own (.h 0 32) bK 13,.own (.h 0 65) bK 14,.own (.h 0 98) bK 15] (qB i [10,13,11,14,12,15,16,8,9] 7 [] 0 C) (qj i [10,13,11,14,12,15,16,8,9]),[],[]++pD i [10,13,11,14,12,15,16,8,9],⟨[],[]⟩⟩
def asm:Hn (aae i C).kd:=(.ai (.ai (.ai (.j ⟨57,[],[(.t 5,kI)],[],.f⟩ .z (.ck ⟨([.ptr 0 0,U,U,.ptr 10 0,.ptr 0 (33*i+0),ae (aq0 ac C.ax)]++(us 135 ([]))),bS aJ 1 C [(10,[ae 11,ae (i:Int),ae ac.c2,ae ac.c3,ae ac.c4,ae ac.c5,.str ac.c6,.str ac.c7,.str ac.c8,ae ac.c9])]⟩ (.ai (.ai (.c false (.ai (.c false (.ai (.c false (.s (.ai (.c false .z)) (.c false (.ai (.c false (.ai (.c false .z))))))))))))))))))
def Yi(i:Nat)(ac:aK)(C:Cr):Prop:=(((decide ((C.ax.n:Int)>0))=true→(((C.ax.n:Int):Int)≠0))∧((C.nd i).up=true→(iO (C.nd i))))
theorem ayJ(i:Nat)(hi:i<3)(ac:aK)(C:Cr)(hb:dA C)(n6:ac.c6.size≤549755813888)(n7:ac.c7.size≤549755813888)(n8:ac.c8.size≤549755813888)(hp:du C ac):Yi i ac C:=by
 have hN:=fR hb i hi;unfold fq at hN;unfold Yi;exact have:=iz hp i;have:=(iz hp i).lb;have:=(iz hp i).ws;have:=mq hp;have:=hp.2.s6;have:=hp.2.s7;have:=hp.2.s8;have:=hp.2.pk;(⟨(fun h1=>(by have:=ay h1;omega)),(fun h2=>(by assumption))⟩)
theorem Xm(i:Nat)(hi:i<3)(ac:aK)(n6:ac.c6.size≤549755813888)(n7:ac.c7.size≤549755813888)(n8:ac.c8.size≤549755813888)(C:Cr)(hb:dA C)(hp:du C ac):fj Tryz.prog 31 ((PV i).args ([ae 11,ae (i:Int),ae ac.c2,ae ac.c3,ae ac.c4,ae ac.c5,.str ac.c6,.str ac.c7,.str ac.c8,ae ac.c9]++fX C)) ((PV i).hv (([ae 11,ae (i:Int),ae ac.c2,ae ac.c3,ae ac.c4,ae ac.c5,.str ac.c6,.str ac.c7,.str ac.c8,ae ac.c9]++fX C).drop (PV i).na)) [] (bN [10,13,11,14,12,15,16,8,9] 7 (C.put i (Uq i ac (C.nd i)) (Ur i ac (C.nd i) C.ax) C.told C.aY)):=by
 refine dD (aae i C) (asm i ac C) (Yi i ac C) (bB 10 aQ (az (Iy i hi) bA)) Tryz.func31 (List.replicate 34 .f++[.l,.l]) ?_ ?_ (ayJ i hi ac C hb n6 n7 n8 hp)
 ·rcases bJ hi with rfl|rfl|rfl<;>kernel_rfl
 ·rcases bJ hi with rfl|rfl|rfl<;>kernel_rfl
end
end Go.Proofs.YtfmgjpcmcjjoiaaGreatDoor
