/- Part of a proof: walks of the program. -/
import Derived.Test.YtfmgjpcmcjjoiaaGreatDoorXn
open Go.IntKind (i64 u64 u8)
open Int (toNat)
set_option maxRecDepth 100000
set_option maxHeartbeats 4000000
set_option linter.all false
noncomputable section
namespace Go.Proofs.YtfmgjpcmcjjoiaaGreatDoor
open Go Go.RowKit Go.Vc
section
variable(i:Nat)(it:aM)(nd:Nd)
def LJ:Sl Int:=(bif((kj nd.lb nd.lt nd.li (cy nd) (h_ nd) (Sl.lit ([it]:List aM)))!=0)then nd.td else(bif(!(ki nd.lb nd.lt nd.li (cy nd) (h_ nd) (Sl.lit ([it]:List aM))))then nd.td else(bif((d_ nd.lb nd.lt nd.li (cy nd) (h_ nd) (Sl.lit ([it]:List aM)))==0)then nd.td else(kg (⟨2,0,0,(i64.wrap ((cy nd)+1)),it.c0,it.c1,it.c2,it.c3,it.c4,it.c5,it.c6,it.c7,it.c8,it.c9,0,0,0,(al:Sl ar),0,(al:Sl aG)⟩:cj) nd).td)))
def afk:Int:=let z8:=cy nd;let z6:=Sl.lit ([it]:List aM);(bif((kj nd.lb nd.lt nd.li z8 (h_ nd) z6)!=0)then nd.ts else(bif(!(ki nd.lb nd.lt nd.li z8 (h_ nd) z6))then nd.ts else(bif((d_ nd.lb nd.lt nd.li z8 (h_ nd) z6)==0)then nd.ts else(kg (⟨2,0,0,(i64.wrap (z8+1)),it.c0,it.c1,it.c2,it.c3,it.c4,it.c5,it.c6,it.c7,it.c8,it.c9,0,0,0,(al:Sl ar),0,(al:Sl aG)⟩:cj) nd).ts)))
def vF:Bool:=(bif((kj nd.lb nd.lt nd.li (cy nd) (h_ nd) (Sl.lit ([it]:List aM)))!=0)then true else(bif(!(ki nd.lb nd.lt nd.li (cy nd) (h_ nd) (Sl.lit ([it]:List aM))))then true else(bif((d_ nd.lb nd.lt nd.li (cy nd) (h_ nd) (Sl.lit ([it]:List aM)))==0)then true else(!(lB (⟨2,0,0,(i64.wrap ((cy nd)+1)),it.c0,it.c1,it.c2,it.c3,it.c4,it.c5,it.c6,it.c7,it.c8,it.c9,0,0,0,(al:Sl ar),0,(al:Sl aG)⟩:cj) nd)))))
def aq9:Nd:={(kg (⟨2,0,0,(i64.wrap ((cy nd)+1)),it.c0,it.c1,it.c2,it.c3,it.c4,it.c5,it.c6,it.c7,it.c8,it.c9,0,0,0,(al:Sl ar),0,(al:Sl aG)⟩:cj) nd)with td:=(LJ it nd),ts:=(afk it nd)}
def tK:Bool:=(bif(vF it nd)then false else true)
def Gv:Int:=(bif(vF it nd)then nd.lb else(bZ nd.lb nd.lt nd.li (cy nd) (h_ nd) (Sl.lit ([it]:List aM))))
def aq8:Int:=(bif(vF it nd)then nd.lt else(yO nd.lb nd.lt nd.li (cy nd) (h_ nd) (Sl.lit ([it]:List aM))))
def Gw:Sl aM:=(bif(vF it nd)then nd.li else(bT nd.lb nd.lt nd.li (cy nd) (h_ nd) (Sl.lit ([it]:List aM))))
def l6:Nd:={nd with lb:=(Gv it nd),lt:=(aq8 it nd),li:=(Gw it nd),td:=(LJ it nd),ts:=(afk it nd)}
def P3:Hr:=⟨[.po 0 (33*i),.g [kI,kI,kB,kI,kI,kI,kS,kS,kS,kI]],bP,eC,dS,fun(y0:Int) (y1:Int) y2 (y3:Int) (y4:Int) (y5:Int) y6 y7 y8 (y9:Int)=>cg fun C=>⟨⟨some (lU (⟨y0,y1,y2,y3,y4,y5,y6,y7,y8,y9⟩:aM)),[.bool (tK (⟨y0,y1,y2,y3,y4,y5,y6,y7,y8,y9⟩:aM) (C.nd i))],bN aJ 0 (C.set i (l6 (⟨y0,y1,y2,y3,y4,y5,y6,y7,y8,y9⟩:aM) (C.nd i)))⟩⟩⟩
def aai:RS:=⟨.dY true [] [] (gx i aJ 0 [0] 1) (gw i aJ),[.tmp 4],[(.t 0,kB)]++fL i aJ,⟨[],[]⟩⟩
def asr(C:Cr):Hn (aai i).kd:=let z8:=Sl.lit ([it]:List aM);let z6:=C.nd i;let zb:=h_ z6;let za:=cy z6;let ze:=bT z6.lb z6.lt z6.li za zb z8;let zd:=yO z6.lb z6.lt z6.li za zb z8;let zc:=bZ z6.lb z6.lt z6.li za zb z8;(.ai (.ai (.ck ⟨([.ptr 0 (33*i+0),U,U,.ptr 10 0,.lit false,ae za]++(us 48 ([]))),bS aJ 1 C [(10,[ae it.c0,ae it.c1,.bool it.c2,ae it.c3,ae it.c4,ae it.c5,.str it.c6,.str it.c7,.str it.c8,ae it.c9])]⟩ (.s (.nw [(0,(33*i+6)),(0,(33*i+7)),(0,(33*i+8))]) (.ck ⟨([.ptr 0 (33*i+0),U,U,.ptr 10 0,.lit false,ae za,U,.ptr 12 0,.bool (ki z6.lb z6.lt z6.li za zb z8),ae (d_ z6.lb z6.lt z6.li za zb z8),ae (kj z6.lb z6.lt z6.li za zb z8)]++(us 43 ([]))),bS aJ 3 C [(10,[ae it.c0,ae it.c1,.bool it.c2,ae it.c3,ae it.c4,ae it.c5,.str it.c6,.str it.c7,.str it.c8,ae it.c9]),(11,[.ah true 10 1 fun q=>dH (Sl.at' z8 q)]),(12,[ae zc,ae zd,aL 10 dH ze])]⟩ (.s (.j ⟨562949953421457,[.b 10,.b 11],[(.h 0 (33*i+30),.sl E5),(.h 0 (33*i+31),kI),(.t 49,kB)],[],.f⟩ .z (.ck ⟨([.ptr 0 (33*i+0),U,U,U,.lit false,U,U,.ptr 12 0]++(us 41 ([.bool (vF it z6),U,U,U,U]))),bS aJ 3 (C.set i (aq9 it z6)) [(12,[ae zc,ae zd,aL 10 dH ze])]⟩ .z)) .z))))))
def Yn(i:Nat)(it:aM)(C:Cr):Prop:=(((kj (C.nd i).lb (C.nd i).lt (C.nd i).li (cy (C.nd i)) (h_ (C.nd i)) (Sl.lit ([it]:List aM)))!=0)=false→((!(ki (C.nd i).lb (C.nd i).lt (C.nd i).li (cy (C.nd i)) (h_ (C.nd i)) (Sl.lit ([it]:List aM))))=false→(((d_ (C.nd i).lb (C.nd i).lt (C.nd i).li (cy (C.nd i)) (h_ (C.nd i)) (Sl.lit ([it]:List aM)))==0)=false→(px (⟨2,0,0,(i64.wrap ((cy (C.nd i))+1)),it.c0,it.c1,it.c2,it.c3,it.c4,it.c5,it.c6,it.c7,it.c8,it.c9,0,0,0,(al:Sl ar),0,(al:Sl aG)⟩:cj)))))
theorem ayO(i:Nat)(hi:i<3)(it:aM)(C:Cr)(hb:dA C)(n6:it.c6.size≤549755813888)(n7:it.c7.size≤549755813888)(n8:it.c8.size≤549755813888)(hp:lU it):Yn i it C:=by
 have hN:=fR hb i hi;unfold fq at hN;unfold Yn;exact((fun h1=>(fun h2=>(fun h3=>(by repeat first|assumption|apply uN)))))
theorem awC(i:Nat)(hi:i<3)(it:aM)(n6:it.c6.size≤549755813888)(n7:it.c7.size≤549755813888)(n8:it.c8.size≤549755813888):fb Tryz.prog 55 (P3 i) bP [] (cg fun C=>⟨⟨some (lU it),[.bool (tK it (C.nd i))],bN aJ 0 (C.set i (l6 it (C.nd i)))⟩⟩) [ae it.c0,ae it.c1,.bool it.c2,ae it.c3,ae it.c4,ae it.c5,.str it.c6,.str it.c7,.str it.c8,ae it.c9]:=by
 refine gv fun C hb=>fun hp=>dD (aai i) (asr i it C) (Yn i it C) (bB 10 (aH k75 aQ) (az (zU i hi) (az (avX i hi) (az (Iz i hi) bA)))) Tryz.func55 ([.f]++List.replicate 6 .l++[.f,.f,.f]++List.replicate 93 .l) ?_ ?_ (ayO i hi it C hb n6 n7 n8 hp)
 ·rcases bJ hi with rfl|rfl|rfl<;>kernel_rfl
 ·rcases bJ hi with rfl|rfl|rfl<;>kernel_rfl
theorem azl(i:Nat)(hi:i<3):gi 55 (P3 i):=
 j4 (ks:=[kI,kI,kB,kI,kI,kI,kS,kS,kS,kI]) fun s hs=>Eq.mp (by rcases bJ hi with rfl|rfl|rfl<;>kernel_rfl) (awC i hi ⟨s.1,s.2.1,s.2.2.1,s.2.2.2.1,s.2.2.2.2.1,s.2.2.2.2.2.1,s.2.2.2.2.2.2.1,s.2.2.2.2.2.2.2.1,s.2.2.2.2.2.2.2.2.1,s.2.2.2.2.2.2.2.2.2.1⟩ (hs.2.2.2.2.2.2.1 rfl) (hs.2.2.2.2.2.2.2.1 rfl) (hs.2.2.2.2.2.2.2.2.1 rfl))
theorem ahB(i:Nat)(hi:i<3):gj 55 (P3 i):=gE gu Tryz.func55 (azl i hi)
end
section
variable(i:Nat)(ac:aK)(C:Cr)(nd:Nd)
def aqY(ka:Sl aF):Int:=(bif(decide ((ka.n:Int)>0))then(ac.c2.tmod (ka.n:Int))else(-1))
def aqZ:Nd:={nd with up:=true}
def Uo:Nd:=(aqZ nd)
def PU:Hr:=⟨[.p 0,.g [kI,kI,kI,kI,kI,kI,kS,kS,kS,kI]],bP,eC,dS,fun(y0:Int) (y1:Int) (y2:Int) (y3:Int) (y4:Int) (y5:Int) y6 y7 y8 (y9:Int)=>cg fun C=>⟨⟨some (du C (⟨y0,y1,y2,y3,y4,y5,y6,y7,y8,y9⟩:aK)),[],bN [10,13,11,14,12,15,16,8,9] 7 (C.set i (Uo (C.nd i)))⟩⟩⟩
def aad:RS:=⟨.dY true [.b 10] [.own (.h 0 99) bK 16,.own (.h 0 29) cA 10,.own (.h 0 62) cA 11,.own (.h 0 95) cA 12,.own (.h 0 32) bK 13,.own (.h 0 65) bK 14,.own (.h 0 98) bK 15] (qB i [10,13,11,14,12,15,16,8,9] 7 [] 0 C) (qj i [10,13,11,14,12,15,16,8,9]),[],[]++pD i [10,13,11,14,12,15,16,8,9],⟨[],[]⟩⟩
def asl:Hn (aad i C).kd:=(.ai (.ai (.ai (.j ⟨57,[],[(.t 5,kI)],[],.f⟩ .z (.ck ⟨([.ptr 0 0,U,U,.ptr 10 0,.ptr 0 (33*i+0),ae (aqY ac C.ax)]++(us 135 ([]))),bS aJ 1 C [(10,[ae 10,ae (i:Int),ae ac.c2,ae ac.c3,ae ac.c4,ae ac.c5,.str ac.c6,.str ac.c7,.str ac.c8,ae ac.c9])]⟩ (.ai (.ai (.c false (.ai (.c false (.ai (.c true .z))))))))))))
def Yh(i:Nat)(ac:aK)(C:Cr):Prop:=((decide ((C.ax.n:Int)>0))=true→(((C.ax.n:Int):Int)≠0))
theorem ayI(i:Nat)(hi:i<3)(ac:aK)(C:Cr)(hb:dA C)(n6:ac.c6.size≤549755813888)(n7:ac.c7.size≤549755813888)(n8:ac.c8.size≤549755813888)(hp:du C ac):Yh i ac C:=by
 have hN:=fR hb i hi;unfold fq at hN;unfold Yh;exact have:=iz hp i;have:=(iz hp i).lb;have:=(iz hp i).ws;have:=mq hp;have:=hp.2.s6;have:=hp.2.s7;have:=hp.2.s8;have:=hp.2.pk;((fun h1=>(by have:=ay h1;omega)))
theorem Xl(i:Nat)(hi:i<3)(ac:aK)(n6:ac.c6.size≤549755813888)(n7:ac.c7.size≤549755813888)(n8:ac.c8.size≤549755813888)(C:Cr)(hb:dA C)(hp:du C ac):fj Tryz.prog 31 ((PU i).args ([ae 10,ae (i:Int),ae ac.c2,ae ac.c3,ae ac.c4,ae ac.c5,.str ac.c6,.str ac.c7,.str ac.c8,ae ac.c9]++fX C)) ((PU i).hv (([ae 10,ae (i:Int),ae ac.c2,ae ac.c3,ae ac.c4,ae ac.c5,.str ac.c6,.str ac.c7,.str ac.c8,ae ac.c9]++fX C).drop (PU i).na)) [] (bN [10,13,11,14,12,15,16,8,9] 7 (C.set i (Uo (C.nd i)))):=by
 refine dD (aad i C) (asl i ac C) (Yh i ac C) (bB 10 aQ bA) Tryz.func31 [] ?_ ?_ (ayI i hi ac C hb n6 n7 n8 hp)
 ·rcases bJ hi with rfl|rfl|rfl<;>kernel_rfl
 ·rcases bJ hi with rfl|rfl|rfl<;>kernel_rfl
end
end Go.Proofs.YtfmgjpcmcjjoiaaGreatDoor
