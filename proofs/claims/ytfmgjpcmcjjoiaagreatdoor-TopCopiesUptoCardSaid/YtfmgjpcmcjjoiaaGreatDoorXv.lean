/- Part of a proof: walks of the program. -/
import Derived.Test.YtfmgjpcmcjjoiaaGreatDoorXn
open Go.IntKind (i64 u64 u8)
open Int (toNat)
set_option maxRecDepth 100000
set_option maxHeartbeats 4000000
set_option linter.all false
noncomputable section
namespace Go.Proofs.YtfmgjpcmcjjoiaaGreatDoor
open Go Go.RowKit Go.ah
section
variable(i:Nat)(C:ak)(Z:H)(E:A O)(B:A a7)(G:A aJ)(e:Int)
def aqO:Bool:=(cond (0 !=Z.bm) true false)
def acm:Bool:=(cond (0 !=Z.bm) (decide (Z.g6≥e)) false)
def I6:Int:=(cond (acm Z e) 2 1)
def aqP:Bool:=(cond (1 !=Z.bm) true false)
def acn:Bool:=(cond (1 !=Z.bm) (decide (Z.q1≥e)) false)
def I7:Int:=(cond (acn Z e) (i64.wrap ((I6 Z e)+1)) (I6 Z e))
def Q_:Bool:=(cond (2 !=Z.bm) true false)
def aco:Bool:=(cond (2 !=Z.bm) (decide (Z.fp≥e)) false)
def Ra:Int:=(cond (aco Z e) (i64.wrap ((I7 Z e)+1)) (I7 Z e))
def ack:Bool:=(cond (decide ((Ra Z e)≥2)) true false)
def mv:Bool:=(cond (decide ((Ra Z e)≥2)) ((kC Z.l Z.lt Z.li e)==Z.aX) false)
def g1(Z:H)(E:A O)(B:A a7)(G:A aJ):Nat→Int→Bool×oN
 |0,_=>default
 |k+1,e=>(cond (decide (e>Z.co)) (cond (mv Z e) (true,(l6 (iB e Z B) E (mu e Z B) G)) (g1 Z E B G k (i64.wrap (e-1)))) (false,default))
def mw:Bool×oN:=g1 Z E B G ((toNat ((ck Z)-Z.co))+1) (ck Z)
def hB:H:=(H.bif (mw Z E B G).1 (uT (mw Z E B G).2) Z)
def wO:A O:=(cond (mw Z E B G).1 (afn (mw Z E B G).2) E)
def jE:A a7:=(cond (mw Z E B G).1 (Fj (mw Z E B G).2) B)
def qp:A aJ:=(cond (mw Z E B G).1 (Fi (mw Z E B G).2) G)
def Nq:db:=⟨[.p 0,.e9 0 (33*i)],b8,eL,er,cB fun C=>let a:=C.Z i;⟨⟨some (C.told.n≤541000000000∧a.ws.n≤3000∧0≤a.l∧a.l≤a.co∧a.co≤4194304∧a.l+(a.li.n:Int)≤4194304∧a.li.n≤200),[],cj aK 0 (C.put i (hB a C.s C.told C.a2) (wO a C.s C.told C.a2) (jE a C.s C.told C.a2) (qp a C.s C.told C.a2))⟩⟩⟩
def Wm:cI:=⟨.eA true [] [] (ys i aK 0 [] 0 C) (xY i aK),[],[]++vC i aK,⟨[],[]⟩⟩
def arT:cm (Wm i C).b_:=let c:=C.Z i;(.ad (.bU ⟨([.ptr 0 0,.ptr 0 (33*i+0),U,U,b (ck c)]++(us 65 ([]))),cn aK 0 C []⟩ (.ad (.uQ ⟨67,[],[],[(.t 6,a)],some 0,true,0,[],[],fun k (s:Int)=>g1 c C.s C.told C.a2 k s,.f,fun(s:Int)=>(s≤c.l+(c.li.n:Int)),fun(s:Int)=>(toNat (s-c.co)),none⟩ (fun(d:Int)=>let n:=xa c.l c.lt c.li d;let h:=aco c d;let f:=decide (d>c.co);let g:=kC c.l c.lt c.li d;let e:=Ra c d;let m:=us 8 (([b d,.ptr 0 (33*i+0),.ptr 0 (33*i+0),.ptr 0 (33*i+19),b c.co,.bool f,U,U,b 0,.bool true,b 0,b 0,.ptr 0 (33*i+0),.ptr 0 (33*i+0),.ptr 0 (33*i+0),b c.bm,.bool (0 !=c.bm),.bool (aqO c)]++(us 8 (([.bool (acm c d)]++(us 26 ([])))))));let l:=us 8 (([b d,.ptr 0 (33*i+0),.ptr 0 (33*i+0),.ptr 0 (33*i+19),b c.co,.bool f,U,U,b 2,.bool true,b 2,b 2,.ptr 0 (33*i+0),.ptr 0 (33*i+0),.ptr 0 (33*i+0),b c.bm,.bool (2 !=c.bm),.bool (Q_ c)]++(us 8 (([.bool h,U,U,b 2]++(us 23 ([])))))));let j:=us 8 (([b d,.ptr 0 (33*i+0),.ptr 0 (33*i+0),.ptr 0 (33*i+19),b c.co,.bool f,U,U,b 1,.bool true,b 1,b 1,.ptr 0 (33*i+0),.ptr 0 (33*i+0),.ptr 0 (33*i+0),b c.bm,.bool (1 !=c.bm),.bool (aqP c)]++(us 8 (([.bool (acn c d),U,U,b 1]++(us 23 ([])))))));(.ad (.s (.ad (.s (.ad (.un 3 (.s (.ad (.s (.c true .z) (.j ⟨8830427464131,[],[(.t 7,a)],[],.f⟩ (.ad (.j ⟨8830427464131,[],[(.t 34,y),(.t 43,y)],[],.f⟩ .z (.bU ⟨([.ptr 0 0,.ptr 0 (33*i+0),U,U,U,U,b d,b 1,b 0]++m),cn aK 0 C []⟩ .z))) (.bU ⟨([.ptr 0 0,.ptr 0 (33*i+0),U,U,U,U,b d,b (I6 c d),b 0]++m),cn aK 0 C []⟩ .z)))) (.s (.ad (.s (.c true .z) (.j ⟨79199171641795,[],[(.t 7,a)],[],.f⟩ (.ad (.j ⟨79199171641795,[],[(.t 34,y),(.t 43,y)],[],.f⟩ .z (.bU ⟨([.ptr 0 0,.ptr 0 (33*i+0),U,U,U,U,b d,b (I6 c d),b 1]++j),cn aK 0 C []⟩ .z))) (.bU ⟨([.ptr 0 0,.ptr 0 (33*i+0),U,U,U,U,b d,b (I7 c d),b 1]++j),cn aK 0 C []⟩ .z)))) (.s (.ad (.s (.c true .z) (.j ⟨79199171641795,[],[(.t 7,a)],[],.f⟩ (.ad (.j ⟨79199171641795,[],[(.t 34,y),(.t 43,y)],[],.f⟩ .z (.bU ⟨([.ptr 0 0,.ptr 0 (33*i+0),U,U,U,U,b d,b (I7 c d),b 2]++l),cn aK 0 C []⟩ .z))) (.bU ⟨([.ptr 0 0,.ptr 0 (33*i+0),U,U,U,U,b d,b e,b 2]++l),cn aK 0 C []⟩ .z)))) (.ad (.s (.c false .z) .z))))))) (.ad (.j ⟨37460739424662717379,[],[(.t 58,y),(.t 65,y)],[],.f⟩ .z (.bU ⟨([.ptr 0 0,.ptr 0 (33*i+0),U,U,U,U,b d,b e,b 2,b g]++(us 7 (([b d,.ptr 0 (33*i+0),.ptr 0 (33*i+0),.ptr 0 (33*i+19),b c.co,.bool f,U,U,b 3,.bool false,b 2,b 2,.ptr 0 (33*i+0),.ptr 0 (33*i+0),.ptr 0 (33*i+0),b c.bm,.bool (2 !=c.bm),.bool (Q_ c)]++(us 8 (([.bool h,U,U,b 3,U,.ptr 0 (33*i+0),.ptr 0 (33*i+0),.ptr 0 (33*i+6),.agg [b c.l,b c.lt,aH 10 dU c.li],b d,U,b g,b n,b e,.bool (decide (e≥2)),.bool (ack c d)]++(us 6 ([.bool (mv c d),U,U,U,U]))))))))),cn aK 0 C []⟩ (.s (.ad (.bU ⟨([.ptr 0 0,.ptr 0 (33*i+0),U,U,U,U,b d,b e,b 2,b g]++(us 7 (([b d,.ptr 0 (33*i+0),.ptr 0 (33*i+0),.ptr 0 (33*i+19),b c.co,.bool f,U,U,b 3,.bool false,b 2,b 2,.ptr 0 (33*i+0),.ptr 0 (33*i+0),.ptr 0 (33*i+0),b c.bm,.bool (2 !=c.bm),.bool (Q_ c)]++(us 8 (([.bool h,U,U,b 3,U,.ptr 0 (33*i+0),.ptr 0 (33*i+0),.ptr 0 (33*i+6),.agg [b c.l,b c.lt,aH 10 dU c.li],b d,U,b g,b n,b e,.bool (decide (e≥2)),.bool (ack c d)]++(us 6 ([.bool (mv c d),.ptr 0 0,.ptr 0 (33*i+0),b d,U]))))))))),cn aK 0 (C.put i (iB d c C.told) C.s (mu d c C.told) C.a2) []⟩ .z)) .z)))))) .z)))))))
def Ur(i:Nat)(C:ak):Prop:=((((ck (C.Z i))≤(C.Z i).l+((C.Z i).li.n:Int)))∧(∀(e:Int),(e≤(C.Z i).l+((C.Z i).li.n:Int))→(((decide (e>(C.Z i).co))=true→((mv (C.Z i) e)=true→(C.told.n≤541000000000∧(C.Z i).ws.n≤3000∧0≤(C.Z i).l∧(C.Z i).l≤(C.Z i).co∧(C.Z i).co≤4194304∧e≤(C.Z i).l+((C.Z i).li.n:Int)∧(C.Z i).li.n≤200)))∧((decide (e>(C.Z i).co))=true→((mv (C.Z i) e)=false→(((i64.wrap (e-1))≤(C.Z i).l+((C.Z i).li.n:Int))∧(toNat ((i64.wrap (e-1))- (C.Z i).co))<(toNat (e- (C.Z i).co))))))))
theorem azw(i:Nat)(f:i<3)(C:ak)(d:ey C)(g:C.told.n≤541000000000∧(C.Z i).ws.n≤3000∧0≤(C.Z i).l∧(C.Z i).l≤(C.Z i).co∧(C.Z i).co≤4194304∧(C.Z i).l+((C.Z i).li.n:Int)≤4194304∧(C.Z i).li.n≤200):Ur i C:=by
 have c:=gQ d i f;unfold fv at c;unfold Ur;exact have⟨l,m,n,o,p,q,r⟩:=g;have:=B2 (C.Z i) (by omega);(⟨(by omega),(fun e k=>⟨(fun h=>(fun j=>(by omega))),(fun a=>(fun b=>(by have:=aq a;have:=b;simp [mv]at this;first|omega|(have:=N (e-1);omega))))⟩)⟩)
theorem axs(i:Nat)(a:i<3):eP Tryz.prog 93 (Nq i) b8 [] (cB fun C=>⟨⟨some (C.told.n≤541000000000∧(C.Z i).ws.n≤3000∧0≤(C.Z i).l∧(C.Z i).l≤(C.Z i).co∧(C.Z i).co≤4194304∧(C.Z i).l+((C.Z i).li.n:Int)≤4194304∧(C.Z i).li.n≤200),[],cj aK 0 (C.put i (hB (C.Z i) C.s C.told C.a2) (wO (C.Z i) C.s C.told C.a2) (jE (C.Z i) C.s C.told C.a2) (qp (C.Z i) C.s C.told C.a2))⟩⟩) []:=by
 refine gg fun C b=>fun c=>ei (Wm i C) (arT i C) (Ur i C) (bK 10 (aw KZ aT) (av (xQ i a) (av (afa i a) bJ))) Tryz.func93 [] ?_ ?_ (azw i a C b c)
 ·rcases b3 a with rfl|rfl|rfl<;>kernel_rfl
 ·rcases b3 a with rfl|rfl|rfl<;>kernel_rfl
theorem aAe(i:Nat)(a:i<3):fV 93 (Nq i):=
 axs i a
theorem awk(i:Nat)(a:i<3):fW 93 (Nq i):=gq gf Tryz.func93 (aAe i a)
end
end Go.Proofs.YtfmgjpcmcjjoiaaGreatDoor
