/- Part of a proof: walks of the program. -/
import Derived.Test.YtfmgjpcmcjjoiaaGreatDoorXj
open Go.IntKind (i64 u64 u8)
open Int (toNat)
set_option maxRecDepth 100000
set_option maxHeartbeats 4000000
set_option linter.all false
noncomputable section
namespace Go.Proofs.YtfmgjpcmcjjoiaaGreatDoor
open Go Go.RowKit Go.ah
def acp:Int:=0
def acq:A aj:=(L:A aj)
def acr:Int:=1
def acs:A aG:=(L:A aG)
def VM:a6:=⟨[],⟨⟨none,.agg [b acp,aH 8 fZ acq,b acr,aH 7 gK acs]⟩⟩⟩
theorem aAf:oF 41 VM:=
 bf ⟨.pure,[.cell 0 49],[(.c 0 0,a),(.c 0 1,.af a_),(.c 0 2,a),(.c 0 3,.af bP)],⟨[.agg (us 4 [])],[]⟩⟩ (.z) True e7 Tryz.func41 (trivial)
theorem awn:bg 41 VM:=bj Tryz.func41 aAf
def Eh:Int:=0
def Ei:Int:=(-1)
def wQ:Int:=0
def Ej:Int:=0
def wR:Int:=acp
def wS:A aj:=acq
def wT:Int:=acr
def wU:A aG:=acs
def wV:Int:=0
def wW:Int:=0
def wP:A aI:=(L:A aI)
def VN:a6:=⟨[],⟨⟨none,.agg [b Eh,b Ei,b wQ,b Ej,b wR,aH 8 fZ wS,b wT,aH 7 gK wU,b wV,b wW,aH 10 dU wP]⟩⟩⟩
theorem aAg:oF 30 VN:=
 bf ⟨.pure,[.cell 0 94],[(.c 0 0,a),(.c 0 1,a),(.c 0 2,a),(.c 0 3,a),(.c 0 4,a),(.c 0 5,.af a_),(.c 0 6,a),(.c 0 7,.af bP),(.c 0 8,a),(.c 0 9,a),(.c 0 10,.af c6)],⟨[.agg (us 11 [])],[]⟩⟩ (.z) True (b4 (aw awn aT)) Tryz.func30 (trivial)
theorem S_:bg 30 VN:=bj Tryz.func30 aAg
theorem ans{d g:Int}{u:Bool}{h r o:Int}{q t f:z}{w:Int}(a:(se d g u h r o q t f w !=0)=false):0≤g:=by
 have a:=bE a;unfold se at a
 cases b:w9 d g with
 |true=>rw[b]at a;simp at a
 |false=>
  simp [w9,rY,j0,CW]at b;omega
theorem loops(g:Int)(u:A aI)(y:u.n≤549755813888): ∀(m k:Nat) (i t a:Int),0≤i→i+(m:Int)=u.n→m≤k→(i=0→t=g∧a=0)→(0<i→t=(u.at' (toNat (i-1))).j∧a=(u.at' (toNat (i-1))).ai∧g≤t)→
  Aq u (k+1) t a i=sg g u (k+1) i
 |0,k,i,t,a,l,v,x,_,_=>by
  have e:decide (i<(u.n:Int))=false:=by simp;omega
  simp only[Aq,sg,e,aQ]
 |m+1,k,i,t,a,l,v,x,B,z=>by
  obtain⟨k,rfl⟩: ∃C,k=C+1:=⟨k-1,by omega⟩;have e:decide (i<(u.n:Int))=true:=by simp;omega
  have hX:i64.wrap (i+1)=i+1:=N _;have D:i64.wrap (i-1)=i-1:=N _;rw[Aq,sg,e];simp only[aN];have q:Es u t a i=(cond (my g u i) true (nh u i)):=by
   simp only[Es,my,nh,aq3,D]
   cases s:(se (u.at' i.toNat).j (u.at' i.toNat).ai (u.at' i.toNat).K (u.at' i.toNat).an (u.at' i.toNat).p (u.at' i.toNat).v (u.at' i.toNat).ax (u.at' i.toNat).aF (u.at' i.toNat).i (u.at' i.toNat).aP !=0)with
   |true=>rfl
   |false=>
    have E:=ans s;simp only[aQ]
    by_cases w:i=0
    ·obtain⟨rfl,rfl⟩:=B w;have f:decide (i>0)=false:=by simp;omega
     rw[f];have p: ¬(u.at' i.toNat).ai<0:=by omega
     by_cases d:(u.at' i.toNat).j<t<;>simp [d,p]
    ·obtain⟨n,o,j⟩:=z (by omega);have f:decide (i>0)=true:=by simp;omega
     rw[f,←n,←o];simp only[aN]
     by_cases d:(u.at' i.toNat).j<t<;>by_cases r:(u.at' i.toNat).j<g<;>simp [d,r]<;>omega
  rw[q]
  cases c:my g u i with
  |true=>rfl
  |false=>
   simp only[aQ]
   cases F:nh u i with
   |true=>rfl
   |false=>
    simp only[aQ];rw[hX];have j:g≤(u.at' i.toNat).j:=by
     simp only[my]at c;generalize (se _ _ _ _ _ _ _ _ _ _ !=0)=b at c
     cases b with
     |true=>cases c
     |false=>
      have:=dQ c;omega
    refine loops g u y m k (i+1) _ _ (by omega) (by omega) (by omega) (fun h=>by omega) fun _=> ?_;rw[show i+1-1=i by omega];exact⟨rfl,rfl,j⟩
theorem acZ(d g:Int)(u:A aI)(o:u.n≤549755813888)(q: -9223372036854775808≤d∧d≤9223372036854775807):cC d g u=uk d g u:=by
 have p:Rv g u=Ar g u:=loops g u o u.n _ 0 g 0 (dp _) (by omega) (by omega) (fun _=>⟨rfl,rfl⟩) (fun h=>by omega);have n:sf d g u=um d g u:=by
  simp only[sf,um,j0,CW]
  by_cases a:d<0
  ·have i: ¬0≤d:=by omega
   simp [a,i]
  ·have i:0≤d:=by omega
   by_cases b:g<0
   ·have j: ¬0≤g:=by omega
    simp [a,i,b,j]
   ·have j:0≤g:=by omega
    by_cases c:g>1048576
    ·have k: ¬g≤1048576:=by omega
     simp [a,b,c,k,i,j]
    ·have k:g≤1048576:=by omega
     by_cases l:(u.n:Int)>200
     ·simp [a,i,b,j,c,k,l]
     ·rw[N (1048576- (u.n:Int))]
      by_cases e:d≤1048576
      ·rw[N (d+(u.n:Int))]
       by_cases f:d>1048576- (u.n:Int)
       ·have m:d+(u.n:Int)>1048576:=by omega
        simp [a,i,b,j,c,k,l,e,f,m]
       ·have m: ¬d+(u.n:Int)>1048576:=by omega
        simp [a,i,b,j,c,k,l,e,f,m]
      ·have f:d>1048576- (u.n:Int):=by omega
       simp [a,i,b,j,c,k,l,e,f]
 simp only[cC,uk,ac0,JK,n,p]
section
variable(d:Int)(g:Int)(u:Int)(h:Int)(r:Int)(o:Int)(q:z)(t:z)(f:z)(w:Int)
def aae:Bool:=(cond (d==6) (d==6) (cond (d==7) (d==7) (d==8)))
def aaf:Bool:=(cond (d==5) (d==5) (d==9))
def ml:Bool:=(cond (aae d) false (cond (aaf d) true (cond (d==12) false true)))
def mm:Bool:=(cond (aae d) true (cond (aaf d) true false))
def ajo:a6:=⟨[.v a],fun d=>⟨⟨none,.c9 [.bool (ml d),.bool (mm d)]⟩⟩⟩
theorem au3:bg 40 ajo:=bj Tryz.func40
 fun(d:Int)=>bf (ms:=[.f,(.b .f (.b .f .l))]) ⟨.pure,[.tmp 2,.tmp 3],[(.t 0,y),(.t 1,y)],⟨[U,U],[]⟩⟩ (.ad (.s (.ad (.j ⟨60,[],[(.t 5,y)],[],.f⟩ .z (.ad (.j ⟨540,[],[(.t 9,y)],[],.f⟩ .z .z)))) .z)) True e7 Tryz.func40 (trivial)
def Et:Bool:=(cond (decide (d<1)) true (decide (d>12)))
def As:Bool:=(cond (ml d) (cond (decide (g<0)) true (cond (decide (g≥3)) true (cond (mm d) (cond (decide (u<0)) true (decide (u>400000))) false))) (cond (mm d) (cond (decide (u<0)) true (decide (u>400000))) false))
def w_:Bool:=(cond (!(ml d)) (cond (g !=0) true (cond (!(mm d)) (cond (u !=0) true (cond (d !=1) (!((h==0)&&((r==0)&&((o==0)&&(((q:z).toList==(⟨#[]⟩:z).toList)&&(((t:z).toList==(⟨#[]⟩:z).toList)&&(((f:z).toList==(⟨#[]⟩:z).toList)&&((w==0)&&true)))))))) false)) (cond (d !=1) (!((h==0)&&((r==0)&&((o==0)&&(((q:z).toList==(⟨#[]⟩:z).toList)&&(((t:z).toList==(⟨#[]⟩:z).toList)&&(((f:z).toList==(⟨#[]⟩:z).toList)&&((w==0)&&true)))))))) false))) (cond (!(mm d)) (cond (u !=0) true (cond (d !=1) (!((h==0)&&((r==0)&&((o==0)&&(((q:z).toList==(⟨#[]⟩:z).toList)&&(((t:z).toList==(⟨#[]⟩:z).toList)&&(((f:z).toList==(⟨#[]⟩:z).toList)&&((w==0)&&true)))))))) false)) (cond (d !=1) (!((h==0)&&((r==0)&&((o==0)&&(((q:z).toList==(⟨#[]⟩:z).toList)&&(((t:z).toList==(⟨#[]⟩:z).toList)&&(((f:z).toList==(⟨#[]⟩:z).toList)&&((w==0)&&true)))))))) false)))
def ld:Int:=(cond (Et d) 3 (cond (As d g u) 2 (cond (w_ d g u h r o q t f w) 8 (cond (d==1) (iO h r o q t f w) 0))))
def alL:a6:=⟨[.g [a,a,a,a,a,a,au,au,au,a]],fun d g u h r o q t f w=>⟨⟨none,b (ld d g u h r o q t f w)⟩⟩⟩
theorem afc:bg 28 alL:=bj Tryz.func28
 fun(d:Int) (g:Int) (u:Int) (h:Int) (r:Int) (o:Int) q _ t _ f _ (w:Int)=>bf ⟨.pure,[.tmp 2],[(.t 0,a)],⟨[U],[]⟩⟩ (.ad (.s (.j ⟨4102,[],[(.t 12,y)],[],.f⟩ .z .z) (.ad (.s (.j ⟨524318,[],[(.t 19,y)],[],.f⟩ .z (.ad (.j ⟨17592186044422,[],[(.t 44,y)],[],.f⟩ .z .z))) .z)))) True (b4 (aw Tc (aw au3 aT))) Tryz.func28 (trivial)
end
section
def wj(d:Int):Int:=d
def QO:Bool:=false
def DF:Int:=0
def wA:Int:=0
def DI(g:Int):Int:=g
def DJ(u:Int):Int:=u
def DK(w:Int):Int:=w
def DL(ao:Int):Int:=ao
def DM(bb:A aI):A aI:=bb
variable(h:Int)(o:Int)(q:A aj)(t:Int)(f:A aG)
def DN:Int:=h
def Dv(r:Int):Int:=r
def Dw:Int:=o
def Dx:A aj:=q
def Dy:Int:=t
def Dz:A aG:=f
def DA:Int:=o
def DB:A aj:=q
def DC:Int:=t
def DD:A aG:=f
def DE:Int:=h
def wk:Bool:=false
def wm:Bool:=false
def wo:Bool:=false
def wq:Int:=0
def wu:Int:=0
def wv:Int:=0
def wx:Int:=0
def wy:Int:=0
def wz:Int:=0
def DG:A Int:=(L:A Int)
def DH:Int:=0
def ak1:a6:=⟨[.v a,.g [a,a,a,a,a,.af a_,a,.af bP,a,a,.af c6]],fun d g u h r o q t f w ao bb=>⟨⟨none,.agg [b (wj d),.bool QO,b DF,b wA,b (DI g),b (DJ u),b (DK w),b (DL ao),aH 10 dU (DM bb),b (DN h),b (Dv r),b (Dw o),aH 8 fZ (Dx q),b (Dy t),aH 7 gK (Dz f),b (DA o),aH 8 fZ (DB q),b (DC t),aH 7 gK (DD f),b (DE h),.bool wk,.bool wm,.bool wo,b wq,b wu,b wv,b wx,b wy,b wz,.aE,aH 1 cQ DG,b DH,.aE]⟩⟩⟩
theorem S7:bg 29 ak1:=bj Tryz.func29
 fun(d:Int) (g:Int) (u:Int) (h:Int) (r:Int) (o:Int) q _ _ (t:Int) f _ _ (w:Int) (ao:Int) bb _ _=>bf ⟨.pure,[.cell 4 88],[(.c 0 0,a),(.c 0 1,y),(.c 0 2,a),(.c 0 3,a),(.c 0 4,a),(.c 0 5,a),(.c 0 6,a),(.c 0 7,a),(.c 0 8,.af c6),(.c 0 9,a),(.c 0 10,a),(.c 0 11,a),(.c 0 12,.af a_),(.c 0 13,a),(.c 0 14,.af bP),(.c 0 15,a),(.c 0 16,.af a_),(.c 0 17,a),(.c 0 18,.af bP),(.c 0 19,a),(.c 0 20,y),(.c 0 21,y),(.c 0 22,y),(.c 0 23,a),(.c 0 24,a),(.c 0 25,a),(.c 0 26,a),(.c 0 27,a),(.c 0 28,a),(.c 0 30,.af a8),(.c 0 31,a)],⟨[.agg [U,U,U,U,U,U,U,U,U,U,U,U,U,U,U,U,U,U,U,U,U,U,U,U,U,U,U,U,U,.aE,U,U,.aE]],[]⟩⟩ (.z) True e7 Tryz.func29 (trivial)
end
end Go.Proofs.YtfmgjpcmcjjoiaaGreatDoor
namespace Go.Proofs.YtfmgjpcmcjjoiaaGreatDoor
open Go Go.Proofs Go.RowKit Go.Shelf Go.ah
abbrev ak5:b5:=vF ca
theorem ae3:jc Tryz.prog 43 ak5.gY:=zc (E:=ca) (z:=(.agg #[.int .i64 0,.int .i64 0,.int .i64 0,.int .i64 0,.int .i64 0,.int .i64 0,.bool false,.int .i64 0,.slice none 0 0,.int .i64 0,.int .i64 0,.int .i64 0,.slice none 0 0,.int .i64 0,.slice none 0 0])) (zb (ρ:=za 43 86 117) (b:=168) mixed ⟨ "slices.Delete[[]rostrum/api.Message,rostrum/api.Message]",by kernel_rfl,by kernel_rfl⟩ (by kernel_rfl) (by kernel_rfl)) ⟨_,_,Tryz.func43,rfl,by kernel_rfl⟩ (q8 rfl (by kernel_rfl))
end Go.Proofs.YtfmgjpcmcjjoiaaGreatDoor
namespace Go.Proofs.YtfmgjpcmcjjoiaaGreatDoor
open Go Go.RowKit Go.ah
def qg(d:Int)(u:Int):Int:=(i64.wrap (d-u))
def ak3:a6:=⟨[.g [a,a],.g [a,a]],fun d _ u _=>⟨⟨none,b (qg d u)⟩⟩⟩
theorem ae1:bg 34 ak3:=bj Tryz.func34
 fun(d:Int) (g:Int) (u:Int) (h:Int)=>bf ⟨.pure,[.tmp 4],[(.t 0,a)],⟨[U],[]⟩⟩ (.z) True e7 Tryz.func34 (trivial)
theorem A.y9{α:Type}{s:A α}{n:Nat}(h:s.n=n):A.cut s n=s:=by subst h;rfl
theorem half{x:Int}(a:0≤x)(b:x≤4611686018427387904):i64.wrap (u64.wrap (i64.wrap x)/2^(toNat 1))=x/2:=by
 have e:(2:Int)^(toNat 1)=2:=rfl;rw[e,N x];have u:u64.wrap x=x%18446744073709551616:=rfl;rw[u,N (x%18446744073709551616/2)];omega
end Go.Proofs.YtfmgjpcmcjjoiaaGreatDoor
