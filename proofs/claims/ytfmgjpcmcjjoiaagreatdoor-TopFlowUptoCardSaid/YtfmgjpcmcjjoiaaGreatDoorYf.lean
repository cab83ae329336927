/- Part of a proof: walks of the program. -/
import Derived.Test.YtfmgjpcmcjjoiaaGreatDoorYe
open Go.IntKind (i64 u64 u8)
open Int (toNat)
set_option maxRecDepth 100000
set_option maxHeartbeats 4000000
set_option linter.all false
noncomputable section
namespace Go.Proofs.YtfmgjpcmcjjoiaaGreatDoor
open Go Go.RowKit Go.Vc
section
variable(x0:Int)(x1:Int)(x2:Int)(x3:Int)(x4:ag)(x5:Int)(x6:Int)(x7:ag)
def UY:Int:=(bif(decide (x0<0))then(i64.wrap (0- (i64.wrap (x0+1))))else x0)
def cm:Int:=((UY x0).tmod x1)
def amT:Fq:=⟨[.v kI,.v kI],fun(x0:Int) (x1:Int)=>⟨⟨some (0<x1),ae (cm x0 x1)⟩⟩⟩
theorem WT:ba 26 amT:=bf Tryz.func26
 fun(x0:Int) (x1:Int) hp=>bj ⟨.pure,[.tmp 4],[(.t 0,kI)],⟨[U],[]⟩⟩ (.ai (.j ⟨19,[],[(.t 0,kI)],[],.f⟩ .z .z)) ((x1:Int)≠0) fK Tryz.func26 ((by omega))
def bd:Int:=(cm x0 x1)
def amN:Fq:=⟨[.v kI,.v kI],fun(x0:Int) (x1:Int)=>⟨⟨some (0<x1),ae (bd x0 x1)⟩⟩⟩
theorem WS:ba 19 amN:=bf Tryz.func19
 fun(x0:Int) (x1:Int) hp=>bj ⟨.pure,[.tmp 4],[(.t 0,kI)],⟨[U],[]⟩⟩ (.z) (0<x1) (bU (aH WT aQ)) Tryz.func19 ((by omega))
def lD:ag:=(Sl.toStr (Sl.lit ([(u8.wrap (i64.wrap (97+(cm x0 9))))]:List Int)))
def am0:Fq:=⟨[.v kI],fun x0=>⟨⟨none,.str (lD x0)⟩⟩⟩
theorem awe:ba 78 am0:=bf Tryz.func78
 fun(x0:Int)=>bj ⟨.pure,[.tmp 2],[(.t 0,kS)],⟨[U],[]⟩⟩ (.z) (0<(9:Int)) (bU (aH WT aQ)) Tryz.func78 ((by omega))
def My(x0:ag)(x1:Int):ag:=((x0:ag).extract (toNat 0) (toNat (gM ((x0:ag).size:Int) x1)))
def am1:Fq:=⟨[.v kS,.v kI],fun x0 (x1:Int)=>⟨⟨some (0≤x1),.str (My x0 x1)⟩⟩⟩
theorem awf:ba 79 am1:=bf Tryz.func79
 fun x0 n0 (x1:Int) hp=>bj ⟨.pure,[.tmp 4],[(.t 0,kS)],⟨[U],[]⟩⟩ (.z) (let z6:=gM ((x0:ag).size:Int) x1;((0:Int)≤0)∧((0:Int)≤z6)∧((z6:Int)≤((x0:ag).size:Int))) fK Tryz.func79 ((by have:=rX ((x0:ag).size:Int) x1;omega))
def CA:ag:=(bif((cm x3 3)==0)then(lD x3)else(My x4 6))
def tN:Bool:=(bif((i64.wrap (1+(cm x0 22)))==1)then((i64.wrap (1+(cm x0 22)))==1)else(bif((i64.wrap (1+(cm x0 22)))==7)then((i64.wrap (1+(cm x0 22)))==7)else(bif((i64.wrap (1+(cm x0 22)))==8)then((i64.wrap (1+(cm x0 22)))==8)else(bif((i64.wrap (1+(cm x0 22)))==11)then((i64.wrap (1+(cm x0 22)))==11)else(bif((i64.wrap (1+(cm x0 22)))==12)then((i64.wrap (1+(cm x0 22)))==12)else(bif((i64.wrap (1+(cm x0 22)))==13)then((i64.wrap (1+(cm x0 22)))==13)else(bif((i64.wrap (1+(cm x0 22)))==15)then((i64.wrap (1+(cm x0 22)))==15)else((i64.wrap (1+(cm x0 22)))==16))))))))
def yC:Bool:=(bif((i64.wrap (1+(cm x0 22)))==5)then((i64.wrap (1+(cm x0 22)))==5)else((i64.wrap (1+(cm x0 22)))==6))
def afO:ag:=(bif(tN x0)then(lD x1)else(bif((i64.wrap (1+(cm x0 22)))==3)then(lD x1)else(bif((i64.wrap (1+(cm x0 22)))==20)then(lD x1)else(bif((i64.wrap (1+(cm x0 22)))==4)then(lD x1)else(bif(yC x0)then(lD x1)else(bif((i64.wrap (1+(cm x0 22)))==14)then(lD x1)else(bif((i64.wrap (1+(cm x0 22)))==22)then⟨#[]⟩else(lD x1))))))))
def afP:ag:=(bif(tN x0)then⟨#[]⟩else(bif((i64.wrap (1+(cm x0 22)))==3)then⟨#[]⟩else(bif((i64.wrap (1+(cm x0 22)))==20)then⟨#[]⟩else(bif((i64.wrap (1+(cm x0 22)))==4)then(lD x2)else(bif(yC x0)then(lD x2)else⟨#[]⟩)))))
def afQ:ag:=(bif(tN x0)then(CA x3 x4)else(bif((i64.wrap (1+(cm x0 22)))==3)then⟨#[]⟩else(bif((i64.wrap (1+(cm x0 22)))==20)then⟨#[]⟩else(bif((i64.wrap (1+(cm x0 22)))==4)then(CA x3 x4)else(bif(yC x0)then⟨#[]⟩else(bif((i64.wrap (1+(cm x0 22)))==14)then(CA x3 x4)else⟨#[]⟩))))))
def afR:Int:=(bif(tN x0)then 0 else(bif((i64.wrap (1+(cm x0 22)))==3)then(x3.tmod 1073741824)else(bif((i64.wrap (1+(cm x0 22)))==20)then(cm x3 60)else(bif((i64.wrap (1+(cm x0 22)))==4)then 0 else(bif(yC x0)then 0 else(bif((i64.wrap (1+(cm x0 22)))==14)then(i64.wrap ((cm x3 12)-6))else 0))))))
def Mr:Int:=(i64.wrap (1+(cm x0 22)))
def Ms:ag:=(afO x0 x1)
def Mt:ag:=(afP x0 x2)
def Mu:ag:=(afQ x0 x3 x4)
def Mv:Int:=(afR x0 x3)
def amX:Fq:=⟨[.g [kI,kI,kI,kI,kS]],fun x0 x1 x2 x3 x4=>⟨⟨none,.agg [ae (Mr x0),.str (Ms x0 x1),.str (Mt x0 x2),.str (Mu x0 x3 x4),ae (Mv x0 x3)]⟩⟩⟩
theorem awb:ba 49 amX:=bf Tryz.func49
 fun(x0:Int) (x1:Int) (x2:Int) (x3:Int) x4 n4=>bj ⟨.pure,[.cell 2 34],[(.c 0 0,kI),(.c 0 1,kS),(.c 0 2,kS),(.c 0 3,kS),(.c 0 4,kI)],⟨[.agg (us 5 [])],[]⟩⟩ (.ai (.ai (.ai (.j ⟨30,[],[(.t 4,kS)],[],.f⟩ .z (.j ⟨12,[.b 0],[(.h 2 1,kS),(.h 2 2,kS),(.h 2 3,kS),(.h 2 4,kI)],[.f,(.b .f (.b .f (.b .f (.b .f (.b .f .l))))),(.b .f (.b .f (.b .f (.b .f (.b .f (.b .f .l)))))),(.b .f (.b .f (.b .f (.b .f (.b .f (.b .f .l))))))],.f⟩ (.ai (.j ⟨50331678,[],[(.t 25,kB)],[],.f⟩ .z (.ai (.ai (.ai (.ai (.ai (.ai (.ai (.j ⟨72057594054705182,[],[(.t 56,kB)],[],.f⟩ .z .z)))))))))) .z))))) (let z6:=i64.wrap (1+(cm x0 22));(0<(22:Int))∧((0≤(6:Int))∧((0<(3:Int))∧((tN x0)=false→(((z6==3)=true→((1073741824:Int)≠0))∧((z6==3)=false→(((z6==20)=true→(0<(60:Int)))∧((z6==20)=false→((z6==4)=false→((yC x0)=false→((z6==14)=true→(0<(12:Int))))))))))))) (bU (aH WT (aH awe (aH awf aQ)))) Tryz.func49 (⟨(by omega),⟨(by omega),⟨(by omega),(fun h1=>⟨(fun h2=>(by have:=h1;simp [tN]at this;have:=eq_of_beq h2;omega)),(fun h3=>⟨(fun h4=>(by have:=h1;simp [tN]at this;have:=cM h3;have:=eq_of_beq h4;omega)),(fun h5=>(fun h6=>(fun h7=>(fun h8=>(by have:=h1;simp [tN]at this;have:=cM h3;have:=cM h5;have:=cM h6;have:=h7;simp [yC]at this;have:=eq_of_beq h8;omega)))))⟩)⟩)⟩⟩⟩)
def Mi:Int:=(bif((bd x2 4)==0)then 0 else(bd x2 4))
def Mj:Int:=(bif((bd x2 4)==0)then 0 else(i64.wrap (1+(bd x1 4))))
def Ml:Int:=(bif((bd x2 4)==0)then 0 else(Mr x3))
def Mm(x4:Int):ag:=(bif((bd x2 4)==0)then⟨#[]⟩else(Ms x3 x4))
def Mn:ag:=(bif((bd x2 4)==0)then⟨#[]⟩else(Mt x3 x5))
def Mo:ag:=(bif((bd x2 4)==0)then⟨#[]⟩else(Mu x3 x6 x7))
def Mp:Int:=(bif((bd x2 4)==0)then 0 else(Mv x3 x6))
def amV:Fq:=⟨[.g [kI,kI,kI,kI,kI,kI,kI,kS]],fun _ x1 x2 x3 x4 x5 x6 x7=>⟨⟨none,.agg [ae (Mi x2),ae (Mj x1 x2),ae (Ml x2 x3),.str (Mm x2 x3 x4),.str (Mn x2 x3 x5),.str (Mo x2 x3 x6 x7),ae (Mp x2 x3 x6)]⟩⟩⟩
theorem av_:ba 37 amV:=bf Tryz.func37
 fun(x0:Int) (x1:Int) (x2:Int) (x3:Int) (x4:Int) (x5:Int) (x6:Int) x7 n7=>bj ⟨.pure,[.cell 2 36],[(.c 0 0,kI),(.c 0 1,kI),(.c 0 2,kI),(.c 0 3,kS),(.c 0 4,kS),(.c 0 5,kS),(.c 0 6,kI)],⟨[.agg (us 7 [])],[]⟩⟩ (.z) ((0<(4:Int))∧(((bd x2 4)==0)=false→(0<(4:Int)))) (bU (aH WS (aH awb aQ))) Tryz.func37 (⟨(by omega),(fun h1=>(by omega))⟩)
def lC:Bool:=(bif((bd x0 20)==0)then((bd x0 20)==0)else(bif((bd x0 20)==1)then((bd x0 20)==1)else((bd x0 20)==2)))
def rr:Bool:=(bif((bd x0 20)==3)then((bd x0 20)==3)else((bd x0 20)==4))
def ru:Bool:=(bif((bd x0 20)==5)then((bd x0 20)==5)else(bif((bd x0 20)==6)then((bd x0 20)==6)else((bd x0 20)==7)))
def ry:Bool:=(bif((bd x0 20)==8)then((bd x0 20)==8)else(bif((bd x0 20)==9)then((bd x0 20)==9)else(bif((bd x0 20)==10)then((bd x0 20)==10)else((bd x0 20)==11))))
def L8:Int:=(bif(lC x0)then 1 else(bif(rr x0)then 2 else(bif(ru x0)then 3 else(bif(ry x0)then 4 else(bif((bd x0 20)==12)then 6 else(bif((bd x0 20)==13)then 7 else(bif((bd x0 20)==14)then 8 else(bif((bd x0 20)==15)then 9 else(bif((bd x0 20)==16)then 10 else(bif((bd x0 20)==17)then 11 else(bif((bd x0 20)==18)then 5 else 12)))))))))))
def L9:Int:=(bif(lC x0)then(bd x1 3)else(bif(rr x0)then(bd x1 3)else(bif(ru x0)then(bd x1 3)else(bif(ry x0)then(bd x1 3)else(bif((bd x0 20)==12)then 0 else(bif((bd x0 20)==13)then 0 else(bif((bd x0 20)==14)then 0 else(bif((bd x0 20)==15)then(bd x1 3)else(bif((bd x0 20)==16)then(bd x1 3)else(bif((bd x0 20)==17)then(bd x1 3)else(bif((bd x0 20)==18)then(bd x1 3)else 0)))))))))))
def L_:Int:=(bif(lC x0)then 0 else(bif(rr x0)then 0 else(bif(ru x0)then 0 else(bif(ry x0)then 0 else(bif((bd x0 20)==12)then(bd x2 300)else(bif((bd x0 20)==13)then(bd x2 300)else(bif((bd x0 20)==14)then(bd x2 300)else(bif((bd x0 20)==15)then(bd x2 500)else(bif((bd x0 20)==16)then 0 else(bif((bd x0 20)==17)then 0 else(bif((bd x0 20)==18)then(bd x2 40)else 0)))))))))))
def Ma:Int:=(bif(lC x0)then(Mi x2)else 0)
def Mb:Int:=(bif(lC x0)then(Mj x1 x2)else 0)
def Mc:Int:=(bif(lC x0)then(Ml x2 x3)else 0)
def Me(x4:Int):ag:=(bif(lC x0)then(Mm x2 x3 x4)else⟨#[]⟩)
def Mf:ag:=(bif(lC x0)then(Mn x2 x3 x5)else⟨#[]⟩)
def Mg:ag:=(bif(lC x0)then(Mo x2 x3 x6 x7)else⟨#[]⟩)
def Mh:Int:=(bif(lC x0)then(Mp x2 x3 x6)else 0)
def amS:Fq:=⟨[.g [kI,kI,kI,kI,kI,kI,kI,kS]],fun x0 x1 x2 x3 x4 x5 x6 x7=>⟨⟨none,.agg [ae (L8 x0),ae (L9 x0 x1),ae (L_ x0 x2),ae (Ma x0 x2),ae (Mb x0 x1 x2),ae (Mc x0 x2 x3),.str (Me x0 x2 x3 x4),.str (Mf x0 x2 x3 x5),.str (Mg x0 x2 x3 x6 x7),ae (Mh x0 x2 x3 x6)]⟩⟩⟩
theorem av8:ba 24 amS:=bf Tryz.func24
 fun(x0:Int) (x1:Int) (x2:Int) (x3:Int) (x4:Int) (x5:Int) (x6:Int) x7 n7=>bj (ms:=[.f,.f,.f,(.b .f .l),(.b .f .l),(.b .f .l),(.b .f .l),(.b .f .l),(.b .f .l),(.b .f .l)]) ⟨.pure,[.cell 2 38],[(.c 0 0,kI),(.c 0 1,kI),(.c 0 2,kI),(.c 0 3,kI),(.c 0 4,kI),(.c 0 5,kI),(.c 0 6,kS),(.c 0 7,kS),(.c 0 8,kS),(.c 0 9,kI)],⟨[.agg (us 10 [])],[]⟩⟩ (.ai (.ai (.s (.ai (.j ⟨1550,[],[(.t 10,kB)],[],.f⟩ .z (.ai (.j ⟨262670,[],[(.t 18,kB)],[],.f⟩ .z (.ai (.j ⟨8389134,[],[(.t 23,kB)],[],.f⟩ .z (.ai (.j ⟨536871438,[],[(.t 29,kB)],[],.f⟩ .z .z)))))))) .z))) (let z6:=bd x0 20;(0<(3:Int))∧((0<(20:Int))∧((lC x0)=false→((rr x0)=false→((ru x0)=false→((ry x0)=false→(((z6==12)=true→(0<(300:Int)))∧((z6==12)=false→(((z6==13)=true→(0<(300:Int)))∧((z6==13)=false→(((z6==14)=true→(0<(300:Int)))∧((z6==14)=false→(((z6==15)=true→(0<(500:Int)))∧((z6==15)=false→((z6==16)=false→((z6==17)=false→((z6==18)=true→(0<(40:Int))))))))))))))))))) (bU (aH WS (aH av_ aQ))) Tryz.func24 (⟨(by omega),⟨(by omega),(fun h1=>(fun h2=>(fun h3=>(fun h4=>⟨(fun h5=>(by have:=h1;simp [lC]at this;have:=h2;simp [rr]at this;have:=h3;simp [ru]at this;have:=h4;simp [ry]at this;have:=eq_of_beq h5;omega)),(fun h6=>⟨(fun h7=>(by have:=h1;simp [lC]at this;have:=h2;simp [rr]at this;have:=h3;simp [ru]at this;have:=h4;simp [ry]at this;have:=cM h6;have:=eq_of_beq h7;omega)),(fun h8=>⟨(fun h9=>(by have:=h1;simp [lC]at this;have:=h2;simp [rr]at this;have:=h3;simp [ru]at this;have:=h4;simp [ry]at this;have:=cM h6;have:=cM h8;have:=eq_of_beq h9;omega)),(fun dJ=>⟨(fun jH=>(by have:=h1;simp [lC]at this;have:=h2;simp [rr]at this;have:=h3;simp [ru]at this;have:=h4;simp [ry]at this;have:=cM h6;have:=cM h8;have:=cM dJ;have:=eq_of_beq jH;omega)),(fun fw=>(fun nh=>(fun rG=>(fun v8=>(by have:=h1;simp [lC]at this;have:=h2;simp [rr]at this;have:=h3;simp [ru]at this;have:=h4;simp [ry]at this;have:=cM h6;have:=cM h8;have:=cM dJ;have:=cM fw;have:=cM nh;have:=cM rG;have:=eq_of_beq v8;omega)))))⟩)⟩)⟩)⟩))))⟩⟩)
def nc(x0:Sl jg)(x1:Int)(af:Int):Bool:=(bif(decide (af<(x0.n:Int)))then(decide (af<x1))else false)
def o6(x0:Sl jg)(x1:Int):Nat→Int→Sl aK→Sl aK
 |0,_,_=>default
 |k+1,af,ak=>(bif(nc x0 x1 af)then(o6 x0 x1 k (i64.wrap (af+1)) (Sl.app ak (Sl.lit ([(⟨(L8 (x0.at' (toNat af)).c0),(L9 (x0.at' (toNat af)).c0 (x0.at' (toNat af)).c1),(L_ (x0.at' (toNat af)).c0 (x0.at' (toNat af)).c2),(Ma (x0.at' (toNat af)).c0 (x0.at' (toNat af)).c2),(Mb (x0.at' (toNat af)).c0 (x0.at' (toNat af)).c1 (x0.at' (toNat af)).c2),(Mc (x0.at' (toNat af)).c0 (x0.at' (toNat af)).c2 (x0.at' (toNat af)).c3),(Me (x0.at' (toNat af)).c0 (x0.at' (toNat af)).c2 (x0.at' (toNat af)).c3 (x0.at' (toNat af)).c4),(Mf (x0.at' (toNat af)).c0 (x0.at' (toNat af)).c2 (x0.at' (toNat af)).c3 (x0.at' (toNat af)).c5),(Mg (x0.at' (toNat af)).c0 (x0.at' (toNat af)).c2 (x0.at' (toNat af)).c3 (x0.at' (toNat af)).c6 (x0.at' (toNat af)).c7),(Mh (x0.at' (toNat af)).c0 (x0.at' (toNat af)).c2 (x0.at' (toNat af)).c3 (x0.at' (toNat af)).c6)⟩:aK)]:List aK))))else ak)
def arM(x0:Sl jg)(x1:Int):Sl aK:=o6 x0 x1 ((toNat ((x0.n:Int)-0))+1) 0 (al:Sl aK)
def gY(x0:Sl jg)(x1:Int):Sl aK:=(arM x0 x1)
def amM:Fq:=⟨[.v (.sl PH),.v kI],fun x0 x1=>⟨⟨none,(Kd.ah mR).av (gY x0 x1)⟩⟩⟩
theorem av4:ba 14 amM:=bf Tryz.func14
 fun x0 n0 _ (x1:Int)=>bj ⟨.own mR,[.tmp 4],[(.h 0 0,.ah mR)],⟨[],[]⟩⟩ (.ai (.ai (.j ⟨48,[],[],[],.f⟩ (.ai (.lp ⟨115,[],[(.t 5,mR)],[(.t 6,kI),(.h 0 0,.ah mR)],some 0,false,48,[],[(.h 0 0,.ah mR)],fun k (s:Int×Sl aK)=>o6 x0 x1 k s.1 s.2,.f,fun(s:Int×Sl aK)=>(0≤s.1∧s.1≤(x0.n:Int)∧(s.2.n:Int)=s.1),fun(s:Int×Sl aK)=>(toNat ((x0.n:Int)-s.1)),none⟩ (.s (.j ⟨73587,[],[(.t 12,kB),(.t 16,kB)],[],.f⟩ .z .z) .z))) .z))) (((0≤(0:Int)∧(0:Int)≤(x0.n:Int)∧((0:Nat):Int)=(0:Int)))∧(∀(af:Int) (ak:Sl aK),let z6:=i64.wrap (af+1);(0≤af∧af≤(x0.n:Int)∧(ak.n:Int)=af)→(((nc x0 x1 af)=true→(((0:Int)≤af∧af<(x0.n:Int))∧(ak.n+1≤549755813888)))∧((nc x0 x1 af)=true→((0≤z6∧z6≤(x0.n:Int)∧(((ak.n+1):Nat):Int)=z6)∧(toNat ((x0.n:Int)-z6))<(toNat ((x0.n:Int)-af))))))) (bU (aH av8 aQ)) Tryz.func14 (⟨(by omega),(fun af ak dX=>⟨(fun h2=>⟨(by have:=h2;(try simp [nc]at this);omega),(by have:=h2;(try simp [nc]at this);omega)⟩),(fun h3=>(by have:=h3;(try simp [nc]at this);first|omega|(have:=aq (af+1);omega)))⟩)⟩)
theorem ait(x0:Sl jg)(x1:Int)(hx:0≤x1∧x1≤3000): ∀(k:Nat) (v:Int) (s:Sl aK),0≤v→(s.n:Int)=v→v≤x1→((o6 x0 x1 k v s).n:Int)≤x1
 |0,_,_,_,_,_=>by
  rw[o6];exact hx.1
 |k+1,v,s,h0,hs,hv=>by
  rw[o6]
  cases e:nc x0 x1 v
  ·rw[aCI];omega
  ·rw[aCJ,aq _];have c:v<x1:=by
    unfold nc at e
    cases a:decide (v<(x0.n:Int))with
    |false=>rw[a]at e;cases e
    |true=>rw[a]at e;exact ay e
   refine ait x0 x1 hx k (v+1) _ (by omega) ?_ (by omega);show(((s.n+1:Nat)):Int)=v+1;omega
theorem ayk(x0:Sl jg)(x1:Int):((gY x0 x1).n:Int)≤x1∨x1<0∨3000<x1:=by
 by_cases hx:0≤x1∧x1≤3000
 ·exact .inl (ait x0 x1 hx _ 0 al (aCT _) rfl hx.1)
 ·omega
def m_(x0:Sl aK)(x1:Sl aK):Sl aK:=(Sl.app x0 x1)
def amL:Fq:=⟨[.v (.sl mR),.v (.sl mR)],fun x0 x1=>⟨⟨some ((x0.n:Int)+x1.n≤549755813888),(Kd.ah mR).av (m_ x0 x1)⟩⟩⟩
theorem av3:ba 13 amL:=bf Tryz.func13
 fun x0 n0 _ x1 n1 _ hp=>bj ⟨.own mR,[.tmp 4],[(.h 0 0,.ah mR)],⟨[],[]⟩⟩ (.z) ((x0.n≤549755813888)∧(x0.n+x1.n≤549755813888)) fK Tryz.func13 (⟨(by omega),(by omega)⟩)
theorem aE6(x0 x1:Sl aK):(m_ x0 x1).n=x0.n+x1.n:=rfl
def afJ(x0:Sl aK):Bool:=(bif((Ln x0)==0)then(((Gg x0).n:Int)==3)else false)
def vO(x0:Sl aK):Sl fW:=(Gg x0)
def L5(x0:Sl aK):Sl bI:=(Ll x0)
def arL(x0:Sl aK):Sl aS:=(afd x0)
def Cu(x0:Sl aK):Int:=(Lm x0)
def yz(x0:Sl aK):Bool:=(afJ x0)
def amK:Fq:=⟨[.v (.sl mR)],fun x0=>⟨⟨none,.cU [.agg [aL 11 E_ (vO x0),aL 12 JT (L5 x0),aL 2 JU (arL x0),ae (Cu x0)],.bool (yz x0)]⟩⟩⟩
theorem av2:ba 12 amK:=bf Tryz.func12
 fun x0 _ _=>bj ⟨.pure,[.cell 2 27,.tmp 3],[(.c 0 0,.sl wU),(.c 0 1,.sl jf),(.c 0 2,.sl cr),(.c 0 3,kI),(.t 1,kB)],⟨[.agg (us 4 []),U],[]⟩⟩ (.ai (.ai (.j ⟨12,[.b 1],[(.t 3,kB)],[],.f⟩ .z .z))) True (bU (aH avL aQ)) Tryz.func12 (trivial)
end
theorem akp{α:Type}{s:Sl α}{i:Nat}(h:i<s.n):s.B.drop i=s.at' i::s.B.drop (i+1):=by
 rw[aEk (by rw[eJ];exact h)]
 congr 1
 simp [Sl.B]
def iR(l:List aK):Cr:=l.foldl lP xN
theorem ajq{x0:Sl aK}(hn:x0.n≤549755813888): ∀(m fu v:Nat) (X:Cr),v+m=x0.n→m≤fu→bR (tG x0 (fu+1) (v:Int) X)=(x0.B.drop v).foldl lP X
 |0,fu,v,X,hm,hf=>by
  rw[tG,cq (show¬(v:Int)<(x0.n:Int) by omega),aCI,Si,List.drop_eq_nil_of_le (by rw[eJ];omega)];rfl
 |m+1,fu,v,X,hm,hf=>by
  obtain⟨fu,rfl⟩: ∃q,fu=q+1:=⟨fu-1,by omega⟩;rw[tG,cx (show(v:Int)<(x0.n:Int) by omega),aCJ,aq _,akp (by omega),aEe];exact ajq hn m fu (v+1) _ (by omega) (by omega)
theorem O7{x0:Sl aK}(hn:x0.n≤549755813888):bR (cG x0)=iR x0.B:=by
 have h:=ajq hn x0.n (toNat ((x0.n:Int)- (0:Int))) 0 xN (by omega) (by omega);rw[List.drop_zero]at h;exact h
theorem aiC{x0:Sl aK}(hn:x0.n≤3000)(hc: ∀q,q<x0.n→k_ (x0.at' q)): ∀(m fu:Nat) (v:Int),0≤v→v+(m:Int)=(x0.n:Int)→m≤fu→(vD x0 (fu+1) v).1=false
 |0,fu,v,h0,hm,hf=>by
  rw[vD,cq (show¬v<(x0.n:Int) by omega)];rfl
 |m+1,fu,v,h0,hm,hf=>by
  obtain⟨fu,rfl⟩: ∃q,fu=q+1:=⟨fu-1,by omega⟩;have e:k_ (x0.at' (toNat v)):=hc _ (by omega);unfold k_ at e;rw[vD,cx (show v<(x0.n:Int) by omega),aCJ,e,show((0:Int)!=0)=false from rfl,aCI,aq _];exact aiC hn hc m fu (v+1) (by omega) (by omega) (by omega)
def lg(x0:Sl aK):Prop:=x0.n≤3000∧ ∀q,q<x0.n→k_ (x0.at' q)
theorem ph{x0:Sl aK}(h:lg x0):decide ((x0.n:Int)>3000)=false∧m7 x0=true:=by
 have hn:=h.1;refine⟨cq (by omega),?_⟩;have e:=aiC h.1 h.2 x0.n (toNat ((x0.n:Int)-0)) 0 (aCT _) (by omega) (by omega);have e:(tH x0).1=false:=e;unfold m7;rw[e];rfl
theorem aAl{x0:Sl aK}(h:lg x0):Ln x0=0:=by
 unfold Ln;rw[(ph h).1,(ph h).2];rfl
theorem aAm{x0:Sl aK}(h:lg x0):Lm x0=((iR x0.B).ax.n:Int):=by
 have hn:=h.1;unfold Lm;rw[(ph h).1,(ph h).2,O7 (by omega)];rfl
def Zv(n:Nd):fW:=⟨n.up,n.te,(n.ro==3),n.co,n.lb,n.lt,n.li,Gl n.mn,Gm n.mE,Gn n.mx,Gp n.mc⟩
def views(C:Cr):Sl fW:=Sl.app (Sl.app (Sl.lit [Zv (C.nd 0)]) (Sl.lit [Zv (C.nd 1)])) (Sl.lit [Zv (C.nd 2)])
theorem aju{x0:Sl aK}(h:lg x0):Gg x0=views (iR x0.B):=by
 have hn:=h.1;unfold Gg;rw[(ph h).1,(ph h).2,O7 (by omega)];rfl
theorem ajR{x0:Sl aK}(hT:(bR (cG x0)).told.n≤549755813888): ∀(m fu v:Nat) (s:Sl bI),v+m=(bR (cG x0)).told.n→m≤fu→(BR x0 (fu+1) (v:Int) s).n=s.n+m
 |0,fu,v,s,hm,hf=>by
  rw[BR,cq (show¬(v:Int)<(((bR (cG x0)).told.n:Nat):Int) by omega),aCI];omega
 |m+1,fu,v,s,hm,hf=>by
  obtain⟨fu,rfl⟩: ∃q,fu=q+1:=⟨fu-1,by omega⟩;rw[BR,cx (show(v:Int)<(((bR (cG x0)).told.n:Nat):Int) by omega),aCJ,aq _];have k:=ajR hT m fu (v+1) (Sl.app s (Sl.lit ([((bR (cG x0)).told.at' (toNat (v:Int)))]:List bI))) (by omega) (by omega);have e:(Sl.app s (Sl.lit ([((bR (cG x0)).told.at' (toNat (v:Int)))]:List bI))).n=s.n+1:=rfl;have c:(((v+1:Nat):Nat):Int)=(v:Int)+1:=by omega
  rw[c]at k;rw[k];omega
theorem aAq{x0:Sl aK}(h:lg x0):(Ll x0).n=(iR x0.B).told.n:=by
 have hn:=h.1;have q:=O5 (ph h).1 (ph h).2;have k:=ajR (x0:=x0) (by omega) (bR (cG x0)).told.n (toNat ((((bR (cG x0)).told.n:Nat):Int)-0)) 0 al (by omega) (by omega);have z:(al:Sl bI).n=0:=rfl;unfold Ll;rw[(ph h).1,(ph h).2,aCI,aCJ,←O7 (by omega)];have k:(T_ x0).n=(al:Sl bI).n+(bR (cG x0)).told.n:=k;rw[k,z,aCO]
theorem abt{x0:Sl aK}(h:lg x0):iN x0.n (iR x0.B):=by
 have hn:=h.1;rw[←O7 (by omega)];exact abq (ph h).1 (ph h).2
theorem aox(l m:List aK):iR (l++m)=m.foldl lP (iR l):=List.foldl_append ..
def lV(x:Int):Prop:= -9223372036854775808≤x∧x≤9223372036854775807
theorem qu{x m:Int}(hx:lV x)(hm:0<m):0≤cm x m∧cm x m<m:=by
 have h0:0≤UY x:=by
  unfold UY;obtain⟨h1,h2⟩:=hx
  by_cases c:x<0
  ·rw[cx c,aCJ,aq (x+1),aq (0- (x+1))];omega
  ·rw[cq c,aCI];omega
 exact⟨Int.tmod_nonneg m h0,Int.tmod_lt_of_pos _ hm⟩
theorem akb(x:Int):lz (lD x)=true:=by
 have e:(lD x).size=1:=rfl;unfold lz FM;rw[e];rfl
theorem aBB(x:Int):jP (lD x)=true:=by
 have e:(lD x).size=1:=rfl;unfold jP;rw[e];rfl
theorem aBC(x:ag):jP (My x 6)=true:=by
 unfold jP My;have h:=rX (x.size:Int) 6;have e:(x.extract (toNat 0) (toNat (gM (x.size:Int) 6))).size≤6:=by
  rw[ByteArray.size_extract];omega
 exact cx (by omega)
theorem ap6:jP ⟨#[]⟩=true:=rfl
theorem Ox{x:Int}(h: -1099511627776≤x∧x≤1099511627776):kR x=true:=by
 unfold kR Ky;simp;omega
theorem aii{x:Int}(h:1≤x∧x≤1048576):xC x=true:=by
 unfold xC Tv;simp;omega
theorem aA4(x:Int): -1099511627776≤x.tmod 1073741824∧x.tmod 1073741824≤1099511627776:=by
 have h1:=Int.tmod_lt_of_pos x (show(0:Int)<1073741824 by decide);have h2:=Int.lt_tmod_of_pos x (show(0:Int)<1073741824 by decide);omega
theorem aoj{x0 x1 x2 x3:Int}{x4:ag}(h0:lV x0)(h3:lV x3):fO (Mr x0) (Ms x0 x1) (Mt x0 x2) (Mu x0 x3 x4) (Mv x0 x3)=0:=by
 have k:=qu h0 (m:=22) (by decide);have w:=aq (1+cm x0 22);unfold Mr Ms Mt Mu Mv afO afP afQ afR yC tN;rw[w];have hT:jP (CA x3 x4)=true:=by
  unfold CA
  cases (cm x3 3==0)
  ·exact aBC _
  ·exact aBB _
 have WW:=qu h3 (m:=60) (by decide);have Iv:=qu h3 (m:=12) (by decide);have w12:=aq (cm x3 12-6);have a1:=Ox (x:=cm x3 60) (by omega);have a2:=Ox (x:=cm x3 12-6) (by omega);have a3:=Ox (aA4 x3);have a0:kR 0=true:=Ox (by decide);have b1:=akb x1;have b2:=akb x2;have b0:=ap6;rw[w12];revert b1 b2 a1 a2 a3 hT;generalize lD x1=K;generalize lD x2=F;generalize CA x3 x4=T;generalize cm x3 60=N1;generalize cm x3 12-6=N2;generalize x3.tmod 1073741824=N3;intro b1 b2 a1 a2 a3 hT;have e:1+cm x0 22=1∨1+cm x0 22=2∨1+cm x0 22=3∨1+cm x0 22=4∨1+cm x0 22=5∨1+cm x0 22=6∨1+cm x0 22=7∨1+cm x0 22=8∨1+cm x0 22=9∨1+cm x0 22=10∨1+cm x0 22=11∨1+cm x0 22=12∨1+cm x0 22=13∨1+cm x0 22=14∨1+cm x0 22=15∨1+cm x0 22=16∨1+cm x0 22=17∨1+cm x0 22=18∨1+cm x0 22=19∨1+cm x0 22=20∨1+cm x0 22=21∨1+cm x0 22=22:=by omega
 revert e;generalize 1+cm x0 22=κ;intro e;unfold fO tO U_ U9 Hf MB yH yG yF MA;rcases e with rfl|rfl|rfl|rfl|rfl|rfl|rfl|rfl|rfl|rfl|rfl|rfl|rfl|rfl|rfl|rfl|rfl|rfl|rfl|rfl|rfl|rfl<;>simp [b1,b2,b0,a0,a1,a2,a3,hT]
theorem an4{x1 x2 x3 x4 x5 x6:Int}{x7:ag}(h1:lV x1)(h2:lV x2)(h3:lV x3)(h6:lV x6):jG (Mi x2) (Mj x1 x2) (Ml x2 x3) (Mm x2 x3 x4) (Mn x2 x3 x5) (Mo x2 x3 x6 x7) (Mp x2 x3 x6)=0:=by
 have k2:0≤bd x2 4∧bd x2 4<4:=qu h2 (by decide);have k1:0≤bd x1 4∧bd x1 4<4:=qu h1 (by decide);have w:=aq (1+bd x1 4);unfold Mi Mj Ml Mm Mn Mo Mp;rw[w]
 by_cases c:bd x2 4=0
 ·rw[show(bd x2 4==0)=true by simp [c]];simp [jG]
 ·rw[show(bd x2 4==0)=false by simp [c]];simp only[aCI];unfold jG Va;rw[show(bd x2 4==0)=false by simp [c],aii (x:=bd x2 4) (by omega),aii (x:=1+bd x1 4) (by omega)];exact aoj h3 h6
theorem kV{k n p:Int}(hk:2≤k∧k≤12)(hn:mZ k=true→0≤n∧n<3)(Di:mZ k=false→n=0)(hp:m4 k=true→0≤p∧p≤400000)(rL:m4 k=false→p=0):o7 k n p 0 0 0 ⟨#[]⟩ ⟨#[]⟩ ⟨#[]⟩ 0=0:=by
 have e1:Hj k=false:=by
  unfold Hj;rw[cq (by omega),cq (by omega)];rfl
 have e2:CL k n p=false:=by
  unfold CL
  cases a:mZ k<;>cases b:m4 k<;>simp only[aCJ,aCI]
  ·have:=hp b;rw[cq (by omega),cq (by omega)];rfl
  ·have:=hn a;rw[cq (by omega),cq (by omega)];rfl
  ·have:=hn a;have:=hp b;rw[cq (by omega),cq (by omega),cq (by omega),cq (by omega)];rfl
 have e3:yJ k n p 0 0 0 ⟨#[]⟩ ⟨#[]⟩ ⟨#[]⟩ 0=false:=by
  unfold yJ
  cases a:mZ k<;>cases b:m4 k<;>simp
  ·exact⟨Di a,rL b⟩
  ·exact Di a
  ·exact rL b
 unfold o7;rw[e1,e2,e3,show(k==1)=false by simp;omega];rfl
theorem Vf{n x3 x4 x5:Int}{x6 x7 x8:ag}{x9:Int}(hn:0≤n∧n<3):o7 1 n 0 x3 x4 x5 x6 x7 x8 x9=jG x3 x4 x5 x6 x7 x8 x9:=by
 have a:mZ 1=true:=rfl;have b:m4 1=false:=rfl;unfold o7 Hj CL yJ;rw[a,b,cq (show¬n<0 by omega),cq (show¬n≥3 by omega)];rfl
def Qu(g:jg):Prop:=lV g.c0∧lV g.c1∧lV g.c2∧lV g.c3∧lV g.c6
def RH(g:jg):aK:=⟨(L8 g.c0),(L9 g.c0 g.c1),(L_ g.c0 g.c2),(Ma g.c0 g.c2),(Mb g.c0 g.c1 g.c2),(Mc g.c0 g.c2 g.c3),(Me g.c0 g.c2 g.c3 g.c4),(Mf g.c0 g.c2 g.c3 g.c5),(Mg g.c0 g.c2 g.c3 g.c6 g.c7),(Mh g.c0 g.c2 g.c3 g.c6)⟩
theorem ann{g:jg}(h:Qu g):k_ (RH g):=by
 obtain⟨h0,h1,h2,h3,h6⟩:=h;have k0:0≤bd g.c0 20∧bd g.c0 20<20:=qu h0 (by decide);have n1:0≤bd g.c1 3∧bd g.c1 3<3:=qu h1 (by decide);have p1:0≤bd g.c2 300∧bd g.c2 300<300:=qu h2 (by decide);have p2:0≤bd g.c2 500∧bd g.c2 500<500:=qu h2 (by decide);have p3:0≤bd g.c2 40∧bd g.c2 40<40:=qu h2 (by decide);have hc:=an4 (x1:=g.c1) (x2:=g.c2) (x3:=g.c3) (x4:=g.c4) (x5:=g.c5) (x6:=g.c6) (x7:=g.c7) h1 h2 h3 h6;unfold k_ RH;unfold L8 L9 L_ Ma Mb Mc Me Mf Mg Mh ry ru rr lC;have e:bd g.c0 20=0∨bd g.c0 20=1∨bd g.c0 20=2∨bd g.c0 20=3∨bd g.c0 20=4∨bd g.c0 20=5∨bd g.c0 20=6∨bd g.c0 20=7∨bd g.c0 20=8∨bd g.c0 20=9∨bd g.c0 20=10∨bd g.c0 20=11∨bd g.c0 20=12∨bd g.c0 20=13∨bd g.c0 20=14∨bd g.c0 20=15∨bd g.c0 20=16∨bd g.c0 20=17∨bd g.c0 20=18∨bd g.c0 20=19:=by omega
 rcases e with e|e|e|e|e|e|e|e|e|e|e|e|e|e|e|e|e|e|e|e<;>simp only[e]
 ·exact(Vf n1).trans hc
 ·exact(Vf n1).trans hc
 ·exact(Vf n1).trans hc
 ·exact kV (k:=2) (by decide) (fun _=>n1) (fun z=>by cases z) (fun z=>by cases z) (fun _=>rfl)
 ·exact kV (k:=2) (by decide) (fun _=>n1) (fun z=>by cases z) (fun z=>by cases z) (fun _=>rfl)
 ·exact kV (k:=3) (by decide) (fun _=>n1) (fun z=>by cases z) (fun z=>by cases z) (fun _=>rfl)
 ·exact kV (k:=3) (by decide) (fun _=>n1) (fun z=>by cases z) (fun z=>by cases z) (fun _=>rfl)
 ·exact kV (k:=3) (by decide) (fun _=>n1) (fun z=>by cases z) (fun z=>by cases z) (fun _=>rfl)
 ·exact kV (k:=4) (by decide) (fun _=>n1) (fun z=>by cases z) (fun z=>by cases z) (fun _=>rfl)
 ·exact kV (k:=4) (by decide) (fun _=>n1) (fun z=>by cases z) (fun z=>by cases z) (fun _=>rfl)
 ·exact kV (k:=4) (by decide) (fun _=>n1) (fun z=>by cases z) (fun z=>by cases z) (fun _=>rfl)
 ·exact kV (k:=4) (by decide) (fun _=>n1) (fun z=>by cases z) (fun z=>by cases z) (fun _=>rfl)
 ·exact kV (k:=6) (n:=0) (p:=bd g.c2 300) (by decide) (fun z=>by cases z) (fun _=>rfl) (fun _=>by omega) (fun z=>by cases z)
 ·exact kV (k:=7) (n:=0) (p:=bd g.c2 300) (by decide) (fun z=>by cases z) (fun _=>rfl) (fun _=>by omega) (fun z=>by cases z)
 ·exact kV (k:=8) (n:=0) (p:=bd g.c2 300) (by decide) (fun z=>by cases z) (fun _=>rfl) (fun _=>by omega) (fun z=>by cases z)
 ·exact kV (k:=9) (p:=bd g.c2 500) (by decide) (fun _=>n1) (fun z=>by cases z) (fun _=>by omega) (fun z=>by cases z)
 ·exact kV (k:=10) (by decide) (fun _=>n1) (fun z=>by cases z) (fun z=>by cases z) (fun _=>rfl)
 ·exact kV (k:=11) (by decide) (fun _=>n1) (fun z=>by cases z) (fun z=>by cases z) (fun _=>rfl)
 ·exact kV (k:=5) (p:=bd g.c2 40) (by decide) (fun _=>n1) (fun z=>by cases z) (fun _=>by omega) (fun z=>by cases z)
 ·exact kV (k:=12) (by decide) (fun z=>by cases z) (fun _=>rfl) (fun z=>by cases z) (fun _=>rfl)
theorem aaN{α:Type}[Inhabited α]{P:α→Prop}{s:Sl α}{x:α}(h: ∀i,i<s.n→P (s.at' i))(hx:P x): ∀i,i<(Sl.app s (Sl.lit [x])).n→P ((Sl.app s (Sl.lit [x])).at' i):=by
 intro j hj;show P (bif Nat.blt j s.n then s.at' j else(([x]:List α).getD (j-s.n) default))
 cases e:Nat.blt j s.n with
 |true=>exact h j (by rw[aC9]at e;exact e)
 |false=>
  have nn:j<s.n+1:=hj;have: ¬j<s.n:=fun hh=>by
   rw[show Nat.blt j s.n=true by rw[aC9];exact hh]at e
   cases e
  have hz:j-s.n=0:=by omega
  rw[hz];exact hx
def ve(x:Sl jg):Prop:=x.n≤549755813888∧ ∀i,i<x.n→Qu (x.at' i)
theorem aaE{x0:Sl jg}{x1:Int}(h:ve x0)(hx:0≤x1∧x1≤3000): ∀(m fu:Nat) (v:Int) (s:Sl aK),0≤v→v+(m:Int)=(x0.n:Int)→m≤fu→(s.n:Int)=v→v≤x1→(∀q,q<s.n→k_ (s.at' q))→((o6 x0 x1 (fu+1) v s).n:Int)≤x1∧ ∀q,q<(o6 x0 x1 (fu+1) v s).n→k_ ((o6 x0 x1 (fu+1) v s).at' q)
 |0,fu,v,s,h0,hm,hf,hs,hv,ha=>by
  have e:nc x0 x1 v=false:=by
   unfold nc;rw[cq (by omega)];rfl
  rw[o6,e,aCI];exact⟨by omega,ha⟩
 |m+1,fu,v,s,h0,hm,hf,hs,hv,ha=>by
  obtain⟨fu,rfl⟩: ∃q,fu=q+1:=⟨fu-1,by omega⟩;have hn:=h.1
  by_cases c:v<x1
  ·have e:nc x0 x1 v=true:=by
    unfold nc;rw[cx (show v<(x0.n:Int) by omega),cx c];rfl
   rw[o6,e,aCJ,aq _];refine aaE h hx m fu (v+1) (Sl.app s (Sl.lit [RH (x0.at' (toNat v))])) (by omega) (by omega) (by omega) ?_ (by omega) (aaN ha (ann (h.2 _ (by omega))));show(((s.n+1:Nat)):Int)=v+1;omega
  ·have e:nc x0 x1 v=false:=by
    unfold nc;rw[cx (show v<(x0.n:Int) by omega),cq c];rfl
   rw[o6,e,aCI];exact⟨by omega,ha⟩
theorem ano{x0:Sl jg}{x1:Int}(h:ve x0)(hx:0≤x1∧x1≤3000):((gY x0 x1).n:Int)≤x1∧ ∀q,q<(gY x0 x1).n→k_ ((gY x0 x1).at' q):=
 aaE h hx x0.n _ 0 al (aCT _) (by omega) (by omega) rfl hx.1 (fun q hq=>absurd hq (fC q))
theorem aFH{C:Cr}{a:aK}(h:a.c0=6):lP C a=Uj a C.ax C:=by
 unfold lP;simp only[h,Cr.lX];rfl
theorem aF4{C:Cr}{a:aK}(h:a.c0=12):lP C a=Gk C.ax C:=by
 unfold lP;simp only[h,Cr.lX];rfl
def aEI(C:Cr)(m:Int):Cr:=nG {C with ax:=Sl.del C.ax (toNat m) (toNat (i64.wrap (m+1)))} (C.ax.at' (toNat m))
theorem aFb{C:Cr}{a:aK}(h:a.c0=6)(hp:0≤a.c2)(hn:0<C.ax.n):lP C a=aEI C (a.c2.tmod (C.ax.n:Int)):=by
 have e:jF a C.ax=a.c2.tmod (C.ax.n:Int):=by
  unfold jF;rw[cx (by omega),aCJ]
 have b:=(D8 (n:=(C.ax.n:Int)) hp (by omega)).1;rw[aFH h];unfold Uj aqV Uk;rw[e,cx b,Cr.lX];rfl
theorem aEG(C:Cr)(D:Sl aF)(i:Nat):(⟨C.a,C.b,C.c,D,C.told,C.aY⟩:Cr).nd i=C.nd i:=by
 match i with
 |0=>rfl
 |1=>rfl
 |i+2=>rfl
theorem ay4{x0:Sl jg}(h:ve x0):lg (gY x0 80)∧(gY x0 80).n≤80:=by
 have k:=ano (x1:=80) h (by decide);exact⟨⟨by have:=k.1;omega,k.2⟩,by have:=k.1;omega⟩
theorem ay5{A:Sl aK}(h:lg A)(hn:A.n<3000){a:aK}(ha:k_ a):lg (m_ A (Sl.lit [a])):=
 ⟨by show A.n+1≤3000;omega,aaN h.2 ha⟩
theorem akr(A:Sl aK)(a:aK):(m_ A (Sl.lit [a])).B=A.B++[a]:=by
 unfold m_;rw[u_,wT]
theorem aoy(A:Sl aK)(a:aK):iR (m_ A (Sl.lit [a])).B=lP (iR A.B) a:=by
 rw[akr,aox];rfl
theorem ai6{A:Sl aK}(h:lg A):yz A=true:=by
 unfold yz afJ;rw[aAl h,aju h];rfl
theorem ai9{A:Sl aK}(h:lg A):vO A=views (iR A.B):=aju h
theorem ai8{A:Sl aK}(h:lg A):(L5 A).n=(iR A.B).told.n:=aAq h
theorem ai7{A:Sl aK}(h:lg A):Cu A=((iR A.B).ax.n:Int):=aAm h
theorem ao6{A B:Sl aK}(hA:lg A)(hB:lg B)(h:views (iR A.B)=views (iR B.B)):wV (vO A) (vO B):=by
 rw[ai9 hA,ai9 hB];exact⟨h,aCK 3⟩
theorem aET{p:Int}(hp:0≤p∧p≤400000):k_ ⟨6,0,p,0,0,0,⟨#[]⟩,⟨#[]⟩,⟨#[]⟩,0⟩:=kV (k:=6) (n:=0) (p:=p) (by decide) (fun z=>by cases z) (fun _=>rfl) (fun _=>hp) (fun z=>by cases z)
theorem aFV:k_ ⟨12,0,0,0,0,0,⟨#[]⟩,⟨#[]⟩,⟨#[]⟩,0⟩:=kV (k:=12) (n:=0) (p:=0) (by decide) (fun z=>by cases z) (fun _=>rfl) (fun z=>by cases z) (fun _=>rfl)
section
variable {x0:Sl jg} {x1 x2:Int}
theorem aEU(h:ve x0):Cu (gY x0 80)=((iR (gY x0 80).B).ax.n:Int)∧(iR (gY x0 80).B).ax.n≤300:=⟨ai7 (ay4 h).1,(abt (ay4 h).1).an⟩
end
end Go.Proofs.YtfmgjpcmcjjoiaaGreatDoor
