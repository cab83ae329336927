import Derived.Test.YtadmdaokcgjdiaaGreatDoorRows
import Derived.ProofKit
import Derived.KernelRfl
open Go.IntKind (i64 u64 u8)
open Int (toNat)
set_option maxRecDepth 100000
set_option maxHeartbeats 4000000
set_option linter.all false
noncomputable section
namespace Go.Proofs.YtadmdaokcgjdiaaGreatDoor
open Go Go.RowKit
def Mx:List Char:=([104,97,114,110,101,115,115,32,49,55,99,53,99,101,55,52,57,48,55,53,102,57,99,97,54,50,98,53,52,52,53,54,53,50,56,102,54,53,48,48,52,99,100,100,57,56,52,100,57,57,54,102,52,52,53,99,98,97,101,102,101,48,57,100,52,55,57,54,54,53,53,97,32,99,117,116,32,97,116,32,114,111,115,116,114,117,109,47,114,111,115,116,114,117,109,116,111,112,46,84,111,112,67,111,100,101,115].map Char.ofNat)
def auk:Tryz.prog.initOrder= "harness 17c5ce749075f9ca62b54456528f65004cdd984d996f445cbaefe09d4796655a cut at rostrum/rostrumtop.TopCodes" :=by kernel_rfl
def azD:("harness 17c5ce749075f9ca62b54456528f65004cdd984d996f445cbaefe09d4796655a cut at rostrum/rostrumtop.TopCodes" :String)=String.ofList ([104,97,114,110,101,115,115,32,49,55,99,53,99,101,55,52,57,48,55,53,102,57,99,97,54,50,98,53,52,52,53,54,53,50,56,102,54,53,48,48,52,99,100,100,57,56,52,100,57,57,54,102,52,52,53,99,98,97,101,102,101,48,57,100,52,55,57,54,54,53,53,97,32,99,117,116,32,97,116,32,114,111,115,116,114,117,109,47,114,111,115,116,114,117,109,116,111,112,46,84,111,112,67,111,100,101,115].map Char.ofNat):=by kernel_rfl
def auj:Tryz.prog.initOrder.toList=Mx:=by rw[auk,azD,String.toList_ofList];rfl
def aul:behindMainWord (wordsSigns Mx)=[Char.ofNat 99,Char.ofNat 117,Char.ofNat 116]::(wordsSigns Mx).drop 3:=by kernel_rfl
def U_:behindMainWord (wordsSigns Tryz.prog.initOrder.toList)=[Char.ofNat 99,Char.ofNat 117,Char.ofNat 116]::(wordsSigns Mx).drop 3:=by rw[auj];exact aul
def az0{P:Program}{r:List (List Char)}(h:behindMainWord (wordsSigns P.initOrder.toList)=[Char.ofNat 99,Char.ofNat 117,Char.ofNat 116]::r):P.make=some .cut:=by
 unfold Program.make;rw[h];rfl
def ajA(r:List (List Char)):stripLifts liftWords ([Char.ofNat 99,Char.ofNat 117,Char.ofNat 116]::r)=([],[Char.ofNat 99,Char.ofNat 117,Char.ofNat 116]::r):=by kernel_rfl
def azB{P:Program}{r:List (List Char)}(h:behindMainWord (wordsSigns P.initOrder.toList)=[Char.ofNat 99,Char.ofNat 117,Char.ofNat 116]::r):P.headLifts=[]:=by
 unfold Program.headLifts;rw[h,ajA];rfl
def aqz{P:Program}{r:List (List Char)}(h:behindMainWord (wordsSigns P.initOrder.toList)=[Char.ofNat 99,Char.ofNat 117,Char.ofNat 116]::r):P.liftsFinal=false:=by
 unfold Program.liftsFinal;rw[azB h,h];rfl
def aqb{P:Program}{r:List (List Char)}(h:behindMainWord (wordsSigns P.initOrder.toList)=[Char.ofNat 99,Char.ofNat 117,Char.ofNat 116]::r)(a:P.laysLater=false)(b:P.bearsReflect=false)(c:P.doorFits []=true):P.mayEnter=true:=by
 unfold Program.mayEnter;rw[h];simp only[ajA,a,b,c];rfl
def Tryz.own:ownKnob Tryz.prog.godebug=none:=by kernel_rfl
def awb:Tryz.prog.make=some .cut:=az0 U_
def awa:Tryz.prog.liftsFinal=false:=aqz U_
def av_:Tryz.prog.mayEnter=true:=aqb U_ (by kernel_rfl) (by kernel_rfl) (by kernel_rfl)
def aga:laidOutB Tryz.prog=true:=by kernel_rfl
def awc:mapsRowed Tryz.prog=true:=by kernel_rfl
def awd:(Tryz.prog.stops==[])=true:=by kernel_rfl
def awe:(Tryz.prog.stopKnobs==[])=true:=by kernel_rfl
def av8:Tryz.prog.plainKeys=true:=by kernel_rfl
def av9:Tryz.prog.stopsHeard=true:=by kernel_rfl
end Go.Proofs.YtadmdaokcgjdiaaGreatDoor
