import Derived.Test.YtcpfnfkibnjcfaaGreatDoorRows
import Derived.ProofKit
import Derived.KernelRfl
open Go.IntKind (i64 u64 u8)
open Int (toNat)
set_option maxRecDepth 100000
set_option maxHeartbeats 4000000
set_option linter.all false
noncomputable section
namespace Go.Proofs.YtcpfnfkibnjcfaaGreatDoor
open Go Go.RowKit
def Od:List Char:=([104,97,114,110,101,115,115,32,51,102,50,53,102,57,48,102,49,56,53,55,97,56,52,52,57,99,102,50,57,51,55,102,99,57,101,49,101,102,100,101,99,98,100,98,97,49,57,56,54,56,52,98,54,99,101,49,99,97,50,55,51,57,54,101,54,99,51,56,53,98,52,55,32,99,117,116,32,97,116,32,114,111,115,116,114,117,109,47,114,111,115,116,114,117,109,116,111,112,46,84,111,112,76,101,97,100,101,114,115,32,114,111,115,116,114,117,109,47,114,111,115,116,114,117,109,116,111,112,46,84,111,112,76,111,103,115].map Char.ofNat)
def awz:Tryz.prog.initOrder= "harness 3f25f90f1857a8449cf2937fc9e1efdecbdba198684b6ce1ca27396e6c385b47 cut at rostrum/rostrumtop.TopLeaders rostrum/rostrumtop.TopLogs" :=by kernel_rfl
def aBN:("harness 3f25f90f1857a8449cf2937fc9e1efdecbdba198684b6ce1ca27396e6c385b47 cut at rostrum/rostrumtop.TopLeaders rostrum/rostrumtop.TopLogs" :String)=String.ofList ([104,97,114,110,101,115,115,32,51,102,50,53,102,57,48,102,49,56,53,55,97,56,52,52,57,99,102,50,57,51,55,102,99,57,101,49,101,102,100,101,99,98,100,98,97,49,57,56,54,56,52,98,54,99,101,49,99,97,50,55,51,57,54,101,54,99,51,56,53,98,52,55,32,99,117,116,32,97,116,32,114,111,115,116,114,117,109,47,114,111,115,116,114,117,109,116,111,112,46,84,111,112,76,101,97,100,101,114,115,32,114,111,115,116,114,117,109,47,114,111,115,116,114,117,109,116,111,112,46,84,111,112,76,111,103,115].map Char.ofNat):=by kernel_rfl
def awy:Tryz.prog.initOrder.toList=Od:=by rw[awz,aBN,String.toList_ofList];rfl
def awA:behindMainWord (wordsSigns Od)=[Char.ofNat 99,Char.ofNat 117,Char.ofNat 116]::(wordsSigns Od).drop 3:=by kernel_rfl
def Wt:behindMainWord (wordsSigns Tryz.prog.initOrder.toList)=[Char.ofNat 99,Char.ofNat 117,Char.ofNat 116]::(wordsSigns Od).drop 3:=by rw[awy];exact awA
def aB7{P:Program}{r:List (List Char)}(h:behindMainWord (wordsSigns P.initOrder.toList)=[Char.ofNat 99,Char.ofNat 117,Char.ofNat 116]::r):P.make=some .cut:=by
 unfold Program.make;rw[h];rfl
def alL(r:List (List Char)):stripLifts liftWords ([Char.ofNat 99,Char.ofNat 117,Char.ofNat 116]::r)=([],[Char.ofNat 99,Char.ofNat 117,Char.ofNat 116]::r):=by kernel_rfl
def aBL{P:Program}{r:List (List Char)}(h:behindMainWord (wordsSigns P.initOrder.toList)=[Char.ofNat 99,Char.ofNat 117,Char.ofNat 116]::r):P.headLifts=[]:=by
 unfold Program.headLifts;rw[h,alL];rfl
def atd{P:Program}{r:List (List Char)}(h:behindMainWord (wordsSigns P.initOrder.toList)=[Char.ofNat 99,Char.ofNat 117,Char.ofNat 116]::r):P.liftsFinal=false:=by
 unfold Program.liftsFinal;rw[aBL h,h];rfl
def asI{P:Program}{r:List (List Char)}(h:behindMainWord (wordsSigns P.initOrder.toList)=[Char.ofNat 99,Char.ofNat 117,Char.ofNat 116]::r)(a:P.laysLater=false)(b:P.bearsReflect=false)(c:P.doorFits []=true):P.mayEnter=true:=by
 unfold Program.mayEnter;rw[h];simp only[alL,a,b,c];rfl
def Tryz.own:ownKnob Tryz.prog.godebug=none:=by kernel_rfl
def ayl:Tryz.prog.make=some .cut:=aB7 Wt
def ayk:Tryz.prog.liftsFinal=false:=atd Wt
def ayj:Tryz.prog.mayEnter=true:=asI Wt (by kernel_rfl) (by kernel_rfl) (by kernel_rfl)
def ah5:laidOutB Tryz.prog=true:=by kernel_rfl
def aym:mapsRowed Tryz.prog=true:=by kernel_rfl
def ayn:(Tryz.prog.stops==[])=true:=by kernel_rfl
def ayo:(Tryz.prog.stopKnobs==[])=true:=by kernel_rfl
def ayh:Tryz.prog.plainKeys=true:=by kernel_rfl
def ayi:Tryz.prog.stopsHeard=true:=by kernel_rfl
