import Derived.Test.YtfmgjpcmcjjoiaaGreatDoorRows
import Derived.ProofKit
open Go.IntKind (i64 u64 u8)
open Int (toNat)
set_option maxRecDepth 100000
set_option maxHeartbeats 4000000
set_option linter.all false
noncomputable section
namespace Go.Proofs.YtfmgjpcmcjjoiaaGreatDoor
open Go Go.RowKit
def KV:List Char:=([104,97,114,110,101,115,115,32,52,101,102,97,56,50,57,98,97,97,101,48,101,57,57,52,50,49,99,55,55,100,55,51,56,56,97,52,57,55,51,52,55,98,51,57,57,49,54,56,98,48,56,51,49,48,52,97,101,101,48,97,99,99,54,102,99,98,98,102,48,98,52,100,32,99,117,116,32,97,116,32,114,111,115,116,114,117,109,47,114,111,115,116,114,117,109,116,111,112,46,84,111,112,76,111,103,115,32,114,111,115,116,114,117,109,47,114,111,115,116,114,117,109,116,111,112,46,84,111,112,83,97,102,101,32,114,111,115,116,114,117,109,47,114,111,115,116,114,117,109,116,111,112,46,84,111,112,84,119,105,99,101,32,114,111,115,116,114,117,109,47,114,111,115,116,114,117,109,116,111,112,46,84,111,112,68,111,119,110,32,114,111,115,116,114,117,109,47,114,111,115,116,114,117,109,116,111,112,46,84,111,112,76,111,115,116,32,114,111,115,116,114,117,109,47,114,111,115,116,114,117,109,116,111,112,46,84,111,112,67,111,112,105,101,115,32,114,111,115,116,114,117,109,47,114,111,115,116,114,117,109,116,111,112,46,84,111,112,70,108,111,119,32,114,111,115,116,114,117,109,47,114,111,115,116,114,117,109,116,111,112,46,84,111,112,80,105,99,107,32,114,111,115,116,114,117,109,47,114,111,115,116,114,117,109,116,111,112,46,84,111,112,81,117,105,101,116].map Char.ofNat)
theorem arN:Tryz.prog.initOrder= "harness 4efa829baae0e99421c77d7388a497347b399168b083104aee0acc6fcbbf0b4d cut at rostrum/rostrumtop.TopLogs rostrum/rostrumtop.TopSafe rostrum/rostrumtop.TopTwice rostrum/rostrumtop.TopDown rostrum/rostrumtop.TopLost rostrum/rostrumtop.TopCopies rostrum/rostrumtop.TopFlow rostrum/rostrumtop.TopPick rostrum/rostrumtop.TopQuiet" :=by kernel_rfl
theorem aw4:("harness 4efa829baae0e99421c77d7388a497347b399168b083104aee0acc6fcbbf0b4d cut at rostrum/rostrumtop.TopLogs rostrum/rostrumtop.TopSafe rostrum/rostrumtop.TopTwice rostrum/rostrumtop.TopDown rostrum/rostrumtop.TopLost rostrum/rostrumtop.TopCopies rostrum/rostrumtop.TopFlow rostrum/rostrumtop.TopPick rostrum/rostrumtop.TopQuiet" :String)=String.ofList ([104,97,114,110,101,115,115,32,52,101,102,97,56,50,57,98,97,97,101,48,101,57,57,52,50,49,99,55,55,100,55,51,56,56,97,52,57,55,51,52,55,98,51,57,57,49,54,56,98,48,56,51,49,48,52,97,101,101,48,97,99,99,54,102,99,98,98,102,48,98,52,100,32,99,117,116,32,97,116,32,114,111,115,116,114,117,109,47,114,111,115,116,114,117,109,116,111,112,46,84,111,112,76,111,103,115,32,114,111,115,116,114,117,109,47,114,111,115,116,114,117,109,116,111,112,46,84,111,112,83,97,102,101,32,114,111,115,116,114,117,109,47,114,111,115,116,114,117,109,116,111,112,46,84,111,112,84,119,105,99,101,32,114,111,115,116,114,117,109,47,114,111,115,116,114,117,109,116,111,112,46,84,111,112,68,111,119,110,32,114,111,115,116,114,117,109,47,114,111,115,116,114,117,109,116,111,112,46,84,111,112,76,111,115,116,32,114,111,115,116,114,117,109,47,114,111,115,116,114,117,109,116,111,112,46,84,111,112,67,111,112,105,101,115,32,114,111,115,116,114,117,109,47,114,111,115,116,114,117,109,116,111,112,46,84,111,112,70,108,111,119,32,114,111,115,116,114,117,109,47,114,111,115,116,114,117,109,116,111,112,46,84,111,112,80,105,99,107,32,114,111,115,116,114,117,109,47,114,111,115,116,114,117,109,116,111,112,46,84,111,112,81,117,105,101,116].map Char.ofNat):=by kernel_rfl
theorem arM:Tryz.prog.initOrder.toList=KV:=by rw[arN,aw4,String.toList_ofList];rfl
theorem arO:behindMainWord (wordsSigns KV)=[Char.ofNat 99,Char.ofNat 117,Char.ofNat 116]::(wordsSigns KV).drop 3:=by kernel_rfl
theorem Ti:behindMainWord (wordsSigns Tryz.prog.initOrder.toList)=[Char.ofNat 99,Char.ofNat 117,Char.ofNat 116]::(wordsSigns KV).drop 3:=by rw[arM];exact arO
theorem axn{P:Program}{r:List (List Char)}(h:behindMainWord (wordsSigns P.initOrder.toList)=[Char.ofNat 99,Char.ofNat 117,Char.ofNat 116]::r):P.make=some .cut:=by
 unfold Program.make;rw[h];rfl
theorem ahC(r:List (List Char)):stripLifts liftWords ([Char.ofNat 99,Char.ofNat 117,Char.ofNat 116]::r)=([],[Char.ofNat 99,Char.ofNat 117,Char.ofNat 116]::r):=by kernel_rfl
theorem aw2{P:Program}{r:List (List Char)}(h:behindMainWord (wordsSigns P.initOrder.toList)=[Char.ofNat 99,Char.ofNat 117,Char.ofNat 116]::r):P.headLifts=[]:=by
 unfold Program.headLifts;rw[h,ahC];rfl
theorem aop{P:Program}{r:List (List Char)}(h:behindMainWord (wordsSigns P.initOrder.toList)=[Char.ofNat 99,Char.ofNat 117,Char.ofNat 116]::r):P.liftsFinal=false:=by
 unfold Program.liftsFinal;rw[aw2 h,h];rfl
theorem an2{P:Program}{r:List (List Char)}(h:behindMainWord (wordsSigns P.initOrder.toList)=[Char.ofNat 99,Char.ofNat 117,Char.ofNat 116]::r)(a:P.laysLater=false)(b:P.bearsReflect=false)(c:P.doorFits []=true):P.mayEnter=true:=by
 unfold Program.mayEnter;rw[h];simp only[ahC,a,b,c];rfl
theorem Tryz.own:ownKnob Tryz.prog.godebug=none:=by kernel_rfl
theorem atE:Tryz.prog.make=some .cut:=axn Ti
theorem atD:Tryz.prog.liftsFinal=false:=aop Ti
theorem atC:Tryz.prog.mayEnter=true:=an2 Ti (by kernel_rfl) (by kernel_rfl) (by kernel_rfl)
theorem ad9:laidOutB Tryz.prog=true:=by kernel_rfl
theorem atF:mapsRowed Tryz.prog=true:=by kernel_rfl
theorem atG:(Tryz.prog.stops==[])=true:=by kernel_rfl
theorem atH:(Tryz.prog.stopKnobs==[])=true:=by kernel_rfl
theorem atA:Tryz.prog.plainKeys=true:=by kernel_rfl
theorem atB:Tryz.prog.stopsHeard=true:=by kernel_rfl
end Go.Proofs.YtfmgjpcmcjjoiaaGreatDoor
