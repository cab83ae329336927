/-
  The types of the program's slices, as Lean types.
-/
import Derived.Test.YtfbpilmhnpkfhaaGreatDoorTab
import Derived.Test.YtfbpilmhnpkfhaaGreatDoorVcD
import Derived.Test.YtfbpilmhnpkfhaaGreatDoorVcG
set_option linter.all false
namespace Go.Proofs.YtfbpilmhnpkfhaaGreatDoor
open Go Go.Vc
def toI:AV→Int
 | .int _ n=>n
 |_=>0
def toS:AV→ByteArray
 | .str s=>s
 |_=>⟨#[]⟩
noncomputable def e3(x:Int):List AV:=[.int .i64 x]
noncomputable def d3(l:List AV):Int:=toI (l.getD 0 .undef)
theorem ed3(x:Int):d3 (e3 x)=x:=rfl
structure T160 where
 c0:ByteArray
 c1:ByteArray
instance:Inhabited T160:=⟨⟨default,default⟩⟩
noncomputable def e160(x:T160):List AV:=[.str x.c0,.str x.c1]
noncomputable def d160(l:List AV):T160:=⟨toS (l.getD 0 .undef),toS (l.getD 1 .undef)⟩
theorem ed160(x:T160):d160 (e160 x)=x:=rfl
noncomputable def e9(x:ByteArray):List AV:=[.str x]
noncomputable def d9(l:List AV):ByteArray:=toS (l.getD 0 .undef)
theorem ed9(x:ByteArray):d9 (e9 x)=x:=rfl
structure T164 where
 c0:ByteArray
 c1:Int
instance:Inhabited T164:=⟨⟨default,default⟩⟩
noncomputable def e164(x:T164):List AV:=[.str x.c0,.int .i64 x.c1]
noncomputable def d164(l:List AV):T164:=⟨toS (l.getD 0 .undef),toI (l.getD 1 .undef)⟩
theorem ed164(x:T164):d164 (e164 x)=x:=rfl
structure T175 where
 c0:ByteArray
 c1:Int
 c2:ByteArray
 c3:Int
 c4:(Sl T160)
 c5:(Sl ByteArray)
 c6:(Sl T164)
 c7:Int
instance:Inhabited T175:=⟨⟨default,default,default,default,default,default,default,default⟩⟩
noncomputable def e175(x:T175):List AV:=[.str x.c0,.int .i64 x.c1,.str x.c2,.int .i64 x.c3,ofSl 2 e160 x.c4,ofSl 1 e9 x.c5,ofSl 2 e164 x.c6,.int .i64 x.c7]
noncomputable def d175(l:List AV):T175:=⟨toS (l.getD 0 .undef),toI (l.getD 1 .undef),toS (l.getD 2 .undef),toI (l.getD 3 .undef),toSl d160 (l.getD 4 .undef),toSl d9 (l.getD 5 .undef),toSl d164 (l.getD 6 .undef),toI (l.getD 7 .undef)⟩
theorem ed175(x:T175):d175 (e175 x)=x:=rfl
structure T137 where
 c0:Int
 c1:Int
 c2:Int
 c3:Int
 c4:ByteArray
 c5:Int
 c6:(Sl ByteArray)
instance:Inhabited T137:=⟨⟨default,default,default,default,default,default,default⟩⟩
noncomputable def e137(x:T137):List AV:=[.int .i64 x.c0,.int .i64 x.c1,.int .i64 x.c2,.int .i64 x.c3,.str x.c4,.int .i64 x.c5,ofSl 1 e9 x.c6]
noncomputable def d137(l:List AV):T137:=⟨toI (l.getD 0 .undef),toI (l.getD 1 .undef),toI (l.getD 2 .undef),toI (l.getD 3 .undef),toS (l.getD 4 .undef),toI (l.getD 5 .undef),toSl d9 (l.getD 6 .undef)⟩
theorem ed137(x:T137):d137 (e137 x)=x:=rfl
end Go.Proofs.YtfbpilmhnpkfhaaGreatDoor
namespace Go.Proofs.YtfbpilmhnpkfhaaGreatDoor
open Go Go.Vc
noncomputable abbrev E3:El:=⟨Int,inferInstance,1,e3,d3,ed3⟩
noncomputable abbrev E160:El:=⟨T160,inferInstance,2,e160,d160,ed160⟩
noncomputable abbrev E9:El:=⟨ByteArray,inferInstance,1,e9,d9,ed9⟩
noncomputable abbrev E164:El:=⟨T164,inferInstance,2,e164,d164,ed164⟩
noncomputable abbrev E175:El:=⟨T175,inferInstance,8,e175,d175,ed175⟩
noncomputable abbrev E137:El:=⟨T137,inferInstance,7,e137,d137,ed137⟩
noncomputable def els:List (Nat×El):=[(3,E3),(85,E160),(9,E9),(87,E164),(66,E175),(44,E137)]
noncomputable def mkX(l:List (Nat×XAns)):XE:=XE.of Tryz.prog tbl els l 0 []
theorem mkX_ok{l:List (Nat×XAns)}(h:XAll Tryz.prog l):(mkX l).env.Ok:=XE.of_ok mixed tbl_ok cmp_ok h trivial
noncomputable def mkXh(m:Nat)(l:List (Nat×XAns))(hl:List (Nat×XH)):XE:=XE.of Tryz.prog tbl els l m hl
theorem mkXh_ok{m:Nat}{l:List (Nat×XAns)}{hl:List (Nat×XH)}(h:XAll Tryz.prog l)(h2:XHAll Tryz.prog hl):(mkXh m l hl).env.Ok:=XE.of_ok mixed tbl_ok cmp_ok h h2
noncomputable abbrev X0:XE:=mkX []
theorem X0_ok:X0.env.Ok:=mkX_ok trivial
end Go.Proofs.YtfbpilmhnpkfhaaGreatDoor
