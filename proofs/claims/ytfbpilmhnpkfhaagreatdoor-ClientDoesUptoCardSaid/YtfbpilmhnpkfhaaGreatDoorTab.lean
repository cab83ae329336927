/-
  The types of the program, as the conditions read them; each entry is checked against the program.
-/
import Derived.Test.YtfbpilmhnpkfhaaGreatDoorVcD
import Derived.Test.YtfbpilmhnpkfhaaGreatDoorProg
set_option linter.all false
namespace Go.Proofs.YtfbpilmhnpkfhaaGreatDoor
open Go Go.Vc
def tbl:List (Nat×Ty):=[
 (3,{size:=1,d:= .int .i64,zero:=[.int .i64 0]}),
 (4,{size:=1,d:= .bool,zero:=[.bool false]}),
 (5,{size:=1,d:= .int .u8,zero:=[.int .u8 0]}),
 (9,{size:=1,d:= .string,zero:=[.str ⟨#[]⟩]}),
 (22,{size:=1,d:= .slice 66 8 128,zero:=[.nils]}),
 (24,{size:=2,d:= .struct [(0,1),(1,1)],zero:=[.int .i64 0,.nils]}),
 (25,{size:=1,d:= .slice 44 7 80,zero:=[.nils]}),
 (27,{size:=4,d:= .struct [(0,2),(2,1),(3,1)],zero:=[.int .i64 0,.nils,.int .i64 0,.nils]}),
 (29,{size:=5,d:= .struct [(0,1),(1,1),(2,1),(3,1),(4,1)],zero:=[.int .i64 0,.str ⟨#[]⟩,.str ⟨#[]⟩,.str ⟨#[]⟩,.int .i64 0],cmp:=true}),
 (31,{size:=7,d:= .struct [(0,1),(1,1),(2,5)],zero:=[.int .i64 0,.int .i64 0,.int .i64 0,.str ⟨#[]⟩,.str ⟨#[]⟩,.str ⟨#[]⟩,.int .i64 0],cmp:=true}),
 (33,{size:=1,d:= .int .i64,zero:=[.int .i64 0]}),
 (34,{size:=1,d:= .slice 9 1 16,zero:=[.nils]}),
 (36,{size:=4,d:= .struct [(0,1),(1,1),(2,1),(3,1)],zero:=[.int .i64 0,.str ⟨#[]⟩,.int .i64 0,.nils]}),
 (44,{size:=7,d:= .struct [(0,1),(1,1),(2,1),(3,4)],zero:=[.int .i64 0,.int .i64 0,.int .i64 0,.int .i64 0,.str ⟨#[]⟩,.int .i64 0,.nils]}),
 (52,{size:=1,d:= .pointer 27,zero:=[.nilp]}),
 (61,{size:=1,d:= .slice 85 2 32,zero:=[.nils]}),
 (62,{size:=1,d:= .slice 87 2 24,zero:=[.nils]}),
 (64,{size:=6,d:= .struct [(0,1),(1,1),(2,1),(3,1),(4,1),(5,1)],zero:=[.int .i64 0,.str ⟨#[]⟩,.int .i64 0,.nils,.nils,.nils]}),
 (66,{size:=8,d:= .struct [(0,1),(1,6),(7,1)],zero:=[.str ⟨#[]⟩,.int .i64 0,.str ⟨#[]⟩,.int .i64 0,.nils,.nils,.nils,.int .i64 0]}),
 (72,{size:=1,d:= .pointer 74,zero:=[.nilp]}),
 (74,{size:=4,d:= .struct [(0,2),(2,1),(3,1)],zero:=[.int .i64 0,.nils,.int .i64 0,.bool false]}),
 (85,{size:=2,d:= .struct [(0,1),(1,1)],zero:=[.str ⟨#[]⟩,.str ⟨#[]⟩],cmp:=true}),
 (87,{size:=2,d:= .struct [(0,1),(1,1)],zero:=[.str ⟨#[]⟩,.int .i64 0],cmp:=true}),
 (133,{size:=1,d:= .int .u64,zero:=[.int .u64 0]}),
 (139,{size:=1,d:= .slice 3 1 8,zero:=[.nils]})
]
theorem tbl_ok:(tbl.all fun x=>tyB Tryz.prog x.1 x.2)=true:=by kernel_rfl
theorem cmp_ok:(tbl.all fun x=>cmpB Tryz.prog x)=true:=by kernel_rfl
theorem mixed:Tryz.prog.follows .mixedOrders=true:=by kernel_rfl
noncomputable def mkEh(m:Nat)(l:List (Nat×Ans))(hl:List (Nat×HAns)):Env:=⟨Tryz.prog,tyOf tbl,spOf l,m,hspOf hl,fun _=>false⟩
theorem mkEh_ok{m:Nat}{l:List (Nat×Ans)}{hl:List (Nat×HAns)}(h:SAll Tryz.prog l)(h2:HAll Tryz.prog hl):(mkEh m l hl).Ok:=env_ok2 mixed tbl_ok cmp_ok (spOf_ok h) (hspOf_ok h2)
noncomputable def mkE(l:List (Nat×Ans)):Env:=mkEh 0 l []
theorem mkE_ok{l:List (Nat×Ans)}(h:SAll Tryz.prog l):(mkE l).Ok:=mkEh_ok h trivial
abbrev U:AV:= .undef
end Go.Proofs.YtfbpilmhnpkfhaaGreatDoor
