/-
  The types of the program's slices, as Lean types.
-/
import Derived.Test.YtchhfojblmceiaaGreatTab
import Derived.Test.YtchhfojblmceiaaGreatVcD
import Derived.Test.YtchhfojblmceiaaGreatVcG
namespace Go.Proofs.YtchhfojblmceiaaGreat
open Go Go.Vc
def toI : AV → Int
  | .int _ n => n
  | _ => 0
def toB : AV → Bool
  | .bool b => b
  | _ => false
def toS : AV → ByteArray
  | .str s => s
  | _ => ⟨#[]⟩
noncomputable def e3 (x : Int) : List AV := [.int .i64 x]
noncomputable def d3 (l : List AV) : Int := toI (l.getD 0 .undef)
theorem ed3 (x : Int) : d3 (e3 x) = x := rfl
structure T160 where
  c0 : ByteArray
  c1 : ByteArray
instance : Inhabited T160 := ⟨⟨default, default⟩⟩
noncomputable def e160 (x : T160) : List AV := [.str x.c0, .str x.c1]
noncomputable def d160 (l : List AV) : T160 := ⟨toS (l.getD 0 .undef), toS (l.getD 1 .undef)⟩
theorem ed160 (x : T160) : d160 (e160 x) = x := rfl
noncomputable def e9 (x : ByteArray) : List AV := [.str x]
noncomputable def d9 (l : List AV) : ByteArray := toS (l.getD 0 .undef)
theorem ed9 (x : ByteArray) : d9 (e9 x) = x := rfl
structure T164 where
  c0 : ByteArray
  c1 : Int
instance : Inhabited T164 := ⟨⟨default, default⟩⟩
noncomputable def e164 (x : T164) : List AV := [.str x.c0, .int .i64 x.c1]
noncomputable def d164 (l : List AV) : T164 := ⟨toS (l.getD 0 .undef), toI (l.getD 1 .undef)⟩
theorem ed164 (x : T164) : d164 (e164 x) = x := rfl
structure T175 where
  c0 : ByteArray
  c1 : Int
  c2 : ByteArray
  c3 : Int
  c4 : (Sl T160)
  c5 : (Sl ByteArray)
  c6 : (Sl T164)
  c7 : Int
instance : Inhabited T175 := ⟨⟨default, default, default, default, default, default, default, default⟩⟩
noncomputable def e175 (x : T175) : List AV := [.str x.c0, .int .i64 x.c1, .str x.c2, .int .i64 x.c3, ofSl 2 e160 x.c4, ofSl 1 e9 x.c5, ofSl 2 e164 x.c6, .int .i64 x.c7]
noncomputable def d175 (l : List AV) : T175 := ⟨toS (l.getD 0 .undef), toI (l.getD 1 .undef), toS (l.getD 2 .undef), toI (l.getD 3 .undef), toSl d160 (l.getD 4 .undef), toSl d9 (l.getD 5 .undef), toSl d164 (l.getD 6 .undef), toI (l.getD 7 .undef)⟩
theorem ed175 (x : T175) : d175 (e175 x) = x := rfl
structure T137 where
  c0 : Int
  c1 : Int
  c2 : Int
  c3 : Int
  c4 : ByteArray
  c5 : Int
  c6 : (Sl ByteArray)
instance : Inhabited T137 := ⟨⟨default, default, default, default, default, default, default⟩⟩
noncomputable def e137 (x : T137) : List AV := [.int .i64 x.c0, .int .i64 x.c1, .int .i64 x.c2, .int .i64 x.c3, .str x.c4, .int .i64 x.c5, ofSl 1 e9 x.c6]
noncomputable def d137 (l : List AV) : T137 := ⟨toI (l.getD 0 .undef), toI (l.getD 1 .undef), toI (l.getD 2 .undef), toI (l.getD 3 .undef), toS (l.getD 4 .undef), toI (l.getD 5 .undef), toSl d9 (l.getD 6 .undef)⟩
theorem ed137 (x : T137) : d137 (e137 x) = x := rfl
structure T68 where
  c0 : Int
  c1 : Int
  c2 : Bool
  c3 : Int
  c4 : Int
  c5 : Int
  c6 : ByteArray
  c7 : ByteArray
  c8 : ByteArray
  c9 : Int
instance : Inhabited T68 := ⟨⟨default, default, default, default, default, default, default, default, default, default⟩⟩
noncomputable def e68 (x : T68) : List AV := [.int .i64 x.c0, .int .i64 x.c1, .bool x.c2, .int .i64 x.c3, .int .i64 x.c4, .int .i64 x.c5, .str x.c6, .str x.c7, .str x.c8, .int .i64 x.c9]
noncomputable def d68 (l : List AV) : T68 := ⟨toI (l.getD 0 .undef), toI (l.getD 1 .undef), toB (l.getD 2 .undef), toI (l.getD 3 .undef), toI (l.getD 4 .undef), toI (l.getD 5 .undef), toS (l.getD 6 .undef), toS (l.getD 7 .undef), toS (l.getD 8 .undef), toI (l.getD 9 .undef)⟩
theorem ed68 (x : T68) : d68 (e68 x) = x := rfl
noncomputable def e5 (x : Int) : List AV := [.int .u8 x]
noncomputable def d5 (l : List AV) : Int := toI (l.getD 0 .undef)
theorem ed5 (x : Int) : d5 (e5 x) = x := rfl
structure T122 where
  c0 : Int
  c1 : Int
  c2 : Int
  c3 : Int
  c4 : Int
  c5 : Int
  c6 : Bool
  c7 : Int
  c8 : Int
  c9 : Int
  c10 : ByteArray
  c11 : ByteArray
  c12 : ByteArray
  c13 : Int
  c14 : Int
  c15 : Int
  c16 : Int
  c17 : (Sl T175)
  c18 : Int
  c19 : (Sl T137)
instance : Inhabited T122 := ⟨⟨default, default, default, default, default, default, default, default, default, default, default, default, default, default, default, default, default, default, default, default⟩⟩
noncomputable def e122 (x : T122) : List AV := [.int .i64 x.c0, .int .i64 x.c1, .int .i64 x.c2, .int .i64 x.c3, .int .i64 x.c4, .int .i64 x.c5, .bool x.c6, .int .i64 x.c7, .int .i64 x.c8, .int .i64 x.c9, .str x.c10, .str x.c11, .str x.c12, .int .i64 x.c13, .int .i64 x.c14, .int .i64 x.c15, .int .i64 x.c16, ofSl 8 e175 x.c17, .int .i64 x.c18, ofSl 7 e137 x.c19]
noncomputable def d122 (l : List AV) : T122 := ⟨toI (l.getD 0 .undef), toI (l.getD 1 .undef), toI (l.getD 2 .undef), toI (l.getD 3 .undef), toI (l.getD 4 .undef), toI (l.getD 5 .undef), toB (l.getD 6 .undef), toI (l.getD 7 .undef), toI (l.getD 8 .undef), toI (l.getD 9 .undef), toS (l.getD 10 .undef), toS (l.getD 11 .undef), toS (l.getD 12 .undef), toI (l.getD 13 .undef), toI (l.getD 14 .undef), toI (l.getD 15 .undef), toI (l.getD 16 .undef), toSl d175 (l.getD 17 .undef), toI (l.getD 18 .undef), toSl d137 (l.getD 19 .undef)⟩
theorem ed122 (x : T122) : d122 (e122 x) = x := rfl
end Go.Proofs.YtchhfojblmceiaaGreat
namespace Go.Proofs.YtchhfojblmceiaaGreat
open Go Go.Vc
noncomputable abbrev E3 : El := ⟨Int, inferInstance, 1, e3, d3, ed3⟩
noncomputable abbrev E160 : El := ⟨T160, inferInstance, 2, e160, d160, ed160⟩
noncomputable abbrev E9 : El := ⟨ByteArray, inferInstance, 1, e9, d9, ed9⟩
noncomputable abbrev E164 : El := ⟨T164, inferInstance, 2, e164, d164, ed164⟩
noncomputable abbrev E175 : El := ⟨T175, inferInstance, 8, e175, d175, ed175⟩
noncomputable abbrev E137 : El := ⟨T137, inferInstance, 7, e137, d137, ed137⟩
noncomputable abbrev E68 : El := ⟨T68, inferInstance, 10, e68, d68, ed68⟩
noncomputable abbrev E5 : El := ⟨Int, inferInstance, 1, e5, d5, ed5⟩
noncomputable abbrev E122 : El := ⟨T122, inferInstance, 20, e122, d122, ed122⟩
noncomputable def els : List (Nat × El) := [(3, E3), (152, E160), (9, E9), (154, E164), (99, E175), (136, E137), (69, E68), (5, E5), (71, E122)]
noncomputable def mkX (l : List (Nat × XAns)) : XE := XE.of Tryz.prog tbl els l 0 []
theorem mkX_ok {l : List (Nat × XAns)} (h : XAll Tryz.prog l) : (mkX l).env.Ok := XE.of_ok mixed tbl_ok cmp_ok h trivial
noncomputable def mkXh (m : Nat) (l : List (Nat × XAns)) (hl : List (Nat × XH)) : XE := XE.of Tryz.prog tbl els l m hl
theorem mkXh_ok {m : Nat} {l : List (Nat × XAns)} {hl : List (Nat × XH)} (h : XAll Tryz.prog l) (h2 : XHAll Tryz.prog hl) : (mkXh m l hl).env.Ok := XE.of_ok mixed tbl_ok cmp_ok h h2
noncomputable abbrev X0 : XE := mkX []
theorem X0_ok : X0.env.Ok := mkX_ok trivial
end Go.Proofs.YtchhfojblmceiaaGreat
