/-
  The types of the program, as the conditions read them; each entry is checked against the program.
-/
import Derived.Test.YtchhfojblmceiaaGreatVcD
import Derived.Test.YtchhfojblmceiaaGreatProg
namespace Go.Proofs.YtchhfojblmceiaaGreat
open Go Go.Vc
def tbl : List (Nat × Ty) := [
  (3, { size := 1, d := .int .i64, zero := [.int .i64 0] }),
  (4, { size := 1, d := .bool, zero := [.bool false] }),
  (5, { size := 1, d := .int .u8, zero := [.int .u8 0] }),
  (9, { size := 1, d := .string, zero := [.str ⟨#[]⟩] }),
  (22, { size := 1, d := .slice 5 1 1, zero := [.nils] }),
  (24, { size := 2, d := .struct [(0, 1), (1, 1)], zero := [.nils, .int .i64 0] }),
  (26, { size := 1, d := .slice 71 20 216, zero := [.nils] }),
  (27, { size := 1, d := .int .i64, zero := [.int .i64 0] }),
  (34, { size := 1, d := .slice 99 8 128, zero := [.nils] }),
  (36, { size := 2, d := .struct [(0, 1), (1, 1)], zero := [.int .i64 0, .nils] }),
  (37, { size := 1, d := .slice 136 7 80, zero := [.nils] }),
  (39, { size := 4, d := .struct [(0, 2), (2, 1), (3, 1)], zero := [.int .i64 0, .nils, .int .i64 0, .nils] }),
  (41, { size := 6, d := .struct [(0, 1), (1, 1), (2, 4)], zero := [.int .i64 0, .int .i64 0, .int .i64 0, .nils, .int .i64 0, .nils] }),
  (42, { size := 1, d := .slice 69 10 104, zero := [.nils] }),
  (44, { size := 3, d := .struct [(0, 1), (1, 1), (2, 1)], zero := [.int .i64 0, .int .i64 0, .nils] }),
  (46, { size := 11, d := .struct [(0, 1), (1, 1), (2, 6), (8, 3)], zero := [.int .i64 0, .int .i64 0, .int .i64 0, .int .i64 0, .int .i64 0, .nils, .int .i64 0, .nils, .int .i64 0, .int .i64 0, .nils] }),
  (52, { size := 5, d := .struct [(0, 1), (1, 1), (2, 1), (3, 1), (4, 1)], zero := [.int .i64 0, .str ⟨#[]⟩, .str ⟨#[]⟩, .str ⟨#[]⟩, .int .i64 0], cmp := true }),
  (54, { size := 1, d := .slice 9 1 16, zero := [.nils] }),
  (56, { size := 4, d := .struct [(0, 1), (1, 1), (2, 1), (3, 1)], zero := [.int .i64 0, .str ⟨#[]⟩, .int .i64 0, .nils] }),
  (67, { size := 7, d := .struct [(0, 1), (1, 1), (2, 5)], zero := [.int .i64 0, .int .i64 0, .int .i64 0, .str ⟨#[]⟩, .str ⟨#[]⟩, .str ⟨#[]⟩, .int .i64 0], cmp := true }),
  (69, { size := 10, d := .struct [(0, 1), (1, 1), (2, 1), (3, 7)], zero := [.int .i64 0, .int .i64 0, .bool false, .int .i64 0, .int .i64 0, .int .i64 0, .str ⟨#[]⟩, .str ⟨#[]⟩, .str ⟨#[]⟩, .int .i64 0], cmp := true }),
  (71, { size := 20, d := .struct [(0, 1), (1, 1), (2, 1), (3, 1), (4, 10), (14, 6)], zero := [.int .i64 0, .int .i64 0, .int .i64 0, .int .i64 0, .int .i64 0, .int .i64 0, .bool false, .int .i64 0, .int .i64 0, .int .i64 0, .str ⟨#[]⟩, .str ⟨#[]⟩, .str ⟨#[]⟩, .int .i64 0, .int .i64 0, .int .i64 0, .int .i64 0, .nils, .int .i64 0, .nils] }),
  (94, { size := 1, d := .slice 152 2 32, zero := [.nils] }),
  (95, { size := 1, d := .slice 154 2 24, zero := [.nils] }),
  (97, { size := 6, d := .struct [(0, 1), (1, 1), (2, 1), (3, 1), (4, 1), (5, 1)], zero := [.int .i64 0, .str ⟨#[]⟩, .int .i64 0, .nils, .nils, .nils] }),
  (99, { size := 8, d := .struct [(0, 1), (1, 6), (7, 1)], zero := [.str ⟨#[]⟩, .int .i64 0, .str ⟨#[]⟩, .int .i64 0, .nils, .nils, .nils, .int .i64 0] }),
  (103, { size := 1, d := .pointer 105, zero := [.nilp] }),
  (105, { size := 4, d := .struct [(0, 2), (2, 1), (3, 1)], zero := [.int .i64 0, .nils, .int .i64 0, .bool false] }),
  (114, { size := 1, d := .int .u64, zero := [.int .u64 0] }),
  (131, { size := 1, d := .struct [(0, 1)], zero := [.nils] }),
  (136, { size := 7, d := .struct [(0, 1), (1, 1), (2, 1), (3, 4)], zero := [.int .i64 0, .int .i64 0, .int .i64 0, .int .i64 0, .str ⟨#[]⟩, .int .i64 0, .nils] }),
  (138, { size := 1, d := .pointer 140, zero := [.nilp] }),
  (140, { size := 2, d := .struct [(0, 1), (1, 1)], zero := [.nils, .bool false] }),
  (152, { size := 2, d := .struct [(0, 1), (1, 1)], zero := [.str ⟨#[]⟩, .str ⟨#[]⟩], cmp := true }),
  (154, { size := 2, d := .struct [(0, 1), (1, 1)], zero := [.str ⟨#[]⟩, .int .i64 0], cmp := true }),
  (169, { size := 2, d := .struct [(0, 1), (1, 1)], zero := [.nils, .int .i64 0] }),
  (175, { size := 1, d := .int .u64, zero := [.int .u64 0] }),
  (219, { size := 1, d := .slice 3 1 8, zero := [.nils] })
]
theorem tbl_ok : (tbl.all fun x => tyB Tryz.prog x.1 x.2) = true := by kernel_rfl
theorem cmp_ok : (tbl.all fun x => cmpB Tryz.prog x) = true := by kernel_rfl
theorem mixed : Tryz.prog.follows .mixedOrders = true := by kernel_rfl
noncomputable def mkEh (m : Nat) (l : List (Nat × Ans)) (hl : List (Nat × HAns)) : Env := ⟨Tryz.prog, tyOf tbl, spOf l, m, hspOf hl, fun _ => false⟩
theorem mkEh_ok {m : Nat} {l : List (Nat × Ans)} {hl : List (Nat × HAns)} (h : SAll Tryz.prog l) (h2 : HAll Tryz.prog hl) : (mkEh m l hl).Ok := env_ok2 mixed tbl_ok cmp_ok (spOf_ok h) (hspOf_ok h2)
noncomputable def mkE (l : List (Nat × Ans)) : Env := mkEh 0 l []
theorem mkE_ok {l : List (Nat × Ans)} (h : SAll Tryz.prog l) : (mkE l).Ok := mkEh_ok h trivial
abbrev U : AV := .undef
end Go.Proofs.YtchhfojblmceiaaGreat
