/-
  The types of the program, as the conditions read them; each entry is checked against the program.
-/
import Derived.Test.YtchhfojblmceiaaVcD
import Derived.Test.YtchhfojblmceiaaProg
namespace Go.Proofs.Ytchhfojblmceiaa
open Go Go.Vc
def tbl : List (Nat × Ty) := [
  (3, { size := 1, d := .int .i64, zero := [.int .i64 0] }),
  (4, { size := 1, d := .bool, zero := [.bool false] }),
  (5, { size := 1, d := .int .u8, zero := [.int .u8 0] }),
  (9, { size := 1, d := .string, zero := [.str ⟨#[]⟩] }),
  (22, { size := 1, d := .int .i64, zero := [.int .i64 0] }),
  (23, { size := 1, d := .slice 22 1 8, zero := [.nils] }),
  (24, { size := 1, d := .slice 3 1 8, zero := [.nils] }),
  (26, { size := 1, d := .slice 175 8 128, zero := [.nils] }),
  (28, { size := 2, d := .struct [(0, 1), (1, 1)], zero := [.int .i64 0, .nils] }),
  (29, { size := 1, d := .slice 137 7 80, zero := [.nils] }),
  (31, { size := 4, d := .struct [(0, 2), (2, 1), (3, 1)], zero := [.int .i64 0, .nils, .int .i64 0, .nils] }),
  (35, { size := 6, d := .struct [(0, 1), (1, 1), (2, 4)], zero := [.int .i64 0, .int .i64 0, .int .i64 0, .nils, .int .i64 0, .nils] }),
  (36, { size := 1, d := .slice 68 10 104, zero := [.nils] }),
  (38, { size := 3, d := .struct [(0, 1), (1, 1), (2, 1)], zero := [.int .i64 0, .int .i64 0, .nils] }),
  (40, { size := 11, d := .struct [(0, 1), (1, 1), (2, 6), (8, 3)], zero := [.int .i64 0, .int .i64 0, .int .i64 0, .int .i64 0, .int .i64 0, .nils, .int .i64 0, .nils, .int .i64 0, .int .i64 0, .nils] }),
  (43, { size := 1, d := .slice 5 1 1, zero := [.nils] }),
  (45, { size := 2, d := .struct [(0, 1), (1, 1)], zero := [.nils, .int .i64 0] }),
  (51, { size := 1, d := .slice 9 1 16, zero := [.nils] }),
  (53, { size := 4, d := .struct [(0, 1), (1, 1), (2, 1), (3, 1)], zero := [.int .i64 0, .str ⟨#[]⟩, .int .i64 0, .nils] }),
  (60, { size := 5, d := .struct [(0, 1), (1, 1), (2, 1), (3, 1), (4, 1)], zero := [.int .i64 0, .str ⟨#[]⟩, .str ⟨#[]⟩, .str ⟨#[]⟩, .int .i64 0], cmp := true }),
  (64, { size := 7, d := .struct [(0, 1), (1, 1), (2, 5)], zero := [.int .i64 0, .int .i64 0, .int .i64 0, .str ⟨#[]⟩, .str ⟨#[]⟩, .str ⟨#[]⟩, .int .i64 0], cmp := true }),
  (68, { size := 10, d := .struct [(0, 1), (1, 1), (2, 1), (3, 7)], zero := [.int .i64 0, .int .i64 0, .bool false, .int .i64 0, .int .i64 0, .int .i64 0, .str ⟨#[]⟩, .str ⟨#[]⟩, .str ⟨#[]⟩, .int .i64 0], cmp := true }),
  (75, { size := 10, d := .struct [(0, 1), (1, 1), (2, 1), (3, 7)], zero := [.int .i64 0, .int .i64 0, .int .i64 0, .int .i64 0, .int .i64 0, .int .i64 0, .str ⟨#[]⟩, .str ⟨#[]⟩, .str ⟨#[]⟩, .int .i64 0], cmp := true }),
  (94, { size := 1, d := .slice 160 2 32, zero := [.nils] }),
  (95, { size := 1, d := .slice 164 2 24, zero := [.nils] }),
  (97, { size := 6, d := .struct [(0, 1), (1, 1), (2, 1), (3, 1), (4, 1), (5, 1)], zero := [.int .i64 0, .str ⟨#[]⟩, .int .i64 0, .nils, .nils, .nils] }),
  (122, { size := 20, d := .struct [(0, 1), (1, 1), (2, 1), (3, 1), (4, 10), (14, 6)], zero := [.int .i64 0, .int .i64 0, .int .i64 0, .int .i64 0, .int .i64 0, .int .i64 0, .bool false, .int .i64 0, .int .i64 0, .int .i64 0, .str ⟨#[]⟩, .str ⟨#[]⟩, .str ⟨#[]⟩, .int .i64 0, .int .i64 0, .int .i64 0, .int .i64 0, .nils, .int .i64 0, .nils] }),
  (137, { size := 7, d := .struct [(0, 1), (1, 1), (2, 1), (3, 4)], zero := [.int .i64 0, .int .i64 0, .int .i64 0, .int .i64 0, .str ⟨#[]⟩, .int .i64 0, .nils] }),
  (154, { size := 1, d := .struct [(0, 1)], zero := [.nils] }),
  (160, { size := 2, d := .struct [(0, 1), (1, 1)], zero := [.str ⟨#[]⟩, .str ⟨#[]⟩], cmp := true }),
  (164, { size := 2, d := .struct [(0, 1), (1, 1)], zero := [.str ⟨#[]⟩, .int .i64 0], cmp := true }),
  (175, { size := 8, d := .struct [(0, 1), (1, 6), (7, 1)], zero := [.str ⟨#[]⟩, .int .i64 0, .str ⟨#[]⟩, .int .i64 0, .nils, .nils, .nils, .int .i64 0] }),
  (176, { size := 1, d := .pointer 178, zero := [.nilp] }),
  (178, { size := 2, d := .struct [(0, 1), (1, 1)], zero := [.nils, .bool false] }),
  (184, { size := 2, d := .struct [(0, 1), (1, 1)], zero := [.nils, .int .i64 0] }),
  (214, { size := 1, d := .int .u64, zero := [.int .u64 0] }),
  (217, { size := 1, d := .int .u64, zero := [.int .u64 0] }),
  (218, { size := 1, d := .slice 43 1 24, zero := [.nils] })
]
theorem tbl_ok : (tbl.all fun x => tyB Try.prog x.1 x.2) = true := by kernel_rfl
theorem cmp_ok : (tbl.all fun x => cmpB Try.prog x) = true := by kernel_rfl
theorem mixed : Try.prog.follows .mixedOrders = true := by kernel_rfl
noncomputable def mkEh (m : Nat) (l : List (Nat × Ans)) (hl : List (Nat × HAns)) : Env := ⟨Try.prog, tyOf tbl, spOf l, m, hspOf hl, fun _ => false⟩
theorem mkEh_ok {m : Nat} {l : List (Nat × Ans)} {hl : List (Nat × HAns)} (h : SAll Try.prog l) (h2 : HAll Try.prog hl) : (mkEh m l hl).Ok := env_ok2 mixed tbl_ok cmp_ok (spOf_ok h) (hspOf_ok h2)
noncomputable def mkE (l : List (Nat × Ans)) : Env := mkEh 0 l []
theorem mkE_ok {l : List (Nat × Ans)} (h : SAll Try.prog l) : (mkE l).Ok := mkEh_ok h trivial
abbrev U : AV := .undef
end Go.Proofs.Ytchhfojblmceiaa
