/-
  slices.Insert and slices.Delete, at the types of the program.
-/
import Derived.Test.YtchhfojblmceiaaTy
import Derived.Test.YtchhfojblmceiaaVcN
namespace Go.Proofs.Ytchhfojblmceiaa
open Go Go.Vc Go.RowKit Go.Proofs Go.Shelf
set_option maxRecDepth 100000
def insR (f ov rot T E : Nat) : Ren := ⟨fun n => match n with
  | 22 => f
  | 29 => ov
  | 30 => rot
  | n => n, fun n => match n with
  | 24 => T
  | 9 => E
  | n => n, fun n => n⟩
def delR (f T E : Nat) : Ren := ⟨fun n => match n with
  | 45 => f
  | n => n, fun n => match n with
  | 22 => T
  | 23 => E
  | n => n, fun n => n⟩
theorem il229 : InsF Try.prog (insR 229 239 240 94 160) 2 32 (.agg #[.string ⟨#[]⟩, .string ⟨#[]⟩]) :=
  have i9 : (Try.prog.info? 160).map (fun i => (i.zero, i.size, i.bytes)) = some (some ((.agg #[.string ⟨#[]⟩, .string ⟨#[]⟩]) : Value), 2, 32) := by kernel_rfl
  ⟨mixed, ⟨"slices.Insert[[]rostrum/api.Pair,rostrum/api.Pair]", by kernel_rfl, by kernel_rfl⟩, by kernel_rfl, by kernel_rfl, size_of_info i9, i9, fun w vb b o m vc lb cb tA tB kA kB h1 h2 h3 h4 h5 h6 => by
    show (callFunc 239 _).run Try.prog w = _
    rw [run_callFunc_extern Try.func239 (by kernel_rfl) (by kernel_rfl) (by kernel_rfl) (e := Extern.SlicesOverlaps.overlaps #[94, 94] #[4]) (by kernel_rfl), Lib.run_overlaps_apart w 94 4 160 (by kernel_rfl) 2 (size_of_info i9) ⟨vb, 0, none⟩ ⟨b, o, none⟩ m vc lb cb h1 tA tB kA kB h2 h3 h4 h5 h6]
    rfl⟩
noncomputable abbrev F229 : Hq := insQ E160
theorem k229 : XHOk Try.prog 229 F229.ans := ins_X (E := E160) il229 ⟨_, _, Try.func229, rfl, by kernel_rfl⟩ (by decide) (by omega) fun m => Array.length_toList.symm.trans (zeros_one (k := 2) (z := (.agg #[.string ⟨#[]⟩, .string ⟨#[]⟩])) rfl (by kernel_rfl) m).1
theorem il232 : InsF Try.prog (insR 232 241 242 51 9) 1 16 (.string ⟨#[]⟩) :=
  have i9 : (Try.prog.info? 9).map (fun i => (i.zero, i.size, i.bytes)) = some (some ((.string ⟨#[]⟩) : Value), 1, 16) := by kernel_rfl
  ⟨mixed, ⟨"slices.Insert[[]string,string]", by kernel_rfl, by kernel_rfl⟩, by kernel_rfl, by kernel_rfl, size_of_info i9, i9, fun w vb b o m vc lb cb tA tB kA kB h1 h2 h3 h4 h5 h6 => by
    show (callFunc 241 _).run Try.prog w = _
    rw [run_callFunc_extern Try.func241 (by kernel_rfl) (by kernel_rfl) (by kernel_rfl) (e := Extern.SlicesOverlaps.overlaps #[51, 51] #[4]) (by kernel_rfl), Lib.run_overlaps_apart w 51 4 9 (by kernel_rfl) 1 (size_of_info i9) ⟨vb, 0, none⟩ ⟨b, o, none⟩ m vc lb cb h1 tA tB kA kB h2 h3 h4 h5 h6]
    rfl⟩
noncomputable abbrev F232 : Hq := insQ E9
theorem k232 : XHOk Try.prog 232 F232.ans := ins_X (E := E9) il232 ⟨_, _, Try.func232, rfl, by kernel_rfl⟩ (by decide) (by omega) fun m => Array.length_toList.symm.trans (zeros_one (k := 1) (z := (.string ⟨#[]⟩)) rfl (by kernel_rfl) m).1
theorem il237 : InsF Try.prog (insR 237 245 246 95 164) 2 24 (.agg #[.string ⟨#[]⟩, .int .i64 0]) :=
  have i9 : (Try.prog.info? 164).map (fun i => (i.zero, i.size, i.bytes)) = some (some ((.agg #[.string ⟨#[]⟩, .int .i64 0]) : Value), 2, 24) := by kernel_rfl
  ⟨mixed, ⟨"slices.Insert[[]rostrum/api.Score,rostrum/api.Score]", by kernel_rfl, by kernel_rfl⟩, by kernel_rfl, by kernel_rfl, size_of_info i9, i9, fun w vb b o m vc lb cb tA tB kA kB h1 h2 h3 h4 h5 h6 => by
    show (callFunc 245 _).run Try.prog w = _
    rw [run_callFunc_extern Try.func245 (by kernel_rfl) (by kernel_rfl) (by kernel_rfl) (e := Extern.SlicesOverlaps.overlaps #[95, 95] #[4]) (by kernel_rfl), Lib.run_overlaps_apart w 95 4 164 (by kernel_rfl) 2 (size_of_info i9) ⟨vb, 0, none⟩ ⟨b, o, none⟩ m vc lb cb h1 tA tB kA kB h2 h3 h4 h5 h6]
    rfl⟩
noncomputable abbrev F237 : Hq := insQ E164
theorem k237 : XHOk Try.prog 237 F237.ans := ins_X (E := E164) il237 ⟨_, _, Try.func237, rfl, by kernel_rfl⟩ (by decide) (by omega) fun m => Array.length_toList.symm.trans (zeros_one (k := 2) (z := (.agg #[.string ⟨#[]⟩, .int .i64 0])) rfl (by kernel_rfl) m).1
noncomputable abbrev F230 : Hq := delQ E160
theorem k230 : XHOk Try.prog 230 F230.ans := del_X (E := E160) (z := (.agg #[.string ⟨#[]⟩, .string ⟨#[]⟩])) (delRuns_of (ρ := delR 230 94 160) (b := 32) mixed ⟨"slices.Delete[[]rostrum/api.Pair,rostrum/api.Pair]", by kernel_rfl, by kernel_rfl⟩ (by kernel_rfl) (by kernel_rfl)) ⟨_, _, Try.func230, rfl, by kernel_rfl⟩ (zeros_one rfl (by kernel_rfl))
noncomputable abbrev F234 : Hq := delQ E9
theorem k234 : XHOk Try.prog 234 F234.ans := del_X (E := E9) (z := (.string ⟨#[]⟩)) (delRuns_of (ρ := delR 234 51 9) (b := 16) mixed ⟨"slices.Delete[[]string,string]", by kernel_rfl, by kernel_rfl⟩ (by kernel_rfl) (by kernel_rfl)) ⟨_, _, Try.func234, rfl, by kernel_rfl⟩ (zeros_one rfl (by kernel_rfl))
noncomputable abbrev F235 : Hq := delQ E164
theorem k235 : XHOk Try.prog 235 F235.ans := del_X (E := E164) (z := (.agg #[.string ⟨#[]⟩, .int .i64 0])) (delRuns_of (ρ := delR 235 95 164) (b := 24) mixed ⟨"slices.Delete[[]rostrum/api.Score,rostrum/api.Score]", by kernel_rfl, by kernel_rfl⟩ (by kernel_rfl) (by kernel_rfl)) ⟨_, _, Try.func235, rfl, by kernel_rfl⟩ (zeros_one rfl (by kernel_rfl))
end Go.Proofs.Ytchhfojblmceiaa
