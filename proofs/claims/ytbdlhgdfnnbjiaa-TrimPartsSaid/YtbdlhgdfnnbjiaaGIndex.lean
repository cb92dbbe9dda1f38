/- strings.Index by its contract off the shelf, where the library's own variable holds a number. -/
import Derived.Test.YtbdlhgdfnnbjiaaPYx0
import Derived.Test.YtbdlhgdfnnbjiaaShelf
import Derived.RangeFuncOne
import Derived.Shelf.Vars
import Derived.ShapedOpen
namespace Go.Proofs.Ytbdlhgdfnnbjiaa.PY
open Go.RowKit Go.Proofs.YtbdlhgdfnnbjiaaW.PrintWords Go.Proofs.YtbdlhgdfnnbjiaaW.PrintLast Go.Proofs.YtbdlhgdfnnbjiaaW.PrintMore
set_option linter.unusedVariables false
/-- The library's variable internal/bytealg.MaxLen holds a number. -/
structure Glob (w : World) : Prop where mk :: (out : ∃ m : Int, w.cell? ⟨0, 0, none⟩ = some (.int .i64 m))
theorem Glob.at {w W : World} (hg : Glob w) (hb : Below w.heap.size w W) : Glob W := by
  obtain ⟨m, hm⟩ := hg.out
  obtain ⟨o, ho, _⟩ := not_walk_of_cell hm
  exact ⟨m, (hb.cell (p := ⟨0, 0, none⟩) (Array.getElem?_eq_some_iff.1 ho).1).trans hm⟩
theorem Glob.of {w : World} (h : w.ShapedOpen Try.prog) : Glob w :=
  ⟨cell_of_shapedOpen_int (zero := #[.int .i64 0]) (t := 3) h (of_decide_eq_true (by kernel_rfl)) (by kernel_rfl) rfl (by kernel_rfl) (by kernel_rfl) Try.underlying3⟩
def strings_Index.f (a0 a1 : ByteArray) : Option Int := if a0.size < 4294967281 then some (Lib.index a0.data.toList a1.data.toList) else none
theorem strings_Index.calls (a0 a1 : ByteArray) (r : Int) (w : World) (h : strings_Index.f a0 a1 = some r) (hg : Glob w) :
    Calls Try.prog 56 #[.string a0, .string a1] w fun e w' => e = .returned (.int .i64 r) ∧ Below w.heap.size w w' := by
  unfold strings_Index.f at h
  by_cases c : a0.size < 4294967281
  · rw [if_pos c] at h
    obtain rfl := Option.some.inj h
    obtain ⟨m, hm⟩ := hg.out
    exact (Any.strings_Index (ρ := Try.lays143_ren) Try.lays143 a0 a1 m w c hm).mono fun e w' ⟨he, hw⟩ => ⟨he, by rw [hw]; exact Below.refl _ _⟩
  · rw [if_neg c] at h; cases h
end Go.Proofs.Ytbdlhgdfnnbjiaa.PY
