/- What is known of some of the library's functions, and of two variables, at this seat. -/
import Derived.Test.YtlkjmeobpbpgbaaDoorEv21
import Derived.Test.YtlkjmeobpbpgbaaDoorShelf
import Derived.Test.YtlkjmeobpbpgbaaDoorRows
import Derived.Shelf.Vars
import Derived.Stop.LaidErr
import Derived.KernelRfl
set_option linter.unusedVariables false
set_option maxRecDepth 100000
namespace Go.Proofs.YtlkjmeobpbpgbaaDoor.evOrc
open Go.YtlkjmeobpbpgbaaDoorEv Go.RowKit Go.Shelf
theorem maxLen (W : World) (h : W.ShapedOpen Tryd.prog) : ∃ x, W.cell? ⟨0, 0, none⟩ = some (.int .i64 x) :=
  cell_of_shapedOpen_int (g := 0) (t := 3) (zero := #[.int .i64 0]) (k := .i64) h (of_decide_eq_true (by kernel_rfl)) (by kernel_rfl) rfl (by kernel_rfl) (by kernel_rfl) (by kernel_rfl)
noncomputable def orc : Orc := (orcIndex 50).or ((orcNew 69 2).or (orcNew 70 3))
theorem orcOk : OrcOk Tryd.prog orc :=
  OrcOk.or (orcIndex_ok maxLen fun s sub x w hs hm => Tryd.stringslite_Index s sub x w hs hm)
    (OrcOk.or (orcNew_ok fun fn s ev w h1 h2 h3 => (Tryd.strconv_syntaxError fn s ev w h1 h2 h3).mono fun e w' ⟨N, a, b, c, d⟩ => ⟨N, a, b, ⟨_, c⟩, d⟩)
      (orcNew_ok fun fn s ev w h1 h2 h3 => (Tryd.strconv_rangeError fn s ev w h1 h2 h3).mono fun e w' ⟨N, a, b, c, d⟩ => ⟨N, a, b, ⟨_, c⟩, d⟩))
theorem star : "*" ++ "errors.errorString" = "*errors.errorString" := by decide
theorem rowErr (u : TypeId) (h : Tryd.prog.typeName? 3 u = some "*errors.errorString") : u = 130 :=
  typeName_ptr_named (nm := "errors.errorString") (by rw [star]; kernel_rfl) (by kernel_rfl) (by decide) u (by rw [star]; exact h)
theorem errRange {W : World} {r : List (String × DataW Unit)} (h : laidMet Tryd.prog (("strconv.ErrRange", Rows.laid_strconv_ErrRange) :: r) W) : ∃ te pe, W.cell? ⟨3, 0, none⟩ = some (.iface te pe) := by
  obtain ⟨a, s, hv, -, -, -⟩ := laid_sentinel (g := 3) (ti := 55) (tp := 130) (te := 132) (ts := 9) h (by kernel_rfl) (by kernel_rfl) Tryd.underlying55 rowErr Tryd.underlying130 Tryd.underlying132 rfl rfl Tryd.underlying9 (by kernel_rfl) (by kernel_rfl)
  exact ⟨_, _, by have h0 := World.var?_cell (show Tryd.prog.globalNamed "strconv.ErrRange" = some 3 by kernel_rfl) hv 0; simpa using h0⟩
theorem errSyntax {W : World} {r : List (String × DataW Unit)} (h : laidMet Tryd.prog (("strconv.ErrSyntax", Rows.laid_strconv_ErrSyntax) :: r) W) : ∃ te pe, W.cell? ⟨2, 0, none⟩ = some (.iface te pe) := by
  obtain ⟨a, s, hv, -, -, -⟩ := laid_sentinel (g := 2) (ti := 55) (tp := 130) (te := 132) (ts := 9) h (by kernel_rfl) (by kernel_rfl) Tryd.underlying55 rowErr Tryd.underlying130 Tryd.underlying132 rfl rfl Tryd.underlying9 (by kernel_rfl) (by kernel_rfl)
  exact ⟨_, _, by have h0 := World.var?_cell (show Tryd.prog.globalNamed "strconv.ErrSyntax" = some 2 by kernel_rfl) hv 0; simpa using h0⟩
end Go.Proofs.YtlkjmeobpbpgbaaDoor.evOrc
