/- What is known of some of the library's functions, and of two variables, at this seat. -/
import Derived.Test.YtlkjmeobpbpgbaaGreatDoorEv21
import Derived.Test.YtlkjmeobpbpgbaaGreatDoorShelf
import Derived.Test.YtlkjmeobpbpgbaaGreatDoorRows
import Derived.Shelf.Vars
import Derived.Stop.LaidErr
import Derived.KernelRfl
set_option linter.unusedVariables false
set_option maxRecDepth 100000
namespace Go.Proofs.YtlkjmeobpbpgbaaGreatDoor.evOrc
open Go.YtlkjmeobpbpgbaaGreatDoorEv Go.RowKit Go.Shelf
theorem maxLen (W : World) (h : W.ShapedOpen Tryz.prog) : ∃ x, W.cell? ⟨0, 0, none⟩ = some (.int .i64 x) :=
  cell_of_shapedOpen_int (g := 0) (t := 3) (zero := #[.int .i64 0]) (k := .i64) h (of_decide_eq_true (by kernel_rfl)) (by kernel_rfl) rfl (by kernel_rfl) (by kernel_rfl) (by kernel_rfl)
noncomputable def orc : Orc := (orcItoa 56).or ((orcRepeat 74).or ((orcIndex 113).or ((orcNew 115 1).or (orcNew 116 2))))
theorem orcOk : OrcOk Tryz.prog orc :=
  OrcOk.or (orcItoa_ok fun i w h => Tryz.strconv_Itoa_small i h w) (OrcOk.or (orcRepeat_ok fun s c w h1 h2 => Tryz.strings_Repeat s c w h1 h2) (OrcOk.or (orcIndex_ok maxLen fun s sub x w hs hm => Tryz.stringslite_Index s sub x w hs hm)
    (OrcOk.or (orcNew_ok fun fn s ev w h1 h2 h3 => (Tryz.strconv_syntaxError fn s ev w h1 h2 h3).mono fun e w' ⟨N, a, b, c, d⟩ => ⟨N, a, b, ⟨_, c⟩, d⟩)
      (orcNew_ok fun fn s ev w h1 h2 h3 => (Tryz.strconv_rangeError fn s ev w h1 h2 h3).mono fun e w' ⟨N, a, b, c, d⟩ => ⟨N, a, b, ⟨_, c⟩, d⟩))))
theorem star : "*" ++ "errors.errorString" = "*errors.errorString" := by decide
theorem rowErr (u : TypeId) (h : Tryz.prog.typeName? 3 u = some "*errors.errorString") : u = 231 :=
  typeName_ptr_named (nm := "errors.errorString") (by rw [star]; kernel_rfl) (by kernel_rfl) (by decide) u (by rw [star]; exact h)
theorem errRange {W : World} {r : List (String × DataW Unit)} (h : laidMet Tryz.prog (("strconv.ErrRange", Rows.laid_strconv_ErrRange) :: r) W) : ∃ te pe, W.cell? ⟨2, 0, none⟩ = some (.iface te pe) := by
  obtain ⟨a, s, hv, -, -, -⟩ := laid_sentinel (g := 2) (ti := 44) (tp := 231) (te := 233) (ts := 9) h (by kernel_rfl) (by kernel_rfl) Tryz.underlying44 rowErr Tryz.underlying231 Tryz.underlying233 rfl rfl Tryz.underlying9 (by kernel_rfl) (by kernel_rfl)
  exact ⟨_, _, by have h0 := World.var?_cell (show Tryz.prog.globalNamed "strconv.ErrRange" = some 2 by kernel_rfl) hv 0; simpa using h0⟩
theorem errSyntax {W : World} {r : List (String × DataW Unit)} (h : laidMet Tryz.prog (("strconv.ErrSyntax", Rows.laid_strconv_ErrSyntax) :: r) W) : ∃ te pe, W.cell? ⟨1, 0, none⟩ = some (.iface te pe) := by
  obtain ⟨a, s, hv, -, -, -⟩ := laid_sentinel (g := 1) (ti := 44) (tp := 231) (te := 233) (ts := 9) h (by kernel_rfl) (by kernel_rfl) Tryz.underlying44 rowErr Tryz.underlying231 Tryz.underlying233 rfl rfl Tryz.underlying9 (by kernel_rfl) (by kernel_rfl)
  exact ⟨_, _, by have h0 := World.var?_cell (show Tryz.prog.globalNamed "strconv.ErrSyntax" = some 1 by kernel_rfl) hv 0; simpa using h0⟩
end Go.Proofs.YtlkjmeobpbpgbaaGreatDoor.evOrc
