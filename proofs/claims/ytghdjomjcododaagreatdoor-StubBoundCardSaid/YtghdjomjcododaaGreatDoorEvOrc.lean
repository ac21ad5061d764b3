/- What is known of some of the library's functions, and of variables, at this seat. -/
import Derived.Test.YtghdjomjcododaaGreatDoorEv21
import Derived.Test.YtghdjomjcododaaGreatDoorShelf
import Derived.Test.YtghdjomjcododaaGreatDoorRows
import Derived.Shelf.Vars
import Derived.Stop.LaidErr
import Derived.KernelRfl
set_option linter.unusedVariables false
set_option maxRecDepth 100000
namespace Go.Proofs.YtghdjomjcododaaGreatDoor.evOrc
open Go.YtghdjomjcododaaGreatDoorEv Go.RowKit Go.Shelf
set_option linter.unusedSectionVars false
variable [Lane]
theorem maxLen (W : World) (h : W.ShapedOpen Tryz.prog) : ∃ x, W.cell? ⟨0, 0, none⟩ = some (.int .i64 x) :=
  cell_of_shapedOpen_int (g := 0) (t := 3) (zero := #[.int .i64 0]) (k := .i64) h (of_decide_eq_true (by kernel_rfl)) (by kernel_rfl) rfl (by kernel_rfl) (by kernel_rfl) (by kernel_rfl)
noncomputable def orc : Orc := (orcIndex 91).or ((orcNew 118 4).or ((orcNew 119 5).or ((orcRepeat 54).or ((orcJoin 34)))))
theorem orcOk : OrcOk Tryz.prog orc := OrcOk.or (orcIndex_ok maxLen fun s sub x w hs hm => Tryz.stringslite_Index s sub x w hs hm) (OrcOk.or (orcNew_ok fun fn s ev w h1 h2 h3 => (Tryz.strconv_syntaxError fn s ev w h1 h2 h3).mono fun e w' ⟨N, a, b, c, d⟩ => ⟨N, a, b, ⟨_, c⟩, d⟩) (OrcOk.or (orcNew_ok fun fn s ev w h1 h2 h3 => (Tryz.strconv_rangeError fn s ev w h1 h2 h3).mono fun e w' ⟨N, a, b, c, d⟩ => ⟨N, a, b, ⟨_, c⟩, d⟩) (OrcOk.or (orcRepeat_ok fun s c w h1 h2 => Tryz.strings_Repeat s c w h1 h2) ((orcJoin_ok fun bk o c xs sep w h1 h2 h3 h4 h5 => Tryz.strings_Join bk o c xs sep w h1 h2 h3 h4 h5)))))
theorem star : "*" ++ "errors.errorString" = "*errors.errorString" := by decide
theorem rowErr (u : TypeId) (h : Tryz.prog.typeName? 3 u = some "*errors.errorString") : u = 212 :=
  typeName_ptr_named (nm := "errors.errorString") (by rw [star]; kernel_rfl) (by kernel_rfl) (by decide) u (by rw [star]; exact h)
theorem sent4 {W : World} {r : List (String × DataW Unit)} (h : laidMet Tryz.prog (("strconv.ErrSyntax", Rows.laid_strconv_ErrSyntax) :: r) W) : ∃ te pe, W.cell? ⟨4, 0, none⟩ = some (.iface te pe) := by
  obtain ⟨a, s, hv, -, -, -⟩ := laid_sentinel (g := 4) (ti := 39) (tp := 212) (te := 214) (ts := 9) h (by kernel_rfl) (by kernel_rfl) Tryz.underlying39 rowErr Tryz.underlying212 Tryz.underlying214 rfl rfl Tryz.underlying9 (by kernel_rfl) (by kernel_rfl)
  exact ⟨_, _, by have h0 := World.var?_cell (show Tryz.prog.globalNamed "strconv.ErrSyntax" = some 4 by kernel_rfl) hv 0; simpa using h0⟩
theorem sent5 {W : World} {r : List (String × DataW Unit)} (h : laidMet Tryz.prog (("strconv.ErrRange", Rows.laid_strconv_ErrRange) :: r) W) : ∃ te pe, W.cell? ⟨5, 0, none⟩ = some (.iface te pe) := by
  obtain ⟨a, s, hv, -, -, -⟩ := laid_sentinel (g := 5) (ti := 39) (tp := 212) (te := 214) (ts := 9) h (by kernel_rfl) (by kernel_rfl) Tryz.underlying39 rowErr Tryz.underlying212 Tryz.underlying214 rfl rfl Tryz.underlying9 (by kernel_rfl) (by kernel_rfl)
  exact ⟨_, _, by have h0 := World.var?_cell (show Tryz.prog.globalNamed "strconv.ErrRange" = some 5 by kernel_rfl) hv 0; simpa using h0⟩
end Go.Proofs.YtghdjomjcododaaGreatDoor.evOrc
