/- What is known of some of the library's functions, and of variables, at this seat. -/
import Derived.Test.YtpjfkfgnnecgjaaDoorEv21
import Derived.Test.YtpjfkfgnnecgjaaDoorShelf
import Derived.Test.YtpjfkfgnnecgjaaDoorRows
import Derived.Shelf.Vars
import Derived.Stop.LaidErr
import Derived.KernelRfl
set_option linter.unusedVariables false
set_option maxRecDepth 100000
namespace Go.Proofs.YtpjfkfgnnecgjaaDoor.evOrc
open Go.YtpjfkfgnnecgjaaDoorEv Go.RowKit Go.Shelf
set_option linter.unusedSectionVars false
variable [Lane]
theorem maxLen (W : World) (h : W.ShapedOpen Tryd.prog) : ∃ x, W.cell? ⟨0, 0, none⟩ = some (.int .i64 x) :=
  cell_of_shapedOpen_int (g := 0) (t := 3) (zero := #[.int .i64 0]) (k := .i64) h (of_decide_eq_true (by kernel_rfl)) (by kernel_rfl) rfl (by kernel_rfl) (by kernel_rfl) (by kernel_rfl)
noncomputable def orc : Orc := (orcIndex 48).or ((orcNew 64 2).or ((orcNew 65 3).or ((orcRepeat 18).or ((orcJoin 22)))))
theorem orcOk : OrcOk Tryd.prog orc := OrcOk.or (orcIndex_ok maxLen fun s sub x w hs hm => Tryd.stringslite_Index s sub x w hs hm) (OrcOk.or (orcNew_ok fun fn s ev w h1 h2 h3 => (Tryd.strconv_syntaxError fn s ev w h1 h2 h3).mono fun e w' ⟨N, a, b, c, d⟩ => ⟨N, a, b, ⟨_, c⟩, d⟩) (OrcOk.or (orcNew_ok fun fn s ev w h1 h2 h3 => (Tryd.strconv_rangeError fn s ev w h1 h2 h3).mono fun e w' ⟨N, a, b, c, d⟩ => ⟨N, a, b, ⟨_, c⟩, d⟩) (OrcOk.or (orcRepeat_ok fun s c w h1 h2 => Tryd.strings_Repeat s c w h1 h2) ((orcJoin_ok fun bk o c xs sep w h1 h2 h3 h4 h5 => Tryd.strings_Join bk o c xs sep w h1 h2 h3 h4 h5)))))
theorem star : "*" ++ "errors.errorString" = "*errors.errorString" := by decide
theorem rowErr (u : TypeId) (h : Tryd.prog.typeName? 3 u = some "*errors.errorString") : u = 111 :=
  typeName_ptr_named (nm := "errors.errorString") (by rw [star]; kernel_rfl) (by kernel_rfl) (by decide) u (by rw [star]; exact h)
theorem sent2 {W : World} {r : List (String × DataW Unit)} (h : laidMet Tryd.prog (("strconv.ErrSyntax", Rows.laid_strconv_ErrSyntax) :: r) W) : ∃ te pe, W.cell? ⟨2, 0, none⟩ = some (.iface te pe) := by
  obtain ⟨a, s, hv, -, -, -⟩ := laid_sentinel (g := 2) (ti := 49) (tp := 111) (te := 113) (ts := 9) h (by kernel_rfl) (by kernel_rfl) Tryd.underlying49 rowErr Tryd.underlying111 Tryd.underlying113 rfl rfl Tryd.underlying9 (by kernel_rfl) (by kernel_rfl)
  exact ⟨_, _, by have h0 := World.var?_cell (show Tryd.prog.globalNamed "strconv.ErrSyntax" = some 2 by kernel_rfl) hv 0; simpa using h0⟩
theorem sent3 {W : World} {r : List (String × DataW Unit)} (h : laidMet Tryd.prog (("strconv.ErrRange", Rows.laid_strconv_ErrRange) :: r) W) : ∃ te pe, W.cell? ⟨3, 0, none⟩ = some (.iface te pe) := by
  obtain ⟨a, s, hv, -, -, -⟩ := laid_sentinel (g := 3) (ti := 49) (tp := 111) (te := 113) (ts := 9) h (by kernel_rfl) (by kernel_rfl) Tryd.underlying49 rowErr Tryd.underlying111 Tryd.underlying113 rfl rfl Tryd.underlying9 (by kernel_rfl) (by kernel_rfl)
  exact ⟨_, _, by have h0 := World.var?_cell (show Tryd.prog.globalNamed "strconv.ErrRange" = some 3 by kernel_rfl) hv 0; simpa using h0⟩
end Go.Proofs.YtpjfkfgnnecgjaaDoor.evOrc
