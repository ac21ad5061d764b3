/- An evaluator for the program's own code: a loop that waits: between two doings it goes round as often as the lane says (text 32). -/
import Derived.Test.YtghdjomjcododaaGreatDoorEv31
set_option linter.unusedVariables false
set_option linter.unusedSimpArgs false
namespace Go.YtghdjomjcododaaGreatDoorEv
open Go Go.RowKit
set_option linter.unusedSectionVars false

/-- x + 1, but d + 1 at the least. -/
noncomputable def mx (d x : Nat) : Nat := Nat.add (Nat.succ d) (Nat.sub (Nat.succ x) (Nat.succ d))
theorem mx_eq {d x : Nat} (h : d ≤ x) : mx d x = x + 1 := by
  show (d + 1) + ((x + 1) - (d + 1)) = x + 1
  omega
/-- Behind j doings, d rounds before the next one. -/
noncomputable def wT (N : Nat) (Af : Nat → List Aff) (Tm : Nat → List SV) (j : Nat) (t d : Nat → Nat) : List SV := dpL (rowsA (Af j) N t d) (Tm j)
noncomputable def wL (N : Nat) (Af : Nat → List Aff) (Lm : Nat → LMem) (j : Nat) (t d : Nat → Nat) : LMem := dpM (rowsA (Af j) N t d) (Lm j)
section
variable [Lane]
variable {P : Program} {nt : Nat} {bd : Code} {gh : Option (World × Gl)} {w0 : World} {p : List Nat}
theorem chainW {ih : Job → Fr → St → Res} (hs : Sound P ih) {fn : Func} (hok : codeOk fn.ntmps bd = true) {D : HdP} {n N J : Nat} (hx : Lane.x < N) (hJ : 0 < J) {Af : Nat → List Aff} {Tm : Nat → List SV} {Lm : Nat → LMem} {H : Nat → Nat}
    (hw : ∀ j, j < J → ∀ d, d + 1 < N → atHeadH P.globals.size (H j) fn.ntmps p (wT N Af Tm j (mx (d + 1)) (fun _ => d)) (wL N Af Lm j (mx (d + 1)) (fun _ => d))
      (segFrom P ih D n bd gh p (wT N Af Tm j (mx (d + 1)) (fun _ => d + 1)) (wL N Af Lm j (mx (d + 1)) (fun _ => d + 1))) = true)
    (hd : ∀ j, j + 1 < J → atHeadH P.globals.size (H j) fn.ntmps p (wT N Af Tm (j + 1) (mx 0) (fun x => x)) (wL N Af Lm (j + 1) (mx 0) (fun x => x))
      (segFrom P ih D n bd gh p (wT N Af Tm j (mx 0) (fun _ => 0)) (wL N Af Lm j (mx 0) (fun _ => 0))) = true)
    (he : isFin P fn (segFrom P ih D n bd gh p (wT N Af Tm (J - 1) (mx 0) (fun _ => 0)) (wL N Af Lm (J - 1) (mx 0) (fun _ => 0))) = true) :
    Hd P (bodyPostD P fn (Fin0 w0)) fn.ntmps bd gh w0 p (wT N Af Tm 0 (mx 0) (fun x => x)) (wL N Af Lm 0 (mx 0) (fun x => x)) := by
  have wait : ∀ j, j < J → Hd P (bodyPostD P fn (Fin0 w0)) fn.ntmps bd gh w0 p (wT N Af Tm j (mx 0) (fun _ => 0)) (wL N Af Lm j (mx 0) (fun _ => 0)) →
      ∀ d, d ≤ Lane.x → Hd P (bodyPostD P fn (Fin0 w0)) fn.ntmps bd gh w0 p (wT N Af Tm j (mx d) (fun _ => d)) (wL N Af Lm j (mx d) (fun _ => d)) := by
    intro j hj h0 d
    induction d with
    | zero => exact fun _ => h0
    | succ d ih1 =>
      intro hdx
      have h1 := ih1 (by omega)
      refine seg_sound hs hok fun m w hi hw' => nx_headH (hw j hj d (by omega)) rfl hw'.big hi ?_
      exact Hd.dp (f := rowsA (Af j) N (mx (d + 1)) (fun _ => d)) (g := rowsA (Af j) N (mx d) (fun _ => d)) (rowsA_says hx (by rw [mx_eq hdx, mx_eq (by omega)]) rfl) rowsA_plain h1
  have enter : ∀ j, Hd P (bodyPostD P fn (Fin0 w0)) fn.ntmps bd gh w0 p (wT N Af Tm j (mx Lane.x) (fun _ => Lane.x)) (wL N Af Lm j (mx Lane.x) (fun _ => Lane.x)) →
      Hd P (bodyPostD P fn (Fin0 w0)) fn.ntmps bd gh w0 p (wT N Af Tm j (mx 0) (fun x => x)) (wL N Af Lm j (mx 0) (fun x => x)) := fun j h =>
    Hd.dp (f := rowsA (Af j) N (mx 0) (fun x => x)) (g := rowsA (Af j) N (mx Lane.x) (fun _ => Lane.x)) (rowsA_says hx (by rw [mx_eq (Nat.zero_le _), mx_eq (Nat.le_refl _)]) rfl) rowsA_plain h
  have doing : ∀ k, k < J → Hd P (bodyPostD P fn (Fin0 w0)) fn.ntmps bd gh w0 p (wT N Af Tm (J - 1 - k) (mx 0) (fun _ => 0)) (wL N Af Lm (J - 1 - k) (mx 0) (fun _ => 0)) := by
    intro k
    induction k with
    | zero => exact fun _ => seg_sound hs hok fun m w hi hw' => nx_fin he hw'.big hi
    | succ k ih1 =>
      intro hk
      have h1 := ih1 (by omega)
      have e : J - 1 - k = J - 1 - (k + 1) + 1 := by omega
      rw [e] at h1
      have h2 := wait _ (by omega) h1 Lane.x (Nat.le_refl _)
      exact seg_sound hs hok fun m w hi hw' => nx_headH (hd _ (by omega)) rfl hw'.big hi (enter _ h2)
  have h0 := doing (J - 1) (by omega)
  rw [Nat.sub_self] at h0
  exact enter 0 (wait 0 hJ h0 Lane.x (Nat.le_refl _))
end
end Go.YtghdjomjcododaaGreatDoorEv
