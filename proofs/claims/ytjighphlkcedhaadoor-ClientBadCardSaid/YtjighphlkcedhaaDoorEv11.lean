/- An evaluator for the program's own code: maps, conversions, methods. (text 11) -/
import Derived.Test.YtjighphlkcedhaaDoorEv10
import Derived.Lib.AppendZerosOnto
set_option linter.unusedVariables false
set_option linter.unusedSimpArgs false
namespace Go.YtjighphlkcedhaaDoorEv
open Go
set_option linter.unusedSectionVars false
variable [Lane]

section
variable {P : Program} {m : Mp} {σ : St} {w : World}
theorem lenV_run {x : SV} {x' : Value} {n : Nat} (hx : VR m x x') (h : lenV x = some n) : (Builtin.lenOf x').run P w = .ok n w := by
  unfold lenV at h
  split at h
  · cases h; cases hx; rfl
  · rename_i b off len cap
    cases h
    cases cap with
    | ex c => obtain ⟨im, a, rfl, _⟩ := hx.ex_inv; rfl
    | op sz => obtain ⟨im, a, c, rfl, _⟩ := hx.op_inv; rfl
  · cases h; cases hx; rename_i hn hp; simp [Builtin.lenOf, hn]
  · rename_i l0
    obtain ⟨s0, rfl, hs⟩ := lenV_lan hx (n := n) (by simpa only [lenV] using h)
    simp [Builtin.lenOf, hs]
  · cases h
theorem appendS_sound (hw : WR P m σ w) {sT xT ty : Nat} {s x v : SV} {s' x' : Value} {σ' : St} (hs : VR m s s') (hx : VR m x x') (h : appendS P σ sT xT s x = some (v, σ')) :
    ∃ m' w' v', (Builtin.append_ #[sT, xT] ty #[s', x']).run P w = .ok v' w' ∧ VR m' v v' ∧ Post P m σ w m' σ' w' := by
  unfold appendS at h
  try simp only [und_eq, inf_eq, fnc_eq] at h
  split at h
  case h_2 => cases h
  rename_i e d ht hdd
  have hxT : P.underlying xT = some d ∧ ∀ k, d ≠ .int k := by
    split at hdd
    · cases hdd
    · rename_i hne
      exact ⟨hdd, fun k e => hne k (by rw [hdd, e])⟩
  obtain ⟨hxT, hd⟩ := hxT
  split at h
  case h_2 => cases h
  rename_i k n hsz hlen
  split at h
  case h_2 => cases h
  rename_i new hsrc
  obtain ⟨new', hl, hlen', h1, hrun⟩ := srcC_sound hw hx hsrc hlen (Nat.le_refl _)
  have hlx := lenV_run (P := P) (w := w) hx hlen
  split at h
  · have hnil : new' = [] := List.length_eq_zero_iff.1 (by simpa using hlen')
    subst hnil
    split at h
    · cases h; cases hs
      exact ⟨m, w, _, append_in (P := P) (w := w) (ty := ty) ht hxT hd hsz hlx (hrun w rfl) (Nat.le_refl _) (fun a e => by cases e) (fun _ => rfl), .nilSlice, .refl hw⟩
    · rename_i b o l c
      cases h
      cases c with
      | ex c =>
        obtain ⟨im, a, rfl, h2, h3, h4, h5, h6⟩ := hs.ex_inv
        exact ⟨m, w, _, append_in (P := P) (w := w) (ty := ty) ht hxT hd hsz hlx (hrun w rfl) h6 (fun a e => rfl) (fun e => by cases e), hs, .refl hw⟩
      | op sz =>
        obtain ⟨im, a, c, rfl, h2, h3, h4, h5, h6, _⟩ := hs.op_inv
        exact ⟨m, w, _, append_in (P := P) (w := w) (ty := ty) ht hxT hd hsz hlx (hrun w rfl) h6 (fun a e => rfl) (fun e => by cases e), hs, .refl hw⟩
    · cases h
  · rename_i hn0
    exact growS_sound hw ht hxT hd hsz hs hl hlen' h1 hrun hlx (Nat.pos_of_ne_zero hn0) h
theorem copyS_sound (hw : WR P m σ w) {dT xT ty : Nat} {d s v : SV} {d' s' : Value} {ats : Array TypeId} {σ' : St} (hats : ats[0]? = some dT) (hd : VR m d d') (hs : VR m s s') (h : copyS P σ dT d s = some (v, σ')) :
    ∃ m' w' v', (Builtin.copy_ ats ty #[d', s']).run P w = .ok v' w' ∧ VR m' v v' ∧ Post P m σ w m' σ' w' := by
  unfold copyS at h
  try simp only [und_eq, inf_eq, fnc_eq] at h
  split at h
  case h_2 => cases h
  rename_i e ht
  split at h
  · rename_i k n hsz hlen
    cases h; cases hd
    have hlx := lenV_run (P := P) (w := w) hs hlen
    have h0 : ∀ x' : Value, VR m s x' → (Builtin.firstCells k 0 x').run P w = .ok #[] w := by
      intro x' hx'
      have hx2 := hx'
      cases hx' <;> first
        | (unfold lenV at hlen; simp at hlen; done)
        | (obtain ⟨s0, e0, -⟩ := lenV_lan hx2 hlen; cases e0; done)
        | (obtain ⟨s0, e0, -⟩ := lenV_lan hx2 hlen; cases e0; simp [Builtin.firstCells]; done)
        | rfl
        | (show (loadCells _ (0 * k)).run P w = _; rw [Nat.zero_mul]; rfl)
        | (simp [Builtin.firstCells])
    refine ⟨m, w, .int .i64 0, ?_, .int .., .refl hw⟩
    unfold Builtin.copy_
    simp [hats, run_underlying' ht, hlx, sz_run hsz, h0 _ hs, goInt]
  · rename_i k n b off len cap hsz hlen
    try simp only at h
    cases hsrc : srcC σ k s (Nat.min n len) with
    | none => rw [hsrc] at h; cases h
    | some cs =>
      rw [hsrc] at h
      simp only [Option.bind_some] at h
      cases hst : storeC σ b off cs with
      | none => rw [hst] at h; cases h
      | some σ1 =>
        rw [hst] at h
        cases h
        obtain ⟨cs', hl, hlen', h1, hrun⟩ := srcC_sound hw hs hsrc hlen (Nat.min_le_left _ _)
        have hlx := lenV_run (P := P) (w := w) hs hlen
        have key : ∃ im a c, d' = .slice (some a) len c ∧ m b = some im ∧ a.block = im.blk ∧ a.spot = none ∧ (c ≠ 0 → a.off = im.base + off) ∧ len ≤ c := by
          cases cap with
          | ex c => obtain ⟨im, a, e, h1, h2, h3, h4, h5⟩ := hd.ex_inv; exact ⟨im, a, c, e, h1, h2, h3, h4, h5⟩
          | op sz => obtain ⟨im, a, c, e, h1, h2, h3, h4, h5, _⟩ := hd.op_inv; exact ⟨im, a, c, e, h1, h2, h3, h4, h5⟩
        obtain ⟨im, a, c, rfl, hm, ha, hsp, hc, hle⟩ := key
        obtain ⟨hrunS, hp⟩ := storeC_sound hw hst hm hl
        have hstore : (storeCells a cs').run P w = .ok () (w.setCells im.blk (im.base + off) cs') := by
          by_cases h0 : c = 0
          · have : cs' = [] := by
              apply List.length_eq_zero_iff.1
              rw [hlen']
              have : len = 0 := by omega
              subst this
              simp
            subst this
            rfl
          · have : a = ⟨im.blk, im.base + off, none⟩ := by cases a; simp at ha hsp hc ⊢; exact ⟨ha, hc h0, hsp⟩
            subst this
            exact hrunS
        refine ⟨m, _, .int .i64 (Nat.min n len : Nat), ?_, .int .., hp⟩
        unfold Builtin.copy_
        have hr := hrun w rfl
        simp [hats, run_underlying' ht, hlx, sz_run hsz, hr, hstore, goInt]
  · cases h
/-! maps -/
theorem keyEq_sound {k k2 : SV} {k' k2' : Value} {b : Bool} {d : TypeDesc} (hd : (∃ i, d = .int i ∧ ∃ j n, k = .int j n) ∨ (d = .string ∧ ∃ n p, k = .str n p)) (h1 : VR m k k') (h2 : VR m k2 k2') (h : keyEq k k2 = some b) : Instr.sameNow d k' k2' = some b := by
  unfold keyEq at h
  split at h
  · split at h
    · rename_i hk
      have hk := kEq_eq hk
      subst hk
      cases h1; cases h2; cases h
      rcases hd with ⟨i, rfl, _⟩ | ⟨_, n, p, e⟩
      · simp [Instr.sameNow, iEq_eq]
      · cases e
    · cases h
  · cases h1; cases h2; cases h
    rename_i hn hp _ hn' hp'
    rcases hd with ⟨i, rfl, j, n, e⟩ | ⟨rfl, _⟩
    · cases e
    · simp [Instr.sameNow, str_eq' hn hp hn' hp']
  · cases h
theorem findK_sound {k : SV} {k' : Value} {d : TypeDesc} (hd : (∃ i, d = .int i ∧ ∃ j n, k = .int j n) ∨ (d = .string ∧ ∃ n p, k = .str n p)) (hk : VR m k k') :
    ∀ {es : List (SV × SV × Nat)} {ES : List MapEntry} {i : Nat} {r : Option (Nat × SV)}, es.length = ES.length → (∀ (i : Nat) x y, es[i]? = some x → ES[i]? = some y → VR m x.1 y.key ∧ VR m x.2.1 y.val ∧ x.2.2 = y.born) →
      findK k es i = some r → (r = none ∧ Instr.findNow d k' ES i = some none) ∨ (∃ j v v', r = some (j, v) ∧ Instr.findNow d k' ES i = some (some (j, v')) ∧ VR m v v' ∧ i ≤ j ∧ ∃ x, es[j - i]? = some x ∧ keyEq k x.1 = some true)
  | [], [], i, r, _, _, h => by unfold findK at h; cases h; exact .inl ⟨rfl, rfl⟩
  | (k2, v, bn) :: es, e :: ES, i, r, hl, he, h => by
    obtain ⟨h1, h2, h3⟩ := he 0 _ _ rfl rfl
    unfold findK at h
    split at h
    · rename_i hq
      cases h
      have := keyEq_sound hd hk h1 hq
      exact .inr ⟨i, v, e.val, rfl, by simp [Instr.findNow, this], h2, Nat.le_refl _, (k2, v, bn), by simp, hq⟩
    · rename_i hq
      have := keyEq_sound hd hk h1 hq
      have ih := findK_sound hd hk (es := es) (ES := ES) (i := i + 1) (by simpa using hl) (fun j x y hx hy => he (j + 1) x y (by simpa using hx) (by simpa using hy)) h
      have hf : Instr.findNow d k' (e :: ES) i = Instr.findNow d k' ES (i + 1) := by simp [Instr.findNow, this]
      rw [hf]
      rcases ih with ih | ⟨j, v1, v1', e1, e2, e3, e4, x, e5, e6⟩
      · exact .inl ih
      · refine .inr ⟨j, v1, v1', e1, e2, e3, by omega, x, ?_, e6⟩
        have : j - i = (j - (i + 1)) + 1 := by omega
        rw [this]; simpa using e5
    · cases h
theorem keyT_sound {t : TypeId} {k : SV} (h : keyT P t k = true) : ∃ d, P.underlying t = some d ∧ ((∃ i, d = .int i ∧ ∃ j n, k = .int j n) ∨ (d = .string ∧ ∃ n p, k = .str n p)) := by
  unfold keyT at h
  try simp only [und_eq, inf_eq, fnc_eq] at h
  split at h
  · rename_i hu; exact ⟨_, hu, .inl ⟨_, rfl, _, _, rfl⟩⟩
  · rename_i hu; exact ⟨_, hu, .inr ⟨rfl, _, _, rfl⟩⟩
  · cases h
theorem checkKey_run {e : Bool} {t : TypeId} {d : TypeDesc} {k : SV} {k' : Value} (hu : P.underlying t = some d) (hd : (∃ i, d = .int i ∧ ∃ j n, k = .int j n) ∨ (d = .string ∧ ∃ n p, k = .str n p)) (hk : VR m k k') :
    (Instr.checkKey e 10000 t k').run P w = .ok () w := by
  rcases hd with ⟨i, rfl, j, n, rfl⟩ | ⟨rfl, n, p, rfl⟩
  · cases hk
    unfold Instr.checkKey
    rw [Sem.run_bind, run_underlying' hu]; rfl
  · cases hk
    unfold Instr.checkKey
    rw [Sem.run_bind, run_underlying' hu]; rfl
theorem mapB {es : List (SV × SV × Nat)} {clk b : Nat} {im : Im} (hw : WR P m σ w) (hb : σ.get b = .map es clk) (hm : m b = some im) :
    ∃ ES : Array MapEntry, w.heap[im.blk]? = some (.map ES clk) ∧ es.length = ES.size ∧ ∀ (i : Nat) x y, es[i]? = some x → ES[i]? = some y → VR m x.1 y.key ∧ VR m x.2.1 y.val ∧ x.2.2 = y.born := by
  have hB := hw.blk _ _ hm
  rw [hb] at hB
  generalize w.heap[im.blk]? = o at hB ⊢
  cases hB with
  | map hl he => exact ⟨_, rfl, hl, he⟩
theorem run_getObj_map {r : Nat} {ES : Array MapEntry} {clk : Nat} (h : w.heap[r]? = some (.map ES clk)) : (getObj r).run P w = .ok (.map ES clk) w := by
  simp [getObj, Sem.run, h]
theorem findKey_run {t : TypeId} {d : TypeDesc} {k' : Value} {es : List MapEntry} {r : Option (Nat × Value)} (hu : P.underlying t = some d) (h : Instr.findNow d k' es 0 = some r) : (Instr.findKey t k' es).run P w = .ok r w := by
  unfold Instr.findKey
  simp only [Sem.run_bind, run_underlying' hu, Result.andThen_ok, h]
  rfl
theorem lookupS_sound (hw : WR P m σ w) {t : TypeId} {x k v : SV} {x' k' : Value} {ok : Bool} (hx : VR m x x') (hk : VR m k k') (h : lookupS P σ t x k ok = some v) :
    ∃ v', (Instr.lookup t x' k' ok).run P w = .ok v' w ∧ VR m v v' := by
  unfold lookupS at h
  try simp only [und_eq, inf_eq, fnc_eq] at h
  split at h
  case h_2 => cases h
  rename_i kt e hu
  split at h
  case h_2 => cases h
  rename_i es hkt hes
  obtain ⟨d, hud, hd⟩ := keyT_sound hkt
  split at hes
  · cases hes; cases hx
    simp only [findK] at h
    cases hz : zeroV P e with
    | none => rw [hz] at h; cases h
    | some z =>
      rw [hz] at h
      obtain ⟨i, z', _, _, hvz, hrun⟩ := zeroV_sound (m := m) (w := w) hz
      have hck := checkKey_run (P := P) (w := w) (e := true) hud hd hk
      have hfk := findKey_run (P := P) (w := w) (k' := k') (es := []) hud rfl
      cases ok with
      | true =>
        cases h
        refine ⟨.tuple #[z', .bool false], ?_, .tuple (.cons hvz (.cons (.bool _) .nil))⟩
        unfold Instr.lookup
        simp [run_underlying' hu, hck, hfk, hrun]
      | false =>
        cases h
        refine ⟨z', ?_, hvz⟩
        unfold Instr.lookup
        simp [run_underlying' hu, hck, hfk, hrun]
  · rename_i b
    split at hes
    case h_2 => cases hes
    rename_i es0 clk hb
    cases hes
    cases hx with
    | map hm =>
      obtain ⟨ES, h1, h2, h3⟩ := mapB hw hb hm
      have hgo := run_getObj_map (P := P) h1
      have hck := checkKey_run (P := P) (w := w) (e := ES.isEmpty) hud hd hk
      split at h
      · rename_i j u hf
        rcases findK_sound hd hk (ES := ES.toList) (i := 0) (by simpa using h2) (by simpa using h3) hf with ⟨e1, _⟩ | ⟨j', v1, v1', e1, e2, e3, _⟩
        · cases e1
        · cases e1
          have hfk := findKey_run (P := P) (w := w) hud e2
          cases ok with
          | true =>
            cases h
            refine ⟨.tuple #[v1', .bool true], ?_, .tuple (.cons e3 (.cons (.bool _) .nil))⟩
            unfold Instr.lookup
            simp [run_underlying' hu, hgo, hck, hfk]
          | false =>
            cases h
            refine ⟨v1', ?_, e3⟩
            unfold Instr.lookup
            simp [run_underlying' hu, hgo, hck, hfk]
      · rename_i hf
        rcases findK_sound hd hk (ES := ES.toList) (i := 0) (by simpa using h2) (by simpa using h3) hf with ⟨_, e2⟩ | ⟨j', v1, v1', e1, _⟩
        · have hfk := findKey_run (P := P) (w := w) hud e2
          cases hz : zeroV P e with
          | none => rw [hz] at h; cases h
          | some z =>
            rw [hz] at h
            obtain ⟨i, z', _, _, hvz, hrun⟩ := zeroV_sound (m := m) (w := w) hz
            cases ok with
            | true =>
              cases h
              refine ⟨.tuple #[z', .bool false], ?_, .tuple (.cons hvz (.cons (.bool _) .nil))⟩
              unfold Instr.lookup
              simp [run_underlying' hu, hgo, hck, hfk, hrun]
            | false =>
              cases h
              refine ⟨z', ?_, hvz⟩
              unfold Instr.lookup
              simp [run_underlying' hu, hgo, hck, hfk, hrun]
        · cases e1
      · cases h
  · cases hes
/-- The entries of a map are set anew. -/
theorem Post.setMap (hw : WR P m σ w) {b : Nat} {im : Im} {es es' : List (SV × SV × Nat)} {ES ES' : Array MapEntry} {clk clk' : Nat} (hm : m b = some im) (hb : σ.get b = .map es clk) (hB : w.heap[im.blk]? = some (.map ES clk))
    (hl : es'.length = ES'.size) (he : ∀ (i : Nat) x y, es'[i]? = some x → ES'[i]? = some y → VR m x.1 y.key ∧ VR m x.2.1 y.val ∧ x.2.2 = y.born) :
    (setObj im.blk (.map ES' clk')).run P w = .ok () { w with heap := w.heap.setIfInBounds im.blk (.map ES' clk') } ∧ Post P m σ w m (σ.put b (.map es' clk')) { w with heap := w.heap.setIfInBounds im.blk (.map ES' clk') } := by
  have hlt : im.blk < w.heap.size := by
    rcases Nat.lt_or_ge im.blk w.heap.size with h | h
    · exact h
    · rw [Array.getElem?_eq_none h] at hB; cases hB
  refine ⟨by simp [setObj, Sem.run, hB], Post.put hw hm (by rw [hb]; rfl) _ _ rfl rfl rfl (by simp) (fun B hne => ?_) ?_⟩
  · show (w.heap.setIfInBounds im.blk _)[B]? = _
    rw [Array.getElem?_setIfInBounds, if_neg (Ne.symm hne)]
  · show BR m im _ (w.heap.setIfInBounds im.blk _)[im.blk]?
    rw [Array.getElem?_setIfInBounds_self_of_lt hlt]
    exact .map hl he
theorem setAt_length (k v : SV) : ∀ (es : List (SV × SV × Nat)) (i : Nat), (setAt k v es i).length = es.length
  | [], _ => rfl
  | (_, _, _) :: _, 0 => rfl
  | e :: es, i + 1 => by simp [setAt, setAt_length k v es i]
theorem setAt_get (k v : SV) : ∀ (es : List (SV × SV × Nat)) (i j : Nat), (setAt k v es i)[j]? = if j = i then (es[j]?).map fun x => (k, v, x.2.2) else es[j]?
  | [], i, j => by simp [setAt]
  | (a, b, c) :: es, 0, 0 => rfl
  | (a, b, c) :: es, 0, j + 1 => by simp [setAt]
  | e :: es, i + 1, 0 => by simp [setAt]
  | e :: es, i + 1, j + 1 => by
    simp only [setAt, List.getElem?_cons_succ, setAt_get k v es i j]
    by_cases h : j = i
    · rw [if_pos h, if_pos (by omega)]
    · rw [if_neg h, if_neg (by omega)]
theorem eraseAt_eq : ∀ (es : List (SV × SV × Nat)) (i : Nat), eraseAt es i = es.eraseIdx i
  | [], _ => rfl
  | _ :: _, 0 => rfl
  | e :: es, i + 1 => by simp [eraseAt, eraseAt_eq es i]
theorem sameBits_key {k k2 : SV} {k' k2' : Value} (h1 : VR m k k') (h2 : VR m k2 k2') (h : keyEq k k2 = some true) : Instr.sameBits 10000 k2' k' = true := by
  unfold keyEq at h
  split at h
  · split at h
    · rename_i hk
      have hk := kEq_eq hk
      subst hk
      cases h1; cases h2
      injection h with h
      rw [iEq_eq] at h
      simp [Instr.sameBits]
      exact (by simpa using h : _ = _).symm
    · cases h
  · cases h1; cases h2
    rename_i hn hp _ hn' hp'
    injection h with h
    rw [str_eq' hn hp hn' hp'] at h
    have hb : ∀ a b : ByteArray, (a == b) = (a.data == b.data) := fun _ _ => rfl
    rw [hb] at h
    simp only [Instr.sameBits, hb]
    rw [beq_iff_eq] at h ⊢
    exact h.symm
  · cases h
theorem updateS_sound (hw : WR P m σ w) {t : TypeId} {mm k v : SV} {mm' k' v' : Value} {σ' : St} (hm0 : VR m mm mm') (hk : VR m k k') (hv : VR m v v') (h : updateS P σ t mm k v = some σ') :
    ∃ w', (Instr.mapUpdate t mm' k' v').run P w = .ok () w' ∧ Post P m σ w m σ' w' := by
  unfold updateS at h
  try simp only [und_eq, inf_eq, fnc_eq] at h
  split at h
  case h_2 => cases h
  rename_i kt e b hu
  split at h
  case h_2 => cases h
  rename_i es clk hkt hb
  obtain ⟨d, hud, hd⟩ := keyT_sound hkt
  cases hm0 with
  | map hm =>
    obtain ⟨ES, h1, h2, h3⟩ := mapB hw hb hm
    have hgo := run_getObj_map (P := P) h1
    have hck := checkKey_run (P := P) (w := w) (e := false) hud hd hk
    split at h
    · rename_i j u hf
      rcases findK_sound hd hk (ES := ES.toList) (i := 0) (by simpa using h2) (by simpa using h3) hf with ⟨e1, _⟩ | ⟨j', v1, v1', e1, e2, e3, _, x, e5, e6⟩
      · cases e1
      · cases e1
        cases h
        have hfk := findKey_run (P := P) (w := w) hud e2
        simp only [Nat.sub_zero] at e5
        have hj : j < ES.size := by rw [← h2]; exact (List.getElem?_eq_some_iff.1 e5).1
        have hy : ES[j]? = some ES[j] := Array.getElem?_eq_getElem hj
        have hsb := sameBits_key hk (h3 j _ _ e5 hy).1 e6
        obtain ⟨hrun, hp⟩ := Post.setMap (es' := setAt k v es j) (ES' := ES.modify j fun e => { e with key := k', val := v' }) (clk' := clk) hw hm hb h1 (by rw [setAt_length, h2]; simp) (fun i x y hx hy' => by
          rw [setAt_get] at hx
          rw [Array.getElem?_modify] at hy'
          by_cases hij : i = j
          · subst hij
            rw [if_pos rfl, e5] at hx
            rw [if_pos rfl, hy] at hy'
            simp at hx hy'
            subst hx; subst hy'
            exact ⟨hk, hv, (h3 i _ _ e5 hy).2.2⟩
          · rw [if_neg hij] at hx
            rw [if_neg (Ne.symm hij)] at hy'
            exact h3 i x y hx hy')
        refine ⟨_, ?_, hp⟩
        unfold Instr.mapUpdate
        simp [run_underlying' hu, hgo, hck, hfk, Instr.keyThatStays, hy, hsb]
        exact hrun
    · rename_i hf
      rcases findK_sound hd hk (ES := ES.toList) (i := 0) (by simpa using h2) (by simpa using h3) hf with ⟨_, e2⟩ | ⟨j', v1, v1', e1, _⟩
      · cases h
        have hfk := findKey_run (P := P) (w := w) hud e2
        obtain ⟨hrun, hp⟩ := Post.setMap (es' := es ++ [(k, v, clk)]) (ES' := ES.push { key := k', val := v', born := clk }) (clk' := clk + 1) hw hm hb h1 (by simp [h2]) (fun i x y hx hy => by
          rw [Array.getElem?_push] at hy
          by_cases hi : i = ES.size
          · subst hi
            rw [if_pos rfl] at hy
            rw [List.getElem?_append_right (by omega), h2, Nat.sub_self] at hx
            simp at hx hy
            subst hx; subst hy
            exact ⟨hk, hv, rfl⟩
          · rw [if_neg hi] at hy
            have hlt : i < ES.size := (Array.getElem?_eq_some_iff.1 hy).1
            rw [List.getElem?_append_left (by omega)] at hx
            exact h3 i x y hx hy)
        refine ⟨_, ?_, hp⟩
        unfold Instr.mapUpdate
        simp [run_underlying' hu, hgo, hck, hfk]
        exact hrun
      · cases e1
    · cases h
theorem heap_same {o : Obj} {r : Nat} (h : w.heap[r]? = some o) : w.heap.setIfInBounds r o = w.heap := by
  apply Array.ext_getElem?
  intro i
  rw [Array.getElem?_setIfInBounds]
  split
  · rename_i e; subst e
    split
    · exact h.symm
    · rename_i hlt; rw [Array.getElem?_eq_none (by omega)] at h; cases h
  · rfl
theorem setObj_same {r : Nat} {ES : Array MapEntry} {clk : Nat} (h : w.heap[r]? = some (.map ES clk)) : (setObj r (.map ES clk)).run P w = .ok () w := by
  simp only [setObj, Sem.run, h]
  rw [heap_same h]
theorem deleteS_sound (hw : WR P m σ w) {t ty : TypeId} {mm k : SV} {mm' k' : Value} {ats : Array TypeId} {σ' : St} (hats : ats[0]? = some t) (hm0 : VR m mm mm') (hk : VR m k k') (h : deleteS P σ t mm k = some σ') :
    ∃ w', (Builtin.delete_ ats ty #[mm', k']).run P w = .ok (.tuple #[]) w' ∧ Post P m σ w m σ' w' := by
  unfold deleteS at h
  try simp only [und_eq, inf_eq, fnc_eq] at h
  split at h
  · rename_i kt e hu
    split at h
    case h_2 => cases h
    rename_i hkt
    cases h; cases hm0
    obtain ⟨d, hud, hd⟩ := keyT_sound hkt
    have hck := checkKey_run (P := P) (w := w) (e := true) hud hd hk
    refine ⟨w, ?_, .refl hw⟩
    unfold Builtin.delete_
    simp [hats, run_underlying' hu, hck]
  · rename_i kt e b hu
    split at h
    case h_2 => cases h
    rename_i es clk hkt hb
    obtain ⟨d, hud, hd⟩ := keyT_sound hkt
    cases hm0 with
    | map hm =>
      obtain ⟨ES, h1, h2, h3⟩ := mapB hw hb hm
      have hgo := run_getObj_map (P := P) h1
      have hck := checkKey_run (P := P) (w := w) (e := ES.isEmpty) hud hd hk
      split at h
      · rename_i j u hf
        rcases findK_sound hd hk (ES := ES.toList) (i := 0) (by simpa using h2) (by simpa using h3) hf with ⟨e1, _⟩ | ⟨j', v1, v1', e1, e2, e3, _, x, e5, e6⟩
        · cases e1
        · cases e1
          cases h
          have hfk := findKey_run (P := P) (w := w) hud e2
          have hle : (ES.eraseIdxIfInBounds j).toList = ES.toList.eraseIdx j := by simp
          have hee : es.length = ES.toList.length := by simpa using h2
          have hsz : (ES.eraseIdxIfInBounds j).size = (ES.toList.eraseIdx j).length := by rw [← hle, Array.length_toList]
          obtain ⟨hrun, hp⟩ := Post.setMap (es' := eraseAt es j) (ES' := ES.eraseIdxIfInBounds j) (clk' := clk) hw hm hb h1 (by
              rw [eraseAt_eq, hsz, List.length_eraseIdx, List.length_eraseIdx, hee]) (fun i x y hx hy => by
            rw [eraseAt_eq, List.getElem?_eraseIdx] at hx
            rw [← Array.getElem?_toList, hle, List.getElem?_eraseIdx] at hy
            split at hx
            · rename_i hij
              rw [if_pos hij] at hy
              exact h3 i x y hx (by simpa using hy)
            · rename_i hij
              rw [if_neg hij] at hy
              exact h3 (i + 1) x y hx (by simpa using hy))
          refine ⟨_, ?_, hp⟩
          unfold Builtin.delete_
          simp [hats, run_underlying' hu, hgo, hck, hfk, hrun]
      · rename_i hf
        rcases findK_sound hd hk (ES := ES.toList) (i := 0) (by simpa using h2) (by simpa using h3) hf with ⟨_, e2⟩ | ⟨j', v1, v1', e1, _⟩
        · cases h
          have hfk := findKey_run (P := P) (w := w) hud e2
          refine ⟨w, ?_, .refl hw⟩
          have hso := setObj_same (P := P) h1
          unfold Builtin.delete_
          simp [hats, run_underlying' hu, hgo, hck, hfk, hso]
        · cases e1
      · cases h
  · cases h
/-! conversions -/
theorem packOf_sound : ∀ {l : List SV} {l' : List Value} {p : Nat}, VRs m l l' → packOf l = some p → ∃ bs : List UInt8, l' = bs.map (fun b => Value.int .u8 (b.toNat : Int)) ∧ pk bs = p
  | [], [], p, .nil, h => by unfold packOf at h; cases h; exact ⟨[], rfl, rfl⟩
  | v :: l, v' :: l', p, .cons hv hs, h => by
    unfold packOf at h
    split at h
    · rename_i e; cases e
    · rename_i b k e
      cases e
      split at h
      · rename_i p0 hb hp
        cases h
        have hb := Nat.le_of_ble_eq_true hb
        obtain ⟨bs, rfl, rfl⟩ := packOf_sound hs hp
        cases hv
        have hbn : (UInt8.ofNat b).toNat = b := by rw [UInt8.toNat_ofNat']; omega
        refine ⟨UInt8.ofNat b :: bs, by simp [hbn], by simp [pk, hbn]⟩
      · cases h
    · cases h
theorem byteArray_ofList (bs : List UInt8) : bs.foldl ByteArray.push ByteArray.empty = ⟨bs.toArray⟩ := by
  have : ∀ (bs : List UInt8) (a : Array UInt8), bs.foldl ByteArray.push ⟨a⟩ = ⟨a ++ bs.toArray⟩ := by
    intro bs
    induction bs with
    | nil => intro a; simp
    | cons b bs ih => intro a; rw [List.foldl_cons]; show bs.foldl ByteArray.push ⟨a.push b⟩ = _; rw [ih]; congr 1; simp
  exact (this bs #[]).trans (by simp)
theorem freeze_new (w : World) (C : Array Value) (e cap : Nat) : (w.alloc (.cells C e)).freeze ⟨w.heap.size, cap, none⟩ 1 = w.alloc (.cells C e (cap, cap + 1)) := by
  have hh : (w.heap.push (Obj.cells C e)).modify w.heap.size (fun
      | .cells c elem (lo, hi) => .cells c elem (if lo == hi then (cap, cap + 1) else (min lo cap, max hi (cap + 1)))
      | o => o) = w.heap.push (.cells C e (cap, cap + 1)) := by
    apply Array.ext_getElem?
    intro i
    rw [Array.getElem?_modify, Array.getElem?_push, Array.getElem?_push]
    by_cases h : w.heap.size = i
    · subst h; simp
    · rw [if_neg h, if_neg (Ne.symm h), if_neg (Ne.symm h)]
  unfold World.freeze
  rw [if_neg (by omega)]
  exact congrArg (fun hp => { w with heap := hp }) hh
theorem zeroCells_list (z : Array Value) (n s : Nat) (h : z.size = s) : (Builtin.zeroCells z n) = (Array.range (n * s)).map (z[· % z.size]!) := by
  subst h; rfl
theorem clearS_sound (hw : WR P m σ w) {t ty : TypeId} {x : SV} {x' : Value} {ats : Array TypeId} {σ' : St} (hats : ats[0]? = some t) (hx : VR m x x') (h : clearS P σ t x = some σ') :
    ∃ w', (Builtin.clear_ ats ty #[x']).run P w = .ok (.tuple #[]) w' ∧ Post P m σ w m σ' w' := by
  unfold clearS at h
  try simp only [und_eq, inf_eq, fnc_eq] at h
  split at h
  · rename_i e hu
    cases h; cases hx
    refine ⟨w, ?_, .refl hw⟩
    unfold Builtin.clear_
    simp [hats, run_underlying' hu]
  · rename_i e b off n cap hu
    have key : ∃ im a c, x' = .slice (some a) n c ∧ m b = some im ∧ a.block = im.blk ∧ a.spot = none ∧ (c ≠ 0 → a.off = im.base + off) ∧ n ≤ c := by
      cases cap with
      | ex c => obtain ⟨im, a, e, h1, h2, h3, h4, h5⟩ := hx.ex_inv; exact ⟨im, a, c, e, h1, h2, h3, h4, h5⟩
      | op sz => obtain ⟨im, a, c, e, h1, h2, h3, h4, h5, _⟩ := hx.op_inv; exact ⟨im, a, c, e, h1, h2, h3, h4, h5⟩
    obtain ⟨im, a, c, rfl, hm, ha, hsp, hc, hle⟩ := key
    split at h
    · cases h
      refine ⟨w, ?_, .refl hw⟩
      unfold Builtin.clear_
      simp [hats, run_underlying' hu]
    · rename_i n
      split at h
      case h_2 => cases h
      rename_i z hz
      obtain ⟨i, z', hi, hiz, hvz, hrun⟩ := zeroV_sound (m := m) (w := w) hz
      have hrep := rep_sound (m := m) hvz.cells (n + 1) z.cells.length rfl
      have hlen : z'.cells.size = z.cells.length := by have := hvz.cells.length; simpa using this.symm
      have e := zeroCells_list z'.cells (n + 1) z.cells.length hlen
      obtain ⟨hst, hp⟩ := storeC_sound hw h hm hrep
      have : a = ⟨im.blk, im.base + off, none⟩ := by cases a; simp at ha hsp hc ⊢; exact ⟨ha, hc (by omega), hsp⟩
      subst this
      refine ⟨_, ?_, hp⟩
      unfold Builtin.clear_
      simp only [hats, run_underlying' hu, Sem.run_bind, Result.andThen_ok, hrun, List.getElem?_toArray, List.getElem?_cons_zero]
      rw [show (Builtin.zeroCells z'.cells (n + 1)).toList = _ from congrArg Array.toList e, hst]
      rfl
  · cases h
theorem repC_mem {z : List SV} {u : SV} : ∀ {n : Nat}, u ∈ repC z n → u ∈ z
  | 0, h => by simp [repC] at h
  | n + 1, h => by
    unfold repC at h
    exact (List.mem_append.1 h).elim id repC_mem
theorem appendZ_sound (hw : WR P m σ w) {sT xT ty : Nat} {s x v : SV} {s' x' : Value} {σ' : St} (hs : VR m s s') (hx : VR m x x') (h : appendZ P σ sT xT s x = some (v, σ')) :
    ∃ m' w' v', (Builtin.append_ #[sT, xT] ty #[s', x']).run P w = .ok v' w' ∧ VR m' v v' ∧ Post P m σ w m' σ' w' := by
  unfold appendZ at h
  try simp only [und_eq, inf_eq, fnc_eq] at h
  split at h
  case h_2 => cases h
  rename_i e kx b off len c0 kq n ht hxT
  split at h
  case h_2 => cases h
  rename_i k z hsz hz hcond
  simp only [Bool.and_eq_true] at hcond
  obtain ⟨⟨⟨c1, c2⟩, c3⟩, c4⟩ := hcond
  have c1 := Nat.le_of_ble_eq_true c1
  have c2 : c0 < len + n := Nat.le_of_ble_eq_true c2
  have c3 := Nat.le_of_ble_eq_true c3
  have c4 := Nat.le_of_ble_eq_true c4
  split at h
  case h_2 => cases h
  rename_i old hzl hold
  rw [Bool.and_eq_true] at hzl
  split at h
  case h_2 => cases h
  rename_i hone
  cases h
  obtain ⟨i, hi, hisz, hby⟩ := sz_info hsz
  obtain ⟨i', z', hi', hiz, hvz, _⟩ := zeroV_sound (m := m) (w := w) hz
  rw [hi] at hi'; cases hi'
  have hzc := Nat.eq_of_beq_eq_true hzl.1
  have hlen : z'.cells.size = z.cells.length := by have := hvz.cells.length; simpa using this.symm
  have hrep := rep_sound (m := m) hvz.cells n z.cells.length rfl
  have ez := zeroCells_list z'.cells n z.cells.length hlen
  rw [← ez] at hrep
  obtain ⟨im, a, rfl, hm, ha, hsp, hc, hle⟩ := hs.ex_inv
  cases hx
  obtain ⟨old', ho, holen, ho1, hor⟩ := srcC_sound (s := k + 1) (n := len) (N := len) hw (.sliceEx hm ha hsp hc hle) (by unfold srcC; exact hold) rfl (Nat.le_refl _)
  have hcap := nextslicecap_le c2
  have h48 : Builtin.nextslicecap (len + n) c0 * i.bytes ≤ 2 * (len + n) * i.bytes := Nat.mul_le_mul_right _ hcap
  have h49 : 2 * (len + n) * i.bytes ≤ 2000000 * 4096 := Nat.mul_le_mul (by omega) (by omega)
  have h50 : n * i.bytes ≤ 1000000 * 4096 := Nat.mul_le_mul (by omega) (by omega)
  have hrun := Lib.run_append_grow_zeros (P := P) w sT xT ty e i z' kq kx ht hxT hi hiz (some a) len c0 old' (by rw [hisz]; exact hor w.drew rfl) n (by omega) (by omega) c2 (by omega) (by omega) (by omega)
  have hzo : ∀ v ∈ (Builtin.zeroCells z'.cells n).toList, v.oneCell' = true := by
    intro v hv
    obtain ⟨j, hj⟩ := List.mem_iff_getElem?.1 hv
    obtain ⟨u, hu, hr⟩ := hrep.get' j v hj
    refine hr.one ?_
    have hmem := List.mem_of_getElem? hu
    exact List.all_eq_true.1 hzl.2 u (repC_mem hmem)
  have hcells : (old'.toArray ++ Builtin.zeroCells z'.cells n) = (old' ++ (Builtin.zeroCells z'.cells n).toList).toArray := by
    apply Array.ext'; simp
  rw [hcells] at hrun
  obtain ⟨m', hp, hv⟩ := Post.row (e := e) (fz := 0) (N := len + n) (cap := grownCap w (len + n) c0 e) hw.drew (ho.append hrep) (fun v hv => (List.mem_append.1 hv).elim (ho1 v) (hzo v)) (by rw [List.length_append, holen, Array.length_toList, zeroCells_size, hlen, hzc, Nat.add_mul]) (hlen.trans hzc) grownCap_ge (Nat.succ_pos k) (old ++ repC z.cells n).length rfl (fromL (old ++ repC z.cells n)) (fun k v hk => fromL_get hk) (Nat.zero_le _)
  exact ⟨m', _, _, hrun, hv, (Post.drew hw).trans hp⟩
theorem appendX_sound (hw : WR P m σ w) {sT xT ty : Nat} {s x v : SV} {s' x' : Value} {σ' : St} (hs : VR m s s') (hx : VR m x x') (h : appendX P σ sT xT s x = some (v, σ')) :
    ∃ m' w' v', (Builtin.append_ #[sT, xT] ty #[s', x']).run P w = .ok v' w' ∧ VR m' v v' ∧ Post P m σ w m' σ' w' := by
  unfold appendX at h
  split at h
  · rename_i p hap
    cases h
    exact appendS_sound hw hs hx hap
  · exact appendZ_sound hw hs hx h
theorem VR.slice_inv {b off len : Nat} {cap : Cap} {v' : Value} (h : VR m (.slice b off len cap) v') : ∃ im a c, v' = .slice (some a) len c ∧ m b = some im ∧ a.block = im.blk := by
  cases cap with
  | ex c => obtain ⟨im, a, rfl, h1, h2, _⟩ := h.ex_inv; exact ⟨_, _, _, rfl, h1, h2⟩
  | op s => obtain ⟨im, a, c, rfl, h1, h2, _⟩ := h.op_inv; exact ⟨_, _, _, rfl, h1, h2⟩
theorem freeze_heap {w : World} {B o : Nat} {C : Array Value} {ty : TypeId} (h : w.heap[B]? = some (.cells C ty (0, 0))) :
    (w.freeze ⟨B, o, none⟩ 1).heap[B]? = some (.cells C ty (o, o + 1)) ∧ (∀ K, K ≠ B → (w.freeze ⟨B, o, none⟩ 1).heap[K]? = w.heap[K]?) ∧ (w.freeze ⟨B, o, none⟩ 1).heap.size = w.heap.size := by
  unfold World.freeze
  rw [if_neg (by omega)]
  refine ⟨?_, fun K hK => ?_, by simp⟩
  · simp only [Array.getElem?_modify, h, if_true, Option.map_some]
    rfl
  · simp only [Array.getElem?_modify]
    rw [if_neg (Ne.symm hK)]
theorem conv_sound (hw : WR P m σ w) {src dst : TypeId} {x v : SV} {x' : Value} {σ' : St} (hx : VR m x x') (h : conv P σ src dst x = some (v, σ')) :
    ∃ m' w' v', (convert src dst x').run P w = .ok v' w' ∧ VR m' v v' ∧ Post P m σ w m' σ' w' := by
  unfold conv at h
  try simp only [und_eq, inf_eq, fnc_eq] at h
  split at h
  · rename_i ds hs hd
    cases h; cases hx
    refine ⟨m, w, _, ?_, by rw [wr_eq]; exact .int .., .refl hw⟩
    unfold convert
    simp only [Sem.run_bind, run_underlying' hs, run_underlying' hd, Result.andThen_ok]
    cases ds <;> rfl
  · rename_i ds hs hd
    cases h
    refine ⟨m, w, x', ?_, hx, .refl hw⟩
    cases hx
    unfold convert
    simp only [Sem.run_bind, run_underlying' hs, run_underlying' hd, Result.andThen_ok]
    cases ds <;> rfl
  · rename_i ds e n p hs hd
    split at h
    case h_2 => cases h
    rename_i he
    cases h; cases hx
    rename_i s hn hp
    have hcap : s.size ≤ grownCap w s.size 0 e := grownCap_ge
    generalize hC : grownCap w s.size 0 e = cap at hcap
    have hrow : ((s.data.map fun b => Value.int .u8 (b.toNat : Int)) ++ Array.replicate (cap - s.size) (Value.int .u8 0)).size = cap := by
      simp; have : s.data.size = s.size := rfl; omega
    have hrun : (convert src dst (.string s)).run P w = .ok (.slice (some ⟨w.heap.size, 0, none⟩) s.size cap)
        (w.drew.alloc (.cells ((s.data.map fun b => Value.int .u8 (b.toNat : Int)) ++ Array.replicate (cap - s.size) (.int .u8 0)) e (cap, cap + 1))) := by
      unfold convert
      simp only [Sem.run_bind, run_underlying' hs, run_underlying' hd, Result.andThen_ok]
      have hmain : (do
          match ← underlying e with
          | .int .u8 => Conv.stringToBytes e s
          | .int .i32 => Conv.stringToRunes e s
          | _ => stuck "Convert: string to a slice of what?" : Sem Value).run P w = .ok (.slice (some ⟨w.heap.size, 0, none⟩) s.size cap)
        (w.drew.alloc (.cells ((s.data.map fun b => Value.int .u8 (b.toNat : Int)) ++ Array.replicate (cap - s.size) (.int .u8 0)) e (cap, cap + 1))) := by
        simp only [Sem.run_bind, run_underlying' he, Result.andThen_ok]
        unfold Conv.stringToBytes
        have hC' : (Question.appendCap s.size 0 e).cut (w.tape w.drawn (.appendCap s.size 0 e)) = cap := hC
        simp only [Sem.run_bind, run_choose_drew, Question.forced, Bool.false_eq_true, if_false, Result.andThen_ok, hC', newRow, run_newObj_alloc, Sem.run_pure, markStringish, run_shape]
        have hsh : (w.drew.alloc (.cells ((s.data.map fun b => Value.int .u8 (b.toNat : Int)) ++ Array.replicate (cap - s.size) (.int .u8 0)) e)).shape? w.drew.heap.size = some (e, cap) := by
          simp only [World.shape?, heap_alloc_new, hrow]
        simp only [hsh, run_freeze, Result.andThen_ok]
        refine congrArg (Result.ok _) ?_
        exact freeze_new w.drew _ e cap
      rw [Sem.run_bind] at hmain
      cases ds <;> exact hmain
    have hb := bytesOf_pk s.data.toList
    have hsz : s.data.toList.length = s.size := rfl
    rw [hsz, hn, hp] at hb
    refine ⟨_, _, _, hrun, ?_, (Post.drew hw).trans (Post.new hw.drew _ _ cap (.cells hrow (by rw [hrow]; simp; omega) (.inl (by rw [hrow]; exact Nat.le_refl _)) fun k hk => ?_))⟩
    · rw [hn] at hcap ⊢
      exact .sliceOp (upd_same ..) rfl rfl (fun _ => rfl) hcap (by simp) Nat.one_pos
    · have hks : k < s.data.toList.length := by rw [hsz, hn]; exact hk
      refine ⟨.int .u8 (s.data.toList[k].toNat : Int), ?_, ?_, .inl rfl⟩
      · rw [Nat.zero_add, Array.getElem?_append_left (by simpa using hks)]
        simp at hks
        simp [hks]
      · have : (bytesOf n p)[k]? = some (.int .u8 (.ofNat s.data.toList[k].toNat)) := by
          rw [hb]; simp at hks; simp [hks]
        rw [fromL_get this]; exact .inl (.int ..)
  · rename_i e0 e b off len cap hs hd
    split at h
    case h_2 => cases h
    rename_i ty n c hsd he hg
    have hsd := Nat.eq_of_beq_eq_true hsd
    subst hsd
    have hee := hs.symm.trans hd
    cases hee
    cases h
    obtain ⟨im, a, cp, rfl, hm, ha⟩ := hx.slice_inv
    have hbr := hw.blk _ _ hm
    rw [hg] at hbr
    cases hbr' : w.heap[im.blk]? with
    | none => rw [hbr'] at hbr; cases hbr
    | some o =>
      rw [hbr'] at hbr
      cases hbr with
      | cells ht hn hf hv =>
        rename_i lo hi C
        obtain ⟨rfl, rfl⟩ : lo = 0 ∧ hi = 0 := hf
        obtain ⟨f1, f2, f3⟩ := freeze_heap (o := C.size) hbr'
        refine ⟨m, w.freeze ⟨im.blk, C.size, none⟩ 1, _, ?_, hx, Post.put hw hm (by rw [hg]; rfl) _ _ rfl rfl rfl f3 f2 ?_⟩
        · unfold convert
          have hsh : w.shape? im.blk = some (ty, C.size) := by simp [World.shape?, hbr']
          simp only [Sem.run_bind, run_underlying' hs, run_underlying' hd, run_underlying' he, Result.andThen_ok, beq_self_eq_true, markStringish, run_shape, hsh, run_freeze, ha, Sem.run_pure]
        · rw [f1]
          exact .cells ht hn (.inl (Nat.le_refl _)) hv
  · rename_i e hs hd
    split at h
    case h_2 => cases h
    rename_i he
    cases h; cases hx
    refine ⟨m, w, .string .empty, ?_, .str rfl rfl, .refl hw⟩
    unfold convert
    simp only [Sem.run_bind, run_underlying' hs, run_underlying' hd, run_underlying' he, Result.andThen_ok]
    rfl
  · rename_i e b off len cap hs hd
    split at h
    case h_2 => cases h
    rename_i he
    split at h
    case h_2 => cases h
    rename_i l hl
    cases hp : packOf l with
    | none => rw [hp] at h; cases h
    | some p =>
      rw [hp] at h
      cases h
      have key : ∃ im a c, x' = .slice (some a) len c ∧ m b = some im ∧ a.block = im.blk ∧ a.spot = none ∧ (c ≠ 0 → a.off = im.base + off) ∧ len ≤ c := by
        cases cap with
        | ex c => obtain ⟨im, a, e, h1, h2, h3, h4, h5⟩ := hx.ex_inv; exact ⟨im, a, c, e, h1, h2, h3, h4, h5⟩
        | op sz => obtain ⟨im, a, c, e, h1, h2, h3, h4, h5, _⟩ := hx.op_inv; exact ⟨im, a, c, e, h1, h2, h3, h4, h5⟩
      obtain ⟨im, a, c, rfl, hm, ha, hsp, hc, hle⟩ := key
      obtain ⟨l', hr, hlen, h1, hcell, hrun⟩ := loadC_run hw hl hm
      obtain ⟨bs, rfl, rfl⟩ := packOf_sound hr hp
      have hlen' : bs.length = len := by simpa using hlen
      have hload : (loadCells a len).run P w = .ok ((bs.map fun b => (b.toNat : Int)).map (Value.int .u8)).toArray w := by
        by_cases h0 : c = 0
        · have hl0 : len = 0 := by omega
          have : bs = [] := List.length_eq_zero_iff.1 (by omega)
          subst hl0; subst this; rfl
        · have : a = ⟨im.blk, im.base + off, none⟩ := by cases a; simp at ha hsp hc ⊢; exact ⟨ha, hc h0, hsp⟩
          rw [this, hrun]; simp [Function.comp_def]
      have hfold : (bs.map fun b => (b.toNat : Int)).foldl (fun r n => r.push (UInt8.ofNat n.toNat)) ByteArray.empty = ⟨bs.toArray⟩ := by
        rw [List.foldl_map, ← byteArray_ofList]
        congr 1
        funext r b
        simp
      refine ⟨m, w, .string ⟨bs.toArray⟩, ?_, .str (by rw [← hlen']; simp [ByteArray.size]) (by simp), .refl hw⟩
      rw [run_convert_bytes_string w src dst e (some a) len c hs he hd, run_bytesToString w a len c _ hload, hfold]
  · cases h
theorem convF_conv {src dst : TypeId} {a u : SV} (h : convF P src dst [a] = some u) : conv P σ src dst a = some (u, σ) := by
  unfold convF at h
  split at h
  · rename_i k n e
    cases e
    split at h
    · rename_i d0 k0 h1 h2
      cases h
      simp only [conv, h1, h2]
    · cases h
  · rename_i n p e
    cases e
    split at h
    · rename_i d0 h1 h2
      cases h
      simp only [conv, h1, h2]
    · cases h
  · cases h
/-- What a block holds may be said less sharply. -/
theorem WR.widen {σ : St} {ty n fz : Nat} {c c2 : Tr SV} {w : World} (hw : WR P m (σ.new (.cells ty n fz c)) w) (hc : ∀ k, k < n → Wider (c2.get .undef k) (c.get .undef k)) (hu : ∀ k, k < n → c.get .undef k ≠ .unk) : WR P m (σ.new (.cells ty n fz c2)) w := by
  have live : ∀ i, (σ.new (.cells ty n fz c2)).get i ≠ .dead → (σ.new (.cells ty n fz c)).get i ≠ .dead := by
    intro i hi
    rw [St.get_new] at hi ⊢
    split
    · intro e; cases e
    · rename_i hne; rw [if_neg hne] at hi; exact hi
  refine ⟨hw.dom, fun i im hi => ?_, fun i j im jm h1 h2 h3 h4 h5 => hw.inj i j im jm h1 h2 (live i h3) (live j h4) h5, fun i hi => hw.live i (live i hi), hw.glob, hw.big, fun W0 L hW => let ⟨i1, i2, i3, i4⟩ := hw.inv W0 L hW; ⟨i1, i2, fun i im hi di => i3 i im hi (by
    rw [St.get_new] at di ⊢
    split
    · rename_i e; rw [if_pos e] at di; exact di
    · rename_i hne; rw [if_neg hne] at di; exact di), i4⟩⟩
  have hb := hw.blk i im hi
  rw [St.get_new] at hb ⊢
  by_cases e : i = σ.next
  · rw [if_pos e] at hb ⊢
    generalize w.heap[im.blk]? = o at hb
    cases hb with
    | cells ht hn hf hv => exact .cells ht hn hf fun k hk => let ⟨v, a, b, d⟩ := hv k hk; ⟨v, a, .inl (hc k hk _ _ (b.resolve_right (hu k hk))), .inl (d.resolve_right (hu k hk))⟩
  · rw [if_neg e] at hb ⊢
    exact hb
theorem Post.widen {σ0 σ : St} {ty n fz : Nat} {c c2 : Tr SV} {w w' : World} {m' : Mp} (h : Post P m σ0 w m' (σ.new (.cells ty n fz c)) w') (hc : ∀ k, k < n → Wider (c2.get .undef k) (c.get .undef k)) (hu : ∀ k, k < n → c.get .undef k ≠ .unk) : Post P m σ0 w m' (σ.new (.cells ty n fz c2)) w' :=
  ⟨h.ext, h.wr.widen hc hu, h.next, h.kp, h.gh, fun i im hi di => h.live i im hi (by
    rw [St.get_new] at di ⊢
    split
    · rename_i e; rw [if_pos e] at di; exact di
    · rename_i hne; rw [if_neg hne] at di; exact di)⟩
theorem convL_sound (hw : WR P m σ w) {src dst : TypeId} {x v : SV} {x' : Value} {σ' : St} (hx : VR m x x') (h : convL P σ src dst x = some (v, σ')) :
    ∃ m' w' v', (convert src dst x').run P w = .ok v' w' ∧ VR m' v v' ∧ Post P m σ w m' σ' w' := by
  unfold convL at h
  split at h
  · rename_i hb
    cases h
    exact conv_sound hw hx hb
  · rename_i hq; clear hq
    split at h
    · rename_i l
      split at h
      · rename_i e hd
        split at h
        case h_2 => cases h
        rename_i ds n hs he hn
        obtain ⟨s0, rfl, hs0⟩ := lenV_lan hx hn
        obtain ⟨a, e1, e2, e3⟩ := hx.lan_inv
        cases e2 with
        | lanS => cases e3
        | str hsz hp =>
        rename_i n0 p0
        have hn0 : n0 = n := by rw [← hsz, hs0]
        subst hn0
        cases hbl : bytesLF (.lan l) n0 n0 0 with
        | none => rw [hbl] at h; cases h
        | some cs =>
          rw [hbl] at h
          cases h
          obtain ⟨b1, b2, b3⟩ := bytesLF_ok hx hbl
          have hcv : conv P σ src dst (.str n0 p0) = some (.slice σ.next 0 n0 (.op 1), σ.new (.cells e n0 1 (fromL (bytesOf n0 p0)))) := by
            simp only [conv, hs, hd, he]
          obtain ⟨m', w', v', r1, r2, r3⟩ := conv_sound hw (.str hsz hp) hcv
          refine ⟨m', w', v', r1, r2, r3.widen (fun k hk => ?_) fun k hk => ?_⟩
          · obtain ⟨u, q1, q2, q3⟩ := b3 k hk
            have hb := bytesOf_pk s0.data.toList
            have hlen : s0.data.toList.length = n0 := hsz
            rw [hlen, hp] at hb
            have q1' : k < s0.data.toList.length := by omega
            have e4 : (bytesOf n0 p0)[k]? = some (.int .u8 (.ofNat (s0.data.toList[k]).toNat)) := by
              rw [hb]; simp at q1'; simp [q1']
            rw [fromL_get q2, fromL_get e4]
            simpa using q3
          · have hb := bytesOf_pk s0.data.toList
            have hlen : s0.data.toList.length = n0 := hsz
            rw [hlen, hp] at hb
            have q1' : k < s0.data.toList.length := by omega
            have e4 : (bytesOf n0 p0)[k]? = some (.int .u8 (.ofNat (s0.data.toList[k]).toNat)) := by
              rw [hb]; simp at q1'; simp [q1']
            rw [fromL_get e4]
            intro e; cases e
      · cases hl : lanes (convF P src dst) [.lan l] with
        | none => rw [hl] at h; cases h
        | some u =>
          rw [hl] at h
          cases h
          obtain ⟨kk, u0, hk, hf, hwd, -⟩ := lanes_ok hl (.cons hx .nil)
          obtain ⟨a, rfl, ha⟩ := hk.one_inv
          obtain ⟨m', w', v', r1, r2, r3⟩ := conv_sound hw ha (convF_conv hf)
          exact ⟨m', w', v', r1, hwd _ _ r2, r3⟩
    · rename_i b off len cap
      try simp only [und_eq, inf_eq, fnc_eq] at h
      split at h
      case h_2 => cases h
      rename_i e hs hd
      split at h
      case h_2 => cases h
      rename_i he
      split at h
      case h_2 => cases h
      rename_i l hl
      cases hp0 : lanes packF l with
      | none => rw [hp0] at h; cases h
      | some u =>
        rw [hp0] at h
        cases h
        have key : ∃ im a c, x' = .slice (some a) len c ∧ m b = some im ∧ a.block = im.blk ∧ a.spot = none ∧ (c ≠ 0 → a.off = im.base + off) ∧ len ≤ c := by
          cases cap with
          | ex c => obtain ⟨im, a, e, h1, h2, h3, h4, h5⟩ := hx.ex_inv; exact ⟨im, a, c, e, h1, h2, h3, h4, h5⟩
          | op sz => obtain ⟨im, a, c, e, h1, h2, h3, h4, h5, _⟩ := hx.op_inv; exact ⟨im, a, c, e, h1, h2, h3, h4, h5⟩
        obtain ⟨im, a, c, rfl, hm, ha, hsp, hc, hle⟩ := key
        obtain ⟨l', hr0, hlen, h1, hcell, hrun⟩ := loadC_run hw hl hm
        obtain ⟨kk, u0, hr, hf, hwd, -⟩ := lanes_ok hp0 hr0
        have hkl : kk.length = len := by rw [hr.length, hlen]
        unfold packF at hf
        cases hp : packOf kk with
        | none => rw [hp] at hf; cases hf
        | some p =>
          rw [hp] at hf
          cases hf
          obtain ⟨bs, rfl, rfl⟩ := packOf_sound hr hp
          have hlen' : bs.length = len := by simpa using hlen
          have hload : (loadCells a len).run P w = .ok ((bs.map fun b => (b.toNat : Int)).map (Value.int .u8)).toArray w := by
            by_cases h0 : c = 0
            · have hl0 : len = 0 := by omega
              have : bs = [] := List.length_eq_zero_iff.1 (by omega)
              subst this
              have : a = a := rfl
              rw [hl0]; rfl
            · have : a = ⟨im.blk, im.base + off, none⟩ := by cases a; simp at ha hsp hc ⊢; exact ⟨ha, hc h0, hsp⟩
              rw [this, hrun]; simp [Function.comp_def]
          have hfold : (bs.map fun b => (b.toNat : Int)).foldl (fun r n => r.push (UInt8.ofNat n.toNat)) ByteArray.empty = ⟨bs.toArray⟩ := by
            rw [List.foldl_map, ← byteArray_ofList]
            congr 1
            funext r b
            simp
          refine ⟨m, w, .string ⟨bs.toArray⟩, ?_, hwd _ _ (.str (by rw [hkl, ← hlen']; simp [ByteArray.size]) (by simp)), .refl hw⟩
          rw [run_convert_bytes_string w src dst e (some a) len c hs he hd, run_bytesToString w a len c _ hload, hfold]
    · cases h
end
end Go.YtjighphlkcedhaaDoorEv
