/- An evaluator for the program's own code: each operation, put together. (text 13) -/
import Derived.Test.YtjighphlkcedhaaDoorEv12
set_option linter.unusedVariables false
set_option linter.unusedSimpArgs false
namespace Go.YtjighphlkcedhaaDoorEv
open Go
set_option linter.unusedSectionVars false
variable [Lane]

section
variable {P : Program} {m : Mp} {σ : St} {w : World}
theorem PRs.arr {l : List (Nat × SV)} {ps : Array (Nat × Operand)} {ρ : Operand → Value} (h : PRs m l (ps.toList.map fun p => (p.1, ρ p.2))) : PRs m l ((ps.map fun (i, x) => (i, ρ x)).toList) := by
  rw [Array.toList_map]; exact h
theorem VRs.arr {l : List SV} {ps : Array Operand} {ρ : Operand → Value} (h : VRs m l (ps.toList.map ρ)) : VRs m l (ps.map ρ).toList := by
  rw [Array.toList_map]; exact h
theorem makeSlice_sound (hw : WR P m σ w) {t e : TypeId} {l c s b : Nat} {lk ck : IntKind} {z : SV} {σ' : St} (hu : P.underlying t = some (.slice e)) (hs : sz P e = some s) (hz : zeroV P e = some z)
    (b1 : l ≤ c) (b2 : c ≤ 1000000) (b3 : P.bytesOf e ≤ 4096) (b4 : z.cells.length = s) (hn : newC σ e (repC z.cells c) = some (b, σ')) :
    ∃ m' w' v', (Instr.makeSlice t (.int lk (Int.ofNat l)) (.int ck (Int.ofNat c))).run P w = .ok v' w' ∧ VR m' (.slice b 0 l (.ex c)) v' ∧ Post P m σ w m' σ' w' := by
  obtain ⟨i, hi, his, hby⟩ := sz_info hs
  obtain ⟨i', z', hi', hiz, hvz, hrun⟩ := zeroV_sound (m := m) (w := w) hz
  rw [hi] at hi'; cases hi'
  have hrep := rep_sound (m := m) hvz.cells c s b4
  obtain ⟨m', hpost, hm'⟩ := newC_sound hw hn hrep
  refine ⟨m', _, .slice (some ⟨w.heap.size, 0, none⟩) l c, ?_, .sliceEx hm' rfl rfl (fun _ => rfl) b1, hpost⟩
  have hmul : i.bytes * c ≤ 4096000000 := by
    have := Nat.mul_le_mul (show i.bytes ≤ 4096 by omega) b2
    omega
  have hwl : IntKind.i64.wrap (l : Int) = l := IntWalk.i64_in _ (by omega)
  have hwc : IntKind.i64.wrap (c : Int) = c := IntWalk.i64_in _ (by omega)
  have hmi : (i.bytes : Int) * (c : Int) ≤ 281474976710656 := by
    have := Int.ofNat_le.2 hmul
    rw [Int.natCast_mul] at this
    omega
  have hti : (typeInfo e).run P w = .ok i w := by simp [typeInfo, hi]
  have hl0 : ¬ ((l : Int) < 0) := by omega
  have hlc : ¬ ((l : Int) > c) := by omega
  have hc0 : ¬ ((c : Int) < 0) := by omega
  unfold Instr.makeSlice
  simp only [Sem.run_bind, run_underlying' hu, Result.andThen_ok, asInt, asIntOf, Sem.run_pure, hti, Int.ofNat_eq_natCast, hwl, hwc]
  rw [Sem.run_ite, if_neg (by simp [hmi, hl0, hlc, hc0])]
  simp only [Sem.run_bind, run_askRoom, Result.andThen_ok, sz_run hs, Int.toNat_natCast]
  by_cases h0 : c * s = 0
  · rw [Sem.run_ite, if_pos h0]
    simp only [Sem.run_bind, Sem.run_pure, Result.andThen_ok, newRow, run_newObj]
    have e1 : ∀ zz : Array Value, (Array.range (c * s)).map (zz[· % zz.size]!) = #[] := fun zz => by rw [h0]; simp
    rw [e1]
    refine congrArg (Result.ok _) ?_
    show w.alloc _ = w.alloc _
    rw [e1]
  · rw [Sem.run_ite, if_neg h0]
    simp only [Sem.run_bind, Sem.run_pure, hrun, Result.andThen_ok, newRow, run_newObj]
    rfl
theorem call_sound (hx : ExtOk P) (hw : WR P m σ w) {fr : Fr} {a : Act} (hf : FrR m fr a) {c : Call} {ty : TypeId} {nx : Nx} {σ' : St} (h : call P σ fr c = some (nx, σ')) :
    OpOk P m σ w (do let d ← resolve a.eval c ty; invoke d.target d.args) nx σ' := by
  unfold call at h
  split at h
  · cases h
  rename_i args ha
  have hargs := (evL_sound hw hf ha).arr
  split at h
  · rename_i b hc
    cases hr : builtinS P σ b c.argTypes.toList args with
    | none => rw [hr] at h; cases h
    | some p =>
      rw [hr] at h; cases h
      obtain ⟨m', w', v', h1, h2, h3⟩ := builtinS_sound (ty := ty) (consts := c.args.map fun | .const _ => true | _ => false) hw hargs hr
      exact ⟨m', w', _, by simp only [resolve, hc, Sem.run_bind, Sem.run_pure, Result.andThen_ok, invoke]; exact h1, .val h2, h3⟩
  · rename_i r name hc
    split at h
    · rename_i t v hr
      split at h
      · rename_i f recv hm
        have hrv := ev_sound hw hf hr
        generalize hre : a.eval r = rv at hrv
        cases hrv with
        | iface hv =>
          rename_i v'
          obtain ⟨n, hn⟩ : ∃ n, P.types.size + Made.depth = n + 1 := ⟨P.types.size + Made.depth - 1, by have : 0 < Made.depth := by decide
                                                                                                        omega⟩
          obtain ⟨r', h1, h2⟩ := methodA_sound (n := n) hw hv hm
          obtain ⟨m', w', nx', h3, h4, h5⟩ := callS_sound hx hw (args' := #[r'] ++ c.args.map a.eval) (by rw [Array.toList_append]; exact .cons h2 hargs) h
          refine ⟨m', w', nx', ?_, h4, h5⟩
          simp only [resolve, hc, Sem.run_bind, Sem.run_pure, Result.andThen_ok, invoke, hre]
          have e0 : (#[Value.iface t v'] ++ c.args.map a.eval)[0]? = some (.iface t v') := by rw [← Array.getElem?_toList, Array.toList_append]; rfl
          have e1 : (#[Value.iface t v'] ++ c.args.map a.eval).extract 1 (#[Value.iface t v'] ++ c.args.map a.eval).size = c.args.map a.eval := by
            apply Array.ext'; simp [List.take_of_length_le]
          simp only [e0, e1, callMethod, Sem.run_bind, run_program, Result.andThen_ok, hn, h1]
          exact h3
      · cases h
    · cases h
  · rename_i f hc
    split at h
    · rename_i g first captured hr
      have hrv := ev_sound hw hf hr
      generalize hre : a.eval f = rv at hrv
      cases hrv with
      | func h1 h2 =>
        rename_i f' c'
        obtain ⟨m', w', nx', h3, h4, h5⟩ := callS_sound hx hw (args' := f' ++ c.args.map a.eval ++ c') (by
          simp only [Array.toList_append]
          exact (h1.append hargs).append h2) h
        refine ⟨m', w', nx', ?_, h4, h5⟩
        simp only [resolve, hc, Sem.run_bind, Sem.run_pure, Result.andThen_ok, hre, Deferred.ofValue, invoke]
        exact h3
    · cases h
theorem optO {o : Option Operand} {fr : Fr} {a : Act} {r : Option SV} (hw : WR P m σ w) (hf : FrR m fr a) (h : evOpt P σ fr o = some r) : OVR m r (o.map a.eval) := by
  unfold evOpt at h
  split at h
  · cases h; exact .none
  · split at h
    · rename_i v hv; cases h; exact .some (ev_sound hw hf hv)
    · cases h
theorem fieldAddr_run {s : TypeId} {fs : Array Field} {fd : Field} {f n : Nat} {a : Addr} (hu : P.underlying s = some (.struct fs)) (hf : fs.toList[f]? = some fd) (hs : sz P fd.type = some (n + 1)) :
    (Instr.fieldAt s (.pointer (some a)) f).run P w = .ok (.pointer (some (a.add fd.offset))) w := by
  rw [Array.getElem?_toList] at hf
  unfold Instr.fieldAt
  simp only [Sem.run_bind, run_underlying' hu, Result.andThen_ok, hf, Instr.sureAddr, Sem.run_pure, fieldPlace, sz_run hs]
  rw [Sem.run_ite, if_neg (by omega)]; rfl
theorem sAt_byte {s : ByteArray} {n p k : Nat} (hn : s.size = n) (hp : pk s.data.toList = p) (hk : k < n) : (s.get! k).toNat = p / 256 ^ k % 256 := by
  subst hn hp
  rw [pk_at (l := s.data.toList) (i := k) hk]
  have : s.get! k = s.data.toList[k]'hk := by
    show s.data[k]! = _
    rw [getElem!_pos s.data k hk]; rfl
  rw [this]
/-- Entries of a map, one by one. -/
inductive MEs (m : Mp) : List (SV × SV × Nat) → List MapEntry → Prop
  | nil : MEs m [] []
  | cons {x : SV × SV × Nat} {y : MapEntry} {l l'} (h1 : VR m x.1 y.key) (h2 : VR m x.2.1 y.val) (h3 : x.2.2 = y.born) (h : MEs m l l') : MEs m (x :: l) (y :: l')
theorem MEs.of : ∀ {es : List (SV × SV × Nat)} {ES : List MapEntry}, es.length = ES.length →
    (∀ (i : Nat) x y, es[i]? = some x → ES[i]? = some y → VR m x.1 y.key ∧ VR m x.2.1 y.val ∧ x.2.2 = y.born) → MEs m es ES
  | [], [], _, _ => .nil
  | [], _ :: _, h, _ => by simp at h
  | _ :: _, [], h, _ => by simp at h
  | x :: es, y :: ES, h, he =>
    let ⟨a, b, c⟩ := he 0 x y rfl rfl
    .cons a b c (MEs.of (by simpa using h) fun i u v hu hv => he (i + 1) u v (by simpa using hu) (by simpa using hv))
theorem MEs.filter {p : SV × SV × Nat → Bool} {q : MapEntry → Bool} (hpq : ∀ x y, x.2.2 = y.born → p x = q y) : ∀ {es : List (SV × SV × Nat)} {ES : List MapEntry}, MEs m es ES → MEs m (es.filter p) (ES.filter q)
  | _, _, .nil => .nil
  | _, _, .cons (x := x) (y := y) h1 h2 h3 h => by
    rw [List.filter_cons, List.filter_cons, hpq x y h3]
    split
    · exact .cons h1 h2 h3 (MEs.filter hpq h)
    · exact MEs.filter hpq h
theorem MEs.all {p : SV × SV × Nat → Bool} {q : MapEntry → Bool} (hpq : ∀ x y, x.2.2 = y.born → p x = q y) : ∀ {es : List (SV × SV × Nat)} {ES : List MapEntry}, MEs m es ES → es.all p = ES.all q
  | _, _, .nil => rfl
  | _, _, .cons (x := x) (y := y) h1 h2 h3 h => by rw [List.all_cons, List.all_cons, hpq x y h3, MEs.all hpq h]
theorem MEs.isEmpty {es : List (SV × SV × Nat)} {ES : List MapEntry} : MEs m es ES → es.isEmpty = ES.isEmpty
  | .nil => rfl
  | .cons .. => rfl
theorem MEs.find {s : Nat} {e : SV × SV × Nat} : ∀ {es : List (SV × SV × Nat)} {ES : List MapEntry}, MEs m es ES → findB s es = some e → ∃ y, ES.find? (fun y => y.born == s) = some y ∧ VR m e.1 y.key ∧ VR m e.2.1 y.val
  | _, _, .nil, h => by cases h
  | _, _, .cons (x := x) (y := y) h1 h2 h3 hs, h => by
    unfold findB at h
    split at h
    · rename_i hb
      cases h
      have hb := Nat.eq_of_beq_eq_true hb
      exact ⟨y, by rw [List.find?_cons, show (y.born == s) = true by rw [← h3, hb]; simp], h1, h2⟩
    · rename_i hb
      obtain ⟨z, a, b, c⟩ := MEs.find hs h
      refine ⟨z, ?_, b, c⟩
      rw [List.find?_cons, show (y.born == s) = false by rw [← h3]; exact Bool.eq_false_iff.2 fun e => by rw [eq_of_beq e, Nat.beq_refl] at hb; cases hb]
      exact a
theorem entryS_sound (hw : WR P m σ w) {b : Nat} {im : Im} (hm : m b = some im) {v : SV} (h : entryS σ b = some v) :
    ∃ v', (Instr.entry (.pointer (some ⟨im.blk, im.base + 0, none⟩))).run P w = .ok v' w ∧ VR m v v' := by
  unfold entryS at h
  have hbr := hw.blk _ _ hm
  split at h
  case h_2 => cases h
  rename_i mb since seen last hb
  split at h
  case h_2 => cases h
  rename_i s es clk hsn hmb
  split at h
  case h_2 => cases h
  rename_i e hcl hfd
  cases h
  have hcl := Nat.eq_of_beq_eq_true hcl
  rw [hb] at hbr
  cases hB : w.heap[im.blk]? with
  | none => rw [hB] at hbr; cases hbr
  | some o =>
    rw [hB] at hbr
    cases hbr with | miter hb0 hjm hs =>
    rename_i S jm
    have hgo : (getObj im.blk).run P w = .ok (.mapIter (some jm.blk) since S last) w := by simp [getObj, Sem.run, hB]
    have hmr := hw.blk _ _ hjm
    rw [hmb] at hmr
    cases hM : w.heap[jm.blk]? with
    | none => rw [hM] at hmr; cases hmr
    | some o2 =>
      rw [hM] at hmr
      cases hmr with | map hl he2 =>
      rename_i ES
      have hgm : (getObj jm.blk).run P w = .ok (.map ES clk) w := by simp [getObj, Sem.run, hM]
      have hME : MEs m es ES.toList := MEs.of (by simpa using hl) fun i x y hx hy => he2 i x y hx (by simpa using hy)
      obtain ⟨y, hy, hk, hv⟩ := hME.find hfd
      have hbk : S.back? = some s := by rw [← Array.getLast?_toList, hs, hsn]
      have hfy : ES.find? (fun e => e.born == s) = some y := by rw [← Array.find?_toList]; exact hy
      refine ⟨.tuple #[y.key, y.val], ?_, .tuple (.cons hk (.cons hv .nil))⟩
      simp only [Instr.entry, Sem.run_bind, hb0, Nat.add_zero, hgo, hgm, Result.andThen_ok, hbk]
      rw [Sem.run_ite, if_neg (by rw [hcl]; simp)]
      simp only [hfy]
      rfl
theorem nextM_sound {tp : TypeId} (hw : WR P m σ w) {b : Nat} {im : Im} (hm : m b = some im) {nx : Nx} {σ' : St} (h : nextM σ b = some (nx, σ')) :
    ∃ m' w' v', (Instr.next (.pointer (some ⟨im.blk, im.base + 0, none⟩)) false tp).run P w = .ok v' w' ∧ NxR m' nx (.value v') ∧ Post P m σ w m' σ' w' := by
  unfold nextM at h
  have hbr := hw.blk _ _ hm
  split at h
  · rename_i hb
    cases h
    rw [hb] at hbr
    cases hB : w.heap[im.blk]? with
    | none => rw [hB] at hbr; cases hbr
    | some o =>
      rw [hB] at hbr
      cases hbr with | mnil hb0 =>
      have hgo : (getObj im.blk).run P w = .ok (.mapIter none 0 #[] 0) w := by simp [getObj, Sem.run, hB]
      refine ⟨m, w, .tuple #[.bool false], ?_, .val (.tuple (.cons (.bool _) .nil)), .refl hw⟩
      simp only [Instr.next, Sem.run_bind, hb0, Nat.add_zero, hgo, Result.andThen_ok]
      rfl
  · rename_i mb since seen last hb
    split at h
    case h_2 => cases h
    rename_i es clk hmb
    split at h
    · cases h
    rename_i hg
    rw [hb] at hbr
    cases hB : w.heap[im.blk]? with
    | none => rw [hB] at hbr; cases hbr
    | some o =>
      rw [hB] at hbr
      cases hbr with | miter hb0 hjm hs =>
      rename_i S jm
      have hgo : (getObj im.blk).run P w = .ok (.mapIter (some jm.blk) since S last) w := by simp [getObj, Sem.run, hB]
      have hmr := hw.blk _ _ hjm
      rw [hmb] at hmr
      cases hM : w.heap[jm.blk]? with
      | none => rw [hM] at hmr; cases hmr
      | some o2 =>
        rw [hM] at hmr
        cases hmr with | map hl he2 =>
        rename_i ES
        have hgm : (getObj jm.blk).run P w = .ok (.map ES clk) w := by simp [getObj, Sem.run, hM]
        have hME : MEs m es ES.toList := MEs.of (by simpa using hl) fun i x y hx hy => he2 i x y hx (by simpa using hy)
        have hfl : MEs m (es.filter fun e => !seen.any fun s => Nat.beq s e.2.2) (ES.filter fun e => !S.contains e.born).toList := by
          rw [Array.toList_filter]
          refine hME.filter fun x y hxy => ?_
          rw [hxy, ← hs]
          congr 1
          rw [Bool.eq_iff_iff]
          simp only [List.any_eq_true, Array.contains_iff_mem, Array.mem_toList_iff]
          constructor
          · rintro ⟨s, h1, h2⟩; have := Nat.eq_of_beq_eq_true h2; subst this; exact h1
          · exact fun h1 => ⟨_, h1, Nat.beq_refl _⟩
        have hgd : (!S.isEmpty && !ES.isEmpty && ES.all (·.born ≥ last)) = false := by
          rw [← hg]
          have e1 : S.isEmpty = seen.isEmpty := by rw [← hs]; simp
          have e2 : ES.isEmpty = es.isEmpty := by rw [hME.isEmpty]; simp
          have e3 : ES.all (fun e => decide (e.born ≥ last)) = es.all (fun e => Nat.ble last e.2.2) := by
            rw [← Array.all_toList]
            refine (hME.all fun x y hxy => ?_).symm
            rw [hxy, Bool.eq_iff_iff]; simp
          rw [e1, e2, e3]
        generalize hF : ES.filter (fun e => !S.contains e.born) = F at hfl
        split at h
        · rename_i hf0
          cases h
          rw [hf0] at hfl
          have hF0 : F = #[] := by
            cases hFl : F.toList with
            | nil => exact Array.toList_eq_nil_iff.1 hFl
            | cons _ _ => rw [hFl] at hfl; cases hfl
          refine ⟨m, w, .tuple #[.bool false], ?_, .val (.tuple (.cons (.bool _) .nil)), .refl hw⟩
          simp only [Instr.next, Sem.run_bind, hb0, Nat.add_zero, hgo, hgm, Result.andThen_ok]
          rw [Sem.run_ite, if_neg (by rw [hgd]; simp)]
          simp only [hF, hF0]
          simp [Question.forced]
        · rename_i e hf1
          split at h
          case h_2 => cases h
          rename_i hbo
          have hbo : e.2.2 < since := by simpa using hbo
          cases h
          rw [hf1] at hfl
          obtain ⟨y, hFy, hk, hv, hbn⟩ : ∃ y, F = #[y] ∧ VR m e.1 y.key ∧ VR m e.2.1 y.val ∧ e.2.2 = y.born := by
            cases hFl : F.toList with
            | nil => rw [hFl] at hfl; cases hfl
            | cons y l =>
              rw [hFl] at hfl
              cases hfl with | cons h1 h2 h3 h4 =>
              cases h4
              exact ⟨y, by apply Array.ext'; simpa using hFl, h1, h2, h3⟩
          have hlt : im.blk < w.heap.size := by
            rcases Nat.lt_or_ge im.blk w.heap.size with h | h
            · exact h
            · rw [Array.getElem?_eq_none h] at hB; cases hB
          refine ⟨m, { w with heap := w.heap.setIfInBounds im.blk (.mapIter (some jm.blk) since (S.push y.born) clk) }, .tuple #[.bool true, y.key, y.val], ?_, .val (.tuple (.cons (.bool _) (.cons hk (.cons hv .nil)))),
            Post.put hw hm (by rw [hb]; rfl) _ _ rfl rfl rfl (by simp) (fun B hne => ?_) ?_⟩
          · simp only [Instr.next, Sem.run_bind, hb0, Nat.add_zero, hgo, hgm, Result.andThen_ok]
            rw [Sem.run_ite, if_neg (by rw [hgd]; simp)]
            have hso : (setObj im.blk (.mapIter (some jm.blk) since (S.push y.born) clk)).run P w = .ok () { w with heap := w.heap.setIfInBounds im.blk (.mapIter (some jm.blk) since (S.push y.born) clk) } := by simp [setObj, Sem.run, hB]
            have o1 : (#[y] : Array MapEntry).filter (fun e => decide (e.born < since)) = #[y] := by simp [hbn ▸ hbo]
            have o2 : (#[y] : Array MapEntry).filter (fun e => decide (e.born ≥ since)) = #[] := by simp [hbn ▸ hbo]
            simp only [hF, hFy, o1, o2]
            simp [Question.forced, hso]
          · show (w.heap.setIfInBounds im.blk _)[B]? = _
            rw [Array.getElem?_setIfInBounds, if_neg (Ne.symm hne)]
          · show BR m im _ (w.heap.setIfInBounds im.blk _)[im.blk]?
            rw [Array.getElem?_setIfInBounds_self_of_lt hlt]
            exact .miter hb0 hjm (by rw [Array.toList_push, hs, hbn])
        · cases h
  · cases h
theorem rangeS_sound (hw : WR P m σ w) {t : TypeId} {v : SV} {v' : Value} (hv : VR m v v') {nx : Nx} {σ' : St} (h : rangeS P σ t v = some (nx, σ')) :
    ∃ m' w' r, (Instr.range t v').run P w = .ok r w' ∧ NxR m' nx (.value r) ∧ Post P m σ w m' σ' w' := by
  unfold rangeS at h
  simp only [und_eq] at h
  split at h
  · rename_i hu
    split at h
    case h_3 => cases h
    case h_2 =>
      rename_i l
      split at h
      case h_2 => cases h
      rename_i n hn
      cases h
      obtain ⟨s, rfl, hs⟩ := lenV_lan hv hn
      refine ⟨_, _, .pointer (some ⟨w.heap.size, 0, none⟩), ?_, .val (.ptr (im := ⟨w.heap.size, 0, 0⟩) (upd_same ..)), Post.new hw (.lsit l n 0) (.stringIter s 0) 0 (.lsit rfl hv hs)⟩
      simp [Instr.range, run_underlying' hu]
    rename_i n p
    cases h
    cases hv with | str hn hp =>
    rename_i s
    refine ⟨_, _, .pointer (some ⟨w.heap.size, 0, none⟩), ?_, .val (.ptr (im := ⟨w.heap.size, 0, 0⟩) (upd_same ..)), Post.new hw (.siter n p 0) (.stringIter s 0) 0 (.siter rfl hn hp)⟩
    simp [Instr.range, run_underlying' hu]
  · rename_i u1 u2 hu
    split at h
    · cases h
      cases hv
      refine ⟨_, _, .pointer (some ⟨w.heap.size, 0, none⟩), ?_, .val (.ptr (im := ⟨w.heap.size, 0, 0⟩) (upd_same ..)), Post.new hw .mnil (.mapIter none 0 #[] 0) 0 (.mnil rfl)⟩
      simp [Instr.range, run_underlying' hu]
    · rename_i b
      cases hv with | map hm =>
      rename_i im
      split at h
      case h_2 => cases h
      rename_i es clk hb
      cases h
      have hbr := hw.blk _ _ hm
      rw [hb] at hbr
      cases hB : w.heap[im.blk]? with
      | none => rw [hB] at hbr; cases hbr
      | some o =>
        rw [hB] at hbr
        cases hbr with | map hl he2 =>
        rename_i ES
        have hgo : (getObj im.blk).run P w = .ok (.map ES clk) w := by simp [getObj, Sem.run, hB]
        refine ⟨_, _, .pointer (some ⟨w.heap.size, 0, none⟩), ?_, .val (.ptr (im := ⟨w.heap.size, 0, 0⟩) (upd_same ..)), Post.new hw (.miter b clk [] clk) (.mapIter (some im.blk) clk #[] clk) 0 (.miter rfl hm rfl)⟩
        simp [Instr.range, run_underlying' hu, hgo]
    · cases h
  · cases h
/-- One operation here and in the machine. -/
theorem op_sound (hx : ExtOk P) (hw : WR P m σ w) {fr : Fr} {a : Act} (hf : FrR m fr a) {o : Oper} {nx : Nx} {σ' : St} (h : evalOp P σ fr o.op = some (nx, σ')) :
    OpOk P m σ w (execOp a.eval o) nx σ' := by
  obtain ⟨dst, op, type, pos, after, guard⟩ := o
  simp only at h
  cases op <;> simp only [evalOp, und_eq, inf_eq, fnc_eq] at h
  case move x =>
    cases hv : ev P σ fr x with
    | none => rw [hv] at h; cases h
    | some v => rw [hv] at h; cases h; exact ⟨m, w, _, rfl, .val (ev_sound hw hf hv), .refl hw⟩
  case assign x =>
    cases hv : ev P σ fr x with
    | none => rw [hv] at h; cases h
    | some v => rw [hv] at h; cases h; exact ⟨m, w, _, rfl, .val (ev_sound hw hf hv), .refl hw⟩
  case pick c x y =>
    split at h
    · rename_i hc
      have hcv := ev_sound hw hf hc
      generalize hce : a.eval c = cv at hcv
      cases hcv
      cases hv : ev P σ fr x with
      | none => rw [hv] at h; cases h
      | some v => rw [hv] at h; cases h; exact ⟨m, w, .value (a.eval x), by simp [execOp, hce, asBool], .val (ev_sound hw hf hv), .refl hw⟩
    · rename_i hc
      have hcv := ev_sound hw hf hc
      generalize hce : a.eval c = cv at hcv
      cases hcv
      cases hv : ev P σ fr y with
      | none => rw [hv] at h; cases h
      | some v => rw [hv] at h; cases h; exact ⟨m, w, .value (a.eval y), by simp [execOp, hce, asBool], .val (ev_sound hw hf hv), .refl hw⟩
    · cases h
  case alloc e =>
    split at h
    case h_2 => cases h
    rename_i z hz
    obtain ⟨i, z', _, _, hv, hrun⟩ := zeroV_sound (m := m) (w := w) hz
    cases hn : newC σ e z.cells with
    | none => rw [hn] at h; cases h
    | some p =>
      rw [hn] at h; cases h
      obtain ⟨m', hp, hm'⟩ := newC_sound hw hn hv.cells
      exact ⟨m', _, .value (.pointer (some ⟨w.heap.size, 0, none⟩)), by simp [execOp, Instr.alloc, hrun, newVar, newRow], .val (.ptr hm'), hp⟩
  case box e x =>
    split at h
    case h_2 => cases h
    rename_i v hv
    cases hn : newC σ e v.cells with
    | none => rw [hn] at h; cases h
    | some p =>
      rw [hn] at h; cases h
      obtain ⟨m', hp, hm'⟩ := newC_sound hw hn (ev_sound hw hf hv).cells
      exact ⟨m', _, .value (.pointer (some ⟨w.heap.size, 0, none⟩)), by simp [execOp, Instr.box, newVar, newRow], .val (.ptr hm'), hp⟩
  case build t ps =>
    split at h
    case h_2 => cases h
    rename_i l hl
    exact OpOk_val hw h fun v hv => buildV_sound (evP_sound hw hf hl).arr hv
  case buildSlice t n ps =>
    split at h
    case h_2 => cases h
    rename_i l e hl hu
    split at h
    case h_2 => cases h
    rename_i s z hs hz
    split at h
    case h_2 => cases h
    rename_i cs b1 b2 hfill
    cases hn : newC σ e cs with
    | none => rw [hn] at h; cases h
    | some p =>
      rw [hn] at h; cases h
      obtain ⟨m', w', v', h1, h2, h3⟩ := buildSlice_sound hw (evP_sound hw hf hl).arr hu hs hz (Nat.eq_of_beq_eq_true b1) (Nat.le_of_ble_eq_true b2) hfill hn
      exact ⟨m', w', .value v', by simp [execOp, h1], .val h2, h3⟩
  case load t x =>
    split at h
    · rename_i b off hb
      obtain ⟨im, he, hm⟩ := (ev_sound hw hf hb).ptr_inv
      exact OpOk_val hw h fun v hv => by
        obtain ⟨v', h1, h2⟩ := loadV_sound hw hv hm
        exact ⟨v', by simp [Instr.loadAt, he, Instr.sureAddr, h2], h1⟩
    · rename_i ad hb
      have hv0 := ev_sound hw hf hb
      generalize he : a.eval x = u at hv0
      cases hv0 with | opq =>
      exact OpOk_val hw h fun v hv => by
        obtain ⟨v', h1, h2⟩ := loadG_sound hw hv
        exact ⟨v', by simp [Instr.loadAt, he, Instr.sureAddr, h2], h1⟩
    · cases h
  case store t x y =>
    split at h
    case h_2 => cases h
    rename_i b off v hb hv
    obtain ⟨im, he, hm⟩ := (ev_sound hw hf hb).ptr_inv
    exact OpOk_stu h fun σ1 hs => by
      obtain ⟨w', h1, h2⟩ := storeV_sound hw hs hm (ev_sound hw hf hv)
      exact ⟨w', by simp [Instr.storeAt, he, Instr.sureAddr, h1], h2⟩
  case nilCheck x =>
    cases hv : ev P σ fr x with
    | none => rw [hv] at h; cases h
    | some v =>
      have hr := ev_sound hw hf hv
      generalize hre : a.eval x = rv at hr
      have fin : ∀ {u : SV} {u' : Value}, VR m u u' → val (some u) σ = some (nx, σ') → (execOp a.eval ⟨dst, .nilCheck x, type, pos, after, guard⟩).run P w = .ok (.value u') w → OpOk P m σ w (execOp a.eval ⟨dst, .nilCheck x, type, pos, after, guard⟩) nx σ' := by
        intro u u' hu hh hrun
        cases hh
        exact ⟨m, w, _, hrun, .val hu, .refl hw⟩
      rw [hv] at h
      cases hr <;> first
        | (cases h; done)
        | (refine fin (by assumption) h (by simp [execOp, hre]))
        | skip
      all_goals first
        | exact fin (.bool _) h (by simp [execOp, hre])
        | exact fin (.int ..) h (by simp [execOp, hre])
        | exact fin (.str ‹_› ‹_›) h (by simp [execOp, hre])
        | exact fin (.ptr ‹_›) h (by simp [execOp, hre])
        | exact fin .nilSlice h (by simp [execOp, hre])
        | exact fin (.sliceEx ‹_› ‹_› ‹_› ‹_› ‹_›) h (by simp [execOp, hre])
        | exact fin (.sliceOp ‹_› ‹_› ‹_› ‹_› ‹_› ‹_› ‹_›) h (by simp [execOp, hre])
        | exact fin .nilMap h (by simp [execOp, hre])
        | exact fin (.map ‹_›) h (by simp [execOp, hre])
        | exact fin (.iface ‹_›) h (by simp [execOp, hre])
        | exact fin (.agg ‹_›) h (by simp [execOp, hre])
        | exact fin (.tuple ‹_›) h (by simp [execOp, hre])
        | exact fin (.opq _) h (by simp [execOp, hre])
        | exact fin (.low ‹_›) h (by simp [execOp, hre])
        | (rename_i t0 v0; exact fin (VR.anyI (t := t0) (v' := v0)) h (by simp [execOp, hre]))
        | exact fin (.res _) h (by simp [execOp, hre])
        | exact fin (.lanI ‹_›) h (by simp [execOp, hre])
        | exact fin (.lanS ‹_› ‹_› ‹_›) h (by simp [execOp, hre])
        | exact fin (.resl ‹_›) h (by simp [execOp, hre])
        | exact fin (.rng ‹_› ‹_› ‹_›) h (by simp [execOp, hre])
        | skip
      rename_i fn f1 c1 f2 c2 hf1 hc1
      cases fn <;> first
        | exact fin (.func ‹_› ‹_›) h (by simp [execOp, hre])
        | skip
      rename_i name
      dsimp only at h
      split at h
      case h_2 => cases h
      rename_i t u l
      split at h
      case h_2 => cases h
      rename_i r hr
      obtain ⟨f0, r0⟩ := r
      obtain ⟨n, hn⟩ : ∃ n, P.types.size + Made.depth = n + 1 := ⟨P.types.size + Made.depth - 1, by have : 0 < Made.depth := by decide
                                                                                                    omega⟩
      cases f2 with | mk l2 =>
      cases hf1 with | cons h1 h2 =>
      cases h1 with | iface h1 =>
      rename_i u'
      refine fin (.func (f' := ⟨_⟩) (.cons (.iface h1) h2) hc1) h ?_
      have := nilAhead_sound (n := n) (w := w) h1 hr
      simp [execOp, hre, hn, this]
  case binOp op t x y yt =>
    split at h
    case h_2 => cases h
    rename_i u v hu hv
    exact OpOk_val hw h fun r hr => binL_sound hw (ev_sound hw hf hu) (ev_sound hw hf hv) hr
  case unOp op t x =>
    split at h
    case h_2 => cases h
    rename_i u hu
    exact OpOk_val hw h fun r hr => unL_sound (ev_sound hw hf hu) hr
  case convert s d x =>
    split at h
    case h_2 => cases h
    rename_i u hu
    exact OpOk_vst h fun r σ1 hr => convL_sound hw (ev_sound hw hf hu) hr
  case makeInterface t x =>
    split at h
    · cases h
    · rename_i d v hne hd hv
      cases h
      refine ⟨m, w, .value (.iface t (a.eval x)), ?_, .val (.iface (ev_sound hw hf hv)), .refl hw⟩
      have : (Instr.makeInterface t (a.eval x)).run P w = .ok (.iface t (a.eval x)) w := by
        unfold Instr.makeInterface
        rw [Sem.run_bind, run_underlying' hd, Result.andThen_ok]
        cases d <;> first
          | rfl
          | exact (hne _ rfl).elim
      simp [execOp, this]
    · cases h
  case makeFunc f x y =>
    split at h
    case h_2 => cases h
    rename_i u v hu hv
    cases h
    exact ⟨m, w, _, rfl, .val (.func (evL_sound hw hf hu).arr (evL_sound hw hf hv).arr), .refl hw⟩
  case makeMap t r =>
    cases r with
    | some r => cases h
    | none =>
      cases h
      refine ⟨_, _, .value (.map (some w.heap.size)), by simp [execOp, Instr.makeMap], .val (.map (im := ⟨w.heap.size, 0, 0⟩) (upd_same ..)), Post.new hw (.map [] 0) (.map #[] 0) 0 (.map rfl (fun i x y hx => by simp at hx))⟩
  case range t x =>
    split at h
    case h_2 => cases h
    rename_i v hx'
    obtain ⟨m', w', v', h1, h2, h3⟩ := rangeS_sound hw (ev_sound hw hf hx') h
    exact ⟨m', w', .value v', by simp only [execOp, Sem.run_bind, h1, Result.andThen_ok, Sem.run_pure], h2, h3⟩
  case next x is =>
    cases is with
    | false =>
      dsimp only at h
      split at h
      case h_2 => cases h
      rename_i b hx'
      have hv := ev_sound hw hf hx'
      generalize he : a.eval x = u at hv
      obtain ⟨im, rfl, hm⟩ := hv.ptr_inv
      obtain ⟨m', w', v', h1, h2, h3⟩ := nextM_sound (tp := type) hw hm h
      refine ⟨m', w', .value v', ?_, h2, h3⟩
      simp only [execOp, he, Sem.run_bind, h1, Result.andThen_ok, Sem.run_pure]
    | true =>
      dsimp only at h
      split at h
      case h_2 => cases h
      rename_i b hx'
      simp only [nextT] at h
      split at h
      case h_3 => cases h
      case h_2 =>
       rename_i l n k hb
       have hv := ev_sound hw hf hx'
       generalize he : a.eval x = u at hv
       obtain ⟨im, rfl, hm⟩ := hv.ptr_inv
       have hbr := hw.blk _ _ hm
       rw [hb] at hbr
       cases hB : w.heap[im.blk]? with
       | none => rw [hB] at hbr; cases hbr
       | some o =>
         rw [hB] at hbr
         cases hbr with | lsit hb0 hls hn =>
         rename_i s
         have hgo : (getObj im.blk).run P w = .ok (.stringIter s k) w := by simp [getObj, Sem.run, hB]
         split at h
         · rename_i hk
           have hk : k < n := by simpa using hk
           split at h
           case h_2 => cases h
           rename_i r hr
           cases h
           obtain ⟨kk, u0, hkk, hf, hwd, hla⟩ := lanes_ok hr (.cons hls .nil)
           obtain ⟨a1, rfl, ha1⟩ := hkk.one_inv
           unfold runeAt at hf
           split at hf
           case h_2 => cases hf
           rename_i n0 p e
           cases e
           split at hf
           case h_2 => cases hf
           rename_i b1 hc
           have b1 := Nat.eq_of_beq_eq_true b1
           subst b1
           have hc : p / 256 ^ k % 256 < 128 := by simpa using hc
           cases hf
           obtain ⟨hn', hp⟩ : s.size = n0 ∧ pk s.data.toList = p := by
             cases ha1 with
             | str h1 h2 => exact ⟨h1, h2⟩
           have hat : k < n0 → (s.get! k).toNat = p / 256 ^ k % 256 := fun hk => sAt_byte hn hp hk
           have hlt : im.blk < w.heap.size := by
             rcases Nat.lt_or_ge im.blk w.heap.size with h | h
             · exact h
             · rw [Array.getElem?_eq_none h] at hB; cases hB
           have hdec : Utf8.decode s k = (p / 256 ^ k % 256, 1) := by
             unfold Utf8.decode
             simp only [Nat.add_zero, hat hk]
             rw [if_pos hc]
           refine ⟨m, { w with heap := w.heap.setIfInBounds im.blk (.stringIter s (k + 1)) }, .value (.tuple #[.bool true, .int .i64 (.ofNat k), .int .i32 (.ofNat (p / 256 ^ k % 256))]), ?_, .val (.tuple (.cons (.bool _) (.cons (.int ..) (.cons (hwd _ _ (.int ..)) .nil)))),
             Post.put hw hm (by rw [hb]; rfl) _ _ rfl rfl rfl (by simp) (fun B hne => ?_) ?_⟩
           · simp only [execOp, he, Instr.next, Sem.run_bind, hb0, Nat.add_zero, hgo, Result.andThen_ok, hn, hk, if_true, hdec, Sem.run_ite]
             have hso : (setObj im.blk (.stringIter s (k + 1))).run P w = .ok () { w with heap := w.heap.setIfInBounds im.blk (.stringIter s (k + 1)) } := by simp [setObj, Sem.run, hB]
             simp only [hso, Result.andThen_ok]
             rfl
           · show (w.heap.setIfInBounds im.blk _)[B]? = _
             rw [Array.getElem?_setIfInBounds, if_neg (Ne.symm hne)]
           · show BR m im _ (w.heap.setIfInBounds im.blk _)[im.blk]?
             rw [Array.getElem?_setIfInBounds_self_of_lt hlt]
             exact .lsit hb0 hls hn
         · rename_i hk
           have hk : ¬ k < n := fun h => by
             have : Nat.blt k n = true := by simpa using h
             rw [this] at hk; cases hk
           cases h
           refine ⟨m, w, .value (.tuple #[.bool false]), ?_, .val (.tuple (.cons (.bool _) .nil)), .refl hw⟩
           simp only [execOp, he, Instr.next, Sem.run_bind, hb0, Nat.add_zero, hgo, Result.andThen_ok, hn, hk, if_false, Sem.run_ite]
           rfl
      rename_i n p k hb
      have hv := ev_sound hw hf hx'
      generalize he : a.eval x = u at hv
      obtain ⟨im, rfl, hm⟩ := hv.ptr_inv
      have hbr := hw.blk _ _ hm
      rw [hb] at hbr
      cases hB : w.heap[im.blk]? with
      | none => rw [hB] at hbr; cases hbr
      | some o =>
        rw [hB] at hbr
        cases hbr with | siter hb0 hn hp =>
        rename_i s
        have hgo : (getObj im.blk).run P w = .ok (.stringIter s k) w := by simp [getObj, Sem.run, hB]
        have hat : k < n → (s.get! k).toNat = p / 256 ^ k % 256 := fun hk => by
          have := sAt_byte hn hp hk
          exact this
        split at h
        · rename_i hk
          have hk : k < n := by simpa using hk
          split at h
          case h_2 => cases h
          rename_i hc
          have hc : p / 256 ^ k % 256 < 128 := by simpa using hc
          cases h
          have hlt : im.blk < w.heap.size := by
            rcases Nat.lt_or_ge im.blk w.heap.size with h | h
            · exact h
            · rw [Array.getElem?_eq_none h] at hB; cases hB
          have hdec : Utf8.decode s k = (p / 256 ^ k % 256, 1) := by
            unfold Utf8.decode
            simp only [Nat.add_zero, hat hk]
            rw [if_pos hc]
          refine ⟨m, { w with heap := w.heap.setIfInBounds im.blk (.stringIter s (k + 1)) }, .value (.tuple #[.bool true, .int .i64 (.ofNat k), .int .i32 (.ofNat (p / 256 ^ k % 256))]), ?_, .val (.tuple (.cons (.bool _) (.cons (.int ..) (.cons (.int ..) .nil)))),
            Post.put hw hm (by rw [hb]; rfl) _ _ rfl rfl rfl (by simp) (fun B hne => ?_) ?_⟩
          · simp only [execOp, he, Instr.next, Sem.run_bind, hb0, Nat.add_zero, hgo, Result.andThen_ok, hn, hk, if_true, hdec, Sem.run_ite]
            have hso : (setObj im.blk (.stringIter s (k + 1))).run P w = .ok () { w with heap := w.heap.setIfInBounds im.blk (.stringIter s (k + 1)) } := by simp [setObj, Sem.run, hB]
            simp only [hso, Result.andThen_ok]
            rfl
          · show (w.heap.setIfInBounds im.blk _)[B]? = _
            rw [Array.getElem?_setIfInBounds, if_neg (Ne.symm hne)]
          · show BR m im _ (w.heap.setIfInBounds im.blk _)[im.blk]?
            rw [Array.getElem?_setIfInBounds_self_of_lt hlt]
            exact .siter hb0 hn hp
        · rename_i hk
          have hk : ¬ k < n := fun h => by
            have : Nat.blt k n = true := by simpa using h
            rw [this] at hk; cases hk
          cases h
          refine ⟨m, w, .value (.tuple #[.bool false]), ?_, .val (.tuple (.cons (.bool _) .nil)), .refl hw⟩
          simp only [execOp, he, Instr.next, Sem.run_bind, hb0, Nat.add_zero, hgo, Result.andThen_ok, hn, hk, if_false, Sem.run_ite]
          rfl
  case entry x =>
    split at h
    case h_2 => cases h
    rename_i b hx'
    have hv := ev_sound hw hf hx'
    generalize he : a.eval x = u at hv
    obtain ⟨im, rfl, hm⟩ := hv.ptr_inv
    exact OpOk_val hw h fun v hv => by
      obtain ⟨v', h1, h2⟩ := entryS_sound hw hm hv
      exact ⟨v', by rw [he]; exact h1, h2⟩
  case makeSlice t l c =>
    split at h
    case h_2 => cases h
    rename_i e lk l0 ck c0 hu hl hc
    split at h
    case h_2 => cases h
    rename_i s z hs hz b1 b2 b3
    split at h
    case h_2 => cases h
    rename_i b σ1 b4 hn
    cases h
    have hlr := ev_sound hw hf hl
    have hcr := ev_sound hw hf hc
    generalize hle : a.eval l = lv at hlr
    generalize hce : a.eval c = cv at hcr
    cases hlr; cases hcr
    obtain ⟨m', w', v', h1, h2, h3⟩ := makeSlice_sound (lk := lk) (ck := ck) hw hu hs hz (Nat.le_of_ble_eq_true b1) (Nat.le_of_ble_eq_true b2) (Nat.le_of_ble_eq_true b3) (Nat.eq_of_beq_eq_true b4) hn
    exact ⟨m', w', .value v', by simp only [execOp, hle, hce, Sem.run_bind, h1, Result.andThen_ok]; rfl, .val h2, h3⟩
  case slice t x lo hi mx =>
    cases mx with
    | some y =>
      dsimp only at h
      split at h
      case h_2 => cases h
      rename_i v l hh n hv hl hhi hn
      have hh2 := optO hw hf hhi
      refine OpOk_val hw h fun r hr => ?_
      cases hi with
      | none => cases hh2
      | some hi =>
        cases hh2 with | some hh3 =>
        exact cut3_sound (ev_sound hw hf hv) (optO hw hf hl) hh3 (ev_sound hw hf hn) hr
    | none =>
      dsimp only at h
      split at h
      case h_2 => cases h
      rename_i v l hh hv hl hhi
      exact OpOk_val hw h fun r hr => cutL_sound hw (ev_sound hw hf hv) (optO hw hf hl) (optO hw hf hhi) hr
  case fieldAddr s x f =>
    split at h
    · rename_i fs b off hu hb
      obtain ⟨im, he, hm⟩ := (ev_sound hw hf hb).ptr_inv
      split at h
      case h_2 => cases h
      rename_i fd hfd
      split at h
      case h_2 => cases h
      rename_i n hs
      cases h
      refine ⟨m, w, .value (.pointer (some ⟨im.blk, im.base + (off + fd.offset), none⟩)), ?_, .val (.ptr hm), .refl hw⟩
      simp [execOp, he, fieldAddr_run hu hfd hs, Addr.add_none, Nat.add_assoc]
    · rename_i fs ad hu hb
      have hv0 := ev_sound hw hf hb
      generalize he : a.eval x = u at hv0
      cases hv0 with | opq =>
      split at h
      case h_2 => cases h
      rename_i fd hfd
      split at h
      case h_2 => cases h
      rename_i n hs
      cases h
      refine ⟨m, w, .value (.pointer (some (ad.add fd.offset))), ?_, .val (.opq _), .refl hw⟩
      simp [execOp, he, fieldAddr_run hu hfd hs]
    · cases h
  case field t x f =>
    split at h
    case h_2 => cases h
    rename_i fs cs hu hcs
    have hr := ev_sound hw hf hcs
    generalize hre : a.eval x = rv at hr
    cases hr with
    | agg hl =>
      split at h
      case h_2 => cases h
      rename_i fd hfd
      rw [Array.getElem?_toList] at hfd
      have run1 : ∀ {cs' : Array Value} {v' : Value}, a.eval x = .agg cs' → (part fd.type cs' fd.offset).run P w = .ok v' w → (execOp a.eval ⟨dst, .field t x f, type, pos, after, guard⟩).run P w = .ok (.value v') w := by
        intro cs' v' he hp
        simp [execOp, Instr.field, he, run_underlying' hu, hfd, asAgg, hp]
      split at h
      · rename_i n ha hs
        cases h
        obtain ⟨v', h1, h2⟩ := (part_sound (w := w) (o := fd.offset) hl ha hs).1 rfl
        exact ⟨m, w, .value v', run1 hre h1, .val h2, .refl hw⟩
      · rename_i ha
        cases hv : cs[fd.offset]? with
        | none => rw [hv] at h; cases h
        | some v =>
          rw [hv] at h; cases h
          obtain ⟨v', hv', hr⟩ := hl.get _ _ hv
          rw [Array.getElem?_toList] at hv'
          exact ⟨m, w, .value v', run1 hre (by simp [part, isAg_run ha, hv']), .val hr, .refl hw⟩
      · cases h
  case indexAddr t x i =>
    split at h
    · rename_i e b off len cap k i0 hu hx hi
      split at h
      case h_2 => cases h
      rename_i s b1 hs
      have b1 : i0 < len := Nat.le_of_ble_eq_true b1
      cases h
      have hir := ev_sound hw hf hi
      generalize hie : a.eval i = iv at hir
      cases hir
      have hxr := ev_sound hw hf hx
      have key : ∃ im ad c, a.eval x = .slice (some ad) len c ∧ m b = some im ∧ ad.block = im.blk ∧ ad.spot = none ∧ (c ≠ 0 → ad.off = im.base + off) ∧ len ≤ c := by
        cases cap with
        | ex c => obtain ⟨im, a, e, h1, h2, h3, h4, h5⟩ := hxr.ex_inv; exact ⟨im, a, c, e, h1, h2, h3, h4, h5⟩
        | op sz => obtain ⟨im, a, c, e, h1, h2, h3, h4, h5, _⟩ := hxr.op_inv; exact ⟨im, a, c, e, h1, h2, h3, h4, h5⟩
      obtain ⟨im, ad, c, he, hm, ha, hsp, hc, hle⟩ := key
      have : ad = ⟨im.blk, im.base + off, none⟩ := by cases ad; simp at ha hsp hc ⊢; exact ⟨ha, hc (by omega), hsp⟩
      subst this
      refine ⟨m, w, .value (.pointer (some ⟨im.blk, im.base + (off + i0 * s), none⟩)), ?_, .val (.ptr hm), .refl hw⟩
      simp only [execOp, Instr.indexAt, he, hie, asIntOf, Sem.run_bind, Sem.run_pure, Result.andThen_ok, run_underlying' hu]
      rw [Sem.run_ite, if_pos ⟨by simp, by simp; omega⟩]
      simp [sz_run hs, Addr.add_none, Nat.add_assoc]
    · rename_i len e b off k i0 hu hx hi
      split at h
      case h_2 => cases h
      rename_i s b1 hs
      have b1 : i0 < len := Nat.le_of_ble_eq_true b1
      cases h
      have hir := ev_sound hw hf hi
      generalize hie : a.eval i = iv at hir
      cases hir
      obtain ⟨im, he, hm⟩ := (ev_sound hw hf hx).ptr_inv
      refine ⟨m, w, .value (.pointer (some ⟨im.blk, im.base + (off + i0 * s), none⟩)), ?_, .val (.ptr hm), .refl hw⟩
      simp only [execOp, Instr.indexAt, he, hie, asIntOf, Sem.run_bind, Sem.run_pure, Result.andThen_ok, run_underlying' hu, Instr.sureAddr]
      rw [Sem.run_ite, if_pos ⟨by simp, by simp; omega⟩]
      simp [sz_run hs, Addr.add_none, Nat.add_assoc]
    · rename_i len e ad k i0 hu hx hi
      split at h
      case h_2 => cases h
      rename_i s b1 hs
      have b1 : i0 < len := Nat.le_of_ble_eq_true b1
      cases h
      have hir := ev_sound hw hf hi
      generalize hie : a.eval i = iv at hir
      cases hir
      have hv0 := ev_sound hw hf hx
      generalize he : a.eval x = u at hv0
      cases hv0 with | opq =>
      refine ⟨m, w, .value (.pointer (some (ad.add (i0 * s)))), ?_, .val (.opq _), .refl hw⟩
      simp only [execOp, Instr.indexAt, he, hie, asIntOf, Sem.run_bind, Sem.run_pure, Result.andThen_ok, run_underlying' hu, Instr.sureAddr]
      rw [Sem.run_ite, if_pos ⟨by simp, by simp; omega⟩]
      simp [sz_run hs]
    · cases h
  case index t x i =>
    split at h
    · rename_i n p k i0 hu hx hi
      have hir := ev_sound hw hf hi
      generalize hie : a.eval i = iv at hir
      cases hir
      have hxr := ev_sound hw hf hx
      generalize hxe : a.eval x = xv at hxr
      cases hxr
      rename_i hn hp
      exact OpOk_val hw h fun r hr => by
        rw [hie, hxe]
        exact sAt_sound P w m hn hp hu hr
    · rename_i x0 i0 n1 hu hx hi
      have hir := ev_sound hw hf hi
      have hxr := ev_sound hw hf hx
      exact OpOk_val hw h fun r hr => by
        obtain ⟨kk, u0, hk, hf2, hwd, -⟩ := lanes_ok hr (.cons hxr (.cons hir .nil))
        obtain ⟨a1, b1, rfl, ha, hb⟩ := hk.two_inv
        unfold atF at hf2
        split at hf2
        case h_2 => cases hf2
        rename_i n p k i1 e
        cases e
        generalize a.eval i = iv at hb
        generalize a.eval x = xv at ha
        cases ha with | str hn hp =>
        cases hb
        obtain ⟨v', h1, h2⟩ := sAt_sound P w m hn hp hu hf2
        exact ⟨v', h1, hwd _ _ h2⟩
    · rename_i len e cs k i0 hu hx hi
      have hir := ev_sound hw hf hi
      generalize hie : a.eval i = iv at hir
      cases hir
      have hxr := ev_sound hw hf hx
      generalize hxe : a.eval x = xv at hxr
      cases hxr with
      | agg hl =>
        have run1 : ∀ {cs' : Array Value} {v' : Value} {s : Nat}, i0 < len → sz P e = some s → a.eval x = .agg cs' → (part e cs' (i0 * s)).run P w = .ok v' w → (execOp a.eval ⟨dst, .index t x i, type, pos, after, guard⟩).run P w = .ok (.value v') w := by
          intro cs' v' s hlt hs he hp
          have hc : (0 : Int) ≤ Int.ofNat i0 ∧ Int.ofNat i0 < (len : Int) := ⟨by simp, by simp; omega⟩
          simp only [execOp, Instr.index, he, hie, asIntOf, Sem.run_bind, Sem.run_pure, Result.andThen_ok, run_underlying' hu]
          rw [Sem.run_ite, if_pos hc]
          simp [sz_run hs, hp]
        split at h
        · rename_i s b1 ha hs
          have b1 : i0 < len := Nat.le_of_ble_eq_true b1
          cases h
          obtain ⟨v', h1, h2⟩ := (part_sound (w := w) (o := i0 * s) hl ha hs).1 rfl
          exact ⟨m, w, .value v', run1 b1 hs hxe h1, .val h2, .refl hw⟩
        · rename_i s b1 ha hs
          have b1 : i0 < len := Nat.le_of_ble_eq_true b1
          cases hv : cs[i0 * s]? with
          | none => rw [hv] at h; cases h
          | some v =>
            rw [hv] at h; cases h
            obtain ⟨v', hv', hr⟩ := hl.get _ _ hv
            rw [Array.getElem?_toList] at hv'
            exact ⟨m, w, .value v', run1 b1 hs hxe (by simp [part, isAg_run ha, hv']), .val hr, .refl hw⟩
        · cases h
    · cases h
  case lookup t x k ok =>
    split at h
    case h_2 => cases h
    rename_i u v hu hv
    exact OpOk_val hw h fun r hr => lookupS_sound hw (ev_sound hw hf hu) (ev_sound hw hf hv) hr
  case mapUpdate t mm k x =>
    split at h
    case h_2 => cases h
    rename_i u v y hu hv hy
    exact OpOk_stu h fun σ1 hs => updateS_sound hw (ev_sound hw hf hu) (ev_sound hw hf hv) (ev_sound hw hf hy) hs
  case typeAssert x xt t ok =>
    split at h
    case h_2 => cases h
    rename_i u hu
    exact OpOk_val hw h fun r hr => assertS_sound (ev_sound hw hf hu) hr
  case extract x i =>
    split at h
    case h_2 => cases h
    rename_i l hl
    have hr := ev_sound hw hf hl
    generalize hre : a.eval x = rv at hr
    cases hr with
    | tuple hl =>
      cases hv : l[i]? with
      | none => rw [hv] at h; cases h
      | some v =>
        rw [hv] at h; cases h
        obtain ⟨v', hv', hrr⟩ := hl.get _ _ hv
        rw [Array.getElem?_toList] at hv'
        exact ⟨m, w, .value v', by simp [execOp, hre, Instr.extract, hv'], .val hrr, .refl hw⟩
  case call c => exact call_sound hx hw hf h
  case defer c =>
    split at h
    case h_2 => cases h
    rename_i f args hc ha
    split at h
    case h_2 => cases h
    rename_i g first captured hr
    cases h
    have hargs := (evL_sound hw hf ha).arr
    have hrv := ev_sound hw hf hr
    generalize hre : a.eval f = rv at hrv
    cases hrv with
    | func h1 h2 =>
      rename_i f' c'
      refine ⟨m, w, .defer { target := .fn (.func g) c', args := f' ++ c.args.map a.eval }, ?_, .defer (.mk h2 (by rw [Array.toList_append]; exact h1.append hargs)), .refl hw⟩
      simp only [execOp, resolve, hc, hre, Deferred.ofValue, Sem.run_bind, Sem.run_pure, Result.andThen_ok]
  all_goals cases h
/-- What panics here panics in the machine. -/
theorem pansOp_sound (hw : WR P m σ w) {fr : Fr} {a : Act} (hf : FrR m fr a) {o : Oper} (h : pansOp P σ fr o.op = true) : ∃ t v w', (execOp a.eval o).run P w = .halt (.panic (.iface t v)) w' ∧ Post P m σ w m σ w' := by
  obtain ⟨dst, op, type, pos, after, guard⟩ := o
  simp only at h
  unfold pansOp at h
  split at h
  · rename_i c
    split at h
    · rename_i r name hc
      split at h
      · rename_i hr
        have hv := ev_sound hw hf hr
        generalize hre : a.eval r = rv at hv
        cases hv
        refine ⟨P.rt.errorString, strVal "invalid memory address or nil pointer dereference", w, ?_, .refl hw⟩
        show (do let d ← resolve a.eval c type; invoke d.target d.args : Sem Next).run P w = _
        simp only [resolve, hc, Sem.run_bind, Sem.run_pure, Result.andThen_ok, invoke, hre]
        have e0 : (#[Value.nilIface] ++ c.args.map a.eval)[0]? = some .nilIface := by rw [← Array.getElem?_toList, Array.toList_append]; rfl
        simp only [e0, callMethod, runtimePanic, goPanic, Sem.run_bind, run_program, Result.andThen_ok]
        rfl
      · cases h
    · cases h
  · rename_i x
    split at h
    · rename_i t v hx
      have hv := ev_sound hw hf hx
      generalize hre : a.eval x = rv at hv
      cases hv with | iface hv =>
      rename_i v'
      refine ⟨t, v', w, ?_, .refl hw⟩
      show (do pure (Next.value (← Instr.panic (a.eval x))) : Sem Next).run P w = _
      rw [hre]
      simp only [Instr.panic, goPanic, Sem.run_bind]
      rfl
    · cases h
  · rename_i t x io
    try simp only [und_eq] at h
    split at h
    case h_2 => cases h
    rename_i e hu
    split at h
    case h_2 => cases h
    rename_i b off len cap i hxv hiv
    simp only [Bool.and_eq_true] at h
    have h1 := Nat.le_of_ble_eq_true h.1
    have h2 := Nat.le_of_ble_eq_true h.2
    have hvx := ev_sound hw hf hxv
    have hvi := ev_sound hw hf hiv
    generalize hxe : a.eval x = xv at hvx
    generalize hie : a.eval io = iv at hvi
    cases hvi
    obtain ⟨im, ad, c, rfl, _⟩ := hvx.slice_inv
    have hb : ∀ s, (runtimePanic (.bounds (IntKind.i64.wrap (Int.ofNat i)) len s .index) : Sem Value).run P w.drew = .halt (.panic (.iface P.rt.boundsError (.agg #[.int .i64 (IntKind.i64.wrap (Int.ofNat i)), .int .i64 len, .bool s, .int .u8 (BoundsCode.index).toNat]))) w.drew := by
      intro s
      simp only [runtimePanic, goPanic, Sem.run_bind, run_program, Result.andThen_ok]
      rfl
    have hb0 : ∀ s, (runtimePanic (.bounds (IntKind.i64.wrap (Int.ofNat i)) len s .index) : Sem Value).run P w = .halt (.panic (.iface P.rt.boundsError (.agg #[.int .i64 (IntKind.i64.wrap (Int.ofNat i)), .int .i64 len, .bool s, .int .u8 (BoundsCode.index).toNat]))) w := by
      intro s
      simp only [runtimePanic, goPanic, Sem.run_bind, run_program, Result.andThen_ok]
      rfl
    have hrun : (Instr.indexAt t (.slice (some ad) len c) (.int .i64 (Int.ofNat i))).run P w = (boundsPanic .i64 (Int.ofNat i) len .index : Sem Value).run P w := by
      unfold Instr.indexAt
      simp only [asIntOf, Sem.run_bind, Sem.run_pure, Result.andThen_ok, run_underlying' hu]
      rw [Sem.run_ite, if_neg (by intro hh; have : (Int.ofNat i) = (i : Int) := rfl; omega), Sem.run_ite, if_neg (by simp)]
    have hB : ∃ s w', (boundsPanic .i64 (Int.ofNat i) len .index : Sem Value).run P w = (runtimePanic (.bounds (IntKind.i64.wrap (Int.ofNat i)) len s .index) : Sem Value).run P w' ∧ (w' = w ∨ w' = w.drew) := by
      by_cases hi : (Int.ofNat i) ≤ 31
      · refine ⟨(Question.extern "runtime.boundsError.signed" 2).cut (w.tape w.drawn (Question.extern "runtime.boundsError.signed" 2)) == 1, w.drew, ?_, .inr rfl⟩
        unfold boundsPanic
        rw [if_pos (by have : (Int.ofNat i) = (i : Int) := rfl; simp; omega), Sem.run_bind, Sem.run_map, run_choose_drew, if_neg (by decide)]
        rfl
      · refine ⟨(IntKind.i64 != .u64), w, ?_, .inl rfl⟩
        · unfold boundsPanic
          rw [if_neg (by have : (Int.ofNat i) = (i : Int) := rfl; simp; omega), Sem.run_bind]
          rfl
    have hx0 : ∀ w' : World, (do pure (Next.value (← Instr.indexAt t (a.eval x) (a.eval io))) : Sem Next).run P w = ((Instr.indexAt t (a.eval x) (a.eval io)).run P w).andThen fun v w' => .ok (.value v) w' := fun _ => by rw [Sem.run_bind]; rfl
    obtain ⟨s, w', hs, hw'⟩ := hB
    rcases hw' with rfl | rfl
    · refine ⟨P.rt.boundsError, .agg #[.int .i64 (IntKind.i64.wrap (Int.ofNat i)), .int .i64 len, .bool s, .int .u8 (BoundsCode.index).toNat], w', ?_, .refl hw⟩
      show (do pure (Next.value (← Instr.indexAt t (a.eval x) (a.eval io))) : Sem Next).run P w' = _
      rw [hx0 w', hxe, hie, hrun, hs, hb0]
      rfl
    · refine ⟨P.rt.boundsError, .agg #[.int .i64 (IntKind.i64.wrap (Int.ofNat i)), .int .i64 len, .bool s, .int .u8 (BoundsCode.index).toNat], w.drew, ?_, Post.drew hw⟩
      show (do pure (Next.value (← Instr.indexAt t (a.eval x) (a.eval io))) : Sem Next).run P w = _
      rw [hx0 w, hxe, hie, hrun, hs, hb]
      rfl
  · cases h
end
end Go.YtjighphlkcedhaaDoorEv
