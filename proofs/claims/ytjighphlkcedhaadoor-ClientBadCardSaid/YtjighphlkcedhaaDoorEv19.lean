/- An evaluator for the program's own code: the library's functions without a Go body. (text 19) -/
import Derived.Test.YtjighphlkcedhaaDoorEv18
import Derived.Laws.Externs
import Derived.Lib.Bytealg
import Derived.Lib.BytesEntry
import Derived.Lib.Strings
import Derived.Lib.Overlaps
set_option linter.unusedVariables false
set_option linter.unusedSimpArgs false
namespace Go.YtjighphlkcedhaaDoorEv
open Go
set_option linter.unusedSectionVars false
variable [Lane]

theorem find_ibs {fn : Func} (h : fn.name = "internal/bytealg.IndexByte") : Extern.find fn = some Extern.BytealgIndexByte.indexByte := by
  unfold Extern.find
  simp only [h]
  have h1 : Extern.allGenericRows.lookup "internal/bytealg.IndexByte" = none := by kernel_rfl
  have h2 : Extern.allTypedRows.lookup "internal/bytealg.IndexByte" = none := by kernel_rfl
  have h3 : Extern.allRows.lookup "internal/bytealg.IndexByte" = some Extern.BytealgIndexByte.indexByte := by kernel_rfl
  rw [h1, h2, h3]; rfl
theorem libIdx (c : UInt8) : ∀ (l : List UInt8) (k : Nat), idxV (indexNat c.toNat (l.map UInt8.toNat) k) = if Lib.indexByte l c = -1 then -1 else Lib.indexByte l c + k
  | [], k => rfl
  | b :: l, k => by
    have hb : Nat.beq b.toNat c.toNat = (b == c) := by rw [Bool.eq_iff_iff]; simp [← UInt8.toNat_inj]
    have ih := libIdx c l (k + 1)
    have hge : -1 ≤ Lib.indexByte l c := by
      clear ih
      induction l with
      | nil => exact Int.le_refl _
      | cons a l ih =>
        unfold Lib.indexByte
        split
        · omega
        · split
          · omega
          · omega
    rw [List.map_cons, indexNat, hb]
    unfold Lib.indexByte
    cases hbc : b == c with
    | true => simp [idxV]
    | false =>
      simp only []
      rw [ih]
      by_cases e : Lib.indexByte l c = -1
      · simp [e]
      · simp [e]
        have : ¬ Lib.indexByte l c + 1 = -1 := by omega
        rw [if_neg this]
        omega
theorem find_ib {fn : Func} (h : fn.name = "internal/bytealg.IndexByteString") : Extern.find fn = some Extern.BytealgIndexByte.indexByte := by
  unfold Extern.find
  simp only [h]
  have h1 : Extern.allGenericRows.lookup "internal/bytealg.IndexByteString" = none := by kernel_rfl
  have h2 : Extern.allTypedRows.lookup "internal/bytealg.IndexByteString" = none := by kernel_rfl
  have h3 : Extern.allRows.lookup "internal/bytealg.IndexByteString" = some Extern.BytealgIndexByte.indexByte := by kernel_rfl
  rw [h1, h2, h3]; rfl
theorem find_cs {fn : Func} (h : fn.name = "internal/bytealg.CountString") : Extern.find fn = some Extern.BytealgCount.count := by
  unfold Extern.find
  simp only [h]
  have h1 : Extern.allGenericRows.lookup "internal/bytealg.CountString" = none := by kernel_rfl
  have h2 : Extern.allTypedRows.lookup "internal/bytealg.CountString" = none := by kernel_rfl
  have h3 : Extern.allRows.lookup "internal/bytealg.CountString" = some Extern.BytealgCount.count := by kernel_rfl
  rw [h1, h2, h3]; rfl
theorem indexNat_find (c : UInt8) : ∀ (l : List UInt8) (k : Nat) (f : Nat → UInt8), (∀ (i : Nat) (b : UInt8), l[i]? = some b → f (k + i) = b) →
    (List.range' k l.length).find? (fun i => f i == c) = indexNat c.toNat (l.map UInt8.toNat) k
  | [], k, f, h => rfl
  | b :: l, k, f, h => by
    rw [List.length_cons, List.range'_succ, List.find?_cons, List.map_cons, indexNat]
    have h0 := h 0 b rfl
    rw [Nat.add_zero] at h0
    rw [h0]
    have hb : Nat.beq b.toNat c.toNat = (b == c) := by rw [Bool.eq_iff_iff]; simp [← UInt8.toNat_inj]
    rw [hb]
    cases b == c with
    | true => rfl
    | false =>
      simp only []
      exact indexNat_find c l (k + 1) f fun i b' hb' => by
        have := h (i + 1) b' (by simpa using hb')
        rwa [show k + (i + 1) = k + 1 + i by omega] at this
theorem countNat_count (c : UInt8) : ∀ (l : List UInt8) (n : Nat), countNat c.toNat (l.map UInt8.toNat) n = n + Lib.countByte l c
  | [], n => by simp [countNat, Lib.countByte]
  | b :: l, n => by
    have hb : Nat.beq b.toNat c.toNat = (b == c) := by rw [Bool.eq_iff_iff]; simp [← UInt8.toNat_inj]
    rw [List.map_cons, countNat, hb]
    unfold Lib.countByte
    rw [List.count_cons]
    cases b == c with
    | true => simp only []; rw [countNat_count c l]; unfold Lib.countByte; simp; omega
    | false => simp only []; rw [countNat_count c l]; unfold Lib.countByte; simp
theorem toNat_toUInt8 {c : Nat} (h : c ≤ 255) : (c.toUInt8).toNat = c := by
  show (UInt8.ofNat c).toNat = c
  rw [UInt8.toNat_ofNat']; omega
noncomputable def kname : Known → String
  | .indexByte => "internal/bytealg.IndexByte"
  | .countString => "internal/bytealg.CountString"
  | .indexByteString => "internal/bytealg.IndexByteString"
  | .indexString => "internal/bytealg.IndexString"
  | .cmpString => "internal/bytealg.abigen_runtime_cmpstring"
  | .typeOf => "internal/reflectlite.TypeOf"
  | .comparable => "(internal/reflectlite.rtype).Comparable"
  | .mapsClone => "maps.clone"
  | .overlaps _ => ""
theorem two2_ok {a b : Array TypeId} (h : two2 a.toList b.toList = true) : ∃ r, a = #[a[0]?.getD 0, a[0]?.getD 0] ∧ b = #[r] := by
  unfold two2 at h
  split at h
  · rename_i t u r ha hb
    have e := Nat.eq_of_beq_eq_true h
    subst e
    cases a with | mk a0 =>
    cases b with | mk b0 =>
    simp only at ha hb
    subst ha hb
    exact ⟨_, rfl, rfl⟩
  · cases h
def KOk (fn : Func) : Known → Prop
  | .overlaps t => fn.origin = "slices.overlaps" ∧ Extern.allGenericRows.lookup fn.name = none ∧ Extern.allTypedRows.lookup fn.name = none ∧ Extern.allRows.lookup fn.name = none ∧ (∃ r, fn.params = #[t, t] ∧ fn.resultTypes = #[r]) ∧ (fn.name == "runtime.NumGoroutine") = false
  | k => fn.name = kname k
theorem find_overlaps {fn : Func} (h0 : fn.origin = "slices.overlaps") (h1 : Extern.allGenericRows.lookup fn.name = none) (h2 : Extern.allTypedRows.lookup fn.name = none) (h3 : Extern.allRows.lookup fn.name = none) :
    Extern.find fn = some (Extern.SlicesOverlaps.overlaps fn.params fn.resultTypes) := by
  unfold Extern.find
  simp only [h0, h1, h2, h3]
  have h4 : Extern.allGenericRows.lookup "slices.overlaps" = none := by kernel_rfl
  have h5 : Extern.allTypedRows.lookup "slices.overlaps" = some Extern.SlicesOverlaps.overlaps := by kernel_rfl
  rw [h4, h5]; rfl
theorem find_cmp {fn : Func} (h : fn.name = "internal/bytealg.abigen_runtime_cmpstring") : Extern.find fn = some Extern.BytealgCompare.compare := by
  unfold Extern.find
  simp only [h]
  have h1 : Extern.allGenericRows.lookup "internal/bytealg.abigen_runtime_cmpstring" = none := by kernel_rfl
  have h2 : Extern.allTypedRows.lookup "internal/bytealg.abigen_runtime_cmpstring" = none := by kernel_rfl
  have h3 : Extern.allRows.lookup "internal/bytealg.abigen_runtime_cmpstring" = some Extern.BytealgCompare.compare := by kernel_rfl
  rw [h1, h2, h3]; rfl
theorem find_typeOf {fn : Func} (h : fn.name = "internal/reflectlite.TypeOf") : Extern.find fn = some Extern.ReflectliteType.typeOf := by
  unfold Extern.find
  simp only [h]
  have h1 : Extern.allGenericRows.lookup "internal/reflectlite.TypeOf" = none := by kernel_rfl
  have h2 : Extern.allTypedRows.lookup "internal/reflectlite.TypeOf" = none := by kernel_rfl
  have h3 : Extern.allRows.lookup "internal/reflectlite.TypeOf" = some Extern.ReflectliteType.typeOf := by kernel_rfl
  rw [h1, h2, h3]; rfl
noncomputable def comparableE : Array Value → Sem Value := Extern.ReflectliteType.method fun t => do Extern.Rtype.noPackHeld "Comparable" t; pure (.bool (← typeInfo t).comparable)
theorem find_comparable {fn : Func} (h : fn.name = "(internal/reflectlite.rtype).Comparable") : Extern.find fn = some comparableE := by
  unfold Extern.find
  simp only [h]
  have h1 : Extern.allGenericRows.lookup "(internal/reflectlite.rtype).Comparable" = none := by kernel_rfl
  have h2 : Extern.allTypedRows.lookup "(internal/reflectlite.rtype).Comparable" = none := by kernel_rfl
  have h3 : Extern.allRows.lookup "(internal/reflectlite.rtype).Comparable" = some comparableE := by kernel_rfl
  rw [h1, h2, h3]; rfl
theorem find_mapsClone {fn : Func} (h : fn.name = "maps.clone") : Extern.find fn = some Extern.MapsClone.clone := by
  unfold Extern.find
  simp only [h]
  have h1 : Extern.allGenericRows.lookup "maps.clone" = none := by kernel_rfl
  have h2 : Extern.allTypedRows.lookup "maps.clone" = none := by kernel_rfl
  have h3 : Extern.allRows.lookup "maps.clone" = some Extern.MapsClone.clone := by kernel_rfl
  rw [h1, h2, h3]; rfl
section
variable {P : Program} {w : World}
theorem ofHandle_run {a : Addr} (hb : a.block = P.globals.size) : (Extern.Rtype.ofHandle (.pointer (some a))).run P w = .ok a.off w := by
  unfold Extern.Rtype.ofHandle
  simp only [Sem.run_bind, run_program, Result.andThen_ok, handleType, hb, beq_self_eq_true, if_true, Sem.run_pure]
theorem noPack_run {t : TypeId} {s : String} (h : P.packed t = false) : (Extern.Rtype.noPack s t).run P w = .ok () w := by
  unfold Extern.Rtype.noPack
  simp only [Sem.run_bind, run_program, Result.andThen_ok, h]
  rfl
theorem noPackHeld_run {t : TypeId} {s : String} (h : P.holdsPacked P.depth t = false) : (Extern.Rtype.noPackHeld s t).run P w = .ok () w := by
  unfold Extern.Rtype.noPackHeld
  simp only [Sem.run_bind, run_program, Result.andThen_ok, h]
  rfl
theorem ofRtype_run {a : Addr} (hb : a.block = P.globals.size) (h : P.packed a.off = false) : (Extern.ReflectliteType.ofRtype (.agg #[.pointer (some a)])).run P w = .ok a.off w := by
  show ((do let t ← Extern.Rtype.ofHandle (.pointer (some a)); Extern.Rtype.noPack "a Type asked or handed on" t; pure t) : Sem TypeId).run P w = _
  simp only [Sem.run_bind, ofHandle_run hb, Result.andThen_ok, noPack_run h, Sem.run_pure]
theorem comparable_run {a : Addr} {i : TypeInfo} (hb : a.block = P.globals.size) (h : P.packed a.off = false) (h2 : P.holdsPacked P.depth a.off = false) (hi : P.info? a.off = some i) :
    (comparableE #[.agg #[.pointer (some a)]]).run P w = .ok (.bool i.comparable) w := by
  show ((do let t ← Extern.ReflectliteType.ofRtype (.agg #[.pointer (some a)]); do Extern.Rtype.noPackHeld "Comparable" t; pure (.bool (← typeInfo t).comparable)) : Sem Value).run P w = _
  have ht : (typeInfo a.off).run P w = .ok i w := by simp [typeInfo, hi]
  simp only [Sem.run_bind, ofRtype_run hb h, Result.andThen_ok, noPackHeld_run h2, ht, Sem.run_pure]
end
theorem cmpNat_eq : ∀ a b : List UInt8, cmpNat (a.map UInt8.toNat) (b.map UInt8.toNat) = Lib.compareBytes a b
  | [], [] => rfl
  | [], _ :: _ => rfl
  | _ :: _, [] => rfl
  | a :: as, b :: bs => by
    have h1 : Nat.blt a.toNat b.toNat = decide (a < b) := by rw [Bool.eq_iff_iff]; simp [UInt8.lt_iff_toNat_lt]
    have h2 : Nat.blt b.toNat a.toNat = decide (b < a) := by rw [Bool.eq_iff_iff]; simp [UInt8.lt_iff_toNat_lt]
    rw [List.map_cons, List.map_cons, cmpNat, h1, h2, cmpNat_eq as bs]
    rw [show Lib.compareBytes (a :: as) (b :: bs) = if a < b then -1 else if b < a then 1 else Lib.compareBytes as bs from rfl]
    by_cases e1 : a < b
    · simp [e1]
    · by_cases e2 : b < a
      · simp [e1, e2]
      · simp [e1, e2]
theorem known_inv {P : Program} {f : FuncId} {k : Known} (hk : known P f = some k) : ∃ fn, P.funcs[f]? = some fn ∧ (fn.body.isNone = true ∧ (Extern.findNext fn).isNone = true) ∧ Extern.findNext fn = none ∧ KOk fn k := by
  unfold known at hk
  try simp only [und_eq, inf_eq, fnc_eq] at hk
  split at hk
  case h_2 => cases hk
  rename_i fn hf
  split at hk
  case h_2 => cases hk
  rename_i hc
  simp only [Bool.and_eq_true] at hc
  have hn : Extern.findNext fn = none := by simpa using hc.2
  have hnm : KOk fn k := by
    repeat' split at hk
    all_goals first
      | (cases hk; done)
      | (injection hk with hk; subst hk; rename_i h; exact eq_of_beq h)
      | (injection hk with hk; subst hk; rename_i h; simp only [Bool.and_eq_true] at h; obtain ⟨⟨⟨⟨⟨h1, h2⟩, h3⟩, h4⟩, h5⟩, h6⟩ := h; refine ⟨eq_of_beq h1, Option.isNone_iff_eq_none.1 h2, Option.isNone_iff_eq_none.1 h3, Option.isNone_iff_eq_none.1 h4, ?_, by simpa using h6⟩; exact two2_ok h5)
  exact ⟨fn, hf, hc, hn, hnm⟩
theorem extMOk (P : Program) (f : FuncId) (k : Known) (m : Mp) (σ : St) (w : World) (l : List SV) (l' : Array Value) (v : SV) (σ' : St) (hb : bodyful P f = false) (hk : known P f = some k) (hw : WR P m σ w)
    (hl : VRs m l l'.toList) (he : extM σ k l = some (v, σ')) : ∃ m' w' v', (callFunc f l').run P w = .ok (.value v') w' ∧ VR m' v v' ∧ Post P m σ w m' σ' w' := by
  obtain ⟨fn, hf, hc, hn, hnm⟩ := known_inv hk
  unfold extM at he
  split at he
  · rename_i t b
    split at he
    case h_2 => cases he
    rename_i es clk hbm
    cases he
    have hname : fn.name = "maps.clone" := hnm
    cases l' with | mk l0 =>
    cases hl with | cons h1 h2 =>
    cases h2
    cases h1 with | iface h1 =>
    cases h1 with | map hm =>
    rename_i im
    have hbr := hw.blk _ _ hm
    rw [hbm] at hbr
    cases hB : w.heap[im.blk]? with
    | none => rw [hB] at hbr; cases hbr
    | some o =>
      rw [hB] at hbr
      cases hbr with | map hl he2 =>
      rename_i ES
      have hgo : (getObj im.blk).run P w = .ok (.map ES clk) w := by simp [getObj, Sem.run, hB]
      have hrun := run_callFunc_extern (P := P) hf (by rw [hname]; rfl) hc.1 hn (find_mapsClone hname) #[.iface t (.map (some im.blk))] w
      have hcl : (Extern.MapsClone.clone #[.iface t (.map (some im.blk))]).run P w = .ok (.iface t (.map (some w.heap.size))) (w.alloc (.map ES clk)) := by
        show ((getObj im.blk >>= fun o => match o with
          | .map entries clock => (do pure (.iface t (.map (some (← newObj (.map entries clock))))) : Sem Value)
          | _ => stuck "maps.clone: a map expected") : Sem Value).run P w = _
        simp only [Sem.run_bind, hgo, Result.andThen_ok]
        simp
      rw [hcl, Result.andThen_ok] at hrun
      have hp := Post.new hw (.map es clk) (.map ES clk) 0 (.map hl he2)
      exact ⟨_, _, _, hrun, .iface (.map (im := ⟨w.heap.size, 0, 0⟩) (upd_same ..)), hp⟩
  · cases he
set_option maxHeartbeats 1000000 in
theorem indexByte_ok {P : Program} {f : FuncId} {fn : Func} {m : Mp} {σ : St} {w : World} (hf : P.funcs[f]? = some fn) (hc : fn.body.isNone = true ∧ (Extern.findNext fn).isNone = true) (hn : Extern.findNext fn = none)
    (hname : fn.name = "internal/bytealg.IndexByte") (hw : WR P m σ w) {b off n c p : Nat} {cap : Cap} {v1 : Value} {cells k2 : List SV} (h1 : VR m (.slice b off n cap) v1) (hc255 : c ≤ 255) (hload : loadC σ b off n = some cells)
    (hk2 : ∀ l1, VRs m cells l1 → VRs m k2 l1) (hp : packOf k2 = some p) :
    ∃ v', (callFunc f #[v1, .int .u8 (.ofNat c)]).run P w = .ok (.value v') w ∧ VR m (.int .i64 (idxV (indexNat c (unpk n p) 0))) v' := by
  obtain ⟨im, a, cp, rfl, hm, ha⟩ := h1.slice_inv
  obtain ⟨l1, hr1, hlen, hcell, hone⟩ := loadC_sound hw hload hm
  obtain ⟨bs, rfl, hpk⟩ := packOf_sound (hk2 _ hr1) hp
  have hln : bs.length = n := by simpa using hlen
  have haddr : n ≠ 0 → a = ⟨im.blk, im.base + off, none⟩ := fun h0 => by
    obtain ⟨A, B, D⟩ := a
    have hall : D = none ∧ B = im.base + off := by
      cases cap with
      | ex c1 =>
        obtain ⟨im2, a2, e2, h2, h3, h4, h5, h6⟩ := h1.ex_inv
        rw [hm] at h2; cases h2
        cases e2
        exact ⟨h4, h5 (by omega)⟩
      | op s1 =>
        obtain ⟨im2, a2, c2, e2, h2, h3, h4, h5, h6, _⟩ := h1.op_inv
        rw [hm] at h2; cases h2
        cases e2
        exact ⟨h4, h5 (by omega)⟩
    obtain ⟨rfl, rfl⟩ := hall
    have ha : A = im.blk := ha
    rw [ha]
  have hrun := run_callFunc_extern (P := P) hf (by rw [hname]; rfl) hc.1 hn (find_ibs hname) #[.slice (some a) n cp, .int .u8 (.ofNat c)] w
  have hcc : (Int.ofNat c).toNat.toUInt8.toNat = c := toNat_toUInt8 hc255
  have hbytes : ∀ bs : List UInt8, Lib.bytesOf (bs.map fun b => (b.toNat : Int)) = bs := fun bs => by
    unfold Lib.bytesOf
    rw [List.map_map]
    conv => rhs; rw [← List.map_id bs]
    refine List.map_congr_left fun b _ => ?_
    show UInt8.ofNat (Int.toNat (b.toNat : Int)) = b
    simp
  have hsl : (Extern.BytealgIndexByte.indexByte #[.slice (some a) n cp, .int .u8 (.ofNat c)]).run P w = .ok (.int .i64 (Lib.indexByte bs (Int.ofNat c).toNat.toUInt8)) w := by
    by_cases h0 : n = 0
    · have hbs : bs = [] := by rw [h0] at hln; exact List.length_eq_zero_iff.1 hln
      subst hbs
      subst h0
      obtain ⟨A, B, D⟩ := a
      have : D = none := by
        cases cap with
        | ex c1 => obtain ⟨im2, a2, e2, _, _, h4, _⟩ := h1.ex_inv; cases e2; exact h4
        | op s1 => obtain ⟨im2, a2, c2, e2, _, _, h4, _⟩ := h1.op_inv; cases e2; exact h4
      subst this
      exact Lib.run_indexByteSlice (P := P) w A B 0 cp [] rfl (fun i hi => absurd hi (by omega)) (Int.ofNat c)
    · rw [haddr h0]
      have := Lib.run_indexByteSlice (P := P) w im.blk (im.base + off) n cp (bs.map fun b => (b.toNat : Int)) (by simpa using hln) (fun i hi => by
        have hib : i < bs.length := by omega
        rw [hcell i (.int .u8 (bs[i].toNat : Int)) (by simp [hib])]
        simp [List.getD_eq_getElem?_getD, hib]) (Int.ofNat c)
      rw [hbytes] at this
      exact this
  rw [hsl, Result.andThen_ok] at hrun
  refine ⟨_, hrun, ?_⟩
  have hu := unpk_pk bs
  rw [hln, hpk] at hu
  have hli := libIdx (Int.ofNat c).toNat.toUInt8 bs 0
  rw [hcc, ← hu] at hli
  have : idxV (indexNat c (unpk n p) 0) = Lib.indexByte bs (Int.ofNat c).toNat.toUInt8 := by
    rw [hli]
    split
    · rename_i h; exact h.symm
    · exact Int.add_zero _
  rw [this]
  exact .int ..
theorem extSOk (P : Program) (f : FuncId) (k : Known) (m : Mp) (σ : St) (w : World) (l : List SV) (l' : Array Value) (v : SV) (hb : bodyful P f = false) (hk : known P f = some k) (hw : WR P m σ w) (hl : VRs m l l'.toList) (he : extS P σ k l = some v) : ∃ v', (callFunc f l').run P w = .ok (.value v') w ∧ VR m v v' := by
  obtain ⟨fn, hf, hc, hn, hnm⟩ := known_inv hk
  have two : ∀ {n p : Nat} {c : Nat}, VRs m [.str n p, .int .u8 (.ofNat c)] l'.toList → ∃ s : ByteArray, l' = #[.string s, .int .u8 (.ofNat c)] ∧ s.size = n ∧ pk s.data.toList = p := by
    intro n p c h
    cases l' with
    | mk l0 =>
      cases h with
      | cons h1 h2 =>
        cases h2 with
        | cons h3 h4 =>
          cases h4; cases h3; cases h1
          rename_i s hn hp
          exact ⟨s, rfl, hn, hp⟩
  unfold extS at he
  try simp only [und_eq, inf_eq, fnc_eq] at he
  split at he
  · rename_i b off n cap c
    split at he
    case h_2 => cases he
    rename_i cells hc255 hload
    have hc255 := Nat.le_of_ble_eq_true hc255
    split at he
    case h_2 => cases he
    rename_i p hp
    injection he with he
    subst he
    have hname : fn.name = "internal/bytealg.IndexByte" := hnm
    cases l' with | mk l0 =>
    cases hl with | cons h1 h2 =>
    cases h2 with | cons h3 h4 =>
    cases h4; cases h3
    exact indexByte_ok hf hc hn hname hw h1 hc255 hload (fun _ h => h) hp
  · rename_i c
    injection he with he
    subst he
    have hname : fn.name = "internal/bytealg.IndexByte" := hnm
    cases l' with | mk l0 =>
    cases hl with | cons h1 h2 =>
    cases h2 with | cons h3 h4 =>
    cases h4; cases h3; cases h1
    have hrun := run_callFunc_extern (P := P) hf (by rw [hname]; rfl) hc.1 hn (find_ibs hname) #[.slice none 0 0, .int .u8 (.ofNat c)] w
    rw [Lib.run_indexByteNil, Result.andThen_ok] at hrun
    exact ⟨_, hrun, .int ..⟩
  · rename_i n p c
    split at he
    case h_2 => cases he
    rename_i hc255
    have hc255 := Nat.le_of_ble_eq_true hc255
    injection he with he
    subst he
    have hname : fn.name = "internal/bytealg.IndexByteString" := hnm
    obtain ⟨s, rfl, hs, hp⟩ := two hl
    have hrun := run_callFunc_extern (P := P) hf (by rw [hname]; rfl) hc.1 hn (find_ib hname) #[.string s, .int .u8 (.ofNat c)] w
    rw [run_indexByte_string, Result.andThen_ok] at hrun
    refine ⟨_, hrun, ?_⟩
    have hsz : s.data.toList.length = s.size := rfl
    have hu := unpk_pk s.data.toList
    rw [hsz, hs, hp] at hu
    have hcc : (Int.ofNat c).toNat.toUInt8.toNat = c := toNat_toUInt8 hc255
    have hf := indexNat_find (Int.ofNat c).toNat.toUInt8 s.data.toList 0 (fun i => s[i]!) (fun i b hb => by
      rw [Nat.zero_add]
      have hlt : i < s.size := (List.getElem?_eq_some_iff.1 hb).1
      rw [getElem!_pos s i hlt]
      have := (List.getElem?_eq_some_iff.1 hb).2
      rw [← this]; rfl)
    rw [hcc, ← hu, hsz, ← List.range_eq_range'] at hf
    unfold firstIdx
    rw [hf]
    cases indexNat c (unpk n p) 0 with
    | some i => exact .int ..
    | none => exact .int ..
  · rename_i n p c
    split at he
    case h_2 => cases he
    rename_i hc255
    have hc255 := Nat.le_of_ble_eq_true hc255
    injection he with he
    subst he
    have hname : fn.name = "internal/bytealg.CountString" := hnm
    obtain ⟨s, rfl, hs, hp⟩ := two hl
    have hrun := run_callFunc_extern (P := P) hf (by rw [hname]; rfl) hc.1 hn (find_cs hname) #[.string s, .int .u8 (.ofNat c)] w
    rw [Lib.run_countString, Result.andThen_ok] at hrun
    refine ⟨_, hrun, ?_⟩
    have hsz : s.data.toList.length = s.size := rfl
    have hu := unpk_pk s.data.toList
    rw [hsz, hs, hp] at hu
    have hcc : (Int.ofNat c).toNat.toUInt8.toNat = c := toNat_toUInt8 hc255
    have hcn := countNat_count (Int.ofNat c).toNat.toUInt8 s.data.toList 0
    rw [hcc, ← hu, Nat.zero_add] at hcn
    rw [hcn]
    exact .int ..
  · rename_i n p q r
    injection he with he
    subst he
    have hname : fn.name = "internal/bytealg.abigen_runtime_cmpstring" := hnm
    cases l' with | mk l0 =>
    cases hl with | cons h1 h2 =>
    cases h2 with | cons h3 h4 =>
    cases h4
    cases h1 with | str a1 a2 =>
    cases h3 with | str a3 a4 =>
    rename_i s s2
    have hrun := run_callFunc_extern (P := P) hf (by rw [hname]; rfl) hc.1 hn (find_cmp hname) #[.string s, .string s2] w
    rw [Lib.run_compareString, Result.andThen_ok] at hrun
    refine ⟨_, hrun, ?_⟩
    have hu := unpk_pk s.data.toList
    have hu2 := unpk_pk s2.data.toList
    have hsz : s.data.toList.length = s.size := rfl
    have hsz2 : s2.data.toList.length = s2.size := rfl
    rw [hsz, a1, a2] at hu
    rw [hsz2, a3, a4] at hu2
    rw [hu, hu2, cmpNat_eq]
    exact .int ..
  · rename_i t u
    split at he
    case h_2 => cases he
    rename_i nm rt hct
    injection he with he
    subst he
    have hname : fn.name = "internal/reflectlite.TypeOf" := hnm
    cases l' with | mk l0 =>
    cases hl with | cons h1 h2 =>
    cases h2
    cases h1 with | iface h1 =>
    rename_i u'
    have hrun := run_callFunc_extern (P := P) hf (by rw [hname]; rfl) hc.1 hn (find_typeOf hname) #[.iface t u'] w
    have : (Extern.ReflectliteType.typeOf #[.iface t u']).run P w = .ok (.iface rt (.agg #[typeHandle P t])) w := by
      show (Extern.ReflectliteType.toType t).run P w = _
      simp [Extern.ReflectliteType.toType, cutType, hct, Extern.Rtype.handle]
    rw [this, Result.andThen_ok] at hrun
    exact ⟨_, hrun, .iface (.agg (.cons (.opq _) .nil))⟩
  · rename_i a
    split at he
    case h_2 => cases he
    rename_i i hb hpk hhp hi
    injection he with he
    subst he
    have hname : fn.name = "(internal/reflectlite.rtype).Comparable" := hnm
    cases l' with | mk l0 =>
    cases hl with | cons h1 h2 =>
    cases h2
    cases h1 with | agg h1 =>
    rename_i cs
    cases cs with | mk l1 =>
    cases h1 with | cons h3 h4 =>
    cases h4; cases h3
    have hrun := run_callFunc_extern (P := P) hf (by rw [hname]; rfl) hc.1 hn (find_comparable hname) #[.agg #[.pointer (some a)]] w
    rw [comparable_run (Nat.eq_of_beq_eq_true hb) hpk hhp hi, Result.andThen_ok] at hrun
    exact ⟨_, hrun, .bool _⟩
  · rename_i t b o n c b' o' n' c'
    split at he
    case h_2 => cases he
    rename_i e ht
    split at he
    case h_2 => cases he
    rename_i s hs hne hp1 hp2
    injection he with he
    subst he
    obtain ⟨k1, k2, k3, k4, k5, k6⟩ : KOk fn (.overlaps t) := hnm
    cases l' with | mk l0 =>
    cases hl with | cons h1 h2 =>
    cases h2 with | cons h3 h4 =>
    cases h4
    obtain ⟨im, a, cp, rfl, hm, ha⟩ := h1.slice_inv
    obtain ⟨jm, a', cp', rfl, hm', ha'⟩ := h3.slice_inv
    obtain ⟨hd1, C, ty, hC⟩ := plain_sound hw hp1 hm
    have hq : plain σ b' = true ∧ ∃ ty2 n2 fz2 c2, σ.get b' = .cells ty2 n2 fz2 c2 ∧ 1 ≤ n2 := by
      unfold plain1 at hp2
      split at hp2
      · rename_i ty2 n2 fz2 c2 hb2
        rw [Bool.and_eq_true] at hp2
        refine ⟨?_, ty2, n2, fz2, c2, hb2, Nat.le_of_ble_eq_true hp2.2⟩
        unfold plain
        rw [hb2]; exact hp2.1
      · cases hp2
    obtain ⟨hq, ty2, n2, fz2, c2, hb2, hn2⟩ := hq
    obtain ⟨hd2, C', ty', hC'⟩ := plain_sound hw hq hm'
    have hsz' : C'.size ≠ 0 := by
      have hB := hw.blk _ _ hm'
      rw [hb2, hC'] at hB
      cases hB with | cells ht hn hf hv => omega
    have hbne : a.block ≠ a'.block := by
      rw [ha, ha']
      intro e
      have := hw.inj _ _ _ _ hm hm' hd1 hd2 e
      subst this
      rw [Nat.beq_refl] at hne; cases hne
    have hrun := run_callFunc_extern (P := P) hf k6 hc.1 hn (find_overlaps k1 k2 k3 k4) #[.slice (some a) n cp, .slice (some a') n' cp'] w
    obtain ⟨r, k5, k7⟩ := k5
    have hap := Lib.run_overlaps_apart (P := P) w t r e ht s (fun w => sz_run hs) a a' n cp n' cp' hbne ty ty' C.size C'.size (by simp [World.shape?, ha, hC]) (by simp [World.shape?, ha', hC']) hsz' (by simp [World.frozen?, ha, hC]) (by simp [World.frozen?, ha, hC])
    have hap2 : (Extern.SlicesOverlaps.overlaps fn.params fn.resultTypes #[.slice (some a) n cp, .slice (some a') n' cp']).run P w = .ok (.bool false) w := by
      rw [k5, k7]; exact hap
    rw [hap2, Result.andThen_ok] at hrun
    exact ⟨_, hrun, .bool _⟩
  · cases he
theorem extLOk (P : Program) (f : FuncId) (k : Known) (m : Mp) (σ : St) (w : World) (l : List SV) (l' : Array Value) (v : SV) (hb : bodyful P f = false) (hk : known P f = some k) (hw : WR P m σ w) (hl : VRs m l l'.toList) (he : extL P σ k l = some v) : ∃ v', (callFunc f l').run P w = .ok (.value v') w ∧ VR m v v' := by
  unfold extL at he
  split at he
  · rename_i hs
    cases he
    exact extSOk P f k m σ w l l' v hb hk hw hl hs
  · rename_i hq; clear hq
    split at he
    · rename_i b off n cap c
      obtain ⟨fn, hf, hc, hn, hnm⟩ := known_inv hk
      split at he
      case h_2 => cases he
      rename_i cells hc255 hload
      have hc255 := Nat.le_of_ble_eq_true hc255
      have hname : fn.name = "internal/bytealg.IndexByte" := hnm
      cases l' with | mk l0 =>
      cases hl with | cons h1 h2 =>
      cases h2 with | cons h3 h4 =>
      cases h4; cases h3
      obtain ⟨im, a, cp, rfl, hm, ha⟩ := h1.slice_inv
      obtain ⟨l1, hr1, hlen, hcell, hone⟩ := loadC_sound hw hload hm
      obtain ⟨k2, u, hk2, hf2, hwd, hla⟩ := lanes_ok he hr1
      unfold indexF at hf2
      cases hp : packOf k2 with
      | none => rw [hp] at hf2; cases hf2
      | some p =>
        rw [hp] at hf2
        cases hf2
        obtain ⟨v', r1, r2⟩ := indexByte_ok hf hc hn hname hw h1 hc255 hload (fun _ h => laneAt_ok h hla) hp
        have hln : k2.length = n := by rw [hk2.length, hlen]
        rw [hln] at hwd
        exact ⟨v', r1, hwd _ _ r2⟩
    · obtain ⟨k2, u, hk2, hf2, hwd, -⟩ := lanes_ok he hl
      have hS : extS P σ k k2 = some u := by
        unfold extF at hf2
        split at hf2
        · exact hf2
        · exact hf2
        · exact hf2
        · cases hf2
      obtain ⟨v', r1, r2⟩ := extSOk P f k m σ w k2 l' u hb hk hw hk2 hS
      exact ⟨v', r1, hwd _ _ r2⟩
theorem extOk (P : Program) : ExtOk P := ⟨extMOk P, extLOk P⟩

end Go.YtjighphlkcedhaaDoorEv
