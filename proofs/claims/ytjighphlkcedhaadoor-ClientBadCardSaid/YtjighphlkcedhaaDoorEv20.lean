/- An evaluator for the program's own code, once more with small bodies: the kernel copies a body whole at each call. Proved equal to the first one. (text 20; printed by mkquick.py) -/
import Derived.Test.YtjighphlkcedhaaDoorEv19
set_option linter.unusedVariables false
namespace Go.YtjighphlkcedhaaDoorEv
open Go
set_option linter.unusedSectionVars false
variable [Lane]
/-- What is known of a call without running its code. -/
abbrev Orc := St → FuncId → List SV → Option (SV × St)
def Orc.none : Orc := fun _ _ _ => Option.none
def OrcOk (P : Program) (orc : Orc) : Prop :=
  ∀ (m : Mp) (σ : St) (w : World) (f : FuncId) (args : List SV) (args' : Array Value) (v : SV) (σ' : St), WR P m σ w → VRs m args args'.toList → orc σ f args = some (v, σ') → Calls P f args' w (CallOk P m σ w v σ')
theorem OrcOk.none (P : Program) : OrcOk P Orc.none := fun _ _ _ _ _ _ _ _ _ _ h => by cases h
noncomputable def stepO (P : Program) (orc : Orc) (ih : Job → Fr → St → Res) (j : Job) (fr : Fr) (σ : St) : Res :=
  match j with
  | .call f args => match orc σ f args with
    | some p => .done p.1 p.2
    | none => step P ih (.call f args) fr σ
  | j => step P ih j fr σ
noncomputable def runO (P : Program) (orc : Orc) (n : Nat) : Job → Fr → St → Res :=
  Nat.rec (motive := fun _ => Job → Fr → St → Res) (fun _ _ _ => .bad "fuel") (fun _ ih => stepO P orc ih) n
theorem stepO_sound {P : Program} (hx : ExtOk P) (hmo : P.follows .mixedOrders = true) {orc : Orc} (ho : OrcOk P orc) {ih : Job → Fr → St → Res} (hs : Sound P ih) : Sound P (stepO P orc ih) := by
  have h0 := step_sound hx hmo hs
  refine ⟨h0.code, h0.loop, ?_, h0.late, ?_, h0.latep⟩
  · intro f args fr σ v σ' h m args' w ha hw
    simp only [stepO] at h
    split at h
    · rename_i p hv
      cases h
      exact ho m σ w f args args' _ _ hw ha hv
    · exact h0.call f args fr σ v σ' h m args' w ha hw
  · intro f args fr fr' σ σ' h m args' w ha hw
    simp only [stepO] at h
    split at h
    · cases h
    · exact h0.pan f args fr fr' σ σ' h m args' w ha hw
theorem runO_sound {P : Program} (hx : ExtOk P) (hmo : P.follows .mixedOrders = true) {orc : Orc} (ho : OrcOk P orc) : ∀ n, Sound P (runO P orc n)
  | 0 => ⟨fun _ _ _ _ h => h.elim, fun _ _ _ _ h => h.elim, fun _ _ _ _ _ _ h => (by cases h), fun _ _ _ _ _ _ h => (by cases h), fun _ _ _ _ _ _ h => (by cases h), fun _ _ _ _ _ _ h => (by cases h)⟩
  | n + 1 => stepO_sound hx hmo ho (runO_sound hx hmo ho n)

noncomputable def q_move (P : Program) (x : Operand) (σ : St) (fr : Fr) : Option (Nx × St) :=
  val (ev P σ fr x) σ
noncomputable def q_assign (P : Program) (x : Operand) (σ : St) (fr : Fr) : Option (Nx × St) :=
  val (ev P σ fr x) σ
noncomputable def q_pick (P : Program) (c a b : Operand) (σ : St) (fr : Fr) : Option (Nx × St) :=
  match ev P σ fr c with
    | some (.bool true) => val (ev P σ fr a) σ
    | some (.bool false) => val (ev P σ fr b) σ
    | _ => none
noncomputable def q_alloc (P : Program) (e : TypeId) (σ : St) (fr : Fr) : Option (Nx × St) :=
  match zeroV P e with
    | some z => (newC σ e z.cells).map fun p => (.val (.ptr p.1 0), p.2)
    | none => none
noncomputable def q_box (P : Program) (e : TypeId) (x : Operand) (σ : St) (fr : Fr) : Option (Nx × St) :=
  match ev P σ fr x with
    | some v => (newC σ e v.cells).map fun p => (.val (.ptr p.1 0), p.2)
    | none => none
noncomputable def q_build (P : Program) (t : TypeId) (ps : Array (Nat × Operand)) (σ : St) (fr : Fr) : Option (Nx × St) :=
  match evP P σ fr ps.toList with
    | some l => val (buildV P t l) σ
    | none => none
noncomputable def q_buildSlice (P : Program) (t : TypeId) (n : Nat) (ps : Array (Nat × Operand)) (σ : St) (fr : Fr) : Option (Nx × St) :=
  match evP P σ fr ps.toList, und P t with
    | some l, some (.slice e) => match sz P e, zeroV P e with
      | some s, some z => match Nat.beq z.cells.length s, Nat.ble (n * s) 16777216, fillS (placesA s n 0) (repC z.cells n) l with
        | true, true, some cs => (newC σ e cs).map fun p => (.val (.slice p.1 0 n (.ex n)), p.2)
        | _, _, _ => none
      | _, _ => none
    | _, _ => none
noncomputable def q_load (P : Program) (t : TypeId) (a : Operand) (σ : St) (fr : Fr) : Option (Nx × St) :=
  match ev P σ fr a with
    | some (.ptr b off) => val (loadV P σ t b off) σ
    | some (.opq a) => val (loadG P σ t a) σ
    | _ => none
noncomputable def q_store (P : Program) (t : TypeId) (a x : Operand) (σ : St) (fr : Fr) : Option (Nx × St) :=
  match ev P σ fr a, ev P σ fr x with
    | some (.ptr b off), some v => stu (storeV P σ t b off v)
    | _, _ => none
noncomputable def q_nilCheck (P : Program) (x : Operand) (σ : St) (fr : Fr) : Option (Nx × St) :=
  match ev P σ fr x with
    | some .nilPtr => none
    | some .nilIface => none
    | some .nilFunc => none
    | some (.func (.method name) first c) => match first with
      | .iface t v :: l => match methodS P σ t v name with
        | some _ => val (some (.func (.method name) (.iface t v :: l) c)) σ
        | none => none
      | _ => none
    | r => val r σ
noncomputable def q_binOp (P : Program) (op : BinOp) (t : TypeId) (x y : Operand) (u : TypeId) (σ : St) (fr : Fr) : Option (Nx × St) :=
  match ev P σ fr x, ev P σ fr y with
    | some a, some b => val (binL P σ op t x y a b) σ
    | _, _ => none
noncomputable def q_unOp (P : Program) (op : UnOp) (u : TypeId) (x : Operand) (σ : St) (fr : Fr) : Option (Nx × St) :=
  match ev P σ fr x with
    | some a => val (unL op a) σ
    | none => none
noncomputable def q_convert (P : Program) (s d : TypeId) (x : Operand) (σ : St) (fr : Fr) : Option (Nx × St) :=
  match ev P σ fr x with
    | some a => vst (convL P σ s d a)
    | none => none
noncomputable def q_makeInterface (P : Program) (t : TypeId) (x : Operand) (σ : St) (fr : Fr) : Option (Nx × St) :=
  match und P t, ev P σ fr x with
    | some (.interface _), _ => none
    | some _, some v => some (.val (.iface t v), σ)
    | _, _ => none
noncomputable def q_makeFunc (P : Program) (f : Fn) (a b : Array Operand) (σ : St) (fr : Fr) : Option (Nx × St) :=
  match evL P σ fr a.toList, evL P σ fr b.toList with
    | some x, some y => some (.val (.func f x y), σ)
    | _, _ => none
noncomputable def q_makeMap (P : Program) (t : TypeId) (r : Option Operand) (σ : St) (fr : Fr) : Option (Nx × St) :=
  match r with
    | none => some (.val (.map σ.next), σ.new (.map [] 0))
    | some _ => none
noncomputable def q_makeSlice (P : Program) (t : TypeId) (l c : Operand) (σ : St) (fr : Fr) : Option (Nx × St) :=
  match und P t, ev P σ fr l, ev P σ fr c with
    | some (.slice e), some (.int _ (.ofNat l)), some (.int _ (.ofNat c)) => match sz P e, zeroV P e, Nat.ble l c, Nat.ble c 1000000, Nat.ble (P.bytesOf e) 4096 with
      | some s, some z, true, true, true => match Nat.beq z.cells.length s, newC σ e (repC z.cells c) with
        | true, some (b, σ') => some (.val (.slice b 0 l (.ex c)), σ')
        | _, _ => none
      | _, _, _, _, _ => none
    | _, _, _ => none
noncomputable def q_slice (P : Program) (t : TypeId) (x : Operand) (lo hi mx : Option Operand) (σ : St) (fr : Fr) : Option (Nx × St) :=
  match mx with
    | none => match ev P σ fr x, evOpt P σ fr lo, evOpt P σ fr hi with
      | some v, some l, some h => val (cutL P t σ v l h) σ
      | _, _, _ => none
    | some y => match ev P σ fr x, evOpt P σ fr lo, evOpt P σ fr hi, ev P σ fr y with
      | some v, some l, some (some h), some n => val (cut3 P t v l h n) σ
      | _, _, _, _ => none
noncomputable def q_fieldAddr (P : Program) (s : TypeId) (x : Operand) (f : Nat) (σ : St) (fr : Fr) : Option (Nx × St) :=
  match und P s, ev P σ fr x with
    | some (.struct fs), some (.ptr b off) => match fs.toList[f]? with
      | some fd => match sz P fd.type with
        | some (_ + 1) => some (.val (.ptr b (off + fd.offset)), σ)
        | _ => none
      | none => none
    | some (.struct fs), some (.opq a) => match fs.toList[f]? with
      | some fd => match sz P fd.type with
        | some (_ + 1) => some (.val (.opq (a.add fd.offset)), σ)
        | _ => none
      | none => none
    | _, _ => none
noncomputable def q_field (P : Program) (t : TypeId) (x : Operand) (f : Nat) (σ : St) (fr : Fr) : Option (Nx × St) :=
  match und P t, ev P σ fr x with
    | some (.struct fs), some (.agg cs) => match fs.toList[f]? with
      | some fd => match isAg P fd.type, sz P fd.type with
        | some true, some n => some (.val (.agg ((cs.drop fd.offset).take n)), σ)
        | some false, _ => (cs[fd.offset]?).map fun v => (.val v, σ)
        | _, _ => none
      | none => none
    | _, _ => none
noncomputable def q_indexAddr (P : Program) (t : TypeId) (x i : Operand) (σ : St) (fr : Fr) : Option (Nx × St) :=
  match und P t, ev P σ fr x, ev P σ fr i with
    | some (.slice e), some (.slice b off len _), some (.int _ (.ofNat i)) => match Nat.blt i len, sz P e with
      | true, some s => some (.val (.ptr b (off + i * s)), σ)
      | _, _ => none
    | some (.array len e), some (.ptr b off), some (.int _ (.ofNat i)) => match Nat.blt i len, sz P e with
      | true, some s => some (.val (.ptr b (off + i * s)), σ)
      | _, _ => none
    | some (.array len e), some (.opq a), some (.int _ (.ofNat i)) => match Nat.blt i len, sz P e with
      | true, some s => some (.val (.opq (a.add (i * s))), σ)
      | _, _ => none
    | _, _, _ => none
noncomputable def q_index (P : Program) (t : TypeId) (x i : Operand) (σ : St) (fr : Fr) : Option (Nx × St) :=
  match und P t, ev P σ fr x, ev P σ fr i with
    | some .string, some (.str n p), some (.int _ (.ofNat i)) => val (sAt n p i) σ
    | some .string, some x, some i => val (lanes atF [x, i]) σ
    | some (.array len e), some (.agg cs), some (.int _ (.ofNat i)) => match Nat.blt i len, isAg P e, sz P e with
      | true, some true, some s => some (.val (.agg ((cs.drop (i * s)).take s)), σ)
      | true, some false, some s => (cs[i * s]?).map fun v => (.val v, σ)
      | _, _, _ => none
    | _, _, _ => none
noncomputable def q_lookup (P : Program) (t : TypeId) (x k : Operand) (ok : Bool) (σ : St) (fr : Fr) : Option (Nx × St) :=
  match ev P σ fr x, ev P σ fr k with
    | some m, some k => val (lookupS P σ t m k ok) σ
    | _, _ => none
noncomputable def q_mapUpdate (P : Program) (t : TypeId) (m k x : Operand) (σ : St) (fr : Fr) : Option (Nx × St) :=
  match ev P σ fr m, ev P σ fr k, ev P σ fr x with
    | some m, some k, some v => stu (updateS P σ t m k v)
    | _, _, _ => none
noncomputable def q_range (P : Program) (t : TypeId) (x : Operand) (σ : St) (fr : Fr) : Option (Nx × St) :=
  match ev P σ fr x with
    | some v => rangeS P σ t v
    | none => none
noncomputable def q_next (P : Program) (x : Operand) (s : Bool) (σ : St) (fr : Fr) : Option (Nx × St) :=
  match s with
  | false => match ev P σ fr x with
      | some (.ptr b 0) => nextM σ b
      | _ => none
  | true => match ev P σ fr x with
      | some (.ptr b 0) => nextT σ b
      | _ => none
noncomputable def q_entry (P : Program) (x : Operand) (σ : St) (fr : Fr) : Option (Nx × St) :=
  match ev P σ fr x with
    | some (.ptr b 0) => val (entryS σ b) σ
    | _ => none
noncomputable def q_typeAssert (P : Program) (x : Operand) (u t : TypeId) (ok : Bool) (σ : St) (fr : Fr) : Option (Nx × St) :=
  match ev P σ fr x with
    | some v => val (assertS P v t ok) σ
    | none => none
noncomputable def q_extract (P : Program) (x : Operand) (i : Nat) (σ : St) (fr : Fr) : Option (Nx × St) :=
  match ev P σ fr x with
    | some (.tuple l) => (l[i]?).map fun v => (.val v, σ)
    | _ => none
noncomputable def q_call (P : Program) (c : Call) (σ : St) (fr : Fr) : Option (Nx × St) :=
  call P σ fr c
noncomputable def q_defer (P : Program) (c : Call) (σ : St) (fr : Fr) : Option (Nx × St) :=
  match c.callee, evL P σ fr c.args.toList with
    | .value f, some args => match ev P σ fr f with
      | some (.func (.func g) first captured) => some (.defer ⟨.func g, captured, first ++ args⟩, σ)
      | _ => none
    | _, _ => none
noncomputable def q_no (σ : St) (fr : Fr) : Option (Nx × St) := none
noncomputable def evalQ (P : Program) (op : Op) : St → Fr → Option (Nx × St) :=
  Op.rec (motive := fun _ => St → Fr → Option (Nx × St))
    (q_move P)
    (q_assign P)
    (q_pick P)
    (q_alloc P)
    (q_box P)
    (q_build P)
    (q_buildSlice P)
    (fun _ _ _ _ => q_no)
    (q_load P)
    (q_store P)
    (fun _ => q_no)
    (fun _ => q_no)
    (q_nilCheck P)
    (q_binOp P)
    (q_unOp P)
    (q_convert P)
    (fun _ _ => q_no)
    (q_makeInterface P)
    (q_makeFunc P)
    (q_makeMap P)
    (fun _ _ => q_no)
    (q_makeSlice P)
    (q_slice P)
    (q_fieldAddr P)
    (q_field P)
    (q_indexAddr P)
    (q_index P)
    (q_lookup P)
    (q_mapUpdate P)
    (fun _ _ _ => q_no)
    (fun _ _ _ _ => q_no)
    (q_range P)
    (q_next P)
    (q_entry P)
    (q_typeAssert P)
    (q_extract P)
    (q_call P)
    (fun _ => q_no)
    (q_defer P)
    (fun _ => q_no)
    (fun _ _ => q_no)
    (fun _ _ _ => q_no)
    (fun _ _ => q_no)
    op
theorem evalQ_eq (P : Program) (σ : St) (fr : Fr) (op : Op) : evalQ P op σ fr = evalOp P σ fr op := by
  cases op
  case move => rfl
  case assign => rfl
  case pick => rfl
  case alloc => rfl
  case box => rfl
  case build => rfl
  case buildSlice => rfl
  case insert => rfl
  case load => rfl
  case store => rfl
  case ready => rfl
  case waits => rfl
  case nilCheck => rfl
  case binOp => rfl
  case unOp => rfl
  case convert => rfl
  case sliceToArrayPointer => rfl
  case makeInterface => rfl
  case makeFunc => rfl
  case makeMap => rfl
  case makeChan => rfl
  case makeSlice => rfl
  case slice => rfl
  case fieldAddr => rfl
  case field => rfl
  case indexAddr => rfl
  case index => rfl
  case lookup => rfl
  case mapUpdate => rfl
  case mapEntry => rfl
  case entryStore => rfl
  case range => rfl
  case next x s => cases s <;> rfl
  case entry => rfl
  case typeAssert => rfl
  case extract => rfl
  case call => rfl
  case go => rfl
  case defer => rfl
  case panic => rfl
  case send => rfl
  case recv => rfl
  case select => rfl
noncomputable def aft (P : Program) (ih : Job → Fr → St → Res) (k : Fr → St → Res) (fr : Fr) (σ : St) (op : Op) (d : Option Tmp) (pos : String) (r : Option (Nx × St)) : Res :=
  Option.rec (motive := fun _ => Res) (Bool.rec (motive := fun _ => Res) (.bad pos) (.pan fr σ) (pansOp P σ fr op)) (fun p => Prod.rec (motive := fun _ => Res) (fun x σ' => Nx.rec (motive := fun _ => Res)
    (fun v => k (fr.put d v) σ')
    (fun f args => Res.rec (motive := fun _ => Res) (fun _ _ => .bad "call") (fun _ _ _ => .bad "call") (fun _ _ => .bad "call") (fun v σ'' => k (fr.put d v) σ'') (fun _ σ'' => .pan fr σ'') (fun w => .bad w) (ih (.call f args) ⟨.nil, []⟩ σ'))
    (fun e => k (Fr.put ⟨fr.tm, e :: fr.df⟩ d .undef) σ') x) p) r
noncomputable def runOpsQ (P : Program) (ih : Job → Fr → St → Res) (ops l : List Oper) : Fr → St → Res :=
  List.rec (motive := fun _ => Fr → St → Res) (fun fr σ => .nrm fr σ)
    (fun o _ k fr σ => Bool.rec (motive := fun _ => Res) (k (fr.put o.dst .undef) σ) (aft P ih k fr σ o.op o.dst o.pos (evalQ P o.op σ fr)) (wantedS ops fr o.guard)) l
theorem aft_eq (P : Program) (ih : Job → Fr → St → Res) (ops os : List Oper) (fr : Fr) (σ : St) (o : Oper) (r : Option (Nx × St)) :
    aft P ih (runOps P ih ops os) fr σ o.op o.dst o.pos r = (match r with
      | some (.val v, σ') => runOps P ih ops os (fr.put o.dst v) σ'
      | some (.enter f args, σ') => match ih (.call f args) ⟨.nil, []⟩ σ' with
        | .done v σ'' => runOps P ih ops os (fr.put o.dst v) σ''
        | .pan _ σ'' => .pan fr σ''
        | .bad w => .bad w
        | _ => .bad "call"
      | some (.defer d, σ') => runOps P ih ops os (Fr.put ⟨fr.tm, d :: fr.df⟩ o.dst .undef) σ'
      | none => match pansOp P σ fr o.op with
        | true => .pan fr σ
        | false => .bad o.pos) := by
  rcases r with _ | ⟨x | ⟨f, args⟩ | d, σ'⟩
  · unfold aft
    cases pansOp P σ fr o.op <;> rfl
  · rfl
  · unfold aft
    cases h : ih (.call f args) ⟨.nil, []⟩ σ' <;> simp only [h]
  · rfl
theorem runOpsQ_eq (P : Program) (ih : Job → Fr → St → Res) (ops : List Oper) : ∀ l, runOpsQ P ih ops l = runOps P ih ops l
  | [] => rfl
  | o :: os => by
    funext fr σ
    have e : runOpsQ P ih ops (o :: os) fr σ = Bool.rec (motive := fun _ => Res) (runOpsQ P ih ops os (fr.put o.dst .undef) σ) (aft P ih (runOpsQ P ih ops os) fr σ o.op o.dst o.pos (evalQ P o.op σ fr)) (wantedS ops fr o.guard) := rfl
    rw [e, runOpsQ_eq P ih ops os, aft_eq, evalQ_eq]
    conv => rhs; unfold runOps
    cases wantedS ops fr o.guard <;> rfl
noncomputable def sq_seq (ih : Job → Fr → St → Res) (b : Code) (r : Res) : Res :=
  Res.rec (motive := fun _ => Res) (fun fr σ => ih (.code b) fr σ) (fun i fr σ => .ext i fr σ) (fun fr σ => .ret fr σ) (fun v σ => .done v σ) (fun fr σ => .pan fr σ) (fun w => .bad w) r
noncomputable def sq_cond (P : Program) (ih : Job → Fr → St → Res) (x : Operand) (a b : Code) (fr : Fr) (σ : St) : Res :=
  match ev P σ fr x with
  | some (.bool true) => ih (.code a) fr σ
  | some (.bool false) => ih (.code b) fr σ
  | _ => .bad "cond"
noncomputable def sq_block (ih : Job → Fr → St → Res) (id : Nat) (r : Res) : Res :=
  Res.rec (motive := fun _ => Res) (fun fr σ => .nrm fr σ) (fun i fr σ => Bool.rec (motive := fun _ => Res) (.ext i fr σ) (.nrm fr σ) (Nat.beq i id)) (fun fr σ => .ret fr σ) (fun v σ => .done v σ) (fun fr σ => .pan fr σ) (fun w => .bad w) r
noncomputable def sq_code (P : Program) (ih : Job → Fr → St → Res) (c : Code) : Fr → St → Res :=
  Code.rec (motive := fun _ => Fr → St → Res) (fun fr σ => .nrm fr σ)
    (fun _ ops draw fr σ => Bool.rec (motive := fun _ => Res) (runOpsQ P ih ops.toList ops.toList fr σ) (runDrawP P ih ops.toList fr σ) draw)
    (fun a b _ _ fr σ => sq_seq ih b (ih (.code a) fr σ))
    (fun x a b _ _ => sq_cond P ih x a b)
    (fun id b _ fr σ => sq_block ih id (ih (.code b) fr σ))
    (fun b _ => ih (.loop b))
    (fun _ _ _ _ _ _ _ _ => .bad "code")
    (fun id fr σ => .ext id fr σ)
    (fun _ _ _ _ => .bad "code")
    (fun _ fr σ => .nrm fr σ)
    (fun _ _ _ => .bad "code")
    (fun fr σ => .ret fr σ)
    (fun _ _ _ => .bad "code") c
noncomputable def sq_loop (ih : Job → Fr → St → Res) (b : Code) (r : Res) : Res :=
  Res.rec (motive := fun _ => Res) (fun fr σ => ih (.loop b) fr σ) (fun i fr σ => .ext i fr σ) (fun fr σ => .ret fr σ) (fun v σ => .done v σ) (fun fr σ => .pan fr σ) (fun w => .bad w) r
noncomputable def sq_call (P : Program) (orc : Orc) (ih : Job → Fr → St → Res) (f : FuncId) (args : List SV) (fr : Fr) (σ : St) : Res :=
  Option.rec (motive := fun _ => Res) (step P ih (.call f args) fr σ) (fun p => .done p.1 p.2) (orc σ f args)
noncomputable def sq_late (P : Program) (ih : Job → Fr → St → Res) (f : FuncId) (args : List SV) (fr : Fr) (σ : St) : Res :=
  step P ih (.late f args) fr σ
noncomputable def stepQ (P : Program) (orc : Orc) (ih : Job → Fr → St → Res) (j : Job) : Fr → St → Res :=
  Job.rec (motive := fun _ => Fr → St → Res) (sq_code P ih) (fun b fr σ => sq_loop ih b (ih (.code b) fr σ)) (sq_call P orc ih) (sq_late P ih) (fun f args fr σ => step P ih (.latep f args) fr σ) j
theorem sq_code_eq (P : Program) (ih : Job → Fr → St → Res) (c : Code) (fr : Fr) (σ : St) : sq_code P ih c fr σ = step P ih (.code c) fr σ := by
  cases c with
  | region id ops draw =>
    cases draw
    · show runOpsQ P ih ops.toList ops.toList fr σ = _
      rw [runOpsQ_eq]; rfl
    · rfl
  | seq a b =>
    show sq_seq ih b (ih (.code a) fr σ) = _
    simp only [step]
    cases ih (.code a) fr σ <;> rfl
  | block id b =>
    show sq_block ih id (ih (.code b) fr σ) = _
    simp only [step]
    cases ih (.code b) fr σ with
    | ext i fr σ => 
      show Bool.rec (motive := fun _ => Res) (.ext i fr σ) (.nrm fr σ) (Nat.beq i id) = (match Nat.beq i id with | true => Res.nrm fr σ | false => .ext i fr σ)
      cases Nat.beq i id <;> rfl
    | _ => rfl
  | cond x a b => rfl
  | skip => rfl
  | loop b => rfl
  | rangeFunc _ _ _ _ => rfl
  | exit _ => rfl
  | scope _ => rfl
  | label _ => rfl
  | goto _ => rfl
  | ret => rfl
  | refuse _ => rfl
theorem stepQ_eq (P : Program) (orc : Orc) (ih : Job → Fr → St → Res) (j : Job) : stepQ P orc ih j = stepO P orc ih j := by
  funext fr σ
  cases j with
  | code c => exact sq_code_eq P ih c fr σ
  | loop b =>
    show sq_loop ih b (ih (.code b) fr σ) = step P ih (.loop b) fr σ
    simp only [step]
    cases ih (.code b) fr σ <;> rfl
  | call f args =>
    show sq_call P orc ih f args fr σ = (match orc σ f args with | some p => Res.done p.1 p.2 | none => step P ih (.call f args) fr σ)
    unfold sq_call
    cases orc σ f args <;> rfl
  | late f args => rfl
  | latep f args => rfl
noncomputable def runQ (P : Program) (orc : Orc) (n : Nat) : Job → Fr → St → Res :=
  Nat.rec (motive := fun _ => Job → Fr → St → Res) (fun _ _ _ => .bad "fuel") (fun _ ih => stepQ P orc ih) n
theorem runQ_eq (P : Program) (orc : Orc) : ∀ n, runQ P orc n = runO P orc n
  | 0 => rfl
  | n + 1 => by
    show (fun j => stepQ P orc (runQ P orc n) j) = fun j => stepO P orc (runO P orc n) j
    funext j
    rw [runQ_eq P orc n, stepQ_eq]
theorem runQ_sound {P : Program} (hx : ExtOk P) (hmo : P.follows .mixedOrders = true) {orc : Orc} (ho : OrcOk P orc) (n : Nat) : Sound P (runQ P orc n) := by
  rw [runQ_eq]; exact runO_sound hx hmo ho n
end Go.YtjighphlkcedhaaDoorEv

