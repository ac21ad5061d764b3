/- An evaluator for the program's own code: the control. (text 3) -/
import Derived.Test.YtjighphlkcedhaaDoorEv2
set_option linter.unusedVariables false
namespace Go.YtjighphlkcedhaaDoorEv
open Go

inductive Job where
  | code (c : Code)
  | loop (c : Code)
  | call (f : FuncId) (args : List SV)
  | late (f : FuncId) (args : List SV)
  | latep (f : FuncId) (args : List SV)
inductive Res where
  | nrm (fr : Fr) (σ : St)
  | ext (id : Nat) (fr : Fr) (σ : St)
  | ret (fr : Fr) (σ : St)
  | done (v : SV) (σ : St)
  | pan (fr : Fr) (σ : St)
  | bad (why : String)
noncomputable def Fr.put (fr : Fr) (d : Option Tmp) (v : SV) : Fr :=
  match d with
  | some d => ⟨fr.tm.set .undef v d, fr.df⟩
  | none => fr
noncomputable def wantedS (ops : List Oper) (fr : Fr) (g : Option (Nat × Bool)) : Bool :=
  match g with
  | none => true
  | some (j, want) => match (ops[j]?).bind (·.dst) with
    | some d => match fr.tm.get .undef d with
      | .bool b => b == want
      | _ => false
    | none => false
/-- What panics, with an interface's value. -/
noncomputable def pansOp (P : Program) (σ : St) (fr : Fr) (op : Op) : Bool :=
  match op with
  | .call c => match c.callee with
    | .invoke r _ => match ev P σ fr r with
      | some .nilIface => true
      | _ => false
    | _ => false
  | .panic x => match ev P σ fr x with
    | some (.iface _ _) => true
    | _ => false
  | .indexAddr t x i => match und P t with
    | some (.slice _) => match ev P σ fr x, ev P σ fr i with
      | some (.slice _ _ len _), some (.int .i64 (.ofNat i)) => Nat.ble len i && Nat.ble i 9223372036854775807
      | _, _ => false
    | _ => false
  | _ => false
noncomputable def runOps (P : Program) (ih : Job → Fr → St → Res) (ops : List Oper) : List Oper → Fr → St → Res
  | [], fr, σ => .nrm fr σ
  | o :: os, fr, σ => match wantedS ops fr o.guard with
    | false => runOps P ih ops os (fr.put o.dst .undef) σ
    | true => match evalOp P σ fr o.op with
      | some (.val v, σ') => runOps P ih ops os (fr.put o.dst v) σ'
      | some (.enter f args, σ') => match ih (.call f args) ⟨.nil, []⟩ σ' with
        | .done v σ'' => runOps P ih ops os (fr.put o.dst v) σ''
        | .pan _ σ'' => .pan fr σ''
        | .bad w => .bad w
        | _ => .bad "call"
      | some (.defer d, σ') => runOps P ih ops os (Fr.put ⟨fr.tm, d :: fr.df⟩ o.dst .undef) σ'
      | none => match pansOp P σ fr o.op with
        | true => .pan fr σ
        | false => .bad o.pos
/-! Regions that draw their order: what acts stands in one chain; what only reads must read the same at every place where it may come. -/
noncomputable def bits : List Oper → List Nat → List Nat
  | [], acc => acc
  | o :: os, acc => bits os (acc ++ [o.after.toList.foldl (fun s e => if Region.binds .any e then s ||| (2 ^ e.on ||| acc.getD e.on 0) else s) 0])
noncomputable def acts (P : Program) : Op → Bool
  | .move _ | .assign _ | .pick _ _ _ | .build _ _ | .load _ _ | .nilCheck _ | .binOp _ _ _ _ _ | .unOp _ _ _ | .makeInterface _ _ | .makeFunc _ _ _ | .slice _ _ _ _ _
  | .fieldAddr _ _ _ | .field _ _ _ | .indexAddr _ _ _ | .index _ _ _ | .lookup _ _ _ _ | .typeAssert _ _ _ _ | .extract _ _ => false
  | .convert _ d _ => match und P d with
    | some (.slice _) => true
    | _ => false
  | .call c => match c.callee with
    | .builtin .len | .builtin .min | .builtin .max => false
    | _ => true
  | _ => true
noncomputable def tmpsOf (l : List Operand) : List Tmp :=
  match l with
  | [] => []
  | .tmp t :: l => t :: tmpsOf l
  | _ :: l => tmpsOf l
noncomputable def looks (ops : List Oper) (o : Oper) : List Tmp :=
  tmpsOf o.op.operands.toList ++ (match o.guard with
    | some (g, _) => ((ops[g]?).bind (·.dst)).toList
    | none => [])
noncomputable def noGl : Operand → Bool
  | .global _ => false
  | _ => true
/-- What makes one block, out of what the slots hold alone. -/
noncomputable def maker : Op → Bool
  | .alloc _ | .makeMap _ none => true
  | .box _ x => noGl x
  | .buildSlice _ _ ps => ps.toList.all fun p => noGl p.2
  | _ => false
/-- What looks at the slots alone. -/
noncomputable def slotOnly : Op → Bool
  | .move x | .assign x | .makeInterface _ x => noGl x
  | .build _ ps => ps.toList.all fun p => noGl p.2
  | _ => false
/-- What does not hang on the memory. -/
noncomputable def indep : Op → Bool
  | .move x | .assign x | .makeInterface _ x | .fieldAddr _ x _ | .field _ x _ | .extract x _ | .unOp _ _ x => noGl x
  | .pick c a b => noGl c && (noGl a && noGl b)
  | .indexAddr _ x i | .index _ x i => noGl x && noGl i
  | .build _ ps => ps.toList.all fun p => noGl p.2
  | .makeFunc _ a b => a.toList.all noGl && b.toList.all noGl
  | _ => false
/-- late: it makes a block, and something that acts stands ahead of it without order: it may come sooner. dp: it hangs on such a one that may not have come to its own place yet. lo: so many operations' acts have come. -/
structure Cert where
  late : List Bool
  dp : List Bool
  lo : List Nat
noncomputable def chained (P : Program) (bj : Nat) : Nat → Nat → List Oper → Bool
  | 0, _, _ => true
  | n + 1, i, x :: xs => (!acts P x.op || bj.testBit i) && chained P bj n (i + 1) xs
  | _ + 1, _, [] => true
noncomputable def loOf (P : Program) (bj : Nat) : List Bool → List Oper → Nat → Nat → Nat
  | l :: ls, x :: xs, i, acc => loOf P bj ls xs (i + 1) (match acts P x.op && !l && bj.testBit i with | true => i + 1 | false => acc)
  | _, _, _, acc => acc
noncomputable def anyDp (bj lo : Nat) : List Bool → Nat → Bool
  | d :: ds, i => (d && bj.testBit i && Nat.ble lo i) || anyDp bj lo ds (i + 1)
  | [], _ => false
noncomputable def certF (P : Program) (ops : List Oper) (b : List Nat) : List Oper → Nat → Cert → Cert
  | [], _, c => c
  | y :: ys, j, c =>
    let bj := b.getD j 0
    let lat := maker y.op && !chained P bj j 0 ops
    let lo := loOf P bj c.late ops 0 0
    certF P ops b ys (j + 1) ⟨c.late ++ [lat], c.dp ++ [lat || (!acts P y.op && anyDp bj lo c.dp 0)], c.lo ++ [lo]⟩
noncomputable def certOf (P : Program) (ops : List Oper) (b : List Nat) : Cert := certF P ops b ops 0 ⟨[], [], []⟩
noncomputable def Cert.la (c : Cert) (j : Nat) : Bool := c.late.getD j false
noncomputable def Cert.de (c : Cert) (j : Nat) : Bool := c.dp.getD j false
noncomputable def Cert.fr (c : Cert) (j : Nat) : Nat := c.lo.getD j 0
/-- The pairs (place, bits) of the operations, and what is asked of two of them: i before j. -/
noncomputable def pairOk (P : Program) (c : Cert) (ops : List Oper) (i : Nat) (x : Oper) (bj j : Nat) (y : Oper) : Bool :=
  (bj.testBit i ||
  ((!(acts P x.op && acts P y.op) || c.la j) &&
   (match x.dst with | some d => !(looks ops y).contains d && !(y.dst == some d) | none => true) &&
   (match y.dst with | some d => !(looks ops x).contains d | none => true))) &&
  (!(c.de i && bj.testBit i) || acts P y.op || c.de j || Nat.blt i (c.fr j))
noncomputable def rowOk (P : Program) (c : Cert) (ops : List Oper) (bj j : Nat) (y : Oper) : Nat → Nat → List Oper → Bool
  | 0, _, _ => true
  | n + 1, i, x :: xs => pairOk P c ops i x bj j y && rowOk P c ops bj j y n (i + 1) xs
  | _ + 1, _, [] => true
noncomputable def selfOk (P : Program) (c : Cert) (ops : List Oper) (bj j : Nat) (y : Oper) : Bool :=
  (!c.la j || maker y.op) &&
  (match acts P y.op with
  | true => c.de j == c.la j
  | false => !c.la j && (!c.de j || slotOnly y.op)) &&
  (match c.fr j with
  | 0 => true
  | k + 1 => bj.testBit k && !c.la k && (match ops[k]? with | some x => acts P x.op | none => false))
noncomputable def allOk (P : Program) (c : Cert) (ops : List Oper) (b : List Nat) : Nat → List Oper → Bool
  | _, [] => true
  | j, y :: ys => (y.after.toList.all fun e => !Region.binds .any e || Nat.blt e.on j) && rowOk P c ops (b.getD j 0) j y j 0 ops && selfOk P c ops (b.getD j 0) j y && allOk P c ops b (j + 1) ys
noncomputable def drawOk (P : Program) (ops : List Oper) : Bool := allOk P (certOf P ops (bits ops [])) ops (bits ops []) 0 ops
/-- How many of those that act stand among the first ones. -/
noncomputable def cntF (P : Program) : Nat → List Oper → Nat
  | 0, _ => 0
  | _ + 1, [] => 0
  | j + 1, o :: os => (match acts P o.op with | true => 1 | false => 0) + cntF P j os
/-- How many of those that act may stand before. -/
noncomputable def countA (P : Program) (b : List Nat) (j : Nat) : List Oper → Nat → Nat
  | [], _ => 0
  | o :: os, i => (match acts P o.op && !(b.getD i 0).testBit j with | true => 1 | false => 0) + countA P b j os (i + 1)
noncomputable def rngEq : List (Int × Int) → List (Int × Int) → Bool
  | [], [] => true
  | a :: l, b :: k => iEq a.1 b.1 && iEq a.2 b.2 && rngEq l k
  | _, _ => false
mutual
noncomputable def svEq : SV → SV → Bool
  | .bool a, .bool b => a == b
  | .int k a, .int k' b => kEq k k' && iEq a b
  | .str n p, .str m q => Nat.beq n m && Nat.beq p q
  | .nilPtr, .nilPtr => true
  | .ptr a o, .ptr b r => Nat.beq a b && Nat.beq o r
  | .nilSlice, .nilSlice => true
  | .slice b o l (.ex c), .slice b' o' l' (.ex c') => Nat.beq b b' && Nat.beq o o' && Nat.beq l l' && Nat.beq c c'
  | .slice b o l (.op c), .slice b' o' l' (.op c') => Nat.beq b b' && Nat.beq o o' && Nat.beq l l' && Nat.beq c c'
  | .nilMap, .nilMap => true
  | .map a, .map b => Nat.beq a b
  | .func f a c, .func f' a' c' => decide (f = f') && svsEq a a' && svsEq c c'
  | .nilFunc, .nilFunc => true
  | .iface t v, .iface t' v' => Nat.beq t t' && svEq v v'
  | .nilIface, .nilIface => true
  | .agg l, .agg l' => svsEq l l'
  | .tuple l, .tuple l' => svsEq l l'
  | .lan l, .lan l' => svsEq l l'
  | .rng l, .rng l' => rngEq l l'
  | .opq ⟨a, i, none⟩, .opq ⟨b, j, none⟩ => Nat.beq a b && Nat.beq i j
  | _, _ => false
noncomputable def svsEq : List SV → List SV → Bool
  | [], [] => true
  | a :: l, b :: k => svEq a b && svsEq l k
  | _, _ => false
end
structure Ent where
  fr : Fr
  σ : St
  v : SV
  sk : Bool
noncomputable def canon (P : Program) (ih : Job → Fr → St → Res) (ops : List Oper) : List Oper → Fr → St → Option (List Ent × Fr × St)
  | [], fr, σ => some ([], fr, σ)
  | o :: os, fr, σ => match wantedS ops fr o.guard with
    | false => match canon P ih ops os (fr.put o.dst .undef) σ with
      | some (l, r) => some (⟨fr, σ, .undef, true⟩ :: l, r)
      | none => none
    | true => match evalOp P σ fr o.op with
      | some (.val v, σ') => match canon P ih ops os (fr.put o.dst v) σ' with
        | some (l, r) => some (⟨fr, σ, v, false⟩ :: l, r)
        | none => none
      | some (.enter f args, σ') => match ih (.call f args) ⟨.nil, []⟩ σ' with
        | .done v σ'' => match canon P ih ops os (fr.put o.dst v) σ'' with
          | some (l, r) => some (⟨fr, σ, v, false⟩ :: l, r)
          | none => none
        | _ => none
      | _ => none
noncomputable def tausOf (P : Program) (last : St) : List Oper → List Ent → List St
  | o :: os, e :: es => match acts P o.op with
    | true => e.σ :: tausOf P last os es
    | false => tausOf P last os es
  | _, _ => [last]
noncomputable def stable (P : Program) (fr : Fr) (op : Op) (v : SV) : Nat → List St → Bool
  | 0, _ => true
  | n + 1, τ :: τs => (match evalOp P τ fr op with
    | some (.val v', _) => svEq v v'
    | _ => false) && stable P fr op v n τs
  | _ + 1, [] => false
noncomputable def allStable (P : Program) (c : Cert) (ops : List Oper) (b : List Nat) (τs : List St) : Nat → List Oper → List Ent → Bool
  | j, o :: os, e :: es =>
    (match acts P o.op || e.sk || c.de j || indep o.op with
    | true => true
    | false =>
      let lo := cntF P (c.fr j) ops
      let hi := countA P b j ops 0
      match Nat.beq lo hi with
      | true => true
      | false => stable P e.fr o.op e.v (hi + 1 - lo) (τs.drop lo)) && allStable P c ops b τs (j + 1) os es
  | _, _, _ => true
noncomputable def mono (last : St) : List Ent → Bool
  | [] => true
  | e :: es => Nat.ble e.σ.next ((es.headD ⟨e.fr, last, .undef, true⟩).σ.next) && mono last es
noncomputable def runDraw (P : Program) (ih : Job → Fr → St → Res) (ops : List Oper) (fr : Fr) (σ : St) : Res :=
  match drawOk P ops with
  | false => .bad "a drawn region: its form"
  | true => match canon P ih ops ops fr σ with
    | none => .bad ("a drawn region: " ++ (ops.headD default).pos)
    | some (es, fr', σ') => match allStable P (certOf P ops (bits ops [])) ops (bits ops []) (tausOf P σ' ops es) 0 ops es && mono σ' es with
      | true => .nrm fr' σ'
      | false => .bad ("a drawn region: its order " ++ (ops.headD default).pos)
/-! The same region in another order of its operations: what only makes a block as late as may be. -/
noncomputable def posN (j : Nat) : List Nat → Nat → Nat
  | [], i => i
  | x :: l, i => match Nat.beq x j with
    | true => i
    | false => posN j l (i + 1)
noncomputable def hasJ (j : Nat) : List Nat → Bool
  | [] => false
  | x :: l => Nat.beq x j || hasJ j l
noncomputable def relab (inv : Nat → Nat) (o : Oper) : Oper := { o with after := o.after.map fun e => { e with on := inv e.on }, guard := o.guard.map fun g => (inv g.1, g.2) }
/-- The first that may come: no maker, if there is one. -/
noncomputable def firstJ (mk : Bool) (done : List Nat) : List Oper → Nat → Option Nat
  | [], _ => none
  | o :: l, i => match !hasJ i done && (mk || !maker o.op) && o.after.toList.all (fun e => !Region.binds .any e || hasJ e.on done) with
    | true => some i
    | false => firstJ mk done l (i + 1)
noncomputable def permJ (ops : List Oper) : Nat → List Nat → List Nat
  | 0, done => done
  | n + 1, done => match firstJ false done ops 0 with
    | some i => permJ ops n (done ++ [i])
    | none => match firstJ true done ops 0 with
      | some i => permJ ops n (done ++ [i])
      | none => done
noncomputable def permOk (pm : List Nat) (ops : List Oper) : Bool :=
  let n := ops.length
  Nat.beq pm.length n && (List.range n).all (fun i => match pm[i]? with | some j => Nat.blt j n && Nat.beq (posN j pm 0) i | none => false) &&
    (List.range n).all (fun j => Nat.blt (posN j pm 0) n && (match pm[posN j pm 0]? with | some k => Nat.beq k j | none => false)) &&
    ops.all (fun o => o.after.toList.all (fun e => Nat.blt e.on n) && (match o.guard with | some g => Nat.blt g.1 n | none => true))
noncomputable def permOps (pm : List Nat) (ops : List Oper) : List Oper := pm.filterMap fun j => (ops[j]?).map (relab fun k => posN k pm 0)
noncomputable def runDrawP (P : Program) (ih : Job → Fr → St → Res) (ops : List Oper) (fr : Fr) (σ : St) : Res :=
  match drawOk P ops with
  | true => runDraw P ih ops fr σ
  | false => match permOk (permJ ops ops.length []) ops with
    | true => runDraw P ih (permOps (permJ ops ops.length []) ops) fr σ
    | false => .bad "a drawn region: its form"
/-! What must be seen of a function's code once. -/
noncomputable def dstOk (nt : Nat) (ops : List Oper) : Bool := ops.all fun o => match o.dst with
  | some d => Nat.blt d nt
  | none => true
noncomputable def codeOk (nt : Nat) : Code → Bool
  | .seq a b => codeOk nt a && codeOk nt b
  | .cond _ a b => codeOk nt a && codeOk nt b
  | .block _ a => codeOk nt a
  | .loop a => codeOk nt a
  | .region _ ops _ => dstOk nt ops.toList
  | _ => true
noncomputable def resV (P : Program) (σ : St) (fr : Fr) : List ResultVar → Option (List SV)
  | [] => some []
  | .tmp t :: rs => match resV P σ fr rs with
    | some l => some (fr.tm.get .undef t :: l)
    | none => none
  | .cell a t :: rs => match fr.tm.get .undef a, resV P σ fr rs with
    | .ptr b off, some l => match loadV P σ t b off with
      | some v => some (v :: l)
      | none => none
    | _, _ => none
noncomputable def oneOf : List SV → SV
  | [v] => v
  | l => .tuple l
noncomputable def results (P : Program) (fn : Func) (fr : Fr) (σ : St) : Res :=
  match resV P σ fr fn.results.toList with
  | some l => .done (oneOf l) σ
  | none => .bad "results"
noncomputable def leave (P : Program) (ih : Job → Fr → St → Res) (fn : Func) (fr : Fr) : List SDef → St → Res
  | [], σ => results P fn fr σ
  | d :: ds, σ => match d.fn with
    | .func g => match bodyful P g with
      | true => match ih (.late g (d.args ++ d.captured)) ⟨.nil, []⟩ σ with
        | .done _ σ' => leave P ih fn fr ds σ'
        | .bad w => .bad w
        | _ => .bad "deferred"
      | false => .bad "deferred"
    | _ => .bad "deferred"
/-- A panic goes through a function: what was deferred comes, and must bring it to an end. -/
noncomputable def leaveP (P : Program) (ih : Job → Fr → St → Res) (fn : Func) (fr : Fr) : List SDef → St → Res
  | [], σ => .pan ⟨.nil, []⟩ σ
  | d :: ds, σ => match d.fn with
    | .func g => match bodyful P g with
      | true => match ih (.latep g (d.args ++ d.captured)) ⟨.nil, []⟩ σ with
        | .done _ σ' => leave P ih fn fr ds σ'
        | .bad w => .bad w
        | _ => .bad "deferred"
      | false => .bad "deferred"
    | _ => .bad "deferred"
/-! A function that was deferred, while its caller panics: has it recovered? -/
inductive ResP where
  | nrm (r : Bool) (fr : Fr) (σ : St)
  | ret (r : Bool) (fr : Fr) (σ : St)
  | bad (why : String)
noncomputable def isRec : Op → Bool
  | .call c => match c.callee with
    | .builtin .recover => true
    | _ => false
  | _ => false
noncomputable def opsP (P : Program) (ih : Job → Fr → St → Res) (ops : List Oper) : List Oper → Bool → Fr → St → ResP
  | [], r, fr, σ => .nrm r fr σ
  | o :: os, r, fr, σ => match wantedS ops fr o.guard with
    | false => opsP P ih ops os r (fr.put o.dst .undef) σ
    | true => match isRec o.op with
      | true => match r with
        | false => opsP P ih ops os true (fr.put o.dst .anyI) σ
        | true => .bad "recover"
      | false => match evalOp P σ fr o.op with
        | some (.val v, σ') => opsP P ih ops os r (fr.put o.dst v) σ'
        | some (.enter f args, σ') => match ih (.call f args) ⟨.nil, []⟩ σ' with
          | .done v σ'' => opsP P ih ops os r (fr.put o.dst v) σ''
          | _ => .bad "call"
        | _ => .bad o.pos
noncomputable def codeP (P : Program) (ih : Job → Fr → St → Res) : Code → Bool → Fr → St → ResP
  | .seq a b, r, fr, σ => match codeP P ih a r fr σ with
    | .nrm r fr σ => codeP P ih b r fr σ
    | x => x
  | .cond x a b, r, fr, σ => match ev P σ fr x with
    | some (.bool true) => codeP P ih a r fr σ
    | some (.bool false) => codeP P ih b r fr σ
    | _ => .bad "cond"
  | .region id ops draw, r, fr, σ => match draw with
    | false => opsP P ih ops.toList ops.toList r fr σ
    | true => match ih (.code (.region id ops true)) fr σ with
      | .nrm fr σ => .nrm r fr σ
      | _ => .bad "deferred"
  | .skip, r, fr, σ => .nrm r fr σ
  | .ret, r, fr, σ => .ret r fr σ
  | _, _, _, _ => .bad "deferred: its form"
noncomputable def step (P : Program) (ih : Job → Fr → St → Res) (j : Job) (fr : Fr) (σ : St) : Res :=
  match j with
  | .code c => match c with
    | .skip => .nrm fr σ
    | .seq a b => match ih (.code a) fr σ with
      | .nrm fr σ => ih (.code b) fr σ
      | r => r
    | .cond x a b => match ev P σ fr x with
      | some (.bool true) => ih (.code a) fr σ
      | some (.bool false) => ih (.code b) fr σ
      | _ => .bad "cond"
    | .block id b => match ih (.code b) fr σ with
      | .ext i fr σ => match Nat.beq i id with
        | true => .nrm fr σ
        | false => .ext i fr σ
      | r => r
    | .loop b => ih (.loop b) fr σ
    | .exit id => .ext id fr σ
    | .ret => .ret fr σ
    | .label _ => .nrm fr σ
    | .region _ ops draw => match draw with
      | false => runOps P ih ops.toList ops.toList fr σ
      | true => runDrawP P ih ops.toList fr σ
    | _ => .bad "code"
  | .loop b => match ih (.code b) fr σ with
    | .nrm fr σ => ih (.loop b) fr σ
    | r => r
  | .call f args => match fnc P f with
    | some fn => match fn.body with
      | some c => match codeOk fn.ntmps c, Nat.ble args.length fn.ntmps with
        | true, true => match ih (.code c) ⟨putL args .nil 0, []⟩ σ with
          | .nrm fr σ => leave P ih fn fr fr.df σ
          | .ret fr σ => leave P ih fn fr fr.df σ
          | .pan fr σ => leaveP P ih fn fr fr.df σ
          | .bad w => .bad (fn.name ++ ": " ++ w)
          | _ => .bad fn.name
        | _, _ => .bad "code"
      | none => .bad "no body"
    | none => .bad "no function"
  | .late f args => match fnc P f with
    | some fn => match fn.body with
      | some c => match codeOk fn.ntmps c, Nat.ble args.length fn.ntmps with
        | true, true => match ih (.code c) ⟨putL args .nil 0, []⟩ σ with
          | .nrm fr σ => match fr.df with
            | [] => results P fn fr σ
            | _ => .bad "deferred in deferred"
          | .ret fr σ => match fr.df with
            | [] => results P fn fr σ
            | _ => .bad "deferred in deferred"
          | .bad w => .bad w
          | _ => .bad fn.name
        | _, _ => .bad "code"
      | none => .bad "no body"
    | none => .bad "no function"
  | .latep f args => match fnc P f with
    | some fn => match fn.body with
      | some c => match codeOk fn.ntmps c, Nat.ble args.length fn.ntmps with
        | true, true => match codeP P ih c false ⟨putL args .nil 0, []⟩ σ with
          | .nrm true fr σ => match fr.df with
            | [] => results P fn fr σ
            | _ => .bad "deferred in deferred"
          | .ret true fr σ => match fr.df with
            | [] => results P fn fr σ
            | _ => .bad "deferred in deferred"
          | .bad w => .bad w
          | _ => .bad "not recovered"
        | _, _ => .bad "code"
      | none => .bad "no body"
    | none => .bad "no function"
noncomputable def run (P : Program) (n : Nat) : Job → Fr → St → Res :=
  Nat.rec (motive := fun _ => Job → Fr → St → Res) (fun _ _ _ => .bad "fuel") (fun _ ih => step P ih) n
end Go.YtjighphlkcedhaaDoorEv
