/- An evaluator for the program's own code: the operations. (text 2) -/
import Derived.Test.YtjighphlkcedhaaDoorEv1
set_option linter.unusedVariables false
set_option linter.unusedSimpArgs false
namespace Go.YtjighphlkcedhaaDoorEv
open Go

/-! tables, sixteen rows at a time: the kernel walks a list from its head -/
noncomputable def getQ {α : Type} (l : List α) : Nat → Option α :=
  List.rec (motive := fun _ => Nat → Option α) (fun _ => none) (fun a _ ih n => Nat.rec (motive := fun _ => Option α) (some a) (fun m _ => ih m) n) l
noncomputable def blkQ {α : Type} (l : List α) (k : Nat) : List α := Nat.rec (motive := fun _ => List α) l (fun _ ih => ih.drop 16) k
noncomputable def nthQ {α : Type} (l : List α) (n : Nat) : Option α := getQ (blkQ l (Nat.div n 16)) (Nat.mod n 16)
theorem getQ_eq {α : Type} : ∀ (l : List α) (n : Nat), getQ l n = l[n]?
  | [], n => by simp [getQ]
  | a :: l, 0 => rfl
  | a :: l, n + 1 => by
    have e : getQ (a :: l) (n + 1) = getQ l n := rfl
    rw [e, getQ_eq l n]; simp
theorem blkQ_eq {α : Type} (l : List α) : ∀ k, blkQ l k = l.drop (16 * k)
  | 0 => rfl
  | k + 1 => by
    have e : blkQ l (k + 1) = (blkQ l k).drop 16 := rfl
    rw [e, blkQ_eq l k, List.drop_drop]
    congr 1
theorem nthQ_eq {α : Type} (l : List α) (n : Nat) : nthQ l n = l[n]? := by
  unfold nthQ
  rw [getQ_eq, blkQ_eq, List.getElem?_drop]
  congr 1
  exact Nat.div_add_mod n 16
noncomputable def inf (P : Program) (t : TypeId) : Option TypeInfo := Option.rec (motive := fun _ => Option TypeInfo) (P.info? t) (fun i => some i) (nthQ P.types.toList t)
theorem inf_eq (P : Program) (t : TypeId) : inf P t = P.info? t := by
  unfold inf
  rw [nthQ_eq, Array.getElem?_toList]
  cases h : P.types[t]? with
  | none => rfl
  | some i =>
    have hlt : t < P.types.size := (Array.getElem?_eq_some_iff.1 h).1
    show some i = P.toTables.info? t
    unfold Tables.info?
    rw [if_pos hlt]; exact h.symm
noncomputable def fnc (P : Program) (f : FuncId) : Option Func := nthQ P.funcs.toList f
theorem fnc_eq (P : Program) (f : FuncId) : fnc P f = P.funcs[f]? := by
  unfold fnc
  rw [nthQ_eq, Array.getElem?_toList]
noncomputable def und (P : Program) (t : TypeId) : Option TypeDesc :=
  match inf P t with
  | some i => match i.desc with
    | .named _ u => (inf P u).map (·.desc)
    | d => some d
  | none => none
theorem und_eq (P : Program) (t : TypeId) : und P t = P.underlying t := by
  unfold und Program.underlying
  simp only [inf_eq]
  cases h : P.info? t with
  | none => simp [h]
  | some i => obtain ⟨d⟩ := i; cases d <;> rfl
/-- What an operation comes to. -/
inductive Nx where
  | val (v : SV)
  | enter (f : FuncId) (args : List SV)
  | defer (d : SDef)

/-! memory -/
noncomputable def lst (c : Tr SV) (n : Nat) : Nat → List SV :=
  Nat.rec (motive := fun _ => Nat → List SV) (fun _ => []) (fun _ ih i => c.get .undef i :: ih (i + 1)) n
noncomputable def putL (l : List SV) : Tr SV → Nat → Tr SV :=
  List.rec (motive := fun _ => Tr SV → Nat → Tr SV) (fun c _ => c) (fun v _ ih c i => ih (c.set .undef v i) (i + 1)) l
noncomputable def fromL (l : List SV) : Tr SV := putL l .nil 0
noncomputable def readable : List SV → Bool
  | [] => true
  | v :: l => match v with
    | .unk => false
    | _ => readable l
noncomputable def loadC (σ : St) (b off n : Nat) : Option (List SV) :=
  match σ.get b with
  | .cells _ nn _ c => match Nat.ble (off + n) nn, readable (lst c n off) with
    | true, true => some (lst c n off)
    | _, _ => none
  | _ => none
noncomputable def storeC (σ : St) (b off : Nat) (l : List SV) : Option St :=
  match σ.get b with
  | .cells ty nn fz c => match Nat.ble (off + l.length) nn, Nat.ble fz 1, l.all SV.one with
    | true, true, true => some (σ.put b (.cells ty nn fz (putL l c off)))
    | _, _, _ => none
  | _ => none
noncomputable def newC (σ : St) (ty : TypeId) (l : List SV) : Option (Nat × St) :=
  match l.all SV.one with
  | true => some (σ.next, σ.new (.cells ty l.length 0 (fromL l)))
  | false => none

/-! types -/
noncomputable def sz (P : Program) (t : TypeId) : Option Nat := (inf P t).map (·.size)
noncomputable def isAg (P : Program) (t : TypeId) : Option Bool :=
  match und P t with
  | some (.struct _) | some (.array _ _) => some true
  | some _ => some false
  | none => none
noncomputable def zeroV (P : Program) (t : TypeId) : Option SV := ((inf P t).bind (·.zero)).bind (cv 8)
noncomputable def loadV (P : Program) (σ : St) (t : TypeId) (b off : Nat) : Option SV :=
  match isAg P t, sz P t with
  | some true, some n => (loadC σ b off n).map .agg
  | some false, _ => match loadC σ b off 1 with
    | some [v] => some v
    | _ => none
  | _, _ => none
noncomputable def storeV (P : Program) (σ : St) (t : TypeId) (b off : Nat) (v : SV) : Option St :=
  match sz P t with
  | some n => match Nat.beq v.cells.length n with
    | true => storeC σ b off v.cells
    | false => none
  | none => none

/-- What a variable's cells hold that no block here stands for: as at first. -/
noncomputable def tabOf (g : Nat) : List (Nat × List SV) → Option (List SV)
  | [] => none
  | (k, l) :: r => match Nat.beq k g with
    | true => some l
    | false => tabOf g r
noncomputable def loadG (P : Program) (σ : St) (t : TypeId) (a : Addr) : Option SV :=
  match σ.gh, a.spot, isAg P t with
  | some p, none, some false => match tabOf a.block p.2.tabs with
    | some l => l[a.off]?
    | none => none
  | _, _, _ => none
noncomputable def partS (P : Program) (t : TypeId) (cs : List SV) (o : Nat) : Option SV :=
  match isAg P t, sz P t with
  | some true, some n => some (.agg ((cs.drop o).take n))
  | some false, some _ => cs[o]?
  | _, _ => none

/-! operands -/
noncomputable def ev (P : Program) (σ : St) (fr : Fr) : Operand → Option SV
  | .tmp t => some (fr.tm.get .undef t)
  | .const v => cv 8 v
  | .global g => match Nat.blt g P.globals.size with
    | true => match σ.get g with
      | .dead => some (.opq ⟨g, 0, none⟩)
      | _ => some (.ptr g 0)
    | false => none
  | .func f => some (.func (.func f) [] [])
noncomputable def evL (P : Program) (σ : St) (fr : Fr) : List Operand → Option (List SV)
  | [] => some []
  | x :: xs => match ev P σ fr x with
    | some v => match evL P σ fr xs with
      | some vs => some (v :: vs)
      | none => none
    | none => none

noncomputable def evOpt (P : Program) (σ : St) (fr : Fr) : Option Operand → Option (Option SV)
  | none => some none
  | some x => match ev P σ fr x with
    | some v => some (some v)
    | none => none

/-! numbers -/
noncomputable def kmax : IntKind → Nat
  | .i8 => 127 | .i16 => 32767 | .i32 => 2147483647 | .i64 => 9223372036854775807
  | .u8 => 255 | .u16 => 65535 | .u32 => 4294967295 | .u64 => 18446744073709551615
noncomputable def kneg : IntKind → Nat
  | .i8 => 128 | .i16 => 32768 | .i32 => 2147483648 | .i64 => 9223372036854775808
  | _ => 0
/-- 'wrap', quick where nothing wraps. -/
noncomputable def wr (k : IntKind) (n : Int) : Int :=
  match n with
  | .ofNat a => match Nat.ble a (kmax k) with
    | true => .ofNat a
    | false => k.wrap (.ofNat a)
  | .negSucc a => match Nat.ble (a + 1) (kneg k) with
    | true => .negSucc a
    | false => k.wrap (.negSucc a)
noncomputable def iEq : Int → Int → Bool
  | .ofNat a, .ofNat b => Nat.beq a b
  | .negSucc a, .negSucc b => Nat.beq a b
  | _, _ => false
noncomputable def iLe : Int → Int → Bool
  | .ofNat a, .ofNat b => Nat.ble a b
  | .negSucc a, .negSucc b => Nat.ble b a
  | .negSucc _, .ofNat _ => true
  | .ofNat _, .negSucc _ => false
noncomputable def iBits (op : BinOp) (k : IntKind) (x y : Int) : Option SV :=
  let m : Nat := 2 ^ k.bits
  let a := (x % m).toNat
  let b := (y % m).toNat
  match op with
  | .and => some (.int k (k.wrap (Nat.land a b : Nat)))
  | .or => some (.int k (k.wrap (Nat.lor a b : Nat)))
  | .xor => some (.int k (k.wrap (Nat.xor a b : Nat)))
  | .andNot => some (.int k (k.wrap (Nat.land a (m - 1 - b) : Nat)))
  | _ => none
noncomputable def kEq : IntKind → IntKind → Bool
  | .i8, .i8 | .i16, .i16 | .i32, .i32 | .i64, .i64 | .u8, .u8 | .u16, .u16 | .u32, .u32 | .u64, .u64 => true
  | _, _ => false
noncomputable def iBin (op : BinOp) (k : IntKind) (x y : Int) : Option SV :=
  match op with
  | .add => some (.int k (wr k (x + y)))
  | .sub => some (.int k (wr k (x - y)))
  | .mul => some (.int k (wr k (x * y)))
  | .quo => match iEq y 0 with | true => none | false => some (.int k (wr k (x.tdiv y)))
  | .rem => match iEq y 0 with | true => none | false => some (.int k (x.tmod y))
  | .eql => some (.bool (iEq x y))
  | .neq => some (.bool (!iEq x y))
  | .lss => some (.bool (!iLe y x))
  | .leq => some (.bool (iLe x y))
  | .gtr => some (.bool (!iLe x y))
  | .geq => some (.bool (iLe y x))
  | op => iBits op k x y
noncomputable def iShift (op : BinOp) (k : IntKind) (x y : Int) : Option SV :=
  match iLe 0 y with
  | false => none
  | true =>
    let n := min y.toNat k.bits
    match op with
    | .shl => some (.int k (wr k (x * (2 ^ n : Nat))))
    | .shr => some (.int k (x.fdiv (2 ^ n : Nat)))
    | _ => none

/-! strings -/
noncomputable def natsLt : List Nat → List Nat → Bool
  | _, [] => false
  | [], _ :: _ => true
  | a :: x, b :: y => Nat.blt a b || (Nat.beq a b && natsLt x y)
noncomputable def sBin (op : BinOp) (n p m q : Nat) : Option SV :=
  let eq := Nat.beq n m && Nat.beq p q
  let lt := natsLt (unpk n p) (unpk m q)
  match op with
  | .add => match Nat.ble (n + m) 9223372036854775807 with
    | true => some (.str (n + m) (p + q * 256 ^ n))
    | false => none
  | .eql => some (.bool eq)
  | .neq => some (.bool (!eq))
  | .lss => some (.bool lt)
  | .leq => some (.bool (lt || eq))
  | .gtr => some (.bool (!(lt || eq)))
  | .geq => some (.bool (!lt))
  | _ => none
noncomputable def sAt (n p i : Nat) : Option SV :=
  match Nat.blt i n with
  | true => some (.int .u8 (.ofNat (p / 256 ^ i % 256)))
  | false => none
noncomputable def sCut (p l h : Nat) : SV := .str (h - l) (p / 256 ^ l % 256 ^ (h - l))
noncomputable def bytesOf (n p : Nat) : List SV := (unpk n p).map fun b => .int .u8 (.ofNat b)
noncomputable def packOf : List SV → Option Nat
  | [] => some 0
  | .int .u8 (.ofNat b) :: l => match Nat.ble b 255, packOf l with
    | true, some p => some (b + 256 * p)
    | _, _ => none
  | _ => none

/-! lanes: an operation is done for each value of the row -/
noncomputable def SV.lit : SV → Bool
  | .int .. => true
  | .str .. => true
  | _ => false
noncomputable def SV.same : SV → SV → Bool
  | .int k a, .int k' b => kEq k k' && iEq a b
  | .str n p, .str m q => Nat.beq n m && Nat.beq p q
  | .bool a, .bool b => a == b
  | _, _ => false
noncomputable def SV.isLan : SV → Bool
  | .lan _ => true
  | _ => false
/-- One value, if it is the same in all lanes. -/
noncomputable def packL : List SV → Option SV
  | [] => none
  | v :: l => match l.all (SV.same v) with
    | true => some v
    | false => match v.lit && l.all SV.lit with
      | true => some (.lan (v :: l))
      | false => none
/-- The first lane's values, and the other lanes'. -/
noncomputable def headsL : List SV → Option (List SV × List SV)
  | [] => some ([], [])
  | v :: r => match headsL r with
    | none => none
    | some (h, t) => match v with
      | .lan [] => none
      | .lan (a :: l) => some (a :: h, .lan l :: t)
      | v => some (v :: h, v :: t)
noncomputable def eachL (f : List SV → Option SV) : Nat → List SV → Option (List SV)
  | 0, _ => some []
  | n + 1, l => match headsL l with
    | none => none
    | some (h, t) => match f h, eachL f n t with
      | some u, some us => some (u :: us)
      | _, _ => none
noncomputable def lanesN : List SV → Nat
  | [] => 0
  | .lan l :: _ => l.length
  | _ :: r => lanesN r
noncomputable def lanes (f : List SV → Option SV) (l : List SV) : Option SV := (eachL f (lanesN l) l).bind packL
/-- The cells of a row of strings, all of one length. -/
noncomputable def byteAt (n i : Nat) : List SV → Option SV
  | [.str m p] => match Nat.beq m n with
    | true => sAt m p i
    | false => none
  | _ => none
noncomputable def bytesLF (l : SV) (n : Nat) : Nat → Nat → Option (List SV)
  | 0, _ => some []
  | k + 1, i => match lanes (byteAt n i) [l], bytesLF l n k (i + 1) with
    | some v, some vs => some (v :: vs)
    | _, _ => none
noncomputable def lenL : List SV → Option Nat
  | .str n _ :: _ => some n
  | _ => none
noncomputable def packF (l : List SV) : Option SV := (packOf l).map fun p => .str l.length p

noncomputable def atF : List SV → Option SV
  | [.str n p, .int _ (.ofNat i)] => sAt n p i
  | _ => none
noncomputable def rngL : List SV → Option (List (Int × Int))
  | [] => some []
  | .int .i64 a :: l => match rngL l with
    | some r => some ((a, a) :: r)
    | none => none
  | _ => none
/-- Between which numbers it lies, in each lane. -/
noncomputable def rngOf (n : Nat) : SV → Option (List (Int × Int))
  | .int .i64 a => some (List.replicate n (a, a))
  | .lan l => rngL l
  | .rng l => some l
  | _ => none
noncomputable def rngN : SV → SV → Nat
  | .rng l, _ => l.length
  | _, .rng l => l.length
  | _, _ => 0
noncomputable def isRng : SV → Bool
  | .rng _ => true
  | _ => false
noncomputable def okI (a : Int) : Bool := iLe (-9223372036854775808) a && iLe a 9223372036854775807
noncomputable def zipR (f : Int × Int → Int × Int → Option (Int × Int)) : List (Int × Int) → List (Int × Int) → Option (List (Int × Int))
  | a :: l, b :: k => match f a b, zipR f l k with
    | some c, some r => some (c :: r)
    | _, _ => none
  | _, _ => some []
noncomputable def zipT (f : Int × Int → Int × Int → Bool) : List (Int × Int) → List (Int × Int) → Bool
  | a :: l, b :: k => f a b && zipT f l k
  | _, _ => true
noncomputable def addR (a b : Int × Int) : Option (Int × Int) := match okI (a.1 + b.1), okI (a.2 + b.2) with
  | true, true => some (a.1 + b.1, a.2 + b.2)
  | _, _ => none
noncomputable def subR (a b : Int × Int) : Option (Int × Int) := match okI (a.1 - b.2), okI (a.2 - b.1) with
  | true, true => some (a.1 - b.2, a.2 - b.1)
  | _, _ => none
noncomputable def minI (a b : Int) : Int := match iLe a b with | true => a | false => b
noncomputable def minR (a b : Int × Int) : Option (Int × Int) := some (minI a.1 b.1, minI a.2 b.2)
noncomputable def ltT (a b : Int × Int) : Bool := !iLe b.1 a.2     -- surely less
noncomputable def geT (a b : Int × Int) : Bool := iLe b.2 a.1     -- surely not less
noncomputable def decR (l k : List (Int × Int)) (yes no : Int × Int → Int × Int → Bool) : Option SV :=
  match zipT yes l k with
  | true => some (.bool true)
  | false => match zipT no l k with
    | true => some (.bool false)
    | false => none
noncomputable def rngBin (op : BinOp) (x y : SV) : Option SV :=
  match isRng x || isRng y with
  | false => none
  | true => match rngOf (rngN x y) x, rngOf (rngN x y) y with
    | some l, some k => match op with
      | .add => (zipR addR l k).map .rng
      | .sub => (zipR subR l k).map .rng
      | .lss => decR l k ltT geT
      | .geq => decR l k geT ltT
      | .gtr => decR k l ltT geT
      | .leq => decR k l geT ltT
      | _ => none
    | _, _ => none
noncomputable def rngMin (x y : SV) : Option SV :=
  match isRng x || isRng y with
  | false => none
  | true => match rngOf (rngN x y) x, rngOf (rngN x y) y with
    | some l, some k => (zipR minR l k).map .rng
    | _, _ => none
/-! equality -/
noncomputable def plain (σ : St) (b : Nat) : Bool :=
  match σ.get b with
  | .cells _ _ fz _ => Nat.beq fz 0
  | _ => false
noncomputable def eqF (P : Program) (e : TypeId → SV → SV → Option Bool) (a b : List SV) : List Field → Option Bool
  | [] => some true
  | f :: fs => match f.name == "_" with
    | true => eqF P e a b fs
    | false => match partS P f.type a f.offset, partS P f.type b f.offset with
      | some x, some y => match e f.type x y with
        | some true => eqF P e a b fs
        | some false => some false
        | none => none
      | _, _ => none
noncomputable def eqA (P : Program) (e : SV → SV → Option Bool) (el : TypeId) (s : Nat) (a b : List SV) : Nat → Nat → Option Bool
  | 0, _ => some true
  | n + 1, i => match partS P el a (i * s), partS P el b (i * s) with
    | some x, some y => match e x y with
      | some true => eqA P e el s a b n (i + 1)
      | some false => some false
      | none => none
    | _, _ => none
noncomputable def eqv (P : Program) (σ : St) : Nat → TypeId → SV → SV → Option Bool
  | 0, _, _, _ => none
  | d + 1, t, x, y =>
    match und P t, x, y with
    | some .bool, .bool a, .bool b => some (a == b)
    | some (.int _), .int k a, .int k' b => match kEq k k' with
      | true => some (iEq a b)
      | false => none
    | some .string, .str n p, .str m q => some (Nat.beq n m && Nat.beq p q)
    | some (.pointer _), .nilPtr, .nilPtr => some true
    | some (.pointer _), .nilPtr, .ptr _ _ => some false
    | some (.pointer _), .ptr _ _, .nilPtr => some false
    | some (.pointer e), .ptr a o, .ptr b r => match sz P e with
      | some (_ + 1) => match Nat.beq a b with
        | true => some (Nat.beq o r)
        | false => match plain σ a, plain σ b with
          | true, true => some false
          | _, _ => none
      | _ => none
    | some (.interface _), .nilIface, .nilIface => some true
    | some (.interface _), .nilIface, .iface _ _ => some false
    | some (.interface _), .iface _ _, .nilIface => some false
    | some (.interface _), .iface tx vx, .iface ty vy => match Nat.beq tx ty with
      | false => some false
      | true => match inf P tx with
        | some i => match i.comparable with
          | true => eqv P σ d tx vx vy
          | false => none
        | none => none
    | some (.slice _), .nilSlice, .nilSlice => some true
    | some (.slice _), .nilSlice, .slice _ _ _ _ => some false
    | some (.slice _), .slice _ _ _ _, .nilSlice => some false
    | some (.map _ _), .nilMap, .nilMap => some true
    | some (.map _ _), .nilMap, .map _ => some false
    | some (.map _ _), .map _, .nilMap => some false
    | some (.func _ _ _), .nilFunc, .nilFunc => some true
    | some (.func _ _ _), .nilFunc, .func _ _ _ => some false
    | some (.func _ _ _), .func _ _ _, .nilFunc => some false
    | some (.struct fs), .agg a, .agg b => match P.stoodInHeld t with
      | false => eqF P (eqv P σ d) a b fs.toList
      | true => none
    | some (.array n el), .agg a, .agg b => match sz P el with
      | some s => eqA P (eqv P σ d el) el s a b n 0
      | none => none
    | _, _, _ => none
noncomputable def isC : Operand → Bool
  | .const _ => true
  | _ => false
noncomputable def guardEq (P : Program) (t : TypeId) (x y : Operand) : SV → SV → Bool
  | .nilIface, .nilIface => isC x || isC y || (match und P t with
    | some (.interface ms) => ms.isEmpty
    | _ => false)
  | .agg _, .agg _ => !P.eqGuardType P.depth t
  | .agg _, _ => false
  | _, .agg _ => false
  | _, _ => true
theorem low_shr {x n r i : Nat} (h : x % 2 ^ n = r) (hi : Nat.ble i n = true) : (x / 2 ^ i) % 2 ^ (n - i) = r / 2 ^ i := by
  have hi := Nat.le_of_ble_eq_true hi
  subst h
  have e : 2 ^ n = 2 ^ i * 2 ^ (n - i) := by rw [← Nat.pow_add]; congr 1; omega
  rw [e, Nat.mod_mul, Nat.add_mul_div_left _ _ (Nat.two_pow_pos i), Nat.div_eq_of_lt (Nat.mod_lt _ (Nat.two_pow_pos i)), Nat.zero_add]
/-- With a number of which only the lowest bits are known. -/
noncomputable def lowBin (op : BinOp) (x n r : Nat) (h : x % 2 ^ n = r) (k : IntKind) (b : Nat) : Option SV :=
  match op with
  | .shr => match hi : Nat.ble b n, Nat.ble b 64 with
    | true, true => some (.low (x / 2 ^ b) (n - b) (r / 2 ^ b) (low_shr h hi))
    | _, _ => none
  | .rem => match kEq k .i64, Nat.beq b 2, Nat.ble 1 n with
    | true, true, true => some (.int .i64 (.ofNat (r % 2)))
    | _, _, _ => none
  | .lss => match kEq k .i64, Nat.beq b 0 with
    | true, true => some (.bool false)
    | _, _ => none
  | _ => none
noncomputable def bin (P : Program) (σ : St) (op : BinOp) (t : TypeId) (xo yo : Operand) (x y : SV) : Option SV :=
  match x, y with
  | .low x n r h, .int k (.ofNat b) => lowBin op x n r h k b
  | .int k a, .int k' b => match op with
    | .shl => iShift .shl k a b
    | .shr => iShift .shr k a b
    | op => match kEq k k' with
      | true => iBin op k a b
      | false => none
  | .str n p, .str m q => sBin op n p m q
  | x, y => match guardEq P t xo yo x y with
    | false => none
    | true => match op with
      | .eql => (eqv P σ 8 t x y).map .bool
      | .neq => (eqv P σ 8 t x y).map fun b => .bool (!b)
      | _ => none
noncomputable def binF (P : Program) (σ : St) (op : BinOp) (t : TypeId) (xo yo : Operand) : List SV → Option SV
  | [x, y] => bin P σ op t xo yo x y
  | _ => none
noncomputable def binG (P : Program) (σ : St) (op : BinOp) (t : TypeId) (xo yo : Operand) (n : Nat) (l : List SV) : Option SV := bin P σ op t xo yo (.agg (l.take n)) (.agg (l.drop n))
noncomputable def binL (P : Program) (σ : St) (op : BinOp) (t : TypeId) (xo yo : Operand) (x y : SV) : Option SV :=
  match bin P σ op t xo yo x y with
  | some v => some v
  | none => match x, y with
    | .agg a, .agg b => lanes (binG P σ op t xo yo a.length) (a ++ b)
    | x, y => match rngBin op x y with
      | some v => some v
      | none => lanes (binF P σ op t xo yo) [x, y]
noncomputable def un (op : UnOp) (x : SV) : Option SV :=
  match op, x with
  | .neg, .int k n => some (.int k (wr k (0 - n)))
  | .xor, .int k n => iBits .xor k (if k.signed then -1 else k.max) n
  | .not, .bool b => some (.bool (!b))
  | _, _ => none

noncomputable def unF (op : UnOp) : List SV → Option SV
  | [x] => un op x
  | _ => none
noncomputable def unL (op : UnOp) (x : SV) : Option SV :=
  match un op x with
  | some v => some v
  | none => lanes (unF op) [x]
/-! building -/
noncomputable def fillS (places : List (Nat × Nat)) (cells : List SV) : List (Nat × SV) → Option (List SV)
  | [] => some cells
  | (i, v) :: rest => match places[i]? with
    | none => none
    | some (off, size) => match Nat.beq v.cells.length size, Nat.ble (off + v.cells.length) cells.length with
      | true, true => fillS places (cells.take off ++ v.cells ++ cells.drop (off + size)) rest
      | _, _ => none
noncomputable def placesS (P : Program) : List Field → Option (List (Nat × Nat))
  | [] => some []
  | f :: fs => match sz P f.type, placesS P fs with
    | some n, some l => some ((f.offset, n) :: l)
    | _, _ => none
noncomputable def placesA (size : Nat) : Nat → Nat → List (Nat × Nat)
  | 0, _ => []
  | n + 1, i => (i, size) :: placesA size n (i + size)
noncomputable def evP (P : Program) (σ : St) (fr : Fr) : List (Nat × Operand) → Option (List (Nat × SV))
  | [] => some []
  | (i, x) :: xs => match ev P σ fr x, evP P σ fr xs with
    | some v, some vs => some ((i, v) :: vs)
    | _, _ => none
noncomputable def buildV (P : Program) (t : TypeId) (parts : List (Nat × SV)) : Option SV :=
  match zeroV P t, und P t with
  | some z, some (.struct fs) => (placesS P fs.toList).bind fun pl => (fillS pl z.cells parts).map .agg
  | some z, some (.array n e) => (sz P e).bind fun s => (fillS (placesA s n 0) z.cells parts).map .agg
  | _, _ => none
noncomputable def repC (z : List SV) : Nat → List SV
  | 0 => []
  | n + 1 => z ++ repC z n

/-! slices -/
noncomputable def loN : Option SV → Option Nat
  | none => some 0
  | some (.int _ (.ofNat l)) => some l
  | _ => none
noncomputable def hiN (d : Nat) : Option SV → Option Nat
  | none => some d
  | some (.int _ (.ofNat h)) => some h
  | _ => none
/-- Does the block hold so many cells? -/
noncomputable def roomS (σ : St) (b n : Nat) : Bool :=
  match σ.get b with
  | .cells _ nn _ _ => Nat.ble n nn
  | _ => false
noncomputable def cut (P : Program) (t : TypeId) (σ : St) (x : SV) (lo hi : Option SV) : Option SV :=
  match und P t, x with
  | some .string, .str n p =>
    match loN lo, hiN n hi with
    | some l, some h => match Nat.ble l h, Nat.ble h n with
      | true, true => some (sCut p l h)
      | _, _ => none
    | _, _ => none
  | some (.slice e), .nilSlice =>
    match loN lo, hiN 0 hi, sz P e with
    | some 0, some 0, some _ => some .nilSlice
    | _, _, _ => none
  | some (.slice e), .slice b off len cap =>
    match loN lo, hiN len hi, sz P e with
    | some l, some h, some s => match Nat.ble l h, cap with
      | true, .ex c => match Nat.ble h c with
        | true => some (.slice b (off + l * s) (h - l) (.ex (c - l)))
        | false => none
      | true, .op s' => match Nat.beq s s', Nat.ble h len || roomS σ b (off + h * s) with
        | true, true => some (.slice b (off + l * s) (h - l) (.op s))
        | _, _ => none
      | _, _ => none
    | _, _, _ => none
  | some (.array n e), .ptr b off =>
    match loN lo, hiN n hi, sz P e with
    | some l, some h, some s => match Nat.ble l h, Nat.ble h n with
      | true, true => some (.slice b (off + l * s) (h - l) (.ex (n - l)))
      | _, _ => none
    | _, _, _ => none
  | _, _ => none
noncomputable def optAs : Option SV → SV → Option SV
  | none, _ => none
  | some _, v => some v
noncomputable def cutF (P : Program) (t : TypeId) (σ : St) (lo hi : Option SV) : List SV → Option SV
  | [.str n p, l, h] => match und P t with
    | some .string => cut P t σ (.str n p) (optAs lo l) (optAs hi h)
    | _ => none
  | _ => none
noncomputable def cutL (P : Program) (t : TypeId) (σ : St) (x : SV) (lo hi : Option SV) : Option SV :=
  match cut P t σ x lo hi with
  | some v => some v
  | none => lanes (cutF P t σ lo hi) [x, lo.getD (.bool false), hi.getD (.bool false)]
/-- 's[l:h:m]'. -/
noncomputable def cut3 (P : Program) (t : TypeId) (x : SV) (lo : Option SV) (hi mx : SV) : Option SV :=
  match und P t, x with
  | some (.slice e), .slice b off len cap =>
    match loN lo, hiN 0 (some hi), hiN 0 (some mx), sz P e with
    | some l, some h, some n, some s => match Nat.ble l h, Nat.ble h n, (match cap with | .ex c => Nat.ble n c | .op _ => Nat.ble n len) with
      | true, true, true => some (.slice b (off + l * s) (h - l) (.ex (n - l)))
      | _, _, _ => none
    | _, _, _, _ => none
  | _, _ => none
/-- The cells of what is appended or copied. -/
noncomputable def srcC (σ : St) (s : Nat) : SV → Nat → Option (List SV)
  | .nilSlice, 0 => some []
  | .slice b off _ _, n => loadC σ b off (n * s)
  | .str m p, n => match Nat.beq s 1, Nat.ble n m with
    | true, true => some (bytesOf n (p % 256 ^ n))
    | _, _ => none
  | .lan l, n => match Nat.beq s 1, lenL l with
    | true, some m => match Nat.ble n m with
      | true => bytesLF (.lan l) m n 0
      | false => none
    | _, _ => none
  | _, _ => none
noncomputable def lenF : List SV → Option SV
  | [.str n _] => some (.int .i64 (.ofNat n))
  | _ => none
noncomputable def lenV : SV → Option Nat
  | .nilSlice => some 0
  | .slice _ _ n _ => some n
  | .str n _ => some n
  | .lan l => match lanes lenF [.lan l] with
    | some (.int .i64 (.ofNat n)) => some n
    | _ => none
  | _ => none
noncomputable def blkN : Blk → Option (TypeId × Nat × Nat × Tr SV)
  | .cells ty n fz c => some (ty, n, fz, c)
  | _ => none
noncomputable def growS (P : Program) (σ : St) (e k n : Nat) (new : List SV) (s : SV) : Option (SV × St) :=
  match zeroV P e with
  | none => none
  | some z => match Nat.beq z.cells.length (k + 1), Nat.ble (P.bytesOf e) 4096, new.all SV.one, s with
    | true, true, true, .nilSlice => match Nat.ble n 1000000 with
      | true => some (.slice σ.next 0 n (.op (k + 1)), σ.new (.cells e new.length 0 (fromL new)))
      | false => none
    | true, true, true, .slice b off len cap => match blkN (σ.get b), Nat.ble (len + n) 1000000 with
      | some (ty, nn, fz, c), true => match cap with
        | .ex c0 => match Nat.ble (len + n) c0 with
          | true => (storeC σ b (off + len * (k + 1)) new).map fun σ' => (.slice b off (len + n) cap, σ')
          | false => match loadC σ b off (len * (k + 1)) with
            | some old => match old.all SV.one with
              | true => some (.slice σ.next 0 (len + n) (.op (k + 1)), σ.new (.cells e (old ++ new).length 0 (fromL (old ++ new))))
              | false => none
            | none => none
        | .op s' => match Nat.beq s' (k + 1), Nat.beq ty e, Nat.ble (off + len * (k + 1) + n * (k + 1)) nn with
          | true, true, true => (storeC σ b (off + len * (k + 1)) new).map fun σ' => (.slice b off (len + n) cap, σ')
          | true, true, false => match Nat.beq (off + len * (k + 1)) nn, Nat.ble fz 1, Nat.beq off 0 && readable (lst c nn 0) with
            | true, true, true => some (.slice σ.next 0 (len + n) (.op (k + 1)), (σ.put b .dead).new (.cells e (nn + new.length) fz (putL new c nn)))
            | true, true, false => match loadC σ b off (len * (k + 1)) with
              | some old => some (.slice σ.next 0 (len + n) (.op (k + 1)), (σ.put b .dead).new (.cells e (old ++ new).length fz (fromL (old ++ new))))
              | none => none
            | _, _, _ => none
          | _, _, _ => none
      | _, _ => none
    | _, _, _, _ => none
noncomputable def appendS (P : Program) (σ : St) (sT xT : TypeId) (s x : SV) : Option (SV × St) :=
  match und P sT, (match und P xT with | some (.int _) => none | r => r) with
  | some (.slice e), some _ => match sz P e, lenV x with
    | some (k + 1), some n => match srcC σ (k + 1) x n with
      | some new => match n with
        | 0 => match s with
          | .nilSlice => some (.nilSlice, σ)
          | .slice b o l c => some (.slice b o l c, σ)
          | _ => none
        | n => growS P σ e k n new s
      | none => none
    | _, _ => none
  | _, _ => none
noncomputable def copyS (P : Program) (σ : St) (dT : TypeId) (d s : SV) : Option (SV × St) :=
  match und P dT with
  | some (.slice e) => match sz P e, lenV s, d with
    | some k, some n, .nilSlice => some (.int .i64 0, σ)
    | some k, some n, .slice b off len _ =>
      let m := Nat.min n len
      (srcC σ k s m).bind fun cs => (storeC σ b off cs).map fun σ' => (.int .i64 (.ofNat m), σ')
    | _, _, _ => none
  | _ => none

/-! maps -/
noncomputable def keyEq : SV → SV → Option Bool
  | .int k a, .int k' b => match kEq k k' with
    | true => some (iEq a b)
    | false => none
  | .str n p, .str m q => some (Nat.beq n m && Nat.beq p q)
  | _, _ => none
noncomputable def findK (k : SV) : List (SV × SV × Nat) → Nat → Option (Option (Nat × SV))
  | [], _ => some none
  | (k', v, _) :: es, i => match keyEq k k' with
    | some true => some (some (i, v))
    | some false => findK k es (i + 1)
    | none => none
noncomputable def keyT (P : Program) (t : TypeId) (k : SV) : Bool :=
  match und P t, k with
  | some (.int _), .int _ _ => true
  | some .string, .str _ _ => true
  | _, _ => false
noncomputable def lookupS (P : Program) (σ : St) (t : TypeId) (x k : SV) (ok : Bool) : Option SV :=
  match und P t with
  | some (.map kt e) => match keyT P kt k, (match x with
      | .nilMap => some []
      | .map b => (match σ.get b with | .map es _ => some es | _ => none)
      | _ => none) with
    | true, some es => match findK k es 0 with
      | some (some (_, v)) => some (match ok with | true => .tuple [v, .bool true] | false => v)
      | some none => (zeroV P e).map fun z => match ok with | true => .tuple [z, .bool false] | false => z
      | none => none
    | _, _ => none
  | _ => none
noncomputable def setAt (k v : SV) : List (SV × SV × Nat) → Nat → List (SV × SV × Nat)
  | [], _ => []
  | (_, _, b) :: es, 0 => (k, v, b) :: es
  | e :: es, i + 1 => e :: setAt k v es i
noncomputable def eraseAt : List (SV × SV × Nat) → Nat → List (SV × SV × Nat)
  | [], _ => []
  | _ :: es, 0 => es
  | e :: es, i + 1 => e :: eraseAt es i
noncomputable def updateS (P : Program) (σ : St) (t : TypeId) (m k v : SV) : Option St :=
  match und P t, m with
  | some (.map kt _), .map b => match keyT P kt k, σ.get b with
    | true, .map es clk => match findK k es 0 with
      | some (some (i, _)) => some (σ.put b (.map (setAt k v es i) clk))
      | some none => some (σ.put b (.map (es ++ [(k, v, clk)]) (clk + 1)))
      | none => none
    | _, _ => none
  | _, _ => none
noncomputable def deleteS (P : Program) (σ : St) (t : TypeId) (m k : SV) : Option St :=
  match und P t, m with
  | some (.map kt _), .nilMap => match keyT P kt k with
    | true => some σ
    | false => none
  | some (.map kt _), .map b => match keyT P kt k, σ.get b with
    | true, .map es clk => match findK k es 0 with
      | some (some (i, _)) => some (σ.put b (.map (eraseAt es i) clk))
      | some none => some σ
      | none => none
    | _, _ => none
  | _, _ => none

noncomputable def clearS (P : Program) (σ : St) (t : TypeId) (x : SV) : Option St :=
  match und P t, x with
  | some (.slice _), .nilSlice => some σ
  | some (.slice e), .slice b off n _ => match n with
    | 0 => some σ
    | n + 1 => match zeroV P e with
      | some z => storeC σ b off (repC z.cells (n + 1))
      | none => none
  | _, _ => none

/-- 'append(s, make([]T, n)...)' where there is no room: the number stands for the zeros. -/
noncomputable def appendZ (P : Program) (σ : St) (sT xT : TypeId) (s x : SV) : Option (SV × St) :=
  match und P sT, und P xT, s, x with
  | some (.slice e), some (.int _), .slice b off len (.ex c0), .int _ (.ofNat n) => match sz P e, zeroV P e, Nat.ble 1 n && Nat.blt c0 (len + n) && Nat.ble (len + n) 1000000 && Nat.ble (P.bytesOf e) 4096 with
    | some (k + 1), some z, true => match Nat.beq z.cells.length (k + 1) && z.cells.all SV.one, loadC σ b off (len * (k + 1)) with
      | true, some old => match old.all SV.one with
        | true => some (.slice σ.next 0 (len + n) (.op (k + 1)), σ.new (.cells e (old ++ repC z.cells n).length 0 (fromL (old ++ repC z.cells n))))
        | false => none
      | _, _ => none
    | _, _, _ => none
  | _, _, _, _ => none
noncomputable def appendX (P : Program) (σ : St) (sT xT : TypeId) (s x : SV) : Option (SV × St) :=
  match appendS P σ sT xT s x with
  | some p => some p
  | none => appendZ P σ sT xT s x

/-! conversions, interfaces -/
noncomputable def conv (P : Program) (σ : St) (src dst : TypeId) (x : SV) : Option (SV × St) :=
  match und P src, und P dst, x with
  | some _, some (.int k), .int _ n => some (.int k (wr k n), σ)
  | some _, some .string, .str n p => some (.str n p, σ)
  | some _, some (.slice e), .str n p => match und P e with
    | some (.int .u8) => some (.slice σ.next 0 n (.op 1), σ.new (.cells e n 1 (fromL (bytesOf n p))))
    | _ => none
  | some (.slice _), some (.slice e), .slice b off len cap => match Nat.beq src dst, und P e, σ.get b with
    | true, some (.int .u8), .cells ty n 0 c => some (.slice b off len cap, σ.put b (.cells ty n 1 c))
    | _, _, _ => none
  | some (.slice e), some .string, .nilSlice => match und P e with
    | some (.int .u8) => some (.str 0 0, σ)
    | _ => none
  | some (.slice e), some .string, .slice b off len _ => match und P e with
    | some (.int .u8) => match loadC σ b off len with
      | some l => (packOf l).map fun p => (.str len p, σ)
      | none => none
    | _ => none
  | _, _, _ => none
/-- What leaves the memory as it is. -/
noncomputable def convF (P : Program) (src dst : TypeId) : List SV → Option SV
  | [.int _ n] => match und P src, und P dst with
    | some _, some (.int k) => some (.int k (wr k n))
    | _, _ => none
  | [.str n p] => match und P src, und P dst with
    | some _, some .string => some (.str n p)
    | _, _ => none
  | _ => none
noncomputable def convL (P : Program) (σ : St) (src dst : TypeId) (x : SV) : Option (SV × St) :=
  match conv P σ src dst x with
  | some r => some r
  | none => match x with
    | .lan l => match und P dst with
      | some (.slice e) => match und P src, und P e, lenV (.lan l) with
        | some _, some (.int .u8), some n => match bytesLF (.lan l) n n 0 with
          | some cs => some (.slice σ.next 0 n (.op 1), σ.new (.cells e n 1 (fromL cs)))
          | none => none
        | _, _, _ => none
      | _ => (lanes (convF P src dst) [.lan l]).map fun v => (v, σ)
    | .slice b off len cap => match und P src, und P dst with
      | some (.slice e), some .string => match und P e with
        | some (.int .u8) => match loadC σ b off len with
          | some l => (lanes packF l).map fun v => (v, σ)
          | none => none
        | _ => none
      | _, _ => none
    | _ => none
noncomputable def okV (ok : Bool) (v : SV) : SV :=
  match ok with
  | true => .tuple [v, .bool true]
  | false => v
noncomputable def failV (P : Program) (t : TypeId) (ok : Bool) : Option SV :=
  match ok with
  | true => (zeroV P t).map fun z => .tuple [z, .bool false]
  | false => none
/-- Is a wanted method missing? ('Instr.missingMethod' looks at the names' letters, too: the kernel stands still there.) -/
noncomputable def lacks (want : Array (String × TypeId)) (got : Array Method) : Bool :=
  match want.toList.filter fun (name, sig) => !got.any fun m => m.name == name && m.sig == sig with
  | [] => false
  | _ :: _ => true
noncomputable def assertS (P : Program) (x : SV) (t : TypeId) (ok : Bool) : Option SV :=
  match und P t, x with
  | some (.interface _), .nilIface => failV P t ok
  | some (.interface want), .iface u v => match inf P u with
    | some i => match lacks want i.methods with
      | false => some (okV ok (.iface u v))
      | true => failV P t ok
    | none => none
  | some _, .nilIface => failV P t ok
  | some _, .iface u v => match Nat.beq u t with
    | true => some (okV ok v)
    | false => failV P t ok
  | _, _ => none
/-- The method of a value behind an interface: the function, and what it is called on. -/
noncomputable def methodS (P : Program) (σ : St) (t : TypeId) (v : SV) (name : String) : Option (FuncId × SV) :=
  match inf P t with
  | some i => match i.methods.find? (·.name == name) with
    | some m => match m.path.toList.isEmpty, m.func, und P t with
      | true, some (f, true), some (.pointer _) => some (f, v)
      | true, some (f, false), some (.pointer e) => match v with
        | .ptr b o => (loadV P σ e b o).map fun x => (f, x)
        | _ => none
      | true, some (f, false), some _ => some (f, v)
      | _, _, _ => none
    | none => none
  | none => none
noncomputable def bodyful (P : Program) (f : FuncId) : Bool :=
  match fnc P f with
  | some fn => fn.body.isSome && !(fn.name == "runtime.NumGoroutine")
  | none => false
/-- The library's functions without a Go body that are known here. -/
inductive Known where
  | indexByte
  | countString
  | indexByteString
  | indexString
  | cmpString
  | typeOf
  | comparable
  | mapsClone
  | overlaps (t : TypeId)
/-- A row that can be written, and is not empty. -/
noncomputable def plain1 (σ : St) (b : Nat) : Bool :=
  match σ.get b with
  | .cells _ n fz _ => Nat.beq fz 0 && Nat.ble 1 n
  | _ => false
noncomputable def two2 : List TypeId → List TypeId → Bool
  | [t, u], [_] => Nat.beq t u
  | _, _ => false
noncomputable def known (P : Program) (f : FuncId) : Option Known :=
  match fnc P f with
  | some fn => match fn.body.isNone && (Extern.findNext fn).isNone with
    | true => if fn.name == "internal/bytealg.IndexByte" then some .indexByte
      else if fn.name == "internal/bytealg.IndexByteString" then some .indexByteString
      else if fn.name == "internal/bytealg.CountString" then some .countString
      else if fn.name == "internal/bytealg.IndexString" then some .indexString
      else if fn.name == "internal/bytealg.abigen_runtime_cmpstring" then some .cmpString
      else if fn.name == "internal/reflectlite.TypeOf" then some .typeOf
      else if fn.name == "(internal/reflectlite.rtype).Comparable" then some .comparable
      else if fn.name == "maps.clone" then some .mapsClone
      else if fn.origin == "slices.overlaps" && (Extern.allGenericRows.lookup fn.name).isNone && (Extern.allTypedRows.lookup fn.name).isNone && (Extern.allRows.lookup fn.name).isNone && two2 fn.params.toList fn.resultTypes.toList && !(fn.name == "runtime.NumGoroutine") then some (.overlaps (fn.params[0]?.getD 0)) else none
    | false => none
  | none => none
noncomputable def indexNat (c : Nat) : List Nat → Nat → Option Nat
  | [], _ => none
  | b :: l, i => match Nat.beq b c with
    | true => some i
    | false => indexNat c l (i + 1)
noncomputable def countNat (c : Nat) : List Nat → Nat → Nat
  | [], n => n
  | b :: l, n => match Nat.beq b c with
    | true => countNat c l (n + 1)
    | false => countNat c l n
noncomputable def idxV : Option Nat → Int
  | some i => .ofNat i
  | none => -1
noncomputable def cmpNat : List Nat → List Nat → Int
  | [], [] => 0
  | [], _ :: _ => -1
  | _ :: _, [] => 1
  | a :: as, b :: bs => match Nat.blt a b with
    | true => -1
    | false => match Nat.blt b a with
      | true => 1
      | false => cmpNat as bs
noncomputable def extS (P : Program) (σ : St) (k : Known) (args : List SV) : Option SV :=
  match k, args with
  | .indexByte, [.slice b off n _, .int .u8 (.ofNat c)] => match Nat.ble c 255, loadC σ b off n with
    | true, some l => match packOf l with
      | some p => some (.int .i64 (idxV (indexNat c (unpk n p) 0)))
      | none => none
    | _, _ => none
  | .indexByte, [.nilSlice, .int .u8 (.ofNat _)] => some (.int .i64 (-1))
  | .indexByteString, [.str n p, .int .u8 (.ofNat c)] => match Nat.ble c 255 with
    | true => some (.int .i64 (idxV (indexNat c (unpk n p) 0)))
    | false => none
  | .countString, [.str n p, .int .u8 (.ofNat c)] => match Nat.ble c 255 with
    | true => some (.int .i64 (.ofNat (countNat c (unpk n p) 0)))
    | false => none
  | .cmpString, [.str n p, .str k q] => some (.int .i64 (cmpNat (unpk n p) (unpk k q)))
  | .typeOf, [.iface t _] => match P.cutTypes.find? (·.1 == "internal/reflectlite.rtype") with
    | some (_, rt) => some (.iface rt (.agg [.opq ⟨P.globals.size, t, none⟩]))
    | none => none
  | .comparable, [.agg [.opq a]] => match Nat.beq a.block P.globals.size, P.packed a.off, P.holdsPacked P.depth a.off, inf P a.off with
    | true, false, false, some i => some (.bool i.comparable)
    | _, _, _, _ => none
  | .overlaps t, [.slice b _ _ _, .slice b' _ _ _] => match und P t with
    | some (.slice e) => match sz P e, Nat.beq b b', plain σ b, plain1 σ b' with
      | some _, false, true, true => some (.bool false)
      | _, _, _, _ => none
    | _ => none
  | _, _ => none
noncomputable def extF (P : Program) (σ : St) (k : Known) (args : List SV) : Option SV :=
  match k with
  | .indexByteString | .countString | .cmpString => extS P σ k args
  | _ => none
/-- A byte's first place in a block of bytes. -/
noncomputable def indexF (c : Nat) (l : List SV) : Option SV := (packOf l).map fun p => .int .i64 (idxV (indexNat c (unpk l.length p) 0))
noncomputable def extL (P : Program) (σ : St) (k : Known) (args : List SV) : Option SV :=
  match extS P σ k args with
  | some v => some v
  | none => match k, args with
    | .indexByte, [.slice b off n _, .int .u8 (.ofNat c)] => match Nat.ble c 255, loadC σ b off n with
      | true, some l => lanes (indexF c) l
      | _, _ => none
    | _, _ => lanes (extF P σ k) args
/-- What makes a block. -/
noncomputable def extM (σ : St) (k : Known) (args : List SV) : Option (SV × St) :=
  match k, args with
  | .mapsClone, [.iface t (.map b)] => match σ.get b with
    | .map es clk => some (.iface t (.map σ.next), σ.new (.map es clk))
    | _ => none
  | _, _ => none
noncomputable def callS (P : Program) (σ : St) (f : FuncId) (args : List SV) : Option (Nx × St) :=
  match bodyful P f with
  | true => some (.enter f args, σ)
  | false => match known P f with
    | some k => match extM σ k args with
      | some p => some (.val p.1, p.2)
      | none => (extL P σ k args).map fun v => (.val v, σ)
    | none => none
noncomputable def minF : List SV → Option SV
  | [.int k a, .int _ b] => some (.int k (match iLe a b with | true => a | false => b))
  | _ => none
noncomputable def maxF : List SV → Option SV
  | [.int k a, .int _ b] => some (.int k (match iLe b a with | true => a | false => b))
  | _ => none
noncomputable def builtinS (P : Program) (σ : St) (b : Builtin) (ats : List TypeId) (args : List SV) : Option (SV × St) :=
  match b, ats, args with
  | .len, t :: _, x :: _ => match und P t, x with
    | some .string, .str n _ => some (.int .i64 (.ofNat n), σ)
    | some .string, .lan l => (lanes lenF [.lan l]).map fun v => (v, σ)
    | some (.slice _), .nilSlice => some (.int .i64 0, σ)
    | some (.slice _), .slice _ _ n _ => some (.int .i64 (.ofNat n), σ)
    | some (.array n _), _ => some (.int .i64 (.ofNat n), σ)
    | some (.map _ _), .nilMap => some (.int .i64 0, σ)
    | some (.map _ _), .map b => match σ.get b with
      | .map es _ => some (.int .i64 (.ofNat es.length), σ)
      | _ => none
    | _, _ => none
  | .append, [t, u], [s, x] => appendX P σ t u s x
  | .copy, t :: _, [d, s] => copyS P σ t d s
  | .delete, t :: _, [m, k] => (deleteS P σ t m k).map fun σ' => (.undef, σ')
  | .clear, t :: _, [x] => (clearS P σ t x).map fun σ' => (.undef, σ')
  | .min, _, [.int k a, .int _ b] => some (.int k (match iLe a b with | true => a | false => b), σ)
  | .max, _, [.int k a, .int _ b] => some (.int k (match iLe b a with | true => a | false => b), σ)
  | .min, _, [x, y] => (match rngMin x y with | some v => some v | none => lanes minF [x, y]).map fun v => (v, σ)
  | .max, _, [x, y] => (lanes maxF [x, y]).map fun v => (v, σ)
  | .cap, t :: _, [.slice _ _ _ (.ex c)] => match und P t with
    | some (.slice _) => some (.int .i64 (.ofNat c), σ)
    | _ => none
  | _, _, _ => none
noncomputable def oneArg (o : Option SV) : List SV := match o with | some v => [v] | none => []

noncomputable def val (r : Option SV) (σ : St) : Option (Nx × St) := r.map fun v => (.val v, σ)
noncomputable def vst (r : Option (SV × St)) : Option (Nx × St) := r.map fun p => (.val p.1, p.2)
noncomputable def stu (r : Option St) : Option (Nx × St) := r.map fun σ => (.val .undef, σ)
/-- A method that comes from a struct inside of a struct. -/
noncomputable def SV.isAgg : SV → Bool
  | .agg _ => true
  | _ => false
noncomputable def followV (P : Program) : List FieldStep → TypeId → SV → Option (TypeId × SV)
  | [], t, v => some (t, v)
  | s :: r, _, v => match s.deref with
    | true => none
    | false => match und P s.struct with
      | some (.struct fs) => match fs.toList[s.index]? with
        | some f => match partS P f.type v.cells f.offset with
          | some x => match SV.isAgg v with
            | true => followV P r f.type x
            | false => none
          | none => none
        | none => none
      | _ => none
noncomputable def methodP (P : Program) (t : TypeId) (v : SV) (name : String) : Option (FuncId × SV) :=
  match inf P t with
  | some i => match i.methods.find? (·.name == name) with
    | some m => match followV P m.path.toList t v with
      | some (u, x) => match m.func with
        | some (f, b) => match b with
          | true => none
          | false => match und P u with
            | some (.pointer _) => none
            | some _ => some (f, x)
            | none => none
        | none => none
      | none => none
    | none => none
  | none => none
noncomputable def methodA (P : Program) (σ : St) (t : TypeId) (v : SV) (name : String) : Option (FuncId × SV) :=
  match methodS P σ t v name with
  | some r => some r
  | none => methodP P t v name
noncomputable def call (P : Program) (σ : St) (fr : Fr) (c : Call) : Option (Nx × St) :=
  match evL P σ fr c.args.toList with
  | none => none
  | some args => match c.callee with
    | .builtin b => vst (builtinS P σ b c.argTypes.toList args)
    | .invoke r name => match ev P σ fr r with
      | some (.iface t v) => match methodA P σ t v name with
        | some (f, recv) => callS P σ f (recv :: args)
        | none => none
      | _ => none
    | .value f => match ev P σ fr f with
      | some (.func (.func g) first captured) => callS P σ g (first ++ args ++ captured)
      | _ => none
/-- The next entry of a map: where but one may come. -/
noncomputable def nextM (σ : St) (b : Nat) : Option (Nx × St) :=
  match σ.get b with
  | .mnil => some (.val (.tuple [.bool false]), σ)
  | .miter mb since seen last => match σ.get mb with
    | .map es clk => match !seen.isEmpty && !es.isEmpty && es.all (fun e => Nat.ble last e.2.2) with
      | true => none
      | false => match es.filter fun e => !seen.any fun s => Nat.beq s e.2.2 with
        | [] => some (.val (.tuple [.bool false]), σ)
        | [e] => match Nat.blt e.2.2 since with
          | true => some (.val (.tuple [.bool true, e.1, e.2.1]), σ.put b (.miter mb since (seen ++ [e.2.2]) clk))
          | false => none
        | _ => none
    | _ => none
  | _ => none
noncomputable def findB (s : Nat) : List (SV × SV × Nat) → Option (SV × SV × Nat)
  | [] => none
  | e :: es => match Nat.beq e.2.2 s with
    | true => some e
    | false => findB s es
noncomputable def entryS (σ : St) (b : Nat) : Option SV :=
  match σ.get b with
  | .miter mb _ seen last => match seen.getLast?, σ.get mb with
    | some s, .map es clk => match Nat.beq clk last, findB s es with
      | true, some e => some (.tuple [e.1, e.2.1])
      | _, _ => none
    | _, _ => none
  | _ => none
noncomputable def runeAt (n i : Nat) : List SV → Option SV
  | [.str m p] => match Nat.beq m n, Nat.blt (p / 256 ^ i % 256) 128 with
    | true, true => some (.int .i32 (.ofNat (p / 256 ^ i % 256)))
    | _, _ => none
  | _ => none
noncomputable def nextT (σ : St) (b : Nat) : Option (Nx × St) :=
  match σ.get b with
  | .siter n p pos => match Nat.blt pos n with
    | true => match Nat.blt (p / 256 ^ pos % 256) 128 with
      | true => some (.val (.tuple [.bool true, .int .i64 (.ofNat pos), .int .i32 (.ofNat (p / 256 ^ pos % 256))]), σ.put b (.siter n p (pos + 1)))
      | false => none
    | false => some (.val (.tuple [.bool false]), σ)
  | .lsit l n pos => match Nat.blt pos n with
    | true => match lanes (runeAt n pos) [.lan l] with
      | some r => some (.val (.tuple [.bool true, .int .i64 (.ofNat pos), r]), σ.put b (.lsit l n (pos + 1)))
      | none => none
    | false => some (.val (.tuple [.bool false]), σ)
  | _ => none
noncomputable def rangeS (P : Program) (σ : St) (t : TypeId) (v : SV) : Option (Nx × St) :=
  match und P t with
  | some .string => match v with
    | .str n p => some (.val (.ptr σ.next 0), σ.new (.siter n p 0))
    | .lan l => match lenV (.lan l) with
      | some n => some (.val (.ptr σ.next 0), σ.new (.lsit l n 0))
      | none => none
    | _ => none
  | some (.map _ _) => match v with
    | .nilMap => some (.val (.ptr σ.next 0), σ.new .mnil)
    | .map b => match σ.get b with
      | .map _ clk => some (.val (.ptr σ.next 0), σ.new (.miter b clk [] clk))
      | _ => none
    | _ => none
  | _ => none
/-- One operation. -/
noncomputable def evalOp (P : Program) (σ : St) (fr : Fr) (op : Op) : Option (Nx × St) :=
  match op with
  | .move x => val (ev P σ fr x) σ
  | .assign x => val (ev P σ fr x) σ
  | .pick c a b => match ev P σ fr c with
    | some (.bool true) => val (ev P σ fr a) σ
    | some (.bool false) => val (ev P σ fr b) σ
    | _ => none
  | .alloc e => match zeroV P e with
    | some z => (newC σ e z.cells).map fun p => (.val (.ptr p.1 0), p.2)
    | none => none
  | .box e x => match ev P σ fr x with
    | some v => (newC σ e v.cells).map fun p => (.val (.ptr p.1 0), p.2)
    | none => none
  | .build t ps => match evP P σ fr ps.toList with
    | some l => val (buildV P t l) σ
    | none => none
  | .buildSlice t n ps => match evP P σ fr ps.toList, und P t with
    | some l, some (.slice e) => match sz P e, zeroV P e with
      | some s, some z => match Nat.beq z.cells.length s, Nat.ble (n * s) 16777216, fillS (placesA s n 0) (repC z.cells n) l with
        | true, true, some cs => (newC σ e cs).map fun p => (.val (.slice p.1 0 n (.ex n)), p.2)
        | _, _, _ => none
      | _, _ => none
    | _, _ => none
  | .load t a => match ev P σ fr a with
    | some (.ptr b off) => val (loadV P σ t b off) σ
    | some (.opq a) => val (loadG P σ t a) σ
    | _ => none
  | .store t a x => match ev P σ fr a, ev P σ fr x with
    | some (.ptr b off), some v => stu (storeV P σ t b off v)
    | _, _ => none
  | .nilCheck x => match ev P σ fr x with
    | some .nilPtr => none
    | some .nilIface => none
    | some .nilFunc => none
    | some (.func (.method name) first c) => match first with
      | .iface t v :: l => match methodS P σ t v name with
        | some _ => val (some (.func (.method name) (.iface t v :: l) c)) σ
        | none => none
      | _ => none
    | r => val r σ
  | .binOp op t x y _ => match ev P σ fr x, ev P σ fr y with
    | some a, some b => val (binL P σ op t x y a b) σ
    | _, _ => none
  | .unOp op _ x => match ev P σ fr x with
    | some a => val (unL op a) σ
    | none => none
  | .convert s d x => match ev P σ fr x with
    | some a => vst (convL P σ s d a)
    | none => none
  | .makeInterface t x => match und P t, ev P σ fr x with
    | some (.interface _), _ => none
    | some _, some v => some (.val (.iface t v), σ)
    | _, _ => none
  | .makeFunc f a b => match evL P σ fr a.toList, evL P σ fr b.toList with
    | some x, some y => some (.val (.func f x y), σ)
    | _, _ => none
  | .makeMap t r => match r with
    | none => some (.val (.map σ.next), σ.new (.map [] 0))
    | some _ => none
  | .makeSlice t l c => match und P t, ev P σ fr l, ev P σ fr c with
    | some (.slice e), some (.int _ (.ofNat l)), some (.int _ (.ofNat c)) => match sz P e, zeroV P e, Nat.ble l c, Nat.ble c 1000000, Nat.ble (P.bytesOf e) 4096 with
      | some s, some z, true, true, true => match Nat.beq z.cells.length s, newC σ e (repC z.cells c) with
        | true, some (b, σ') => some (.val (.slice b 0 l (.ex c)), σ')
        | _, _ => none
      | _, _, _, _, _ => none
    | _, _, _ => none
  | .slice t x lo hi mx => match mx with
    | none => match ev P σ fr x, evOpt P σ fr lo, evOpt P σ fr hi with
      | some v, some l, some h => val (cutL P t σ v l h) σ
      | _, _, _ => none
    | some y => match ev P σ fr x, evOpt P σ fr lo, evOpt P σ fr hi, ev P σ fr y with
      | some v, some l, some (some h), some n => val (cut3 P t v l h n) σ
      | _, _, _, _ => none
  | .fieldAddr s x f => match und P s, ev P σ fr x with
    | some (.struct fs), some (.ptr b off) => match fs.toList[f]? with
      | some fd => match sz P fd.type with
        | some (_ + 1) => some (.val (.ptr b (off + fd.offset)), σ)
        | _ => none
      | none => none
    | some (.struct fs), some (.opq a) => match fs.toList[f]? with
      | some fd => match sz P fd.type with
        | some (_ + 1) => some (.val (.opq (a.add fd.offset)), σ)
        | _ => none
      | none => none
    | _, _ => none
  | .field t x f => match und P t, ev P σ fr x with
    | some (.struct fs), some (.agg cs) => match fs.toList[f]? with
      | some fd => match isAg P fd.type, sz P fd.type with
        | some true, some n => some (.val (.agg ((cs.drop fd.offset).take n)), σ)
        | some false, _ => (cs[fd.offset]?).map fun v => (.val v, σ)
        | _, _ => none
      | none => none
    | _, _ => none
  | .indexAddr t x i => match und P t, ev P σ fr x, ev P σ fr i with
    | some (.slice e), some (.slice b off len _), some (.int _ (.ofNat i)) => match Nat.blt i len, sz P e with
      | true, some s => some (.val (.ptr b (off + i * s)), σ)
      | _, _ => none
    | some (.array len e), some (.ptr b off), some (.int _ (.ofNat i)) => match Nat.blt i len, sz P e with
      | true, some s => some (.val (.ptr b (off + i * s)), σ)
      | _, _ => none
    | some (.array len e), some (.opq a), some (.int _ (.ofNat i)) => match Nat.blt i len, sz P e with
      | true, some s => some (.val (.opq (a.add (i * s))), σ)
      | _, _ => none
    | _, _, _ => none
  | .index t x i => match und P t, ev P σ fr x, ev P σ fr i with
    | some .string, some (.str n p), some (.int _ (.ofNat i)) => val (sAt n p i) σ
    | some .string, some x, some i => val (lanes atF [x, i]) σ
    | some (.array len e), some (.agg cs), some (.int _ (.ofNat i)) => match Nat.blt i len, isAg P e, sz P e with
      | true, some true, some s => some (.val (.agg ((cs.drop (i * s)).take s)), σ)
      | true, some false, some s => (cs[i * s]?).map fun v => (.val v, σ)
      | _, _, _ => none
    | _, _, _ => none
  | .lookup t x k ok => match ev P σ fr x, ev P σ fr k with
    | some m, some k => val (lookupS P σ t m k ok) σ
    | _, _ => none
  | .mapUpdate t m k x => match ev P σ fr m, ev P σ fr k, ev P σ fr x with
    | some m, some k, some v => stu (updateS P σ t m k v)
    | _, _, _ => none
  | .range t x => match ev P σ fr x with
    | some v => rangeS P σ t v
    | none => none
  | .next x true => match ev P σ fr x with
    | some (.ptr b 0) => nextT σ b
    | _ => none
  | .next x false => match ev P σ fr x with
    | some (.ptr b 0) => nextM σ b
    | _ => none
  | .entry x => match ev P σ fr x with
    | some (.ptr b 0) => val (entryS σ b) σ
    | _ => none
  | .typeAssert x _ t ok => match ev P σ fr x with
    | some v => val (assertS P v t ok) σ
    | none => none
  | .extract x i => match ev P σ fr x with
    | some (.tuple l) => (l[i]?).map fun v => (.val v, σ)
    | _ => none
  | .call c => call P σ fr c
  | .defer c => match c.callee, evL P σ fr c.args.toList with
    | .value f, some args => match ev P σ fr f with
      | some (.func (.func g) first captured) => some (.defer ⟨.func g, captured, first ++ args⟩, σ)
      | _ => none
    | _, _ => none
  | _ => none
end Go.YtjighphlkcedhaaDoorEv
