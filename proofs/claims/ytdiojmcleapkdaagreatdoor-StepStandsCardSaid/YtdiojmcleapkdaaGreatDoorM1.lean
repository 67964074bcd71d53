/- The law StepStands of the given program answers true for every input.  Part 1 of 10: K0, K1, K2, K3, K4, K5, K6, K7. -/
import Derived.Calls
import Derived.Orders
import Derived.Laws.World
import Derived.Laws.Sem
import Derived.Laws.Entries
import Derived.Laws.CopyRow
import Derived.Laws.MakeOwn
import GoSem.ClaimChange
section
/- The K machine: an abstract machine over data without addresses: definitions alone. -/
namespace Go.KM
open Go

/-- Data without addresses. -/
inductive D where
  | int (k : IntKind) (n : Int)
  | bool (b : Bool)
  | str (s : ByteArray)
  | sl (xs : List (List D))
  deriving Inhabited

/-- What a slot or a cell holds. -/
inductive AV where
  | any
  | d (x : D)
  | nils
  | nilp
  | addr (id off : Nat)
  | ro (cs : List D)
  | el (id i off c len : Nat)
  | own (id len c : Nat)
  | agg (cs : List AV)
  | tup (vs : List AV)
  | fn (f : FuncId)
  | iface (t : TypeId) (v : AV)
  | clo (f : FuncId) (caps : List AV)
  deriving Inhabited

/-- Memory of one's own: a variable's cells; a row of elements of c cells each (lent: others may read it). -/
inductive Blk where
  | box (cs : List AV)
  | row (c : Nat) (xs : List (List D)) (lent : Bool)
  deriving Inhabited

abbrev Fr := List AV
abbrev Mem := List (Nat × Blk)

inductive TD where
  | int (k : IntKind) | bool | str | slice (e : Nat) | struct (fs : List (Nat × Nat)) | array (n e : Nat) | other
/-- What is known of a type: its kind, its cells, its bytes, its zero value's cells. -/
structure TI where
  td : TD
  size : Nat
  bytes : Nat
  zero : List AV
abbrev Tab := Nat → Option TI
def isStruct : TD → Bool
  | .struct _ => true
  | .array _ _ => true
  | _ => false

def getF : Fr → Nat → AV
  | [], _ => .any
  | x :: _, 0 => x
  | _ :: r, n + 1 => getF r n
def setF : Fr → Nat → AV → Fr
  | [], _, _ => []
  | _ :: r, 0, v => v :: r
  | x :: r, n + 1, v => x :: setF r n v
/-- A slot is set; what follows gets the new frame written out. -/
def setFK : Fr → Nat → AV → (Fr → Prop) → Prop
  | [], _, _, K => K []
  | _ :: r, 0, v, K => K (v :: r)
  | x :: r, n + 1, v, K => setFK r n v fun r' => K (x :: r')
def getM : Mem → Nat → Option Blk
  | [], _ => none
  | (i, b) :: r, n => match Nat.beq i n with
    | true => some b
    | false => getM r n
def setM : Mem → Nat → Blk → Mem
  | [], n, b => [(n, b)]
  | (i, x) :: r, n, b => match Nat.beq i n with
    | true => (i, b) :: r
    | false => (i, x) :: setM r n b
def setMK : Mem → Nat → Blk → (Mem → Prop) → Prop
  | [], n, b, K => K [(n, b)]
  | (i, x) :: r, n, b, K => match Nat.beq i n with
    | true => K ((i, b) :: r)
    | false => setMK r n b fun r => K ((i, x) :: r)
/-- Changes of memory, one behind the other. -/
def putM : Mem → Mem → Mem
  | m, [] => m
  | m, (i, b) :: u => putM (setM m i b) u
def putMK : Mem → Mem → (Mem → Prop) → Prop
  | m, [], K => K m
  | m, (i, b) :: u, K => setMK m i b fun m => putMK m u K

def ofConst : Value → AV
  | .int k n => .d (.int k n)
  | .bool b => .d (.bool b)
  | .string s => .d (.str s)
  | .slice none 0 0 => .nils
  | .pointer none => .nilp
  | _ => .any
def evO (fr : Fr) : Operand → AV
  | .tmp t => getF fr t
  | .const v => ofConst v
  | .func f => .fn f
  | .global _ => .any
/-- A value's kind is looked at. -/
def frc : AV → (AV → Prop) → Prop
  | .any, K => K .any
  | .d x, K => K (.d x)
  | .nils, K => K .nils
  | .nilp, K => K .nilp
  | .addr i o, K => K (.addr i o)
  | .ro cs, K => K (.ro cs)
  | .el i j o c l, K => K (.el i j o c l)
  | .own i l c, K => K (.own i l c)
  | .agg cs, K => K (.agg cs)
  | .tup vs, K => K (.tup vs)
  | .fn f, K => K (.fn f)
  | .iface t v, K => K (.iface t v)
  | .clo f cs, K => K (.clo f cs)
theorem frc_eq (v : AV) (K : AV → Prop) : frc v K = K v := by cases v <;> rfl
def evK (ρ : Operand → AV) : List Operand → (List AV → Prop) → Prop
  | [], K => K []
  | x :: r, K => frc (ρ x) fun v => evK ρ r fun l => K (v :: l)

def takeK {α : Type} : Nat → List α → (List α → Prop) → Prop
  | 0, _, K => K []
  | _ + 1, [], _ => False
  | n + 1, x :: r, K => takeK n r fun l => K (x :: l)
def dropK {α : Type} : Nat → List α → (List α → Prop) → Prop
  | 0, l, K => K l
  | _ + 1, [], _ => False
  | n + 1, _ :: r, K => dropK n r K
/-- A value's cells. -/
def cellsK : AV → (List AV → Prop) → Prop
  | .agg cs, K => K cs
  | .any, _ => False
  | .tup _, _ => False
  | .d x, K => K [.d x]
  | .nils, K => K [.nils]
  | .nilp, K => K [.nilp]
  | .addr i o, K => K [.addr i o]
  | .ro cs, K => K [.ro cs]
  | .el i j o c l, K => K [.el i j o c l]
  | .own i l c, K => K [.own i l c]
  | .fn f, K => K [.fn f]
  | .iface t v, K => K [.iface t v]
  | .clo f cs, K => K [.clo f cs]
/-- Cells are written over those from a place on. -/
def overK : List AV → Nat → List AV → (List AV → Prop) → Prop
  | l, 0, [], K => K l
  | [], 0, _ :: _, _ => False
  | _ :: r, 0, v :: vs, K => overK r 0 vs fun l => K (v :: l)
  | [], _ + 1, _, _ => False
  | x :: r, n + 1, vs, K => overK r n vs fun l => K (x :: l)
def mapdK : List D → (List AV → Prop) → Prop
  | [], K => K []
  | x :: r, K => mapdK r fun l => K (.d x :: l)

/-- Values of unknown content, of the kinds of these cells. -/
def exS : List AV → (List D → Prop) → Prop
  | [], K => K []
  | .d (.int k _) :: r, K => ∃ n : Int, exS r fun ds => K (.int k n :: ds)
  | .d (.bool _) :: r, K => ∃ b : Bool, exS r fun ds => K (.bool b :: ds)
  | .d (.str _) :: r, K => ∃ s : ByteArray, exS r fun ds => K (.str s :: ds)
  | .nils :: r, K => ∃ xs : List (List D), exS r fun ds => K (.sl xs :: ds)
  | _ :: _, _ => False

/-! Marks at which an evaluation stops. -/
inductive VIf (b : Bool) (A B : Prop) : Prop where
  | mk : (b = true → A) → (b = false → B) → VIf b A B
theorem VIf.yes {b : Bool} {A B : Prop} (h : b = true) (a : A) : VIf b A B := .mk (fun _ => a) (fun e => by rw [h] at e; cases e)
theorem VIf.no {b : Bool} {A B : Prop} (h : b = false) (a : B) : VIf b A B := .mk (fun e => by rw [h] at e; cases e) (fun _ => a)
/-- An element is read. -/
inductive VGet (xs : List (List D)) (i : Int) (sh : List AV) (K : List D → Prop) : Prop where
  | mk (h0 : 0 ≤ i) (h : exS sh fun es => xs[i.toNat]? = some es ∧ K es) : VGet xs i sh K
/-- A condition. -/
inductive VReq (c : Prop) (A : Prop) : Prop where
  | mk : c → A → VReq c A
theorem VReq.of {c A : Prop} (h : c) (a : A) : VReq c A := .mk h a

structure Cx where
  tab : Tab
  /-- The contracts: function, arguments, memory that it may use; result, that memory behind the call. -/
  C : FuncId → List AV → Mem → AV → Mem → Prop
  /-- Memory that may not be forgotten. -/
  keep : List Nat := []
  /-- From where new memory is named. -/
  base : Nat := 0
  /-- Structs of so many numbers, compared one by one. -/
  eqs : Nat → Option Nat := fun _ => none
  /-- The methods of types behind interfaces. -/
  meth : Nat → String → Option FuncId := fun _ _ => none

def haveM (μ : Nat → Option Blk) : Mem → Prop
  | [] => True
  | (i, b) :: r => μ i = some b ∧ haveM μ r
/-- All that is behind the call was there ahead of it, or is new. -/
def newM (μ : Nat → Option Blk) (F : Mem) : Mem → Prop
  | [] => True
  | (i, _) :: r => (getM F i ≠ none ∨ μ i = none) ∧ newM μ F r
def ids (F : Mem) : List Nat := F.map (·.1)

/-- A value is told as data; a row that is told so is lent. -/
def lendK (μ : Nat → Option Blk) : AV → (D → Mem → List Nat → Prop) → Prop
  | .d x, K => K x [] []
  | .nils, K => K (.sl []) [] []
  | .own id len c, K => match μ id with
    | some (.row c' xs _) => VReq (xs.length = len ∧ c' = c) (K (.sl xs) [(id, .row c' xs true)] [id])
    | _ => False
  | _, _ => False
def lendsK (μ : Nat → Option Blk) : List AV → (List D → Mem → List Nat → Prop) → Prop
  | [], K => K [] [] []
  | v :: r, K => lendK μ v fun x u t => lendsK μ r fun xs u' t' => K (x :: xs) (u ++ u') (t ++ t')
/-- An argument's cell: told as data, or memory that the call may use (dom). -/
def cellA (μ : Nat → Option Blk) (dom : List Nat) : AV → (AV → Mem → List Nat → Prop) → Prop
  | .own id len c, K => match dom.contains id with
    | true => K (.own id len c) [] []
    | false => lendK μ (.own id len c) fun x u t => K (.d x) u t
  | .addr id off, K => match dom.contains id with
    | true => K (.addr id off) [] []
    | false => False
  | .fn f, K => K (.fn f) [] []
  | v, K => lendK μ v fun x u t => K (.d x) u t
def cellsA (μ : Nat → Option Blk) (dom : List Nat) : List AV → (List AV → Mem → List Nat → Prop) → Prop
  | [], K => K [] [] []
  | v :: r, K => cellA μ dom v fun x u t => cellsA μ dom r fun xs u' t' => K (x :: xs) (u ++ u') (t ++ t')
def argA (μ : Nat → Option Blk) (dom : List Nat) : AV → (AV → Mem → List Nat → Prop) → Prop
  | .agg cs, K => cellsA μ dom cs fun l u t => K (.agg l) u t
  | v, K => cellA μ dom v K
def argsA (μ : Nat → Option Blk) (dom : List Nat) : List AV → (List AV → Mem → List Nat → Prop) → Prop
  | [], K => K [] [] []
  | v :: r, K => argA μ dom v fun x u t => argsA μ dom r fun xs u' t' => K (x :: xs) (u ++ u') (t ++ t')

/-- Which memory a value names. -/
def okAV (dom : List Nat) : AV → Bool
  | .addr i _ => dom.contains i
  | .el i _ _ _ _ => dom.contains i
  | .own i _ _ => dom.contains i
  | .agg cs => okAVs dom cs
  | .tup vs => okAVs dom vs
  | .iface _ v => okAV dom v
  | .clo _ cs => okAVs dom cs
  | _ => true
  where okAVs (dom : List Nat) : List AV → Bool
  | [] => true
  | v :: r => okAV dom v && okAVs dom r
def okBlk (dom : List Nat) : Blk → Bool
  | .box cs => okAV.okAVs dom cs
  | .row _ _ _ => true
def okMem (dom : List Nat) : Mem → Bool
  | [] => true
  | (_, b) :: r => okBlk dom b && okMem dom r

/-- A call, with memory F that it may use (mostly none). -/
inductive VCall (μ : Nat → Option Blk) (C : List AV → Mem → AV → Mem → Prop) (raw : List AV) (K : AV → Mem → List Nat → Prop) : Prop where
  | mkD (F : Mem) (r : AV) (F' D : Mem) (hF : haveM μ F) (hok : okMem (ids F) F = true) (hnew : newM μ F F') (hsub : ∀ i, i ∈ ids F → i ∈ ids F') (hnd : (ids F').Nodup) (hnd' : (ids F).Nodup)
    (hD : ∀ i, getM D i = getM F' i ∨ (getM D i = none ∧ getM F' i = getM F i)) (hDn : (ids D).Nodup)
    (h : argsA μ (ids F) raw fun l u t => C l F r F' ∧ K r (u ++ D) (t ++ ids F ++ ids F')) : VCall μ C raw K
theorem VCall.mk {μ : Nat → Option Blk} {C : List AV → Mem → AV → Mem → Prop} {raw : List AV} {K : AV → Mem → List Nat → Prop} (F : Mem) (r : AV) (F' : Mem) (hF : haveM μ F) (hok : okMem (ids F) F = true) (hnew : newM μ F F') (hsub : ∀ i, i ∈ ids F → i ∈ ids F') (hnd : (ids F').Nodup) (hnd' : (ids F).Nodup)
    (h : argsA μ (ids F) raw fun l u t => C l F r F' ∧ K r (u ++ F') (t ++ ids F ++ ids F')) : VCall μ C raw K :=
  .mkD F r F' F' hF hok hnew hsub hnd hnd' (fun _ => .inl rfl) hnd h
theorem VCall.by {μ : Nat → Option Blk} {C : List AV → Mem → AV → Mem → Prop} {raw : List AV} {K : AV → Mem → List Nat → Prop} (r : AV)
    (h : argsA μ [] raw fun l u t => C l [] r [] ∧ K r (u ++ []) (t ++ [] ++ [])) : VCall μ C raw K :=
  .mk [] r [] trivial rfl trivial (fun _ h => by cases h) .nil .nil h

/-- Arithmetic of two numbers. -/
def bin (op : BinOp) (k : IntKind) (a b : Int) (K : AV → Prop) : Prop :=
  match op with
  | .add => K (.d (.int k (k.wrap (a + b))))
  | .sub => K (.d (.int k (k.wrap (a - b))))
  | .mul => K (.d (.int k (k.wrap (a * b))))
  | .quo => VReq (b ≠ 0) (K (.d (.int k (k.wrap (a.tdiv b)))))
  | .rem => VReq (b ≠ 0) (K (.d (.int k (a.tmod b))))
  | .and => K (.d (.int k (k.wrap (BitVec.ofInt k.bits a &&& BitVec.ofInt k.bits b).toNat)))
  | .or => K (.d (.int k (k.wrap (BitVec.ofInt k.bits a ||| BitVec.ofInt k.bits b).toNat)))
  | .xor => K (.d (.int k (k.wrap (BitVec.ofInt k.bits a ^^^ BitVec.ofInt k.bits b).toNat)))
  | .andNot => K (.d (.int k (k.wrap (BitVec.ofInt k.bits a &&& ~~~ BitVec.ofInt k.bits b).toNat)))
  | .eql => K (.d (.bool (a == b)))
  | .neq => K (.d (.bool (a != b)))
  | .lss => K (.d (.bool (decide (a < b))))
  | .leq => K (.d (.bool (decide (a ≤ b))))
  | .gtr => K (.d (.bool (decide (a > b))))
  | .geq => K (.d (.bool (decide (a ≥ b))))
  | _ => False
/-- A text behind another. -/
def catS (a b : ByteArray) : ByteArray := ⟨(a.data.toList ++ b.data.toList).toArray⟩
def binop (op : BinOp) (x y : AV) (K : AV → Prop) : Prop :=
  match op, x, y with
  | .shl, .d (.int k a), .d (.int _ b) => VReq (0 ≤ b) (K (.d (.int k (k.wrap (a * 2 ^ min b.toNat k.bits)))))
  | .shr, .d (.int k a), .d (.int _ b) => VReq (0 ≤ b) (K (.d (.int k (a.fdiv (2 ^ min b.toNat k.bits)))))
  | op, .d (.int k a), .d (.int k' b) => match decide (k = k') with
    | true => bin op k a b K
    | false => False
  | .eql, .d (.str a), .d (.str b) => K (.d (.bool (a.toList == b.toList)))
  | .neq, .d (.str a), .d (.str b) => K (.d (.bool (!(a.toList == b.toList))))
  | .add, .d (.str a), .d (.str b) => VReq (a.size + b.size ≤ 140737488355328) (K (.d (.str (catS a b))))
  | _, _, _ => False

/-- The byte at a place of a string. -/
def byteAt (s : ByteArray) (i : Int) : Int := ((s.data.toList.getD i.toNat 0).toNat : Int)

/-- Parts of a literal are written into its cells. -/
def partsK (tab : Tab) (ρ : Operand → AV) (fs : List (Nat × Nat)) : List (Nat × Operand) → List AV → (List AV → Prop) → Prop
  | [], cs, K => K cs
  | (i, x) :: r, cs, K => match fs[i]? with
    | some (o, t) => match tab t with
      | some ti => cellsK (ρ x) fun vs => match Nat.beq vs.length ti.size with
        | true => overK cs o vs fun cs => partsK tab ρ fs r cs K
        | false => False
      | none => False
    | none => False
/-- The elements of a slice's literal, in order. -/
def elemsK (μ : Nat → Option Blk) (ρ : Operand → AV) (c : Nat) : List (Nat × Operand) → Nat → (List (List D) → Mem → List Nat → Prop) → Prop
  | [], _, K => K [] [] []
  | (i, x) :: r, n, K => match Nat.beq i n with
    | true => cellsK (ρ x) fun vs => lendsK μ vs fun ds u t => match Nat.beq ds.length c with
      | true => elemsK μ ρ c r (n + 1) fun es u' t' => K (ds :: es) (u ++ u') (t ++ t')
      | false => False
    | false => False
/-- Cells that are numbers, bools, texts, nil slices: as data. -/
def zeroD : List AV → Option (List D)
  | [] => some []
  | .d x :: r => (zeroD r).map (x :: ·)
  | .nils :: r => (zeroD r).map (.sl [] :: ·)
  | _ :: _ => none

/-- A slice's elements, as they are now. -/
def tailK (μ : Nat → Option Blk) (v : AV) (K : List (List D) → List Nat → Prop) : Prop :=
  match v with
  | .d (.sl xs) => K xs []
  | .nils => K [] []
  | .own id len _ => match μ id with
    | some (.row _ xs _) => VReq (xs.length = len) (K xs [id])
    | _ => False
  | _ => False
/-- A bound of a slice. -/
def bnd (ρ : Operand → AV) (x : Option Operand) (dflt : Int) : AV := match x with | some a => ρ a | none => .d (.int .i64 dflt)
/-- The name of new memory. -/
def nid (c : Cx) (o : Oper) : Option Nat := match o.dst with | some d => some (c.base + d) | none => none
/-- One operation: its value, what it changes of memory, and which memory matters to it. -/
def opw1 (c : Cx) (ρ : Operand → AV) (μ : Nat → Option Blk) (o : Oper) (K : AV → Mem → List Nat → Prop) : Prop :=
  match o.op with
  | .move x => frc (ρ x) fun v => K v [] []
  | .assign x => frc (ρ x) fun v => K v [] []
  | .binOp op _ x y _ => binop op (ρ x) (ρ y) fun v => K v [] []
  | .unOp op _ x => match op, ρ x with
    | .not, .d (.bool b) => K (.d (.bool (!b))) [] []
    | .neg, .d (.int k n) => K (.d (.int k (k.wrap (0 - n)))) [] []
    | _, _ => False
  | .pick b x y => match ρ b with
    | .d (.bool t) => VIf t (frc (ρ x) fun v => K v [] []) (frc (ρ y) fun v => K v [] [])
    | _ => False
  | .convert s t x => match c.tab s, c.tab t, ρ x with
    | some ⟨.int _, _, _, _⟩, some ⟨.int k, _, _, _⟩, .d (.int _ n) => K (.d (.int k (k.wrap n))) [] []
    | _, _, _ => False
  | .box _ x => match nid c o with
    | some d => match μ d with
      | none => cellsK (ρ x) fun cs => K (.addr d 0) [(d, .box cs)] [d]
      | some _ => False
    | none => False
  | .alloc t => match nid c o, c.tab t with
    | some d, some i => match μ d with
      | none => K (.addr d 0) [(d, .box i.zero)] [d]
      | some _ => False
    | _, _ => False
  | .load t x => match c.tab t, ρ x with
    | some i, .addr id off => match μ id with
      | some (.box cs) => match isStruct i.td with
        | true => dropK off cs fun cs => takeK i.size cs fun cs => K (.agg cs) [] [id]
        | false => dropK off cs fun cs => takeK 1 cs fun cs => match cs with
          | [v] => frc v fun v => K v [] [id]
          | _ => False
      | _ => False
    | some i, .ro cs => match isStruct i.td with
        | true => takeK i.size cs fun cs => mapdK cs fun cs => K (.agg cs) [] []
        | false => match cs with
          | x :: _ => K (.d x) [] []
          | [] => False
    | some i, .el id j off _ len => match μ id with
      | some (.row _ xs _) => VReq (xs.length = len) (VGet xs j i.zero fun es => match isStruct i.td with
        | true => mapdK es fun es => dropK off es fun es => takeK i.size es fun es => K (.agg es) [] [id]
        | false => dropK off es fun es => match es with
          | x :: _ => K (.d x) [] [id]
          | [] => False)
      | _ => False
    | _, _ => False
  | .fieldAddr t x f => match c.tab t, ρ x with
    | some ⟨.struct fs, _, _, _⟩, .addr id off => match fs[f]? with
      | some (o, _) => K (.addr id (off + o)) [] []
      | none => False
    | some ⟨.struct fs, _, _, _⟩, .ro cs => match fs[f]? with
      | some (o, _) => dropK o cs fun cs => K (.ro cs) [] []
      | none => False
    | _, _ => False
  | .indexAddr t x y => match c.tab t, ρ x, ρ y with
    | some ⟨.slice e, _, _, _⟩, .d (.sl xs), .d (.int _ i) => match c.tab e with
      | some ei => VGet xs i ei.zero fun es => K (.ro es) [] []
      | none => False
    | some ⟨.slice e, _, _, _⟩, .own id len c', .d (.int _ i) => match c.tab e with
      | some ei => match Nat.beq ei.size c' with
        | true => VReq (0 ≤ i ∧ i < len) (K (.el id i.toNat 0 c' len) [] [])
        | false => False
      | none => False
    | _, _, _ => False
  | .index t x y => match c.tab t, ρ x, ρ y with
    | some ⟨.str, _, _, _⟩, .d (.str s), .d (.int _ i) => VReq (0 ≤ i ∧ i < s.size) (K (.d (.int .u8 (byteAt s i))) [] [])
    | _, _, _ => False
  | .store t x y => match c.tab t with
    | some i => match ρ x with
      | .addr id off => match μ id with
        | some (.box cs) => cellsK (ρ y) fun vs => match Nat.beq vs.length i.size with
          | true => overK cs off vs fun cs => K .any [(id, .box cs)] [id]
          | false => False
        | _ => False
      | .el id j off c' len => match μ id with
        | some (.row c'' xs l) => match off, l with
          | 0, false => cellsK (ρ y) fun vs => lendsK μ vs fun ds u t => match Nat.beq ds.length c' && Nat.beq i.size c' with
            | true => VReq (xs.length = len ∧ c'' = c' ∧ getM u id = none ∧ j < len) (K .any (u ++ [(id, .row c'' (xs.set j ds) false)]) (t ++ [id]))
            | false => False
          | _, _ => False
        | _ => False
      | _ => False
    | none => False
  | .extract x i => match ρ x with
    | .tup vs => match vs[i]? with
      | some v => frc v fun v => K v [] []
      | none => False
    | _ => False
  | .nilCheck x => match ρ x with
    | .addr id off => K (.addr id off) [] []
    | _ => False
  | .build t ps => match c.tab t with
    | some ⟨.struct fs, _, _, z⟩ => partsK c.tab ρ fs ps.toList z fun cs => K (.agg cs) [] []
    | _ => False
  | .buildSlice t n ps => match nid c o, c.tab t with
    | some d, some ⟨.slice e, _, _, _⟩ => match c.tab e, μ d with
      | some ei, none => match Nat.beq ps.toList.length n && Nat.ble (n * ei.size) 16777216 with
        | true => elemsK μ ρ ei.size ps.toList 0 fun es u t => K (.own d n ei.size) (u ++ [(d, .row ei.size es false)]) (t ++ [d])
        | false => False
      | _, _ => False
    | _, _ => False
  | .makeSlice t x y => match nid c o, c.tab t, ρ x, ρ y with
    | some d, some ⟨.slice e, _, _, _⟩, .d (.int .i64 n), .d (.int .i64 m) => match c.tab e, μ d with
      | some ei, none => match zeroD ei.zero with
        | some z => VReq (n = m ∧ 0 ≤ n ∧ n * ei.bytes ≤ 140737488355328 ∧ n ≤ 140737488355328) (K (.own d n.toNat ei.size) [(d, .row ei.size (List.replicate n.toNat z) false)] [d])
        | none => False
      | _, _ => False
    | _, _, _, _ => False
  | .slice t x lo hi none => match ρ x with
    | .d (.sl xs) => match c.tab t with
      | some ⟨.slice e, _, _, _⟩ => match c.tab e, bnd ρ lo 0, bnd ρ hi xs.length with
        | some ei, .d (.int _ l), .d (.int _ h) => VReq (0 ≤ l ∧ l ≤ h ∧ h ≤ xs.length ∧ ∀ x ∈ xs, x.length = ei.size) (K (.d (.sl ((xs.take h.toNat).drop l.toNat))) [] [])
        | _, _, _ => False
      | _ => False
    | .d (.str s) => match c.tab t, bnd ρ lo 0, bnd ρ hi s.size with
      | some ⟨.str, _, _, _⟩, .d (.int _ l), .d (.int _ h) => VReq (0 ≤ l ∧ l ≤ h ∧ h ≤ s.size) (K (.d (.str (s.extract l.toNat h.toNat))) [] [])
      | _, _, _ => False
    | .own id len c' => match c.tab t, bnd ρ lo 0, bnd ρ hi len with
      | some ⟨.slice e, _, _, _⟩, .d (.int _ l), .d (.int _ h) => match c.tab e with
        | some _ => VReq (l = 0 ∧ h = len) (K (.own id len c') [] [])
        | none => False
      | _, _, _ => False
    | _ => False
  | .makeInterface t x => match c.tab t with
    | some _ => frc (ρ x) fun v => K (.iface t v) [] []
    | none => False
  | .call cl => match cl.callee with
    | .builtin .len => match cl.args.toList, cl.argTypes.toList with
      | [x], [t] => match c.tab t, ρ x with
        | some ⟨.slice _, _, _, _⟩, .d (.sl xs) => K (.d (.int .i64 xs.length)) [] []
        | some ⟨.str, _, _, _⟩, .d (.str s) => K (.d (.int .i64 s.size)) [] []
        | some ⟨.slice _, _, _, _⟩, .nils => K (.d (.int .i64 0)) [] []
        | some ⟨.slice _, _, _, _⟩, .own _ len _ => K (.d (.int .i64 len)) [] []
        | _, _ => False
      | _, _ => False
    | .builtin .append => match cl.args.toList, cl.argTypes.toList with
      | [x, y], [t, t'] => match Nat.beq t t', c.tab t with
        | true, some ⟨.slice e, _, _, _⟩ => match c.tab e with
          | some ei => match ρ x with
            | .nils => match nid c o with
              | some d => match μ d with
                | none => tailK μ (ρ y) fun ys tt => VReq (0 < ys.length ∧ ys.length * ei.bytes ≤ 140737488355328 ∧ ys.length ≤ 140737488355328 ∧ ∀ z ∈ ys, z.length = ei.size) (K (.own d ys.length ei.size) [(d, .row ei.size ys false)] (tt ++ [d]))
                | some _ => False
              | none => False
            | .own id len c' => match μ id with
              | some (.row c'' xs l) => tailK μ (ρ y) fun ys tt => VReq (xs.length = len ∧ c'' = ei.size ∧ c' = ei.size ∧ (len + ys.length) * ei.bytes ≤ 140737488355328 ∧ len + ys.length ≤ 140737488355328 ∧ ∀ z ∈ ys, z.length = ei.size)
                  (K (.own id (len + ys.length) c') [(id, .row c'' (xs ++ ys) l)] (tt ++ [id]))
              | _ => False
            | _ => False
          | none => False
        | _, _ => False
      | _, _ => False
    | .builtin .copy => match cl.args.toList, cl.argTypes.toList with
      | [x, y], [t, t'] => match Nat.beq t t', c.tab t with
        | true, some ⟨.slice e, _, _, _⟩ => match c.tab e with
          | some ei => match ρ x with
            | .own id len c' => match μ id with
              | some (.row c'' xs l) => match l with
                | false => tailK μ (ρ y) fun ys tt => VReq (xs.length = len ∧ c'' = ei.size ∧ c' = ei.size ∧ ∀ z ∈ ys, z.length = ei.size)
                    (K (.d (.int .i64 (min ys.length len))) [(id, .row c'' (ys.take len ++ xs.drop ys.length) false)] (tt ++ [id]))
                | true => False
              | _ => False
            | _ => False
          | none => False
        | _, _ => False
      | _, _ => False
    | .builtin .max => match cl.args.toList with
      | [x, y] => match ρ x, ρ y with
        | .d (.int k m), .d (.int _ n) => K (.d (.int k (if n > m then n else m))) [] []
        | _, _ => False
      | _ => False
    | .builtin .min => match cl.args.toList with
      | [x, y] => match ρ x, ρ y with
        | .d (.int k m), .d (.int _ n) => K (.d (.int k (if n < m then n else m))) [] []
        | _, _ => False
      | _ => False
    | .value f => match ρ f with
      | .fn f => evK ρ cl.args.toList fun raw => VCall μ (c.C f) raw K
      | .clo f caps => evK ρ cl.args.toList fun raw => VCall μ (c.C f) (raw ++ caps) K
      | _ => False
    | _ => False
  | _ => False

/-! Operations whose types tell that they are of another kind: arrays, structs compared, calls behind interfaces, closures. -/
/-- An array of bytes: a row of one's own. -/
def byteArr (tab : Tab) (t : Nat) : Option Nat :=
  match tab t with
  | some ⟨.array n e, _, _, _⟩ => match tab e with
    | some ⟨.int .u8, _, _, _⟩ => some n
    | _ => none
  | _ => none
def isArr (tab : Tab) (t : Nat) : Bool :=
  match tab t with
  | some ⟨.array _ _, _, _, _⟩ => true
  | _ => false
def isSl (tab : Tab) (t : Nat) : Bool :=
  match tab t with
  | some ⟨.slice _, _, _, _⟩ => true
  | _ => false
def isBool (tab : Tab) (t : Nat) : Bool :=
  match tab t with
  | some ⟨.bool, _, _, _⟩ => true
  | _ => false
def someB {α : Type} : Option α → Bool
  | some _ => true
  | none => false
def isX (c : Cx) : Op → Bool
  | .binOp .eql t _ _ _ => someB (c.eqs t) || isBool c.tab t
  | .binOp .neq t _ _ _ => someB (c.eqs t) || isBool c.tab t
  | .alloc t => someB (byteArr c.tab t)
  | .build t _ => isArr c.tab t
  | .index t _ _ => isArr c.tab t
  | .indexAddr t _ _ => isArr c.tab t
  | .slice t _ _ _ _ => isArr c.tab t
  | .convert s _ _ => isSl c.tab s
  | .makeFunc _ _ _ => true
  | .call cl => match cl.callee with
    | .invoke _ _ => true
    | _ => false
  | _ => false
/-- Numbers compared one by one. -/
def intsK : List AV → List AV → (Bool → Prop) → Prop
  | [], [], K => K true
  | .d (.int k a) :: r, .d (.int k' b) :: s, K => match decide (k = k') with
    | true => intsK r s fun e => K (a == b && e)
    | false => False
  | _, _, _ => False
def bytesK : List (List D) → (List UInt8 → Prop) → Prop
  | [], K => K []
  | [.int .u8 n] :: r, K => bytesK r fun l => K (UInt8.ofNat n.toNat :: l)
  | _, _ => False
def opx (c : Cx) (ρ : Operand → AV) (μ : Nat → Option Blk) (o : Oper) (K : AV → Mem → List Nat → Prop) : Prop :=
  match o.op with
  | .binOp op t x y _ => match c.eqs t, ρ x, ρ y with
    | none, .d (.bool a), .d (.bool b) => match isBool c.tab t, op with
      | true, .eql => K (.d (.bool (a == b))) [] []
      | true, .neq => K (.d (.bool (a != b))) [] []
      | _, _ => False
    | some n, .agg a, .agg b => match Nat.beq a.length n && Nat.beq b.length n with
      | true => intsK a b fun e => match op with
        | .eql => K (.d (.bool e)) [] []
        | .neq => K (.d (.bool (!e))) [] []
        | _ => False
      | false => False
    | _, _, _ => False
  | .alloc t => match nid c o, byteArr c.tab t with
    | some d, some n => match μ d with
      | none => K (.el d 0 0 1 n) [(d, .row 1 (List.replicate n [.int .u8 0]) false)] [d]
      | some _ => False
    | _, _ => False
  | .build t ps => match c.tab t with
    | some ⟨.array n e, _, _, z⟩ => match c.tab e with
      | some ei => partsK c.tab ρ ((List.range n).map fun i => (i * ei.size, e)) ps.toList z fun cs => K (.agg cs) [] []
      | none => False
    | _ => False
  | .index t x y => match c.tab t, ρ x, ρ y with
    | some ⟨.array n e, _, _, _⟩, .agg cs, .d (.int _ i) => match c.tab e with
      | some ei => VReq (0 ≤ i ∧ i < n) (dropK (i.toNat * ei.size) cs fun cs => match isStruct ei.td with
        | true => takeK ei.size cs fun cs => K (.agg cs) [] []
        | false => takeK 1 cs fun cs => match cs with
          | [v] => frc v fun v => K v [] []
          | _ => False)
      | none => False
    | _, _, _ => False
  | .indexAddr t x y => match c.tab t, ρ x, ρ y with
    | some ⟨.array n e, _, _, _⟩, .addr id off, .d (.int _ i) => match c.tab e with
      | some ei => VReq (0 ≤ i ∧ i < n) (K (.addr id (off + i.toNat * ei.size)) [] [])
      | none => False
    | some ⟨.array n e, _, _, _⟩, .el id 0 0 1 len, .d (.int _ i) => match c.tab e with
      | some ei => match Nat.beq n len && Nat.beq ei.size 1 with
        | true => VReq (0 ≤ i ∧ i < n) (K (.el id i.toNat 0 1 len) [] [])
        | false => False
      | none => False
    | _, _, _ => False
  | .slice t x none none none => match c.tab t, ρ x with
    | some ⟨.array n e, _, _, _⟩, .el id 0 0 1 len => match Nat.beq n len, c.tab e with
      | true, some ei => match Nat.beq ei.size 1 with
        | true => K (.own id len 1) [] []
        | false => False
      | _, _ => False
    | _, _ => False
  | .convert s t x => match c.tab s, c.tab t with
    | some ⟨.slice e, _, _, _⟩, some ⟨.str, _, _, _⟩ => match c.tab e with
      | some ⟨.int .u8, _, _, _⟩ => tailK μ (ρ x) fun ys tt => bytesK ys fun bs => K (.d (.str ⟨bs.toArray⟩)) [] tt
      | _ => False
    | _, _ => False
  | .makeFunc fn first caps => match fn, first.toList with
    | .func f, [] => evK ρ caps.toList fun l => K (.clo f l) [] []
    | _, _ => False
  | .call cl => match cl.callee with
    | .invoke x name => match ρ x with
      | .iface t v => match c.meth t name with
        | some f => evK ρ cl.args.toList fun raw => VCall μ (c.C f) (v :: raw) K
        | none => False
      | _ => False
    | _ => False
  | _ => False
/-- One operation. -/
def opw (c : Cx) (ρ : Operand → AV) (μ : Nat → Option Blk) (o : Oper) (K : AV → Mem → List Nat → Prop) : Prop :=
  match isX c o.op with
  | false => opw1 c ρ μ o K
  | true => opx c ρ μ o K

/-! A region. -/
def bits (l : List Nat) : Nat := l.foldl (fun s i => s ||| 2 ^ i) 0
def edges (o : Oper) : List Nat := o.after.toList.filterMap fun e => if Region.binds .any e then some e.on else none
/-- What must stand ahead of each operation, by all ways. -/
def befs : List Oper → List Nat → List Nat
  | [], acc => acc
  | o :: r, acc => befs r (acc ++ [(edges o).foldl (fun s i => s ||| 2 ^ i ||| acc.getD i 0) 0])
def looks (all : List Oper) (o : Oper) : List Nat :=
  (match o.guard with
    | some (g, _) => match (all[g]?).bind (·.dst) with | some t => [t] | none => []
    | none => []) ++ o.op.operands.toList.filterMap fun | .tmp t => some t | _ => none
def meets : List Nat → List Nat → Bool
  | [], _ => false
  | x :: r, l => if l.contains x then true else meets r l
/-- A record of an operation in a region: which memory matters, and which it changes. -/
abbrev Rec := List Nat × List Nat
def memMeets (a b : Rec) : Bool := meets a.2 (b.1 ++ b.2) || meets b.2 (a.1 ++ a.2)

inductive Out where
  | normal (fr : Fr) (mem : Mem)
  | exit (id : Nat) (fr : Fr) (mem : Mem)
  | ret (fr : Fr) (mem : Mem)

def putDst (o : Oper) (v : AV) (fr : Fr) (K : Fr → Prop) : Prop :=
  match o.dst with
  | some d => setFK fr d v K
  | none => K fr
/-- Guards whose value is known. -/
abbrev Dec := List (Nat × Bool)
def lookD : Dec → Nat → Option Bool
  | [], _ => none
  | (i, b) :: r, n => match Nat.beq i n with
    | true => some b
    | false => lookD r n
def dropD : Dec → Option Nat → Dec
  | dec, none => dec
  | [], some _ => []
  | (i, b) :: r, some n => match Nat.beq i n with
    | true => dropD r (some n)
    | false => (i, b) :: dropD r (some n)
/-- What a choice takes, if its test is known. -/
def pickOf (dec : Dec) : Op → Option Operand
  | .pick (.tmp t) x y => match lookD dec t with
    | some true => some x
    | some false => some y
    | none => none
  | _ => none
/-- The operations of a region in the text's order; a guard's value is known behind it. (By the list's own recursor: what is reckoned is spelt one way alone.) -/
noncomputable def opsw (c : Cx) (all : List Oper) (l : List Oper) : List Rec → Dec → Fr → Mem → (List Rec → Fr → Mem → Prop) → Prop :=
  @List.rec Oper (fun _ => List Rec → Dec → Fr → Mem → (List Rec → Fr → Mem → Prop) → Prop)
  (fun acc _ fr mem K => K acc fr mem)
  (fun o _ ih acc dec fr mem K =>
    let go (dec : Dec) (fr : Fr) : Prop := match pickOf dec o.op with
      | some x => frc (evO fr x) fun v => putDst o v fr fun fr' => ih (acc ++ [([], [])]) (dropD dec o.dst) fr' mem K
      | none => opw c (evO fr) (getM mem) o fun v u t => putDst o v fr fun fr' => putMK mem u fun mem' => ih (acc ++ [(t, u.map (·.1))]) (dropD dec o.dst) fr' mem' K
    let skip (dec : Dec) (fr : Fr) : Prop := putDst o (.tup []) fr fun fr' => ih (acc ++ [([], [])]) (dropD dec o.dst) fr' mem K
    match o.guard with
    | none => go dec fr
    | some (g, want) => match (all[g]?).bind (·.dst) with
      | some t => match lookD dec t with
        | some true => match want with | true => go dec fr | false => skip dec fr
        | some false => match want with | true => skip dec fr | false => go dec fr
        | none => match getF fr t with
          | .d (.bool b) => VIf b (setFK fr t (.d (.bool true)) fun fr => match want with | true => go ((t, true) :: dec) fr | false => skip ((t, true) :: dec) fr) (setFK fr t (.d (.bool false)) fun fr => match want with | false => go ((t, false) :: dec) fr | true => skip ((t, false) :: dec) fr)
          | .tup [] => skip dec fr
          | _ => False
      | none => False)
  l
theorem opsw_cons (c : Cx) (all : List Oper) (o : Oper) (r : List Oper) (acc : List Rec) (dec : Dec) (fr : Fr) (mem : Mem) (K : List Rec → Fr → Mem → Prop) : opsw c all (o :: r) acc dec fr mem K =
   (let go (dec : Dec) (fr : Fr) : Prop := match pickOf dec o.op with
      | some x => frc (evO fr x) fun v => putDst o v fr fun fr' => opsw c all r (acc ++ [([], [])]) (dropD dec o.dst) fr' mem K
      | none => opw c (evO fr) (getM mem) o fun v u t => putDst o v fr fun fr' => putMK mem u fun mem' => opsw c all r (acc ++ [(t, u.map (·.1))]) (dropD dec o.dst) fr' mem' K
    let skip (dec : Dec) (fr : Fr) : Prop := putDst o (.tup []) fr fun fr' => opsw c all r (acc ++ [([], [])]) (dropD dec o.dst) fr' mem K
    match o.guard with
    | none => go dec fr
    | some (g, want) => match (all[g]?).bind (·.dst) with
      | some t => match lookD dec t with
        | some true => match want with | true => go dec fr | false => skip dec fr
        | some false => match want with | true => skip dec fr | false => go dec fr
        | none => match getF fr t with
          | .d (.bool b) => VIf b (setFK fr t (.d (.bool true)) fun fr => match want with | true => go ((t, true) :: dec) fr | false => skip ((t, true) :: dec) fr) (setFK fr t (.d (.bool false)) fun fr => match want with | false => go ((t, false) :: dec) fr | true => skip ((t, false) :: dec) fr)
          | .tup [] => skip dec fr
          | _ => False
      | none => False) := rfl

/-- No two operations whose order is open meet in memory. -/
def apartFrom (i : Nat) (ri : Rec) : List Rec → List Nat → Bool
  | [], _ => true
  | rj :: r, b :: bs => (if memMeets ri rj then b.testBit i else true) && apartFrom i ri r bs
  | _ :: _, [] => false
def recsOk : Nat → List Rec → List Nat → Bool
  | _, [], _ => true
  | i, r :: rs, _ :: bs => apartFrom i r rs bs && recsOk (i + 1) rs bs
  | _, _ :: _, [] => false
/-- The same of slots, and no operation hangs on a later one. -/
def tmpsMeet (all : List Oper) (a b : Oper) : Bool :=
  (match a.dst with | some d => (looks all b).contains d || b.dst == some d | none => false) ||
  (match b.dst with | some d => (looks all a).contains d | none => false)
def tmpsFrom (all : List Oper) (i : Nat) (a : Oper) : List Oper → List Nat → Bool
  | [], _ => true
  | o :: r, b :: bs => (if tmpsMeet all a o then b.testBit i else true) && tmpsFrom all i a r bs
  | _ :: _, [] => false
def tmpsOk (all : List Oper) : Nat → List Oper → List Nat → Bool
  | _, [], _ => true
  | i, o :: r, _ :: bs => tmpsFrom all i o r bs && (edges o).all (fun e => Nat.blt e i) && tmpsOk all (i + 1) r bs
  | _, _ :: _, [] => false

/-- Slots may be forgotten. -/
def leF (dom : List Nat) : Fr → Fr → Prop
  | [], [] => True
  | _ :: r, .any :: r' => leF dom r r'
  | .nils :: r, .d (.sl xs) :: r' => xs = [] ∧ leF dom r r'
  | v :: r, v' :: r' => match okAV dom v' with
    | true => v = v' ∧ leF dom r r'
    | false => False
  | _, _ => False
/-- Memory may be forgotten. -/
def leM (dom : List Nat) (mem : Mem) : Mem → Prop
  | [] => True
  | (i, b) :: r => match okBlk dom b with
    | true => getM mem i = some b ∧ leM dom mem r
    | false => False
def keepM (mem : Mem) : List Nat → Prop
  | [] => True
  | i :: r => (ids mem).contains i = true ∧ keepM mem r
def Step := Fr → Mem → (Fr → Mem → Prop) → Prop
/-- A loop: states by a measure, each round leading on or out. -/
inductive VLoop (keep : List Nat) (step : Step) (fr : Fr) (mem : Mem) : Prop where
  | mk (σ : Type) (f : σ → Fr) (m : σ → Mem) (inv : σ → Prop) (μ : σ → Nat) (s0 : σ) :
    inv s0 → leF (ids (m s0)) fr (f s0) → leM (ids (m s0)) mem (m s0) → keepM (m s0) keep →
    (∀ s, inv s → step (f s) (m s) fun fr' mem' => ∃ s', inv s' ∧ μ s' < μ s ∧ leF (ids (m s')) fr' (f s') ∧ leM (ids (m s')) mem' (m s') ∧ keepM (m s') keep) → VLoop keep step fr mem

/-- Some rounds are written out, ahead of the rest. -/
def rollN (keep : List Nat) (step : Step) : Nat → Fr → Mem → Prop
  | 0, fr, mem => VLoop keep step fr mem
  | n + 1, fr, mem => ∃ fr1 mem1, leF (ids mem1) fr fr1 ∧ leM (ids mem1) mem mem1 ∧ keepM mem1 keep ∧ step fr1 mem1 fun fr' mem' => rollN keep step n fr' mem'
inductive VRoll (keep : List Nat) (step : Step) (fr : Fr) (mem : Mem) : Prop where
  | mk (n : Nat) (h : rollN keep step n fr mem) : VRoll keep step fr mem

noncomputable def awp (c : Cx) (code : Code) : Fr → Mem → (Out → Prop) → Prop :=
  @Code.rec (fun _ => Fr → Mem → (Out → Prop) → Prop)
  (fun fr mem Q => Q (.normal fr mem))
  (fun _ ops draw fr mem Q => opsw c ops.toList ops.toList [] [] fr mem fun acc fr mem => match draw with
    | false => Q (.normal fr mem)
    | true => match recsOk 0 acc (befs ops.toList []) && tmpsOk ops.toList 0 ops.toList (befs ops.toList []) with
      | true => Q (.normal fr mem)
      | false => False)
  (fun _ _ iha ihb fr mem Q => iha fr mem fun
    | .normal fr mem => ihb fr mem Q
    | .exit i fr mem => Q (.exit i fr mem)
    | .ret fr mem => Q (.ret fr mem))
  (fun x _ _ iha ihb fr mem Q => match evO fr x with
    | .d (.bool t) => VIf t (iha fr mem Q) (ihb fr mem Q)
    | _ => False)
  (fun id _ ih fr mem Q => ih fr mem fun
    | .exit i fr mem => match Nat.beq i id with
      | true => Q (.normal fr mem)
      | false => Q (.exit i fr mem)
    | .normal fr mem => Q (.normal fr mem)
    | .ret fr mem => Q (.ret fr mem))
  (fun _ ih fr mem Q => VRoll c.keep (fun fr mem K => ih fr mem fun
    | .normal fr mem => K fr mem
    | .exit i fr mem => Q (.exit i fr mem)
    | .ret fr mem => Q (.ret fr mem)) fr mem)
  (fun _ _ _ _ _ _ _ _ _ => False)
  (fun i fr mem Q => Q (.exit i fr mem))
  (fun _ ih fr mem Q => ih fr mem Q)
  (fun _ fr mem Q => Q (.normal fr mem))
  (fun _ _ _ _ => False)
  (fun fr mem Q => Q (.ret fr mem))
  (fun _ _ _ _ => False)
  code
section
variable (c : Cx) (fr : Fr) (mem : Mem) (Q : Out → Prop)
theorem awp_region (id : Nat) (ops : Array Oper) (draw : Bool) : awp c (.region id ops draw) fr mem Q = opsw c ops.toList ops.toList [] [] fr mem fun acc fr mem => match draw with
    | false => Q (.normal fr mem)
    | true => match recsOk 0 acc (befs ops.toList []) && tmpsOk ops.toList 0 ops.toList (befs ops.toList []) with
      | true => Q (.normal fr mem)
      | false => False := rfl
theorem awp_seq (a b : Code) : awp c (.seq a b) fr mem Q = awp c a fr mem fun
    | .normal fr mem => awp c b fr mem Q
    | .exit i fr mem => Q (.exit i fr mem)
    | .ret fr mem => Q (.ret fr mem) := rfl
theorem awp_cond (x : Operand) (a b : Code) : awp c (.cond x a b) fr mem Q = match evO fr x with
    | .d (.bool t) => VIf t (awp c a fr mem Q) (awp c b fr mem Q)
    | _ => False := rfl
theorem awp_block (id : Nat) (b : Code) : awp c (.block id b) fr mem Q = awp c b fr mem fun
    | .exit i fr mem => match Nat.beq i id with
      | true => Q (.normal fr mem)
      | false => Q (.exit i fr mem)
    | .normal fr mem => Q (.normal fr mem)
    | .ret fr mem => Q (.ret fr mem) := rfl
theorem awp_loop (b : Code) : awp c (.loop b) fr mem Q = VRoll c.keep (fun fr mem K => awp c b fr mem fun
    | .normal fr mem => K fr mem
    | .exit i fr mem => Q (.exit i fr mem)
    | .ret fr mem => Q (.ret fr mem)) fr mem := rfl
theorem awp_scope (b : Code) : awp c (.scope b) fr mem Q = awp c b fr mem Q := rfl
end

end Go.KM
end
section
/- The K machine: what its values say of memory; what stays when memory grows. -/
namespace Go.KM
open Go

/-- A value of one cell. -/
def one : Value → Prop
  | .agg _ => False
  | .tuple _ => False
  | _ => True

/-- A value reads as data; the cells that it leads to don't change (im). -/
inductive Rd (w : World) (im : Nat → Nat → Prop) : D → Value → Prop
  | int (k : IntKind) (n : Int) : Rd w im (.int k n) (.int k n)
  | bool (b : Bool) : Rd w im (.bool b) (.bool b)
  | str (s : ByteArray) : Rd w im (.str s) (.string s)
  | nil (a : Option Addr) (cap : Nat) : Rd w im (.sl []) (.slice a 0 cap)
  | sl (b off cap c : Nat) (xs : List (List D)) (vs : Nat → Value) (hc : ∀ x ∈ xs, x.length = c) (hcap : xs.length ≤ cap)
      (hcell : ∀ m, m < xs.flatten.length → w.cell? ⟨b, off + m, none⟩ = some (vs m) ∧ im b (off + m))
      (hrd : ∀ m (h : m < xs.flatten.length), Rd w im (xs.flatten[m]'h) (vs m)) :
      Rd w im (.sl xs) (.slice (some ⟨b, off, none⟩) xs.length cap)

theorem Rd.one {w : World} {im : Nat → Nat → Prop} {x : D} {v : Value} (h : Rd w im x v) : one v := by cases h <;> trivial

abbrev Imm := Nat → Nat → Prop
abbrev Idm := Nat → Option Nat
abbrev Mm := Nat → Option Blk

inductive RV (w : World) (im : Imm) (ι : Idm) (μ : Mm) : AV → Value → Prop
  | any (v : Value) : RV w im ι μ .any v
  | d {x : D} {v : Value} (h : Rd w im x v) : RV w im ι μ (.d x) v
  | nils : RV w im ι μ .nils (.slice none 0 0)
  | nilp : RV w im ι μ .nilp (.pointer none)
  | addr {id off b : Nat} (hl : ∃ cs, μ id = some (.box cs)) (h : ι id = some b) : RV w im ι μ (.addr id off) (.pointer (some ⟨b, off, none⟩))
  | ro {b off : Nat} {cs : List D} (vs : Nat → Value) (hcell : ∀ m, m < cs.length → w.cell? ⟨b, off + m, none⟩ = some (vs m) ∧ im b (off + m))
      (hrd : ∀ m (h : m < cs.length), Rd w im (cs[m]'h) (vs m)) : RV w im ι μ (.ro cs) (.pointer (some ⟨b, off, none⟩))
  | el {id i off c len b c' : Nat} {xs : List (List D)} {l : Bool} (hl : μ id = some (.row c' xs l)) (hle : len ≤ xs.length)
      (h : xs.length = len → ι id = some b ∧ c' = c) : RV w im ι μ (.el id i off c len) (.pointer (some ⟨b, i * c + off, none⟩))
  | own {id len c b cap c' : Nat} {xs : List (List D)} {l : Bool} (hl : μ id = some (.row c' xs l)) (hle : len ≤ xs.length) (hcap : len ≤ cap)
      (h : xs.length = len → ι id = some b ∧ c' = c ∧ ∃ vs T, w.heap[b]? = some (Obj.cells vs T (0, 0)) ∧ cap * c ≤ vs.size) :
      RV w im ι μ (.own id len c) (.slice (some ⟨b, 0, none⟩) len cap)
  | agg {cs : List AV} {vs : List Value} (hl : cs.length = vs.length) (h1 : ∀ v ∈ vs, one v)
      (h : ∀ m (h1 : m < cs.length) (h2 : m < vs.length), RV w im ι μ (cs[m]'h1) (vs[m]'h2)) : RV w im ι μ (.agg cs) (.agg vs.toArray)
  | tup {cs : List AV} {vs : List Value} (hl : cs.length = vs.length)
      (h : ∀ m (h1 : m < cs.length) (h2 : m < vs.length), RV w im ι μ (cs[m]'h1) (vs[m]'h2)) : RV w im ι μ (.tup cs) (.tuple vs.toArray)
  | fn (f : FuncId) : RV w im ι μ (.fn f) (.func (.func f) #[] #[])
  | iface {t : TypeId} {a : AV} {v : Value} (h : RV w im ι μ a v) : RV w im ι μ (.iface t a) (.iface t v)
  | clo (f : FuncId) {cs : List AV} {vs : List Value} (hl : cs.length = vs.length)
      (h : ∀ m (h1 : m < cs.length) (h2 : m < vs.length), RV w im ι μ (cs[m]'h1) (vs[m]'h2)) : RV w im ι μ (.clo f cs) (.func (.func f) #[] vs.toArray)

/-- What is told of a block of one's own. -/
def BlkR (w : World) (im : Imm) (ι : Idm) (μ : Mm) (id : Nat) : Blk → Prop
  | .box cs => ∃ b vs T, ι id = some b ∧ w.heap[b]? = some (Obj.cells vs T (0, 0)) ∧ vs.size = cs.length ∧
      ∀ m (h1 : m < cs.length) (h2 : m < vs.size), one (vs[m]'h2) ∧ RV w im ι μ (cs[m]'h1) (vs[m]'h2)
  | .row c xs _ => ∃ b vs T, ι id = some b ∧ w.heap[b]? = some (Obj.cells vs T (0, 0)) ∧ xs.flatten.length ≤ vs.size ∧ (∀ x ∈ xs, x.length = c) ∧
      ∀ m (h1 : m < xs.flatten.length) (h2 : m < vs.size), Rd w im (xs.flatten[m]'h1) (vs[m]'h2)

/-- Where the call began. -/
structure Base where
  w0 : World
  im0 : Imm
  /-- Blocks that it may write. -/
  io : Nat → Prop

/-- Which cells don't change: of one's own blocks the elements of a lent row; of others those that didn't, and those that one has left. -/
def imm (B : Base) (ι : Idm) (μ : Mm) : Imm := fun b off =>
  (∀ id blk, μ id = some blk → ι id = some b → ∃ c xs, blk = .row c xs true ∧ off < xs.flatten.length) ∧ (b < B.w0.heap.size → B.io b ∨ B.im0 b off)

structure Env (w0 w : World) : Prop where
  os : w.os = w0.os
  tape : w.tape = w0.tape
  output : w.output = w0.output
  size : w0.heap.size ≤ w.heap.size

/-- The state's memory is told. -/
structure MR (B : Base) (ι : Idm) (μ : Mm) (w : World) : Prop where
  env : Env B.w0 w
  frame : ∀ b, b < B.w0.heap.size → ¬ B.io b → w.heap[b]? = B.w0.heap[b]?
  inj : ∀ i j b, ι i = some b → ι j = some b → i = j
  dom : ∀ i, (ι i).isSome = (μ i).isSome
  lives : ∀ i b, ι i = some b → b < w.heap.size ∧ (b < B.w0.heap.size → B.io b)
  blks : ∀ i blk, μ i = some blk → BlkR w (imm B ι μ) ι μ i blk

/-- Later worlds: what doesn't change is as it was, and no block has turned its kind or size. -/
structure Later (w w' : World) (im im' : Imm) : Prop where
  cell : ∀ b off v, im b off → w.cell? ⟨b, off, none⟩ = some v → w'.cell? ⟨b, off, none⟩ = some v ∧ im' b off
  shp : ∀ (b : Nat) (vs : Array Value) (T : TypeId), w.heap[b]? = some (Obj.cells vs T (0, 0)) → ∃ vs' : Array Value, w'.heap[b]? = some (Obj.cells vs' T (0, 0)) ∧ vs'.size = vs.size

theorem Later.refl (w : World) (im : Imm) : Later w w im im := ⟨fun _ _ _ h hc => ⟨hc, h⟩, fun _ vs _ h => ⟨vs, h, rfl⟩⟩
theorem Later.trans {w w1 w2 : World} {im im1 im2 : Imm} (h : Later w w1 im im1) (k : Later w1 w2 im1 im2) : Later w w2 im im2 :=
  ⟨fun b off v hi hc => by obtain ⟨h1, h2⟩ := h.cell b off v hi hc; exact k.cell b off v h2 h1,
   fun b vs T hb => by
    obtain ⟨v1, h1, e1⟩ := h.shp b vs T hb
    obtain ⟨v2, h2, e2⟩ := k.shp b v1 T h1
    exact ⟨v2, h2, e2.trans e1⟩⟩

theorem Rd.later {w w' : World} {im im' : Imm} (hl : Later w w' im im') {x : D} {v : Value} (h : Rd w im x v) : Rd w' im' x v := by
  induction h with
  | int k n => exact .int k n
  | bool b => exact .bool b
  | str s => exact .str s
  | nil a cap => exact .nil a cap
  | sl b off cap c xs vs hc hcap hcell hrd ih =>
    exact .sl b off cap c xs vs hc hcap (fun m hm => hl.cell _ _ _ (hcell m hm).2 (hcell m hm).1) (fun m hm => ih m hm)

/-- How one's own memory may turn without a value's losing what it says. -/
structure Kept (ι ι' : Idm) (μ μ' : Mm) : Prop where
  box : ∀ i cs, μ i = some (.box cs) → (∃ cs', μ' i = some (.box cs')) ∧ ι' i = ι i
  row : ∀ i c xs l, μ i = some (.row c xs l) → ∃ xs' l', μ' i = some (.row c xs' l') ∧ ((ι' i = ι i ∧ xs'.length = xs.length) ∨ xs.length < xs'.length)

theorem Kept.refl (ι : Idm) (μ : Mm) : Kept ι ι μ μ := ⟨fun _ cs h => ⟨⟨cs, h⟩, rfl⟩, fun _ _ xs l h => ⟨xs, l, h, .inl ⟨rfl, rfl⟩⟩⟩
theorem Kept.trans {ι ι1 ι2 : Idm} {μ μ1 μ2 : Mm} (h : Kept ι ι1 μ μ1) (k : Kept ι1 ι2 μ1 μ2) : Kept ι ι2 μ μ2 where
  box := fun i cs hi => by
    obtain ⟨⟨cs1, h1⟩, e1⟩ := h.box i cs hi
    obtain ⟨h2, e2⟩ := k.box i cs1 h1
    exact ⟨h2, e2.trans e1⟩
  row := fun i c xs l hi => by
    obtain ⟨x1, l1, h1, o1⟩ := h.row i c xs l hi
    obtain ⟨x2, l2, h2, o2⟩ := k.row i c x1 l1 h1
    refine ⟨x2, l2, h2, ?_⟩
    rcases o1 with ⟨e1, n1⟩ | n1
    · rcases o2 with ⟨e2, n2⟩ | n2
      · exact .inl ⟨e2.trans e1, n2.trans n1⟩
      · exact .inr (by omega)
    · rcases o2 with ⟨_, n2⟩ | n2 <;> exact .inr (by omega)

theorem RV.later {w w' : World} {im im' : Imm} {ι ι' : Idm} {μ μ' : Mm} (hl : Later w w' im im') (hk : Kept ι ι' μ μ') {a : AV} {v : Value} (h : RV w im ι μ a v) : RV w' im' ι' μ' a v := by
  induction h with
  | any v => exact .any v
  | d h => exact .d (h.later hl)
  | nils => exact .nils
  | nilp => exact .nilp
  | addr hx hi =>
    obtain ⟨cs, hx⟩ := hx
    obtain ⟨h1, h2⟩ := hk.box _ _ hx
    exact .addr h1 (h2.trans hi)
  | ro vs hcell hrd => exact .ro vs (fun m hm => hl.cell _ _ _ (hcell m hm).2 (hcell m hm).1) (fun m hm => (hrd m hm).later hl)
  | el hx hle h =>
    obtain ⟨xs', l', h1, h2⟩ := hk.row _ _ _ _ hx
    refine .el h1 ?_ ?_
    · rcases h2 with ⟨_, n⟩ | n <;> omega
    · intro e
      rcases h2 with ⟨h2, n⟩ | n
      · obtain ⟨h3, h4⟩ := h (by omega)
        exact ⟨h2.trans h3, h4⟩
      · omega
  | own hx hle hcap h =>
    obtain ⟨xs', l', h1, h2⟩ := hk.row _ _ _ _ hx
    refine .own h1 ?_ hcap ?_
    · rcases h2 with ⟨_, n⟩ | n <;> omega
    · intro e
      rcases h2 with ⟨h2, n⟩ | n
      · obtain ⟨h3, h4, vs, T, h5, h6⟩ := h (by omega)
        obtain ⟨vs', h7, h8⟩ := hl.shp _ _ _ h5
        exact ⟨h2.trans h3, h4, vs', T, h7, by omega⟩
      · omega
  | agg e h1 _ ih => exact .agg e h1 ih
  | tup e _ ih => exact .tup e ih
  | fn f => exact .fn f
  | iface _ ih => exact .iface ih
  | clo f e _ ih => exact .clo f e ih

end Go.KM
end
section
/- The K machine: small laws of its evaluators; memory. -/
namespace Go.KM
open Go

theorem setFK_eq (f : Fr) (n : Nat) (v : AV) (K : Fr → Prop) : setFK f n v K = K (setF f n v) := by
  induction f generalizing n K with
  | nil => rfl
  | cons x r ih => cases n with
    | zero => rfl
    | succ n => simp only [setFK, setF, ih]
theorem setF_length (f : Fr) (n : Nat) (v : AV) : (setF f n v).length = f.length := by
  induction f generalizing n with
  | nil => rfl
  | cons x r ih => cases n <;> simp [setF, ih]
theorem getF_setF (f : Fr) (n m : Nat) (v : AV) : getF (setF f n v) m = if n = m ∧ n < f.length then v else getF f m := by
  induction f generalizing n m with
  | nil => simp [setF, getF]
  | cons x r ih => cases n with
    | zero => cases m <;> simp [setF, getF]
    | succ n => cases m with
      | zero => simp [setF, getF]
      | succ m => simp [setF, getF, ih]
theorem getF_far (f : Fr) (n : Nat) (h : f.length ≤ n) : getF f n = .any := by
  induction f generalizing n with
  | nil => rfl
  | cons x r ih => cases n with
    | zero => simp at h
    | succ n => exact ih n (by simpa using h)
theorem setMK_eq (m : Mem) (n : Nat) (b : Blk) (K : Mem → Prop) : setMK m n b K = K (setM m n b) := by
  induction m generalizing K with
  | nil => rfl
  | cons x r ih =>
    obtain ⟨i, y⟩ := x
    simp only [setMK, setM]
    cases Nat.beq i n <;> simp [ih]
theorem getM_setM (m : Mem) (n i : Nat) (b : Blk) : getM (setM m n b) i = if n = i then some b else getM m i := by
  induction m with
  | nil =>
    simp only [setM, getM]
    cases h : Nat.beq n i
    · rw [if_neg (Nat.ne_of_beq_eq_false h)]
    · rw [if_pos (Nat.eq_of_beq_eq_true h)]
  | cons x r ih =>
    obtain ⟨j, y⟩ := x
    simp only [setM]
    cases h : Nat.beq j n
    · simp only [getM, ih]
      cases h2 : Nat.beq j i
      · rfl
      · have e1 := Nat.ne_of_beq_eq_false h
        have e2 := Nat.eq_of_beq_eq_true h2
        have e3 : ¬ n = i := by omega
        simp [e3]
    · simp only [getM]
      have e1 := Nat.eq_of_beq_eq_true h
      cases h2 : Nat.beq j i
      · have e2 := Nat.ne_of_beq_eq_false h2
        have e3 : ¬ n = i := by omega
        simp [e3]
      · have e2 := Nat.eq_of_beq_eq_true h2
        have e3 : n = i := by omega
        simp [e3]
/-- Changes of memory, as a function. -/
def updM (μ : Mm) : Mem → Mm
  | [] => μ
  | (j, b) :: u => updM (fun i => if j = i then some b else μ i) u
theorem putMK_eq (m u : Mem) (K : Mem → Prop) : putMK m u K = K (putM m u) := by
  induction u generalizing m with
  | nil => rfl
  | cons x r ih => simp only [putMK, putM, setMK_eq, ih]
theorem getM_putM (m u : Mem) : getM (putM m u) = updM (getM m) u := by
  induction u generalizing m with
  | nil => rfl
  | cons x r ih =>
    obtain ⟨j, b⟩ := x
    simp only [putM, ih, updM]
    congr 1
    funext i
    exact getM_setM m j i b
theorem updM_append (μ : Mm) (u v : Mem) : updM μ (u ++ v) = updM (updM μ u) v := by
  induction u generalizing μ with
  | nil => rfl
  | cons x r ih => obtain ⟨j, b⟩ := x; exact ih _
theorem evK_eq (ρ : Operand → AV) (l : List Operand) (K : List AV → Prop) : evK ρ l K = K (l.map ρ) := by
  induction l generalizing K with
  | nil => rfl
  | cons x r ih => simp only [evK, frc_eq, ih, List.map_cons]
theorem takeK_spec {α : Type} {n : Nat} {l : List α} {K : List α → Prop} (h : takeK n l K) : n ≤ l.length ∧ K (l.take n) := by
  induction n generalizing l K with
  | zero => exact ⟨Nat.zero_le _, by simpa [takeK] using h⟩
  | succ n ih => cases l with
    | nil => exact h.elim
    | cons x r =>
      obtain ⟨h1, h2⟩ := ih (l := r) h
      exact ⟨by simpa using h1, by simpa using h2⟩
theorem dropK_spec {α : Type} {n : Nat} {l : List α} {K : List α → Prop} (h : dropK n l K) : n ≤ l.length ∧ K (l.drop n) := by
  induction n generalizing l with
  | zero => exact ⟨Nat.zero_le _, by simpa [dropK] using h⟩
  | succ n ih => cases l with
    | nil => exact h.elim
    | cons x r =>
      obtain ⟨h1, h2⟩ := ih (l := r) h
      exact ⟨by simpa using h1, by simpa using h2⟩
theorem takeK_of {α : Type} {n : Nat} {l : List α} {K : List α → Prop} (h1 : n ≤ l.length) (h2 : K (l.take n)) : takeK n l K := by
  induction n generalizing l K with
  | zero => simpa [takeK] using h2
  | succ n ih => cases l with
    | nil => simp at h1
    | cons x r => exact ih (by simpa using h1) (by simpa using h2)
theorem mapdK_eq (l : List D) (K : List AV → Prop) : mapdK l K = K (l.map .d) := by
  induction l generalizing K with
  | nil => rfl
  | cons x r ih => simp only [mapdK, ih, List.map_cons]
/-- Cells written over others. -/
def over {α : Type} (l : List α) (n : Nat) (vs : List α) : List α := l.take n ++ vs ++ l.drop (n + vs.length)
theorem overK_spec {l : List AV} {n : Nat} {vs : List AV} {K : List AV → Prop} (h : overK l n vs K) : n + vs.length ≤ l.length ∧ K (over l n vs) := by
  unfold over
  induction l generalizing n vs K with
  | nil => cases n with
    | zero => cases vs with
      | nil => exact ⟨by simp, by simpa [overK] using h⟩
      | cons v vs => exact h.elim
    | succ n => cases vs <;> exact h.elim
  | cons x r ih => cases n with
    | zero => cases vs with
      | nil => exact ⟨by simp, by simpa [overK] using h⟩
      | cons v vs =>
        obtain ⟨h1, h2⟩ := ih (n := 0) (vs := vs) h
        exact ⟨by simp at h1 ⊢; omega, by simpa using h2⟩
    | succ n =>
      have h' : overK r n vs fun l => K (x :: l) := by cases vs <;> exact h
      obtain ⟨h1, h2⟩ := ih h'
      refine ⟨by simp at h1 ⊢; omega, ?_⟩
      have e : n + 1 + vs.length = (n + vs.length) + 1 := by omega
      rw [e]
      simpa using h2
theorem over_length {α : Type} (l : List α) (n : Nat) (vs : List α) (h : n + vs.length ≤ l.length) : (over l n vs).length = l.length := by
  unfold over
  simp
  omega
theorem over_get {α : Type} (l : List α) (n : Nat) (vs : List α) (h : n + vs.length ≤ l.length) (m : Nat) :
    (over l n vs)[m]? = if n ≤ m ∧ m < n + vs.length then vs[m - n]? else l[m]? := by
  unfold over
  have hn : (l.take n).length = n := by simp; omega
  by_cases h1 : m < n
  · rw [if_neg (by omega), List.append_assoc, List.getElem?_append_left (by omega), List.getElem?_take, if_pos h1]
  · rw [List.append_assoc, List.getElem?_append_right (by omega), hn]
    by_cases h2 : m < n + vs.length
    · rw [if_pos ⟨by omega, h2⟩, List.getElem?_append_left (by omega)]
    · rw [if_neg (by omega), List.getElem?_append_right (by omega), List.getElem?_drop]
      congr 1
      omega
theorem exS_spec {sh : List AV} {K : List D → Prop} (h : exS sh K) : ∃ ds, ds.length = sh.length ∧ K ds := by
  induction sh generalizing K with
  | nil => exact ⟨[], rfl, h⟩
  | cons x r ih =>
    cases x with
    | d x =>
      cases x with
      | int k n => obtain ⟨a, h⟩ := h; obtain ⟨ds, h1, h2⟩ := ih h; exact ⟨_, by simp [h1], h2⟩
      | bool b => obtain ⟨a, h⟩ := h; obtain ⟨ds, h1, h2⟩ := ih h; exact ⟨_, by simp [h1], h2⟩
      | str s => obtain ⟨a, h⟩ := h; obtain ⟨ds, h1, h2⟩ := ih h; exact ⟨_, by simp [h1], h2⟩
      | sl xs => exact h.elim
    | nils => obtain ⟨a, h⟩ := h; obtain ⟨ds, h1, h2⟩ := ih h; exact ⟨_, by simp [h1], h2⟩
    | _ => exact h.elim
theorem exS_mono {sh : List AV} {K K' : List D → Prop} (hk : ∀ ds, K ds → K' ds) (h : exS sh K) : exS sh K' := by
  induction sh generalizing K K' with
  | nil => exact hk _ h
  | cons x r ih =>
    cases x with
    | d x =>
      cases x with
      | int k n => obtain ⟨a, h⟩ := h; exact ⟨a, ih (fun ds h => hk _ h) h⟩
      | bool b => obtain ⟨a, h⟩ := h; exact ⟨a, ih (fun ds h => hk _ h) h⟩
      | str s => obtain ⟨a, h⟩ := h; exact ⟨a, ih (fun ds h => hk _ h) h⟩
      | sl xs => exact h.elim
    | nils => obtain ⟨a, h⟩ := h; exact ⟨a, ih (fun ds h => hk _ h) h⟩
    | _ => exact h.elim

/-- A value's cells, abstract and true. -/
theorem cellsK_spec {w : World} {im : Imm} {ι : Idm} {μ : Mm} {a : AV} {v : Value} {K : List AV → Prop} (hv : RV w im ι μ a v) (h : cellsK a K) :
    ∃ cs, K cs ∧ cs.length = v.cells.size ∧ (∀ u ∈ v.cells, one u) ∧ ∀ m (h1 : m < cs.length) (h2 : m < v.cells.size), RV w im ι μ (cs[m]'h1) (v.cells[m]'h2) := by
  have single : ∀ {a : AV} {v : Value}, RV w im ι μ a v → v.cells = #[v] → one v → K [a] → ∃ cs, K cs ∧ cs.length = v.cells.size ∧ (∀ u ∈ v.cells, one u) ∧ ∀ m (h1 : m < cs.length) (h2 : m < v.cells.size), RV w im ι μ (cs[m]'h1) (v.cells[m]'h2) := by
    intro a v hv e h1 hk
    refine ⟨[a], hk, by simp [e], by simpa [e] using h1, fun m h1 h2 => ?_⟩
    obtain rfl : m = 0 := by simpa using h1
    simpa [e] using hv
  cases hv with
  | any v => exact h.elim
  | d hx => exact single (.d hx) (by cases hx <;> rfl) hx.one h
  | nils => exact single .nils rfl trivial h
  | nilp => exact single .nilp rfl trivial h
  | addr h1 h2 => exact single (.addr h1 h2) rfl trivial h
  | ro vs h1 h2 => exact single (.ro vs h1 h2) rfl trivial h
  | el h1 h2 h3 => exact single (.el h1 h2 h3) rfl trivial h
  | own h1 h2 h3 h4 => exact single (.own h1 h2 h3 h4) rfl trivial h
  | agg e h1 h2 => exact ⟨_, h, by simpa [Value.cells] using e, by simpa [Value.cells] using h1, fun m hm hm2 => by simpa [Value.cells] using h2 m hm (by simpa [Value.cells] using hm2)⟩
  | tup e h2 => exact h.elim
  | fn f => exact single (.fn f) rfl trivial h
  | iface h2 => exact single (.iface h2) rfl trivial h
  | clo f e h2 => exact single (.clo f e h2) rfl trivial h

end Go.KM
end
section
/- The K machine: how the told memory turns: a new block, a block written, draws. -/
namespace Go.KM
open Go

theorem cell_blk {w : World} {b : Nat} {vs : Array Value} {T : TypeId} {fr : Nat × Nat} (h : w.heap[b]? = some (Obj.cells vs T fr)) (off : Nat) :
    w.cell? ⟨b, off, none⟩ = vs[off]? := by simp [World.cell?, h]
theorem blk_lt {w : World} {b : Nat} {o : Obj} (h : w.heap[b]? = some o) : b < w.heap.size := by
  rcases Nat.lt_or_ge b w.heap.size with h1 | h1
  · exact h1
  · rw [Array.getElem?_eq_none h1] at h; cases h
theorem cell_lt {w : World} {b off : Nat} {v : Value} (h : w.cell? ⟨b, off, none⟩ = some v) : b < w.heap.size := World.block_lt_of_cell? w _ h

/-- What a new block's cells must say. -/
def BlkD (w : World) (im : Imm) (ι : Idm) (μ : Mm) (vs : Array Value) : Blk → Prop
  | .box cs => vs.size = cs.length ∧ ∀ m (h1 : m < cs.length) (h2 : m < vs.size), one (vs[m]'h2) ∧ RV w im ι μ (cs[m]'h1) (vs[m]'h2)
  | .row c xs _ => xs.flatten.length ≤ vs.size ∧ (∀ x ∈ xs, x.length = c) ∧ ∀ m (h1 : m < xs.flatten.length) (h2 : m < vs.size), Rd w im (xs.flatten[m]'h1) (vs[m]'h2)

theorem BlkD.later {w w' : World} {im im' : Imm} {ι ι' : Idm} {μ μ' : Mm} (hl : Later w w' im im') (hk : Kept ι ι' μ μ') {vs : Array Value} {b : Blk} (h : BlkD w im ι μ vs b) : BlkD w' im' ι' μ' vs b := by
  cases b with
  | box cs => exact ⟨h.1, fun m h1 h2 => ⟨(h.2 m h1 h2).1, (h.2 m h1 h2).2.later hl hk⟩⟩
  | row c xs l => exact ⟨h.1, h.2.1, fun m h1 h2 => (h.2.2 m h1 h2).later hl⟩
theorem BlkR_iff {w : World} {im : Imm} {ι : Idm} {μ : Mm} {id : Nat} {b : Blk} :
    BlkR w im ι μ id b ↔ ∃ g vs T, ι id = some g ∧ w.heap[g]? = some (Obj.cells vs T (0, 0)) ∧ BlkD w im ι μ vs b := by
  cases b with
  | box cs => exact ⟨fun ⟨g, vs, T, h1, h2, h3, h4⟩ => ⟨g, vs, T, h1, h2, h3, h4⟩, fun ⟨g, vs, T, h1, h2, h3, h4⟩ => ⟨g, vs, T, h1, h2, h3, h4⟩⟩
  | row c xs l => exact ⟨fun ⟨g, vs, T, h1, h2, h3, h4, h5⟩ => ⟨g, vs, T, h1, h2, h3, h4, h5⟩, fun ⟨g, vs, T, h1, h2, h3, h4, h5⟩ => ⟨g, vs, T, h1, h2, h3, h4, h5⟩⟩

def updI (ι : Idm) (d : Nat) (g : Nat) : Idm := fun i => if d = i then some g else ι i
def upd1 (μ : Mm) (d : Nat) (b : Blk) : Mm := fun i => if d = i then some b else μ i
theorem updM_one (μ : Mm) (d : Nat) (b : Blk) : updM μ [(d, b)] = upd1 μ d b := rfl
theorem upd1_same (μ : Mm) (d : Nat) (b : Blk) : upd1 μ d b d = some b := by simp [upd1]
theorem upd1_ne (μ : Mm) {d i : Nat} (b : Blk) (h : d ≠ i) : upd1 μ d b i = μ i := by simp [upd1, h]

/-- What one step does to the told memory. -/
structure Turn (B : Base) (ι ι' : Idm) (μ μ' : Mm) (w w' : World) : Prop where
  mr : MR B ι' μ' w'
  kept : Kept ι ι' μ μ'
  later : Later w w' (imm B ι μ) (imm B ι' μ')

theorem Turn.refl {B : Base} {ι : Idm} {μ : Mm} {w : World} (h : MR B ι μ w) : Turn B ι ι μ μ w w := ⟨h, .refl _ _, .refl _ _⟩
theorem Turn.trans {B : Base} {ι ι1 ι2 : Idm} {μ μ1 μ2 : Mm} {w w1 w2 : World} (h : Turn B ι ι1 μ μ1 w w1) (k : Turn B ι1 ι2 μ1 μ2 w1 w2) : Turn B ι ι2 μ μ2 w w2 :=
  ⟨k.mr, h.kept.trans k.kept, h.later.trans k.later⟩

/-- Nothing but a count has turned. -/
theorem later_heap {w w' : World} (h : w'.heap = w.heap) (im : Imm) : Later w w' im im :=
  ⟨fun b off v hi hc => ⟨by simpa [World.cell?, h] using hc, hi⟩, fun b vs T hb => ⟨vs, by rw [h]; exact hb, rfl⟩⟩
theorem MR.heap {B : Base} {ι : Idm} {μ : Mm} {w w' : World} (h : MR B ι μ w) (e : w'.heap = w.heap) (e1 : w'.os = w.os) (e2 : w'.tape = w.tape) (e3 : w'.output = w.output) : MR B ι μ w' where
  env := ⟨e1.trans h.env.os, e2.trans h.env.tape, e3.trans h.env.output, by rw [e]; exact h.env.size⟩
  frame := by rw [e]; exact h.frame
  inj := h.inj
  dom := h.dom
  lives := by rw [e]; exact h.lives
  blks := fun i b hb => by
    obtain ⟨g, vs, T, h1, h2, h3⟩ := BlkR_iff.1 (h.blks i b hb)
    exact BlkR_iff.2 ⟨g, vs, T, h1, by rw [e]; exact h2, h3.later (later_heap e _) (.refl _ _)⟩
theorem Turn.heap {B : Base} {ι : Idm} {μ : Mm} {w w' : World} (h : MR B ι μ w) (e : w'.heap = w.heap) (e1 : w'.os = w.os) (e2 : w'.tape = w.tape) (e3 : w'.output = w.output) : Turn B ι ι μ μ w w' :=
  ⟨h.heap e e1 e2 e3, .refl _ _, later_heap e _⟩

theorem alloc_new (w : World) (o : Obj) : (w.alloc o).heap[w.heap.size]? = some o := by
  show (w.heap.push o)[w.heap.size]? = some o
  rw [Array.getElem?_push, if_pos rfl]
theorem alloc_old (w : World) (o : Obj) {i : Nat} (h : i < w.heap.size) : (w.alloc o).heap[i]? = w.heap[i]? := by
  show (w.heap.push o)[i]? = _
  rw [Array.getElem?_push, if_neg (by omega)]
/-- A new block. -/
theorem Turn.alloc {B : Base} {ι : Idm} {μ : Mm} {w : World} (h : MR B ι μ w) {d : Nat} (hd : μ d = none) (blk : Blk) (vs : Array Value) (T : TypeId)
    (hb : BlkD w (imm B ι μ) ι μ vs blk) : Turn B ι (updI ι d w.heap.size) μ (upd1 μ d blk) w (w.alloc (.cells vs T)) := by
  have hid : ι d = none := by
    have := h.dom d
    rw [hd] at this
    simpa using this
  have hk : Kept ι (updI ι d w.heap.size) μ (upd1 μ d blk) := by
    constructor
    · intro i cs hi
      have : d ≠ i := fun e => by rw [e] at hd; rw [hd] at hi; cases hi
      exact ⟨⟨cs, by rw [upd1_ne _ _ this]; exact hi⟩, by simp [updI, this]⟩
    · intro i c xs l hi
      have : d ≠ i := fun e => by rw [e] at hd; rw [hd] at hi; cases hi
      exact ⟨xs, l, by rw [upd1_ne _ _ this]; exact hi, .inl ⟨by simp [updI, this], rfl⟩⟩
  have hl : Later w (w.alloc (.cells vs T)) (imm B ι μ) (imm B (updI ι d w.heap.size) (upd1 μ d blk)) := by
    constructor
    · intro b off v hi hc
      have hlt := cell_lt hc
      refine ⟨by rw [World.cell?_alloc_lt w (a := ⟨b, off, none⟩) (h := hlt)]; exact hc, fun id b' h1 h2 => ?_, hi.2⟩
      by_cases e : d = id
      · subst e
        simp [updI] at h2
        omega
      · rw [upd1_ne _ _ e] at h1
        simp only [updI, if_neg e] at h2
        exact hi.1 id b' h1 h2
    · intro b vs' T' hb'
      have hlt := blk_lt hb'
      exact ⟨vs', by rw [alloc_old w _ hlt]; exact hb', rfl⟩
  refine ⟨?_, hk, hl⟩
  constructor
  · exact ⟨h.env.os, h.env.tape, h.env.output, by have := h.env.size; simp; omega⟩
  · intro b hb1 hb2
    have := h.env.size
    rw [alloc_old w _ (by omega)]
    exact h.frame b hb1 hb2
  · intro i j b hi hj
    simp only [updI] at hi hj
    by_cases e1 : d = i
    · by_cases e2 : d = j
      · omega
      · rw [if_pos e1] at hi
        rw [if_neg e2] at hj
        have := (h.lives j b hj).1
        simp at hi
        omega
    · by_cases e2 : d = j
      · rw [if_neg e1] at hi
        rw [if_pos e2] at hj
        have := (h.lives i b hi).1
        simp at hj
        omega
      · rw [if_neg e1] at hi
        rw [if_neg e2] at hj
        exact h.inj i j b hi hj
  · intro i
    by_cases e : d = i
    · simp [updI, upd1, e]
    · simp [updI, upd1, e, h.dom i]
  · intro i b hi
    simp only [updI] at hi
    by_cases e : d = i
    · rw [if_pos e] at hi
      have hs := h.env.size
      simp at hi
      exact ⟨by simp; omega, fun hlt => by omega⟩
    · rw [if_neg e] at hi
      obtain ⟨h1, h2⟩ := h.lives i b hi
      exact ⟨by simp; omega, h2⟩
  · intro i b hi
    by_cases e : d = i
    · subst e
      rw [upd1_same] at hi
      injection hi with hi
      subst hi
      refine BlkR_iff.2 ⟨w.heap.size, vs, T, by simp [updI], alloc_new w _, hb.later hl hk⟩
    · rw [upd1_ne _ _ e] at hi
      obtain ⟨g, vs', T', h1, h2, h3⟩ := BlkR_iff.1 (h.blks i b hi)
      obtain ⟨vs'', h4, _⟩ := hl.shp _ _ _ h2
      have hlt := blk_lt h2
      refine BlkR_iff.2 ⟨g, vs', T', by simp [updI, e, h1], ?_, h3.later hl hk⟩
      rw [alloc_old w _ hlt]
      exact h2

/-- A block of one's own gets other cells. -/
def setBlk (w : World) (b : Nat) (o : Obj) : World := { w with heap := w.heap.setIfInBounds b o }
theorem setBlk_same {w : World} {b : Nat} {o o' : Obj} (h : w.heap[b]? = some o) : (setBlk w b o').heap[b]? = some o' := by
  have := blk_lt h
  simp [setBlk, this]
theorem setBlk_ne {w : World} {b i : Nat} {o : Obj} (h : b ≠ i) : (setBlk w b o).heap[i]? = w.heap[i]? := by
  simp [setBlk, h]

/-- A block is written: a box anywhere; a row that isn't lent, or beyond its elements. -/
theorem Turn.write {B : Base} {ι : Idm} {μ : Mm} {w : World} (h : MR B ι μ w) {d g : Nat} {blk blk' : Blk} (hd : μ d = some blk) (hg : ι d = some g)
    (vs vs' : Array Value) (T : TypeId) (hv : w.heap[g]? = some (Obj.cells vs T (0, 0))) (hs : vs'.size = vs.size)
    (hkind : match blk, blk' with
      | .box _, .box _ => True
      | .row c xs l, .row c' xs' l' => c' = c ∧ xs.length ≤ xs'.length ∧ (l = true → l' = true ∧ xs.flatten.length ≤ xs'.flatten.length ∧ ∀ m, m < xs.flatten.length → vs'[m]? = vs[m]?)
      | _, _ => False)
    (hb : BlkD w (imm B ι μ) ι μ vs' blk') : Turn B ι ι μ (upd1 μ d blk') w (setBlk w g (.cells vs' T (0, 0))) := by
  have hk : Kept ι ι μ (upd1 μ d blk') := by
    constructor
    · intro i cs hi
      refine ⟨?_, rfl⟩
      by_cases e : d = i
      · subst e
        rw [hi] at hd
        injection hd with hd
        subst hd
        rw [upd1_same]
        cases blk' with
        | box cs' => exact ⟨cs', rfl⟩
        | row c xs l => exact hkind.elim
      · exact ⟨cs, by rw [upd1_ne _ _ e]; exact hi⟩
    · intro i c xs l hi
      by_cases e : d = i
      · subst e
        rw [hi] at hd
        injection hd with hd
        subst hd
        cases blk' with
        | box cs' => exact hkind.elim
        | row c' xs' l' =>
          obtain ⟨rfl, h1, h2⟩ := hkind
          refine ⟨xs', l', upd1_same _ _ _, ?_⟩
          rcases Nat.lt_or_eq_of_le h1 with h1 | h1
          · exact .inr h1
          · exact .inl ⟨rfl, h1.symm⟩
      · exact ⟨xs, l, by rw [upd1_ne _ _ e]; exact hi, .inl ⟨rfl, rfl⟩⟩
  have hl : Later w (setBlk w g (.cells vs' T (0, 0))) (imm B ι μ) (imm B ι (upd1 μ d blk')) := by
    constructor
    · intro b off v hi hc
      by_cases e : g = b
      · subst e
        obtain ⟨c, xs, e1, h2⟩ := hi.1 d blk hd hg
        subst e1
        cases blk' with
        | box cs' => exact hkind.elim
        | row c' xs' l' =>
          obtain ⟨rfl, h3, h4⟩ := hkind
          obtain ⟨rfl, h5, h6⟩ := h4 rfl
          refine ⟨?_, fun id b' h7 h8 => ?_, hi.2⟩
          · rw [cell_blk (setBlk_same hv)]
            rw [cell_blk hv] at hc
            rw [h6 off h2]
            exact hc
          · have := h.inj _ _ _ h8 hg
            subst this
            rw [upd1_same] at h7
            injection h7 with h7
            exact ⟨c', xs', h7.symm, by omega⟩
      · refine ⟨?_, fun id b' h7 h8 => ?_, hi.2⟩
        · simpa [World.cell?, setBlk_ne e] using hc
        · have : d ≠ id := fun e1 => by subst e1; rw [hg] at h8; injection h8 with h8; exact e h8
          rw [upd1_ne _ _ this] at h7
          exact hi.1 id b' h7 h8
    · intro b vs1 T1 hb1
      by_cases e : g = b
      · subst e
        rw [hv] at hb1
        injection hb1 with hb1
        injection hb1 with e1 e2
        subst e1 e2
        exact ⟨vs', setBlk_same hv, hs⟩
      · exact ⟨vs1, by rw [setBlk_ne e]; exact hb1, rfl⟩
  have hlv := h.lives d g hg
  refine ⟨?_, hk, hl⟩
  constructor
  · exact ⟨h.env.os, h.env.tape, h.env.output, by have := h.env.size; simp [setBlk]; exact this⟩
  · intro b hb1 hb2
    have : g ≠ b := fun e => hb2 (e ▸ hlv.2 (e ▸ hb1))
    rw [setBlk_ne this]
    exact h.frame b hb1 hb2
  · exact h.inj
  · intro i
    by_cases e : d = i
    · subst e; simp [hg, upd1]
    · simp [upd1, e, h.dom i]
  · intro i b hi
    obtain ⟨h1, h2⟩ := h.lives i b hi
    exact ⟨by simp [setBlk]; exact h1, h2⟩
  · intro i b hi
    by_cases e : d = i
    · subst e
      rw [upd1_same] at hi
      injection hi with hi
      subst hi
      exact BlkR_iff.2 ⟨g, vs', T, hg, setBlk_same hv, hb.later hl hk⟩
    · rw [upd1_ne _ _ e] at hi
      obtain ⟨g', vs1, T1, h1, h2, h3⟩ := BlkR_iff.1 (h.blks i b hi)
      have : g ≠ g' := fun e1 => by subst e1; exact e (h.inj _ _ _ hg h1)
      exact BlkR_iff.2 ⟨g', vs1, T1, h1, by rw [setBlk_ne this]; exact h2, h3.later hl hk⟩

end Go.KM
end
section
/- The K machine: runs of the model's operations at told memory. -/
namespace Go.KM
open Go

theorem one_iff (v : Value) : one v ↔ v.oneCell' = true := by cases v <;> simp [one, Value.oneCell']
theorem add_addr (b o i : Nat) : (⟨b, o, none⟩ : Addr).add i = ⟨b, o + i, none⟩ := by unfold Addr.add; split <;> simp_all

/-- A type's zero value's cell is told. -/
def ZC (a : AV) (v : Value) : Prop :=
  match a, v with
  | .d (.int k n), .int k' n' => k = k' ∧ n = n'
  | .d (.bool b), .bool b' => b = b'
  | .d (.str s), .string s' => s = s'
  | .nils, .slice none 0 0 => True
  | .nilp, .pointer none => True
  | .any, v => one v
  | _, _ => False
theorem ZC.rv {a : AV} {v : Value} (h : ZC a v) (w : World) (im : Imm) (ι : Idm) (μ : Mm) : one v ∧ RV w im ι μ a v := by
  unfold ZC at h
  split at h
  · obtain ⟨rfl, rfl⟩ := h; exact ⟨trivial, .d (.int _ _)⟩
  · subst h; exact ⟨trivial, .d (.bool _)⟩
  · subst h; exact ⟨trivial, .d (.str _)⟩
  · exact ⟨trivial, .nils⟩
  · exact ⟨trivial, .nilp⟩
  · exact ⟨h, .any _⟩
  · exact h.elim

structure TiOk (P : Program) (tab : Tab) (t : TypeId) (i : TI) : Prop where
  info : ∃ j, P.info? t = some j ∧ j.size = i.size ∧ j.bytes = i.bytes ∧ ∃ z, j.zero = some z ∧ i.zero.length = z.cells.size ∧ ∀ m (h1 : m < i.zero.length) (h2 : m < z.cells.size), ZC (i.zero[m]'h1) (z.cells[m]'h2)
  zero : i.zero.length = i.size
  desc : match i.td with
    | .int k => P.underlying t = some (.int k)
    | .bool => P.underlying t = some .bool
    | .str => P.underlying t = some .string
    | .slice e => P.underlying t = some (.slice e)
    | .struct fs => ∃ fields, P.underlying t = some (.struct fields) ∧ fs = fields.toList.map (fun f => (f.offset, f.type)) ∧ ∀ f ∈ fields.toList, ∃ fi j, tab f.type = some fi ∧ P.info? f.type = some j ∧ j.size = fi.size ∧ fi.size ≠ 0
    | .array n e => P.underlying t = some (.array n e)
    | .other => ∃ d, P.underlying t = some d ∧ (match d with | .struct _ => False | .array _ _ => False | .interface _ => False | _ => True)
  single : isStruct i.td = false → i.size = 1
def TabOk (P : Program) (tab : Tab) : Prop := ∀ t i, tab t = some i → TiOk P tab t i

theorem run_isAgg {P : Program} {tab : Tab} {t : TypeId} {i : TI} (h : TiOk P tab t i) (w : World) : (isAgg t).run P w = .ok (isStruct i.td) w := by
  have hd := h.desc
  unfold isAgg
  rw [Sem.run_bind]
  cases e : i.td <;> rw [e] at hd
  · rw [run_underlying hd w]; rfl
  · rw [run_underlying hd w]; rfl
  · rw [run_underlying hd w]; rfl
  · rw [run_underlying hd w]; rfl
  · obtain ⟨fields, hd, _⟩ := hd
    rw [run_underlying hd w]; rfl
  · rw [run_underlying hd w]; rfl
  · obtain ⟨d, hd, hx⟩ := hd
    rw [run_underlying hd w]
    cases d <;> first | rfl | exact hx.elim
theorem run_sizeOf {P : Program} {tab : Tab} {t : TypeId} {i : TI} (h : TiOk P tab t i) (w : World) : (sizeOf t).run P w = .ok i.size w := by
  obtain ⟨j, h1, h2, _⟩ := h.info
  simp [sizeOf, typeInfo, h1, h2]
theorem run_zero {P : Program} {tab : Tab} {t : TypeId} {i : TI} (h : TiOk P tab t i) (w : World) :
    ∃ z, (zeroValue t).run P w = .ok z w ∧ i.zero.length = z.cells.size ∧ ∀ m (h1 : m < i.zero.length) (h2 : m < z.cells.size), ZC (i.zero[m]'h1) (z.cells[m]'h2) := by
  obtain ⟨j, h1, h2, h3, z, h4, h5, h6⟩ := h.info
  exact ⟨z, by simp [zeroValue, typeInfo, h1, h4], h5, h6⟩

theorem run_load_one {P : Program} {tab : Tab} {t : TypeId} {i : TI} (h : TiOk P tab t i) (hs : isStruct i.td = false) {w : World} {b o : Nat} {v : Value}
    (hc : w.cell? ⟨b, o, none⟩ = some v) : (loadVar t ⟨b, o, none⟩).run P w = .ok v w := by
  unfold loadVar
  rw [Sem.run_bind, run_isAgg h, hs]
  simp [hc]
theorem run_load_agg {P : Program} {tab : Tab} {t : TypeId} {i : TI} (h : TiOk P tab t i) (hs : isStruct i.td = true) {w : World} {b o : Nat} {vs : List Value}
    (hl : vs.length = i.size) (hc : ∀ m v, vs[m]? = some v → w.cell? ⟨b, o + m, none⟩ = some v) : (loadVar t ⟨b, o, none⟩).run P w = .ok (.agg vs.toArray) w := by
  unfold loadVar
  rw [Sem.run_bind, run_isAgg h, hs]
  have := run_loadCells_list (P := P) w ⟨b, o, none⟩ vs (fun j v hv => by rw [add_addr]; exact hc j v hv)
  rw [hl] at this
  simp [run_sizeOf h, this]

theorem setRow_eq {w : World} {g : Nat} {cur : Array Value} {T : TypeId} (hg : w.heap[g]? = some (Obj.cells cur T (0, 0))) (cs : Array Value) :
    w.setRow g cs = setBlk w g (.cells cs T (0, 0)) := by
  have h : (w.setRow g cs).heap = (setBlk w g (.cells cs T (0, 0))).heap := by
    apply Array.ext_getElem?
    intro i
    by_cases e : g = i
    · subst e
      rw [setRow_heap w g cur cs T (0, 0) hg, setBlk_same hg]
    · rw [setBlk_ne e]
      simp [World.setRow, Array.getElem?_modify, e]
  unfold World.setRow setBlk at *
  simp only at h
  rw [h]

theorem run_store_var {P : Program} {t : TypeId} {n : Nat} {j : TypeInfo} (hj : P.info? t = some j) (hn : j.size = n) {w : World} {g o : Nat} {cur : Array Value} {T : TypeId} {v : Value}
    (hg : w.heap[g]? = some (Obj.cells cur T (0, 0))) (hv : v.cells.size = n) (ho : o + n ≤ cur.size) (h1 : ∀ u ∈ v.cells, one u) :
    (storeVar t ⟨g, o, none⟩ v).run P w = .ok () (setBlk w g (.cells (over cur.toList o v.cells.toList).toArray T (0, 0))) := by
  have hst := run_storeCells_at (P := P) g o T v.cells.toList 0 cur w hg (by simp; omega) (fun u hu => (one_iff u).1 (h1 u (by simpa using hu)))
  rw [setRow_eq hg] at hst
  unfold storeVar
  simp [sizeOf, typeInfo, hj, hn, hv]
  simpa [over, hv] using hst

end Go.KM
end
section
/- The K machine: rows are lent; contracts, and a call within more memory. -/
namespace Go.KM
open Go

theorem setBlk_self {w : World} {g : Nat} {o : Obj} (h : w.heap[g]? = some o) : setBlk w g o = w := by
  have e : (setBlk w g o).heap = w.heap := by
    apply Array.ext_getElem?
    intro i
    by_cases e : g = i
    · subst e; rw [setBlk_same h, h]
    · rw [setBlk_ne e]
  unfold setBlk at *
  simp only at e
  rw [e]

/-- A row is lent. -/
theorem Turn.lend {B : Base} {ι : Idm} {μ : Mm} {w : World} (h : MR B ι μ w) {id c : Nat} {xs : List (List D)} {l : Bool} (hi : μ id = some (.row c xs l)) :
    Turn B ι ι μ (upd1 μ id (.row c xs true)) w w := by
  obtain ⟨g, vs, T, h1, h2, h3, h4, h5⟩ := h.blks id _ hi
  have := Turn.write h hi h1 vs vs T h2 rfl (blk' := .row c xs true) ⟨rfl, Nat.le_refl _, fun _ => ⟨rfl, Nat.le_refl _, fun _ _ => rfl⟩⟩ ⟨h3, h4, h5⟩
  rwa [setBlk_self h2] at this

theorem lent_rd {B : Base} {ι : Idm} {μ : Mm} {w : World} (h : MR B ι μ w) {id c cap b : Nat} {xs : List (List D)} (hi : μ id = some (.row c xs true)) (hb : ι id = some b) (hcap : xs.length ≤ cap) :
    Rd w (imm B ι μ) (.sl xs) (.slice (some ⟨b, 0, none⟩) xs.length cap) := by
  obtain ⟨g, vs, T, h1, h2, h3, h4, h5⟩ := h.blks id _ hi
  rw [hb] at h1
  injection h1 with h1
  subst h1
  refine .sl b 0 cap c xs (fun m => vs.getD m undef) h4 hcap (fun m hm => ⟨?_, ?_, ?_⟩) (fun m hm => ?_)
  · rw [Nat.zero_add, cell_blk h2]
    simp [Array.getD, show m < vs.size by omega]
  · intro id' blk h6 h7
    have := h.inj _ _ _ h7 hb
    subst this
    rw [hi] at h6
    injection h6 with h6
    exact ⟨c, xs, h6.symm, by omega⟩
  · exact fun hlt => .inl ((h.lives id b hb).2 hlt)
  · have hm2 : m < vs.size := by omega
    have := h5 m hm hm2
    simpa [Array.getD, hm2] using this

/-- Memory in which some rows have been lent. -/
def Lent (μ μs : Mm) : Prop := ∀ i, μs i = μ i ∨ ∃ c xs l, μ i = some (.row c xs l) ∧ μs i = some (.row c xs true)
theorem Lent.refl (μ : Mm) : Lent μ μ := fun _ => .inl rfl

/-- What lending does: no step of the world. -/
theorem lendK_spec {B : Base} {ι : Idm} {μ μs : Mm} {w : World} (hs : Lent μ μs) (h : MR B ι μs w) {a : AV} {v : Value} (hv : RV w (imm B ι μs) ι μs a v) {K : D → Mem → List Nat → Prop} (hk : lendK μ a K) :
    ∃ x u t, K x u t ∧ Turn B ι ι μs (updM μs u) w w ∧ Lent μ (updM μs u) ∧ Rd w (imm B ι (updM μs u)) x v ∧ (∀ i, getM u i = none → updM μs u i = μs i) ∧ ∀ i, i ∈ ids u → i ∈ t := by
  cases hv with
  | d hx => exact ⟨_, _, _, hk, .refl h, hs, hx, fun _ _ => rfl, fun _ hi => by cases hi⟩
  | nils => exact ⟨_, _, _, hk, .refl h, hs, .nil _ _, fun _ _ => rfl, fun _ hi => by cases hi⟩
  | own hl hle hcap hx =>
    rename_i id len c b cap c' xs l
    have hm : ∃ l', μ id = some (.row c' xs l') := by
      rcases hs id with e | ⟨c2, xs2, l2, e1, e2⟩
      · exact ⟨l, e ▸ hl⟩
      · rw [hl] at e2
        injection e2 with e2
        injection e2 with e3 e4 e5
        subst e3 e4
        exact ⟨l2, e1⟩
    obtain ⟨l', hm⟩ := hm
    simp only [lendK, hm] at hk
    obtain ⟨⟨e1, e2⟩, hk⟩ := hk
    subst e1
    subst e2
    obtain ⟨h1, _, _⟩ := hx rfl
    have ht := Turn.lend h hl
    refine ⟨_, _, _, hk, ht, fun i => ?_, lent_rd ht.mr (upd1_same _ _ _) h1 hcap, fun i hi => ?_, fun i hi => ?_⟩
    · by_cases e : id = i
      · subst e
        exact .inr ⟨_, _, _, hm, upd1_same _ _ _⟩
      · rw [updM_one, upd1_ne _ _ e]
        exact hs i
    · have e : id ≠ i := by
        rintro rfl
        simp [getM] at hi
      rw [updM_one, upd1_ne _ _ e]
    · simpa [ids] using hi
  | _ => exact hk.elim

theorem getM_append_none {u v : Mem} {i : Nat} (h1 : getM u i = none) (h2 : getM v i = none) : getM (u ++ v) i = none := by
  induction u with
  | nil => exact h2
  | cons x r ih =>
    obtain ⟨j, b⟩ := x
    simp only [List.cons_append, getM] at h1 ⊢
    cases hb : Nat.beq j i
    · rw [hb] at h1
      exact ih h1
    · rw [hb] at h1
      cases h1
theorem getM_append (u v : Mem) (i : Nat) (h : getM (u ++ v) i = none) : getM u i = none ∧ getM v i = none := by
  induction u with
  | nil => exact ⟨rfl, h⟩
  | cons x r ih =>
    obtain ⟨j, b⟩ := x
    simp only [List.cons_append, getM] at h ⊢
    cases hb : Nat.beq j i
    · rw [hb] at h
      exact ih h
    · rw [hb] at h
      cases h

theorem lendsK_spec {B : Base} {ι : Idm} {w : World} {μ : Mm} {as : List AV} : ∀ {μs : Mm} {vs : List Value}, Lent μ μs → MR B ι μs w → as.length = vs.length →
    (∀ m (h1 : m < as.length) (h2 : m < vs.length), RV w (imm B ι μs) ι μs (as[m]'h1) (vs[m]'h2)) → ∀ {K : List D → Mem → List Nat → Prop}, lendsK μ as K →
    ∃ xs u t, K xs u t ∧ Turn B ι ι μs (updM μs u) w w ∧ Lent μ (updM μs u) ∧ xs.length = vs.length ∧
      (∀ m (h1 : m < xs.length) (h2 : m < vs.length), Rd w (imm B ι (updM μs u)) (xs[m]'h1) (vs[m]'h2)) ∧ (∀ i, getM u i = none → updM μs u i = μs i) ∧ ∀ i, i ∈ ids u → i ∈ t := by
  induction as with
  | nil =>
    intro μs vs hs h hl hv K hk
    obtain rfl : vs = [] := by simpa using hl.symm
    exact ⟨[], [], [], hk, .refl h, hs, rfl, (fun m h1 _ => absurd h1 (Nat.not_lt_zero m)), fun _ _ => rfl, fun _ hi => by cases hi⟩
  | cons a r ih =>
    intro μs vs hs h hl hv K hk
    cases vs with
    | nil => simp at hl
    | cons v vr =>
      obtain ⟨x, u, t, hk, ht, hs1, hx, hg, hi⟩ := lendK_spec hs h (hv 0 (by simp) (by simp)) (K := fun x u t => lendsK μ r fun xs u' t' => K (x :: xs) (u ++ u') (t ++ t')) hk
      obtain ⟨xs, u', t', hk, ht', hs2, hl2, hxs, hg', hi'⟩ := ih hs1 ht.mr (by simpa using hl) (fun m h1 h2 => (hv (m + 1) (by simpa using h1) (by simpa using h2)).later ht.later ht.kept) hk
      refine ⟨x :: xs, u ++ u', t ++ t', hk, ?_, ?_, by simp [hl2], ?_, ?_, ?_⟩
      · rw [updM_append]; exact ht.trans ht'
      · rw [updM_append]; exact hs2
      · intro m h1 h2
        rw [updM_append]
        cases m with
        | zero => exact hx.later ht'.later
        | succ m => exact hxs m (by simpa using h1) (by simpa using h2)
      · intro i hi0
        obtain ⟨e1, e2⟩ := getM_append _ _ _ hi0
        rw [updM_append, hg' i e2, hg i e1]
      · intro i hi0
        simp only [ids, List.map_append, List.mem_append] at hi0 ⊢
        exact hi0.imp (hi i) (hi' i)

theorem beq_no {a b : Nat} (h : a ≠ b) : Nat.beq a b = false := by
  cases e : Nat.beq a b
  · rfl
  · exact absurd (Nat.eq_of_beq_eq_true e) h

theorem cellA_spec {B : Base} {ι : Idm} {μ μs : Mm} {w : World} {dom : List Nat} (hs : Lent μ μs) (h : MR B ι μs w) {a : AV} {v : Value} (hv : RV w (imm B ι μs) ι μs a v) (h1 : one v) {K : AV → Mem → List Nat → Prop} (hk : cellA μ dom a K) :
    ∃ x u t, K x u t ∧ Turn B ι ι μs (updM μs u) w w ∧ Lent μ (updM μs u) ∧ okAV dom x = true ∧ RV w (imm B ι (updM μs u)) ι (updM μs u) x v ∧ (∀ i, i ∈ dom → getM u i = none) ∧ (∀ i, getM u i = none → updM μs u i = μs i) ∧ ∀ i, i ∈ ids u → i ∈ t := by
  have lend_ : ∀ {a : AV}, RV w (imm B ι μs) ι μs a v → (∀ i len c, a = .own i len c → dom.contains i = false) → lendK μ a (fun x u t => K (.d x) u t) →
      ∃ x u t, K x u t ∧ Turn B ι ι μs (updM μs u) w w ∧ Lent μ (updM μs u) ∧ okAV dom x = true ∧ RV w (imm B ι (updM μs u)) ι (updM μs u) x v ∧ (∀ i, i ∈ dom → getM u i = none) ∧ (∀ i, getM u i = none → updM μs u i = μs i) ∧ ∀ i, i ∈ ids u → i ∈ t := by
    intro a hv hd hk
    obtain ⟨x, u, t, ⟨h1, hu⟩, h2, h3, h4, h6, h5⟩ := lendK_spec hs h hv (K := fun x u t => K (.d x) u t ∧ ∀ i, i ∈ dom → getM u i = none) (by
      cases a with
      | own id len c =>
        have hd := hd _ _ _ rfl
        simp only [lendK] at hk ⊢
        split
        · rename_i hx
          rw [hx] at hk
          obtain ⟨hc, hk⟩ := hk
          refine ⟨hc, hk, fun i hi => ?_⟩
          have : id ≠ i := by
            rintro rfl
            rw [List.contains_eq_mem] at hd
            simp [hi] at hd
          simp [getM, beq_no this]
        · rename_i hx
          split at hk
          · rename_i c' xs l e
            exact (hx _ _ _ e).elim
          · exact hk
      | d x => exact ⟨hk, fun _ _ => rfl⟩
      | nils => exact ⟨hk, fun _ _ => rfl⟩
      | _ => exact hk)
    exact ⟨_, u, t, h1, h2, h3, rfl, .d h4, hu, h6, h5⟩
  cases hv with
  | agg e h1 hv => exact h1.elim
  | any v => exact lend_ (.any v) (fun _ _ _ e => by cases e) hk
  | d hx => exact lend_ (.d hx) (fun _ _ _ e => by cases e) hk
  | nils => exact lend_ .nils (fun _ _ _ e => by cases e) hk
  | nilp => exact lend_ .nilp (fun _ _ _ e => by cases e) hk
  | addr h2 h3 =>
    rename_i id off b
    simp only [cellA] at hk
    cases hd : dom.contains id
    · rw [hd] at hk; exact hk.elim
    · rw [hd] at hk
      exact ⟨_, _, _, hk, .refl h, hs, hd, .addr h2 h3, fun _ _ => rfl, fun _ _ => rfl, fun _ hi => by cases hi⟩
  | ro vs h2 h3 => exact lend_ (.ro vs h2 h3) (fun _ _ _ e => by cases e) hk
  | el h2 h3 h4 => exact lend_ (.el h2 h3 h4) (fun _ _ _ e => by cases e) hk
  | own h2 h3 h4 h5 =>
    rename_i id len c b cap c' xs l
    simp only [cellA] at hk
    cases hd : dom.contains id
    · rw [hd] at hk
      exact lend_ (.own h2 h3 h4 h5) (fun _ _ _ e => by cases e; exact hd) hk
    · rw [hd] at hk
      exact ⟨_, _, _, hk, .refl h, hs, hd, .own h2 h3 h4 h5, fun _ _ => rfl, fun _ _ => rfl, fun _ hi => by cases hi⟩
  | tup e h => exact h1.elim
  | fn f => exact ⟨_, _, _, hk, .refl h, hs, rfl, .fn f, fun _ _ => rfl, fun _ _ => rfl, fun _ hi => by cases hi⟩
  | iface h => exact lend_ (.iface h) (fun _ _ _ e => by cases e) hk
  | clo f e h => exact lend_ (.clo f e h) (fun _ _ _ e => by cases e) hk

theorem cellsA_spec {B : Base} {ι : Idm} {w : World} {μ : Mm} {dom : List Nat} {as : List AV} : ∀ {μs : Mm} {vs : List Value}, Lent μ μs → MR B ι μs w → as.length = vs.length → (∀ v ∈ vs, one v) →
    (∀ m (h1 : m < as.length) (h2 : m < vs.length), RV w (imm B ι μs) ι μs (as[m]'h1) (vs[m]'h2)) → ∀ {K : List AV → Mem → List Nat → Prop}, cellsA μ dom as K →
    ∃ xs u t, K xs u t ∧ Turn B ι ι μs (updM μs u) w w ∧ Lent μ (updM μs u) ∧ okAV.okAVs dom xs = true ∧ xs.length = vs.length ∧
      (∀ m (h1 : m < xs.length) (h2 : m < vs.length), RV w (imm B ι (updM μs u)) ι (updM μs u) (xs[m]'h1) (vs[m]'h2)) ∧ (∀ i, i ∈ dom → getM u i = none) ∧ (∀ i, getM u i = none → updM μs u i = μs i) ∧ ∀ i, i ∈ ids u → i ∈ t := by
  induction as with
  | nil =>
    intro μs vs hs h hl h1 hv K hk
    obtain rfl : vs = [] := by simpa using hl.symm
    exact ⟨[], [], [], hk, .refl h, hs, rfl, rfl, (fun m h1 _ => absurd h1 (Nat.not_lt_zero m)), fun _ _ => rfl, fun _ _ => rfl, fun _ hi => by cases hi⟩
  | cons a r ih =>
    intro μs vs hs h hl h1 hv K hk
    cases vs with
    | nil => simp at hl
    | cons v vr =>
      obtain ⟨x, u, t, hk, ht, hs1, hok, hx, hd, hg, hi⟩ := cellA_spec (dom := dom) hs h (hv 0 (by simp) (by simp)) (h1 v (by simp)) (K := fun x u t => cellsA μ dom r fun xs u' t' => K (x :: xs) (u ++ u') (t ++ t')) hk
      obtain ⟨xs, u', t', hk, ht', hs2, hok', hl2, hxs, hd', hg', hi'⟩ := ih hs1 ht.mr (by simpa using hl) (fun v hv => h1 v (by simp [hv])) (fun m h1 h2 => (hv (m + 1) (by simpa using h1) (by simpa using h2)).later ht.later ht.kept) hk
      refine ⟨x :: xs, u ++ u', t ++ t', hk, ?_, ?_, by simp [okAV.okAVs, hok, hok'], by simp [hl2], ?_, ?_, ?_, ?_⟩
      · rw [updM_append]; exact ht.trans ht'
      · rw [updM_append]; exact hs2
      · intro m h1 h2
        rw [updM_append]
        cases m with
        | zero => exact hx.later ht'.later ht'.kept
        | succ m => exact hxs m (by simpa using h1) (by simpa using h2)
      · intro i hi0
        have e1 := hd i hi0
        have e2 := hd' i hi0
        exact getM_append_none e1 e2
      · intro i hi0
        obtain ⟨e1, e2⟩ := getM_append _ _ _ hi0
        rw [updM_append, hg' i e2, hg i e1]
      · intro i hi0
        simp only [ids, List.map_append, List.mem_append] at hi0 ⊢
        exact hi0.imp (hi i) (hi' i)

theorem argA_spec {B : Base} {ι : Idm} {μ μs : Mm} {w : World} {dom : List Nat} (hs : Lent μ μs) (h : MR B ι μs w) {a : AV} {v : Value} (hv : RV w (imm B ι μs) ι μs a v) {K : AV → Mem → List Nat → Prop} (hk : argA μ dom a K) :
    ∃ x u t, K x u t ∧ Turn B ι ι μs (updM μs u) w w ∧ Lent μ (updM μs u) ∧ okAV dom x = true ∧ RV w (imm B ι (updM μs u)) ι (updM μs u) x v ∧ (∀ i, i ∈ dom → getM u i = none) ∧ (∀ i, getM u i = none → updM μs u i = μs i) ∧ ∀ i, i ∈ ids u → i ∈ t := by
  cases hv with
  | agg e h1 hv =>
    obtain ⟨xs, u, t, hk, ht, hs1, hok, hl, hx, h6, h7, hi⟩ := cellsA_spec (dom := dom) hs h e h1 hv (K := fun l u t => K (.agg l) u t) hk
    exact ⟨_, u, t, hk, ht, hs1, hok, .agg hl h1 hx, h6, h7, hi⟩
  | any v => exact hk.elim
  | d hx => exact cellA_spec hs h (.d hx) hx.one hk
  | nils => exact cellA_spec hs h .nils trivial hk
  | nilp => exact cellA_spec hs h .nilp trivial hk
  | addr h1 h2 => exact cellA_spec hs h (.addr h1 h2) trivial hk
  | ro vs h1 h2 => exact cellA_spec hs h (.ro vs h1 h2) trivial hk
  | el h1 h2 h3 => exact cellA_spec hs h (.el h1 h2 h3) trivial hk
  | own h1 h2 h3 h4 => exact cellA_spec hs h (.own h1 h2 h3 h4) trivial hk
  | tup e h => exact hk.elim
  | fn f => exact cellA_spec hs h (.fn f) trivial hk
  | iface h => exact hk.elim
  | clo f e h => exact hk.elim

theorem argsA_spec {B : Base} {ι : Idm} {w : World} {μ : Mm} {dom : List Nat} {as : List AV} : ∀ {μs : Mm} {vs : List Value}, Lent μ μs → MR B ι μs w → as.length = vs.length →
    (∀ m (h1 : m < as.length) (h2 : m < vs.length), RV w (imm B ι μs) ι μs (as[m]'h1) (vs[m]'h2)) → ∀ {K : List AV → Mem → List Nat → Prop}, argsA μ dom as K →
    ∃ xs u t, K xs u t ∧ Turn B ι ι μs (updM μs u) w w ∧ okAV.okAVs dom xs = true ∧ xs.length = vs.length ∧
      (∀ m (h1 : m < xs.length) (h2 : m < vs.length), RV w (imm B ι (updM μs u)) ι (updM μs u) (xs[m]'h1) (vs[m]'h2)) ∧ (∀ i, i ∈ dom → getM u i = none) ∧ (∀ i, getM u i = none → updM μs u i = μs i) ∧ ∀ i, i ∈ ids u → i ∈ t := by
  induction as with
  | nil =>
    intro μs vs hs h hl hv K hk
    obtain rfl : vs = [] := by simpa using hl.symm
    exact ⟨[], [], [], hk, .refl h, rfl, rfl, (fun m h1 _ => absurd h1 (Nat.not_lt_zero m)), fun _ _ => rfl, fun _ _ => rfl, fun _ hi => by cases hi⟩
  | cons a r ih =>
    intro μs vs hs h hl hv K hk
    cases vs with
    | nil => simp at hl
    | cons v vr =>
      obtain ⟨x, u, t, hk, ht, hs1, hok, hx, hd, hg, hi⟩ := argA_spec (dom := dom) hs h (hv 0 (by simp) (by simp)) (K := fun x u t => argsA μ dom r fun xs u' t' => K (x :: xs) (u ++ u') (t ++ t')) hk
      obtain ⟨xs, u', t', hk, ht', hok', hl2, hxs, hd', hg', hi'⟩ := ih hs1 ht.mr (by simpa using hl) (fun m h1 h2 => (hv (m + 1) (by simpa using h1) (by simpa using h2)).later ht.later ht.kept) hk
      refine ⟨x :: xs, u ++ u', t ++ t', hk, ?_, by simp [okAV.okAVs, hok, hok'], by simp [hl2], ?_, ?_, ?_, ?_⟩
      · rw [updM_append]; exact ht.trans ht'
      · intro m h1 h2
        rw [updM_append]
        cases m with
        | zero => exact hx.later ht'.later ht'.kept
        | succ m => exact hxs m (by simpa using h1) (by simpa using h2)
      · exact fun i hi0 => getM_append_none (hd i hi0) (hd' i hi0)
      · intro i hi0
        obtain ⟨e1, e2⟩ := getM_append _ _ _ hi0
        rw [updM_append, hg' i e2, hg i e1]
      · intro i hi0
        simp only [ids, List.map_append, List.mem_append] at hi0 ⊢
        exact hi0.imp (hi i) (hi' i)

/-! Contracts. -/
/-- What is asked of the world all along (of the library's variables): it hangs on the first blocks alone. -/
structure GW where
  ok : World → Prop
  low : Nat
  size : ∀ w, ok w → low ≤ w.heap.size
  keep : ∀ (w w' : World) (may : MemPlace → Prop), ok w → w.keptBut w' may → (∀ p, may p → low ≤ p.block) → ok w'
def baseOf (w : World) (im : Imm) (ι : Idm) : Base := ⟨w, im, fun b => ∃ i, ι i = some b⟩
/-- In whatever world the arguments (and the memory F) are told, the call returns a value that is told so, and leaves that memory as F'. -/
def Contract (P : Program) (G : GW) (f : FuncId) (as : List AV) (F : Mem) (r : AV) (F' : Mem) : Prop :=
  ∀ (w : World) (im : Imm) (ι : Idm) (vs : List Value), G.ok w → (∀ i b, ι i = some b → G.low ≤ b) → MR (baseOf w im ι) ι (getM F) w → as.length = vs.length →
    (∀ m (h1 : m < as.length) (h2 : m < vs.length), RV w (imm (baseOf w im ι) ι (getM F)) ι (getM F) (as[m]'h1) (vs[m]'h2)) →
    Calls P f vs.toArray w fun e w' => ∃ v ι', e = .returned v ∧ Turn (baseOf w im ι) ι ι' (getM F) (getM F') w w' ∧
      RV w' (imm (baseOf w im ι) ι' (getM F')) ι' (getM F') r v

end Go.KM
end
section
/- The K machine: a call within more memory than it may use. -/
namespace Go.KM
open Go

theorem okAVs_get {dom : List Nat} {cs : List AV} (h : okAV.okAVs dom cs = true) (m : Nat) (hm : m < cs.length) : okAV dom (cs[m]'hm) = true := by
  induction cs generalizing m with
  | nil => exact absurd hm (Nat.not_lt_zero m)
  | cons x r ih =>
    simp only [okAV.okAVs, Bool.and_eq_true] at h
    cases m with
    | zero => exact h.1
    | succ m => exact ih h.2 m (by simpa using hm)
theorem mem_of_contains {dom : List Nat} {i : Nat} (h : dom.contains i = true) : i ∈ dom := by simpa using h

/-- What a value says hangs on the memory that it names alone. -/
theorem RV.restrict {w : World} {im : Imm} {ι ι' : Idm} {μ μ' : Mm} {dom : List Nat} (hm : ∀ i, i ∈ dom → μ' i = μ i ∧ ι' i = ι i) {a : AV} {v : Value} (h : RV w im ι μ a v) (hok : okAV dom a = true) : RV w im ι' μ' a v := by
  induction h with
  | any v => exact .any v
  | d h => exact .d h
  | nils => exact .nils
  | nilp => exact .nilp
  | addr hx hi =>
    obtain ⟨e1, e2⟩ := hm _ (mem_of_contains hok)
    exact .addr (by rw [e1]; exact hx) (e2.trans hi)
  | ro vs h1 h2 => exact .ro vs h1 h2
  | el hx hle h =>
    obtain ⟨e1, e2⟩ := hm _ (mem_of_contains hok)
    exact .el (e1.trans hx) hle (fun e => ⟨e2.trans (h e).1, (h e).2⟩)
  | own hx hle hcap h =>
    obtain ⟨e1, e2⟩ := hm _ (mem_of_contains hok)
    exact .own (e1.trans hx) hle hcap (fun e => ⟨e2.trans (h e).1, (h e).2⟩)
  | agg e h1 _ ih => exact .agg e h1 (fun m h2 h3 => ih m h2 h3 (okAVs_get hok m h2))
  | tup e _ ih => exact .tup e (fun m h2 h3 => ih m h2 h3 (okAVs_get hok m h2))
  | fn f => exact .fn f
  | iface _ ih => exact .iface (ih hok)
  | clo f e _ ih => exact .clo f e (fun m h2 h3 => ih m h2 h3 (okAVs_get hok m h2))

theorem getM_mem {F : Mem} {i : Nat} : getM F i ≠ none ↔ i ∈ ids F := by
  induction F with
  | nil => simp [getM, ids]
  | cons x r ih =>
    obtain ⟨j, b⟩ := x
    simp only [getM, ids, List.map_cons, List.mem_cons]
    cases hb : Nat.beq j i
    · have := Nat.ne_of_beq_eq_false hb
      simp only [ids] at ih
      rw [ih]
      constructor
      · exact .inr
      · rintro (e | e)
        · omega
        · exact e
    · have := Nat.eq_of_beq_eq_true hb
      simp [this]
theorem haveM_get {μ : Mm} {F : Mem} (h : haveM μ F) {i : Nat} {b : Blk} (hi : getM F i = some b) : μ i = some b := by
  induction F with
  | nil => simp [getM] at hi
  | cons x r ih =>
    obtain ⟨j, b'⟩ := x
    simp only [getM] at hi
    cases hb : Nat.beq j i
    · rw [hb] at hi
      exact ih h.2 hi
    · rw [hb] at hi
      have := Nat.eq_of_beq_eq_true hb
      subst this
      exact h.1.trans hi
theorem updM_not {F : Mem} : ∀ {μ : Mm} {i : Nat}, i ∉ ids F → updM μ F i = μ i := by
  induction F with
  | nil => intros; rfl
  | cons x r ih =>
    intro μ i hi
    obtain ⟨j, b⟩ := x
    simp only [ids, List.map_cons, List.mem_cons, not_or] at hi
    simp only [updM]
    rw [ih (by simpa [ids] using hi.2), if_neg (Ne.symm hi.1)]
theorem updM_get {F : Mem} : ∀ {μ : Mm} {i : Nat}, (ids F).Nodup → i ∈ ids F → updM μ F i = getM F i := by
  induction F with
  | nil => intro μ i _ hi; cases hi
  | cons x r ih =>
    intro μ i hn hi
    obtain ⟨j, b⟩ := x
    simp only [ids, List.map_cons, List.nodup_cons, List.mem_cons] at hn hi
    simp only [updM, getM]
    by_cases e : i = j
    · subst e
      rw [updM_not (by simpa [ids] using hn.1)]
      simp
    · have hb : Nat.beq j i = false := beq_no (Ne.symm e)
      rw [hb]
      exact ih hn.2 (by rcases hi with hi | hi; exact absurd hi e; exact hi)
theorem newM_get {μ : Mm} {F F' : Mem} (h : newM μ F F') {i : Nat} (hi : i ∈ ids F') : i ∈ ids F ∨ μ i = none := by
  induction F' with
  | nil => cases hi
  | cons x r ih =>
    obtain ⟨j, b⟩ := x
    simp only [ids, List.map_cons, List.mem_cons] at hi
    rcases hi with rfl | hi
    · exact h.1.imp getM_mem.1 id
    · exact ih h.2 hi
theorem okMem_get {dom : List Nat} {F : Mem} (h : okMem dom F = true) {i : Nat} {b : Blk} (hi : getM F i = some b) : okBlk dom b = true := by
  induction F with
  | nil => simp [getM] at hi
  | cons x r ih =>
    obtain ⟨j, b'⟩ := x
    simp only [okMem, Bool.and_eq_true] at h
    simp only [getM] at hi
    cases hb : Nat.beq j i
    · rw [hb] at hi; exact ih h.2 hi
    · rw [hb] at hi
      injection hi with hi
      exact hi ▸ h.1

section
variable {P : Program} {f : FuncId} {B : Base} {ι : Idm} {μ : Mm} {w : World}

/-- Block numbers of some names alone. -/
def idF (ι : Idm) (F : Mem) : Idm := fun i => if i ∈ ids F then ι i else none
theorem idF_in {F : Mem} {i : Nat} (h : i ∈ ids F) : idF ι F i = ι i := if_pos h
theorem idF_out {F : Mem} {i : Nat} (h : i ∉ ids F) : idF ι F i = none := if_neg h

theorem later_F {F : Mem} (hF : haveM μ F) : Later w w (imm B ι μ) (imm (baseOf w (imm B ι μ) (idF ι F)) (idF ι F) (getM F)) :=
  ⟨fun b off v hi hc => ⟨hc, fun id blk h1 h2 => by
      have hin : id ∈ ids F := getM_mem.1 (by rw [h1]; simp)
      rw [idF_in hin] at h2
      exact hi.1 id blk (haveM_get hF h1) h2, fun _ => .inr hi⟩,
   fun b vs T hb => ⟨vs, hb, rfl⟩⟩

theorem MR.part (h : MR B ι μ w) {F : Mem} (hF : haveM μ F) (hok : okMem (ids F) F = true) : MR (baseOf w (imm B ι μ) (idF ι F)) (idF ι F) (getM F) w where
  env := ⟨rfl, rfl, rfl, Nat.le_refl _⟩
  frame := fun _ _ _ => rfl
  inj := fun i j b hi hj => by
    have h1 : i ∈ ids F := by
      by_cases e : i ∈ ids F
      · exact e
      · rw [idF_out e] at hi; cases hi
    have h2 : j ∈ ids F := by
      by_cases e : j ∈ ids F
      · exact e
      · rw [idF_out e] at hj; cases hj
    rw [idF_in h1] at hi
    rw [idF_in h2] at hj
    exact h.inj i j b hi hj
  dom := fun i => by
    by_cases e : i ∈ ids F
    · rw [idF_in e, h.dom i]
      cases hg : getM F i with
      | none => exact absurd hg (getM_mem.2 e)
      | some b => rw [haveM_get hF hg]
    · rw [idF_out e]
      cases hg : getM F i with
      | none => rfl
      | some b => exact absurd (getM_mem.1 (by rw [hg]; simp)) e
  lives := fun i b hi => by
    refine ⟨?_, fun _ => ⟨i, hi⟩⟩
    by_cases e : i ∈ ids F
    · rw [idF_in e] at hi
      exact (h.lives i b hi).1
    · rw [idF_out e] at hi; cases hi
  blks := fun i blk hi => by
    have hin : i ∈ ids F := getM_mem.1 (by rw [hi]; simp)
    obtain ⟨g, vs, T, h1, h2, h3⟩ := BlkR_iff.1 (h.blks i blk (haveM_get hF hi))
    refine BlkR_iff.2 ⟨g, vs, T, (idF_in hin).trans h1, h2, ?_⟩
    have hl := later_F (B := B) (ι := ι) (w := w) hF
    have hb := okMem_get hok hi
    have hmm : ∀ i, i ∈ ids F → getM F i = μ i ∧ idF ι F i = ι i := fun i hi => by
      refine ⟨?_, idF_in hi⟩
      cases hg : getM F i with
      | none => exact absurd hg (getM_mem.2 hi)
      | some b => exact (haveM_get hF hg).symm
    cases blk with
    | box cs =>
      refine ⟨h3.1, fun m h4 h5 => ⟨(h3.2 m h4 h5).1, ?_⟩⟩
      exact ((h3.2 m h4 h5).2.restrict hmm (okAVs_get hb m h4)).later hl (.refl _ _)
    | row c xs l => exact ⟨h3.1, h3.2.1, fun m h4 h5 => (h3.2.2 m h4 h5).later hl⟩

theorem haveM_eq {F : Mem} (hF : haveM μ F) {i : Nat} (hi : i ∈ ids F) : getM F i = μ i := by
  cases hg : getM F i with
  | none => exact absurd hg (getM_mem.2 hi)
  | some b => exact (haveM_get hF hg).symm

/-- Behind the call the rest is as it was. -/
theorem call_frame {G : GW} (hg : G.ok w) (hlow : ∀ i b, ι i = some b → G.low ≤ b) (h : MR B ι μ w) {F F' : Mem} (hF : haveM μ F) (hok : okMem (ids F) F = true) (hnew : newM μ F F') (hsub : ∀ i, i ∈ ids F → i ∈ ids F') (hnd : (ids F').Nodup)
    {as : List AV} {vs : List Value} (hl : as.length = vs.length) (ha : okAV.okAVs (ids F) as = true)
    (hv : ∀ m (h1 : m < as.length) (h2 : m < vs.length), RV w (imm B ι μ) ι μ (as[m]'h1) (vs[m]'h2)) {r : AV} (hC : Contract P G f as F r F') :
    Calls P f vs.toArray w fun e w' => ∃ v ι', e = .returned v ∧ Turn B ι ι' μ (updM μ F') w w' ∧ RV w' (imm B ι' (updM μ F')) ι' (updM μ F') r v := by
  have hlF := later_F (B := B) (ι := ι) (w := w) hF
  have hmm : ∀ i, i ∈ ids F → getM F i = μ i ∧ idF ι F i = ι i := fun i hi => ⟨haveM_eq hF hi, idF_in hi⟩
  refine (hC w (imm B ι μ) (idF ι F) vs hg (fun i b hi => by
    by_cases e : i ∈ ids F
    · rw [idF_in e] at hi; exact hlow i b hi
    · rw [idF_out e] at hi; cases hi) (h.part hF hok) hl (fun m h1 h2 => ((hv m h1 h2).restrict hmm (okAVs_get ha m h1)).later hlF (.refl _ _))).mono ?_
  rintro e w' ⟨v, ι', rfl, ⟨hmr, hkept, hlater⟩, hr⟩
  -- the names behind the call
  let ι2 : Idm := fun i => if i ∈ ids F' then ι' i else ι i
  have i2in : ∀ {i}, i ∈ ids F' → ι2 i = ι' i := fun hi => if_pos hi
  have i2out : ∀ {i}, i ∉ ids F' → ι2 i = ι i := fun hi => if_neg hi
  have m2in : ∀ {i}, i ∈ ids F' → updM μ F' i = getM F' i := fun hi => updM_get hnd hi
  have m2out : ∀ {i}, i ∉ ids F' → updM μ F' i = μ i := fun hi => updM_not hi
  have in' : ∀ {i b}, ι' i = some b → i ∈ ids F' := fun {i b} hi => getM_mem.1 (by
    have := hmr.dom i
    rw [hi] at this
    intro e
    rw [e] at this
    cases this)
  -- blocks that the call may write
  have io_iff : ∀ b, (∃ k, idF ι F k = some b) → ∃ k, k ∈ ids F ∧ ι k = some b := fun b ⟨k, hk⟩ => by
    by_cases e : k ∈ ids F
    · exact ⟨k, e, by rwa [idF_in e] at hk⟩
    · rw [idF_out e] at hk; cases hk
  have hsize : w.heap.size ≤ w'.heap.size := hmr.env.size
  -- what doesn't change in the callee's sense doesn't in ours
  have him : ∀ b off, imm (baseOf w (imm B ι μ) (idF ι F)) ι' (getM F') b off → imm B ι2 (updM μ F') b off := by
    intro b off hi
    have hlt : ∀ {b}, (b < w.heap.size → (∃ k, idF ι F k = some b) ∨ imm B ι μ b off) → b < w.heap.size → (∃ k, k ∈ ids F ∧ ι k = some b) ∨ imm B ι μ b off := fun h1 h2 => (h1 h2).imp (io_iff _) id
    refine ⟨fun id blk h1 h2 => ?_, fun h1 => ?_⟩
    · by_cases e : id ∈ ids F'
      · rw [m2in e] at h1
        rw [i2in e] at h2
        exact hi.1 id blk h1 h2
      · rw [m2out e] at h1
        rw [i2out e] at h2
        have h3 := (h.lives id b h2).1
        rcases hlt hi.2 h3 with ⟨k, hk1, hk2⟩ | h4
        · have := h.inj _ _ _ hk2 h2
          subst this
          exact absurd (hsub _ hk1) e
        · exact h4.1 id blk h1 h2
    · have h3 : b < w.heap.size := Nat.lt_of_lt_of_le h1 h.env.size
      rcases hlt hi.2 h3 with ⟨k, hk1, hk2⟩ | h4
      · exact .inl ((h.lives k b hk2).2 h1)
      · exact h4.2 h1
  have hl2 : Later w' w' (imm (baseOf w (imm B ι μ) (idF ι F)) ι' (getM F')) (imm B ι2 (updM μ F')) := ⟨fun b off v hi hc => ⟨hc, him b off hi⟩, fun b vs T hb => ⟨vs, hb, rfl⟩⟩
  have hL : Later w w' (imm B ι μ) (imm B ι2 (updM μ F')) := hlF.trans (hlater.trans hl2)
  have hk2 : Kept ι' ι2 (getM F') (updM μ F') := by
    constructor
    · intro i cs hi
      have e : i ∈ ids F' := getM_mem.1 (by rw [hi]; simp)
      exact ⟨⟨cs, (m2in e).trans hi⟩, i2in e⟩
    · intro i c xs l hi
      have e : i ∈ ids F' := getM_mem.1 (by rw [hi]; simp)
      exact ⟨xs, l, (m2in e).trans hi, .inl ⟨i2in e, rfl⟩⟩
  have hK : Kept ι ι2 μ (updM μ F') := by
    constructor
    · intro i cs hi
      by_cases e : i ∈ ids F'
      · rcases newM_get hnew e with e1 | e1
        · obtain ⟨⟨cs', h1⟩, h2⟩ := hkept.box i cs ((haveM_eq hF e1).trans hi)
          exact ⟨⟨cs', (m2in e).trans h1⟩, (i2in e).trans (h2.trans (idF_in e1))⟩
        · rw [e1] at hi; cases hi
      · exact ⟨⟨cs, (m2out e).trans hi⟩, i2out e⟩
    · intro i c xs l hi
      by_cases e : i ∈ ids F'
      · rcases newM_get hnew e with e1 | e1
        · obtain ⟨xs', l', h1, h2⟩ := hkept.row i c xs l ((haveM_eq hF e1).trans hi)
          refine ⟨xs', l', (m2in e).trans h1, ?_⟩
          rcases h2 with ⟨h2, h3⟩ | h2
          · exact .inl ⟨(i2in e).trans (h2.trans (idF_in e1)), h3⟩
          · exact .inr h2
        · rw [e1] at hi; cases hi
      · exact ⟨xs, l, (m2out e).trans hi, .inl ⟨i2out e, rfl⟩⟩
  refine ⟨v, ι2, rfl, ⟨?_, hK, hL⟩, (hr.later hl2 hk2)⟩
  constructor
  · exact ⟨hmr.env.os.trans h.env.os, hmr.env.tape.trans h.env.tape, hmr.env.output.trans h.env.output, Nat.le_trans h.env.size hsize⟩
  · intro b hb1 hb2
    have h1 : b < w.heap.size := Nat.lt_of_lt_of_le hb1 h.env.size
    rw [← h.frame b hb1 hb2]
    refine hmr.frame b h1 (fun ⟨k, hk⟩ => ?_)
    obtain ⟨k, hk1, hk2⟩ := io_iff b ⟨k, hk⟩
    exact hb2 ((h.lives k b hk2).2 hb1)
  · intro i j b hi hj
    by_cases e1 : i ∈ ids F'
    · by_cases e2 : j ∈ ids F'
      · rw [i2in e1] at hi
        rw [i2in e2] at hj
        exact hmr.inj i j b hi hj
      · rw [i2in e1] at hi
        rw [i2out e2] at hj
        have h1 := (h.lives j b hj).1
        obtain ⟨k, hk1, hk2⟩ := io_iff b ((hmr.lives i b hi).2 h1)
        have := h.inj _ _ _ hk2 hj
        subst this
        exact absurd (hsub _ hk1) e2
    · by_cases e2 : j ∈ ids F'
      · rw [i2out e1] at hi
        rw [i2in e2] at hj
        have h1 := (h.lives i b hi).1
        obtain ⟨k, hk1, hk2⟩ := io_iff b ((hmr.lives j b hj).2 h1)
        have := h.inj _ _ _ hk2 hi
        subst this
        exact absurd (hsub _ hk1) e1
      · rw [i2out e1] at hi
        rw [i2out e2] at hj
        exact h.inj i j b hi hj
  · intro i
    by_cases e : i ∈ ids F'
    · rw [i2in e, m2in e]; exact hmr.dom i
    · rw [i2out e, m2out e]; exact h.dom i
  · intro i b hi
    by_cases e : i ∈ ids F'
    · rw [i2in e] at hi
      obtain ⟨h1, h2⟩ := hmr.lives i b hi
      refine ⟨h1, fun h3 => ?_⟩
      obtain ⟨k, hk1, hk2⟩ := io_iff b (h2 (Nat.lt_of_lt_of_le h3 h.env.size))
      exact (h.lives k b hk2).2 h3
    · rw [i2out e] at hi
      obtain ⟨h1, h2⟩ := h.lives i b hi
      exact ⟨Nat.lt_of_lt_of_le h1 hsize, h2⟩
  · intro i blk hi
    by_cases e : i ∈ ids F'
    · rw [m2in e] at hi
      obtain ⟨g, vs', T, h1, h2, h3⟩ := BlkR_iff.1 (hmr.blks i blk hi)
      exact BlkR_iff.2 ⟨g, vs', T, (i2in e).trans h1, h2, h3.later hl2 hk2⟩
    · rw [m2out e] at hi
      obtain ⟨g, vs', T, h1, h2, h3⟩ := BlkR_iff.1 (h.blks i blk hi)
      have hlt := (h.lives i g h1).1
      refine BlkR_iff.2 ⟨g, vs', T, (i2out e).trans h1, ?_, h3.later hL hK⟩
      rw [← h2]
      refine hmr.frame g hlt (fun ⟨k, hk⟩ => ?_)
      obtain ⟨k, hk1, hk2⟩ := io_iff g ⟨k, hk⟩
      have := h.inj _ _ _ hk2 h1
      subst this
      exact e (hsub _ hk1)
end
end Go.KM
end
section
/- The K machine: each operation does what the machine says (1): values. -/
namespace Go.KM
open Go

/-- A function that can be entered. -/
def CallOk (P : Program) (f : FuncId) : Prop := ∃ fn, P.funcs[f]? = some fn ∧ (fn.name == "runtime.NumGoroutine") = false ∧ fn.body.isNone = false
def Con (P : Program) (G : GW) (f : FuncId) (as : List AV) (F : Mem) (r : AV) (F' : Mem) : Prop := CallOk P f ∧ Contract P G f as F r F'

section
variable {P : Program} {B : Base} {ι : Idm} {μ : Mm} {w : World} {o : Oper} {a : Act} {next : Act → World → Prop} {Q : Exit → Act → World → Prop} {K : AV → Mem → List Nat → Prop}

/-- What follows an operation. -/
def Nxt (B : Base) (ι : Idm) (μ : Mm) (w : World) (o : Oper) (a : Act) (K : AV → Mem → List Nat → Prop) (next : Act → World → Prop) : Prop :=
  ∀ v u t val w' ι', K v u t → Turn B ι ι' μ (updM μ u) w w' → RV w' (imm B ι' (updM μ u)) ι' (updM μ u) v val → next (a.put o.dst val) w'

theorem value_wp {val : Value} {w' : World} (hrun : (execOp a.eval o).run P w = .ok (.value val) w') (h : next (a.put o.dst val) w') : o.wp P a w next Q := by
  unfold Oper.wp; rw [hrun]; exact h
theorem skip_wp {w' : World} (hrun : (execOp a.eval o).run P w = .ok .skip w') (h : next (a.put o.dst undef) w') : o.wp P a w next Q := by
  unfold Oper.wp; rw [hrun]; exact h
/-- A value, and nothing else. -/
theorem pure_wp (hn : Nxt B ι μ w o a K next) (h : MR B ι μ w) {v : AV} {val : Value} {t : List Nat} (hk : K v [] t) (hrun : (execOp a.eval o).run P w = .ok (.value val) w)
    (hv : RV w (imm B ι μ) ι μ v val) : o.wp P a w next Q :=
  value_wp hrun (hn v [] t val w ι hk (.refl h) hv)

theorem rv_int {im : Imm} {k : IntKind} {n : Int} {v : Value} (h : RV w im ι μ (.d (.int k n)) v) : v = .int k n := by
  cases h with | d h => cases h; rfl
theorem rv_bool {im : Imm} {b : Bool} {v : Value} (h : RV w im ι μ (.d (.bool b)) v) : v = .bool b := by
  cases h with | d h => cases h; rfl
theorem rv_str {im : Imm} {s : ByteArray} {v : Value} (h : RV w im ι μ (.d (.str s)) v) : v = .string s := by
  cases h with | d h => cases h; rfl

theorem guard_int (op : BinOp) (t : TypeId) (x y : Operand) (k k' : IntKind) (m n : Int) : (eqGuard op t x y (.int k m) (.int k' n)).run P w = .ok () w := by
  unfold eqGuard; cases op <;> rfl
theorem guard_str (op : BinOp) (t : TypeId) (x y : Operand) (m n : ByteArray) : (eqGuard op t x y (.string m) (.string n)).run P w = .ok () w := by
  unfold eqGuard; cases op <;> rfl

theorem run_binOper {op : BinOp} {t t' : TypeId} {x y : Operand} (ho : o.op = .binOp op t x y t') (hg : (eqGuard op t x y (a.eval x) (a.eval y)).run P w = .ok () w) {val : Value}
    (hb : (binOp op t (a.eval x) (a.eval y)).run P w = .ok val w) : (execOp a.eval o).run P w = .ok (.value val) w := by
  unfold execOp
  simp only [ho]
  simp [hg, hb]

theorem bin_spec {op : BinOp} {k : IntKind} {m n : Int} {K : AV → Prop} (h : bin op k m n K) (t : TypeId) :
    ∃ d, K (.d d) ∧ ∃ val, (binOp op t (.int k m) (.int k n)).run P w = .ok val w ∧ ∀ im, Rd w im d val := by
  cases op <;> simp only [bin] at h
  case quo => obtain ⟨hc, h⟩ := h; exact ⟨_, h, .int k _, by simp [binOp, Op.intDiv, hc], fun _ => .int _ _⟩
  case rem => obtain ⟨hc, h⟩ := h; exact ⟨_, h, .int k _, by simp [binOp, Op.intDiv, hc], fun _ => .int _ _⟩
  case add => exact ⟨_, h, .int k _, by simp [binOp, Op.intArith], fun _ => .int _ _⟩
  case sub => exact ⟨_, h, .int k _, by simp [binOp, Op.intArith], fun _ => .int _ _⟩
  case mul => exact ⟨_, h, .int k _, by simp [binOp, Op.intArith], fun _ => .int _ _⟩
  case and => exact ⟨_, h, .int k _, by simp [binOp, Op.intBits], fun _ => .int _ _⟩
  case or => exact ⟨_, h, .int k _, by simp [binOp, Op.intBits], fun _ => .int _ _⟩
  case xor => exact ⟨_, h, .int k _, by simp [binOp, Op.intBits], fun _ => .int _ _⟩
  case andNot => exact ⟨_, h, .int k _, by simp [binOp, Op.intBits], fun _ => .int _ _⟩
  case eql => exact ⟨_, h, .bool _, by simp [binOp, Op.intCmp], fun _ => .bool _⟩
  case neq => exact ⟨_, h, .bool _, by simp [binOp, Op.intCmp], fun _ => .bool _⟩
  case lss => exact ⟨_, h, .bool _, by simp [binOp, Op.intCmp], fun _ => .bool _⟩
  case leq => exact ⟨_, h, .bool _, by simp [binOp, Op.intCmp], fun _ => .bool _⟩
  case gtr => exact ⟨_, h, .bool _, by simp [binOp, Op.intCmp], fun _ => .bool _⟩
  case geq => exact ⟨_, h, .bool _, by simp [binOp, Op.intCmp], fun _ => .bool _⟩

theorem sound_binOp {ρ : Operand → AV} {op : BinOp} {t t' : TypeId} {x y : Operand} (ho : o.op = .binOp op t x y t') (h : MR B ι μ w)
    (hx : RV w (imm B ι μ) ι μ (ρ x) (a.eval x)) (hy : RV w (imm B ι μ) ι μ (ρ y) (a.eval y)) (hk : binop op (ρ x) (ρ y) fun v => K v [] []) (hn : Nxt B ι μ w o a K next) : o.wp P a w next Q := by
  generalize ρ x = u at *
  generalize ρ y = v at *
  unfold binop at hk
  split at hk
  · rename_i k m k' n
    have e1 := rv_int hx
    have e2 := rv_int hy
    obtain ⟨hc, hk⟩ := hk
    refine pure_wp hn h hk (run_binOper ho (by rw [e1, e2]; exact guard_int _ _ _ _ _ _ _ _) ?_) (.d (.int _ _))
    rw [e1, e2]
    have hc' : ¬ n < 0 := by omega
    simp [binOp, Op.shift, hc']
  · rename_i k m k' n
    have e1 := rv_int hx
    have e2 := rv_int hy
    obtain ⟨hc, hk⟩ := hk
    refine pure_wp hn h hk (run_binOper ho (by rw [e1, e2]; exact guard_int _ _ _ _ _ _ _ _) ?_) (.d (.int _ _))
    rw [e1, e2]
    have hc' : ¬ n < 0 := by omega
    simp [binOp, Op.shift, hc']
  · rename_i op' k m k' n h1 h2
    have e1 := rv_int hx
    have e2 := rv_int hy
    split at hk
    · rename_i e
      have e := of_decide_eq_true e
      subst e
      obtain ⟨d, hk, val, hr, hd⟩ := bin_spec (P := P) (w := w) hk t
      exact pure_wp hn h hk (run_binOper ho (by rw [e1, e2]; exact guard_int _ _ _ _ _ _ _ _) (by rw [e1, e2]; exact hr)) (.d (hd _))
    · exact hk.elim
  · rename_i s1 s2
    have e1 := rv_str hx
    have e2 := rv_str hy
    exact pure_wp hn h hk (run_binOper ho (by rw [e1, e2]; exact guard_str _ _ _ _ _ _) (by rw [e1, e2]; simp [binOp, Op.stringOp])) (.d (.bool _))
  · rename_i s1 s2
    have e1 := rv_str hx
    have e2 := rv_str hy
    exact pure_wp hn h hk (run_binOper ho (by rw [e1, e2]; exact guard_str _ _ _ _ _ _) (by rw [e1, e2]; simp [binOp, Op.stringOp])) (.d (.bool _))
  · rename_i s1 s2
    have e1 := rv_str hx
    have e2 := rv_str hy
    obtain ⟨hc, hk⟩ := hk
    have hs : ¬ ((s1.size + s2.size : Nat) : Int) > IntKind.i64.max := by
      have : IntKind.i64.max = 9223372036854775807 := by decide
      omega
    have ec : catS s1 s2 = s1 ++ s2 := by
      apply ByteArray.ext
      apply Array.ext'
      simp [catS]
    refine pure_wp hn h hk (run_binOper ho (by rw [e1, e2]; exact guard_str _ _ _ _ _ _) (by rw [e1, e2]; simp only [binOp, Op.stringOp]; rw [if_neg hs, ← ec]; rfl)) (.d (.str _))
  · exact hk.elim

end
end Go.KM
end
