/- A machine of typed values over the model's own code: kinds of pure data, values, the small heap, trees of answers. No condition; definitions alone. -/
import Derived.Tactics
import GoSem.Core.Utf8
import Derived.Shelf.Unicode.DecodeLast
import Derived.Below
import Derived.Laws.CopyRow
import Derived.ChangeKeysEq
import Derived.WalkKit
import Derived.Laws.StructEq
import Derived.Lib.Strings
import Derived.Laws.Append
set_option linter.unusedVariables false
set_option linter.unusedSimpArgs false
namespace Go.Sm

/-! ### Kinds of pure data -/
inductive Cd where
  | u8 | int (k : IntKind) | bool | str | err
  | lst (c : Cd) | one (c : Cd) | pair (a b : Cd)
def Cd.same : (a b : Cd) → Option (PLift (a = b))
  | .u8, .u8 => some ⟨rfl⟩
  | .int k, .int k' => if h : k = k' then some ⟨by rw [h]⟩ else none
  | .bool, .bool => some ⟨rfl⟩
  | .str, .str => some ⟨rfl⟩
  | .err, .err => some ⟨rfl⟩
  | .lst a, .lst b => match Cd.same a b with
    | some ⟨h⟩ => some ⟨by rw [h]⟩
    | none => none
  | .one a, .one b => match Cd.same a b with
    | some ⟨h⟩ => some ⟨by rw [h]⟩
    | none => none
  | .pair a b, .pair c d => match Cd.same a c with
    | some ⟨h⟩ => (match Cd.same b d with
      | some ⟨h'⟩ => some ⟨by rw [h, h']⟩
      | none => none)
    | none => none
  | _, _ => none
/-- The data of a kind. -/
abbrev τ : Cd → Type
  | .u8 => UInt8
  | .int _ => Int
  | .bool => Bool
  | .str => List UInt8
  | .err => Int
  | .lst c => List (τ c)
  | .one c => τ c
  | .pair a b => τ a × τ b
def castL {c : Cd} (l : List (τ c)) (d : Cd) : Option (List (τ d)) :=
  match Cd.same c d with
  | some ⟨h⟩ => some (h ▸ l)
  | none => none
def sizeC : Cd → Nat
  | .pair a b => sizeC a + sizeC b
  | .one c => sizeC c
  | _ => 1
def zeroC : (c : Cd) → τ c
  | .u8 => (0 : UInt8)
  | .int _ => (0 : Int)
  | .bool => false
  | .str => ([] : List UInt8)
  | .err => (0 : Int)
  | .lst c => ([] : List (τ c))
  | .one c => zeroC c
  | .pair a b => (zeroC a, zeroC b)

/-! ### Values -/
inductive AV where
  | int (k : IntKind) (n : Int)
  | u8 (b : UInt8)
  | bool (b : Bool)
  | str (s : List UInt8)
  | eno (n : Int)
  | iface (t : TypeId) (v : AV)
  | nilp
  | ptr (b o : Nat)
  | elp (b v s i o : Nat)
  | eptr (cs : List AV)
  | nils
  | lst (c : Cd) (l : List (τ c))
  | lstp (xs : List AV)
  | slc (b v : Nat)
  | sub (b v s i n : Nat)
  | agg (cs : List AV)
  | tup (vs : List AV)
  | fn (f : FuncId) (cap : List AV)
  | dead
def AV.cells : AV → List AV
  | .agg cs => cs
  | v => [v]
/-- Data as cells. -/
def cellsC : (c : Cd) → τ c → List AV
  | .u8, b => [.u8 b]
  | .int k, n => [.int k n]
  | .bool, b => [.bool b]
  | .str, s => [.str s]
  | .err, n => [.eno n]
  | .lst c, l => [.lst c l]
  | .one c, x => cellsC c x
  | .pair a b, x => cellsC a x.1 ++ cellsC b x.2
def inj : (c : Cd) → τ c → AV
  | .u8, b => .u8 b
  | .int k, n => .int k n
  | .bool, b => .bool b
  | .str, s => .str s
  | .err, n => .eno n
  | .lst c, l => .lst c l
  | .one c, x => .agg (cellsC c x)
  | .pair a b, x => .agg (cellsC a x.1 ++ cellsC b x.2)
/-- Cells as data. -/
def decC : (c : Cd) → List AV → Option (τ c × List AV)
  | .u8, .u8 b :: r => some (b, r)
  | .int k, .int k' n :: r => (match decide (k' = k) with | true => some (n, r) | false => none)
  | .bool, .bool b :: r => some (b, r)
  | .str, .str s :: r => some (s, r)
  | .err, .eno n :: r => some (n, r)
  | .lst c, .lst c' l :: r => (match castL l c with | some l' => some (l', r) | none => none)
  | .lst c, .nils :: r => some ([], r)
  | .one c, cs => decC c cs
  | .pair a b, cs => (match decC a cs with
    | some (x, r) => (match decC b r with
      | some (y, r') => some ((x, y), r')
      | none => none)
    | none => none)
  | _, _ => none
def isAggC : Cd → Bool
  | .one _ => true
  | .pair _ _ => true
  | _ => false
def isAggV : AV → Bool
  | .agg _ => true
  | _ => false
def dec (c : Cd) (v : AV) : Option (τ c) :=
  match isAggC c, isAggV v with
  | true, true => (match decC c v.cells with | some (x, []) => some x | _ => none)
  | false, false => (match decC c v.cells with | some (x, []) => some x | _ => none)
  | _, _ => none

/-- A block of the small heap: cells; a slice of its own memory (does it change no more, how often it grew, its elements); a text's iterator. -/
inductive AB where
  | cells (cs : List AV)
  | arr (ice : Bool) (v : Nat) (c : Cd) (l : List (τ c))
  | iter (s : List UInt8) (pos : Nat)

mutual
def AV.ptrs : AV → List Nat
  | .ptr b _ => [b]
  | .elp b _ _ _ _ => [b]
  | .slc b _ => [b]
  | .sub b _ _ _ _ => [b]
  | .lstp cs => ptrsL cs
  | .eptr cs => ptrsL cs
  | .agg cs => ptrsL cs
  | .tup cs => ptrsL cs
  | .fn _ cs => ptrsL cs
  | .iface _ v => v.ptrs
  | _ => []
def ptrsL : List AV → List Nat
  | [] => []
  | v :: r => v.ptrs ++ ptrsL r
end
mutual
/-- Blocks by other numbers, and their ages. -/
def AV.ren (f : Nat → Option Nat) (g : Nat → Nat → Option Nat) : AV → Option AV
  | .ptr b o => match f b with | some b' => some (.ptr b' o) | none => none
  | .elp b v s i o => match g b v with
    | some v' => (match f b with | some b' => some (.elp b' v' s i o) | none => none)
    | none => some .dead
  | .slc b v => match g b v with
    | some v' => (match f b with | some b' => some (.slc b' v') | none => none)
    | none => some .dead
  | .sub b v s i n => match g b v with
    | some v' => (match f b with | some b' => some (.sub b' v' s i n) | none => none)
    | none => some .dead
  | .lstp cs => match renL f g cs with | some cs' => some (.lstp cs') | none => none
  | .eptr cs => match renL f g cs with | some cs' => some (.eptr cs') | none => none
  | .agg cs => match renL f g cs with | some cs' => some (.agg cs') | none => none
  | .tup cs => match renL f g cs with | some cs' => some (.tup cs') | none => none
  | .fn h cs => match renL f g cs with | some cs' => some (.fn h cs') | none => none
  | .iface t v => match v.ren f g with | some v' => some (.iface t v') | none => none
  | v => some v
def renL (f : Nat → Option Nat) (g : Nat → Nat → Option Nat) : List AV → Option (List AV)
  | [] => some []
  | v :: r => match v.ren f g with
    | some v' => (match renL f g r with
      | some r' => some (v' :: r')
      | none => none)
    | none => none
end
def AB.ptrs : AB → List Nat
  | .cells cs => ptrsL cs
  | _ => []

/-! ### Trees of answers -/
inductive DT (α : Type) : Type 1 where
  | no
  | ret (a : α)
  | ite (c : Bool) (a b : DT α)
  | bnd {β : Type} (o : Option β) (k : β → DT α)
  | cas {β γ : Type} (o : β ⊕ γ) (k : β → DT α) (k' : γ → DT α)
def DT.bind {α β : Type} : DT α → (α → DT β) → DT β
  | .no, _ => .no
  | .ret a, K => K a
  | .ite c a b, K => .ite c (a.bind K) (b.bind K)
  | .bnd o k, K => .bnd o fun x => (k x).bind K
  | .cas o k k', K => .cas o (fun x => (k x).bind K) fun x => (k' x).bind K
def DT.run {α : Type} : DT α → Option α
  | .no => none
  | .ret a => some a
  | .ite c a b => cond c a.run b.run
  | .bnd o k => o.bind fun x => (k x).run
  | .cas o k k' => Sum.elim (fun x => (k x).run) (fun x => (k' x).run) o
def ofO {α : Type} : Option α → DT α
  | some a => .ret a
  | none => .no
theorem bind_run {α β : Type} {d : DT α} {K : α → DT β} {r : β} (h : (d.bind K).run = some r) : ∃ a, d.run = some a ∧ (K a).run = some r := by
  induction d with
  | no => exact absurd h (by simp [DT.bind, DT.run])
  | ret a => exact ⟨a, rfl, h⟩
  | ite c a b iha ihb =>
    cases c with
    | true => obtain ⟨x, h1, h2⟩ := iha h; exact ⟨x, h1, h2⟩
    | false => obtain ⟨x, h1, h2⟩ := ihb h; exact ⟨x, h1, h2⟩
  | bnd o k ih =>
    cases o with
    | none => exact absurd h (by simp [DT.bind, DT.run])
    | some x => obtain ⟨y, h1, h2⟩ := ih x h; exact ⟨y, h1, h2⟩
  | cas o k k' ih ih' =>
    cases o with
    | inl x => obtain ⟨y, h1, h2⟩ := ih x h; exact ⟨y, h1, h2⟩
    | inr x => obtain ⟨y, h1, h2⟩ := ih' x h; exact ⟨y, h1, h2⟩
theorem run_bind {α β : Type} {d : DT α} {K : α → DT β} {a : α} {r : Option β} (h : d.run = some a) (hr : (K a).run = r) : (d.bind K).run = r := by
  induction d with
  | no => exact absurd h (by simp [DT.run])
  | ret x => obtain rfl := Option.some.inj h; exact hr
  | ite c a b iha ihb =>
    cases c with
    | true => exact iha h
    | false => exact ihb h
  | bnd o k ih =>
    cases o with
    | none => exact absurd h (by simp [DT.run])
    | some x => exact ih x h
  | cas o k k' ih ih' =>
    cases o with
    | inl x => exact ih x h
    | inr x => exact ih' x h
theorem run_ite {α : Type} {c : Bool} {a b : DT α} {r : α} (h : (DT.ite c a b).run = some r) : (c = true ∧ a.run = some r) ∨ (c = false ∧ b.run = some r) := by
  cases c with
  | true => exact .inl ⟨rfl, h⟩
  | false => exact .inr ⟨rfl, h⟩
theorem run_bnd {α β : Type} {o : Option β} {k : β → DT α} {r : α} (h : (DT.bnd o k).run = some r) : ∃ x, o = some x ∧ (k x).run = some r := by
  cases o with
  | none => exact absurd h (by simp [DT.run])
  | some x => exact ⟨x, rfl, h⟩
theorem run_ret {α : Type} {a r : α} (h : (DT.ret a).run = some r) : a = r := Option.some.inj h
theorem run_no {α : Type} {r : α} (h : (DT.no : DT α).run = some r) : False := by cases h
theorem run_ofO {α : Type} {o : Option α} {r : α} (h : (ofO o).run = some r) : o = some r := by
  cases o with
  | none => cases h
  | some a => exact h

/-! ### Types -/
inductive Kd where
  | int (k : IntKind) | bool | str
  | strct (fs : List (TypeId × Nat × Nat))
  | slc (e : TypeId) | arr (n : Nat) (e : TypeId) | ptr (e : TypeId)
  | ifc | fnc | other
structure TI where
  kd : Kd
  size : Nat
  bytes : Nat
  zero : Option AV
  eqok : Bool
def Kd.isAgg : Kd → Bool
  | .strct _ | .arr _ _ => true
  | _ => false
def Kd.isOther : Kd → Bool
  | .other => true
  | _ => false
def byteI (n : Int) : UInt8 := UInt8.ofNat (n % 256).toNat
def ofS : Value → Option AV
  | .int k n => match k with
    | .u8 => (match decide (0 ≤ n ∧ n < 256) with | true => some (.u8 (byteI n)) | false => none)
    | k => some (.int k n)
  | .bool b => some (.bool b)
  | .string s => some (.str s.data.toList)
  | .nilIface => some (.eno 0)
  | .pointer none => some .nilp
  | .slice none 0 0 => some .nils
  | _ => none
def ofSL : List Value → Option (List AV)
  | [] => some []
  | v :: r => match ofS v with
    | some v' => (match ofSL r with
      | some r' => some (v' :: r')
      | none => none)
    | none => none
def ofV : Value → Option AV
  | .agg cs => match ofSL cs.toList with | some cs' => some (.agg cs') | none => none
  | v => ofS v
def kdOf (P : Program) : TypeDesc → Kd
  | .int k => .int k
  | .bool => .bool
  | .string => .str
  | .struct fs => if fs.all (fun f => f.name != "_" && (P.info? f.type).isSome) then .strct (fs.toList.map fun f => (f.type, f.offset, P.cellsOf f.type)) else .other
  | .slice e => .slc e
  | .array n e => .arr n e
  | .pointer e => .ptr e
  | .interface _ => .ifc
  | .func .. => .fnc
  | _ => .other
def eqokOf (P : Program) (t : TypeId) : TypeDesc → Bool
  | .struct _ => !(P.stoodInHeld t) && !(P.eqGuardType P.depth t)
  | _ => false
def mkT (P : Program) (t : TypeId) : Option TI :=
  match P.info? t, P.underlying t with
  | some i, some d => some ⟨kdOf P d, i.size, i.bytes,
      (match i.zero with | some z => ofV z | none => none),
      eqokOf P t d⟩
  | _, _ => none
/-- The kind of a type's data. -/
def tailC (f : TypeId → Option Cd) : TypeId → List (TypeId × Nat × Nat) → Option Cd
  | t, [] => f t
  | t, (u, _, _) :: r => match f t, tailC f u r with
    | some a, some b => some (.pair a b)
    | _, _ => none
def cdOf (P : Program) : Nat → TypeId → Option Cd
  | 0, _ => none
  | d + 1, t => match mkT P t with
    | none => none
    | some ti => match ti.kd with
      | .int .u8 => some .u8
      | .int k => some (.int k)
      | .bool => some .bool
      | .str => some .str
      | .ifc => some .err
      | .slc e => (match cdOf P d e with | some c => some (.lst c) | none => none)
      | .strct [(u, _, _)] => (match cdOf P d u with | some c => some (.one c) | none => none)
      | .strct ((u, _, _) :: r) => tailC (cdOf P d) u r
      | _ => none
/-- A zero of the kind that a slice's element has: what the small heap knows of a nil slice's cell. -/
def elemC (P : Program) (t : TypeId) : Option Cd :=
  match mkT P t with
  | some ti => (match ti.kd with | .slc e => cdOf P 20 e | _ => none)
  | none => none

/-! ### Slots -/
abbrev Env := Nat → Option AV
def emp : Env := fun _ => none
def upd (e : Env) (i : Nat) (v : AV) : Env := fun j => if j = i then some v else e j
def opd (env : Env) : Operand → Option AV
  | .tmp t => env t
  | .const v => ofV v
  | .func f => some (.fn f [])
  | .global _ => none
def opdL (env : Env) : List Operand → Option (List AV)
  | [] => some []
  | x :: r => match opd env x with
    | some v => (match opdL env r with
      | some vs => some (v :: vs)
      | none => none)
    | none => none
def opdP (env : Env) : List (Nat × Operand) → Option (List (Nat × AV))
  | [] => some []
  | (i, x) :: r => match opd env x, opdP env r with
    | some (.tup _), _ => none
    | some v, some vs => some ((i, v) :: vs)
    | _, _ => none
def opdO (env : Env) : Option Operand → Option (Option AV)
  | none => some none
  | some x => match opd env x with | some v => some (some v) | none => none
def isConst : Operand → Bool
  | .const _ => true
  | _ => false
end Go.Sm
/- The operations of the typed machine, as trees of answers. No condition; definitions alone. -/
set_option linter.unusedVariables false
namespace Go.Sm

/-- The type of the program's errors: a whole number by another name. -/
abbrev errT : TypeId := 96
abbrev OT := DT (AV × List AB)
def getI {α : Type} (l : List α) (i : Int) : Option α := match decide (0 ≤ i) with | true => l[i.toNat]? | false => none
def subI {α : Type} (l : List α) (lo hi : Int) : Option (List α) :=
  match decide (0 ≤ lo ∧ lo ≤ hi ∧ hi ≤ l.length) with | true => some ((l.take hi.toNat).drop lo.toNat) | false => none
def partA (ti : TI) (cs : List AV) (off : Nat) : Option AV :=
  match ti.kd.isAgg with
  | true => (match decide (off + ti.size ≤ cs.length) with | true => some (.agg ((cs.drop off).take ti.size)) | false => none)
  | false => (match ti.kd.isOther with | true => none | false => cs[off]?)
def setR (cs : List AV) (off : Nat) (vs : List AV) : List AV := cs.take off ++ vs ++ cs.drop (off + vs.length)
def placeS (fs : List (TypeId × Nat × Nat)) (i : Nat) : Option (Nat × Nat) :=
  match fs[i]? with
  | some f => some (f.2.1, f.2.2)
  | none => none
def fillA (place : Nat → Option (Nat × Nat)) (cells : List AV) : List (Nat × AV) → Option (List AV)
  | [] => some cells
  | (i, v) :: r => match place i with
    | none => none
    | some (off, sz) => match decide (v.cells.length = sz ∧ off + sz ≤ cells.length) with | true => fillA place (setR cells off v.cells) r | false => none
def fieldAt (ti : TI) (i : Nat) : Option (TypeId × Nat × Nat) :=
  match ti.kd with
  | .strct fs => fs[i]?
  | _ => none
def zeroA (P : Program) (t : TypeId) : Option AV :=
  match mkT P t with
  | some ti => ti.zero
  | none => none
def zeroOk (ei : TI) : Bool :=
  match ei.zero with
  | some z => z.cells.length == ei.size
  | none => false

/-! ### Operators -/
def bitA (op : BinOp) (k : IntKind) (a b : Int) : Int :=
  let x := BitVec.ofInt k.bits a
  let y := BitVec.ofInt k.bits b
  match op with
  | .and => k.wrap (x &&& y).toNat
  | .or => k.wrap (x ||| y).toNat
  | .xor => k.wrap (x ^^^ y).toNat
  | _ => k.wrap (x &&& ~~~y).toNat
def intT (op : BinOp) (k : IntKind) (a b : Int) : DT AV :=
  match op with
  | .add => .ret (.int k (k.wrap (a + b)))
  | .sub => .ret (.int k (k.wrap (a - b)))
  | .mul => .ret (.int k (k.wrap (a * b)))
  | .quo => .ite (decide (b = 0)) .no (.ret (.int k (k.wrap (a.tdiv b))))
  | .rem => .ite (decide (b = 0)) .no (.ret (.int k (a.tmod b)))
  | .and => .ret (.int k (bitA .and k a b))
  | .or => .ret (.int k (bitA .or k a b))
  | .xor => .ret (.int k (bitA .xor k a b))
  | .andNot => .ret (.int k (bitA .andNot k a b))
  | .eql => .ret (.bool (decide (a = b)))
  | .neq => .ret (.bool (decide (a ≠ b)))
  | .lss => .ret (.bool (decide (a < b)))
  | .leq => .ret (.bool (decide (a ≤ b)))
  | .gtr => .ret (.bool (decide (b < a)))
  | .geq => .ret (.bool (decide (b ≤ a)))
  | _ => .no
def binU (op : BinOp) (a b : UInt8) : DT AV :=
  match op with
  | .add => .ret (.u8 (a + b))
  | .sub => .ret (.u8 (a - b))
  | .mul => .ret (.u8 (a * b))
  | .quo => .ite (decide (b = 0)) .no (.ret (.u8 (a / b)))
  | .rem => .ite (decide (b = 0)) .no (.ret (.u8 (a % b)))
  | .and => .ret (.u8 (a &&& b))
  | .or => .ret (.u8 (a ||| b))
  | .xor => .ret (.u8 (a ^^^ b))
  | .eql => .ret (.bool (decide (a = b)))
  | .neq => .ret (.bool (decide (a ≠ b)))
  | .lss => .ret (.bool (decide (a < b)))
  | .leq => .ret (.bool (decide (a ≤ b)))
  | .gtr => .ret (.bool (decide (b < a)))
  | .geq => .ret (.bool (decide (b ≤ a)))
  | _ => .no
def strT (op : BinOp) (a b : List UInt8) : DT AV :=
  match op with
  | .add => .ite (decide (a.length + b.length ≤ 9223372036854775807)) (.ret (.str (a ++ b))) .no
  | .eql => .ret (.bool (decide (a = b)))
  | .neq => .ret (.bool (decide (a ≠ b)))
  | .lss => .ret (.bool (Op.bytesLess a b))
  | .leq => .ret (.bool (Op.bytesLess a b || decide (a = b)))
  | .gtr => .ret (.bool !(Op.bytesLess a b || decide (a = b)))
  | .geq => .ret (.bool !(Op.bytesLess a b))
  | _ => .no
def shiftT (op : BinOp) (x : AV) (b : Int) : DT AV :=
  match op, x with
  | .shl, .int k a => .ite (decide (b < 0)) .no (.ret (.int k (k.wrap (a * 2 ^ (min b.toNat k.bits)))))
  | .shr, .int k a => .ite (decide (b < 0)) .no (.ret (.int k (a.fdiv (2 ^ (min b.toNat k.bits)))))
  | .shl, .u8 a => .ite (decide (b < 0)) .no (.ret (.u8 (byteI ((a.toNat : Int) * 2 ^ (min b.toNat 8)))))
  | .shr, .u8 a => .ite (decide (b < 0)) .no (.ret (.u8 (byteI ((a.toNat : Int).fdiv (2 ^ (min b.toNat 8))))))
  | _, _ => .no
/-- '==' at a type. -/
def eqV (P : Program) : Nat → TypeId → AV → AV → Option Bool
  | 0, _, _, _ => none
  | d + 1, t, x, y => match mkT P t with
    | none => none
    | some ti => match ti.kd, x, y with
      | .bool, .bool a, .bool b => some (a == b)
      | .int _, .int k a, .int k' b => (match decide (k = k') with | true => some (decide (a = b)) | false => none)
      | .int _, .u8 a, .u8 b => some (decide (a = b))
      | .str, .str a, .str b => some (decide (a = b))
      | .ptr _, .nilp, .nilp => some true
      | .ptr _, .nilp, .ptr _ _ => some false
      | .ptr _, .ptr _ _, .nilp => some false
      | .ptr _, .nilp, .eptr _ => some false
      | .ptr _, .eptr _, .nilp => some false
      | .strct fs, .agg xs, .agg ys => (match ti.eqok with | true => eqFs (eqV P d) fs xs ys | false => none)
      | _, _, _ => none
where
  eqFs (eq : TypeId → AV → AV → Option Bool) : List (TypeId × Nat × Nat) → List AV → List AV → Option Bool
    | [], _, _ => some true
    | (t, off, _) :: r, xs, ys => match mkT P t with
      | none => none
      | some ti => match partA ti xs off with
        | some x => (match partA ti ys off with
          | some y => (match eq t x y with
            | some b => (match eqFs eq r xs ys with
              | some c => some (b && c)
              | none => none)
            | none => none)
          | none => none)
        | none => none
/-- May errors be compared? -/
def errOk (P : Program) : Bool :=
  match P.info? errT, P.underlying errT with
  | some i, some (.int .i64) => i.comparable
  | _, _ => false
def isIfc (P : Program) (t : TypeId) : Bool :=
  match mkT P t with
  | some ti => (match ti.kd with | .ifc => true | _ => false)
  | none => false
def enoT (P : Program) (op : BinOp) (t : TypeId) (cst : Bool) (a b : Int) : DT AV :=
  match errOk P && isIfc P t with
  | false => .no
  | true => match op with
    | .eql => (match cst with
      | true => .ret (.bool (decide (a = b)))
      | false => .ite (decide (a = 0 ∧ b = 0)) .no (.ret (.bool (decide (a = b)))))
    | .neq => (match cst with
      | true => .ret (.bool (decide (a ≠ b)))
      | false => .ite (decide (a = 0 ∧ b = 0)) .no (.ret (.bool (decide (a ≠ b)))))
    | _ => .no
def binT (P : Program) (op : BinOp) (t : TypeId) (cst : Bool) (x y : AV) : DT AV :=
  match op with
  | .shl | .shr => (match y with
    | .int _ b => shiftT op x b
    | .u8 b => shiftT op x b.toNat
    | _ => .no)
  | op => match x, y with
    | .int k a, .int k' b => (match decide (k = k') with | true => intT op k a b | false => .no)
    | .u8 a, .u8 b => binU op a b
    | .str a, .str b => strT op a b
    | .eno a, .eno b => enoT P op t cst a b
    | x, y => match op with
      | .eql => (match eqV P 100 t x y with | some b => .ret (.bool b) | none => .no)
      | .neq => (match eqV P 100 t x y with | some b => .ret (.bool !b) | none => .no)
      | _ => .no
def unA (op : UnOp) (x : AV) : Option AV :=
  match op, x with
  | .neg, .int k n => some (.int k (k.wrap (0 - n)))
  | .neg, .u8 b => some (.u8 (0 - b))
  | .xor, .int k n => some (.int k (bitA .xor k (if k.signed then -1 else k.max) n))
  | .not, .bool b => some (.bool !b)
  | _, _ => none

/-! ### Slices -/
inductive Cont where
  | nil
  | of (c : Cd) (l : List (τ c))
/-- The age of a slice's memory. -/
def curV (H : List AB) (b : Nat) : Option Nat :=
  match H[b]? with
  | some (.arr _ v _ _) => some v
  | _ => none
/-- What a slice holds. -/
def contH (H : List AB) : AV → Option Cont
  | .nils => some .nil
  | .lst c l => some (.of c l)
  | .slc b v => (match H[b]? with
    | some (.arr _ v' c l) => (match decide (v = v') with | true => some (.of c l) | false => none)
    | _ => none)
  | .sub b v s i n => (match H[b]? with
    | some (.arr _ v' c l) => (match decide (v = v' ∧ s = sizeC c) with | true => some (.of c ((l.drop i).take n)) | false => none)
    | _ => none)
  | _ => none
def Cont.cast (x : Cont) (c : Cd) : Option (List (τ c)) :=
  match x with
  | .nil => some []
  | .of c' l => castL l c
def lenH (H : List AB) (x : AV) : Option Int :=
  match x with
  | .sub b v s i n => (match curV H b with
    | some v' => (match decide (v = v') with | true => some n | false => none)
    | none => none)
  | x => match contH H x with
    | some .nil => some 0
    | some (.of c l) => some l.length
    | none => none
def lenT (P : Program) (H : List AB) (t : TypeId) (x : AV) : Option AV :=
  match mkT P t with
  | none => none
  | some ti => match ti.kd, x with
    | .str, .str s => some (.int .i64 s.length)
    | .arr n _, _ => some (.int .i64 n)
    | .slc _, x => match lenH H x with | some n => some (.int .i64 n) | none => none
    | _, _ => none
def loI (lo : Option AV) : Option Int :=
  match lo with
  | none => some 0
  | some (.int _ l) => some l
  | some (.u8 b) => some b.toNat
  | _ => none
def hiI (n : Int) (hi : Option AV) : Option Int :=
  match hi with
  | none => some n
  | some (.int _ l) => some l
  | some (.u8 b) => some b.toNat
  | _ => none
/-- A part of a list, between places that may be left out. -/
def partL {α : Type} (l : List α) (lo hi : Option AV) (K : List α → DT AV) : DT AV :=
  match lo, hi with
  | none, none => K l
  | lo, hi => match loI lo with
    | some a => (match hiI l.length hi with
      | some b => .bnd (subI l a b) K
      | none => .no)
    | none => .no
def sliceT (P : Program) (H : List AB) (t : TypeId) (x : AV) (lo hi : Option AV) : DT AV :=
  match mkT P t with
  | none => .no
  | some ti => match ti.kd, x with
    | .str, .str s => partL s lo hi fun r => .ret (.str r)
    | .slc e, x => (match mkT P e with
      | none => .no
      | some ei => match x with
        | .nils => (match loI lo, hiI 0 hi with
          | some a, some b => .ite (decide (a = 0 ∧ b = 0)) (.ret .nils) .no
          | _, _ => .no)
        | .lst c l => (match decide (sizeC c = ei.size) with
          | true => partL l lo hi fun r => .ret (.lst c r)
          | false => .no)
        | .slc b v => (match H[b]? with
          | some (.arr _ v' c l) => (match decide (v = v' ∧ sizeC c = ei.size) with
            | true => (match lo, hi with
              | none, none => .ret (.slc b v)
              | lo, hi => match loI lo, hiI l.length hi with
                | some a, some z => .ite (decide (0 ≤ a ∧ a ≤ z ∧ z ≤ l.length)) (.ret (.sub b v (sizeC c) a.toNat (z - a).toNat)) .no
                | _, _ => .no)
            | false => .no)
          | _ => .no)
        | .sub b v s i n => (match H[b]? with
          | some (.arr _ v' c l) => (match decide (v = v' ∧ sizeC c = ei.size ∧ s = sizeC c) with
            | true => (match loI lo, hiI n hi with
              | some a, some z => .ite (decide (0 ≤ a ∧ a ≤ z ∧ z ≤ n)) (.ret (.sub b v s (i + a.toNat) (z - a).toNat)) .no
              | _, _ => .no)
            | false => .no)
          | _ => .no)
        | _ => .no)
    | _, _ => .no
/-- A slice's part of length 0 and capacity 0. -/
def slice0T (P : Program) (H : List AB) (t : TypeId) (x : AV) (hi mx : Option AV) : DT AV :=
  match mkT P t, hi, mx with
  | some ti, some (.int _ a), some (.int _ b) => (match ti.kd with
    | .slc e => (match mkT P e with
      | none => .no
      | some ei => (match contH H x with
        | some _ => .ite (decide (a = 0 ∧ b = 0)) (.ret .nils) .no
        | none => .no))
    | _ => .no)
  | _, _, _ => .no
/-- One of a few parts, by a number that need not be known. -/
def pickA (f : Nat → DT AV) (i : Int) : Nat → Nat → DT AV
  | 0, _ => .no
  | m + 1, k => .ite (decide (i = (k : Int))) (f k) (pickA f i m (k + 1))
def indexT (P : Program) (t : TypeId) (x ix : AV) : DT AV :=
  match mkT P t with
  | none => .no
  | some ti => match loI (some ix) with
    | none => .no
    | some i => match ti.kd, x with
      | .str, .str s => .bnd (getI s i) fun b => .ret (.u8 b)
      | .arr n e, .agg cs => (match mkT P e with
        | some ei => (match decide (n ≤ 4) with
          | true => pickA (fun k => ofO (partA ei cs (k * ei.size))) i n 0
          | false => (match decide (0 ≤ i ∧ i < n) with
            | true => ofO (partA ei cs (i.toNat * ei.size))
            | false => .no))
        | none => .no)
      | _, _ => .no
def indexAddrT (P : Program) (H : List AB) (t : TypeId) (x ix : AV) : DT AV :=
  match mkT P t with
  | none => .no
  | some ti => match loI (some ix) with
    | none => .no
    | some i => match ti.kd with
      | .slc e => (match mkT P e with
        | none => .no
        | some ei => match x with
          | .lst c l => (match decide (sizeC c = ei.size) with
            | true => .bnd (getI l i) fun a => .ret (.eptr (cellsC c a))
            | false => .no)
          | .lstp xs => (match getI xs i with
            | some v => (match decide (v.cells.length = ei.size) with | true => .ret (.eptr v.cells) | false => .no)
            | none => .no)
          | .slc b v => (match H[b]? with
            | some (.arr _ v' c l) => (match decide (v = v' ∧ sizeC c = ei.size) with
              | true => .ite (decide (0 ≤ i ∧ i < l.length)) (.ret (.elp b v (sizeC c) i.toNat 0)) .no
              | false => .no)
            | _ => .no)
          | .sub b v s j n => (match H[b]? with
            | some (.arr _ v' c l) => (match decide (v = v' ∧ sizeC c = ei.size ∧ s = sizeC c) with
              | true => .ite (decide (0 ≤ i ∧ i < n)) (.ret (.elp b v s (j + i.toNat) 0)) .no
              | false => .no)
            | _ => .no)
          | _ => .no)
      | .arr n e => (match mkT P e, x with
        | some ei, .ptr b o => (match decide (0 ≤ i ∧ i < n) with | true => .ret (.ptr b (o + i.toNat * ei.size)) | false => .no)
        | _, _ => .no)
      | _ => .no
def loadT (P : Program) (H : List AB) (t : TypeId) (x : AV) : DT AV :=
  match mkT P t with
  | none => .no
  | some ti => match x with
    | .ptr b o => (match H[b]? with
      | some (.cells cs) => ofO (partA ti cs o)
      | _ => .no)
    | .eptr cs => ofO (partA ti cs 0)
    | .elp b v s i o => (match H[b]? with
      | some (.arr _ v' c l) => (match decide (v = v' ∧ s = sizeC c) with
        | true => .bnd l[i]? fun a => ofO (partA ti (cellsC c a) o)
        | false => .no)
      | _ => .no)
    | _ => .no
def isTup : AV → Bool
  | .tup _ => true
  | _ => false
def storeT (P : Program) (H : List AB) (t : TypeId) (x y : AV) : OT :=
  match mkT P t, isTup y with
  | some ti, false => match x with
    | .ptr b o => (match H[b]? with
      | some (.cells cs) => (match decide (y.cells.length = ti.size ∧ o + ti.size ≤ cs.length) with
        | true => .ret (.tup [], H.set b (.cells (setR cs o y.cells)))
        | false => .no)
      | _ => .no)
    | .elp b v s i o => (match H[b]? with
      | some (.arr false v' c l) => (match decide (v = v' ∧ s = sizeC c ∧ y.cells.length = ti.size ∧ o + ti.size ≤ s) with
        | true => .bnd l[i]? fun a => (match decC c (setR (cellsC c a) o y.cells) with
          | some (a', []) => .ret (.tup [], H.set b (.arr false v c (l.set i a')))
          | _ => .no)
        | false => .no)
      | _ => .no)
    | _ => .no
  | _, _ => .no
def seqKd : Kd → Bool
  | .slc _ => true
  | .str => true
  | _ => false
def srcT (H : List AB) (y : AV) (c : Cd) : Option (List (τ c)) :=
  match y with
  | .str s => castL (c := .u8) s c
  | y => match contH H y with
    | some x => x.cast c
    | none => none
def roomB (n m bytes : Nat) : Bool := decide ((n + m) * bytes ≤ 140737488355328 ∧ n + m ≤ 140737488355328)
def intKd : Kd → Bool
  | .int _ => true
  | _ => false
/-- So many zeroes behind a nil slice. -/
def appZT (P : Program) (H : List AB) (t : TypeId) (n : Int) : OT :=
  match mkT P t with
  | none => .no
  | some ti => match ti.kd with
    | .slc e => (match mkT P e with
      | none => .no
      | some ei => match cdOf P 20 e, ei.zero with
        | some c, some z => (match decide (sizeC c = ei.size ∧ 0 < ei.size), dec c z with
          | true, some a => .ite (decide (0 < n ∧ ei.bytes * n ≤ 140737488355328 ∧ n ≤ 140737488355328)) (.ret (.slc H.length 0, H ++ [.arr false 0 c (List.replicate n.toNat a)])) .no
          | _, _ => .no)
        | _, _ => .no)
    | _ => .no
def appT (P : Program) (H : List AB) (t t2 : TypeId) (x y : AV) : OT :=
  match mkT P t2 with
  | none => .no
  | some t2i => match seqKd t2i.kd with
    | false => (match intKd t2i.kd, x, y with
      | true, .nils, .int .i64 n => appZT P H t n
      | _, _, _ => .no)
    | true => match mkT P t with
      | none => .no
      | some ti => match ti.kd with
        | .slc e => (match mkT P e with
          | none => .no
          | some ei => (match decide (0 < ei.size) && zeroOk ei with
            | false => .no
            | true => match x with
              | .nils => (match cdOf P 20 e with
                | some c => (match srcT H y c with
                  | some ys => (match decide (sizeC c = ei.size) with
                    | true => .ite (roomB 0 ys.length ei.bytes) (.ret (.slc H.length 0, H ++ [.arr false 0 c ys])) .no
                    | false => .no)
                  | none => .no)
                | none => .no)
              | .slc b v => (match H[b]? with
                | some (.arr false v' c l) => (match srcT H y c with
                  | some ys => (match decide (v = v' ∧ sizeC c = ei.size) with
                    | true => .ite (roomB l.length ys.length ei.bytes) (.ret (.slc b (v + 1), H.set b (.arr false (v + 1) c (l ++ ys)))) .no
                    | false => .no)
                  | none => .no)
                | _ => .no)
              | _ => .no))
        | _ => .no
def copyT (P : Program) (H : List AB) (t : TypeId) (x y : AV) : OT :=
  match mkT P t with
  | none => .no
  | some ti => match ti.kd with
    | .slc e => (match mkT P e with
      | none => .no
      | some ei => match x with
        | .slc b v => (match H[b]? with
          | some (.arr false v' c l) => (match srcT H y c with
            | some ys => (match decide (v = v' ∧ sizeC c = ei.size) with
              | true => .ret (.int .i64 (min l.length ys.length), H.set b (.arr false v c (ys.take l.length ++ l.drop ys.length)))
              | false => .no)
            | none => .no)
          | _ => .no)
        | .sub b v s i n => (match H[b]? with
          | some (.arr false v' c l) => (match srcT H y c with
            | some ys => (match decide (v = v' ∧ sizeC c = ei.size ∧ s = sizeC c) with
              | true => .ret (.int .i64 (min n ys.length), H.set b (.arr false v c (l.take i ++ ys.take n ++ l.drop (i + min n ys.length))))
              | false => .no)
            | none => .no)
          | _ => .no)
        | _ => .no)
    | _ => .no
def decAll (c : Cd) : List (Nat × AV) → Nat → Option (List (τ c))
  | [], _ => some []
  | (i, v) :: r, k => match decide (i = k) with
    | true => (match dec c v with
      | some a => (match decAll c r (k + 1) with
        | some l => some (a :: l)
        | none => none)
      | none => none)
    | false => none
def inOrder (n : Nat) : List (Nat × AV) → Nat → Option (List AV)
  | [], _ => some []
  | (i, v) :: r, k => match decide (i = k ∧ v.cells.length = n) with
    | true => (match inOrder n r (k + 1) with
      | some l => some (v :: l)
      | none => none)
    | false => none
def buildSliceT (P : Program) (H : List AB) (t : TypeId) (n : Nat) (vs : List (Nat × AV)) : OT :=
  match mkT P t with
  | none => .no
  | some ti => match ti.kd with
    | .slc e => (match mkT P e with
      | none => .no
      | some ei => match decide (n = vs.length ∧ n * ei.size ≤ 16777216 ∧ 0 < ei.size) && zeroOk ei with
        | false => .no
        | true => match vs with
        | [] => .ret (.nils, H)
        | vs => match cdOf P 20 e with
          | some c => (match decide (sizeC c = ei.size) with
            | true => (match decAll c vs 0 with
              | some l => .ret (.slc H.length 0, H ++ [.arr false 0 c l])
              | none => .no)
            | false => .no)
          | none => (match inOrder ei.size vs 0 with
            | some xs => .ret (.lstp xs, H)
            | none => .no))
    | _ => .no
def makeSliceT (P : Program) (H : List AB) (t : TypeId) (x y : AV) : OT :=
  match mkT P t, x, y with
  | some ti, .int .i64 n, .int .i64 m => (match ti.kd with
    | .slc e => (match mkT P e with
      | none => .no
      | some ei => match cdOf P 20 e, ei.zero with
        | some c, some z => (match decide (sizeC c = ei.size ∧ 0 < ei.size), dec c z with
          | true, some a => .ite (decide (0 ≤ n ∧ n = m ∧ ei.bytes * n ≤ 281474976710656 ∧ n ≤ 281474976710656)) (.ret (.slc H.length 0, H ++ [.arr false 0 c (List.replicate n.toNat a)])) .no
          | _, _ => .no)
        | _, _ => .no)
    | _ => .no)
  | _, _, _ => .no
def convT (P : Program) (H : List AB) (src dst : TypeId) (x : AV) : OT :=
  match mkT P src, mkT P dst with
  | some si, some di => match si.kd, di.kd, x with
    | .int _, .int k, .int _ n => (match k with
      | .u8 => .ret (.u8 (byteI n), H)
      | k => .ret (.int k (k.wrap n), H))
    | .int _, .int k, .u8 b => (match k with
      | .u8 => .ret (.u8 b, H)
      | .i8 => .ret (.int .i8 (IntKind.i8.wrap b.toNat), H)
      | k => .ret (.int k b.toNat, H))
    | .str, .str, .str s => .ret (.str s, H)
    | .slc e, .str, x => (match mkT P e with
      | some ei => (match ei.kd with
        | .int .u8 => (match contH H x with
          | some y => (match y.cast .u8 with
            | some l => .ret (.str l, H)
            | none => .no)
          | none => .no)
        | _ => .no)
      | none => .no)
    | .str, .slc e, .str s => (match mkT P e with
      | some ei => (match ei.kd with
        | .int .u8 => (match decide (ei.size = 1) with
          | true => .ret (.slc H.length 0, H ++ [.arr false 0 .u8 s])
          | false => .no)
        | _ => .no)
      | none => .no)
    | _, _, _ => .no
  | _, _ => .no
def nextT (H : List AB) (it : AV) : OT :=
  match it with
  | .ptr b 0 => match H[b]? with
    | some (.iter s pos) => .ite (decide (pos < s.length))
        (.ret (.tup [.bool true, .int .i64 pos, .int .i32 (Utf8.decode ⟨s.toArray⟩ pos).1], H.set b (.iter s (pos + (Utf8.decode ⟨s.toArray⟩ pos).2))))
        (.ret (.tup [.bool false], H))
    | _ => .no
  | _ => .no
def assertT (P : Program) (x : AV) (t : TypeId) (ok : Bool) : DT AV :=
  match mkT P t with
  | none => .no
  | some ti => match ti.kd, x with
    | .ifc, _ => .no
    | _, .eno n => (match decide (t = errT) && errOk P with
      | true => (match ok with
        | true => (match ti.zero with
          | some (.int .i64 0) => .ret (.tup [.int .i64 n, .bool !(decide (n = 0))])
          | _ => .no)
        | false => .ite (decide (n = 0)) .no (.ret (.int .i64 n)))
      | false => .no)
    | _, .iface u v => (match decide (u = t) with
      | true => .ret (match ok with | true => .tup [v, .bool true] | false => v)
      | false => (match ok with
        | true => (match ti.zero with | some z => .ret (.tup [z, .bool false]) | none => .no)
        | false => .no))
    | _, _ => .no
def ifaceT (P : Program) (t : TypeId) (v : AV) : DT AV :=
  match mkT P t with
  | none => .no
  | some ti => match ti.kd with
    | .ifc => .no
    | _ => match decide (t = errT), v with
      | true, .int .i64 n => .ite (decide (n = 0)) (.ret (.iface t v)) (.ret (.eno n))
      | _, v => .ret (.iface t v)
def pickT (c : Bool) (a b : Option AV) : DT AV :=
  match a, b with
  | some (.bool p), some (.bool q) => .ret (.bool (cond c p q))
  | a, b => .ite c (ofO a) (ofO b)
def minT : AV → AV → Option AV
  | .int k x, .int k' y => match decide (k = k') with | true => some (.int k (min x y)) | false => none
  | _, _ => none
def maxT : AV → AV → Option AV
  | .int k x, .int k' y => match decide (k = k') with | true => some (.int k (max x y)) | false => none
  | _, _ => none
/-- The capacity of a nil slice. -/
def capT (P : Program) (t : TypeId) (x : AV) : Option AV :=
  match mkT P t with
  | none => none
  | some ti => match ti.kd, x with
    | .slc _, .nils => some (.int .i64 0)
    | _, _ => none
def at1 (H : List AB) (d : DT AV) : OT := d.bind fun v => .ret (v, H)
def at0 (H : List AB) (o : Option AV) : OT := match o with | some v => .ret (v, H) | none => .no
def builtinT (P : Program) (H : List AB) (b : Builtin) (ts : List TypeId) (xs : List AV) : OT :=
  match b, ts, xs with
  | .len, [t], [x] => at0 H (lenT P H t x)
  | .append, [t, t2], [x, y] => appT P H t t2 x y
  | .copy, [t, _], [x, y] => copyT P H t x y
  | .min, _, [x, y] => at0 H (minT x y)
  | .max, _, [x, y] => at0 H (maxT x y)
  | .cap, [t], [x] => at0 H (capT P t x)
  | _, _, _ => .no
/-- The kinds of a type's cells that are slices: a variable's nil slices get memory of their own. -/
def ownsF (P : Program) : List (TypeId × Nat × Nat) → List (Option Cd)
  | [] => []
  | (u, _, n) :: r => (match elemC P u, decide (n = 1) with
    | some c, true => [some c]
    | _, _ => List.replicate n none) ++ ownsF P r
def owns (P : Program) (t : TypeId) (n : Nat) : List (Option Cd) :=
  match mkT P t with
  | some ti => (match ti.kd with
    | .strct fs => ownsF P fs
    | .slc e => (match cdOf P 20 e with | some c => [some c] | none => [none])
    | _ => List.replicate n none)
  | none => List.replicate n none
/-- Nil slices get memory of their own; k is the number of the next block. -/
def ownL : List (Option Cd) → List AV → Nat → List AV × List AB
  | some c :: r, .nils :: vs, k => (.slc k 0 :: (ownL r vs (k + 1)).1, .arr false 0 c [] :: (ownL r vs (k + 1)).2)
  | _ :: r, v :: vs, k => (v :: (ownL r vs k).1, (ownL r vs k).2)
  | [], vs, _ => (vs, [])
  | _ :: _, [], _ => ([], [])
def newVarT (P : Program) (H : List AB) (t : TypeId) (v : AV) : OT :=
  match isTup v with
  | true => .no
  | false => .ret (.ptr (H.length + (ownL (owns P t v.cells.length) v.cells H.length).2.length) 0, H ++ (ownL (owns P t v.cells.length) v.cells H.length).2 ++ [.cells (ownL (owns P t v.cells.length) v.cells H.length).1])
/-- A value with other cells. -/
def reV : AV → List AV → AV
  | .agg _, cs => .agg cs
  | .nils, [c] => c
  | v, _ => v
/-- A store; a variable's nil slices get memory of their own. -/
def storeOT (P : Program) (H : List AB) (t : TypeId) (x y : AV) : OT :=
  match x, isTup y with
  | .ptr _ _, false => storeT P (H ++ (ownL (owns P t y.cells.length) y.cells H.length).2) t x (reV y (ownL (owns P t y.cells.length) y.cells H.length).1)
  | _, _ => storeT P H t x y
/-- What an operation other than a call of a function comes to. -/
def opT (P : Program) (env : Env) (H : List AB) (op : Op) : OT :=
  match op with
  | .move x | .assign x => at0 H (opd env x)
  | .pick c a b => match opd env c with
    | some (.bool c) => at1 H (pickT c (opd env a) (opd env b))
    | _ => .no
  | .alloc t => match zeroA P t with | some z => newVarT P H t z | none => .no
  | .box t x => match opd env x with | some v => newVarT P H t v | none => .no
  | .build t ps => match mkT P t, opdP env ps.toList with
    | some ti, some vs => match ti.zero with
      | some z => match ti.kd with
        | .strct fs => (match fillA (placeS fs) z.cells vs with | some cs => .ret (.agg cs, H) | none => .no)
        | .arr _ e => (match mkT P e with
          | some ei => (match fillA (fun i => some (i * ei.size, ei.size)) z.cells vs with | some cs => .ret (.agg cs, H) | none => .no)
          | none => .no)
        | _ => .no
      | none => .no
    | _, _ => .no
  | .buildSlice t n ps => match opdP env ps.toList with
    | some vs => buildSliceT P H t n vs
    | none => .no
  | .makeSlice t n m => match opd env n, opd env m with
    | some x, some y => makeSliceT P H t x y
    | _, _ => .no
  | .load t a => match opd env a with
    | some x => at1 H (loadT P H t x)
    | none => .no
  | .store t a x => match opd env a, opd env x with
    | some p, some v => storeOT P H t p v
    | _, _ => .no
  | .nilCheck x => match opd env x with
    | some (.ptr b o) => .ret (.ptr b o, H)
    | some (.eptr cs) => .ret (.eptr cs, H)
    | some (.elp b v s i o) => .ret (.elp b v s i o, H)
    | _ => .no
  | .binOp op t x y _ => match opd env x, opd env y with
    | some v, some u => at1 H (binT P op t (isConst x || isConst y) v u)
    | _, _ => .no
  | .unOp op _ x => match opd env x with | some v => at0 H (unA op v) | none => .no
  | .convert s d x => match opd env x with | some v => convT P H s d v | none => .no
  | .makeInterface t x => match opd env x with | some v => at1 H (ifaceT P t v) | none => .no
  | .makeFunc (.func f) first cap => match decide (first.size = 0) with
    | true => (match opdL env cap.toList with | some vs => .ret (.fn f vs, H) | none => .no)
    | false => .no
  | .slice t x lo hi none => match opd env x, opdO env lo, opdO env hi with
    | some v, some l, some h => at1 H (sliceT P H t v l h)
    | _, _, _ => .no
  | .slice t x none hi (some m) => match opd env x, opdO env hi, opd env m with
    | some v, some h, some m => at1 H (slice0T P H t v h (some m))
    | _, _, _ => .no
  | .fieldAddr t x i => match mkT P t with
    | some ti => match fieldAt ti i with
      | some (_, off, sz) => (match decide (0 < sz) with
        | true => (match opd env x with
          | some (.ptr b o) => .ret (.ptr b (o + off), H)
          | some (.eptr cs) => .ret (.eptr (cs.drop off), H)
          | some (.elp b v s i o) => .ret (.elp b v s i (o + off), H)
          | _ => .no)
        | false => .no)
      | none => .no
    | none => .no
  | .field t x i => match mkT P t, opd env x with
    | some ti, some (.agg cs) => (match fieldAt ti i with
      | some (ft, off, _) => (match mkT P ft with | some fi => at0 H (partA fi cs off) | none => .no)
      | none => .no)
    | _, _ => .no
  | .indexAddr t x i => match opd env x, opd env i with | some v, some j => at1 H (indexAddrT P H t v j) | _, _ => .no
  | .index t x i => match opd env x, opd env i with | some v, some j => at1 H (indexT P t v j) | _, _ => .no
  | .range t x => match mkT P t, opd env x with
    | some ti, some (.str s) => (match ti.kd with | .str => .ret (.ptr H.length 0, H ++ [.iter s 0]) | _ => .no)
    | _, _ => .no
  | .next it true => match opd env it with | some v => nextT H v | none => .no
  | .typeAssert x _ t ok => match opd env x with | some v => at1 H (assertT P v t ok) | none => .no
  | .extract x i => match opd env x with | some (.tup vs) => at0 H vs[i]? | _ => .no
  | .call { callee := .builtin b, args, argTypes } => match opdL env args.toList with
    | some vs => builtinT P H b argTypes.toList vs
    | none => .no
  | _ => .no
end Go.Sm
/- Calls, regions, code, functions of the typed machine. No condition; definitions alone. -/
set_option linter.unusedVariables false
namespace Go.Sm

/-! ### What is reachable is handed in and out -/
def AB.ren (f : Nat → Option Nat) (g : Nat → Nat → Option Nat) (u : Nat → Nat) : AB → Option AB
  | .cells cs => match renL f g cs with | some cs' => some (.cells cs') | none => none
  | .arr ice v c l => some (.arr ice (u v) c l)
  | .iter s p => some (.iter s p)
def renH (f : Nat → Option Nat) (g : Nat → Nat → Option Nat) (u : Nat → Nat → Nat) : Nat → List AB → Option (List AB)
  | _, [] => some []
  | k, v :: r => match v.ren f g (u k) with
    | some v' => (match renH f g u (k + 1) r with
      | some r' => some (v' :: r')
      | none => none)
    | none => none
def idx (l : List Nat) (b : Nat) : Option Nat := go l 0
where
  go : List Nat → Nat → Option Nat
    | [], _ => none
    | x :: r, k => match decide (x = b) with | true => some k | false => go r (k + 1)
def close (H : List AB) : Nat → List Nat → List Nat → List Nat
  | 0, acc, _ => acc
  | _ + 1, acc, [] => acc
  | n + 1, acc, i :: work => match acc.contains i with
    | true => close H n acc work
    | false => close H n (acc ++ [i]) ((match H[i]? with | some b => b.ptrs | none => []) ++ work)
def fetch (H : List AB) : List Nat → Option (List AB)
  | [] => some []
  | i :: r => match H[i]? with
    | some b => (match fetch H r with
      | some bs => some (b :: bs)
      | none => none)
    | none => none
/-- The age that a block has behind a renaming: the first N blocks are those of the caller. -/
def newV (N : Nat) (bump : Bool) (b v : Nat) : Nat :=
  match decide (b < N) with
  | true => (match bump with | true => 1 | false => v)
  | false => 0
def ageG (H : List AB) (N : Nat) (bump : Bool) (b v : Nat) : Option Nat :=
  match curV H b with
  | some v0 => (match decide (v = v0) with | true => some (newV N bump b v) | false => none)
  | none => none
/-- The first N blocks stay where they are; of the others what the values lead to is kept. -/
def gc (N : Nat) (bump : Bool) (vs : List AV) (H : List AB) : Option (List AV × List AB) :=
  let ids := close H 200 (List.range N) (ptrsL vs ++ (H.take N).flatMap AB.ptrs)
  match fetch H ids with
  | some bs => match renL (idx ids) (ageG H N bump) vs with
    | some vs' => (match renH (idx ids) (ageG H N bump) (fun k => newV N bump (ids.getD k 0)) 0 bs with
      | some bs' => some (vs', bs')
      | none => none)
    | none => none
  | none => none

/-! ### Memory that is lent -/
mutual
/-- Slices of memory of one's own as lists. -/
def thawV (H : List AB) : AV → AV
  | .slc b v => (match contH H (.slc b v) with | some (.of c l) => .lst c l | _ => .slc b v)
  | .sub b v s i n => (match contH H (.sub b v s i n) with | some (.of c l) => .lst c l | _ => .sub b v s i n)
  | .agg cs => .agg (thawL H cs)
  | .fn f cs => .fn f (thawL H cs)
  | v => v
def thawL (H : List AB) : List AV → List AV
  | [] => []
  | v :: r => thawV H v :: thawL H r
end
mutual
/-- The blocks that are lent so. -/
def lentV (H : List AB) : AV → List Nat
  | .slc b v => (match contH H (.slc b v) with | some (.of c l) => [b] | _ => [])
  | .sub b v s i n => (match contH H (.sub b v s i n) with | some (.of c l) => [b] | _ => [])
  | .agg cs => lentL H cs
  | .fn f cs => lentL H cs
  | v => []
def lentL (H : List AB) : List AV → List Nat
  | [] => []
  | v :: r => lentV H v ++ lentL H r
end
/-- Blocks change no more (or do again). -/
def iceB (on : Bool) (H : List AB) (b : Nat) : List AB :=
  match H[b]? with
  | some (.arr _ v c l) => H.set b (.arr on v c l)
  | _ => H
def iceL (on : Bool) (H : List AB) : List Nat → List AB
  | [] => H
  | b :: r => iceL on (iceB on H b) r
/-- Of those the ones that still may change. -/
def softB (H : List AB) : List Nat → List Nat
  | [] => []
  | b :: r => match H[b]? with
    | some (.arr false _ _ _) => b :: softB H r
    | _ => softB H r
mutual
/-- Nothing that lies in memory of others. -/
def AV.free : AV → Bool
  | .lst _ _ => false
  | .lstp _ => false
  | .eptr _ => false
  | .agg cs => freeL cs
  | .tup cs => freeL cs
  | .fn _ cs => freeL cs
  | .iface _ v => v.free
  | _ => true
def freeL : List AV → Bool
  | [] => true
  | v :: r => v.free && freeL r
end
/-- Data without lists in them. -/
def flatC : Cd → Bool
  | .lst _ => false
  | .one c => flatC c
  | .pair a b => flatC a && flatC b
  | _ => true
def AB.free : AB → Bool
  | .cells cs => freeL cs
  | .arr ice _ c _ => !ice && flatC c
  | .iter _ _ => true
def putBack (H : List AB) : List Nat → List AB → List AB
  | i :: ids, b :: bs => putBack (H.set i b) ids bs
  | _, bs => H ++ bs
def back (ids : List Nat) (m : Nat) (j : Nat) : Option Nat :=
  match ids[j]? with
  | some i => some i
  | none => some (m + (j - ids.length))
/-- The age that a handed-in block has in the caller. -/
def baseV (H : List AB) (ids : List Nat) (j : Nat) : Nat :=
  match ids[j]? with
  | some i => (match curV H i with | some v => v | none => 0)
  | none => 0
def ageIn (H : List AB) (b v : Nat) : Option Nat :=
  match curV H b with
  | some v0 => (match decide (v = v0) with | true => some 0 | false => none)
  | none => none
abbrev SpecT := List AV → List AB → OT
/-- What is known of functions: whether slices are lent to one, and its contract. -/
abbrev CalT := FuncId → Option (Bool × SpecT)
def lendArgs (lend : Bool) (H : List AB) (args : List AV) : List AV := match lend with | true => thawL H args | false => args
def lendFb (lend : Bool) (H : List AB) (args : List AV) : List Nat := match lend with | true => softB H (lentL H args) | false => []
def callT {β : Type} (cal : CalT) (f : FuncId) (args : List AV) (H : List AB) (K : AV → List AB → Bool → DT β) : DT β :=
  match cal f with
  | none => .no
  | some (lend, spec) =>
    let args1 := lendArgs lend H args
    let fb := lendFb lend H args
    let H0 := iceL true H fb
    let ids := close H0 200 [] (ptrsL args1)
    match renL (idx ids) (ageIn H0) args1 with
    | some args' => (match fetch H0 ids with
      | some bs => (match renH (idx ids) (ageIn H0) (fun _ _ => 0) 0 bs with
        | some bs' => (spec args' bs').bind fun rh => match rh.1.ren (back ids H0.length) (fun j v => some (baseV H0 ids j + v)) with
          | some r' => (match renH (back ids H0.length) (fun j v => some (baseV H0 ids j + v)) (fun j v => baseV H0 ids j + v) 0 rh.2 with
            | some H1' => (match decide (ids.length ≤ rh.2.length) with
              | true => (match fb with
                | [] => K r' (putBack H0 ids H1') (match ids with | [] => true | _ => false)
                | fb => match r'.free && H1'.all AB.free && fb.all (fun b => !ids.contains b) with
                  | true => K r' (iceL false (putBack H0 ids H1') fb) (match ids with | [] => true | _ => false)
                  | false => K r' (putBack H0 ids H1') false)
              | false => .no)
            | none => .no)
          | none => .no
        | none => .no)
      | none => .no)
    | none => .no

/-! ### Operations one behind the other -/
structure St where
  env : Env
  H : List AB
def St.put (st : St) (dst : Option Tmp) (v : AV) : St :=
  match dst with
  | some d => { st with env := upd st.env d v }
  | none => st
inductive Cls where
  | still | read | soft | hard
def slcKd (P : Program) (t : TypeId) : Bool :=
  match mkT P t with
  | some ti => (match ti.kd with | .slc _ => true | _ => false)
  | none => true
/-- What an operation may do to the small heap: look at nothing; look at it; make blocks; write. -/
def clsOf (P : Program) : Op → Cls
  | .move _ | .assign _ | .pick .. | .build .. | .nilCheck _ | .binOp .. | .unOp .. | .makeInterface .. | .makeFunc .. | .fieldAddr .. | .field .. | .index .. | .typeAssert .. | .extract .. => .still
  | .load .. => .read
  | .slice t _ _ _ _ => (match slcKd P t with | true => .read | false => .still)
  | .indexAddr t _ _ => (match slcKd P t with | true => .read | false => .still)
  | .convert s d _ => (match mkT P s, mkT P d with
    | some si, some di => (match si.kd, di.kd with
      | .int _, .int _ => .still
      | .str, .str => .still
      | .slc _, .str => .read
      | .str, .slc _ => .soft
      | _, _ => .hard)
    | _, _ => .hard)
  | .call { callee := .builtin b, argTypes, .. } => (match b with
    | .min | .max | .cap => .still
    | .len => (match argTypes.toList with
      | [t] => (match slcKd P t with | true => .read | false => .still)
      | _ => .hard)
    | .append => .soft
    | _ => .hard)
  | .call { callee := .value _, .. } => .soft
  | .buildSlice _ _ ps => (match decide (ps.size = 0) with | true => .still | false => .soft)
  | .alloc _ | .box .. | .makeSlice .. => .soft
  | _ => .hard
/-- Does a soft operation leave all blocks as they are? -/
def keepsT (env : Env) : Op → Bool
  | .alloc _ | .box .. | .buildSlice .. | .makeSlice .. | .convert .. => true
  | .call { callee := .builtin .append, args, .. } => (match args.toList with
    | x :: _ => (match opd env x with | some .nils => true | _ => false)
    | _ => false)
  | _ => false
def stepT {β : Type} (P : Program) (cal : CalT) (st : St) (op : Op) (K : AV → List AB → Bool → DT β) : DT β :=
  match op with
  | .call { callee := .value f, args, .. } => match opd st.env f, opdL st.env args.toList with
    | some (.fn g cap), some vs => callT cal g (vs ++ cap) st.H K
    | _, _ => .no
  | op => (opT P st.env st.H op).bind fun vh => K vh.1 vh.2 (keepsT st.env op)
/-- A slot's truth is known from here on. -/
def St.know (st : St) (d : Nat) (b : Bool) : St := { st with env := upd st.env d (.bool b) }
def St.knowO (st : St) (x : Operand) (b : Bool) : St :=
  match x with
  | .tmp d => st.know d b
  | _ => st
/-- One operation; K gets whether all blocks are as they were. -/
def oneT {β : Type} (P : Program) (cal : CalT) (ops : List Oper) (o : Oper) (st : St) (K : Bool → St → DT β) : DT β :=
  let go : St → DT β := fun st => stepT P cal st o.op fun v H' k => K k (St.put { st with H := H' } o.dst v)
  let skip : St → DT β := fun st => K true (st.put o.dst (.tup []))
  match o.guard with
  | none => go st
  | some (j, want) => match ops[j]? with
    | none => .no
    | some oj => match oj.dst with
      | none => .no
      | some d => match st.env d with
        | some (.bool b) => (match want with
          | true => .ite b (go (st.know d true)) (skip (st.know d false))
          | false => .ite b (skip (st.know d true)) (go (st.know d false)))
        | some (.tup []) => skip st
        | _ => .no
def opsT {β : Type} (P : Program) (cal : CalT) (ops : List Oper) : List Oper → St → (St → DT β) → DT β
  | [], st, K => K st
  | o :: r, st, K => oneT P cal ops o st fun _ st' => opsT P cal ops r st' K
def isSoft (P : Program) (op : Op) : Bool := match clsOf P op with | .soft => true | _ => false
/-- A load of a variable where it has to be one. -/
def ldOk (mx : Bool → Option Tmp → Bool) (o : Oper) (env : Env) : Bool :=
  match o.op with
  | .load _ x => (match opd env x with
    | some (.ptr _ _) => true
    | _ => !mx true o.dst)
  | _ => true
def opsDT {β : Type} (P : Program) (cal : CalT) (mx : Bool → Option Tmp → Bool) (ops : List Oper) : List Oper → St → (St → DT β) → DT β
  | [], st, K => K st
  | o :: r, st, K => match ldOk mx o st.env with
    | false => .no
    | true => oneT P cal ops o st fun k st' => match isSoft P o.op, k with
      | true, false => (match mx false o.dst with
        | true => .no
        | false => opsDT P cal mx ops r st' K)
      | _, _ => opsDT P cal mx ops r st' K

/-! ### Regions whose order is open -/
def tmpsOf : List Operand → List Nat
  | [] => []
  | .tmp t :: r => t :: tmpsOf r
  | _ :: r => tmpsOf r
def guardTmp (ops : List Oper) (o : Oper) : List Nat :=
  match o.guard with
  | none => []
  | some (j, _) => match ops[j]? with
    | some oj => oj.dst.toList
    | none => []
/-- What an operation looks at. -/
def looks (ops : List Oper) (o : Oper) : List Nat := tmpsOf o.op.operands.toList ++ guardTmp ops o
def slotsApart (ops : List Oper) (a b : Oper) : Bool :=
  (match a.dst with | some d => !(looks ops b).contains d && b.dst != some d | none => true) &&
  (match b.dst with | some d => !(looks ops a).contains d | none => true)
def effApart (P : Program) (a b : Op) : Bool :=
  match clsOf P a, clsOf P b with
  | .still, _ => true
  | _, .still => true
  | .read, .read => true
  | .read, .soft => true
  | .soft, .read => true
  | _, _ => false
/-- Which operations stand before one, by the edges: bits. -/
def ancM : List Edge → List Nat → Nat
  | [], _ => 0
  | e :: r, acc => (if Region.binds .any e then 2 ^ e.on ||| acc.getD e.on 0 else 0) ||| ancM r acc
def ancB : List Oper → List Nat → List Nat
  | [], acc => acc
  | o :: r, acc => ancB r (acc ++ [ancM o.after.toList acc])
/-- Is what is appended a text or a slice? -/
def seqTy (P : Program) (t : TypeId) : Bool := match mkT P t with | some ti => seqKd ti.kd | none => false
def isApp : Op → Bool
  | .call { callee := .builtin .append, .. } => true
  | _ => false
/-- Slices whose elements are data. -/
def dataSl (P : Program) (t : TypeId) : Bool :=
  match mkT P t with
  | some ti => (match ti.kd with | .slc e => (cdOf P 20 e).isSome | _ => false)
  | none => false
/-- Operations that do nothing but make a block, which the small heap may come to know later. -/
def isLate (P : Program) : Op → Bool
  | .alloc _ | .box .. => true
  | .buildSlice t _ ps => !(decide (ps.size = 0)) && dataSl P t
  | .call { callee := .builtin .append, argTypes, .. } => (match argTypes.toList with | [_, t] => seqTy P t | _ => false)
  | _ => false
/-- Two that make blocks, in no order: the later one is such an operation, and whatever waits for it waits for the other one, too. -/
def lateOk (P : Program) (ops : List Oper) (bf : List Nat) (i j : Nat) (a b : Oper) : Bool :=
  isSoft P a.op && isLate P b.op && b.guard.isNone && (match b.dst with | some d => !(looks ops b).contains d | none => false) &&
  (List.range ops.length).all fun k => !(bf.getD k 0).testBit j || (bf.getD k 0).testBit i
def pairsOk (P : Program) (ops : Array Oper) : Bool :=
  let l := ops.toList
  let bf := ancB l []
  (List.range l.length).all fun j => (match l[j]? with | some o => o.after.all fun e => !Region.binds .any e || decide (e.on < j) | none => true) &&
    (List.range j).all fun i => (bf.getD j 0).testBit i ||
    (match l[i]?, l[j]? with | some a, some b => slotsApart l a b && (effApart P a.op b.op || lateOk P l bf i j a b) | _, _ => false)
/-- Does an address come from a slice's element, by the text of this region? -/
def viaIdx (ops : List Oper) : Nat → Operand → Bool
  | 0, _ => true
  | n + 1, .tmp d => (match ops.find? fun o => o.dst == some d with
    | some o => (match o.op with
      | .indexAddr .. => true
      | .fieldAddr _ y _ => viaIdx ops n y
      | .nilCheck y => viaIdx ops n y
      | _ => false)
    | none => false)
  | _, _ => false
/-- A variable's cells are loaded and something is appended: memory of two kinds. -/
def ptrLd (ops : List Oper) (a b : Op) : Bool :=
  match a with
  | .load _ x => isApp b && !viaIdx ops 10 x
  | _ => false
/-- Is there a reading and a making whose order is open? By slot: the makings that have to leave all blocks (ld = false); the loads that have to be loads of variables (ld = true). -/
def mixAt (P : Program) (ops : Array Oper) (ld : Bool) (d : Option Tmp) : Bool :=
  let l := ops.toList
  let bf := ancB l []
  (List.range l.length).any fun j => (List.range j).any fun i => !(bf.getD j 0).testBit i &&
    (match l[i]?, l[j]? with
      | some a, some b => (match clsOf P a.op, clsOf P b.op with
        | .read, .soft => (match ptrLd l a.op b.op with
          | true => ld && a.dst == d
          | false => !ld && b.dst == d)
        | .soft, .read => (match ptrLd l b.op a.op with
          | true => ld && b.dst == d
          | false => !ld && a.dst == d)
        | .soft, .soft => !ld && isApp b.op && (a.dst == d || b.dst == d)
        | _, _ => false)
      | _, _ => false)

/-! ### Code -/
inductive Ex where
  | nrm
  | ret
  | ext (id : Nat)
def Ex.num : Ex → Nat
  | .nrm => 1
  | .ret => 2
  | .ext id => 3 + id
/-- The number of the first region of a piece of code: its name. -/
def keyOf : Code → Nat
  | .region id _ _ => id
  | .seq a _ => keyOf a
  | .cond _ a _ => keyOf a
  | .block _ b => keyOf b
  | .loop b => keyOf b
  | .scope b => keyOf b
  | _ => 0
/-- What is given with a function: for each loop the slots that are kept, at its head and where it is left; of which of them a nil slice gets memory of its own. -/
abbrev Keep := Nat → Nat → List (Nat × Option Cd)
def readL (env : Env) : List Nat → Option (List AV)
  | [] => some []
  | i :: r => match env i with
    | some v => (match readL env r with
      | some vs => some (v :: vs)
      | none => none)
    | none => none
def writeL : List Nat → List AV → Env
  | i :: r, v :: vs => upd (writeL r vs) i v
  | _, _ => emp
/-- What is kept: the slots' values, and the blocks that they lead to. -/
def trimT (N : Nat) (bump : Bool) (keep : List (Nat × Option Cd)) (st : St) : Option (List AV × List AB) :=
  match readL st.env (keep.map Prod.fst) with
  | none => none
  | some vs => gc N bump (ownL (keep.map Prod.snd) vs st.H.length).1 (st.H ++ (ownL (keep.map Prod.snd) vs st.H.length).2)
def trim (N : Nat) (bump : Bool) (keep : List (Nat × Option Cd)) (st : St) : Option St :=
  match trimT N bump keep st with
  | some (vs, H) => some ⟨writeL (keep.map Prod.fst) vs, H⟩
  | none => none
/-- What a loop comes to, from the slots at its head: how it is left, and the slots then. -/
abbrev LT := List AV → List AB → DT (Ex × List AV × List AB)
abbrev Lps := Nat → Option LT
def iterT {β : Type} (body : St → (Ex → St → DT β) → DT β) (trm : St → Option St) : Nat → St → (Ex → St → DT β) → DT β
  | 0, _, _ => .no
  | n + 1, st, K => match trm st with
    | none => .no
    | some st1 => body st1 fun ex st2 => match ex with
      | .nrm => iterT body trm n st2 K
      | ex => K ex st2
def evT {β : Type} (P : Program) (cal : CalT) (kp : Keep) (lps : Lps) (N : Nat) (bump : Bool) : Code → St → (Ex → St → DT β) → DT β
  | .skip, st, K => K .nrm st
  | .region _ ops false, st, K => opsT P cal ops.toList ops.toList st (K .nrm)
  | .region _ ops true, st, K => opsDT P cal (mixAt P ops) ops.toList ops.toList st (K .nrm)
  | .seq a b, st, K => evT P cal kp lps N bump a st fun ex st' => match ex with
    | .nrm => evT P cal kp lps N bump b st' K
    | ex => K ex st'
  | .cond c x y, st, K => match opd st.env c with
    | some (.bool t) => .ite t (evT P cal kp lps N bump x (st.knowO c true) K) (evT P cal kp lps N bump y (st.knowO c false) K)
    | _ => .no
  | .block id b, st, K => evT P cal kp lps N bump b st fun ex st' => match ex with
    | .ext j => (match decide (j = id) with
      | true => K .nrm st'
      | false => K (.ext j) st')
    | ex => K ex st'
  | .loop b, st, K => match lps (keyOf b) with
    | some L => (match trimT N bump (kp (keyOf b) 0) st with
      | some (vs, H) => (L vs H).bind fun r => K r.1 ⟨writeL ((kp (keyOf b) r.1.num).map Prod.fst) r.2.1, r.2.2⟩
      | none => .no)
    | none => iterT (evT P cal kp lps N bump b) (trim N bump (kp (keyOf b) 0)) 12 st fun ex st' => match trim N bump (kp (keyOf b) ex.num) st' with
      | some st2 => K ex st2
      | none => .no
  | .exit id, st, K => K (.ext id) st
  | .ret, st, K => K .ret st
  | _, _, _ => .no

/-! ### Functions -/
def envOf : List AV → Nat → Env
  | [], _ => emp
  | v :: r, k => upd (envOf r (k + 1)) k v
def resA (P : Program) (st : St) : ResultVar → Option AV
  | .tmp t => st.env t
  | .cell a t => match mkT P t, st.env a with
    | some ti, some (.ptr b o) => match st.H[b]? with
      | some (.cells cs) => partA ti cs o
      | _ => none
    | _, _ => none
def resL (P : Program) (st : St) : List ResultVar → Option (List AV)
  | [] => some []
  | x :: r => match resA P st x with
    | some v => (match resL P st r with
      | some vs => some (v :: vs)
      | none => none)
    | none => none
abbrev Res := AV × List AB
/-- The blocks of the caller's have no age when a function begins. -/
def young (H : List AB) : Bool := H.all fun x => match x with | .arr _ v _ _ => decide (v = 0) | _ => true
/-- At a function's end: slices of its own memory are handed out for good ('ice'), or as memory of the caller's. -/
def endT (P : Program) (rs : List ResultVar) (N : Nat) (bump ice : Bool) (ex : Ex) (st : St) : DT Res :=
  match ex with
  | .ext _ => .no
  | _ => match resL P st rs with
    | none => .no
    | some vs => match gc N bump (lendArgs ice st.H vs) (iceL true st.H (lendFb ice st.H vs)) with
      | some ([v], H') => .ret (v, H')
      | some (vs', H') => .ret (.tup vs', H')
      | none => .no
def fnT (P : Program) (cal : CalT) (kp : Keep) (lps : Lps) (bump ice : Bool) (fn : Func) (args : List AV) (H : List AB) : DT Res :=
  match fn.body, young H with
  | some c, true => evT P cal kp lps H.length bump c ⟨envOf args 0, H⟩ (endT P fn.results.toList H.length bump ice)
  | _, _ => .no
/-- One round of a loop: from the slots at its head; what follows is handed in. -/
def roundT {β : Type} (P : Program) (cal : CalT) (kp : Keep) (lps : Lps) (N : Nat) (bump : Bool) (b : Code) (vs : List AV) (H : List AB) (again : List AV → List AB → DT β) (left : Ex → List AV → List AB → DT β) : DT β :=
  evT P cal kp lps N bump b ⟨writeL ((kp (keyOf b) 0).map Prod.fst) vs, H⟩ fun ex st => match trimT N bump (kp (keyOf b) (match ex with | .nrm => 0 | ex => ex.num)) st with
    | some (vs', H') => (match ex with
      | .nrm => again vs' H'
      | ex => left ex vs' H')
    | none => .no

/-! ### What is asked of code once, by its text -/
def opsIn (nt : Nat) (ops : Array Oper) : Bool := ops.all fun o => match o.dst with | some d => decide (d < nt) | none => true
def codeOk (P : Program) (nt : Nat) : Code → Bool
  | .region _ ops d => opsIn nt ops && (!d || pairsOk P ops)
  | .seq a b => codeOk P nt a && codeOk P nt b
  | .cond _ a b => codeOk P nt a && codeOk P nt b
  | .block _ b => codeOk P nt b
  | .loop b => codeOk P nt b
  | .scope b => codeOk P nt b
  | _ => true
end Go.Sm
/- Memory that does not change, and the two laid tables of unicode/utf8 in it. No condition. -/
namespace Go.Sm

/-- Memory that does not change any more: block, place, value. -/
abbrev Mem := Nat → Nat → Option Value
def Mle (M M' : Mem) : Prop := ∀ g o u, M g o = some u → M' g o = some u
/-- The tables lie in memory that does not change. -/
def Glob (M : Mem) : Prop :=
  (∀ c, c < 256 → M 1 c = some (.int .u8 (Lib.firstT c))) ∧
  (∀ i, i < 16 → M 2 (2 * i) = some (.int .u8 (Lib.accLo i)) ∧ M 2 (2 * i + 1) = some (.int .u8 (Lib.accHi i)))
theorem Glob.mono {M M' : Mem} (h : Glob M) (k : Mle M M') : Glob M' :=
  ⟨fun c hc => k _ _ _ (h.1 c hc), fun i hi => ⟨k _ _ _ (h.2 i hi).1, k _ _ _ (h.2 i hi).2⟩⟩
theorem Glob.tabs {M : Mem} (h : Glob M) {w : World} (hm : ∀ g o u, M g o = some u → w.cell? ⟨g, o, none⟩ = some u) : Lib.Utf8Tabs 1 2 w :=
  ⟨fun c hc => hm _ _ _ (h.1 c hc), fun i hi => ⟨hm _ _ _ (h.2 i hi).1, hm _ _ _ (h.2 i hi).2⟩⟩
end Go.Sm
/- The relation between the typed machine's values and the model's, and how it is kept. No condition. -/
set_option linter.unusedVariables false
set_option linter.unusedSimpArgs false
namespace Go.Sm

def AV.one : AV → Bool
  | .agg _ => false
  | .tup _ => false
  | _ => true
def ones (cs : List AV) : Prop := ∀ z ∈ cs, z.one = true
theorem ones_app {xs ys : List AV} (h : ones xs) (k : ones ys) : ones (xs ++ ys) := fun z hz => by
  rcases List.mem_append.1 hz with h1 | h1
  · exact h z h1
  · exact k z h1
theorem ones_single {x : AV} (h : x.one = true) : ones [x] := fun z hz => by simp at hz; subst hz; exact h
theorem cellsC_spec : ∀ (c : Cd) (x : τ c), (cellsC c x).length = sizeC c ∧ ones (cellsC c x)
  | .u8, b => ⟨rfl, ones_single rfl⟩
  | .int k, n => ⟨rfl, ones_single rfl⟩
  | .bool, b => ⟨rfl, ones_single rfl⟩
  | .str, s => ⟨rfl, ones_single rfl⟩
  | .err, n => ⟨rfl, ones_single rfl⟩
  | .lst c, l => ⟨rfl, ones_single rfl⟩
  | .one c, x => by
    obtain ⟨h1, h2⟩ := cellsC_spec c x
    exact ⟨h1, h2⟩
  | .pair a b, x => by
    obtain ⟨h1, h2⟩ := cellsC_spec a x.1
    obtain ⟨h3, h4⟩ := cellsC_spec b x.2
    exact ⟨by simp only [cellsC, List.length_append, h1, h3, sizeC], ones_app h2 h4⟩
theorem inj_cells : ∀ (c : Cd) (x : τ c), (inj c x).cells = cellsC c x
  | .u8, b => rfl
  | .int k, n => rfl
  | .bool, b => rfl
  | .str, s => rfl
  | .err, n => rfl
  | .lst c, l => rfl
  | .one c, x => rfl
  | .pair a b, x => rfl
theorem inj_ntup (c : Cd) (x : τ c) : ∀ l, inj c x ≠ .tup l := by
  intro l h
  cases c <;> simp [inj] at h
theorem inj_wide {c : Cd} {l : List (τ c)} : ∀ y ∈ l.map (inj c), y.cells.length = sizeC c := by
  intro y hy
  obtain ⟨x, _, rfl⟩ := List.mem_map.1 hy
  rw [inj_cells]
  exact (cellsC_spec c x).1
theorem inj_ones {c : Cd} {l : List (τ c)} : ∀ y ∈ l.map (inj c), ones y.cells := by
  intro y hy
  obtain ⟨x, _, rfl⟩ := List.mem_map.1 hy
  rw [inj_cells]
  exact (cellsC_spec c x).2

/-- Where the small heap's blocks lie: cells; a slice's own memory (its row and how many elements there is room for, or none), its age, how many elements it has. -/
structure RR where
  ρ : Nat → Nat
  g : Nat → Option (Nat × Nat)
  len : Nat → Nat
  cnt : Nat → Nat
  arr : Nat → Bool
  N : Nat
def RR.nul : RR := ⟨fun _ => 0, fun _ => none, fun _ => 0, fun _ => 0, fun _ => false, 0⟩

/-- The cells of a list's elements in memory that does not change. -/
structure Lies (M : Mem) (a : Option Addr) (xs : List AV) (s g o : Nat) (f : Nat → Nat → Value) : Prop where
  wide : ∀ y ∈ xs, y.cells.length = s
  one : ∀ y ∈ xs, ones y.cells
  at_ : xs ≠ [] → a = some ⟨g, o, none⟩
  mem : ∀ (i j : Nat) (y z : AV), xs[i]? = some y → y.cells[j]? = some z → M g (o + i * s + j) = some (f i j)
theorem Lies.mono {M M' : Mem} {a : Option Addr} {xs : List AV} {s g o : Nat} {f : Nat → Nat → Value} (h : Lies M a xs s g o f) (hM : Mle M M') : Lies M' a xs s g o f :=
  ⟨h.wide, h.one, h.at_, fun i j y z h1 h2 => hM _ _ _ (h.mem i j y z h1 h2)⟩

inductive VR (M : Mem) : RR → AV → Value → Prop
  | int {e k n} : VR M e (.int k n) (.int k n)
  | u8 {e b} : VR M e (.u8 b) (.int .u8 b.toNat)
  | bool {e b} : VR M e (.bool b) (.bool b)
  | str {e s b} (h : b.data.toList = s) : VR M e (.str s) (.string b)
  | enil {e} : VR M e (.eno 0) .nilIface
  | eno {e n} (h : n ≠ 0) : VR M e (.eno n) (.iface errT (.int .i64 n))
  | iface {e t v c} (h : VR M e v c) : VR M e (.iface t v) (.iface t c)
  | nilp {e} : VR M e .nilp (.pointer none)
  | ptr {e b o} (h : b < e.N) : VR M e (.ptr b o) (.pointer (some ⟨e.ρ b, o, none⟩))
  | elp {e : RR} {b v s i o g p : Nat} (hb : b < e.N) (ha : e.arr b = true) (hv : v ≤ e.len b) (h : v = e.len b → (∃ cc, e.g b = some (g, cc)) ∧ p = i * s + o ∧ i < e.cnt b) : VR M e (.elp b v s i o) (.pointer (some ⟨g, p, none⟩))
  | eptr {e : RR} {cs : List AV} (g o : Nat) (f : Nat → Value) (h1 : ones cs) (h2 : ∀ (j : Nat) (x : AV), cs[j]? = some x → M g (o + j) = some (f j)) (h3 : ∀ (j : Nat) (x : AV), cs[j]? = some x → VR M e x (f j)) :
      VR M e (.eptr cs) (.pointer (some ⟨g, o, none⟩))
  | nils {e a} : VR M e .nils (.slice a 0 0)
  | lst {e : RR} {c : Cd} {l : List (τ c)} {a : Option Addr} {n cap : Nat} (g o : Nat) (f : Nat → Nat → Value) (hn : n = l.length) (hc : n ≤ cap) (hl : Lies M a (l.map (inj c)) (sizeC c) g o f)
      (hv : ∀ (i j : Nat) (y z : AV), (l.map (inj c))[i]? = some y → y.cells[j]? = some z → VR M RR.nul z (f i j)) : VR M e (.lst c l) (.slice a n cap)
  | lstp {e : RR} {xs : List AV} {a : Option Addr} {n cap : Nat} (s g o : Nat) (f : Nat → Nat → Value) (hn : n = xs.length) (hc : n ≤ cap) (hl : Lies M a xs s g o f)
      (hv : ∀ (i j : Nat) (y z : AV), xs[i]? = some y → y.cells[j]? = some z → VR M e z (f i j)) : VR M e (.lstp xs) (.slice a n cap)
  | slc {e : RR} {b v : Nat} {a : Option Addr} {n c : Nat} (hb : b < e.N) (ha : e.arr b = true) (hv : v ≤ e.len b)
      (h : v = e.len b → n = e.cnt b ∧ match e.g b with | none => n = 0 ∧ c = 0 | some (gg, cc) => a = some ⟨gg, 0, none⟩ ∧ c = cc) : VR M e (.slc b v) (.slice a n c)
  | sub {e : RR} {b v s i n : Nat} {a : Option Addr} {m c : Nat} (hb : b < e.N) (ha : e.arr b = true) (hv : v ≤ e.len b)
      (h : v = e.len b → m = n ∧ i + n ≤ e.cnt b ∧ m ≤ c ∧ ∀ gg cc, e.g b = some (gg, cc) → i + c = cc ∧ (0 < c → a = some ⟨gg, i * s, none⟩)) : VR M e (.sub b v s i n) (.slice a m c)
  | agg {e : RR} {cs : List AV} {vs : Array Value} (hs : cs.length = vs.size) (ho : ones cs) (h : ∀ (i : Nat) (x : AV) (v : Value), cs[i]? = some x → vs[i]? = some v → VR M e x v) : VR M e (.agg cs) (.agg vs)
  | tup {e : RR} {cs : List AV} {vs : Array Value} (hs : cs.length = vs.size) (h : ∀ (i : Nat) (x : AV) (v : Value), cs[i]? = some x → vs[i]? = some v → VR M e x v) : VR M e (.tup cs) (.tuple vs)
  | fn {e : RR} {f : FuncId} {cs : List AV} {vs : Array Value} (hs : cs.length = vs.size) (h : ∀ (i : Nat) (x : AV) (v : Value), cs[i]? = some x → vs[i]? = some v → VR M e x v) : VR M e (.fn f cs) (.func (.func f) #[] vs)
  | dead {e v} (h : v.oneCell' = true) : VR M e .dead v

structure RR.le (e e' : RR) : Prop where
  N : e.N ≤ e'.N
  ρ : ∀ b, b < e.N → e'.ρ b = e.ρ b
  arr : ∀ b, b < e.N → e'.arr b = e.arr b
  len : ∀ b, b < e.N → e.arr b = true → e.len b ≤ e'.len b
  g : ∀ b, b < e.N → e.arr b = true → e'.len b = e.len b → e'.g b = e.g b ∧ e'.cnt b = e.cnt b
theorem Mle.refl (M : Mem) : Mle M M := fun _ _ _ h => h
theorem Mle.trans {A B C : Mem} (h : Mle A B) (k : Mle B C) : Mle A C := fun g o u hu => k g o u (h g o u hu)
theorem RR.le.refl (e : RR) : RR.le e e := ⟨Nat.le_refl _, fun _ _ => rfl, fun _ _ => rfl, fun _ _ _ => Nat.le_refl _, fun _ _ _ _ => ⟨rfl, rfl⟩⟩
theorem RR.le.trans {a b c : RR} (h : a.le b) (k : b.le c) : a.le c where
  N := Nat.le_trans h.N k.N
  ρ x hx := (k.ρ x (Nat.lt_of_lt_of_le hx h.N)).trans (h.ρ x hx)
  arr x hx := (k.arr x (Nat.lt_of_lt_of_le hx h.N)).trans (h.arr x hx)
  len x hx ha := Nat.le_trans (h.len x hx ha) (k.len x (Nat.lt_of_lt_of_le hx h.N) ((h.arr x hx).trans ha))
  g x hx ha he := by
    have ha' := (h.arr x hx).trans ha
    have h1 := h.len x hx ha
    have h2 := k.len x (Nat.lt_of_lt_of_le hx h.N) ha'
    have h3 := k.g x (Nat.lt_of_lt_of_le hx h.N) ha' (by omega)
    have h4 := h.g x hx ha (by omega)
    rw [h3.1, h3.2, h4.1, h4.2]
    exact ⟨rfl, rfl⟩
theorem RR.nul_le (e : RR) : RR.nul.le e :=
  ⟨Nat.zero_le _, fun b hb => absurd hb (Nat.not_lt_zero b), fun b hb => absurd hb (Nat.not_lt_zero b), fun b hb => absurd hb (Nat.not_lt_zero b), fun b hb => absurd hb (Nat.not_lt_zero b)⟩

theorem VR.mono {M M' : Mem} {e : RR} {x : AV} {v : Value} (h : VR M e x v) (hM : Mle M M') : ∀ {e' : RR}, e.le e' → VR M' e' x v := by
  induction h with
  | int => exact fun _ => .int
  | u8 => exact fun _ => .u8
  | bool => exact fun _ => .bool
  | str h => exact fun _ => .str h
  | enil => exact fun _ => .enil
  | eno h => exact fun _ => .eno h
  | iface _ ih => exact fun he => .iface (ih he)
  | nilp => exact fun _ => .nilp
  | ptr h =>
    intro e' he
    rw [← he.ρ _ h]
    exact .ptr (Nat.lt_of_lt_of_le h he.N)
  | @elp e b v s i o g p hb ha hv h =>
    intro e' he
    have h1 := he.len _ hb ha
    refine .elp (Nat.lt_of_lt_of_le hb he.N) ((he.arr _ hb).trans ha) (by omega) fun hq => ?_
    have h2 := he.g _ hb ha (by omega)
    rw [h2.1, h2.2]
    exact h (by omega)
  | eptr g o f h1 h2 h3 ih => exact fun he => .eptr g o f h1 (fun j x hx => hM _ _ _ (h2 j x hx)) (fun j x hx => ih j x hx he)
  | nils => exact fun _ => .nils
  | lst g o f hn hc hl hv ih => exact fun _ => .lst g o f hn hc (hl.mono hM) (fun i j y z h1 h2 => ih i j y z h1 h2 (RR.le.refl _))
  | lstp s g o f hn hc hl hv ih => exact fun he => .lstp s g o f hn hc (hl.mono hM) (fun i j y z h1 h2 => ih i j y z h1 h2 he)
  | @slc e b v a n c hb ha hv h =>
    intro e' he
    have h1 := he.len _ hb ha
    refine .slc (Nat.lt_of_lt_of_le hb he.N) ((he.arr _ hb).trans ha) (by omega) fun hq => ?_
    have h2 := he.g _ hb ha (by omega)
    rw [h2.1, h2.2]
    exact h (by omega)
  | @sub e b v s i n a m c hb ha hv h =>
    intro e' he
    have h1 := he.len _ hb ha
    refine .sub (Nat.lt_of_lt_of_le hb he.N) ((he.arr _ hb).trans ha) (by omega) fun hq => ?_
    have h2 := he.g _ hb ha (by omega)
    rw [h2.1, h2.2]
    exact h (by omega)
  | agg hs ho _ ih => exact fun he => .agg hs ho (fun i x v h1 h2 => ih i x v h1 h2 he)
  | tup hs _ ih => exact fun he => .tup hs (fun i x v h1 h2 => ih i x v h1 h2 he)
  | fn hs _ ih => exact fun he => .fn hs (fun i x v h1 h2 => ih i x v h1 h2 he)
  | dead h => exact fun _ => .dead h
theorem VR.of_nul {M : Mem} {e : RR} {x : AV} {v : Value} (h : VR M RR.nul x v) : VR M e x v := h.mono (Mle.refl _) (RR.nul_le e)

/-! ### Renaming -/
theorem renL_cons {f : Nat → Option Nat} {g : Nat → Nat → Option Nat} {v : AV} {r l : List AV} (h : renL f g (v :: r) = some l) : ∃ v' r', v.ren f g = some v' ∧ renL f g r = some r' ∧ l = v' :: r' := by
  rw [renL] at h
  split at h
  · rename_i v' h1
    split at h
    · rename_i r' h2
      exact ⟨v', r', h1, h2, (Option.some.inj h).symm⟩
    · exact absurd h (by simp)
  · exact absurd h (by simp)
theorem renL_get {f : Nat → Option Nat} {g : Nat → Nat → Option Nat} : ∀ {l l' : List AV}, renL f g l = some l' → l'.length = l.length ∧ ∀ (i : Nat) (x' : AV), l'[i]? = some x' → ∃ x, l[i]? = some x ∧ x.ren f g = some x'
  | [], l', h => by
    rw [renL] at h
    obtain rfl := Option.some.inj h
    exact ⟨rfl, fun i x' hx => by simp at hx⟩
  | v :: r, l', h => by
    obtain ⟨v', r', h1, h2, rfl⟩ := renL_cons h
    obtain ⟨hl, hg⟩ := renL_get h2
    refine ⟨by simp [hl], fun i x' hx => ?_⟩
    cases i with
    | zero => exact ⟨v, by simp, by simpa [h1] using hx⟩
    | succ i =>
      obtain ⟨x, h3, h4⟩ := hg i x' (by simpa using hx)
      exact ⟨x, by simpa using h3, h4⟩
/-- Blocks by other numbers, which lie where the old ones lie. -/
structure Ren (f : Nat → Option Nat) (g : Nat → Nat → Option Nat) (e e' : RR) : Prop where
  lt : ∀ b b', b < e.N → f b = some b' → b' < e'.N
  ρ : ∀ b b', b < e.N → f b = some b' → e'.ρ b' = e.ρ b
  arr : ∀ b b', b < e.N → f b = some b' → e'.arr b' = e.arr b
  age : ∀ b b' v v', b < e.N → f b = some b' → g b v = some v' → v ≤ e.len b → v' ≤ e'.len b' ∧ (v' = e'.len b' → v = e.len b ∧ e'.g b' = e.g b ∧ e'.cnt b' = e.cnt b)
theorem one_ren {f : Nat → Option Nat} {g : Nat → Nat → Option Nat} {x z : AV} (h2 : x.ren f g = some z) (h3 : x.one = true) : z.one = true := by
  cases x <;> simp only [AV.one] at h3 <;> simp only [AV.ren] at h2 <;> first
    | (obtain rfl := Option.some.inj h2; rfl)
    | (cases h3; done)
    | (split at h2 <;> first | (obtain rfl := Option.some.inj h2; rfl) | (split at h2 <;> first | (obtain rfl := Option.some.inj h2; rfl) | exact absurd h2 (by simp)) | exact absurd h2 (by simp))
theorem ones_ren {f : Nat → Option Nat} {g : Nat → Nat → Option Nat} {cs cs' : List AV} (h : renL f g cs = some cs') (ho : ones cs) : ones cs' := by
  intro z hz
  obtain ⟨i, hi⟩ := List.mem_iff_getElem?.1 hz
  obtain ⟨x, h1, h2⟩ := (renL_get h).2 i z hi
  exact one_ren h2 (ho x (List.mem_of_getElem? h1))
theorem cells_ren {f : Nat → Option Nat} {g : Nat → Nat → Option Nat} {x z : AV} (h : x.ren f g = some z) : renL f g x.cells = some z.cells := by
  cases x
  case agg cs =>
    simp only [AV.ren] at h
    split at h
    · rename_i cs' hcs
      obtain rfl := Option.some.inj h
      exact hcs
    · exact absurd h (by simp)
  all_goals
    have h0 := h
    simp only [AV.ren] at h
    simp only [AV.cells, renL, h0]
    first
      | (obtain rfl := Option.some.inj h; rfl)
      | (split at h <;> first | (obtain rfl := Option.some.inj h; rfl) | (split at h <;> first | (obtain rfl := Option.some.inj h; rfl) | exact absurd h (by simp)) | exact absurd h (by simp))
theorem VR.ren {M : Mem} {f : Nat → Option Nat} {g : Nat → Nat → Option Nat} {e e' : RR} (hf : Ren f g e e') {x : AV} {v : Value} (h : VR M e x v) : ∀ {x' : AV}, x.ren f g = some x' → VR M e' x' v := by
  suffices H : ∀ {e0 : RR}, VR M e0 x v → e0 = e → ∀ {x' : AV}, x.ren f g = some x' → VR M e' x' v from fun {x'} hx => H h rfl hx
  clear h
  intro e0 h
  induction h with
  | int => intro _ x' hx; simp only [AV.ren] at hx; obtain rfl := Option.some.inj hx; exact .int
  | u8 => intro _ x' hx; simp only [AV.ren] at hx; obtain rfl := Option.some.inj hx; exact .u8
  | bool => intro _ x' hx; simp only [AV.ren] at hx; obtain rfl := Option.some.inj hx; exact .bool
  | str h => intro _ x' hx; simp only [AV.ren] at hx; obtain rfl := Option.some.inj hx; exact .str h
  | enil => intro _ x' hx; simp only [AV.ren] at hx; obtain rfl := Option.some.inj hx; exact .enil
  | eno h => intro _ x' hx; simp only [AV.ren] at hx; obtain rfl := Option.some.inj hx; exact .eno h
  | dead h => intro _ x' hx; simp only [AV.ren] at hx; obtain rfl := Option.some.inj hx; exact .dead h
  | nils => intro _ x' hx; simp only [AV.ren] at hx; obtain rfl := Option.some.inj hx; exact .nils
  | iface _ ih =>
    intro he x' hx
    simp only [AV.ren] at hx
    split at hx
    · rename_i v' hv
      obtain rfl := Option.some.inj hx
      exact .iface (ih he hv)
    · exact absurd hx (by simp)
  | nilp => intro _ x' hx; simp only [AV.ren] at hx; obtain rfl := Option.some.inj hx; exact .nilp
  | ptr h =>
    intro he x' hx
    subst he
    simp only [AV.ren] at hx
    split at hx
    · rename_i b' hb
      obtain rfl := Option.some.inj hx
      rw [← hf.ρ _ _ h hb]
      exact .ptr (hf.lt _ _ h hb)
    · exact absurd hx (by simp)
  | elp hb ha hv h =>
    intro he x' hx
    subst he
    simp only [AV.ren] at hx
    split at hx
    · rename_i v' hg
      split at hx
      · rename_i b' hb'
        obtain rfl := Option.some.inj hx
        obtain ⟨h1, h2⟩ := hf.age _ _ _ _ hb hb' hg hv
        refine .elp (hf.lt _ _ hb hb') ((hf.arr _ _ hb hb').trans ha) h1 fun hq => ?_
        obtain ⟨h3, h4, h5⟩ := h2 hq
        rw [h4, h5]
        exact h h3
      · exact absurd hx (by simp)
    · obtain rfl := Option.some.inj hx
      exact .dead rfl
  | eptr g o f h1 h2 h3 ih =>
    intro he x' hx
    simp only [AV.ren] at hx
    split at hx
    · rename_i cs' hcs
      obtain rfl := Option.some.inj hx
      obtain ⟨hl, hg⟩ := renL_get hcs
      refine .eptr g o f (ones_ren hcs h1) (fun j x hx => ?_) fun j x hx => ?_
      · obtain ⟨y, h4, h5⟩ := hg j x hx
        exact h2 j y h4
      · obtain ⟨y, h4, h5⟩ := hg j x hx
        exact ih j y h4 he h5
    · exact absurd hx (by simp)
  | lst g o f hn hc hl hv _ => intro _ x' hx'; simp only [AV.ren] at hx'; obtain rfl := Option.some.inj hx'; exact .lst g o f hn hc hl hv
  | @lstp e xs a n cap s g o f hn hc hl hv ih =>
    intro he x' hx
    simp only [AV.ren] at hx
    split at hx
    · rename_i xs' hxs
      obtain rfl := Option.some.inj hx
      obtain ⟨hll, hg⟩ := renL_get hxs
      have hc2 : ∀ (i : Nat) (y' : AV), xs'[i]? = some y' → ∃ y, xs[i]? = some y ∧ renL _ _ y.cells = some y'.cells := fun i y' hy' => by
        obtain ⟨y, h1, h2⟩ := hg i y' hy'
        exact ⟨y, h1, cells_ren h2⟩
      refine .lstp s g o f (by omega) hc ⟨fun y hy => ?_, fun y hy => ?_, fun hne => ?_, fun i j y z h1 h2 => ?_⟩ fun i j y z h1 h2 => ?_
      · obtain ⟨i, hi⟩ := List.mem_iff_getElem?.1 hy
        obtain ⟨y0, h1, h2⟩ := hc2 i y hi
        rw [(renL_get h2).1]
        exact hl.wide y0 (List.mem_of_getElem? h1)
      · obtain ⟨i, hi⟩ := List.mem_iff_getElem?.1 hy
        obtain ⟨y0, h1, h2⟩ := hc2 i y hi
        exact ones_ren h2 (hl.one y0 (List.mem_of_getElem? h1))
      · exact hl.at_ (fun h0 => hne (List.length_eq_zero_iff.1 (by rw [hll, h0]; rfl)))
      · obtain ⟨y0, h3, h4⟩ := hc2 i y h1
        obtain ⟨z0, h5, h6⟩ := (renL_get h4).2 j z h2
        exact hl.mem i j y0 z0 h3 h5
      · obtain ⟨y0, h3, h4⟩ := hc2 i y h1
        obtain ⟨z0, h5, h6⟩ := (renL_get h4).2 j z h2
        exact ih i j y0 z0 h3 h5 he h6
    · exact absurd hx (by simp)
  | slc hb ha hv h =>
    intro he x' hx
    subst he
    simp only [AV.ren] at hx
    split at hx
    · rename_i v' hg
      split at hx
      · rename_i b' hb'
        obtain rfl := Option.some.inj hx
        obtain ⟨h1, h2⟩ := hf.age _ _ _ _ hb hb' hg hv
        refine .slc (hf.lt _ _ hb hb') ((hf.arr _ _ hb hb').trans ha) h1 fun hq => ?_
        obtain ⟨h3, h4, h5⟩ := h2 hq
        rw [h4, h5]
        exact h h3
      · exact absurd hx (by simp)
    · obtain rfl := Option.some.inj hx
      exact .dead rfl
  | sub hb ha hv h =>
    intro he x' hx
    subst he
    simp only [AV.ren] at hx
    split at hx
    · rename_i v' hg
      split at hx
      · rename_i b' hb'
        obtain rfl := Option.some.inj hx
        obtain ⟨h1, h2⟩ := hf.age _ _ _ _ hb hb' hg hv
        refine .sub (hf.lt _ _ hb hb') ((hf.arr _ _ hb hb').trans ha) h1 fun hq => ?_
        obtain ⟨h3, h4, h5⟩ := h2 hq
        rw [h4, h5]
        exact h h3
      · exact absurd hx (by simp)
    · obtain rfl := Option.some.inj hx
      exact .dead rfl
  | agg hs ho _ ih =>
    intro he x' hx
    simp only [AV.ren] at hx
    split at hx
    · rename_i cs' hcs
      obtain rfl := Option.some.inj hx
      obtain ⟨hl, hg⟩ := renL_get hcs
      refine .agg (by omega) (ones_ren hcs ho) fun i x v h1 h2 => ?_
      obtain ⟨y, h3, h4⟩ := hg i x h1
      exact ih i y v h3 h2 he h4
    · exact absurd hx (by simp)
  | tup hs _ ih =>
    intro he x' hx
    simp only [AV.ren] at hx
    split at hx
    · rename_i cs' hcs
      obtain rfl := Option.some.inj hx
      obtain ⟨hl, hg⟩ := renL_get hcs
      refine .tup (by omega) fun i x v h1 h2 => ?_
      obtain ⟨y, h3, h4⟩ := hg i x h1
      exact ih i y v h3 h2 he h4
    · exact absurd hx (by simp)
  | fn hs _ ih =>
    intro he x' hx
    simp only [AV.ren] at hx
    split at hx
    · rename_i cs' hcs
      obtain rfl := Option.some.inj hx
      obtain ⟨hl, hg⟩ := renL_get hcs
      refine .fn (by omega) fun i x v h1 h2 => ?_
      obtain ⟨y, h3, h4⟩ := hg i x h1
      exact ih i y v h3 h2 he h4
    · exact absurd hx (by simp)

/-! ### Lists of values -/
structure CR (M : Mem) (e : RR) (cs : List AV) (vs : Array Value) : Prop where
  size : cs.length = vs.size
  get : ∀ (i : Nat) (x : AV) (v : Value), cs[i]? = some x → vs[i]? = some v → VR M e x v
theorem CR.mono {M M' : Mem} {e e' : RR} {cs : List AV} {vs : Array Value} (h : CR M e cs vs) (hM : Mle M M') (he : e.le e') : CR M' e' cs vs := ⟨h.size, fun i x v h1 h2 => (h.get i x v h1 h2).mono hM he⟩
theorem CR.ren {M : Mem} {f : Nat → Option Nat} {g : Nat → Nat → Option Nat} {e e' : RR} (hf : Ren f g e e') {cs cs' : List AV} {vs : Array Value} (h : CR M e cs vs) (hr : renL f g cs = some cs') : CR M e' cs' vs := by
  obtain ⟨hl, hg⟩ := renL_get hr
  refine ⟨by rw [hl]; exact h.size, fun i x v h1 h2 => ?_⟩
  obtain ⟨y, h3, h4⟩ := hg i x h1
  exact (h.get i y v h3 h2).ren hf h4
theorem CR.at {M : Mem} {e : RR} {cs : List AV} {vs : Array Value} (h : CR M e cs vs) {i : Nat} {x : AV} (hx : cs[i]? = some x) : ∃ v, vs[i]? = some v ∧ VR M e x v := by
  have hi : i < vs.size := by rw [← h.size]; exact (List.getElem?_eq_some_iff.1 hx).1
  exact ⟨vs[i], Array.getElem?_eq_getElem hi, h.get i x _ hx (Array.getElem?_eq_getElem hi)⟩
/-- A value's cells. -/
theorem VR.cells {M : Mem} {e : RR} {x : AV} {v : Value} (h : VR M e x v) : CR M e x.cells v.cells := by
  by_cases ha : ∃ cs, x = .agg cs
  · obtain ⟨cs, rfl⟩ := ha
    cases h with
    | agg hs ho hh => exact ⟨hs, hh⟩
  · have h1 : x.cells = [x] := by cases x <;> first | rfl | exact absurd ⟨_, rfl⟩ ha
    have h2 : v.cells = #[v] := by
      cases h <;> first
        | rfl
        | exact absurd ⟨_, rfl⟩ ha
        | (rename_i hd; cases v <;> first | rfl | (simp [Value.oneCell'] at hd))
    rw [h1, h2]
    refine ⟨rfl, fun i x' v' h1 h2 => ?_⟩
    cases i with
    | zero => simp at h1 h2; subst h1; subst h2; exact h
    | succ i => simp at h1
theorem VR.ones {M : Mem} {e : RR} {x : AV} {v : Value} (h : VR M e x v) (ht : ∀ l, x ≠ .tup l) : ones x.cells := by
  cases h <;> first
    | assumption
    | (exact absurd rfl (ht _))
    | (intro z hz; simp [AV.cells] at hz; subst hz; rfl)
theorem VR.oneCell {M : Mem} {e : RR} {x : AV} {v : Value} (h : VR M e x v) (ho : x.one = true) : v.oneCell' = true := by
  cases h <;> first
    | assumption
    | simp_all [AV.one, Value.oneCell']
end Go.Sm
/- The small heap in the model's memory, and how it is kept when the world goes on. No condition. -/
set_option linter.unusedVariables false
set_option linter.unusedSimpArgs false
namespace Go.Sm

/-- Cells hold a list's elements. -/
def Holds (M : Mem) (c : Cd) (l : List (τ c)) (get : Nat → Option Value) : Prop :=
  ∀ (i j : Nat) (y z : AV), (l.map (inj c))[i]? = some y → y.cells[j]? = some z → ∃ u, get (i * sizeC c + j) = some u ∧ VR M RR.nul z u
theorem Holds.mono {M M' : Mem} {c : Cd} {l : List (τ c)} {get : Nat → Option Value} (h : Holds M c l get) (hM : Mle M M') : Holds M' c l get := fun i j y z h1 h2 => by
  obtain ⟨u, h3, h4⟩ := h i j y z h1 h2
  exact ⟨u, h3, h4.mono hM (RR.le.refl _)⟩
/-- How a block of the small heap lies in the world. -/
def BR (M : Mem) (e : RR) (w : World) (b : Nat) : AB → Prop
  | .cells cs => ones cs ∧ ∃ arr ty, w.heap[e.ρ b]? = some (.cells arr ty (0, 0)) ∧ CR M e cs arr ∧ ∀ o, M (e.ρ b) o = none
  | .arr ice v c l => e.len b = v ∧ e.cnt b = l.length ∧ 0 < sizeC c ∧ match e.g b with
    | none => l = []
    | some (gg, cc) => l.length ≤ cc ∧ match ice with
      | true => Holds M c l (M gg)
      | false => ∃ arr ty fz, w.heap[gg]? = some (.cells arr ty fz) ∧ (fz.2 = 0 ∨ arr.size ≤ fz.1) ∧ arr.size = cc * sizeC c ∧ Holds M c l (fun o => arr[o]?) ∧ ∀ o, M gg o = none
  | .iter s pos => ∃ bs, w.heap[e.ρ b]? = some (.stringIter bs pos) ∧ bs.data.toList = s
/-- The block of the world in which it lies. -/
def cid (e : RR) (b : Nat) : AB → Option Nat
  | .arr false _ _ _ => (e.g b).map (·.1)
  | .arr true _ _ _ => none
  | _ => some (e.ρ b)
def foot (e : RR) (H : List AB) (i : Nat) : Prop := ∃ b x, H[b]? = some x ∧ cid e b x = some i

def AB.isArr : AB → Bool
  | .arr _ _ _ _ => true
  | _ => false
structure HR (M : Mem) (e : RR) (H : List AB) (w : World) : Prop where
  N : e.N = H.length
  mem : ∀ g o u, M g o = some u → w.cell? ⟨g, o, none⟩ = some u
  blk : ∀ b x, H[b]? = some x → BR M e w b x
  inj : ∀ b b' x x' i, H[b]? = some x → H[b']? = some x' → cid e b x = some i → cid e b' x' = some i → b = b'
  glob : Glob M
  kind : ∀ b x, H[b]? = some x → e.arr b = x.isArr

structure Tr (M : Mem) (e : RR) (H : List AB) (w : World) (M' : Mem) (e' : RR) (H' : List AB) (w' : World) : Prop where
  mle : Mle M M'
  rle : e.le e'
  hr : HR M' e' H' w'
  os : w'.os = w.os
  tape : w'.tape = w.tape
  output : w'.output = w.output
  size : w.heap.size ≤ w'.heap.size
  same : ∀ i, i < w.heap.size → ¬ foot e H i → w'.heap[i]? = w.heap[i]?
  ids : ∀ i, foot e' H' i → foot e H i ∨ w.heap.size ≤ i
  fresh : ∀ g o, M g o = none → M' g o ≠ none → foot e H g ∨ w.heap.size ≤ g
theorem Tr.refl {M : Mem} {e : RR} {H : List AB} {w : World} (h : HR M e H w) : Tr M e H w M e H w :=
  ⟨Mle.refl _, RR.le.refl _, h, rfl, rfl, rfl, Nat.le_refl _, fun _ _ _ => rfl, fun _ h => .inl h, fun _ _ h h' => absurd h h'⟩
theorem Tr.trans {M : Mem} {e : RR} {H : List AB} {w : World} {M1 : Mem} {e1 : RR} {H1 : List AB} {w1 : World} {M2 : Mem} {e2 : RR} {H2 : List AB} {w2 : World}
    (h : Tr M e H w M1 e1 H1 w1) (k : Tr M1 e1 H1 w1 M2 e2 H2 w2) : Tr M e H w M2 e2 H2 w2 where
  mle := h.mle.trans k.mle
  rle := h.rle.trans k.rle
  hr := k.hr
  os := k.os.trans h.os
  tape := k.tape.trans h.tape
  output := k.output.trans h.output
  size := Nat.le_trans h.size k.size
  same i hi hn := by
    rw [k.same i (Nat.lt_of_lt_of_le hi h.size) (fun hf => by rcases h.ids i hf with h1 | h1; exact hn h1; omega), h.same i hi hn]
  ids i hf := by
    rcases k.ids i hf with h1 | h1
    · exact h.ids i h1
    · exact .inr (Nat.le_trans h.size h1)
  fresh g o h0 h2 := by
    cases h1 : M1 g o with
    | some u => exact h.fresh g o h0 (by rw [h1]; simp)
    | none =>
      rcases k.fresh g o h1 h2 with h3 | h3
      · exact h.ids g h3
      · exact .inr (Nat.le_trans h.size h3)

theorem cell?_of_heap {w w' : World} {g o : Nat} (h : w'.heap[g]? = w.heap[g]?) : w'.cell? ⟨g, o, none⟩ = w.cell? ⟨g, o, none⟩ := World.cell?_of_block (w := w) h
theorem heap_lt {w : World} {g : Nat} {x : Obj} (h : w.heap[g]? = some x) : g < w.heap.size := (Array.getElem?_eq_some_iff.1 h).1
theorem cell?_lt {w : World} {g o : Nat} {u : Value} (h : w.cell? ⟨g, o, none⟩ = some u) : g < w.heap.size := World.block_lt_of_cell? w ⟨g, o, none⟩ h

/-- Where the memory that counts is as it was, the relation holds. -/
theorem BR.world {M : Mem} {e : RR} {w w' : World} {b : Nat} {x : AB} (h : BR M e w b x) (hw : ∀ i, cid e b x = some i → w'.heap[i]? = w.heap[i]?) : BR M e w' b x := by
  cases x with
  | cells cs =>
    obtain ⟨h1, arr, ty, h2, h3⟩ := h
    exact ⟨h1, arr, ty, by rw [hw _ rfl]; exact h2, h3⟩
  | arr ice v c l =>
    obtain ⟨h1, h2, h3, h4⟩ := h
    refine ⟨h1, h2, h3, ?_⟩
    cases hg : e.g b with
    | none => rw [hg] at h4; exact h4
    | some p =>
      obtain ⟨gg, cc⟩ := p
      rw [hg] at h4
      refine ⟨h4.1, ?_⟩
      cases ice with
      | true => exact h4.2
      | false =>
        obtain ⟨arr, ty, fz, h5, h6⟩ := h4.2
        exact ⟨arr, ty, fz, by rw [hw gg (by simp [cid, hg])]; exact h5, h6⟩
  | iter s pos =>
    obtain ⟨bs, h1, h2⟩ := h
    exact ⟨bs, by rw [hw _ rfl]; exact h1, h2⟩
theorem BR.lt {M : Mem} {e : RR} {w : World} {b : Nat} {x : AB} (h : BR M e w b x) {i : Nat} (hi : cid e b x = some i) : i < w.heap.size := by
  cases x with
  | cells cs =>
    obtain ⟨h1, arr, ty, h2, h3⟩ := h
    simp only [cid, Option.some.injEq] at hi
    subst hi
    exact heap_lt h2
  | arr ice v c l =>
    obtain ⟨h1, h2, h3, h4⟩ := h
    cases ice with
    | true => simp [cid] at hi
    | false =>
      simp only [cid, Option.map_eq_some_iff] at hi
      obtain ⟨⟨gg, cc⟩, hg, rfl⟩ := hi
      rw [hg] at h4
      obtain ⟨arr, ty, fz, h5, h6⟩ := h4.2
      exact heap_lt h5
  | iter s pos =>
    obtain ⟨bs, h1, h2⟩ := h
    simp only [cid, Option.some.injEq] at hi
    subst hi
    exact heap_lt h1
theorem HR.foot_lt {M : Mem} {e : RR} {H : List AB} {w : World} (h : HR M e H w) {i : Nat} (hf : foot e H i) : i < w.heap.size := by
  obtain ⟨b, x, hb, hc⟩ := hf
  exact (h.blk b x hb).lt hc
/-- A block keeps its place if memory grows elsewhere and other blocks' places change. -/
theorem BR.other {M M' : Mem} {e e' : RR} {w : World} {b : Nat} {x : AB} (h : BR M e w b x) (hM : Mle M M') (he : e.le e') (hρ : e'.ρ b = e.ρ b) (hg : e'.g b = e.g b) (hl : e'.len b = e.len b) (hc : e'.cnt b = e.cnt b)
    (hi : ∀ i, cid e b x = some i → ∀ o, M i o = none → M' i o = none) : BR M' e' w b x := by
  cases x with
  | cells cs =>
    obtain ⟨h1, arr, ty, h2, h3, h4⟩ := h
    exact ⟨h1, arr, ty, by rw [hρ]; exact h2, h3.mono hM he, fun o => by rw [hρ]; exact hi _ rfl o (h4 o)⟩
  | arr ice v c l =>
    obtain ⟨h1, h2, h3, h4⟩ := h
    refine ⟨by rw [hl]; exact h1, by rw [hc]; exact h2, h3, ?_⟩
    rw [hg]
    cases hgb : e.g b with
    | none => rw [hgb] at h4; exact h4
    | some p =>
      obtain ⟨gg, cc⟩ := p
      rw [hgb] at h4
      refine ⟨h4.1, ?_⟩
      cases ice with
      | true =>
        intro i j y z hy hz
        obtain ⟨u, h5, h6⟩ := h4.2 i j y z hy hz
        exact ⟨u, hM _ _ _ h5, h6.mono hM (RR.le.refl _)⟩
      | false =>
        obtain ⟨arr, ty, fz, h5, hf, h6, h7, h8⟩ := h4.2
        exact ⟨arr, ty, fz, h5, hf, h6, h7.mono hM, fun o => hi gg (by simp [cid, hgb]) o (h8 o)⟩
  | iter s pos =>
    obtain ⟨bs, h1, h2⟩ := h
    exact ⟨bs, by rw [hρ]; exact h1, h2⟩
theorem cid_other {e e' : RR} {b : Nat} {x : AB} (hρ : e'.ρ b = e.ρ b) (hg : e'.g b = e.g b) : cid e' b x = cid e b x := by
  cases x with
  | arr ice v c l => cases ice <;> simp [cid, hg]
  | _ => simp [cid, hρ]
/-- Old blocks are as they were: the relation holds in the new world. -/
theorem HR.world {M : Mem} {e : RR} {H : List AB} {w w' : World} (h : HR M e H w) (hw : ∀ i, i < w.heap.size → w'.heap[i]? = w.heap[i]?) : HR M e H w' where
  N := h.N
  mem g o u hu := by
    have h1 := h.mem g o u hu
    rw [cell?_of_heap (hw g (cell?_lt h1)), h1]
  blk b x hb := (h.blk b x hb).world fun i hi => hw i ((h.blk b x hb).lt hi)
  inj := h.inj
  glob := h.glob
  kind := h.kind
theorem Tr.world {M : Mem} {e : RR} {H : List AB} {w w' : World} (h : HR M e H w) (h1 : w'.os = w.os) (h2 : w'.tape = w.tape) (h3 : w'.output = w.output) (hs : w.heap.size ≤ w'.heap.size)
    (hw : ∀ i, i < w.heap.size → w'.heap[i]? = w.heap[i]?) : Tr M e H w M e H w' :=
  ⟨Mle.refl _, RR.le.refl _, h.world hw, h1, h2, h3, hs, fun i hi _ => hw i hi, fun _ h => .inl h, fun _ _ h h' => absurd h h'⟩
theorem Tr.drew {M : Mem} {e : RR} {H : List AB} {w : World} (h : HR M e H w) : Tr M e H w M e H w.drew := Tr.world h rfl rfl rfl (Nat.le_refl _) fun _ _ => rfl
theorem alloc_old {w : World} {o : Obj} {i : Nat} (h : i < w.heap.size) : (w.alloc o).heap[i]? = w.heap[i]? := by
  show (w.heap.push o)[i]? = _
  rw [Array.getElem?_push, if_neg (by omega)]
theorem alloc_new {w : World} {o : Obj} : (w.alloc o).heap[w.heap.size]? = some o := by
  show (w.heap.push o)[_]? = _
  simp
theorem Tr.alloc {M : Mem} {e : RR} {H : List AB} {w : World} (h : HR M e H w) (o : Obj) : Tr M e H w M e H (w.alloc o) :=
  Tr.world h rfl rfl rfl (by simp) fun _ hi => alloc_old hi
theorem HR.free {M : Mem} {e : RR} {H : List AB} {w : World} (h : HR M e H w) {g : Nat} (hg : w.heap.size ≤ g) (o : Nat) : M g o = none := by
  cases hm : M g o with
  | none => rfl
  | some u => exact absurd (cell?_lt (h.mem _ _ _ hm)) (by omega)
theorem getElem?_snoc {α : Type} {l : List α} {a x : α} {i : Nat} (h : (l ++ [a])[i]? = some x) : (i < l.length ∧ l[i]? = some x) ∨ (i = l.length ∧ x = a) := by
  rcases Nat.lt_trichotomy i l.length with hi | hi | hi
  · exact .inl ⟨hi, by rwa [List.getElem?_append_left hi] at h⟩
  · subst hi
    simp at h
    exact .inr ⟨rfl, h.symm⟩
  · rw [List.getElem?_eq_none (by simp; omega)] at h
    exact absurd h (by simp)
theorem getElem?_set_cases {α : Type} {l : List α} {a x : α} {i b : Nat} (h : (l.set i a)[b]? = some x) : (b ≠ i ∧ l[b]? = some x) ∨ (b = i ∧ x = a ∧ i < l.length) := by
  rw [List.getElem?_set] at h
  split at h
  · rename_i hi
    subst hi
    split at h
    · rename_i hl
      exact .inr ⟨rfl, (Option.some.inj h).symm, hl⟩
    · exact absurd h (by simp)
  · rename_i hi
    exact .inl ⟨fun h => hi h.symm, h⟩

/-- What other blocks know is as it was. -/
def sameAt (e e' : RR) (k : Nat) : Prop := e'.ρ k = e.ρ k ∧ e'.g k = e.g k ∧ e'.len k = e.len k ∧ e'.cnt k = e.cnt k ∧ e'.arr k = e.arr k
/-- A block is written. -/
theorem Tr.upd {M M' : Mem} {e e' : RR} {H : List AB} {w w' : World} (h : HR M e H w) {b : Nat} {x x' : AB} (hb : H[b]? = some x) (hM : Mle M M') (he : e.le e') (hN : e'.N = e.N) (hoth : ∀ k, k ≠ b → sameAt e e' k)
    (hos : w'.os = w.os) (htp : w'.tape = w.tape) (hout : w'.output = w.output) (hsz : w.heap.size ≤ w'.heap.size)
    (hheap : ∀ i, i < w.heap.size → cid e b x ≠ some i → w'.heap[i]? = w.heap[i]?)
    (hfresh : ∀ g o, M g o = none → M' g o ≠ none → cid e b x = some g ∨ w.heap.size ≤ g)
    (hmem : ∀ g o u, M' g o = some u → w'.cell? ⟨g, o, none⟩ = some u)
    (hcid : ∀ i, cid e' b x' = some i → cid e b x = some i ∨ w.heap.size ≤ i) (hbr : BR M' e' w' b x') (hkd : x'.isArr = x.isArr := by rfl) : Tr M e H w M' e' (H.set b x') w' := by
  have hfb : ∀ i, cid e b x = some i → foot e H i := fun i hi => ⟨b, x, hb, hi⟩
  have hbl : b < H.length := (List.getElem?_eq_some_iff.1 hb).1
  have hne : ∀ {k y i}, k ≠ b → H[k]? = some y → cid e k y = some i → cid e b x ≠ some i := fun hk hy hi hbi => hk (h.inj _ b _ x _ hy hb hi hbi)
  have hkind : ∀ k y, (H.set b x')[k]? = some y → e'.arr k = y.isArr := by
    intro k y hy
    rcases getElem?_set_cases hy with ⟨hk, hy⟩ | ⟨rfl, rfl, _⟩
    · rw [(hoth k hk).2.2.2.2]; exact h.kind k y hy
    · rw [he.arr _ (by rw [h.N]; exact hbl), h.kind _ x hb, hkd]
  refine ⟨hM, he, ⟨by rw [hN, h.N]; simp, hmem, fun k y hy => ?_, fun k k' y y' i hy hy' hi hi' => ?_, h.glob.mono hM, hkind⟩, hos, htp, hout, hsz, fun i hi hn => hheap i hi fun hc => hn (hfb i hc), fun i hf => ?_, fun g o h0 h1 => ?_⟩
  · rcases getElem?_set_cases hy with ⟨hk, hy⟩ | ⟨rfl, rfl, _⟩
    · have hbk := h.blk k y hy
      obtain ⟨h1, h2, h3, h4, _⟩ := hoth k hk
      refine (hbk.world fun i hi => hheap i (hbk.lt hi) (hne hk hy hi)).other hM he h1 h2 h3 h4 fun i hi o ho => ?_
      cases hq : M' i o with
      | none => rfl
      | some u =>
        rcases hfresh i o ho (by rw [hq]; simp) with h5 | h5
        · exact absurd h5 (hne hk hy hi)
        · have := hbk.lt hi; omega
    · exact hbr
  · have hcase : ∀ {k y i}, (H.set b x')[k]? = some y → cid e' k y = some i → (k = b ∧ (cid e b x = some i ∨ w.heap.size ≤ i)) ∨ (k ≠ b ∧ H[k]? = some y ∧ cid e k y = some i) := by
      intro k y i hy hi
      rcases getElem?_set_cases hy with ⟨hk, hz⟩ | ⟨rfl, rfl, _⟩
      · obtain ⟨h1, h2, _⟩ := hoth k hk
        rw [cid_other h1 h2] at hi
        exact .inr ⟨hk, hz, hi⟩
      · exact .inl ⟨rfl, hcid i hi⟩
    rcases hcase hy hi with ⟨h1, h2⟩ | ⟨hk, hz, hj⟩ <;> rcases hcase hy' hi' with ⟨h3, h4⟩ | ⟨hk', hz', hj'⟩
    · rw [h1, h3]
    · rcases h2 with h2 | h2
      · exact absurd h2 (hne hk' hz' hj')
      · have := (h.blk _ _ hz').lt hj'; omega
    · rcases h4 with h4 | h4
      · exact absurd h4 (hne hk hz hj)
      · have := (h.blk _ _ hz).lt hj; omega
    · exact h.inj k k' y y' i hz hz' hj hj'
  · obtain ⟨k, y, hy, hi⟩ := hf
    rcases getElem?_set_cases hy with ⟨hk, hz⟩ | ⟨rfl, rfl, _⟩
    · obtain ⟨h1, h2, _⟩ := hoth k hk
      rw [cid_other h1 h2] at hi
      exact .inl ⟨k, y, hz, hi⟩
    · rcases hcid i hi with h1 | h1
      · exact .inl (hfb i h1)
      · exact .inr h1
  · rcases hfresh g o h0 h1 with h2 | h2
    · exact .inl (hfb g h2)
    · exact .inr h2
/-- A new block. -/
theorem Tr.pushB {M M' : Mem} {e e' : RR} {H : List AB} {w w' : World} (h : HR M e H w) {x' : AB} (hM : Mle M M') (he : e.le e') (hN : e'.N = e.N + 1) (hoth : ∀ k, k < e.N → sameAt e e' k)
    (hos : w'.os = w.os) (htp : w'.tape = w.tape) (hout : w'.output = w.output) (hsz : w.heap.size ≤ w'.heap.size) (hheap : ∀ i, i < w.heap.size → w'.heap[i]? = w.heap[i]?)
    (hfresh : ∀ g o, M g o = none → M' g o ≠ none → w.heap.size ≤ g) (hmem : ∀ g o u, M' g o = some u → w'.cell? ⟨g, o, none⟩ = some u)
    (hcid : ∀ i, cid e' e.N x' = some i → w.heap.size ≤ i) (hbr : BR M' e' w' e.N x') (hkd : e'.arr e.N = x'.isArr) : Tr M e H w M' e' (H ++ [x']) w' := by
  have hkind : ∀ k y, (H ++ [x'])[k]? = some y → e'.arr k = y.isArr := by
    intro k y hy
    rcases getElem?_snoc hy with ⟨hk, hy⟩ | ⟨rfl, rfl⟩
    · rw [(hoth k (by rw [h.N]; exact hk)).2.2.2.2]; exact h.kind k y hy
    · rw [← h.N]; exact hkd
  refine ⟨hM, he, ⟨by rw [hN, h.N]; simp, hmem, fun k y hy => ?_, fun k k' y y' i hy hy' hi hi' => ?_, h.glob.mono hM, hkind⟩, hos, htp, hout, hsz, fun i hi _ => hheap i hi, fun i hf => ?_, fun g o h0 h1 => .inr (hfresh g o h0 h1)⟩
  · rcases getElem?_snoc hy with ⟨hk, hy⟩ | ⟨rfl, rfl⟩
    · have hbk := h.blk k y hy
      obtain ⟨h1, h2, h3, h4, _⟩ := hoth k (by rw [h.N]; exact hk)
      refine (hbk.world fun i hi => hheap i (hbk.lt hi)).other hM he h1 h2 h3 h4 fun i hi o ho => ?_
      cases hq : M' i o with
      | none => rfl
      | some u => have := hfresh i o ho (by rw [hq]; simp); have := hbk.lt hi; omega
    · rw [← h.N]; exact hbr
  · have hcase : ∀ {k y i}, (H ++ [x'])[k]? = some y → cid e' k y = some i → (k = H.length ∧ w.heap.size ≤ i) ∨ (k < H.length ∧ H[k]? = some y ∧ cid e k y = some i) := by
      intro k y i hy hi
      rcases getElem?_snoc hy with ⟨hk, hz⟩ | ⟨rfl, rfl⟩
      · obtain ⟨h1, h2, _⟩ := hoth k (by rw [h.N]; exact hk)
        rw [cid_other h1 h2] at hi
        exact .inr ⟨hk, hz, hi⟩
      · exact .inl ⟨rfl, hcid i (by rw [h.N]; exact hi)⟩
    rcases hcase hy hi with ⟨h1, h2⟩ | ⟨hk, hz, hj⟩ <;> rcases hcase hy' hi' with ⟨h3, h4⟩ | ⟨hk', hz', hj'⟩
    · rw [h1, h3]
    · have := (h.blk _ _ hz').lt hj'; omega
    · have := (h.blk _ _ hz).lt hj; omega
    · exact h.inj k k' y y' i hz hz' hj hj'
  · obtain ⟨k, y, hy, hi⟩ := hf
    rcases getElem?_snoc hy with ⟨hk, hz⟩ | ⟨rfl, rfl⟩
    · obtain ⟨h1, h2, _⟩ := hoth k (by rw [h.N]; exact hk)
      rw [cid_other h1 h2] at hi
      exact .inl ⟨k, y, hz, hi⟩
    · exact .inr (hcid i (by rw [h.N]; exact hi))

/-! ### Places of new blocks -/
def RR.push (e : RR) (i : Nat) : RR := { e with ρ := fun b => if b = e.N then i else e.ρ b, arr := fun b => if b = e.N then false else e.arr b, N := e.N + 1 }
def RR.setG (e : RR) (b : Nat) (x : Option (Nat × Nat)) (v n : Nat) : RR :=
  { e with g := fun k => if k = b then x else e.g k, len := fun k => if k = b then v else e.len k, cnt := fun k => if k = b then n else e.cnt k }
def RR.pushG (e : RR) (x : Option (Nat × Nat)) (n : Nat) : RR := { (e.setG e.N x 0 n) with arr := fun b => if b = e.N then true else e.arr b, N := e.N + 1 }
theorem RR.le_push (e : RR) (i : Nat) : e.le (e.push i) :=
  ⟨Nat.le_succ _, fun b hb => by simp [RR.push, Nat.ne_of_lt hb], fun b hb => by simp [RR.push, Nat.ne_of_lt hb], fun _ _ _ => Nat.le_refl _, fun _ _ _ _ => ⟨rfl, rfl⟩⟩
theorem RR.same_push {e : RR} {i k : Nat} (hk : k < e.N) : sameAt e (e.push i) k := ⟨by simp [RR.push, Nat.ne_of_lt hk], rfl, rfl, rfl, by simp [RR.push, Nat.ne_of_lt hk]⟩
theorem RR.le_setG {e : RR} {b v n : Nat} {x : Option (Nat × Nat)} (hv : e.len b ≤ v) (hx : v = e.len b → x = e.g b ∧ n = e.cnt b) : e.le (e.setG b x v n) where
  N := Nat.le_refl _
  ρ _ _ := rfl
  arr _ _ := rfl
  len k _ _ := by
    simp only [RR.setG]
    split
    · rename_i h; subst h; exact hv
    · exact Nat.le_refl _
  g k _ _ h := by
    simp only [RR.setG] at h ⊢
    split
    · rename_i hk; subst hk; rw [if_pos rfl] at h; exact hx h
    · exact ⟨rfl, rfl⟩
theorem RR.same_setG {e : RR} {b v n k : Nat} {x : Option (Nat × Nat)} (hk : k ≠ b) : sameAt e (e.setG b x v n) k := by simp [sameAt, RR.setG, hk]
theorem RR.le_pushG (e : RR) (x : Option (Nat × Nat)) (n : Nat) : e.le (e.pushG x n) where
  N := Nat.le_succ _
  ρ _ _ := rfl
  arr k hk := by simp [RR.pushG, RR.setG, Nat.ne_of_lt hk]
  len k hk _ := by simp [RR.pushG, RR.setG, Nat.ne_of_lt hk]
  g k hk _ _ := by simp [RR.pushG, RR.setG, Nat.ne_of_lt hk]
theorem RR.same_pushG {e : RR} {n k : Nat} {x : Option (Nat × Nat)} (hk : k < e.N) : sameAt e (e.pushG x n) k := by simp [sameAt, RR.pushG, RR.setG, Nat.ne_of_lt hk]

theorem mem_old {M : Mem} {e : RR} {H : List AB} {w w' : World} (h : HR M e H w) (hw : ∀ i, i < w.heap.size → w'.heap[i]? = w.heap[i]?) : ∀ g o u, M g o = some u → w'.cell? ⟨g, o, none⟩ = some u := fun g o u hu => by
  have h1 := h.mem g o u hu
  rw [cell?_of_heap (hw g (cell?_lt h1)), h1]
/-- A new block of cells, or an iterator. -/
theorem Tr.push {M : Mem} {e : RR} {H : List AB} {w : World} (h : HR M e H w) (o : Obj) (x : AB) (hk : x.isArr = false) (hx : cid (e.push w.heap.size) e.N x = some w.heap.size) (hb : BR M (e.push w.heap.size) (w.alloc o) e.N x) :
    Tr M e H w M (e.push w.heap.size) (H ++ [x]) (w.alloc o) :=
  Tr.pushB h (Mle.refl _) (RR.le_push _ _) rfl (fun k hk => RR.same_push hk) rfl rfl rfl (by simp) (fun i hi => alloc_old hi) (fun _ _ h h' => absurd h h') (mem_old h fun i hi => alloc_old hi)
    (fun i hi => by rw [hx] at hi; injection hi with hi; omega) hb (by rw [hk]; simp [RR.push])
theorem Tr.pushCells {M : Mem} {e : RR} {H : List AB} {w : World} (h : HR M e H w) {cs : List AV} {vs : Array Value} (t : TypeId) (hc : CR M e cs vs) (ho : ones cs) :
    Tr M e H w M (e.push w.heap.size) (H ++ [.cells cs]) (w.alloc (.cells vs t)) := by
  refine Tr.push h _ _ rfl (by simp [cid, RR.push]) ⟨ho, vs, t, ?_, hc.mono (Mle.refl _) (RR.le_push _ _), ?_⟩
  · simp only [RR.push, if_true]; exact alloc_new
  · simp only [RR.push, if_true]; exact h.free (Nat.le_refl _)
theorem ptr_push {M : Mem} {e : RR} {H : List AB} {w : World} (h : HR M e H w) (i : Nat) : VR M (e.push i) (.ptr H.length 0) (.pointer (some ⟨i, 0, none⟩)) := by
  have hp : VR M (e.push i) (.ptr H.length 0) (.pointer (some ⟨(e.push i).ρ H.length, 0, none⟩)) := .ptr (by simp [RR.push, h.N])
  simpa [RR.push, h.N] using hp
/-- Slices of one's own, in a new row; without a row. -/
theorem Tr.pushArr {M : Mem} {e : RR} {H : List AB} {w : World} (h : HR M e H w) {c : Cd} {l : List (τ c)} {cc : Nat} {arr : Array Value} (ty : TypeId) (fz : Nat × Nat) (hfz : fz.2 = 0 ∨ arr.size ≤ fz.1) (hpos : 0 < sizeC c) (hcc : l.length ≤ cc) (hsz : arr.size = cc * sizeC c) (hh : Holds M c l (fun o => arr[o]?)) :
    Tr M e H w M (e.pushG (some (w.heap.size, cc)) l.length) (H ++ [.arr false 0 c l]) (w.alloc (.cells arr ty fz)) := by
  refine Tr.pushB h (Mle.refl _) (RR.le_pushG _ _ _) rfl (fun k hk => RR.same_pushG hk) rfl rfl rfl (by simp) (fun i hi => alloc_old hi) (fun _ _ h h' => absurd h h') (mem_old h fun i hi => alloc_old hi)
    (fun i hi => ?_) ⟨by simp [RR.pushG, RR.setG], by simp [RR.pushG, RR.setG], hpos, ?_⟩ (by simp [RR.pushG, AB.isArr])
  · simp [cid, RR.pushG, RR.setG] at hi
    omega
  · simp only [RR.pushG, RR.setG, if_true]
    exact ⟨hcc, arr, ty, fz, alloc_new, hfz, hsz, hh, h.free (Nat.le_refl _)⟩
theorem slc_pushG {M : Mem} {e : RR} {H : List AB} {w : World} (h : HR M e H w) {n cc : Nat} {g : Nat} : VR M (e.pushG (some (g, cc)) n) (.slc H.length 0) (.slice (some ⟨g, 0, none⟩) n cc) :=
  .slc (by simp [RR.pushG, h.N]) (by simp [RR.pushG, h.N]) (Nat.zero_le _) fun _ => by simp [RR.pushG, RR.setG, h.N]
theorem Tr.pushNil {M : Mem} {e : RR} {H : List AB} {w : World} (h : HR M e H w) {c : Cd} (hpos : 0 < sizeC c) : Tr M e H w M (e.pushG none 0) (H ++ [.arr false 0 c []]) w := by
  refine Tr.pushB h (Mle.refl _) (RR.le_pushG _ _ _) rfl (fun k hk => RR.same_pushG hk) rfl rfl rfl (Nat.le_refl _) (fun i hi => rfl) (fun _ _ h h' => absurd h h') h.mem
    (fun i hi => ?_) ⟨by simp [RR.pushG, RR.setG], by simp [RR.pushG, RR.setG], hpos, ?_⟩ (by simp [RR.pushG, AB.isArr])
  · simp [cid, RR.pushG, RR.setG] at hi
  · simp [RR.pushG, RR.setG]
theorem nil_pushG {M : Mem} {e : RR} {H : List AB} {w : World} (h : HR M e H w) {a : Option Addr} : VR M (e.pushG none 0) (.slc H.length 0) (.slice a 0 0) :=
  .slc (by simp [RR.pushG, h.N]) (by simp [RR.pushG, h.N]) (Nat.zero_le _) fun _ => by simp [RR.pushG, RR.setG, h.N]
/-- A block's cells are written anew. -/
theorem Tr.setCells {M : Mem} {e : RR} {H : List AB} {w : World} (h : HR M e H w) {b : Nat} {cs cs' : List AV} (hb : H[b]? = some (.cells cs)) {vs : Array Value} (hc : CR M e cs' vs) (ho : ones cs') :
    Tr M e H w M e (H.set b (.cells cs')) (w.setRow (e.ρ b) vs) := by
  obtain ⟨_, arr, ty, h2, h3, h4⟩ := h.blk b _ hb
  have hother : ∀ i, i ≠ e.ρ b → (w.setRow (e.ρ b) vs).heap[i]? = w.heap[i]? := fun i hi => setRow_other w _ i vs hi
  refine Tr.upd h hb (Mle.refl _) (RR.le.refl _) rfl (fun _ _ => ⟨rfl, rfl, rfl, rfl, rfl⟩) rfl rfl rfl (by simp) (fun i _ hn => hother i fun he => hn (by rw [he]; rfl)) (fun _ _ h h' => absurd h h') (fun g o u hu => ?_) (fun i hi => .inl hi)
    ⟨ho, vs, ty, setRow_heap w _ arr vs ty _ h2, hc, h4⟩
  by_cases hg : g = e.ρ b
  · subst hg
    rw [h4 o] at hu
    exact absurd hu (by simp)
  · rw [cell?_of_heap (hother g hg)]
    exact h.mem g o u hu
end Go.Sm
/- Each operation of the abstract machine is what the model's does. No condition. -/
set_option linter.unusedVariables false
set_option linter.unusedSimpArgs false
namespace Go.Sm

def EnvR (M : Mem) (e : RR) (env : Env) (tmps : Array Value) : Prop := ∀ t x, env t = some x → VR M e x (tmps.getD t undef)

theorem wrap_u8 (n : Int) : IntKind.u8.wrap n = n % 256 := by
  simp [IntKind.wrap, IntKind.bits, IntKind.signed]
theorem byteI_toNat (n : Int) : ((byteI n).toNat : Int) = n % 256 := by
  unfold byteI
  rw [UInt8.toNat_ofNat']
  omega
theorem ofS_sound {M : Mem} {e : RR} {c : Value} {x : AV} (h : ofS c = some x) : VR M e x c := by
  unfold ofS at h
  split at h
  · split at h
    · split at h
      · rename_i n _ _ hd
        have hd := of_decide_eq_true hd
        obtain rfl := Option.some.inj h
        have h1 : VR M e (.u8 (byteI n)) (.int .u8 (byteI n).toNat) := .u8
        rw [byteI_toNat, Int.emod_eq_of_lt hd.1 hd.2] at h1
        exact h1
      · exact absurd h (by simp)
    · obtain rfl := Option.some.inj h; exact .int
  · obtain rfl := Option.some.inj h; exact .bool
  · obtain rfl := Option.some.inj h; exact .str rfl
  · obtain rfl := Option.some.inj h; exact .enil
  · obtain rfl := Option.some.inj h; exact .nilp
  · obtain rfl := Option.some.inj h; exact .nils
  · exact absurd h (by simp)
theorem ofS_one {c : Value} {x : AV} (h : ofS c = some x) : x.one = true := by
  unfold ofS at h
  split at h <;> first
    | (obtain rfl := Option.some.inj h; rfl)
    | (split at h <;> first | (obtain rfl := Option.some.inj h; rfl) | (split at h <;> first | (obtain rfl := Option.some.inj h; rfl) | exact absurd h (by simp)))
    | exact absurd h (by simp)
theorem ofSL_sound {M : Mem} {e : RR} : ∀ {l : List Value} {xs : List AV}, ofSL l = some xs → xs.length = l.length ∧ ones xs ∧ ∀ (i : Nat) (x : AV) (v : Value), xs[i]? = some x → l[i]? = some v → VR M e x v
  | [], xs, h => by
    rw [ofSL] at h
    obtain rfl := Option.some.inj h
    exact ⟨rfl, fun _ h => by simp at h, fun _ _ _ h => by simp at h⟩
  | c :: r, xs, h => by
    rw [ofSL] at h
    split at h
    · rename_i v' h1
      split at h
      · rename_i r' h2
        obtain rfl := Option.some.inj h
        obtain ⟨hl, ho, hg⟩ := ofSL_sound (M := M) (e := e) h2
        refine ⟨by simp [hl], fun z hz => ?_, fun i x v hx hv => ?_⟩
        · rcases List.mem_cons.1 hz with rfl | hz
          · exact ofS_one h1
          · exact ho z hz
        · cases i with
          | zero => simp at hx hv; subst hx; subst hv; exact ofS_sound h1
          | succ i => exact hg i x v (by simpa using hx) (by simpa using hv)
      · exact absurd h (by simp)
    · exact absurd h (by simp)
theorem ofV_sound {M : Mem} {e : RR} {c : Value} {x : AV} (h : ofV c = some x) : VR M e x c := by
  unfold ofV at h
  split at h
  · split at h
    · rename_i cs cs' hc
      obtain rfl := Option.some.inj h
      obtain ⟨hl, ho, hg⟩ := ofSL_sound (M := M) (e := e) hc
      exact .agg (by simpa using hl) ho (fun i x v h1 h2 => hg i x v h1 (by simpa using h2))
    · exact absurd h (by simp)
  · exact ofS_sound h
theorem opd_sound {M : Mem} {e : RR} {env : Env} {a : Act} (hE : EnvR M e env a.tmps) {x : Operand} {v : AV} (h : opd env x = some v) : VR M e v (a.eval x) := by
  cases x with
  | tmp t => exact hE t v h
  | const c => exact ofV_sound h
  | global g => simp [opd] at h
  | func f =>
    simp only [opd, Option.some.injEq] at h
    subst h
    exact .fn rfl (fun _ _ _ h => by simp at h)
theorem opdL_sound {M : Mem} {e : RR} {env : Env} {a : Act} (hE : EnvR M e env a.tmps) : ∀ {l : List Operand} {vs : List AV}, opdL env l = some vs → CR M e vs (l.map a.eval).toArray
  | [], vs, h => by
    rw [opdL] at h
    obtain rfl := Option.some.inj h
    exact ⟨rfl, fun _ _ _ h => by simp at h⟩
  | x :: r, vs, h => by
    rw [opdL] at h
    split at h
    · rename_i v h1
      split at h
      · rename_i vs' h2
        obtain rfl := Option.some.inj h
        have ih := opdL_sound hE h2
        refine ⟨by simpa using ih.size, fun i y c hy hc => ?_⟩
        cases i with
        | zero => simp at hy hc; subst hy; subst hc; exact opd_sound hE h1
        | succ i => exact ih.get i y c (by simpa using hy) (by simpa using hc)
      · exact absurd h (by simp)
    · exact absurd h (by simp)

/-! ### Types -/
structure TyAt (P : Program) (t : TypeId) (ti : TI) (i : TypeInfo) (d : TypeDesc) : Prop where
  info : P.info? t = some i
  und : P.underlying t = some d
  kd : ti.kd = kdOf P d
  size : ti.size = i.size
  bytes : ti.bytes = i.bytes
  zero : ti.zero = (match i.zero with | some z => ofV z | none => none)
  eqok : ti.eqok = eqokOf P t d
theorem mkT_some {P : Program} {t : TypeId} {ti : TI} (h : mkT P t = some ti) : ∃ i d, TyAt P t ti i d := by
  unfold mkT at h
  split at h
  · rename_i i d hi hd
    obtain rfl := Option.some.inj h
    exact ⟨i, d, hi, hd, rfl, rfl, rfl, rfl, rfl⟩
  · exact absurd h (by simp)
theorem TyAt.run_und {P : Program} {t : TypeId} {ti : TI} {i : TypeInfo} {d : TypeDesc} (h : TyAt P t ti i d) (w : World) : (underlying t).run P w = .ok d w := by
  simp [underlying, h.und]
theorem TyAt.run_info {P : Program} {t : TypeId} {ti : TI} {i : TypeInfo} {d : TypeDesc} (h : TyAt P t ti i d) (w : World) : (typeInfo t).run P w = .ok i w := by
  simp [typeInfo, h.info]
theorem TyAt.run_size {P : Program} {t : TypeId} {ti : TI} {i : TypeInfo} {d : TypeDesc} (h : TyAt P t ti i d) (w : World) : (sizeOf t).run P w = .ok ti.size w := by
  simp [sizeOf, h.run_info, h.size]
theorem TyAt.run_zero {P : Program} {t : TypeId} {ti : TI} {i : TypeInfo} {d : TypeDesc} (h : TyAt P t ti i d) (w : World) {z : Value} (hz : i.zero = some z) : (zeroValue t).run P w = .ok z w := by
  simp [zeroValue, h.run_info, hz]
theorem kdOf_slc {P : Program} {d : TypeDesc} {x : TypeId} (h : kdOf P d = .slc x) : d = .slice x := by
  cases d <;> simp [kdOf] at h <;> first | (subst h; rfl) | (split at h <;> simp at h)
theorem kdOf_int {P : Program} {d : TypeDesc} {x : IntKind} (h : kdOf P d = .int x) : d = .int x := by
  cases d <;> simp [kdOf] at h <;> first | (subst h; rfl) | (split at h <;> simp at h)
theorem kdOf_bool {P : Program} {d : TypeDesc} (h : kdOf P d = .bool) : d = .bool := by
  cases d <;> simp [kdOf] at h <;> first | rfl | (split at h <;> simp at h)
theorem kdOf_str {P : Program} {d : TypeDesc} (h : kdOf P d = .str) : d = .string := by
  cases d <;> simp [kdOf] at h <;> first | rfl | (split at h <;> simp at h)
theorem kdOf_ptr {P : Program} {d : TypeDesc} {x : TypeId} (h : kdOf P d = .ptr x) : d = .pointer x := by
  cases d <;> simp [kdOf] at h <;> first | (subst h; rfl) | (split at h <;> simp at h)
theorem kdOf_arr {P : Program} {d : TypeDesc} {n : Nat} {x : TypeId} (h : kdOf P d = .arr n x) : d = .array n x := by
  cases d <;> simp [kdOf] at h <;> first | (obtain ⟨rfl, rfl⟩ := h; rfl) | (split at h <;> simp at h)
theorem kdOf_ifc {P : Program} {d : TypeDesc} (h : kdOf P d = .ifc) : ∃ ms, d = .interface ms := by
  cases d <;> simp [kdOf] at h <;> first | exact ⟨_, rfl⟩ | (split at h <;> simp at h)
theorem kdOf_strct {P : Program} {d : TypeDesc} {fs : List (TypeId × Nat × Nat)} (h : kdOf P d = .strct fs) :
    ∃ fields, d = .struct fields ∧ (∀ f ∈ fields, f.name ≠ "_" ∧ (P.info? f.type).isSome = true) ∧ fs = fields.toList.map fun f => (f.type, f.offset, P.cellsOf f.type) := by
  cases d <;> simp [kdOf] at h
  rename_i fields
  split at h
  · rename_i ha
    simp only [Kd.strct.injEq] at h
    refine ⟨fields, rfl, fun f hf => ?_, h.symm⟩
    obtain ⟨i, hi, rfl⟩ := Array.getElem_of_mem hf
    exact ha i hi
  · simp at h
theorem TyAt.run_isAgg {P : Program} {t : TypeId} {ti : TI} {i : TypeInfo} {d : TypeDesc} (h : TyAt P t ti i d) (ho : ti.kd.isOther = false) (w : World) : (isAgg t).run P w = .ok ti.kd.isAgg w := by
  have hk := h.kd
  rw [hk] at ho ⊢
  simp only [isAgg, Sem.run_bind, h.run_und, Result.andThen_ok]
  cases d with
  | struct fs =>
    simp only [kdOf] at ho ⊢
    split at ho
    · rename_i hh
      rw [if_pos hh]
      rfl
    · exact absurd ho (by simp [Kd.isOther])
  | _ => first | rfl | exact absurd ho (by simp [kdOf, Kd.isOther])

/-- What an operation comes to. -/
def OpRes (P : Program) (M : Mem) (e : RR) (H : List AB) (w : World) (s : Sem Next) (v : AV) (H' : List AB) : Prop :=
  ∃ n c w' M' e', s.run P w = .ok n w' ∧ (n = .value c ∨ (n = .skip ∧ c = undef)) ∧ Tr M e H w M' e' H' w' ∧ VR M' e' v c
theorem OpRes.still {P : Program} {M : Mem} {e : RR} {H : List AB} {w : World} {s : Sem Next} {v : AV} {c : Value} (h : HR M e H w) (hv : VR M e v c) (hr : s.run P w = .ok (.value c) w) :
    OpRes P M e H w s v H := ⟨_, c, w, M, e, hr, .inl rfl, Tr.refl h, hv⟩

/-! ### Loads -/
theorem CR.drop {M : Mem} {e : RR} {cs : List AV} {vs : Array Value} (h : CR M e cs vs) (o n : Nat) (hn : o + n ≤ cs.length) : CR M e ((cs.drop o).take n) (vs.extract o (o + n)) := by
  have hs := h.size
  refine ⟨by simp; omega, fun i x v hx hv => ?_⟩
  have hi : i < n := by
    have := (List.getElem?_eq_some_iff.1 hx).1
    simp at this
    omega
  rw [List.getElem?_take_of_lt hi, List.getElem?_drop] at hx
  have hlt : o + i < vs.size := by omega
  rw [Array.getElem?_extract_of_lt (by omega)] at hv
  rw [← Array.getElem?_eq_getElem hlt] at hv
  exact h.get (o + i) x v hx hv
theorem ones_drop {cs : List AV} (h : ones cs) (o n : Nat) : ones ((cs.drop o).take n) := fun z hz => h z (List.mem_of_mem_drop (List.mem_of_mem_take hz))
/-- A variable is read: its cells lie at an address. -/
theorem load_sound {P : Program} {M : Mem} {e : RR} {w : World} {t : TypeId} {ti : TI} (hT : mkT P t = some ti) {cs : List AV} {o : Nat} {v : AV} (hp : partA ti cs o = some v) (ho : ones cs)
    {g p : Nat} (f : Nat → Value) (hc : ∀ (j : Nat) (x : AV), cs[j]? = some x → w.cell? ⟨g, p + j, none⟩ = some (f j)) (hv : ∀ (j : Nat) (x : AV), cs[j]? = some x → VR M e x (f j)) :
    ∃ c, (loadVar t ⟨g, p + o, none⟩).run P w = .ok c w ∧ VR M e v c := by
  obtain ⟨i, d, ht⟩ := mkT_some hT
  unfold partA at hp
  split at hp
  · rename_i hagg
    split at hp
    · rename_i hl
      have hl := of_decide_eq_true hl
      obtain rfl := Option.some.inj hp
      have hoth : ti.kd.isOther = false := by cases hk : ti.kd <;> simp_all [Kd.isAgg, Kd.isOther]
      have hcell : ∀ j, j < ti.size → w.cell? ((⟨g, p + o, none⟩ : Addr).add j) = some (f (o + j)) := by
        intro j hj
        have hx : cs[o + j]? = some cs[o + j] := List.getElem?_eq_getElem (by omega)
        have := hc (o + j) _ hx
        unfold Addr.add
        split
        · rename_i h0
          subst h0
          simpa using this
        · simpa [Nat.add_assoc] using this
      refine ⟨.agg ((List.range ti.size).map fun j => f (o + j)).toArray, ?_, .agg (by simp; omega) (ones_drop ho _ _) fun j x u hx hu => ?_⟩
      · simp only [loadVar, Sem.run_bind, ht.run_isAgg hoth, Result.andThen_ok, hagg, if_true, ht.run_size]
        rw [run_loadCells w _ ti.size (fun j => f (o + j)) hcell]
        rfl
      · have hj : j < ti.size := by
          have := (List.getElem?_eq_some_iff.1 hx).1
          simp at this
          omega
        rw [List.getElem?_take_of_lt hj, List.getElem?_drop] at hx
        simp [hj] at hu
        subst hu
        exact hv (o + j) x hx
    · exact absurd hp (by simp)
  · rename_i hagg
    split at hp
    · exact absurd hp (by simp)
    · rename_i hoth
      refine ⟨f o, ?_, hv o v hp⟩
      simp only [loadVar, Sem.run_bind, ht.run_isAgg hoth, Result.andThen_ok, hagg, Bool.false_eq_true, if_false]
      simp [run_load, hc o v hp]
theorem CR.app {M : Mem} {e : RR} {xs ys : List AV} {vs us : List Value} (h : CR M e xs vs.toArray) (k : CR M e ys us.toArray) : CR M e (xs ++ ys) (vs ++ us).toArray := by
  have h1 := h.size
  have h2 := k.size
  simp at h1 h2
  refine ⟨by simp [h1, h2], fun i x v hx hv => ?_⟩
  simp only [List.getElem?_toArray] at hv
  by_cases hi : i < xs.length
  · rw [List.getElem?_append_left hi] at hx
    rw [List.getElem?_append_left (by omega)] at hv
    exact h.get i x v hx (by simpa using hv)
  · rw [List.getElem?_append_right (by omega)] at hx
    rw [List.getElem?_append_right (by omega)] at hv
    exact k.get (i - xs.length) x v hx (by simpa [h1] using hv)
theorem CR.takeL {M : Mem} {e : RR} {xs : List AV} {vs : List Value} (h : CR M e xs vs.toArray) (n : Nat) : CR M e (xs.take n) (vs.take n).toArray := by
  have h1 := h.size
  simp at h1
  refine ⟨by simp [h1], fun i x v hx hv => ?_⟩
  simp only [List.getElem?_toArray] at hv
  by_cases hi : i < n
  · rw [List.getElem?_take_of_lt hi] at hx hv
    exact h.get i x v hx (by simpa using hv)
  · rw [List.getElem?_eq_none (by simp; omega)] at hx
    exact absurd hx (by simp)
theorem CR.dropL {M : Mem} {e : RR} {xs : List AV} {vs : List Value} (h : CR M e xs vs.toArray) (n : Nat) : CR M e (xs.drop n) (vs.drop n).toArray := by
  have h1 := h.size
  simp at h1
  refine ⟨by simp [h1], fun i x v hx hv => ?_⟩
  simp only [List.getElem?_toArray] at hv
  rw [List.getElem?_drop] at hx hv
  exact h.get (n + i) x v hx (by simpa using hv)
theorem CR.setR {M : Mem} {e : RR} {cs xs : List AV} {vs us : List Value} (h : CR M e cs vs.toArray) (k : CR M e xs us.toArray) (o : Nat) :
    CR M e (setR cs o xs) (vs.take o ++ us ++ vs.drop (o + us.length)).toArray := by
  have h2 := k.size
  simp at h2
  unfold Sm.setR
  rw [h2]
  exact ((h.takeL o).app k).app (h.dropL _)
theorem ones_setR {cs xs : List AV} (h : ones cs) (k : ones xs) (o : Nat) : ones (setR cs o xs) :=
  ones_app (ones_app (fun z hz => h z (List.mem_of_mem_take hz)) k) (fun z hz => h z (List.mem_of_mem_drop hz))
theorem CR.oneCells {M : Mem} {e : RR} {cs : List AV} {vs : Array Value} (h : CR M e cs vs) (ho : ones cs) : ∀ v ∈ vs.toList, v.oneCell' = true := by
  intro v hv
  obtain ⟨i, hi⟩ := List.mem_iff_getElem?.1 hv
  have hi' : vs[i]? = some v := by simpa using hi
  have hlt : i < cs.length := by have := (Array.getElem?_eq_some_iff.1 hi').1; rw [h.size]; exact this
  exact (h.get i cs[i] v (List.getElem?_eq_getElem hlt) hi').oneCell (ho _ (List.getElem_mem hlt))

/-- Cells of a row are written; none of the row's cells is shared with a string. -/
theorem run_storeCells_fz (P : Program) (g o : Nat) (t : TypeId) (fz : Nat × Nat) : ∀ (vs : List Value) (i : Nat) (cur : Array Value) (w : World), w.heap[g]? = some (.cells cur t fz) → (fz.2 = 0 ∨ cur.size ≤ fz.1) → o + i + vs.length ≤ cur.size →
    (∀ v ∈ vs, v.oneCell' = true) → (storeCells ⟨g, o, none⟩ vs i).run P w = .ok () (w.setRow g (cur.toList.take (o + i) ++ vs ++ cur.toList.drop (o + i + vs.length)).toArray)
  | [], i, cur, w, hg, _, _, _ => by
    simp only [storeCells, List.append_nil, List.length_nil, Nat.add_zero, List.take_append_drop, Array.toArray_toList]
    rw [setRow_self w g cur t fz hg]
    rfl
  | v :: r, i, cur, w, hg, hfz, hl, h1 => by
    have hi : o + i < cur.size := by simp at hl; omega
    have hadd : (⟨g, o, none⟩ : Addr).add i = ⟨g, o + i, none⟩ := by unfold Addr.add; split <;> simp_all
    have hcell : w.cell? ⟨g, o + i, none⟩ = some cur[o + i] := by simp [World.cell?, hg, hi]
    have hfro : w.frozen? ⟨g, o + i, none⟩ = false := by
      obtain ⟨lo, z⟩ := fz
      simp only [World.frozen?, hg, Bool.and_eq_false_iff, decide_eq_false_iff_not]
      simp only at hfz
      omega
    have hst : (store ((⟨g, o, none⟩ : Addr).add i) v).run P w = .ok () (w.setRow g (cur.setIfInBounds (o + i) v)) := by
      rw [hadd, run_store P w _ v _ (h1 v (by simp)), hcell]
      simp [hfro, setCell_eq_setRow w g (o + i) cur t fz v hg]
    have ih := run_storeCells_fz P g o t fz r (i + 1) (cur.setIfInBounds (o + i) v) (w.setRow g (cur.setIfInBounds (o + i) v)) (setRow_heap w g cur _ t _ hg) (by simpa using hfz) (by simp at hl ⊢; omega) (fun x hx => h1 x (by simp [hx]))
    simp only [storeCells, Sem.run_bind, hst, Result.andThen_ok, ih, setRow_setRow]
    congr 3
    have e := list_seg_step cur.toList (o + i) v r (by simp at hl ⊢; omega)
    simpa [Array.toList_setIfInBounds, Nat.add_assoc] using e

/-- A variable in a block of the small heap is written. -/
theorem store_sound {P : Program} {M : Mem} {e : RR} {H : List AB} {w : World} (h : HR M e H w) {t : TypeId} {ti : TI} (hT : mkT P t = some ti) {b o : Nat} {cs : List AV} (hb : H[b]? = some (.cells cs))
    {v : AV} {c : Value} (hv : VR M e v c) (ht : ∀ l, v ≠ .tup l) (hl : v.cells.length = ti.size) (hle : o + ti.size ≤ cs.length) :
    ∃ w', (storeVar t ⟨e.ρ b, o, none⟩ c).run P w = .ok () w' ∧ Tr M e H w M e (H.set b (.cells (setR cs o v.cells))) w' := by
  obtain ⟨i, d, hty⟩ := mkT_some hT
  obtain ⟨ho, arr, ty, h2, h3, h4⟩ := h.blk b _ hb
  have hcells := hv.cells
  have hsz := hcells.size
  have harr := h3.size
  refine ⟨_, ?_, Tr.setCells h hb (vs := (arr.toList.take o ++ c.cells.toList ++ arr.toList.drop (o + c.cells.toList.length)).toArray) ?_ (ones_setR ho (hv.ones ht) o)⟩
  · simp only [storeVar, Sem.run_bind, hty.run_size, Result.andThen_ok]
    rw [if_neg (by omega)]
    have := run_storeCells_at (P := P) (e.ρ b) o ty c.cells.toList 0 arr w h2 (by simp; omega) (fun v hv' => hcells.oneCells (hv.ones ht) v hv')
    simpa using this
  · have := CR.setR (M := M) (e := e) (cs := cs) (xs := v.cells) (vs := arr.toList) (us := c.cells.toList) (by simpa using h3) (by simpa using hcells) o
    exact this

/-! ### A value is built out of parts -/
theorem foldl_set (off : Nat) : ∀ (us : List Value) (k : Nat) (cs : Array Value), off + k + us.length ≤ cs.size →
    ((us.zipIdx k).foldl (fun (cs : Array Value) (x : Value × Nat) => cs.setIfInBounds (off + x.2) x.1) cs).toList = cs.toList.take (off + k) ++ us ++ cs.toList.drop (off + k + us.length)
  | [], k, cs, _ => by simp
  | u :: us, k, cs, h => by
    simp only [List.zipIdx_cons, List.foldl_cons]
    rw [foldl_set off us (k + 1) _ (by simp at h ⊢; omega)]
    have e := list_seg_step cs.toList (off + k) u us (by simp at h ⊢; omega)
    simpa [Array.toList_setIfInBounds, Nat.add_assoc, Nat.add_comm 1] using e
theorem fill_sound {M : Mem} {e : RR} {place : Nat → Option (Nat × Nat)} : ∀ {parts : List (Nat × AV)} {cparts : List (Nat × Value)} {cells cs : List AV} {ccells : Array Value},
    parts.length = cparts.length → (∀ (k : Nat) (p : Nat × AV) (c : Nat × Value), parts[k]? = some p → cparts[k]? = some c → p.1 = c.1 ∧ VR M e p.2 c.2 ∧ ones p.2.cells) →
    CR M e cells ccells → ones cells → fillA place cells parts = some cs → ∃ ccs, Instr.fill place ccells cparts = some ccs ∧ CR M e cs ccs ∧ ones cs
  | [], [], cells, cs, ccells, _, _, hc, ho, h => by
    rw [fillA] at h
    obtain rfl := Option.some.inj h
    exact ⟨ccells, rfl, hc, ho⟩
  | [], _ :: _, _, _, _, hl, _, _, _, _ => by simp at hl
  | _ :: _, [], _, _, _, hl, _, _, _, _ => by simp at hl
  | (i, v) :: r, (j, u) :: cr, cells, cs, ccells, hl, hp, hc, ho, h => by
    obtain ⟨hij, hvu, hov⟩ := hp 0 (i, v) (j, u) rfl rfl
    simp only at hij hvu hov
    subst hij
    rw [fillA] at h
    split at h
    · exact absurd h (by simp)
    · rename_i off sz hpl
      split at h
      · rename_i hh
        obtain ⟨hs, hle⟩ := of_decide_eq_true hh
        have hcu := hvu.cells
        have h1 := hcu.size
        have h2 := hc.size
        have hfold := foldl_set off u.cells.toList 0 ccells (by simp; omega)
        have hcr : CR M e (setR cells off v.cells) (u.cells.zipIdx.foldl (fun cs (x : Value × Nat) => cs.setIfInBounds (off + x.2) x.1) ccells) := by
          have hset := CR.setR (M := M) (e := e) (cs := cells) (xs := v.cells) (vs := ccells.toList) (us := u.cells.toList) (by simpa using hc) (by simpa using hcu) off
          have heq : (u.cells.zipIdx.foldl (fun cs (x : Value × Nat) => cs.setIfInBounds (off + x.2) x.1) ccells) = (ccells.toList.take off ++ u.cells.toList ++ ccells.toList.drop (off + u.cells.toList.length)).toArray := by
            apply Array.toList_inj.1
            rw [← Array.foldl_toList, Array.toList_zipIdx]
            simpa using hfold
          rw [heq]
          exact hset
        obtain ⟨ccs, h3, h4⟩ := fill_sound (by simpa using hl) (fun k p c hk hk' => hp (k + 1) p c (by simpa using hk) (by simpa using hk')) hcr (ones_setR ho hov off) h
        refine ⟨ccs, ?_, h4⟩
        simp only [Instr.fill, hpl]
        rw [if_neg (by simp; omega)]
        exact h3
      · exact absurd h (by simp)
theorem opdP_sound {M : Mem} {e : RR} {env : Env} {a : Act} (hE : EnvR M e env a.tmps) : ∀ {l : List (Nat × Operand)} {vs : List (Nat × AV)}, opdP env l = some vs →
    vs.length = (l.map fun (i, x) => (i, a.eval x)).length ∧ ∀ (k : Nat) (p : Nat × AV) (c : Nat × Value), vs[k]? = some p → (l.map fun (i, x) => (i, a.eval x))[k]? = some c → p.1 = c.1 ∧ VR M e p.2 c.2 ∧ ones p.2.cells
  | [], vs, h => by
    rw [opdP] at h
    obtain rfl := Option.some.inj h
    exact ⟨rfl, fun _ _ _ h => by simp at h⟩
  | (i, x) :: r, vs, h => by
    rw [opdP] at h
    split at h
    · exact absurd h (by simp)
    · rename_i v vs' hnt h1 h2
      obtain rfl := Option.some.inj h
      obtain ⟨hl, hg⟩ := opdP_sound hE h2
      refine ⟨by simpa using hl, fun k p c hp hc => ?_⟩
      cases k with
      | zero =>
        simp at hp hc
        subst hp
        subst hc
        have hv := opd_sound hE h1
        exact ⟨rfl, hv, hv.ones fun l hl => hnt l hl⟩
      | succ k => exact hg k p c (by simpa using hp) (by simpa using hc)
    · exact absurd h (by simp)
end Go.Sm
/- What slices hold; places in them; parts of them; data out of cells. No condition. -/
set_option linter.unusedVariables false
set_option linter.unusedSimpArgs false
namespace Go.Sm

theorem sizeC_pos : ∀ c : Cd, 0 < sizeC c
  | .u8 | .int _ | .bool | .str | .err | .lst _ => Nat.one_pos
  | .one c => sizeC_pos c
  | .pair a b => by have := sizeC_pos a; simp only [sizeC]; omega
theorem Addr.add_plain (g o n : Nat) : (⟨g, o, none⟩ : Addr).add n = ⟨g, o + n, none⟩ := by
  unfold Addr.add
  split
  · rename_i h; subst h; rfl
  · rfl
theorem castL_some {c d : Cd} {l : List (τ c)} {l' : List (τ d)} (h : castL l d = some l') : c = d ∧ HEq l l' := by
  unfold castL at h
  split at h
  · rename_i p _
    obtain ⟨rfl⟩ := p
    exact ⟨rfl, by simpa using h⟩
  · exact absurd h (by simp)
theorem getI_some {α : Type} {l : List α} {i : Int} {a : α} (h : getI l i = some a) : 0 ≤ i ∧ i < l.length ∧ l[i.toNat]? = some a := by
  unfold getI at h
  split at h
  · rename_i hd
    have := of_decide_eq_true hd
    have h1 := (List.getElem?_eq_some_iff.1 h).1
    exact ⟨this, by omega, h⟩
  · exact absurd h (by simp)
theorem subI_some {α : Type} {l r : List α} {lo hi : Int} (h : subI l lo hi = some r) : 0 ≤ lo ∧ lo ≤ hi ∧ hi ≤ l.length ∧ r = (l.drop lo.toNat).take (hi.toNat - lo.toNat) := by
  unfold subI at h
  split at h
  · rename_i hd
    have := of_decide_eq_true hd
    obtain rfl := Option.some.inj h
    exact ⟨this.1, this.2.1, this.2.2, by rw [List.drop_take]⟩
  · exact absurd h (by simp)

/-! ### Data out of cells -/
theorem decC_sound {M : Mem} {e : RR} : ∀ (c : Cd) {cs r : List AV} {a : τ c} {vs : List Value}, decC c cs = some (a, r) → cs.length = vs.length → (∀ (i : Nat) (x : AV) (v : Value), cs[i]? = some x → vs[i]? = some v → VR M e x v) →
    r = cs.drop (sizeC c) ∧ sizeC c ≤ cs.length ∧ ∀ (j : Nat) (z : AV), (cellsC c a)[j]? = some z → ∃ u, vs[j]? = some u ∧ VR M RR.nul z u := by
  intro c
  have one : ∀ {x : AV} {q r : List AV} {y : AV} {vs : List Value}, (x :: r).length = vs.length → (∀ (i : Nat) (x' : AV) (v : Value), (x :: r)[i]? = some x' → vs[i]? = some v → VR M e x' v) →
      (∀ u, VR M e x u → VR M RR.nul y u) → r = (x :: r).drop 1 ∧ 1 ≤ (x :: r).length ∧ ∀ (j : Nat) (z : AV), [y][j]? = some z → ∃ u, vs[j]? = some u ∧ VR M RR.nul z u := by
    intro x q r y vs hl hg hy
    refine ⟨rfl, by simp, fun j z hz => ?_⟩
    match j, hz with
    | 0, hz =>
      obtain rfl := Option.some.inj hz
      cases vs with
      | nil => simp at hl
      | cons u us => exact ⟨u, rfl, hy u (hg 0 x u rfl rfl)⟩
  induction c with
  | u8 =>
    intro cs r a vs h hl hg
    match cs, h with
    | .u8 b :: r', h =>
      obtain ⟨rfl, rfl⟩ := Prod.mk.inj (Option.some.inj h)
      exact one (q := []) hl hg fun u hu => by cases hu; exact .u8
  | int k =>
    intro cs r a vs h hl hg
    match cs, h with
    | .int k' n :: r', h =>
      simp only [decC] at h
      split at h
      · rename_i hk
        obtain rfl := of_decide_eq_true hk
        obtain ⟨rfl, rfl⟩ := Prod.mk.inj (Option.some.inj h)
        exact one (q := []) hl hg fun u hu => by cases hu; exact .int
      · exact absurd h (by simp)
  | bool =>
    intro cs r a vs h hl hg
    match cs, h with
    | .bool b :: r', h =>
      obtain ⟨rfl, rfl⟩ := Prod.mk.inj (Option.some.inj h)
      exact one (q := []) hl hg fun u hu => by cases hu; exact .bool
  | str =>
    intro cs r a vs h hl hg
    match cs, h with
    | .str b :: r', h =>
      obtain ⟨rfl, rfl⟩ := Prod.mk.inj (Option.some.inj h)
      exact one (q := []) hl hg fun u hu => by cases hu with | str h => exact .str h
  | err =>
    intro cs r a vs h hl hg
    match cs, h with
    | .eno n :: r', h =>
      obtain ⟨rfl, rfl⟩ := Prod.mk.inj (Option.some.inj h)
      exact one (q := []) hl hg fun u hu => by
        cases hu with
        | enil => exact .enil
        | eno h => exact .eno h
  | lst c _ =>
    intro cs r a vs h hl hg
    match cs, h with
    | .lst c' l :: r', h =>
      simp only [decC] at h
      split at h
      · rename_i l' hc
        obtain ⟨rfl, hq⟩ := castL_some hc
        obtain rfl := eq_of_heq hq
        obtain ⟨rfl, rfl⟩ := Prod.mk.inj (Option.some.inj h)
        exact one (q := []) hl hg fun u hu => by cases hu with | lst g o f h1 h2 h3 h4 => exact .lst g o f h1 h2 h3 h4
      · exact absurd h (by simp)
    | .nils :: r', h =>
      obtain ⟨rfl, rfl⟩ := Prod.mk.inj (Option.some.inj h)
      exact one (q := []) hl hg fun u hu => by
        cases hu
        exact .lst 0 0 (fun _ _ => undef) rfl (Nat.le_refl _) ⟨fun _ h => by simp at h, fun _ h => by simp at h, fun h => absurd rfl h, fun _ _ _ _ h => by simp at h⟩ (fun _ _ _ _ h => by simp at h)
  | one c ih =>
    intro cs r a vs h hl hg
    exact ih (by simpa only [decC] using h) hl hg
  | pair ca cb iha ihb =>
    intro cs r a vs h hl hg
    simp only [decC] at h
    split at h
    · rename_i x r1 h1
      split at h
      · rename_i y r2 h2
        obtain ⟨rfl, rfl⟩ := Prod.mk.inj (Option.some.inj h)
        obtain ⟨h3, h4, h5⟩ := iha h1 hl hg
        subst h3
        obtain ⟨h6, h7, h8⟩ := ihb (vs := vs.drop (sizeC ca)) h2 (by simp [hl]) (fun i z v hz hv => hg (sizeC ca + i) z v (by simpa [List.getElem?_drop] using hz) (by simpa [List.getElem?_drop] using hv))
        refine ⟨by rw [h6, List.drop_drop]; rfl, by simp only [List.length_drop] at h7; simp only [sizeC]; omega, fun j z hz => ?_⟩
        have hs := (cellsC_spec ca x).1
        simp only [cellsC] at hz
        by_cases hj : j < sizeC ca
        · rw [List.getElem?_append_left (by omega)] at hz
          exact h5 j z hz
        · rw [List.getElem?_append_right (by omega)] at hz
          obtain ⟨u, hu, hv⟩ := h8 _ z hz
          rw [List.getElem?_drop, show sizeC ca + (j - (cellsC ca x).length) = j by omega] at hu
          exact ⟨u, hu, hv⟩
      · exact absurd h (by simp)
    · exact absurd h (by simp)
theorem dec_some {c : Cd} {v : AV} {a : τ c} (h : dec c v = some a) : decC c v.cells = some (a, []) ∧ isAggV v = isAggC c := by
  unfold dec at h
  split at h
  · rename_i h1 h2
    split at h
    · rename_i x hx
      obtain rfl := Option.some.inj h
      exact ⟨hx, h2.trans h1.symm⟩
    · exact absurd h (by simp)
  · rename_i h1 h2
    split at h
    · rename_i x hx
      obtain rfl := Option.some.inj h
      exact ⟨hx, h2.trans h1.symm⟩
    · exact absurd h (by simp)
  · exact absurd h (by simp)
theorem dec_cells {M : Mem} {e : RR} {c : Cd} {v : AV} {a : τ c} {u : Value} (h : dec c v = some a) (hv : VR M e v u) :
    u.cells.size = sizeC c ∧ ∀ (j : Nat) (z : AV), (cellsC c a)[j]? = some z → ∃ x, u.cells[j]? = some x ∧ VR M RR.nul z x := by
  obtain ⟨h1, _⟩ := dec_some h
  have hc := hv.cells
  obtain ⟨h2, h3, h4⟩ := decC_sound (M := M) (e := e) (vs := u.cells.toList) c h1 (by simpa using hc.size) (fun i x w hx hw => hc.get i x w hx (by simpa using hw))
  have h5 := congrArg List.length h2
  simp only [List.length_nil, List.length_drop] at h5
  refine ⟨by rw [← hc.size]; omega, fun j z hz => ?_⟩
  obtain ⟨x, hx, hr⟩ := h4 j z hz
  exact ⟨x, by simpa using hx, hr⟩
theorem dec_vr {M : Mem} {e : RR} {c : Cd} {v : AV} {a : τ c} {u : Value} (h : dec c v = some a) (hv : VR M e v u) : VR M RR.nul (inj c a) u := by
  obtain ⟨h1, h2⟩ := dec_cells h hv
  obtain ⟨h3, h4⟩ := dec_some h
  cases ho : isAggC c with
  | false =>
    rw [ho] at h4
    have hvo : v.one = true := by
      cases v <;> first
        | rfl
        | (cases h4; done)
        | (exfalso; cases c <;> simp [decC, AV.cells] at h3 <;> cases ho)
    have hu := hv.oneCell hvo
    have hci : cellsC c a = [inj c a] := by
      cases c <;> first | rfl | (cases ho; done)
    obtain ⟨x, hx, hr⟩ := h2 0 (inj c a) (by rw [hci]; rfl)
    have : u.cells = #[u] := by cases u <;> first | rfl | (cases hu; done)
    rw [this] at hx
    simp at hx
    subst hx
    exact hr
  | true =>
    have hagg : inj c a = .agg (cellsC c a) := by
      cases c <;> first
        | (cases ho; done)
        | rfl
    rw [hagg]
    rw [ho] at h4
    obtain ⟨cs, rfl⟩ : ∃ cs, v = .agg cs := by
      cases v <;> first
        | (cases h4; done)
        | exact ⟨_, rfl⟩
    cases hv with
    | agg hs hoo hg =>
      refine .agg (by rw [(cellsC_spec c a).1]; exact h1.symm) (cellsC_spec c a).2 fun i x w hx hw => ?_
      obtain ⟨x', h5, h6⟩ := h2 i x hx
      have : some x' = some w := h5.symm.trans hw
      obtain rfl := Option.some.inj this
      exact h6
end Go.Sm
/- What slices hold, in the world; their length; places in them; loads and stores there; parts of them. No condition. -/
set_option linter.unusedVariables false
set_option linter.unusedSimpArgs false
namespace Go.Sm

/-- A list's elements are seen in the world. -/
def Seen (M : Mem) (w : World) (a : Option Addr) (c : Cd) (l : List (τ c)) : Prop :=
  l ≠ [] → ∃ g o, a = some ⟨g, o, none⟩ ∧ ∀ (i j : Nat) (y z : AV), (l.map (inj c))[i]? = some y → y.cells[j]? = some z → ∃ u, w.cell? ⟨g, o + i * sizeC c + j, none⟩ = some u ∧ VR M RR.nul z u
theorem Seen.world {M : Mem} {w w' : World} {a : Option Addr} {c : Cd} {l : List (τ c)} (h : Seen M w a c l) (hw : ∀ i, i < w.heap.size → w'.heap[i]? = w.heap[i]?) : Seen M w' a c l := fun hne => by
  obtain ⟨g, o, h1, h2⟩ := h hne
  refine ⟨g, o, h1, fun i j y z hy hz => ?_⟩
  obtain ⟨u, h3, h4⟩ := h2 i j y z hy hz
  exact ⟨u, by rw [cell?_of_heap (hw g (cell?_lt h3))]; exact h3, h4⟩
theorem Seen.part {M : Mem} {w : World} {a b : Option Addr} {c : Cd} {l : List (τ c)} (h : Seen M w a c l) (lo n : Nat) (hb : ∀ g o, a = some ⟨g, o, none⟩ → (l.drop lo).take n ≠ [] → b = some ⟨g, o + lo * sizeC c, none⟩) : Seen M w b c ((l.drop lo).take n) := fun hne => by
  have hl : l ≠ [] := by rintro rfl; simp at hne
  obtain ⟨g, o, h1, h2⟩ := h hl
  refine ⟨g, _, hb g o h1 hne, fun i j y z hy hz => ?_⟩
  rw [List.getElem?_map] at hy
  have hi : i < n := by
    apply Decidable.byContradiction
    intro hn
    rw [List.getElem?_eq_none (by simp; omega)] at hy
    simp at hy
  rw [List.getElem?_take_of_lt hi, List.getElem?_drop] at hy
  obtain ⟨u, h3, h4⟩ := h2 (lo + i) j y z (by rw [List.getElem?_map]; exact hy) hz
  rw [show o + (lo + i) * sizeC c + j = o + lo * sizeC c + i * sizeC c + j by rw [Nat.add_mul]; omega] at h3
  exact ⟨u, h3, h4⟩
theorem cell_at {c : Cd} {l : List (τ c)} {k : Nat} (hk : k < l.length * sizeC c) : ∃ y z, (l.map (inj c))[k / sizeC c]? = some y ∧ y.cells[k % sizeC c]? = some z ∧ k / sizeC c * sizeC c + k % sizeC c = k := by
  have hs := sizeC_pos c
  have hi : k / sizeC c < l.length := (Nat.div_lt_iff_lt_mul hs).2 hk
  have hj : k % sizeC c < (inj c l[k / sizeC c]).cells.length := by rw [inj_cells, (cellsC_spec c _).1]; exact Nat.mod_lt _ hs
  exact ⟨inj c l[k / sizeC c], _, by simp [hi], List.getElem?_eq_getElem hj, by rw [Nat.mul_comm]; exact Nat.div_add_mod k _⟩
theorem place_lt {c : Cd} {l : List (τ c)} {i j : Nat} {y z : AV} (hy : (l.map (inj c))[i]? = some y) (hz : y.cells[j]? = some z) : i < l.length ∧ j < sizeC c ∧ i * sizeC c + j < l.length * sizeC c := by
  have hi := (List.getElem?_eq_some_iff.1 hy).1
  rw [List.length_map] at hi
  have hj := (List.getElem?_eq_some_iff.1 hz).1
  rw [inj_wide y (List.mem_of_getElem? hy)] at hj
  have : (i + 1) * sizeC c ≤ l.length * sizeC c := Nat.mul_le_mul_right _ hi
  rw [Nat.add_mul] at this
  exact ⟨hi, hj, by omega⟩
/-- The first cells of a slice are read. -/
theorem Seen.read {P : Program} {M : Mem} {w : World} {a : Option Addr} {c : Cd} {l : List (τ c)} (h : Seen M w a c l) (cap : Nat) :
    ∃ cells, (∀ w', (∀ i, i < w.heap.size → w'.heap[i]? = w.heap[i]?) → (Builtin.firstCells (sizeC c) l.length (.slice a l.length cap)).run P w' = .ok cells w') ∧ cells.size = l.length * sizeC c ∧ Holds M c l (fun o => cells[o]?) := by
  by_cases hne : l = []
  · subst hne
    refine ⟨#[], fun w' _ => ?_, by simp, fun _ _ _ _ h => by simp at h⟩
    cases a with
    | none => simp [Builtin.firstCells]
    | some a => simp [Builtin.firstCells, loadCells, loadCellsFrom]
  · obtain ⟨g, o, rfl, h2⟩ := h hne
    have hcell : ∀ k, k < l.length * sizeC c → ∃ u, w.cell? ⟨g, o + k, none⟩ = some u := by
      intro k hk
      obtain ⟨y, z, hy, hz, hkk⟩ := cell_at hk
      obtain ⟨u, hu, _⟩ := h2 _ _ y z hy hz
      rw [Nat.add_assoc, hkk] at hu
      exact ⟨u, hu⟩
    refine ⟨((List.range (l.length * sizeC c)).map fun k => (w.cell? ⟨g, o + k, none⟩).getD undef).toArray, fun w' hw => ?_, by simp, fun i j y z hy hz => ?_⟩
    · refine run_loadCells (P := P) w' ⟨g, o, none⟩ (l.length * sizeC c) (fun k => (w.cell? ⟨g, o + k, none⟩).getD undef) fun k hk => ?_
      obtain ⟨u, hu⟩ := hcell k hk
      rw [Addr.add_plain, cell?_of_heap (hw g (cell?_lt hu)), hu]
      rfl
    · obtain ⟨h3, h4, h5⟩ := place_lt hy hz
      obtain ⟨u, hu, hv⟩ := h2 i j y z hy hz
      refine ⟨u, ?_, hv⟩
      rw [Nat.add_assoc] at hu
      simp [h5, hu]
theorem Holds.oneCells {M : Mem} {c : Cd} {l : List (τ c)} {cells : Array Value} (h : Holds M c l (fun o => cells[o]?)) (hs : cells.size = l.length * sizeC c) : ∀ v ∈ cells.toList, v.oneCell' = true := by
  intro v hv
  obtain ⟨k, hk⟩ := List.mem_iff_getElem?.1 hv
  have hk' : cells[k]? = some v := by simpa using hk
  have hlt : k < l.length * sizeC c := by rw [← hs]; exact (Array.getElem?_eq_some_iff.1 hk').1
  obtain ⟨y, z, hy, hz, hkk⟩ := cell_at hlt
  obtain ⟨u, hu, hr⟩ := h _ _ y z hy hz
  simp only [hkk] at hu
  obtain rfl := Option.some.inj (hk'.symm.trans hu)
  exact hr.oneCell (inj_ones y (List.mem_of_getElem? hy) z (List.mem_of_getElem? hz))
theorem Holds.app {M : Mem} {c : Cd} {xs ys : List (τ c)} {a b : Array Value} (h : Holds M c xs (fun o => a[o]?)) (hs : a.size = xs.length * sizeC c) (k : Holds M c ys (fun o => b[o]?)) : Holds M c (xs ++ ys) (fun o => (a ++ b)[o]?) := by
  intro i j y z hy hz
  rw [List.map_append] at hy
  by_cases hi : i < xs.length
  · rw [List.getElem?_append_left (by simpa using hi)] at hy
    obtain ⟨u, h1, h2⟩ := h i j y z hy hz
    refine ⟨u, ?_, h2⟩
    have : i * sizeC c + j < a.size := (Array.getElem?_eq_some_iff.1 h1).1
    simp only
    rw [Array.getElem?_append_left this]
    exact h1
  · rw [List.getElem?_append_right (by simpa using hi), List.length_map] at hy
    obtain ⟨u, h1, h2⟩ := k (i - xs.length) j y z hy hz
    refine ⟨u, ?_, h2⟩
    have hle : xs.length * sizeC c ≤ i * sizeC c := Nat.mul_le_mul_right _ (by omega)
    simp only
    rw [Array.getElem?_append_right (by rw [hs]; omega), hs]
    rw [Nat.sub_mul] at h1
    rwa [show i * sizeC c + j - xs.length * sizeC c = i * sizeC c - xs.length * sizeC c + j by omega]

section
variable {P : Program} {M : Mem} {e : RR} {H : List AB} {w : World}

/-- The elements of a block. -/
theorem blk_seen (h : HR M e H w) {b v : Nat} {c : Cd} {ice : Bool} {l : List (τ c)} (hb : H[b]? = some (.arr ice v c l)) : e.len b = v ∧ e.cnt b = l.length ∧ (e.g b = none → l = []) ∧
    ∀ gg cc, e.g b = some (gg, cc) → l.length ≤ cc ∧ ∀ (i j : Nat) (y z : AV), (l.map (inj c))[i]? = some y → y.cells[j]? = some z → ∃ u, w.cell? ⟨gg, i * sizeC c + j, none⟩ = some u ∧ VR M RR.nul z u := by
  obtain ⟨h1, h2, h3, h4⟩ := h.blk b _ hb
  refine ⟨h1, h2, fun hg => by rw [hg] at h4; exact h4, fun gg cc hg => ?_⟩
  rw [hg] at h4
  refine ⟨h4.1, fun i j y z hy hz => ?_⟩
  cases ice with
  | true =>
    obtain ⟨u, h5, h6⟩ := h4.2 i j y z hy hz
    exact ⟨u, h.mem _ _ _ h5, h6⟩
  | false =>
    obtain ⟨arr, ty, fz, h5, hf, h6, h7, h8⟩ := h4.2
    obtain ⟨u, h9, h10⟩ := h7 i j y z hy hz
    refine ⟨u, ?_, h10⟩
    simp only at h9
    simp [World.cell?, h5, h9]
theorem slc_seen (h : HR M e H w) {b v : Nat} {c : Cd} {ice : Bool} {l : List (τ c)} (hb : H[b]? = some (.arr ice v c l)) {cv : Value} (hv : VR M e (.slc b v) cv) :
    ∃ a cap, cv = .slice a l.length cap ∧ l.length ≤ cap ∧ Seen M w a c l ∧ (∀ gg cc, e.g b = some (gg, cc) → a = some ⟨gg, 0, none⟩ ∧ cap = cc) ∧ (e.g b = none → l = [] ∧ cap = 0) := by
  obtain ⟨h1, h2, h3, h4⟩ := blk_seen h hb
  cases hv with
  | @slc _ _ _ a n cap hbN haN hle hh =>
    obtain ⟨h5, h6⟩ := hh h1.symm
    rw [h2] at h5
    subst h5
    cases hg : e.g b with
    | none =>
      rw [hg] at h6
      have hl := h3 hg
      subst hl
      exact ⟨a, cap, rfl, by simp, fun hne => absurd rfl hne, fun _ _ hh => (by cases hh), fun _ => ⟨rfl, h6.2⟩⟩
    | some p =>
      obtain ⟨gg, cc⟩ := p
      rw [hg] at h6
      obtain ⟨rfl, rfl⟩ := h6
      obtain ⟨h7, h8⟩ := h4 gg cap hg
      refine ⟨_, cap, rfl, h7, fun _ => ⟨gg, 0, rfl, fun i j y z hy hz => ?_⟩, fun gg' cc' hh => ?_, fun hh => by cases hh⟩
      · rw [Nat.zero_add]; exact h8 i j y z hy hz
      · obtain ⟨rfl, rfl⟩ := Prod.mk.inj (Option.some.inj hh)
        exact ⟨rfl, rfl⟩
theorem sub_seen (h : HR M e H w) {b v i n : Nat} {c : Cd} {ice : Bool} {l : List (τ c)} (hb : H[b]? = some (.arr ice v c l)) {cv : Value} (hv : VR M e (.sub b v (sizeC c) i n) cv) :
    ∃ a cap, cv = .slice a n cap ∧ n ≤ cap ∧ i + n ≤ l.length ∧ Seen M w a c ((l.drop i).take n) ∧ (∀ gg cc, e.g b = some (gg, cc) → i + cap = cc ∧ (0 < cap → a = some ⟨gg, i * sizeC c, none⟩)) := by
  obtain ⟨h1, h2, h3, h4⟩ := blk_seen h hb
  cases hv with
  | @sub _ _ _ _ _ _ a m cap hbN haN hle hh =>
    obtain ⟨h5, h6, h7, h8⟩ := hh h1.symm
    subst h5
    rw [h2] at h6
    refine ⟨a, cap, rfl, h7, h6, fun hne => ?_, h8⟩
    cases hg : e.g b with
    | none =>
      have hl := h3 hg
      subst hl
      simp at hne
    | some p =>
      obtain ⟨gg, cc⟩ := p
      obtain ⟨h9, h10⟩ := h4 gg cc hg
      have hm : 0 < m := by
        apply Decidable.byContradiction
        intro h0
        have : m = 0 := by omega
        subst this
        simp at hne
      refine ⟨gg, i * sizeC c, (h8 gg cc hg).2 (by omega), fun k j y z hy hz => ?_⟩
      have hk := (place_lt hy hz).1
      simp only [List.length_take, List.length_drop] at hk
      rw [List.getElem?_map, List.getElem?_take_of_lt (by omega), List.getElem?_drop] at hy
      obtain ⟨u, h11, h12⟩ := h10 (i + k) j y z (by rw [List.getElem?_map]; exact hy) hz
      rw [Nat.add_mul] at h11
      exact ⟨u, h11, h12⟩
theorem lst_seen (h : HR M e H w) {c : Cd} {l : List (τ c)} {cv : Value} (hv : VR M e (.lst c l) cv) : ∃ a cap, cv = .slice a l.length cap ∧ l.length ≤ cap ∧ Seen M w a c l := by
  cases hv with
  | lst g o f hn hc hl hv =>
    subst hn
    refine ⟨_, _, rfl, hc, fun hne => ⟨g, o, hl.at_ (by simpa using hne), fun i j y z hy hz => ?_⟩⟩
    exact ⟨f i j, h.mem _ _ _ (hl.mem i j y z hy hz), hv i j y z hy hz⟩
def ContSeen (M : Mem) (w : World) (a : Option Addr) (n cap : Nat) : Cont → Prop
  | .nil => n = 0 ∧ cap = 0
  | .of c l => n = l.length ∧ Seen M w a c l
/-- What a slice holds. -/
theorem cont_sound (h : HR M e H w) {x : AV} {y : Cont} (hx : contH H x = some y) {cv : Value} (hv : VR M e x cv) :
    ∃ a n cap, cv = .slice a n cap ∧ n ≤ cap ∧ ContSeen M w a n cap y := by
  unfold contH at hx
  split at hx
  · obtain rfl := Option.some.inj hx
    cases hv
    exact ⟨_, _, _, rfl, Nat.le_refl _, rfl, rfl⟩
  · obtain rfl := Option.some.inj hx
    obtain ⟨a, cap, rfl, h1, h2⟩ := lst_seen h hv
    exact ⟨_, _, _, rfl, h1, rfl, h2⟩
  · split at hx
    · rename_i b v ice v' c l hb
      split at hx
      · rename_i hd
        obtain rfl := of_decide_eq_true hd
        obtain rfl := Option.some.inj hx
        obtain ⟨a, cap, rfl, h1, h2, _⟩ := slc_seen h hb hv
        exact ⟨_, _, _, rfl, h1, rfl, h2⟩
      · exact absurd hx (by simp)
    · exact absurd hx (by simp)
  · split at hx
    · rename_i b v s i n ice v' c l hb
      split at hx
      · rename_i hd
        obtain ⟨rfl, rfl⟩ := of_decide_eq_true hd
        obtain rfl := Option.some.inj hx
        obtain ⟨a, cap, rfl, h1, h2, h3, _⟩ := sub_seen h hb hv
        exact ⟨_, _, _, rfl, h1, by simp; omega, h3⟩
      · exact absurd hx (by simp)
    · exact absurd hx (by simp)
  · exact absurd hx (by simp)
theorem cast_seen {y : Cont} {c : Cd} {l : List (τ c)} {a : Option Addr} {n cap : Nat} (hc : y.cast c = some l) (hy : ContSeen M w a n cap y) : n = l.length ∧ Seen M w a c l := by
  unfold Cont.cast at hc
  split at hc
  · obtain rfl := Option.some.inj hc
    exact ⟨hy.1, fun h => absurd rfl h⟩
  · obtain ⟨rfl, hq⟩ := castL_some hc
    obtain rfl := eq_of_heq hq
    exact hy
theorem curV_some {b v : Nat} (h : curV H b = some v) : ∃ ice c l, H[b]? = some (.arr ice v c l) := by
  unfold curV at h
  split at h
  · rename_i hb
    obtain rfl := Option.some.inj h
    exact ⟨_, _, _, hb⟩
  · exact absurd h (by simp)
theorem lenH_sound (h : HR M e H w) {x : AV} {n : Int} (hx : lenH H x = some n) {cv : Value} (hv : VR M e x cv) : ∃ a m cap, cv = .slice a m cap ∧ n = (m : Nat) := by
  unfold lenH at hx
  split at hx
  · split at hx
    · rename_i b v s i k v' hcur
      split at hx
      · rename_i hd
        obtain rfl := of_decide_eq_true hd
        obtain rfl := Option.some.inj hx
        obtain ⟨ice, c, l, hb⟩ := curV_some hcur
        have h1 := (blk_seen h hb).1
        cases hv with
        | sub hbN haN hle hh => exact ⟨_, _, _, rfl, by rw [(hh h1.symm).1]⟩
      · exact absurd hx (by simp)
    · exact absurd hx (by simp)
  · split at hx
    · rename_i hc
      obtain rfl := Option.some.inj hx
      obtain ⟨a, m, cap, rfl, _, h2⟩ := cont_sound h hc hv
      exact ⟨_, _, _, rfl, by simp [h2.1]⟩
    · rename_i c l hc
      obtain rfl := Option.some.inj hx
      obtain ⟨a, m, cap, rfl, _, h2⟩ := cont_sound h hc hv
      exact ⟨_, _, _, rfl, by simp [h2.1]⟩
    · exact absurd hx (by simp)
theorem len_sound {ty t : TypeId} {x v : AV} {cv : Value} (h : HR M e H w) (hl : lenT P H t x = some v) (hx : VR M e x cv) : ∃ u, (Builtin.len_ #[t] ty #[cv]).run P w = .ok u w ∧ VR M e v u := by
  unfold lenT at hl
  split at hl
  · exact absurd hl (by simp)
  · rename_i ti hT
    obtain ⟨i, d, hty⟩ := mkT_some hT
    split at hl
    · rename_i hk
      have hd := kdOf_str (hty.kd ▸ hk)
      subst hd
      obtain rfl := Option.some.inj hl
      cases hx with
      | @str _ _ b hb =>
        subst hb
        exact ⟨.int .i64 b.size, by simp [Builtin.len_, hty.run_und, goInt], .int⟩
    · rename_i hk
      have hd := kdOf_arr (hty.kd ▸ hk)
      subst hd
      obtain rfl := Option.some.inj hl
      exact ⟨_, by simp [Builtin.len_, hty.run_und, goInt], .int⟩
    · rename_i hk
      have hd := kdOf_slc (hty.kd ▸ hk)
      subst hd
      split at hl
      · rename_i n hn
        obtain rfl := Option.some.inj hl
        obtain ⟨a, m, cap, rfl, rfl⟩ := lenH_sound h hn hx
        exact ⟨_, by simp [Builtin.len_, hty.run_und, goInt], .int⟩
      · exact absurd hl (by simp)
    · exact absurd hl (by simp)
theorem cap_sound {ty t : TypeId} {x v : AV} {cv : Value} (hl : capT P t x = some v) (hx : VR M e x cv) : ∃ u, (Builtin.cap_ #[t] ty #[cv]).run P w = .ok u w ∧ VR M e v u := by
  unfold capT at hl
  split at hl
  · exact absurd hl (by simp)
  · rename_i ti hT
    obtain ⟨i, d, hty⟩ := mkT_some hT
    split at hl
    · rename_i hk
      have hd := kdOf_slc (hty.kd ▸ hk)
      subst hd
      obtain rfl := Option.some.inj hl
      cases hx
      exact ⟨_, by simp [Builtin.cap_, hty.run_und, goInt], .int⟩
    · exact absurd hl (by simp)

/-! ### Places -/
theorem loI_sound {ix : AV} {i : Int} (h : loI (some ix) = some i) {ci : Value} (hv : VR M e ix ci) : ∃ k, ci = .int k i := by
  unfold loI at h
  split at h
  · rename_i hq; cases hq
  · rename_i hq
    obtain rfl := Option.some.inj hq
    obtain rfl := Option.some.inj h
    cases hv
    exact ⟨_, rfl⟩
  · rename_i hq
    obtain rfl := Option.some.inj hq
    obtain rfl := Option.some.inj h
    cases hv
    exact ⟨_, rfl⟩
  · exact absurd h (by simp)
theorem index_run {t el : TypeId} {ei : TI} {inf : TypeInfo} {d : TypeDesc} {ti : TI} {inf' : TypeInfo} (hty : TyAt P t ti inf' (.slice el)) (hty' : TyAt P el ei inf d) {k : IntKind} {i : Int} {g o n cap : Nat} (h0 : 0 ≤ i) (h1 : i < n) :
    (Instr.indexAt t (.slice (some ⟨g, o, none⟩) n cap) (.int k i)).run P w = .ok (.pointer (some ⟨g, o + i.toNat * ei.size, none⟩)) w := by
  simp only [Instr.indexAt, asIntOf, Sem.run_bind, Sem.run_pure, Result.andThen_ok, hty.run_und, Bool.and_false, Sem.run_ite]
  rw [if_pos ⟨h0, h1⟩]
  simp [hty'.run_size, Addr.add_plain]
theorem indexAddr_sound {t : TypeId} {x ix v : AV} {cx ci : Value} (h : HR M e H w) (ha : (indexAddrT P H t x ix).run = some v) (hx : VR M e x cx) (hi : VR M e ix ci) :
    ∃ c, (Instr.indexAt t cx ci).run P w = .ok c w ∧ VR M e v c := by
  unfold indexAddrT at ha
  split at ha
  · exact (run_no ha).elim
  · rename_i ti hT
    obtain ⟨inf, d, hty⟩ := mkT_some hT
    split at ha
    · exact (run_no ha).elim
    · rename_i i hli
      obtain ⟨k, rfl⟩ := loI_sound hli hi
      split at ha
      · rename_i el hk
        have hd := kdOf_slc (hty.kd ▸ hk)
        subst hd
        split at ha
        · exact (run_no ha).elim
        · rename_i ei hE
          obtain ⟨inf', d', hty'⟩ := mkT_some hE
          split at ha
          · rename_i c l
            split at ha
            · rename_i hs
              have hs := of_decide_eq_true hs
              obtain ⟨x, hx1, hx2⟩ := run_bnd ha
              obtain rfl := run_ret hx2
              obtain ⟨h0, h1, h2⟩ := getI_some hx1
              have hy : (l.map (inj c))[i.toNat]? = some (inj c x) := by simp [h2]
              cases hx with
              | lst g o f hn hcap hl hv =>
                subst hn
                have hne : l ≠ [] := by rintro rfl; simp at h2
                have hat := hl.at_ (by simpa using hne)
                subst hat
                refine ⟨_, index_run hty hty' h0 (by omega), ?_⟩
                rw [← hs]
                refine .eptr g _ (f i.toNat) (cellsC_spec c x).2 (fun j z hz => hl.mem i.toNat j _ z hy (by rw [inj_cells]; exact hz)) (fun j z hz => (hv i.toNat j _ z hy (by rw [inj_cells]; exact hz)).of_nul)
            · exact (run_no ha).elim
          · rename_i xs
            split at ha
            · rename_i v0 hv0
              split at ha
              · rename_i hs
                have hs := of_decide_eq_true hs
                obtain rfl := run_ret ha
                obtain ⟨h0, h1, h2⟩ := getI_some hv0
                cases hx with
                | lstp s g o f hn hcap hl hv =>
                  subst hn
                  have hne : xs ≠ [] := by rintro rfl; simp at h2
                  have hat := hl.at_ hne
                  subst hat
                  refine ⟨_, index_run hty hty' h0 (by omega), ?_⟩
                  have hm := List.mem_of_getElem? h2
                  have : s = ei.size := by rw [← hl.wide _ hm, hs]
                  subst this
                  exact .eptr g _ (f i.toNat) (hl.one _ hm) (fun j z hz => hl.mem i.toNat j _ z h2 hz) (fun j z hz => hv i.toNat j _ z h2 hz)
              · exact (run_no ha).elim
            · exact (run_no ha).elim
          · rename_i b v
            split at ha
            · rename_i ice v' c l hb
              split at ha
              · rename_i hd
                obtain ⟨rfl, hs⟩ := of_decide_eq_true hd
                rcases run_ite ha with ⟨hc, ha⟩ | ⟨_, ha⟩
                · have hc := of_decide_eq_true hc
                  obtain rfl := run_ret ha
                  obtain ⟨h1, h2, h3, h4⟩ := blk_seen h hb
                  obtain ⟨a, cap, rfl, h5, h6, h7, h8⟩ := slc_seen h hb hx
                  cases hg : e.g b with
                  | none => have := (h8 hg).1; subst this; simp at hc; omega
                  | some p =>
                    obtain ⟨gg, cc⟩ := p
                    obtain ⟨rfl, rfl⟩ := h7 gg cc hg
                    refine ⟨_, index_run hty hty' hc.1 hc.2, ?_⟩
                    have hbN : b < e.N := by rw [h.N]; exact (List.getElem?_eq_some_iff.1 hb).1
                    exact .elp hbN (h.kind _ _ hb) (by omega) fun _ => ⟨⟨_, hg⟩, by rw [hs]; omega, by rw [h2]; omega⟩
                · exact (run_no ha).elim
              · exact (run_no ha).elim
            · exact (run_no ha).elim
          · rename_i b v s j n
            split at ha
            · rename_i ice v' c l hb
              split at ha
              · rename_i hd
                obtain ⟨rfl, hs, rfl⟩ := of_decide_eq_true hd
                rcases run_ite ha with ⟨hc, ha⟩ | ⟨_, ha⟩
                · have hc := of_decide_eq_true hc
                  obtain rfl := run_ret ha
                  obtain ⟨h1, h2, h3, h4⟩ := blk_seen h hb
                  obtain ⟨a, cap, rfl, h5, h6, h7, h8⟩ := sub_seen h hb hx
                  cases hg : e.g b with
                  | none => have := h3 hg; subst this; simp at h6; omega
                  | some p =>
                    obtain ⟨gg, cc⟩ := p
                    obtain rfl := (h8 gg cc hg).2 (by omega)
                    refine ⟨_, index_run hty hty' hc.1 hc.2, ?_⟩
                    have hbN : b < e.N := by rw [h.N]; exact (List.getElem?_eq_some_iff.1 hb).1
                    refine .elp hbN (h.kind _ _ hb) (by omega) fun _ => ⟨⟨_, hg⟩, by rw [Nat.add_mul, hs]; omega, by rw [h2]; omega⟩
                · exact (run_no ha).elim
              · exact (run_no ha).elim
            · exact (run_no ha).elim
          · exact (run_no ha).elim
      · rename_i n el hk
        have hd := kdOf_arr (hty.kd ▸ hk)
        subst hd
        split at ha
        · rename_i ei b o hE
          obtain ⟨inf', d', hty'⟩ := mkT_some hE
          cases hx with
          | ptr hb =>
            split at ha
            · rename_i hi
              have hi := of_decide_eq_true hi
              obtain rfl := run_ret ha
              refine ⟨_, ?_, .ptr hb⟩
              simp only [Instr.indexAt, asIntOf, Instr.sureAddr, Sem.run_bind, Sem.run_pure, Result.andThen_ok, hty.run_und, Sem.run_ite]
              rw [if_pos hi]
              simp [hty'.run_size, Addr.add_plain]
            · exact (run_no ha).elim
        · exact (run_no ha).elim
      · exact (run_no ha).elim
theorem part_sound {t : TypeId} {ti : TI} (hT : mkT P t = some ti) {cs : List AV} {vs : Array Value} {o : Nat} {v : AV} (hp : partA ti cs o = some v) (ho : ones cs) (hc : CR M e cs vs) :
    ∃ c, (part t vs o).run P w = .ok c w ∧ VR M e v c := by
  obtain ⟨i, d, ht⟩ := mkT_some hT
  unfold partA at hp
  split at hp
  · rename_i hagg
    split at hp
    · rename_i hl
      have hl := of_decide_eq_true hl
      obtain rfl := Option.some.inj hp
      have hoth : ti.kd.isOther = false := by cases hk : ti.kd <;> simp_all [Kd.isAgg, Kd.isOther]
      have hd := hc.drop o ti.size hl
      refine ⟨_, ?_, .agg hd.size (ones_drop ho _ _) hd.get⟩
      simp [part, ht.run_isAgg hoth, hagg, ht.run_size]
    · exact absurd hp (by simp)
  · rename_i hagg
    split at hp
    · exact absurd hp (by simp)
    · rename_i hoth
      obtain ⟨c, hcc, hv⟩ := hc.at hp
      refine ⟨c, ?_, hv⟩
      simp [part, ht.run_isAgg hoth, hagg, hcc]
theorem pickA_run {f : Nat → DT AV} {i : Int} {v : AV} : ∀ {m k : Nat}, (pickA f i m k).run = some v → ∃ j : Nat, k ≤ j ∧ j < k + m ∧ i = (j : Int) ∧ (f j).run = some v
  | 0, k, h => by cases h
  | m + 1, k, h => by
    rcases run_ite h with ⟨h1, h2⟩ | ⟨_, h2⟩
    · exact ⟨k, Nat.le_refl _, by omega, of_decide_eq_true h1, h2⟩
    · obtain ⟨j, h3, h4, h5⟩ := pickA_run h2
      exact ⟨j, by omega, by omega, h5⟩
theorem index_sound {t : TypeId} {x ix v : AV} {cx ci : Value} (ha : (indexT P t x ix).run = some v) (hx : VR M e x cx) (hi : VR M e ix ci) :
    ∃ c, (Instr.index t cx ci).run P w = .ok c w ∧ VR M e v c := by
  unfold indexT at ha
  split at ha
  · exact (run_no ha).elim
  · rename_i ti hT
    obtain ⟨inf, d, hty⟩ := mkT_some hT
    split at ha
    · exact (run_no ha).elim
    · rename_i i hli
      obtain ⟨k, rfl⟩ := loI_sound hli hi
      split at ha
      · rename_i s hk
        have hd := kdOf_str (hty.kd ▸ hk)
        subst hd
        obtain ⟨x, hx1, hx2⟩ := run_bnd ha
        obtain rfl := run_ret hx2
        obtain ⟨h0, h1, h2⟩ := getI_some hx1
        cases hx with
        | @str _ _ b hb =>
          have hs : b.size = s.length := by rw [← hb]; rfl
          have hlt : i.toNat < b.size := by omega
          refine ⟨.int .u8 x.toNat, ?_, .u8⟩
          simp only [Instr.index, asIntOf, Sem.run_bind, Sem.run_pure, Result.andThen_ok, hty.run_und]
          rw [if_pos h0, ByteArray.getElem?_lt' b _ hlt]
          simp only [Sem.run_pure]
          have : b[i.toNat] = x := by
            subst hb
            show b.data[i.toNat] = _
            rw [Array.getElem?_toList, Array.getElem?_eq_getElem hlt] at h2
            exact Option.some.inj h2
          rw [this]
      · rename_i n el cs hk
        have hd := kdOf_arr (hty.kd ▸ hk)
        subst hd
        split at ha
        · rename_i ei hE
          obtain ⟨inf', d', hty'⟩ := mkT_some hE
          have hor : (0 ≤ i ∧ i < n) ∧ partA ei cs (i.toNat * ei.size) = some v := by
            split at ha
            · obtain ⟨j, _, h2, rfl, h4⟩ := pickA_run ha
              exact ⟨by omega, by rw [Int.toNat_natCast]; exact run_ofO h4⟩
            · split at ha
              · rename_i hi
                exact ⟨of_decide_eq_true hi, run_ofO ha⟩
              · exact (run_no ha).elim
          · obtain ⟨hi, ha⟩ := hor
            cases hx with
            | agg hs ho hg =>
              obtain ⟨c, hc, hv⟩ := part_sound (w := w) hE ha ho ⟨hs, hg⟩
              refine ⟨c, ?_, hv⟩
              simp only [Instr.index, asIntOf, Sem.run_bind, Sem.run_pure, Result.andThen_ok, hty.run_und, Sem.run_ite]
              rw [if_pos hi]
              simp only [hty'.run_size, Result.andThen_ok]
              exact hc
        · exact (run_no ha).elim
      · exact (run_no ha).elim
end
end Go.Sm
/- Loads, stores, parts of slices. No condition. -/
set_option linter.unusedVariables false
set_option linter.unusedSimpArgs false
namespace Go.Sm
section
variable {P : Program} {M : Mem} {e : RR} {H : List AB} {w : World}

theorem loadT_sound {t : TypeId} {x v : AV} {cx : Value} (h : HR M e H w) (ha : (loadT P H t x).run = some v) (hx : VR M e x cx) : ∃ c, (Instr.loadAt t cx).run P w = .ok c w ∧ VR M e v c := by
  unfold loadT at ha
  split at ha
  · exact (run_no ha).elim
  · rename_i ti hT
    split at ha
    · rename_i b o
      split at ha
      · rename_i cs hb
        have hp := run_ofO ha
        obtain ⟨ho, arr, ty, h2, h3, h4⟩ := h.blk b _ hb
        cases hx with
        | ptr hbN =>
          have := load_sound (P := P) (M := M) (e := e) (w := w) hT hp ho (g := e.ρ b) (p := 0) (fun j => arr.getD j undef) (fun j y hy => by
            obtain ⟨u, hu, _⟩ := h3.at hy
            simp [World.cell?, h2, hu, Array.getD_eq_getD_getElem?]) (fun j y hy => by
            obtain ⟨u, hu, hvu⟩ := h3.at hy
            rw [Array.getD_eq_getD_getElem?, hu]
            exact hvu)
          simpa [Instr.loadAt, Instr.sureAddr] using this
      · exact (run_no ha).elim
    · rename_i cs
      have hp := run_ofO ha
      cases hx with
      | eptr g p f h1 h2 h3 =>
        have := load_sound (P := P) (M := M) (e := e) (w := w) hT hp h1 (g := g) (p := p) f (fun j y hy => h.mem _ _ _ (h2 j y hy)) h3
        simpa [Instr.loadAt, Instr.sureAddr] using this
    · rename_i b v s i o
      split at ha
      · rename_i ice v' c l hb
        split at ha
        · rename_i hd
          obtain ⟨rfl, rfl⟩ := of_decide_eq_true hd
          obtain ⟨a, hla, ha⟩ := run_bnd ha
          have hp := run_ofO ha
          obtain ⟨h1, h2, h3, h4⟩ := blk_seen h hb
          cases hx with
          | elp hbN haN hle hh =>
            obtain ⟨⟨cc, hg⟩, rfl, hi⟩ := hh h1.symm
            obtain ⟨h5, h6⟩ := h4 _ _ hg
            have hy : (l.map (inj c))[i]? = some (inj c a) := by simp [hla]
            have hcells : ∀ (j : Nat) (z : AV), (cellsC c a)[j]? = some z → ∃ u, w.cell? ⟨_, i * sizeC c + j, none⟩ = some u ∧ VR M RR.nul z u := fun j z hz => h6 i j _ z hy (by rw [inj_cells]; exact hz)
            have := load_sound (P := P) (M := M) (e := e) (w := w) hT hp (cellsC_spec c a).2 (g := _) (p := i * sizeC c) (fun j => (w.cell? ⟨_, i * sizeC c + j, none⟩).getD undef) (fun j y hy => by
              obtain ⟨u, hu, _⟩ := hcells j y hy
              rw [hu]; rfl) (fun j y hy => by
              obtain ⟨u, hu, hvu⟩ := hcells j y hy
              rw [hu]
              exact hvu.of_nul)
            simpa [Instr.loadAt, Instr.sureAddr] using this
        · exact (run_no ha).elim
      · exact (run_no ha).elim
    · exact (run_no ha).elim

theorem isTup_false {y : AV} (h : isTup y = false) : ∀ l, y ≠ .tup l := by
  intro l hl
  subst hl
  cases h
/-- An element of a slice's own memory is written. -/
theorem elem_store (h : HR M e H w) {t : TypeId} {ti : TI} (hT : mkT P t = some ti) {b v : Nat} {c : Cd} {l : List (τ c)} (hb : H[b]? = some (.arr false v c l)) {gg cc : Nat} (hg : e.g b = some (gg, cc)) {i o : Nat} {a a' : τ c} (hla : l[i]? = some a)
    {y : AV} {cy : Value} (hy : VR M e y cy) (hnt : ∀ l, y ≠ .tup l) (hsz : y.cells.length = ti.size) (hos : o + ti.size ≤ sizeC c) (hdec : decC c (setR (cellsC c a) o y.cells) = some (a', [])) :
    ∃ w', (storeVar t ⟨gg, i * sizeC c + o, none⟩ cy).run P w = .ok () w' ∧ Tr M e H w M e (H.set b (.arr false v c (l.set i a'))) w' := by
  obtain ⟨inf, d, hty⟩ := mkT_some hT
  obtain ⟨h1, h2, h3, h4⟩ := h.blk b _ hb
  rw [hg] at h4
  obtain ⟨hlc, arr, ty, fz, h5, hfz, h6, h7, h8⟩ := h4
  have hcy := hy.cells
  have hcs := hcy.size
  have hone := hcy.oneCells (hy.ones hnt)
  have hil : i < l.length := (List.getElem?_eq_some_iff.1 hla).1
  have hrow : (i + 1) * sizeC c ≤ cc * sizeC c := Nat.mul_le_mul_right _ (by omega)
  rw [Nat.add_mul, Nat.one_mul] at hrow
  have hmap : (l.map (inj c))[i]? = some (inj c a) := by simp [hla]
  -- the element's cells, as they lie
  have hel : ∀ (j : Nat) (z : AV), (cellsC c a)[j]? = some z → ∃ u, arr[i * sizeC c + j]? = some u ∧ VR M RR.nul z u := fun j z hz => h7 i j _ z hmap (by rw [inj_cells]; exact hz)
  have hlen := (cellsC_spec c a).1
  let old : List Value := (arr.toList.drop (i * sizeC c)).take (sizeC c)
  have hold : old.length = sizeC c := by simp [old]; omega
  have hcr : CR M e (cellsC c a) old.toArray := by
    refine ⟨by rw [hlen]; simp [hold], fun j z u hz hu => ?_⟩
    obtain ⟨u', hu', hv⟩ := hel j z hz
    have hj : j < sizeC c := by rw [← hlen]; exact (List.getElem?_eq_some_iff.1 hz).1
    simp only [old, List.getElem?_toArray] at hu
    rw [List.getElem?_take_of_lt hj, List.getElem?_drop, Array.getElem?_toList, hu'] at hu
    obtain rfl := Option.some.inj hu
    exact hv.of_nul
  have hset := CR.setR (M := M) (e := e) (cs := cellsC c a) (xs := y.cells) (vs := old) (us := cy.cells.toList) hcr (by simpa using hcy) o
  have hset' : CR M e (setR (cellsC c a) o y.cells) (old.take o ++ (cy.cells.toList ++ old.drop (o + cy.cells.size))).toArray := by simpa using hset
  obtain ⟨_, _, hd3⟩ := decC_sound (M := M) (e := e) (vs := old.take o ++ (cy.cells.toList ++ old.drop (o + cy.cells.size))) c hdec (by have := hset'.size; simpa using this) (fun k x v hx hv => hset'.get k x v hx (by simpa using hv))
  have hother : ∀ k, k ≠ gg → ∀ vs, (w.setRow gg vs).heap[k]? = w.heap[k]? := fun k hk vs => setRow_other w _ k vs hk
  let new : Array Value := (arr.toList.take (i * sizeC c + o) ++ cy.cells.toList ++ arr.toList.drop (i * sizeC c + o + cy.cells.toList.length)).toArray
  have hnew : ∀ k, new[k]? = if k < i * sizeC c + o then arr[k]? else if k < i * sizeC c + o + cy.cells.size then cy.cells[k - (i * sizeC c + o)]? else arr[k]? := by
    intro k
    simp only [new, List.getElem?_toArray]
    split
    · rw [List.append_assoc, List.getElem?_append_left (by simp; omega), List.getElem?_take_of_lt (by omega), Array.getElem?_toList]
    · split
      · rw [List.append_assoc, List.getElem?_append_right (by simp; omega), List.getElem?_append_left (by simp; omega)]
        simp
        congr 1
        omega
      · rw [List.getElem?_append_right (by simp; omega), List.getElem?_drop]
        simp
        congr 1
        omega
  refine ⟨w.setRow gg new, ?_, ?_⟩
  · simp only [storeVar, Sem.run_bind, hty.run_size, Result.andThen_ok]
    rw [if_neg (by omega)]
    have := run_storeCells_fz P gg (i * sizeC c + o) ty fz cy.cells.toList 0 arr w h5 hfz (by simp; omega) (fun v hv' => hone v hv')
    simpa [new] using this
  · refine Tr.upd h hb (Mle.refl _) (RR.le.refl _) rfl (fun _ _ => ⟨rfl, rfl, rfl, rfl, rfl⟩) rfl rfl rfl (by simp) (fun k _ hn => hother k (fun he => hn (by simp [cid, hg, he])) _) (fun _ _ h h' => absurd h h') (fun g p u hu => ?_) (fun k hk => .inl hk) ?_
    · by_cases hgg : g = gg
      · subst hgg
        rw [h8 p] at hu
        exact absurd hu (by simp)
      · rw [cell?_of_heap (hother g hgg _)]
        exact h.mem g p u hu
    · refine ⟨h1, by simp [h2], h3, ?_⟩
      rw [hg]
      have hns : new.size = arr.size := by simp [new]; omega
      refine ⟨by simpa using hlc, new, ty, fz, setRow_heap w gg arr new ty _ h5, by rw [hns]; exact hfz, by rw [hns]; exact h6, fun k j z q hz hq => ?_, h8⟩
      simp only
      rw [hnew]
      rw [List.getElem?_map] at hz
      by_cases hk : k = i
      · subst hk
        rw [List.getElem?_set_self hil] at hz
        obtain rfl := Option.some.inj hz
        rw [inj_cells] at hq
        have hj : j < sizeC c := by rw [← (cellsC_spec c a').1]; exact (List.getElem?_eq_some_iff.1 hq).1
        obtain ⟨u, hu, hv⟩ := hd3 j q hq
        refine ⟨u, ?_, hv⟩
        have hoo : old.take o = (arr.toList.drop (k * sizeC c)).take o := by simp [old, List.take_take]; omega
        split
        · rw [List.getElem?_append_left (by rw [List.length_take, hold]; omega), List.getElem?_take_of_lt (by omega)] at hu
          simp only [old] at hu
          rw [List.getElem?_take_of_lt hj, List.getElem?_drop, Array.getElem?_toList] at hu
          exact hu
        · split
          · rw [List.getElem?_append_right (by rw [List.length_take, hold]; omega), List.length_take, hold, List.getElem?_append_left (by simp; omega)] at hu
            rw [show k * sizeC c + j - (k * sizeC c + o) = j - min o (sizeC c) by omega]
            simpa using hu
          · rename_i hn1 hn2
            rw [List.getElem?_append_right (by rw [List.length_take, hold]; omega), List.length_take, hold, List.getElem?_append_right (by simp; omega), List.getElem?_drop] at hu
            rw [show o + cy.cells.size + (j - min o (sizeC c) - cy.cells.toList.length) = j by simp; omega] at hu
            simp only [old] at hu
            rw [List.getElem?_take_of_lt hj, List.getElem?_drop, Array.getElem?_toList] at hu
            exact hu
      · rw [List.getElem?_set_ne (fun h => hk h.symm)] at hz
        obtain ⟨u, hu, hv⟩ := h7 k j z q (by rw [List.getElem?_map]; exact hz) hq
        refine ⟨u, ?_, hv⟩
        obtain ⟨h9, h10, h11⟩ := place_lt (l := l) (by rw [List.getElem?_map]; exact hz) hq
        rcases Nat.lt_or_gt_of_ne hk with hlt | hgt
        · have : (k + 1) * sizeC c ≤ i * sizeC c := Nat.mul_le_mul_right _ hlt
          rw [Nat.add_mul] at this
          rw [if_pos (by omega)]
          exact hu
        · have : (i + 1) * sizeC c ≤ k * sizeC c := Nat.mul_le_mul_right _ hgt
          rw [Nat.add_mul] at this
          rw [if_neg (by omega), if_neg (by omega)]
          exact hu
theorem storeT_sound {t : TypeId} {x y v : AV} {H' : List AB} {cx cy : Value} (h : HR M e H w) (ha : (storeT P H t x y).run = some (v, H')) (hx : VR M e x cx) (hy : VR M e y cy) :
    ∃ w', (Instr.storeAt t cx cy).run P w = .ok () w' ∧ Tr M e H w M e H' w' ∧ v = .tup [] := by
  unfold storeT at ha
  split at ha
  · rename_i ti hT hnt
    have hnt := isTup_false hnt
    split at ha
    · rename_i b o
      split at ha
      · rename_i cs hb
        split at ha
        · rename_i hd
          obtain ⟨h1, h2⟩ := of_decide_eq_true hd
          obtain ⟨rfl, rfl⟩ := Prod.mk.inj (run_ret ha)
          cases hx with
          | ptr hbN =>
            obtain ⟨w', hr, hT'⟩ := store_sound (P := P) h hT hb hy hnt h1 h2
            exact ⟨w', by simp [Instr.storeAt, Instr.sureAddr, hr], hT', rfl⟩
        · exact (run_no ha).elim
      · exact (run_no ha).elim
    · rename_i b v0 s i o
      split at ha
      · rename_i v' c l hb
        split at ha
        · rename_i hd
          obtain ⟨rfl, rfl, h1, h2⟩ := of_decide_eq_true hd
          obtain ⟨a, hla, ha⟩ := run_bnd ha
          split at ha
          · rename_i a' hdec
            obtain ⟨rfl, rfl⟩ := Prod.mk.inj (run_ret ha)
            have hbv := (blk_seen h hb).1
            cases hx with
            | elp hbN haN hle hh =>
              obtain ⟨⟨cc, hg⟩, rfl, hi⟩ := hh hbv.symm
              obtain ⟨w', hr, hT'⟩ := elem_store (P := P) h hT hb hg hla hy hnt h1 h2 hdec
              exact ⟨w', by simp [Instr.storeAt, Instr.sureAddr, hr], hT', rfl⟩
          · exact (run_no ha).elim
        · exact (run_no ha).elim
      · exact (run_no ha).elim
    · exact (run_no ha).elim
  · exact (run_no ha).elim

/-! ### Parts of slices -/
def OVR (M : Mem) (e : RR) : Option AV → Option Value → Prop
  | none, none => True
  | some x, some c => VR M e x c
  | _, _ => False
theorem loO_sound {lo : Option AV} {i : Int} (h : loI lo = some i) {c : Option Value} (hv : OVR M e lo c) : (c = none ∧ i = 0) ∨ ∃ k, c = some (.int k i) := by
  cases lo with
  | none =>
    cases c with
    | none => obtain rfl := Option.some.inj h; exact .inl ⟨rfl, rfl⟩
    | some _ => exact hv.elim
  | some x =>
    cases c with
    | none => exact hv.elim
    | some u =>
      obtain ⟨k, rfl⟩ := loI_sound h hv
      exact .inr ⟨k, rfl⟩
theorem hiO_sound {n : Int} {hi : Option AV} {i : Int} (h : hiI n hi = some i) {c : Option Value} (hv : OVR M e hi c) : (c = none ∧ i = n) ∨ ∃ k, c = some (.int k i) := by
  cases hi with
  | none =>
    cases c with
    | none => obtain rfl := Option.some.inj h; exact .inl ⟨rfl, rfl⟩
    | some _ => exact hv.elim
  | some x =>
    cases c with
    | none => exact hv.elim
    | some u =>
      have h' : loI (some x) = some i := by
        cases x <;> first | exact h | (simp [hiI] at h)
      obtain ⟨k, rfl⟩ := loI_sound h' hv
      exact .inr ⟨k, rfl⟩
theorem bounds_sound {n cap : Nat} (hcap : n ≤ cap) (sl : Bool) {lo hi : Option AV} {a z : Int} (hl : loI lo = some a) (hh : hiI n hi = some z) (h0 : 0 ≤ a) (h1 : a ≤ z) (h2 : z ≤ n) {clo chi : Option Value}
    (hlo : OVR M e lo clo) (hhi : OVR M e hi chi) : (Instr.sliceBounds sl n cap clo chi none).run P w = .ok (a.toNat, z.toNat, cap) w := by
  rcases loO_sound hl hlo with ⟨rfl, rfl⟩ | ⟨k, rfl⟩ <;> rcases hiO_sound hh hhi with ⟨rfl, rfl⟩ | ⟨k', rfl⟩
  · simp [Instr.sliceBounds]
  · simp only [Instr.sliceBounds, Instr.sliceBound, asIntOf, Sem.run_bind, Sem.run_pure, Result.andThen_ok, Sem.run_ite]
    rw [if_pos (by omega)]
    rfl
  · simp only [Instr.sliceBounds, Instr.sliceBound, asIntOf, Sem.run_bind, Sem.run_pure, Result.andThen_ok, Sem.run_ite]
    rw [if_pos (by omega)]
    simp
  · simp only [Instr.sliceBounds, Instr.sliceBound, asIntOf, Sem.run_bind, Sem.run_pure, Result.andThen_ok, Sem.run_ite]
    rw [if_pos (by omega)]
    simp only [Result.andThen_ok]
    rw [if_pos (by omega)]
    rfl
theorem partL_run {α : Type} {l : List α} {lo hi : Option AV} {K : List α → DT AV} {r : AV} (h : (partL l lo hi K).run = some r) :
    ∃ a z, loI lo = some a ∧ hiI l.length hi = some z ∧ 0 ≤ a ∧ a ≤ z ∧ z ≤ l.length ∧ (K ((l.drop a.toNat).take (z.toNat - a.toNat))).run = some r := by
  unfold partL at h
  split at h
  · refine ⟨0, l.length, rfl, rfl, Int.le_refl _, by omega, Int.le_refl _, ?_⟩
    simpa using h
  · split at h
    · rename_i a ha
      split at h
      · rename_i z hz
        obtain ⟨x, hx, h⟩ := run_bnd h
        obtain ⟨h1, h2, h3, rfl⟩ := subI_some hx
        exact ⟨a, z, ha, hz, h1, h2, h3, h⟩
      · exact (run_no h).elim
    · exact (run_no h).elim
theorem slice_run {t el : TypeId} {ti ei : TI} {inf inf' : TypeInfo} {d' : TypeDesc} (hty : TyAt P t ti inf (.slice el)) (hty' : TyAt P el ei inf' d') {a : Option Addr} {n cap : Nat} {clo chi : Option Value} {l z : Nat}
    (hb : (Instr.sliceBounds true n cap clo chi none).run P w = .ok (l, z, cap) w) :
    (Instr.sliceAt t (.slice a n cap) clo chi none).run P w = .ok (.slice (if cap = l then a else a.map (·.add (l * ei.size))) (z - l) (cap - l)) w := by
  simp only [Instr.sliceAt, Sem.run_bind, hty.run_und, Result.andThen_ok, Instr.slice, hb, hty'.run_size, Sem.run_pure]
theorem Lies.part {a : Option Addr} {xs : List AV} {s g o : Nat} {f : Nat → Nat → Value} (hl : Lies M a xs s g o f) (l n : Nat) (b : Option Addr) (hb : (xs.drop l).take n ≠ [] → b = some ⟨g, o + l * s, none⟩) :
    Lies M b ((xs.drop l).take n) s g (o + l * s) (fun i j => f (l + i) j) where
  wide y hy := hl.wide y (List.mem_of_mem_drop (List.mem_of_mem_take hy))
  one y hy := hl.one y (List.mem_of_mem_drop (List.mem_of_mem_take hy))
  at_ := hb
  mem i j y z hy hz := by
    have hi : i < n := by
      have := (List.getElem?_eq_some_iff.1 hy).1
      simp at this
      omega
    rw [List.getElem?_take_of_lt hi, List.getElem?_drop] at hy
    have := hl.mem (l + i) j y z hy hz
    rwa [show o + l * s + i * s + j = o + (l + i) * s + j by rw [Nat.add_mul]; omega]
theorem sliceT_sound {t : TypeId} {x v : AV} {lo hi : Option AV} {cx : Value} {clo chi : Option Value} (h : HR M e H w) (ha : (sliceT P H t x lo hi).run = some v) (hx : VR M e x cx)
    (hlo : OVR M e lo clo) (hhi : OVR M e hi chi) : ∃ c, (Instr.sliceAt t cx clo chi none).run P w = .ok c w ∧ VR M e v c := by
  unfold sliceT at ha
  split at ha
  · exact (run_no ha).elim
  · rename_i ti hT
    obtain ⟨inf, d, hty⟩ := mkT_some hT
    split at ha
    · rename_i s hk
      have hd := kdOf_str (hty.kd ▸ hk)
      subst hd
      obtain ⟨a, z, h1, h2, h3, h4, h5, ha⟩ := partL_run ha
      obtain rfl := run_ret ha
      cases hx with
      | @str _ _ b hbs =>
        have hs : b.size = s.length := by rw [← hbs]; rfl
        have hb := bounds_sound (P := P) (w := w) (Nat.le_refl s.length) false h1 h2 h3 h4 h5 hlo hhi
        refine ⟨.string (b.extract a.toNat z.toNat), ?_, .str (by rw [Lib.extract_data, hbs])⟩
        simp only [Instr.sliceAt, Sem.run_bind, hty.run_und, Result.andThen_ok, Instr.slice, hs, hb, Option.isSome_none, Bool.false_eq_true, if_false, Sem.run_pure]
    · rename_i el hk
      have hd := kdOf_slc (hty.kd ▸ hk)
      subst hd
      split at ha
      · exact (run_no ha).elim
      · rename_i ei hE
        obtain ⟨inf', d', hty'⟩ := mkT_some hE
        split at ha
        · split at ha
          · rename_i a z h1 h2
            rcases run_ite ha with ⟨hc, ha⟩ | ⟨_, ha⟩
            · obtain ⟨rfl, rfl⟩ := of_decide_eq_true hc
              obtain rfl := run_ret ha
              cases hx
              have hb := bounds_sound (P := P) (w := w) (n := 0) (Nat.le_refl 0) true h1 h2 (Int.le_refl 0) (Int.le_refl 0) (Int.le_refl 0) hlo hhi
              exact ⟨_, slice_run hty hty' hb, .nils⟩
            · exact (run_no ha).elim
          · exact (run_no ha).elim
        · rename_i c l
          split at ha
          · rename_i hs
            have hs := of_decide_eq_true hs
            obtain ⟨a, z, h1, h2, h3, h4, h5, ha⟩ := partL_run ha
            obtain rfl := run_ret ha
            cases hx with
            | @lst _ _ _ ad n cap g o f hn hcap hl hv =>
              subst hn
              have hb := bounds_sound (P := P) (w := w) hcap true h1 h2 h3 h4 h5 hlo hhi
              refine ⟨_, slice_run hty hty' hb, ?_⟩
              have hm : (((l.drop a.toNat).take (z.toNat - a.toNat)).map (inj c)) = ((l.map (inj c)).drop a.toNat).take (z.toNat - a.toNat) := by rw [List.map_take, List.map_drop]
              refine .lst g (o + a.toNat * sizeC c) (fun i j => f (a.toNat + i) j) (by simp; omega) (by omega) ?_ fun i j y u hy hu => ?_
              · rw [hm]
                refine hl.part _ _ _ fun hne => ?_
                have hll : l ≠ [] := by rintro rfl; simp at hne
                have hlt : a.toNat < l.length := by
                  apply Decidable.byContradiction
                  intro hge
                  apply hne
                  rw [List.drop_eq_nil_of_le (by simp; omega), List.take_nil]
                rw [if_neg (by omega), hl.at_ (by simpa using hll), hs]
                simp [Addr.add_plain]
              · rw [hm] at hy
                have hi : i < z.toNat - a.toNat := by
                  have := (List.getElem?_eq_some_iff.1 hy).1
                  simp at this
                  omega
                rw [List.getElem?_take_of_lt hi, List.getElem?_drop] at hy
                exact hv (a.toNat + i) j y u hy hu
          · exact (run_no ha).elim
        · rename_i b v0
          split at ha
          · rename_i ice v' c l hbk
            split at ha
            · rename_i hd
              obtain ⟨rfl, hs⟩ := of_decide_eq_true hd
              have hx0 := hx
              obtain ⟨ad, cap, rfl, h6, h7, h8, h9⟩ := slc_seen h hbk hx
              have hbN : b < e.N := by rw [h.N]; exact (List.getElem?_eq_some_iff.1 hbk).1
              obtain ⟨hl1, hl2, hl3, hl4⟩ := blk_seen h hbk
              split at ha
              · obtain rfl := run_ret ha
                have hb := bounds_sound (P := P) (w := w) (lo := none) (hi := none) h6 true rfl rfl (Int.le_refl 0) (by omega) (Int.le_refl _) hlo hhi
                refine ⟨_, slice_run hty hty' hb, ?_⟩
                have hq : (if cap = (0 : Int).toNat then ad else ad.map (·.add ((0 : Int).toNat * ei.size))) = ad := by
                  split
                  · rfl
                  · cases ad <;> simp [Addr.add]
                rw [hq]
                simpa using hx0
              · split at ha
                · rename_i a z h1 h2
                  rcases run_ite ha with ⟨hc, ha⟩ | ⟨_, ha⟩
                  · obtain ⟨h3, h4, h5⟩ := of_decide_eq_true hc
                    obtain rfl := run_ret ha
                    have hb := bounds_sound (P := P) (w := w) h6 true h1 h2 h3 h4 h5 hlo hhi
                    refine ⟨_, slice_run hty hty' hb, .sub hbN (h.kind _ _ hbk) (by omega) fun _ => ⟨by omega, by rw [hl2]; omega, by omega, fun gg cc hg => ?_⟩⟩
                    obtain ⟨rfl, rfl⟩ := h8 gg cc hg
                    refine ⟨by omega, fun hpos => ?_⟩
                    rw [if_neg (by omega)]
                    simp [Addr.add_plain, hs]
                  · exact (run_no ha).elim
                · exact (run_no ha).elim
            · exact (run_no ha).elim
          · exact (run_no ha).elim
        · rename_i b v0 s i n
          split at ha
          · rename_i ice v' c l hbk
            split at ha
            · rename_i hd
              obtain ⟨rfl, hs, rfl⟩ := of_decide_eq_true hd
              obtain ⟨ad, cap, rfl, h6, h7, h8, h9⟩ := sub_seen h hbk hx
              have hbN : b < e.N := by rw [h.N]; exact (List.getElem?_eq_some_iff.1 hbk).1
              obtain ⟨hl1, hl2, hl3, hl4⟩ := blk_seen h hbk
              split at ha
              · rename_i a z h1 h2
                rcases run_ite ha with ⟨hc, ha⟩ | ⟨_, ha⟩
                · obtain ⟨h3, h4, h5⟩ := of_decide_eq_true hc
                  obtain rfl := run_ret ha
                  have hb := bounds_sound (P := P) (w := w) h6 true h1 h2 h3 h4 h5 hlo hhi
                  refine ⟨_, slice_run hty hty' hb, .sub hbN (h.kind _ _ hbk) (by omega) fun _ => ⟨by omega, by rw [hl2]; omega, by omega, fun gg cc hg => ?_⟩⟩
                  obtain ⟨h10, h11⟩ := h9 gg cc hg
                  refine ⟨by omega, fun hpos => ?_⟩
                  have := h11 (by omega)
                  subst this
                  rw [if_neg (by omega)]
                  simp [Addr.add_plain, hs, Nat.add_mul]
                · exact (run_no ha).elim
              · exact (run_no ha).elim
            · exact (run_no ha).elim
          · exact (run_no ha).elim
        · exact (run_no ha).elim
    · exact (run_no ha).elim
theorem slice0_sound {t : TypeId} {x v : AV} {hi mx : Option AV} {cx : Value} {chi cmx : Option Value} (h : HR M e H w) (ha : (slice0T P H t x hi mx).run = some v) (hx : VR M e x cx)
    (hhi : OVR M e hi chi) (hmx : OVR M e mx cmx) : ∃ c, (Instr.sliceAt t cx none chi cmx).run P w = .ok c w ∧ VR M e v c := by
  unfold slice0T at ha
  split at ha
  · rename_i ti k1 a k2 b hT
    obtain ⟨inf, d, hty⟩ := mkT_some hT
    split at ha
    · rename_i el hk
      have hd := kdOf_slc (hty.kd ▸ hk)
      subst hd
      split at ha
      · exact (run_no ha).elim
      · rename_i ei hE
        obtain ⟨inf', d', hty'⟩ := mkT_some hE
        split at ha
        · rename_i y hc
          rcases run_ite ha with ⟨h0, ha⟩ | ⟨_, ha⟩
          · obtain ⟨rfl, rfl⟩ := of_decide_eq_true h0
            obtain rfl := run_ret ha
            obtain ⟨ad, n, cap, rfl, _⟩ := cont_sound h hc hx
            cases chi with
            | none => exact hhi.elim
            | some u =>
              cases cmx with
              | none => exact hmx.elim
              | some u' =>
                cases hhi
                cases hmx
                refine ⟨.slice ad 0 0, ?_, .nils⟩
                simp [Instr.sliceAt, hty.run_und, Instr.slice, Instr.sliceBounds, Instr.sliceBound, asIntOf, hty'.run_size]
          · exact (run_no ha).elim
        · exact (run_no ha).elim
    · exact (run_no ha).elim
  · exact (run_no ha).elim
end
end Go.Sm
/- Operators, assertions, small operations. No condition. -/
set_option linter.unusedVariables false
set_option linter.unusedSimpArgs false
namespace Go.Sm
theorem beq_dec (a b : List UInt8) : (a == b) = decide (a = b) := by rw [Bool.eq_iff_iff]; simp
theorem toList_data (b : ByteArray) : b.toList = b.data.toList := ByteArray.toList_eq b
theorem u8_int (a b : UInt8) : (((a.toNat : Int) = (b.toNat : Int)) ↔ a = b) := by
  constructor
  · intro h; exact UInt8.toNat_inj.1 (by omega)
  · rintro rfl; rfl

section
variable {P : Program} {M : Mem} {e : RR} {w : World}

theorem eqV_sound : ∀ (d : Nat) {t : TypeId} {x y : AV} {b : Bool} {cx cy : Value}, eqV P d t x y = some b → VR M e x cx → VR M e y cy → ∀ D, d ≤ D → (Op.equalIn D t cx cy).run P w = .ok b w
  | 0, _, _, _, _, _, _, h, _, _, _, _ => by simp [eqV] at h
  | d + 1, t, x, y, b, cx, cy, h, hx, hy, D, hD => by
    obtain ⟨D, rfl⟩ : ∃ k, D = k + 1 := ⟨D - 1, by omega⟩
    rw [eqV] at h
    split at h
    · exact absurd h (by simp)
    · rename_i ti hT
      obtain ⟨inf, ds, hty⟩ := mkT_some hT
      split at h
      · rename_i hk
        have hd := kdOf_bool (hty.kd ▸ hk)
        subst hd
        obtain rfl := Option.some.inj h
        cases hx; cases hy
        simp [Op.equalIn, hty.run_und]
      · rename_i hk
        have hd := kdOf_int (hty.kd ▸ hk)
        subst hd
        split at h
        · rename_i hkk
          have hkk := of_decide_eq_true hkk
          obtain rfl := Option.some.inj h
          cases hx; cases hy
          simp only [Op.equalIn, hty.run_und, Sem.run_bind, Result.andThen_ok, Sem.run_ite]
          rw [if_pos hkk]
          rfl
        · exact absurd h (by simp)
      · rename_i a b hk
        have hd := kdOf_int (hty.kd ▸ hk)
        subst hd
        obtain rfl := Option.some.inj h
        cases hx; cases hy
        simp only [Op.equalIn, hty.run_und, Sem.run_bind, Result.andThen_ok, Sem.run_ite, if_true]
        have : ((a.toNat : Int) == (b.toNat : Int)) = decide (a = b) := by
          rw [Bool.eq_iff_iff, beq_iff_eq, decide_eq_true_eq]
          exact u8_int a b
        rw [this]
        rfl
      · rename_i hk
        have hd := kdOf_str (hty.kd ▸ hk)
        subst hd
        obtain rfl := Option.some.inj h
        cases hx with
        | @str _ _ bx hbx => cases hy with
          | @str _ _ by_ hby =>
            rw [run_equalIn_string w D t bx by_ hty.und, toList_data, toList_data, hbx, hby, beq_dec]
      · rename_i hk
        have hd := kdOf_ptr (hty.kd ▸ hk)
        subst hd
        obtain rfl := Option.some.inj h
        cases hx; cases hy
        simp [Op.equalIn, hty.run_und]
      · rename_i hk
        have hd := kdOf_ptr (hty.kd ▸ hk)
        subst hd
        obtain rfl := Option.some.inj h
        cases hx; cases hy
        simp [Op.equalIn, hty.run_und]
      · rename_i hk
        have hd := kdOf_ptr (hty.kd ▸ hk)
        subst hd
        obtain rfl := Option.some.inj h
        cases hx; cases hy
        simp [Op.equalIn, hty.run_und]
      · rename_i hk
        have hd := kdOf_ptr (hty.kd ▸ hk)
        subst hd
        obtain rfl := Option.some.inj h
        cases hx; cases hy
        simp [Op.equalIn, hty.run_und]
      · rename_i hk
        have hd := kdOf_ptr (hty.kd ▸ hk)
        subst hd
        obtain rfl := Option.some.inj h
        cases hx; cases hy
        simp [Op.equalIn, hty.run_und]
      · rename_i fs xs ys hk
        obtain ⟨fields, hd, hnm, hfs⟩ := kdOf_strct (hty.kd ▸ hk)
        subst hd
        split at h
        · rename_i hok
          rw [hty.eqok] at hok
          simp only [eqokOf, Bool.and_eq_true, Bool.not_eq_true'] at hok
          have hfo : P.fieldsOf t = fields := by simp [Program.fieldsOf, hty.und]
          cases hx with
          | @agg _ _ vx hsx hox hgx => cases hy with
            | @agg _ _ vy hsy hoy hgy =>
              rw [run_equalIn_struct w D t vx vy (by rw [hfo]; exact hty.und) hok.1, hfo]
              have key : ∀ (l : List Field) (b : Bool), (∀ f ∈ l, f.name ≠ "_") → eqV.eqFs P (eqV P d) (l.map fun f => (f.type, f.offset, P.cellsOf f.type)) xs ys = some b →
                  (Op.eqFields D vx vy l).run P w = .ok b w := by
                intro l
                induction l with
                | nil => intro b _ hb; simp only [List.map_nil, eqV.eqFs] at hb; obtain rfl := Option.some.inj hb; simp [Op.eqFields]
                | cons f r ih =>
                  intro b hn hb
                  simp only [List.map_cons, eqV.eqFs] at hb
                  split at hb
                  · exact absurd hb (by simp)
                  · rename_i fi hF
                    split at hb
                    · rename_i px hpx
                      split at hb
                      · rename_i py hpy
                        split at hb
                        · rename_i b1 hb1
                          split at hb
                          · rename_i b2 hb2
                            obtain rfl := Option.some.inj hb
                            obtain ⟨c1, hc1, hv1⟩ := part_sound (w := w) hF hpx hox ⟨hsx, hgx⟩
                            obtain ⟨c2, hc2, hv2⟩ := part_sound (w := w) hF hpy hoy ⟨hsy, hgy⟩
                            have hq := eqV_sound d hb1 hv1 hv2 D (by omega)
                            simp only [Op.eqFields]
                            rw [if_pos (hn f (by simp))]
                            simp only [Sem.run_bind, hc1, Result.andThen_ok, hc2, hq, Sem.run_ite]
                            cases b1
                            · simp
                            · simpa using ih b2 (fun g hg => hn g (by simp [hg])) hb2
                          · exact absurd hb (by simp)
                        · exact absurd hb (by simp)
                      · exact absurd hb (by simp)
                    · exact absurd hb (by simp)
              subst hfs
              exact key fields.toList b (fun f hf => (hnm f (by simpa using hf)).1) h
        · exact absurd h (by simp)
      · exact absurd h (by simp)

/-- Two values that have an '=='. -/
theorem eqV_run {t : TypeId} {x y : AV} {b : Bool} {cx cy : Value} (h : eqV P 100 t x y = some b) (hx : VR M e x cx) (hy : VR M e y cy) (xo yo : Operand) :
    (do eqGuard .eql t xo yo cx cy; binOp .eql t cx cy : Sem Value).run P w = .ok (.bool b) w ∧ (do eqGuard .neq t xo yo cx cy; binOp .neq t cx cy : Sem Value).run P w = .ok (.bool !b) w := by
  have hq : (Op.equal t cx cy).run P w = .ok b w := eqV_sound 100 h hx hy Op.maxDepth (by decide)
  have h0 := h
  rw [eqV] at h
  split at h
  · exact absurd h (by simp)
  · rename_i ti hT
    obtain ⟨inf, ds, hty⟩ := mkT_some hT
    split at h
    case h_10 =>
      rename_i fs xs ys hk
      split at h
      · rename_i hok
        obtain ⟨fields, hd, hnm, hfs⟩ := kdOf_strct (hty.kd ▸ hk)
        subst hd
        rw [hty.eqok] at hok
        simp only [eqokOf, Bool.and_eq_true, Bool.not_eq_true'] at hok
        cases hx; cases hy
        constructor <;> simp [eqGuard, binOp, hok.2, hq]
      · exact absurd h (by simp)
    case h_2 =>
      rename_i hk
      split at h
      · rename_i hkk
        obtain rfl := of_decide_eq_true hkk
        cases hx; cases hy
        obtain rfl := Option.some.inj h
        constructor <;> simp [eqGuard, binOp, Op.intCmp] <;> rfl
      · exact absurd h (by simp)
    case h_3 =>
      rename_i a b' hk
      cases hx; cases hy
      obtain rfl := Option.some.inj h
      have h1 : ((a.toNat : Int) == (b'.toNat : Int)) = decide (a = b') := by
        rw [Bool.eq_iff_iff, beq_iff_eq, decide_eq_true_eq]
        exact u8_int a b'
      constructor <;> simp only [eqGuard, binOp, Op.intCmp] <;> simp [bne, h1]
    case h_4 =>
      cases hx with
      | @str _ _ bx hbx => cases hy with
        | @str _ _ by_ hby =>
          obtain rfl := Option.some.inj h
          constructor <;> simp [eqGuard, binOp, Op.stringOp, toList_data, hbx, hby, beq_dec]
    case h_11 => exact absurd h (by simp)
    all_goals
      cases hx; cases hy
      constructor <;> simp [eqGuard, binOp, hq]

theorem errOk_some (h : errOk P = true) : ∃ i, P.info? errT = some i ∧ P.underlying errT = some (.int .i64) ∧ i.comparable = true := by
  unfold errOk at h
  split at h
  · rename_i i hi hu
    exact ⟨i, hi, hu, h⟩
  · cases h
theorem isIfc_some {t : TypeId} (h : isIfc P t = true) : ∃ ti inf ms, TyAt P t ti inf (.interface ms) := by
  unfold isIfc at h
  split at h
  · rename_i ti hT
    obtain ⟨inf, d, hty⟩ := mkT_some hT
    split at h
    · rename_i hk
      obtain ⟨ms, rfl⟩ := kdOf_ifc (hty.kd ▸ hk)
      exact ⟨ti, inf, ms, hty⟩
    · cases h
  · cases h
theorem eno_equal {t : TypeId} (ho : errOk P = true) (hi : isIfc P t = true) {a b : Int} {cx cy : Value} (hx : VR M e (.eno a) cx) (hy : VR M e (.eno b) cy) : (Op.equal t cx cy).run P w = .ok (decide (a = b)) w := by
  obtain ⟨i, h1, h2, h3⟩ := errOk_some ho
  obtain ⟨ti, inf, ms, hty⟩ := isIfc_some hi
  have hu : ∀ D, (Op.equalIn (D + 1) errT (.int .i64 a) (.int .i64 b)).run P w = .ok (decide (a = b)) w := fun D => by
    have hun : (underlying errT).run P w = .ok (.int .i64) w := by simp [underlying, h2]
    simp only [Op.equalIn, hun, Sem.run_bind, Result.andThen_ok, Sem.run_pure, Sem.run_ite, if_true]
    rfl
  have key : ∀ D, (Op.equalIn (D + 2) t cx cy).run P w = .ok (decide (a = b)) w := by
    intro D
    cases hx with
    | enil =>
      cases hy with
      | enil => simp [Op.equalIn, hty.run_und]
      | eno hb => have : ¬ (0 : Int) = b := fun h => hb h.symm; simp [Op.equalIn, hty.run_und, this]
    | eno ha =>
      cases hy with
      | enil => simp [Op.equalIn, hty.run_und, ha]
      | eno hb =>
        have h4 : (typeInfo errT).run P w = .ok i w := by simp [typeInfo, h1]
        rw [Op.equalIn]
        simp only [Sem.run_bind, hty.run_und, Result.andThen_ok, Sem.run_ite]
        rw [if_neg (by simp)]
        simp only [h4, Result.andThen_ok, h3, Bool.not_true, Bool.false_eq_true, if_false, Sem.run_ite]
        exact hu D
  exact key 9998
theorem enoT_sound {op : BinOp} {t : TypeId} {xo yo : Operand} {a b : Int} {v : AV} {cx cy : Value} (h : (enoT P op t (isConst xo || isConst yo) a b).run = some v) (hx : VR M e (.eno a) cx) (hy : VR M e (.eno b) cy) :
    ∃ c, (do eqGuard op t xo yo cx cy; binOp op t cx cy : Sem Value).run P w = .ok c w ∧ VR M e v c := by
  unfold enoT at h
  split at h
  · exact (run_no h).elim
  · rename_i hc
    rw [Bool.and_eq_true] at hc
    have hq := eno_equal (w := w) hc.1 hc.2 hx hy
    have guard : ∀ {o : BinOp}, ((isConst xo || isConst yo) = true ∨ ¬ (a = 0 ∧ b = 0)) → (eqGuard o t xo yo cx cy).run P w = .ok () w := by
      intro o hcs
      cases hx with
      | eno ha =>
        cases hy <;> (cases o <;> rfl)
      | enil =>
        cases hy with
        | eno hb => cases o <;> rfl
        | enil =>
          rcases hcs with hcs | hcs
          · cases xo <;> cases yo <;> simp only [isConst, Bool.or_self, Bool.or_true, Bool.or_false, Bool.false_eq_true] at hcs <;> (cases o <;> rfl)
          · exact absurd ⟨rfl, rfl⟩ hcs
    have hb1 : (binOp .eql t cx cy).run P w = .ok (.bool (decide (a = b))) w := by
      cases hx <;> cases hy <;> simp [binOp, hq]
    have hb2 : (binOp .neq t cx cy).run P w = .ok (.bool (!decide (a = b))) w := by
      cases hx <;> cases hy <;> simp [binOp, hq]
    have hnn : (!decide (a = b)) = decide (a ≠ b) := by simp
    split at h
    · split at h
      · rename_i hcs
        obtain rfl := run_ret h
        exact ⟨_, by simp [guard (o := .eql) (.inl hcs), hb1], .bool⟩
      · rcases run_ite h with ⟨_, h⟩ | ⟨hz, h⟩
        · exact (run_no h).elim
        · obtain rfl := run_ret h
          exact ⟨_, by simp [guard (o := .eql) (.inr (of_decide_eq_false hz)), hb1], .bool⟩
    · split at h
      · rename_i hcs
        obtain rfl := run_ret h
        rw [← hnn]
        exact ⟨_, by simp [guard (o := .neq) (.inl hcs), hb2], .bool⟩
      · rcases run_ite h with ⟨_, h⟩ | ⟨hz, h⟩
        · exact (run_no h).elim
        · obtain rfl := run_ret h
          rw [← hnn]
          exact ⟨_, by simp [guard (o := .neq) (.inr (of_decide_eq_false hz)), hb2], .bool⟩
    · exact (run_no h).elim

theorem intT_sound {op : BinOp} {t : TypeId} {xo yo : Operand} {k : IntKind} {a b : Int} {v : AV} (h : (intT op k a b).run = some v) :
    ∃ c, (do eqGuard op t xo yo (.int k a) (.int k b); binOp op t (.int k a) (.int k b) : Sem Value).run P w = .ok c w ∧ VR M e v c := by
  unfold intT at h
  split at h <;> first
    | (exact (run_no h).elim)
    | (obtain rfl := run_ret h
       refine ⟨_, ?_, by first | exact .int | exact .bool⟩
       simp [eqGuard, binOp, Op.intArith, Op.intBits, Op.intCmp, bitA]
       try rfl
       done)
    | (rcases run_ite h with ⟨_, h⟩ | ⟨hb, h⟩
       · exact (run_no h).elim
       · have hb := of_decide_eq_false hb
         obtain rfl := run_ret h
         exact ⟨_, by simp [eqGuard, binOp, Op.intDiv, hb], .int⟩)
theorem ofInt_u8 (a : UInt8) : BitVec.ofInt 8 (a.toNat : Int) = a.toBitVec := by
  apply BitVec.eq_of_toNat_eq
  simp
theorem wrap_nat {n : Nat} (h : n < 256) : IntKind.u8.wrap (n : Int) = n := by
  rw [wrap_u8]
  omega
theorem binU_sound {op : BinOp} {t : TypeId} {xo yo : Operand} {a b : UInt8} {v : AV} (h : (binU op a b).run = some v) :
    ∃ c, (do eqGuard op t xo yo (.int .u8 a.toNat) (.int .u8 b.toNat); binOp op t (.int .u8 a.toNat) (.int .u8 b.toNat) : Sem Value).run P w = .ok c w ∧ VR M e v c := by
  have ha := a.toNat_lt
  have hb := b.toNat_lt
  have fin : ∀ {s : Sem Value} {n : Int} {r : UInt8}, s.run P w = .ok (.int .u8 n) w → n = r.toNat → ∃ c, s.run P w = .ok c w ∧ VR M e (.u8 r) c := fun hs hn => ⟨_, hs, by rw [hn]; exact .u8⟩
  have heq : ((a.toNat : Int) == (b.toNat : Int)) = decide (a = b) := by
    rw [Bool.eq_iff_iff, beq_iff_eq, decide_eq_true_eq]
    exact u8_int a b
  have bits : ∀ (x : BitVec 8), IntKind.u8.wrap (x.toNat : Int) = (x.toNat : Int) := fun x => wrap_nat x.isLt
  unfold binU at h
  split at h
  · obtain rfl := run_ret h
    refine fin (n := IntKind.u8.wrap ((a.toNat : Int) + b.toNat)) (by simp [eqGuard, binOp, Op.intArith]) ?_
    rw [wrap_u8, UInt8.toNat_add]; omega
  · obtain rfl := run_ret h
    refine fin (n := IntKind.u8.wrap ((a.toNat : Int) - b.toNat)) (by simp [eqGuard, binOp, Op.intArith]) ?_
    rw [wrap_u8, UInt8.toNat_sub]; omega
  · obtain rfl := run_ret h
    refine fin (n := IntKind.u8.wrap ((a.toNat : Int) * b.toNat)) (by simp [eqGuard, binOp, Op.intArith]) ?_
    rw [wrap_u8, UInt8.toNat_mul]; simp
  · rcases run_ite h with ⟨_, h⟩ | ⟨hz, h⟩
    · exact (run_no h).elim
    · have hz := of_decide_eq_false hz
      obtain rfl := run_ret h
      have hz' : ¬ (b.toNat : Int) = 0 := fun h0 => hz (UInt8.toNat_inj.1 (by simpa using h0))
      have hn : ¬ b.toNat = 0 := by omega
      refine fin (n := IntKind.u8.wrap ((a.toNat : Int).tdiv b.toNat)) (by simp only [eqGuard, binOp, Op.intDiv]; simp [hn]) ?_
      rw [wrap_u8, UInt8.toNat_div]
      have : ((a.toNat : Int).tdiv b.toNat) = ((a.toNat / b.toNat : Nat) : Int) := by rw [Int.tdiv_eq_ediv_of_nonneg (by omega)]; simp
      rw [this]
      have := Nat.div_le_self a.toNat b.toNat
      generalize a.toNat / b.toNat = q at *
      omega
  · rcases run_ite h with ⟨_, h⟩ | ⟨hz, h⟩
    · exact (run_no h).elim
    · have hz := of_decide_eq_false hz
      obtain rfl := run_ret h
      have hz' : ¬ (b.toNat : Int) = 0 := fun h0 => hz (UInt8.toNat_inj.1 (by simpa using h0))
      have hn : ¬ b.toNat = 0 := by omega
      refine fin (n := (a.toNat : Int).tmod b.toNat) (by simp only [eqGuard, binOp, Op.intDiv]; simp [hn]) ?_
      rw [UInt8.toNat_mod, Int.tmod_eq_emod_of_nonneg (by omega)]
      simp
  · obtain rfl := run_ret h
    refine fin (n := IntKind.u8.wrap ((a.toNat &&& b.toNat : Nat) : Int)) (by
      have hbv : (a.toBitVec &&& b.toBitVec).toNat = a.toNat &&& b.toNat := by rw [BitVec.toNat_and]; rfl
      simp [eqGuard, binOp, Op.intBits, IntKind.bits, ofInt_u8]
      exact congrArg (fun n : Nat => IntKind.u8.wrap (n : Int)) hbv) ?_
    rw [← UInt8.toNat_and]; exact wrap_nat (UInt8.toNat_lt _)
  · obtain rfl := run_ret h
    refine fin (n := IntKind.u8.wrap ((a.toNat ||| b.toNat : Nat) : Int)) (by
      have hbv : (a.toBitVec ||| b.toBitVec).toNat = a.toNat ||| b.toNat := by rw [BitVec.toNat_or]; rfl
      simp [eqGuard, binOp, Op.intBits, IntKind.bits, ofInt_u8]
      exact congrArg (fun n : Nat => IntKind.u8.wrap (n : Int)) hbv) ?_
    rw [← UInt8.toNat_or]; exact wrap_nat (UInt8.toNat_lt _)
  · obtain rfl := run_ret h
    refine fin (n := IntKind.u8.wrap ((a.toNat ^^^ b.toNat : Nat) : Int)) (by
      have hbv : (a.toBitVec ^^^ b.toBitVec).toNat = a.toNat ^^^ b.toNat := by rw [BitVec.toNat_xor]; rfl
      simp [eqGuard, binOp, Op.intBits, IntKind.bits, ofInt_u8]
      exact congrArg (fun n : Nat => IntKind.u8.wrap (n : Int)) hbv) ?_
    rw [← UInt8.toNat_xor]; exact wrap_nat (UInt8.toNat_lt _)
  · obtain rfl := run_ret h
    exact ⟨.bool (decide (a = b)), by simp only [eqGuard, binOp, Op.intCmp]; simp [heq], .bool⟩
  · obtain rfl := run_ret h
    exact ⟨.bool (decide (a ≠ b)), by simp only [eqGuard, binOp, Op.intCmp]; simp [bne, heq], .bool⟩
  · obtain rfl := run_ret h
    refine ⟨.bool (decide ((a.toNat : Int) < b.toNat)), by simp [eqGuard, binOp, Op.intCmp], ?_⟩
    have : ((a.toNat : Int) < b.toNat) ↔ a < b := by rw [UInt8.lt_iff_toNat_lt]; omega
    simp only [this]; exact .bool
  · obtain rfl := run_ret h
    refine ⟨.bool (decide ((a.toNat : Int) ≤ b.toNat)), by simp [eqGuard, binOp, Op.intCmp], ?_⟩
    have : ((a.toNat : Int) ≤ b.toNat) ↔ a ≤ b := by rw [UInt8.le_iff_toNat_le]; omega
    simp only [this]; exact .bool
  · obtain rfl := run_ret h
    refine ⟨.bool (decide ((b.toNat : Int) < a.toNat)), by simp [eqGuard, binOp, Op.intCmp], ?_⟩
    have : ((b.toNat : Int) < a.toNat) ↔ b < a := by rw [UInt8.lt_iff_toNat_lt]; omega
    simp only [this]; exact .bool
  · obtain rfl := run_ret h
    refine ⟨.bool (decide ((b.toNat : Int) ≤ a.toNat)), by simp [eqGuard, binOp, Op.intCmp], ?_⟩
    have : ((b.toNat : Int) ≤ a.toNat) ↔ b ≤ a := by rw [UInt8.le_iff_toNat_le]; omega
    simp only [this]; exact .bool
  · exact (run_no h).elim
theorem strT_sound {op : BinOp} {t : TypeId} {xo yo : Operand} {a b : List UInt8} {v : AV} {cx cy : Value} (h : (strT op a b).run = some v) (hx : VR M e (.str a) cx) (hy : VR M e (.str b) cy) :
    ∃ c, (do eqGuard op t xo yo cx cy; binOp op t cx cy : Sem Value).run P w = .ok c w ∧ VR M e v c := by
  cases hx with
  | @str _ _ bx hbx => cases hy with
    | @str _ _ by_ hby =>
      have h1 : bx.size = a.length := by rw [← hbx]; rfl
      have h2 : by_.size = b.length := by rw [← hby]; rfl
      unfold strT at h
      split at h <;> first
        | (exact (run_no h).elim)
        | (obtain rfl := run_ret h
           refine ⟨_, ?_, .bool⟩
           simp [eqGuard, binOp, Op.stringOp, toList_data, hbx, hby, beq_dec]
           done)
        | (rcases run_ite h with ⟨hl, h⟩ | ⟨_, h⟩
           · have hl := of_decide_eq_true hl
             obtain rfl := run_ret h
             refine ⟨.string (bx ++ by_), ?_, .str (by simp [hbx, hby])⟩
             have : ¬ ((bx.size + by_.size : Nat) : Int) > IntKind.i64.max := by
               have : IntKind.i64.max = 9223372036854775807 := by decide
               rw [this, h1, h2]; omega
             simp only [eqGuard, binOp, Op.stringOp]
             rw [if_neg this]
             rfl
           · exact (run_no h).elim)
theorem shiftT_sound {op : BinOp} {t : TypeId} {xo yo : Operand} {x v : AV} {k' : IntKind} {b : Int} {cx : Value} (hop : op = .shl ∨ op = .shr) (h : (shiftT op x b).run = some v) (hx : VR M e x cx) :
    ∃ c, (do eqGuard op t xo yo cx (.int k' b); binOp op t cx (.int k' b) : Sem Value).run P w = .ok c w ∧ VR M e v c := by
  unfold shiftT at h
  split at h
  · rcases run_ite h with ⟨_, h⟩ | ⟨hb, h⟩
    · exact (run_no h).elim
    · have hb := of_decide_eq_false hb
      obtain rfl := run_ret h
      cases hx
      exact ⟨_, by simp [eqGuard, binOp, Op.shift, hb], .int⟩
  · rcases run_ite h with ⟨_, h⟩ | ⟨hb, h⟩
    · exact (run_no h).elim
    · have hb := of_decide_eq_false hb
      obtain rfl := run_ret h
      cases hx
      exact ⟨_, by simp [eqGuard, binOp, Op.shift, hb], .int⟩
  · rename_i a
    rcases run_ite h with ⟨_, h⟩ | ⟨hb, h⟩
    · exact (run_no h).elim
    · have hb := of_decide_eq_false hb
      obtain rfl := run_ret h
      cases hx
      refine ⟨.int .u8 (IntKind.u8.wrap ((a.toNat : Int) * 2 ^ (min b.toNat 8))), by simp [eqGuard, binOp, Op.shift, hb, IntKind.bits], ?_⟩
      rw [wrap_u8, ← byteI_toNat]
      exact .u8
  · rename_i a
    rcases run_ite h with ⟨_, h⟩ | ⟨hb, h⟩
    · exact (run_no h).elim
    · have hb := of_decide_eq_false hb
      obtain rfl := run_ret h
      cases hx
      refine ⟨.int .u8 ((a.toNat : Int).fdiv (2 ^ (min b.toNat 8))), by simp [eqGuard, binOp, Op.shift, hb, IntKind.bits], ?_⟩
      have h1 := byteI_toNat ((a.toNat : Int).fdiv (2 ^ (min b.toNat 8)))
      have h2 : ((a.toNat : Int).fdiv (2 ^ (min b.toNat 8))) % 256 = (a.toNat : Int).fdiv (2 ^ (min b.toNat 8)) := by
        have ha := a.toNat_lt
        have hp : (0 : Int) < 2 ^ (min b.toNat 8) := Int.pow_pos (by omega)
        rw [Int.fdiv_eq_ediv_of_nonneg _ (by omega)]
        apply Int.emod_eq_of_lt
        · exact Int.ediv_nonneg (by omega) (by omega)
        · exact Int.lt_of_le_of_lt (Int.ediv_le_self _ (by omega)) (by omega)
      rw [h2] at h1
      have h3 : VR M e (.u8 (byteI ((a.toNat : Int).fdiv (2 ^ (min b.toNat 8))))) (.int .u8 (byteI ((a.toNat : Int).fdiv (2 ^ (min b.toNat 8)))).toNat) := .u8
      rw [h1] at h3
      exact h3
  · exact (run_no h).elim
theorem bin_sound {op : BinOp} {t : TypeId} {x y v : AV} {cx cy : Value} {xo yo : Operand} (h : (binT P op t (isConst xo || isConst yo) x y).run = some v) (hx : VR M e x cx) (hy : VR M e y cy) :
    ∃ c, (do eqGuard op t xo yo cx cy; binOp op t cx cy : Sem Value).run P w = .ok c w ∧ VR M e v c := by
  unfold binT at h
  split at h
  · split at h
    · cases hy; exact shiftT_sound (.inl rfl) h hx
    · cases hy; exact shiftT_sound (.inl rfl) h hx
    · exact (run_no h).elim
  · split at h
    · cases hy; exact shiftT_sound (.inr rfl) h hx
    · cases hy; exact shiftT_sound (.inr rfl) h hx
    · exact (run_no h).elim
  · split at h
    · split at h
      · rename_i hkk
        obtain rfl := of_decide_eq_true hkk
        cases hx; cases hy
        exact intT_sound h
      · exact (run_no h).elim
    · cases hx; cases hy
      exact binU_sound h
    · exact strT_sound h hx hy
    · exact enoT_sound h hx hy
    · split at h
      · split at h
        · rename_i b hb
          obtain rfl := run_ret h
          exact ⟨_, (eqV_run hb hx hy xo yo).1, .bool⟩
        · exact (run_no h).elim
      · split at h
        · rename_i b hb
          obtain rfl := run_ret h
          exact ⟨_, (eqV_run hb hx hy xo yo).2, .bool⟩
        · exact (run_no h).elim
      · exact (run_no h).elim

theorem un_sound {op : UnOp} {x v : AV} {c : Value} (h : unA op x = some v) (hx : VR M e x c) : ∃ u, (Op.unary op c).run P w = .ok u w ∧ VR M e v u := by
  unfold unA at h
  split at h
  · obtain rfl := Option.some.inj h
    cases hx
    exact ⟨_, rfl, .int⟩
  · rename_i b
    obtain rfl := Option.some.inj h
    cases hx
    have h1 : IntKind.u8.wrap (0 - (b.toNat : Int)) = ((0 - b).toNat : Int) := by
      have := b.toNat_lt
      rw [wrap_u8, UInt8.toNat_sub]
      simp only [UInt8.toNat_zero]
      omega
    refine ⟨.int .u8 (IntKind.u8.wrap (0 - (b.toNat : Int))), rfl, ?_⟩
    rw [h1]
    exact .u8
  · obtain rfl := Option.some.inj h
    cases hx
    exact ⟨_, rfl, .int⟩
  · obtain rfl := Option.some.inj h
    cases hx
    exact ⟨_, rfl, .bool⟩
  · exact absurd h (by simp)
theorem zero_sound {t : TypeId} {z : AV} (h : zeroA P t = some z) : ∃ c, (zeroValue t).run P w = .ok c w ∧ VR M e z c := by
  unfold zeroA at h
  split at h
  · rename_i ti hT
    obtain ⟨i, d, hty⟩ := mkT_some hT
    have hz := hty.zero
    rw [h] at hz
    cases hq : i.zero with
    | none => rw [hq] at hz; exact absurd hz (by simp)
    | some c => rw [hq] at hz; exact ⟨c, hty.run_zero w hq, ofV_sound hz.symm⟩
  · exact absurd h (by simp)
theorem tup2 {a b : AV} {x y : Value} (h1 : VR M e a x) (h2 : VR M e b y) : VR M e (.tup [a, b]) (.tuple #[x, y]) := .tup rfl fun j p q hp hq => by
  match j with
  | 0 => simp at hp hq; subst hp; subst hq; exact h1
  | 1 => simp at hp hq; subst hp; subst hq; exact h2
  | j + 2 => simp at hp
theorem assert_sound {x v : AV} {xt t : TypeId} {ok : Bool} {c : Value} (h : (assertT P x t ok).run = some v) (hx : VR M e x c) : ∃ u, (Instr.typeAssert c xt t ok).run P w = .ok u w ∧ VR M e v u := by
  unfold assertT at h
  split at h
  · exact (run_no h).elim
  · rename_i ti hT
    obtain ⟨i, d, hty⟩ := mkT_some hT
    split at h
    · exact (run_no h).elim
    · rename_i n hk
      have hd : ∀ ms, d ≠ .interface ms := fun ms hd => hk (by rw [hty.kd, hd]; rfl)
      split at h
      · rename_i hc
        rw [Bool.and_eq_true] at hc
        have ht := of_decide_eq_true hc.1
        subst ht
        split at h
        · split at h
          · rename_i hz
            obtain rfl := run_ret h
            obtain ⟨cz, hcz, hvz⟩ := zero_sound (P := P) (M := M) (e := e) (w := w) (t := errT) (z := .int .i64 0) (by unfold zeroA; rw [hT]; exact hz)
            cases hvz
            cases hx with
            | enil =>
              refine ⟨.tuple #[.int .i64 0, .bool false], ?_, tup2 .int (by simp; exact .bool)⟩
              cases d <;> first | exact absurd rfl (hd _) | simp [Instr.typeAssert, hty.run_und, hcz]
            | eno hn =>
              refine ⟨.tuple #[.int .i64 n, .bool true], ?_, tup2 .int (by simp [hn]; exact .bool)⟩
              cases d <;> first | exact absurd rfl (hd _) | simp [Instr.typeAssert, hty.run_und]
          · exact (run_no h).elim
        · rcases run_ite h with ⟨_, h⟩ | ⟨hn, h⟩
          · exact (run_no h).elim
          · have hn := of_decide_eq_false hn
            obtain rfl := run_ret h
            cases hx with
            | enil => exact absurd rfl hn
            | eno hn =>
              refine ⟨.int .i64 n, ?_, .int⟩
              cases d <;> first | exact absurd rfl (hd _) | simp [Instr.typeAssert, hty.run_und]
      · exact (run_no h).elim
    · rename_i u y hk
      have hd : ∀ ms, d ≠ .interface ms := fun ms hd => hk (by rw [hty.kd, hd]; rfl)
      cases hx with
      | @iface _ _ _ cy hy =>
        split at h
        · rename_i hut
          have hut := of_decide_eq_true hut
          obtain rfl := run_ret h
          cases ok
          · exact ⟨cy, by cases d <;> first | exact absurd rfl (hd _) | simp [Instr.typeAssert, hty.run_und, hut], hy⟩
          · exact ⟨.tuple #[cy, .bool true], by cases d <;> first | exact absurd rfl (hd _) | simp [Instr.typeAssert, hty.run_und, hut], tup2 hy .bool⟩
        · rename_i hut
          have hut := of_decide_eq_false hut
          split at h
          · split at h
            · rename_i z hz
              obtain rfl := run_ret h
              obtain ⟨cz, hcz, hvz⟩ := zero_sound (P := P) (M := M) (e := e) (w := w) (t := t) (z := z) (by unfold zeroA; rw [hT]; exact hz)
              refine ⟨.tuple #[cz, .bool false], ?_, tup2 hvz .bool⟩
              cases d <;> first | exact absurd rfl (hd _) | simp [Instr.typeAssert, hty.run_und, hcz, hut]
            · exact (run_no h).elim
          · exact (run_no h).elim
    · exact (run_no h).elim
theorem iface_sound {t : TypeId} {x v : AV} {c : Value} (h : (ifaceT P t x).run = some v) (hx : VR M e x c) : ∃ u, (Instr.makeInterface t c).run P w = .ok u w ∧ VR M e v u := by
  unfold ifaceT at h
  split at h
  · exact (run_no h).elim
  · rename_i ti hT
    obtain ⟨inf, d, hty⟩ := mkT_some hT
    split at h
    · exact (run_no h).elim
    · rename_i hk
      have hd : ∀ ms, d ≠ .interface ms := fun ms hd => hk (by rw [hty.kd, hd]; rfl)
      have hrun : (Instr.makeInterface t c).run P w = .ok (.iface t c) w := by
        cases d <;> first | exact absurd rfl (hd _) | simp [Instr.makeInterface, hty.run_und]
      split at h
      · rename_i n ht
        have ht := of_decide_eq_true ht
        subst ht
        rcases run_ite h with ⟨_, h⟩ | ⟨hn, h⟩
        · obtain rfl := run_ret h
          exact ⟨_, hrun, .iface hx⟩
        · have hn := of_decide_eq_false hn
          obtain rfl := run_ret h
          cases hx
          exact ⟨_, hrun, .eno hn⟩
      · obtain rfl := run_ret h
        exact ⟨_, hrun, .iface hx⟩
end
end Go.Sm
