/- A verified abstract machine for the code of the model, part 1: nothing in it speaks of one program. -/
import GoSem.Step
import Derived.DeepKeys2
import Derived.Control
import Derived.Laws.Sem
import Derived.Laws.Entries
import Derived.Laws.Cells
import Derived.Laws.StructEq
import Derived.Laws.Cover1
import Derived.ChangeKeysEq
import Derived.IntWalk
/- A binary trie keyed by positions, with strict (continuation passing) updates: its laws. -/
namespace Go.Am

/-- Positive numbers in binary: h is 1, o p is 2p, i p is 2p + 1. -/
inductive Pos where
  | h
  | o (p : Pos)
  | i (p : Pos)
  deriving DecidableEq, Inhabited

namespace Pos
def toNat : Pos → Nat
  | .h => 1
  | .o p => 2 * p.toNat
  | .i p => 2 * p.toNat + 1
def succ : Pos → Pos
  | .h => .o .h
  | .o p => .i p
  | .i p => .o p.succ
theorem toNat_pos : ∀ p : Pos, 0 < p.toNat
  | .h => by simp [toNat]
  | .o p => by have := toNat_pos p; simp [toNat]; omega
  | .i p => by simp [toNat]
theorem toNat_succ : ∀ p : Pos, p.succ.toNat = p.toNat + 1
  | .h => rfl
  | .o p => by simp [succ, toNat]
  | .i p => by have := toNat_succ p; simp [succ, toNat]; omega
theorem toNat_inj : ∀ {p q : Pos}, p.toNat = q.toNat → p = q
  | .h, .h, _ => rfl
  | .h, .o q, e => by have := toNat_pos q; simp [toNat] at e; omega
  | .h, .i q, e => by have := toNat_pos q; simp [toNat] at e; omega
  | .o p, .h, e => by have := toNat_pos p; simp [toNat] at e; omega
  | .i p, .h, e => by have := toNat_pos p; simp [toNat] at e; omega
  | .o p, .o q, e => by rw [toNat_inj (p := p) (q := q) (by simp [toNat] at e; omega)]
  | .i p, .i q, e => by rw [toNat_inj (p := p) (q := q) (by simp [toNat] at e; omega)]
  | .o p, .i q, e => by simp [toNat] at e; omega
  | .i p, .o q, e => by simp [toNat] at e; omega
/-- The position of a number that is not 0, by fuel. -/
def ofNatF : Nat → Nat → Pos
  | 0, _ => .h
  | f + 1, n => bif Nat.ble n 1 then .h else bif Nat.beq (Nat.mod n 2) 0 then .o (ofNatF f (Nat.div n 2)) else .i (ofNatF f (Nat.div n 2))
theorem toNat_ofNatF : ∀ (f n : Nat), 1 ≤ n → n ≤ f → (ofNatF f n).toNat = n
  | 0, n, h1, h2 => by omega
  | f + 1, n, h1, h2 => by
    simp only [ofNatF]
    by_cases h : n ≤ 1
    · have : n = 1 := by omega
      subst this; rfl
    · have hb : Nat.ble n 1 = false := by rw [Bool.eq_false_iff]; intro hh; exact h (Nat.le_of_ble_eq_true hh)
      rw [hb]
      have ih := toNat_ofNatF f (n / 2) (by omega) (by omega)
      by_cases h2 : n % 2 = 0
      · have hb2 : Nat.beq (Nat.mod n 2) 0 = true := by show Nat.beq (n % 2) 0 = true; rw [h2]; rfl
        rw [hb2]
        show 2 * (ofNatF f (n / 2)).toNat = n
        omega
      · have hb2 : Nat.beq (Nat.mod n 2) 0 = false := by rw [Bool.eq_false_iff]; intro hh; exact h2 (Nat.eq_of_beq_eq_true hh)
        rw [hb2]
        show 2 * (ofNatF f (n / 2)).toNat + 1 = n
        omega
/-- The key of a slot or an offset. -/
def key (n : Nat) : Pos := ofNatF (Nat.succ n) (Nat.succ n)
theorem toNat_key (n : Nat) : (key n).toNat = n + 1 := toNat_ofNatF _ _ (by omega) (by omega)
theorem key_inj {m n : Nat} (h : key m = key n) : m = n := by
  have := congrArg toNat h; rw [toNat_key, toNat_key] at this; omega
end Pos

inductive PTree (α : Type) where
  | nil
  | node (l : PTree α) (v : Option α) (r : PTree α)

namespace PTree
variable {α : Type}
def get : Pos → PTree α → Option α
  | .h, .nil => none
  | .h, .node _ v _ => v
  | .o _, .nil => none
  | .o p, .node l _ _ => get p l
  | .i _, .nil => none
  | .i p, .node _ _ r => get p r
def set (x : α) : Pos → PTree α → PTree α
  | .h, .nil => .node .nil (some x) .nil
  | .h, .node l _ r => .node l (some x) r
  | .o p, .nil => .node (set x p .nil) none .nil
  | .o p, .node l v r => .node (set x p l) v r
  | .i p, .nil => .node .nil none (set x p .nil)
  | .i p, .node l v r => .node l v (set x p r)
/-- Look up by the recursor alone: what the kernel runs. -/
noncomputable def getK (p : Pos) : PTree α → Option α :=
  Pos.rec (motive := fun _ => PTree α → Option α)
    (fun t => PTree.rec (motive := fun _ => Option α) none (fun _ v _ _ _ => v) t)
    (fun _ ih t => PTree.rec (motive := fun _ => Option α) none (fun l _ _ _ _ => ih l) t)
    (fun _ ih t => PTree.rec (motive := fun _ => Option α) none (fun _ _ r _ _ => ih r) t) p
/-- Update with a continuation: the new path is laid out before the rest goes on. -/
noncomputable def setK {β : Type} (x : α) (p : Pos) : PTree α → (PTree α → β) → β :=
  Pos.rec (motive := fun _ => PTree α → (PTree α → β) → β)
    (fun t k => PTree.rec (motive := fun _ => β) (k (.node .nil (some x) .nil)) (fun l _ r _ _ => k (.node l (some x) r)) t)
    (fun _ ih t k => PTree.rec (motive := fun _ => β) (ih .nil fun l' => k (.node l' none .nil)) (fun l v r _ _ => ih l fun l' => k (.node l' v r)) t)
    (fun _ ih t k => PTree.rec (motive := fun _ => β) (ih .nil fun r' => k (.node .nil none r')) (fun l v r _ _ => ih r fun r' => k (.node l v r')) t) p
def del : Pos → PTree α → PTree α
  | _, .nil => .nil
  | .h, .node l _ r => .node l none r
  | .o p, .node l v r => .node (del p l) v r
  | .i p, .node l v r => .node l v (del p r)
noncomputable def delK {β : Type} (p : Pos) : PTree α → (PTree α → β) → β :=
  Pos.rec (motive := fun _ => PTree α → (PTree α → β) → β)
    (fun t k => PTree.rec (motive := fun _ => β) (k .nil) (fun l _ r _ _ => k (.node l none r)) t)
    (fun _ ih t k => PTree.rec (motive := fun _ => β) (k .nil) (fun l v r _ _ => ih l fun l' => k (.node l' v r)) t)
    (fun _ ih t k => PTree.rec (motive := fun _ => β) (k .nil) (fun l v r _ _ => ih r fun r' => k (.node l v r')) t) p
theorem getK_eq (p : Pos) (t : PTree α) : getK p t = get p t := by
  induction p generalizing t with
  | h => cases t <;> rfl
  | o p ih => cases t with
    | nil => rfl
    | node l v r => exact ih l
  | i p ih => cases t with
    | nil => rfl
    | node l v r => exact ih r
theorem setK_eq {β : Type} (x : α) (p : Pos) (t : PTree α) (k : PTree α → β) : setK x p t k = k (set x p t) := by
  induction p generalizing t k with
  | h => cases t <;> rfl
  | o p ih => cases t with
    | nil => exact ih .nil _
    | node l v r => exact ih l _
  | i p ih => cases t with
    | nil => exact ih .nil _
    | node l v r => exact ih r _
theorem delK_eq {β : Type} (p : Pos) (t : PTree α) (k : PTree α → β) : delK p t k = k (del p t) := by
  induction p generalizing t k with
  | h => cases t <;> rfl
  | o p ih => cases t with
    | nil => rfl
    | node l v r => exact ih l _
  | i p ih => cases t with
    | nil => rfl
    | node l v r => exact ih r _
theorem get_nil (p : Pos) : get p (.nil : PTree α) = none := by cases p <;> rfl
theorem get_set (x : α) (p q : Pos) (t : PTree α) : get q (set x p t) = if q = p then some x else get q t := by
  induction p generalizing q t with
  | h => cases t <;> cases q <;> simp [get, set, get_nil]
  | o p ih => cases t <;> cases q <;> simp [get, set, ih, get_nil]
  | i p ih => cases t <;> cases q <;> simp [get, set, ih, get_nil]
theorem get_set_same (x : α) (p : Pos) (t : PTree α) : get p (set x p t) = some x := by rw [get_set, if_pos rfl]
theorem get_set_other (x : α) {p q : Pos} (t : PTree α) (h : q ≠ p) : get q (set x p t) = get q t := by rw [get_set, if_neg h]
theorem get_del (p q : Pos) (t : PTree α) : get q (del p t) = if q = p then none else get q t := by
  induction p generalizing q t with
  | h => cases t <;> cases q <;> simp [get, del]
  | o p ih => cases t <;> cases q <;> simp [get, del, ih]
  | i p ih => cases t <;> cases q <;> simp [get, del, ih]
end PTree
end Go.Am

/- An abstract machine for the model's code: one order, addresses of its own, no capacity that append chose. -/
namespace Go.Am

/-- A block of the machine's own and a place in it. -/
structure AAd where
  b : Pos
  o : Nat

inductive AFn where
  | func (f : FuncId)
  | method (name : String)
  | methodOf (t : TypeId) (name : String)
  | yield (p : Pos)

/-- Values. A slice bears its capacity, or, where append chose it, the size of an element instead. -/
inductive AV where
  | bool (b : Bool)
  | int (k : IntKind) (n : Int)
  | str (s : ByteArray)
  | ptr (a : Option AAd)
  | slice (a : Option AAd) (len cap : Nat) (u : Option Nat)
  | map (r : Option Pos)
  | chan (r : Option Pos)
  | func (f : AFn) (first captured : List AV)
  | nilFunc
  | iface (t : TypeId) (v : AV)
  | nilIface
  | agg (l : List AV)
  | tuple (l : List AV)

def undefA : AV := .tuple []
/-- A value's cells. -/
def AV.cells : AV → Option (List AV)
  | .agg l => some l
  | .tuple _ => none
  | v => some [v]
/-- One cell alone. -/
def flat : AV → Bool
  | .agg _ | .tuple _ => false
  | _ => true

inductive ADef where
  | call (f : AFn) (captured args : List AV)
  | coll (p : Pos)

structure AEnt where
  key : AV
  val : AV
  born : Nat

/-- What stays as it is while a function runs: how many slots there are, which ones are kept behind a region. -/
structure Fc where
  nt : Nat
  keep : Nat → Bool

structure ALoop where
  state : LoopState
  pending : Option Code
  fc : Fc
  tm : PTree AV
  params : List Tmp
  assign : Code
  body : Code
  defers : Pos

inductive AObj where
  | cells (c : List AV)
  | dead
  | map (es : List AEnt) (clock : Nat)
  | chan (cap : Nat) (buf : List AV) (sent received : Nat)
  | loop (l : ALoop)
  | dfr (ds : Option (List ADef))

structure Heap where
  t : PTree AObj
  next : Pos

/-- What a region works on: the slots that it has written, the deferred calls, the heap. -/
structure St where
  ov : List (Nat × AV)
  ds : List ADef
  h : Heap

inductive AExit where
  | norm
  | exit (id : Nat)
  | ret

/-! ## Small tools, fit for the kernel -/
noncomputable def bcase {β : Type} (g : Bool) (f t : β) : β := Bool.rec (motive := fun _ => β) f t g
noncomputable def obind {α β : Type} (r : Option α) (f : α → Option β) : Option β := Option.rec (motive := fun _ => Option β) none f r
noncomputable def nth (l : List AV) : Nat → Option AV :=
  List.rec (motive := fun _ => Nat → Option AV) (fun _ => none) (fun x _ ih n => Nat.casesOn n (some x) ih) l
noncomputable def dropK (l : List AV) : Nat → List AV :=
  List.rec (motive := fun _ => Nat → List AV) (fun _ => []) (fun x xs ih n => Nat.casesOn n (x :: xs) ih) l
/-- The first n elements, if there are as many. -/
noncomputable def takeN (n : Nat) : List AV → Option (List AV) :=
  Nat.rec (motive := fun _ => List AV → Option (List AV)) (fun _ => some [])
    (fun _ ih l => List.casesOn l none fun x xs => Option.casesOn (ih xs) none fun r => some (x :: r)) n
noncomputable def sub (l : List AV) (o n : Nat) : Option (List AV) := takeN n (dropK l o)
/-- The list with some elements laid over it from its head on, if there is room. -/
noncomputable def over (vs : List AV) : List AV → Option (List AV) :=
  List.rec (motive := fun _ => List AV → Option (List AV)) (fun c => some c)
    (fun v _ ih c => List.casesOn c none fun _ xs => Option.casesOn (ih xs) none fun r => some (v :: r)) vs
noncomputable def put (vs : List AV) (o : Nat) : List AV → Option (List AV) :=
  Nat.rec (motive := fun _ => List AV → Option (List AV)) (over vs)
    (fun _ ih c => List.casesOn c none fun x xs => Option.casesOn (ih xs) none fun r => some (x :: r)) o
/-- Lays a list's spine out before the rest goes on. -/
noncomputable def forceL {β : Type} (l : List AV) : (List AV → β) → β :=
  List.rec (motive := fun _ => (List AV → β) → β) (fun k => k []) (fun x _ ih k => ih fun r => k (x :: r)) l
noncomputable def forceN {β : Type} (n : Nat) (k : Nat → β) : β := Nat.casesOn n (k 0) fun m => k (Nat.succ m)
noncomputable def forceI {β : Type} (n : Int) (k : Int → β) : β :=
  Int.casesOn n (fun m => forceN m fun m => k (.ofNat m)) fun m => forceN m fun m => k (.negSucc m)
noncomputable def forceB {β : Type} (b : Bool) (k : Bool → β) : β := bcase b (k false) (k true)
abbrev VK (β : Type) := (AV → β) → β
noncomputable def fvBool {β : Type} (b : Bool) : VK β := fun k => forceB b fun b => k (.bool b)
noncomputable def fvInt {β : Type} (kd : IntKind) (n : Int) : VK β := fun k => forceI n fun n => k (.int kd n)
def fvStr {β : Type} (s : ByteArray) : VK β := fun k => k (.str s)
noncomputable def fvAt {β : Type} (a : AAd) (f : AAd → AV) : VK β := fun k => AAd.casesOn a fun p o => forceN o fun o => k (f ⟨p, o⟩)
noncomputable def fvPtr {β : Type} (a : Option AAd) : VK β := fun k => Option.casesOn a (k (.ptr none)) fun a => fvAt a (fun a => .ptr (some a)) k
noncomputable def fvSlice {β : Type} (a : Option AAd) (len cap : Nat) (u : Option Nat) : VK β := fun k => forceN len fun len => forceN cap fun cap =>
  Option.casesOn a (k (.slice none len cap u)) fun a => fvAt a (fun a => .slice (some a) len cap u) k
def fvMap {β : Type} (r : Option Pos) : VK β := fun k => k (.map r)
def fvChan {β : Type} (r : Option Pos) : VK β := fun k => k (.chan r)
def fvFunc {β : Type} (f : AFn) (a c : List AV) : VK β := fun k => k (.func f a c)
def fvNilFunc {β : Type} : VK β := fun k => k .nilFunc
def fvIface {β : Type} (t : TypeId) (v : AV) : VK β := fun k => k (.iface t v)
def fvNilIface {β : Type} : VK β := fun k => k .nilIface
def fvAgg {β : Type} (l : List AV) : VK β := fun k => k (.agg l)
def fvTuple {β : Type} (l : List AV) : VK β := fun k => k (.tuple l)
/-- Lays a value's head out before the rest goes on. -/
noncomputable def forceV {β : Type} (v : AV) : VK β :=
  AV.casesOn (motive_1 := fun _ => VK β) v fvBool fvInt fvStr fvPtr fvSlice fvMap fvChan fvFunc fvNilFunc fvIface fvNilIface fvAgg fvTuple

def ltI : Int → Int → Bool
  | .ofNat m, .ofNat n => Nat.blt m n
  | .negSucc _, .ofNat _ => true
  | .ofNat _, .negSucc _ => false
  | .negSucc m, .negSucc n => Nat.blt n m
def eqI : Int → Int → Bool
  | .ofNat m, .ofNat n => Nat.beq m n
  | .negSucc _, .ofNat _ => false
  | .ofNat _, .negSucc _ => false
  | .negSucc m, .negSucc n => Nat.beq m n
def inK : IntKind → Int → Bool
  | .i64, .ofNat m => Nat.blt m 9223372036854775808
  | .i64, .negSucc m => Nat.blt m 9223372036854775808
  | .u64, .ofNat m => Nat.blt m 18446744073709551616
  | .u32, .ofNat m => Nat.blt m 4294967296
  | .u8, .ofNat m => Nat.blt m 256
  | _, _ => false
def wrapA (k : IntKind) (n : Int) : Int := bif inK k n then n else k.wrap n
def kindEq (a b : IntKind) : Bool := decide (a = b)

/-! ## Types -/
section
variable (P : Program)
def und (t : TypeId) : Option TypeDesc := P.underlying t
def siz (t : TypeId) : Option Nat := (P.info? t).map (·.size)
def aggT (t : TypeId) : Option Bool :=
  match P.underlying t with
  | some (.struct _) | some (.array _ _) => some true
  | some _ => some false
  | none => none
/-- A value of the code as a value of the machine: constants bear no address. -/
def ofVal : Nat → Value → Option AV
  | _, .bool b => some (.bool b)
  | _, .int k n => some (.int k n)
  | _, .string s => some (.str s)
  | _, .pointer none => some (.ptr none)
  | _, .slice none len cap => some (.slice none len cap none)
  | _, .map none => some (.map none)
  | _, .chan none => some (.chan none)
  | _, .nilFunc => some .nilFunc
  | _, .nilIface => some .nilIface
  | f + 1, .agg cs => match cs.toList.mapM (ofVal f) with
    | some l => if l.all flat then some (.agg l) else none
    | none => none
  | f + 1, .tuple cs => (cs.toList.mapM (ofVal f)).map .tuple
  | f + 1, .iface t v => (ofVal f v).map (.iface t)
  | _, _ => none
def zeroA (t : TypeId) : Option AV := ((P.info? t).bind (·.zero)).bind (ofVal 2)
/-- A type's zero value, cell by cell. -/
def zeroC (t : TypeId) : Option (List AV) := (zeroA P t).bind AV.cells
end

/-! ## Operands, cells -/
/-- What is known of the slots: what the region wrote, before it what was kept. -/
structure Tm where
  tm : PTree AV
  ov : List (Nat × AV)
noncomputable def findOv (t : Nat) (l : List (Nat × AV)) (d : Option AV) : Option AV :=
  List.rec (motive := fun _ => Option AV) d (fun x _ ih => Prod.rec (motive := fun _ => Option AV) (fun s v => Bool.rec ih (some v) (Nat.beq s t)) x) l
noncomputable def eTmp (t : Tmp) (tm : Tm) : Option AV := Tm.rec (motive := fun _ => Option AV) (fun tm ov => findOv t ov (PTree.getK (Pos.key t) tm)) tm
noncomputable def eConst (v : Value) (_ : Tm) : Option AV := obind (ofVal 8 v) some
def eGlobal (_ : Nat) (_ : Tm) : Option AV := none
def eFunc (f : FuncId) (_ : Tm) : Option AV := some (.func (.func f) [] [])
noncomputable def evalO (tm : Tm) (x : Operand) : Option AV :=
  Operand.rec (motive := fun _ => Tm → Option AV) eTmp eConst eGlobal eFunc x tm
/-- The values of a list of operands. -/
noncomputable def evalL (tm : Tm) (l : List Operand) : Option (List AV) :=
  List.rec (motive := fun _ => Option (List AV)) (some []) (fun x _ ih => obind (evalO tm x) fun v => obind ih fun r => some (v :: r)) l
noncomputable def evalP (tm : Tm) (l : List (Nat × Operand)) : Option (List (Nat × AV)) :=
  List.rec (motive := fun _ => Option (List (Nat × AV))) (some []) (fun x _ ih => obind (evalO tm x.2) fun v => obind ih fun r => some ((x.1, v) :: r)) l
noncomputable def evalQ (tm : Tm) (x : Option Operand) : Option (Option AV) := Option.casesOn x (some none) fun x => obind (evalO tm x) fun v => some (some v)

def ocells : AObj → Option (List AV)
  | .cells c => some c
  | _ => none
noncomputable def Heap.cellsAt (h : Heap) (p : Pos) : Option (List AV) := obind (PTree.getK p h.t) ocells
def toPtr : AV → Option AAd
  | .ptr a => a
  | _ => none
noncomputable def ldCells (c : List AV) (o : Nat) (P : Program) (t : TypeId) (g : Bool) : Option AV :=
  bcase g (nth c o) (obind (siz P t) fun n => obind (sub c o n) fun l => some (.agg l))
noncomputable def loadP (P : Program) (h : Heap) (t : TypeId) (a : AAd) : Option AV :=
  AAd.rec (motive := fun _ => Option AV) (fun b o => obind (h.cellsAt b) fun c => obind (aggT P t) (ldCells c o P t)) a
noncomputable def loadA (P : Program) (h : Heap) (t : TypeId) (a : AV) : Option AV := obind (toPtr a) (loadP P h t)
def partA (P : Program) (t : TypeId) (cs : List AV) (off : Nat) : Option AV :=
  match aggT P t with
  | some true => match siz P t with
    | some n => some (.agg ((cs.drop off).take n))
    | none => none
  | some false => cs[off]?
  | none => none

/-! ## Operations that only compute or read -/
abbrev IOp := IntKind → Int → Int → Option AV
def iAdd : IOp := fun k a b => some (.int k (wrapA k (a + b)))
def iSub : IOp := fun k a b => some (.int k (wrapA k (a - b)))
def iMul : IOp := fun k a b => some (.int k (wrapA k (a * b)))
def iQuo : IOp := fun k a b => bif eqI b 0 then none else some (.int k (wrapA k (a.tdiv b)))
def iRem : IOp := fun k a b => bif eqI b 0 then none else some (.int k (a.tmod b))
def iAnd : IOp := fun k a b => some (.int k (k.wrap (BitVec.ofInt k.bits a &&& BitVec.ofInt k.bits b).toNat))
def iOr : IOp := fun k a b => some (.int k (k.wrap (BitVec.ofInt k.bits a ||| BitVec.ofInt k.bits b).toNat))
def iXor : IOp := fun k a b => some (.int k (k.wrap (BitVec.ofInt k.bits a ^^^ BitVec.ofInt k.bits b).toNat))
def iAndNot : IOp := fun k a b => some (.int k (k.wrap (BitVec.ofInt k.bits a &&& ~~~BitVec.ofInt k.bits b).toNat))
def iNo : IOp := fun _ _ _ => none
def iEql : IOp := fun _ a b => some (.bool (eqI a b))
def iNeq : IOp := fun _ a b => some (.bool (!eqI a b))
def iLss : IOp := fun _ a b => some (.bool (ltI a b))
def iLeq : IOp := fun _ a b => some (.bool (!ltI b a))
def iGtr : IOp := fun _ a b => some (.bool (ltI b a))
def iGeq : IOp := fun _ a b => some (.bool (!ltI a b))
noncomputable def arithI (op : BinOp) : IOp :=
  BinOp.casesOn (motive := fun _ => IOp) op iAdd iSub iMul iQuo iRem iAnd iOr iXor iNo iNo iAndNot iEql iNeq iLss iLeq iGtr iGeq
def shiftI (op : BinOp) (k : IntKind) (a b : Int) : Option AV :=
  bif ltI b 0 then none else
  match op with
  | .shl => some (.int k (wrapA k (a * 2 ^ min b.toNat k.bits)))
  | .shr => some (.int k (a.fdiv (2 ^ min b.toNat k.bits)))
  | _ => none
def strOp (op : BinOp) (x y : ByteArray) : Option AV :=
  match op with
  | .add => bif Nat.blt (x.size + y.size) 9223372036854775808 then some (.str (x ++ y)) else none
  | .eql => some (.bool (x.toList == y.toList))
  | .neq => some (.bool !(x.toList == y.toList))
  | .lss => some (.bool (Op.bytesLess x.toList y.toList))
  | .leq => some (.bool (Op.bytesLess x.toList y.toList || x.toList == y.toList))
  | .gtr => some (.bool !(Op.bytesLess x.toList y.toList || x.toList == y.toList))
  | .geq => some (.bool !Op.bytesLess x.toList y.toList)
  | _ => none
/-- Field by field. -/
def eqFs (P : Program) (eq : TypeId → AV → AV → Option Bool) (xs ys : List AV) : List Field → Option Bool
  | [] => some true
  | f :: fs => if f.name = "_" then eqFs P eq xs ys fs else
    match partA P f.type xs f.offset, partA P f.type ys f.offset with
    | some a, some b => match eq f.type a b with
      | some true => eqFs P eq xs ys fs
      | some false => some false
      | none => none
    | _, _ => none
/-- Element by element. -/
def eqIs (P : Program) (eq : TypeId → AV → AV → Option Bool) (e : TypeId) (c : Nat) (xs ys : List AV) : List Nat → Option Bool
  | [] => some true
  | i :: is =>
    match partA P e xs (i * c), partA P e ys (i * c) with
    | some a, some b => match eq e a b with
      | some true => eqIs P eq e c xs ys is
      | some false => some false
      | none => none
    | _, _ => none
/-- '==' where it asks nothing of addresses. -/
def eqA (P : Program) : Nat → TypeId → AV → AV → Option Bool
  | 0, _, _, _ => none
  | d + 1, t, x, y =>
    match P.underlying t, x, y with
    | some .bool, .bool a, .bool b => some (a == b)
    | some (.int _), .int k a, .int k' b => if k = k' then some (eqI a b) else none
    | some .string, .str a, .str b => some (a == b)
    | some (.pointer _), .ptr none, .ptr b => some b.isNone
    | some (.pointer _), .ptr (some _), .ptr none => some false
    | some (.slice _), .slice none _ _ _, .slice b _ _ _ => some b.isNone
    | some (.slice _), .slice (some _) _ _ _, .slice none _ _ _ => some false
    | some (.map _ _), .map none, .map b => some b.isNone
    | some (.map _ _), .map (some _), .map none => some false
    | some (.func ..), .nilFunc, .nilFunc => some true
    | some (.func ..), .nilFunc, .func .. => some false
    | some (.func ..), .func .., .nilFunc => some false
    | some (.interface _), .nilIface, .iface .. => some false
    | some (.interface _), .iface .., .nilIface => some false
    | some (.struct fs), .agg xs, .agg ys => if P.stoodInHeld t then none else eqFs P (eqA P d) xs ys fs.toList
    | some (.array n e), .agg xs, .agg ys => match siz P e with
      | some c => eqIs P (eqA P d) e c xs ys (List.range n)
      | none => none
    | _, _, _ => none
/-- Is it a shift? -/
def isShift : BinOp → Bool
  | .shl | .shr => true
  | _ => false
noncomputable def intA (op : BinOp) (k k' : IntKind) (a b : Int) : Option AV :=
  bcase (kindEq k k') (bcase (isShift op) none (shiftI op k a b)) (bcase (isShift op) (arithI op k a b) (shiftI op k a b))
def negB (op : BinOp) (b : Bool) : Option AV :=
  match op with
  | .eql => some (.bool b)
  | .neq => some (.bool !b)
  | _ => none
def binRest (P : Program) (op : BinOp) (t : TypeId) (x y : AV) : Option AV := (eqA P 3 t x y).bind (negB op)
abbrev BOp := Program → BinOp → TypeId → Bool → AV → Option AV
def bxBool (x : Bool) : BOp := fun P op t _ y => binRest P op t (.bool x) y
def toInt : AV → Option (IntKind × Int)
  | .int k n => some (k, n)
  | _ => none
def toStr : AV → Option ByteArray
  | .str s => some s
  | _ => none
noncomputable def bxInt (k : IntKind) (a : Int) : BOp := fun _ op _ _ y => obind (toInt y) fun y => intA op k y.1 a y.2
noncomputable def bxStr (s : ByteArray) : BOp := fun _ op _ _ y => obind (toStr y) fun y => strOp op s y
def bxPtr (a : Option AAd) : BOp := fun P op t _ y => binRest P op t (.ptr a) y
def bxSlice (a : Option AAd) (l c : Nat) (u : Option Nat) : BOp := fun P op t _ y => binRest P op t (.slice a l c u) y
def bxMap (r : Option Pos) : BOp := fun P op t _ y => binRest P op t (.map r) y
def bxChan (r : Option Pos) : BOp := fun P op t _ y => binRest P op t (.chan r) y
def bxFunc (f : AFn) (a c : List AV) : BOp := fun P op t _ y => binRest P op t (.func f a c) y
def bxNilFunc : BOp := fun P op t _ y => binRest P op t .nilFunc y
def bxIface (u : TypeId) (v : AV) : BOp := fun P op t _ y => binRest P op t (.iface u v) y
def ifaceT (P : Program) (t : TypeId) : Bool :=
  match P.underlying t with
  | some (.interface _) => true
  | _ => false
def bxNilIface : BOp := fun P op t cst y =>
  match y with
  | .nilIface => if cst && ifaceT P t then negB op true else none
  | y => binRest P op t .nilIface y
def bxAgg (l : List AV) : BOp := fun P op t _ y => if P.eqGuardType P.depth t then none else binRest P op t (.agg l) y
def bxNo (_ : List AV) : BOp := fun _ _ _ _ _ => none
noncomputable def binA (P : Program) (op : BinOp) (t : TypeId) (cst : Bool) (x y : AV) : Option AV :=
  AV.casesOn (motive_1 := fun _ => BOp) x bxBool bxInt bxStr bxPtr bxSlice bxMap bxChan bxFunc bxNilFunc bxIface bxNilIface bxAgg bxNo P op t cst y
def unA (op : UnOp) (x : AV) : Option AV :=
  match op, x with
  | .neg, .int k n => some (.int k (wrapA k (0 - n)))
  | .not, .bool b => some (.bool !b)
  | _, _ => none
def convA (P : Program) (src dst : TypeId) (x : AV) : Option AV :=
  match P.underlying src, P.underlying dst, x with
  | some _, some (.int k), .int _ n => some (.int k (wrapA k n))
  | some _, some .string, .str s => some (.str s)
  | _, _, _ => none
def lenRest (P : Program) (h : Heap) (get : Pos → PTree AObj → Option AObj) (t : TypeId) (x : AV) : Option AV :=
  match P.underlying t, x with
  | some .string, .str s => some (.int .i64 s.size)
  | some (.array n _), _ => some (.int .i64 n)
  | some (.map _ _), .map none => some (.int .i64 0)
  | some (.map _ _), .map (some r) => match get r h.t with
    | some (.map es _) => some (.int .i64 es.length)
    | _ => none
  | some (.chan _ _), .chan none => some (.int .i64 0)
  | some (.chan _ _), .chan (some r) => match get r h.t with
    | some (.chan _ buf _ _) => some (.int .i64 buf.length)
    | _ => none
  | _, _ => none
def extrA (f : Int → Int → Bool) : List AV → Option AV
  | [.int k a, .int _ b] => some (.int k (bif f a b then b else a))
  | [.int k a, .int _ b, .int _ c] => some (.int k (let m := bif f a b then b else a; bif f m c then c else m))
  | _ => none
def isSliceT (P : Program) (t : TypeId) : Bool :=
  match P.underlying t with
  | some (.slice _) => true
  | _ => false
def toSliceLen : AV → Option Nat
  | .slice _ n _ _ => some n
  | _ => none
noncomputable def lenA (P : Program) (h : Heap) (t : TypeId) (x : AV) : Option AV :=
  bcase (isSliceT P t) (lenRest P h PTree.getK t x) (obind (toSliceLen x) fun n => some (.int .i64 n))
/-- A bound from 0 to n. -/
def bound (n : Nat) : AV → Option Nat
  | .int _ (.ofNat i) => bif Nat.ble i n then some i else none
  | _ => none
def boundD (n : Nat) (d : Nat) : Option AV → Option Nat
  | none => some d
  | some v => bound n v
/-- The upper bound: x[::max] without one is no Go. -/
def hiB (m len : Nat) (mx hi : Option AV) : Option Nat :=
  match mx, hi with
  | some _, none => none
  | _, _ => boundD m len hi
def sliceA (P : Program) (t : TypeId) (x : AV) (lo hi mx : Option AV) : Option AV :=
  match P.underlying t, x with
  | some .string, .str s =>
    match mx with
    | some _ => none
    | none => match boundD s.size s.size hi with
      | none => none
      | some h => match boundD h 0 lo with
        | none => none
        | some l => some (.str (s.extract l h))
  | some (.slice e), .slice a len cap none =>
    match boundD cap cap mx with
    | none => none
    | some m => match hiB m len mx hi with
      | none => none
      | some h => match boundD h 0 lo, siz P e with
        | some l, some sz => bif Nat.ble h m then some (.slice (if m = l then a else a.map fun a => ⟨a.b, a.o + l * sz⟩) (h - l) (m - l) none) else none
        | _, _ => none
  | some (.slice e), .slice (some a) len c (some u) =>
    match mx with
    | some v => match bound len v with
      | none => none
      | some m => match hiB m len (some v) hi with
        | none => none
        | some h => match boundD h 0 lo, siz P e with
          | some l, some sz => bif Nat.ble h m then some (if m = l then .slice (some a) 0 0 (some u) else .slice (some ⟨a.b, a.o + l * sz⟩) (h - l) (m - l) none) else none
          | _, _ => none
    | none => match boundD (max len c) len hi with
      | none => none
      | some h => match boundD h 0 lo, siz P e with
        | some l, some sz => bif Nat.beq sz u then some (.slice (some ⟨a.b, a.o + l * sz⟩) (h - l) (max len c - l) (some u)) else none
        | _, _ => none
  | _, _ => none
def sliceArr (P : Program) (t : TypeId) (x : AV) (lo hi mx : Option AV) : Option AV :=
  match P.underlying t, x with
  | some (.array n e), .ptr (some a) =>
    match boundD n n mx with
    | none => none
    | some m => match hiB m n mx hi with
      | none => none
      | some h => match boundD h 0 lo, siz P e with
        | some l, some sz => bif Nat.ble h m then some (.slice (some (if m = l then a else ⟨a.b, a.o + l * sz⟩)) (h - l) (m - l) none) else none
        | _, _ => none
  | _, _ => sliceA P t x lo hi mx
def fieldOff (P : Program) (t : TypeId) (f : Nat) : Option (Nat × TypeId × Nat) :=
  match P.underlying t with
  | some (.struct fs) => match fs[f]? with
    | some fd => match siz P fd.type with
      | some n => some (fd.offset, fd.type, n)
      | none => none
    | none => none
  | _ => none
/-- What an index expression goes over: an element's cells, and, of an array, the length. -/
def idxT (P : Program) (t : TypeId) : Option (Nat × Option Nat) :=
  match P.underlying t with
  | some (.slice e) => (siz P e).map fun n => (n, none)
  | some (.array m e) => (siz P e).map fun n => (n, some m)
  | _ => none
def toIdx : AV → Option Nat
  | .int _ (.ofNat i) => some i
  | _ => none
def toSliceA : AV → Option (AAd × Nat)
  | .slice (some a) n _ _ => some (a, n)
  | _ => none
noncomputable def idxAt (sz : Nat) (i : Nat) (a : AAd) (len : Nat) : Option AV :=
  bcase (Nat.blt i len) none (some (.ptr (some ⟨a.b, Nat.add a.o (Nat.mul i sz)⟩)))
noncomputable def idxA (P : Program) (t : TypeId) (x : AV) (ix : AV) : Option AV :=
  obind (idxT P t) fun d => obind (toIdx ix) fun i =>
    Option.casesOn d.2 (obind (toSliceA x) fun a => idxAt d.1 i a.1 a.2) fun m => obind (toPtr x) fun a => idxAt d.1 i a m
def indexA (P : Program) (t : TypeId) (x : AV) (ix : AV) : Option AV :=
  match P.underlying t, x, ix with
  | some (.array n e), .agg cs, .int _ (.ofNat i) =>
    bif Nat.blt i n then match siz P e with
      | some sz => partA P e cs (i * sz)
      | none => none
    else none
  | some .string, .str s, .int _ (.ofNat i) => (s.data.toList[i]?).map fun b => .int .u8 b.toNat
  | _, _, _ => none
def findE (kind : TypeDesc) (k : AV) : List AEnt → Nat → Option (Option (Nat × AV))
  | [], _ => some none
  | e :: es, i =>
    match kind, k, e.key with
    | .int _, .int ka a, .int kb b => bif kindEq ka kb then (bif eqI a b then some (some (i, e.val)) else findE kind k es (i + 1)) else none
    | .string, .str a, .str b => bif a == b then some (some (i, e.val)) else findE kind k es (i + 1)
    | .bool, .bool a, .bool b => bif a == b then some (some (i, e.val)) else findE kind k es (i + 1)
    | _, _, _ => none
def plainKey (d : TypeDesc) : AV → Bool
  | .int .. => (d matches .int _)
  | .str _ => (d matches .string)
  | .bool _ => (d matches .bool)
  | _ => false
/-! Keys of several cells: each cell alone is a number, a text or a bool. -/
def plainCell : AV → Bool
  | .int .. | .str _ | .bool _ => true
  | _ => false
def cellV : AV → Value
  | .int k n => .int k n
  | .str s => .string s
  | .bool b => .bool b
  | _ => undef
def aggV : AV → Option Value
  | .agg l => if l.all plainCell then some (.agg ⟨l.map cellV⟩) else none
  | _ => none
def wideT (P : Program) (t : TypeId) : Bool :=
  match P.underlying t with
  | some (.array _ _) | some (.struct _) => true
  | _ => false
def keyG (P : Program) (kt : TypeId) (k : AV) : Bool :=
  match aggV k with
  | some v => and (wideT P kt) (and (P.keyTypeAt 6 kt) (and (P.tiled 6 kt) (keyOf P kt v).isSome))
  | none => false
def eqC : AV → AV → Bool
  | .int k a, .int l b => and (kindEq k l) (eqI a b)
  | .str s, .str t => s.data.toList == t.data.toList
  | .bool a, .bool b => a == b
  | _, _ => false
def eqCs : List AV → List AV → Bool
  | [], [] => true
  | a :: l, b :: m => and (eqC a b) (eqCs l m)
  | _, _ => false
def eqG : AV → AV → Bool
  | .agg l, .agg m => eqCs l m
  | _, _ => false
/-- The one entry of a key. -/
def hitG (k : AV) : List AEnt → Nat → Option (Option (Nat × AV))
  | [], _ => some none
  | e :: es, i =>
    match hitG k es (i + 1) with
    | some none => some (if eqG k e.key then some (i, e.val) else none)
    | some (some r) => if eqG k e.key then none else some (some r)
    | none => none
def findK (P : Program) (kt : TypeId) (kd : TypeDesc) (k : AV) (es : List AEnt) : Option (Option (Nat × AV)) :=
  if plainKey kd k then findE kd k es 0 else if and (keyG P kt k) (es.all fun e => keyG P kt e.key) then hitG k es 0 else none
/-- A map's entries. -/
def entsA (get : Pos → PTree AObj → Option AObj) (h : Heap) : AV → Option (List AEnt)
  | .map none => some []
  | .map (some r) => match get r h.t with
    | some (.map es _) => some es
    | _ => none
  | _ => none
def lookA (P : Program) (get : Pos → PTree AObj → Option AObj) (h : Heap) (t : TypeId) (x ix : AV) (ok : Bool) : Option AV :=
  match P.underlying t with
  | some (.map kt et) =>
    match P.underlying kt with
    | some kd =>
      match entsA get h x with
      | some es => match findK P kt kd ix es with
        | some (some (_, v)) => some (if ok then .tuple [v, .bool true] else v)
        | some none => match zeroA P et with
          | some z => some (if ok then .tuple [z, .bool false] else z)
          | none => none
        | none => none
      | none => none
    | none => none
  | _ => none
def fillA (place : Nat → Option (Nat × Nat)) (setC : List AV → Nat → List AV → Option (List AV)) : List AV → List (Nat × AV) → Option (List AV)
  | cells, [] => some cells
  | cells, (i, v) :: rest =>
    match place i with
    | none => none
    | some (off, size) =>
      match v.cells with
      | none => none
      | some vc => if vc.length ≠ size then none else
        match setC vc off cells with
        | none => none
        | some cs => fillA place setC cs rest
/-- Where the fields of a struct lie, and how many cells they have. -/
def placesA (P : Program) (t : TypeId) : Option (List (Nat × Nat)) :=
  match P.underlying t with
  | some (.struct fs) => fs.toList.mapM fun f => (siz P f.type).map fun n => (f.offset, n)
  | _ => none
def arrPlace (P : Program) (t : TypeId) : Option Nat :=
  match P.underlying t with
  | some (.array _ e) => siz P e
  | _ => none
noncomputable def buildS (z : List AV) (parts : List (Nat × AV)) (pl : List (Nat × Nat)) : Option AV := obind (fillA (fun i => pl[i]?) put z parts) fun c => some (.agg c)
noncomputable def buildR (P : Program) (t : TypeId) (z : List AV) (parts : List (Nat × AV)) : Option AV :=
  obind (arrPlace P t) fun n => obind (fillA (fun i => some (i * n, n)) put z parts) fun c => some (.agg c)
noncomputable def buildA (P : Program) (t : TypeId) (parts : List (Nat × AV)) : Option AV :=
  obind (zeroC P t) fun z => Option.rec (motive := fun _ => Option AV) (buildR P t z parts) (buildS z parts) (placesA P t)
noncomputable def repL (z : List AV) (n : Nat) : List AV := Nat.rec (motive := fun _ => List AV) [] (fun _ ih => z ++ ih) n


/-! ## What only computes or reads -/
abbrev Lt := Program → Heap → Tm → Option AV
noncomputable def lMove (x : Operand) : Lt := fun _ _ tm => evalO tm x
def toBool : AV → Option Bool
  | .bool b => some b
  | _ => none
noncomputable def lPick (c a b : Operand) : Lt := fun _ _ tm => obind (evalO tm c) fun v => obind (toBool v) fun g => bcase g (evalO tm b) (evalO tm a)
noncomputable def lLoad (t : TypeId) (a : Operand) : Lt := fun P h tm => obind (evalO tm a) fun a => loadA P h t a
def nilOk : AV → Option AV
  | .ptr (some a) => some (.ptr (some a))
  | .func (.func f) a b => some (.func (.func f) a b)
  | .func (.yield f) a b => some (.func (.yield f) a b)
  | .iface t v => some (.iface t v)
  | _ => none
/-- A bound method whose receiver is a pointer that is not nil. -/
def nilOkP (P : Program) (x : AV) : Option AV :=
  match x with
  | .func (.method n) (.iface t (.ptr (some a)) :: as) c =>
    match P.info? t with
    | some i => match i.methods.toList.find? (·.name == n) with
      | some m => match m.path.toList, m.func, P.underlying t with
        | [], some (_, true), _ => some (.func (.method n) (.iface t (.ptr (some a)) :: as) c)
        | [], some (_, false), some (.pointer _) => some (.func (.method n) (.iface t (.ptr (some a)) :: as) c)
        | _, _, _ => none
      | none => none
    | none => none
  | x => nilOk x
noncomputable def lNilCheck (x : Operand) : Lt := fun P _ tm => obind (evalO tm x) (nilOkP P)
def cstO : Operand → Bool
  | .const _ => true
  | _ => false
noncomputable def lBin (op : BinOp) (t : TypeId) (x y : Operand) (_ : TypeId) : Lt := fun P _ tm => obind (evalO tm x) fun a => obind (evalO tm y) fun b => binA P op t (or (cstO x) (cstO y)) a b
noncomputable def lUn (op : UnOp) (_ : TypeId) (x : Operand) : Lt := fun _ _ tm => obind (evalO tm x) fun x => unA op x
noncomputable def lConv (s d : TypeId) (x : Operand) : Lt := fun P _ tm => obind (evalO tm x) fun x => convA P s d x
def notIface (P : Program) (t : TypeId) : Bool :=
  match P.underlying t with
  | some (.interface _) => false
  | some _ => true
  | none => false
noncomputable def lMkIface (t : TypeId) (x : Operand) : Lt := fun P _ tm => bcase (notIface P t) none (obind (evalO tm x) fun x => some (.iface t x))
def fnA : Fn → Option AFn
  | .func f => some (.func f)
  | .method n => some (.method n)
  | .methodOf t n => some (.methodOf t n)
  | _ => none
noncomputable def lMkFunc (fn : Fn) (a c : Array Operand) : Lt := fun _ _ tm => obind (fnA fn) fun f => obind (evalL tm a.toList) fun a => obind (evalL tm c.toList) fun c => some (.func f a c)
noncomputable def lSlice (t : TypeId) (x : Operand) (lo hi mx : Option Operand) : Lt := fun P _ tm =>
  obind (evalO tm x) fun x => obind (evalQ tm lo) fun lo => obind (evalQ tm hi) fun hi => obind (evalQ tm mx) fun mx => sliceArr P t x lo hi mx
noncomputable def lFieldAddr (t : TypeId) (x : Operand) (f : Nat) : Lt := fun P _ tm => obind (evalO tm x) fun x => obind (toPtr x) fun a =>
  obind (fieldOff P t f) fun d => bcase (Nat.blt 0 d.2.2) none (some (.ptr (some ⟨a.b, Nat.add a.o d.1⟩)))
def toAgg : AV → Option (List AV)
  | .agg l => some l
  | _ => none
noncomputable def lField (t : TypeId) (x : Operand) (f : Nat) : Lt := fun P _ tm => obind (evalO tm x) fun x => obind (toAgg x) fun cs =>
  obind (fieldOff P t f) fun d => partA P d.2.1 cs d.1
noncomputable def lIndexAddr (t : TypeId) (x i : Operand) : Lt := fun P _ tm => obind (evalO tm x) fun x => obind (evalO tm i) fun i => idxA P t x i
noncomputable def lIndex (t : TypeId) (x i : Operand) : Lt := fun P _ tm => obind (evalO tm x) fun x => obind (evalO tm i) fun i => indexA P t x i
noncomputable def lLookup (t : TypeId) (x i : Operand) (ok : Bool) : Lt := fun P h tm => obind (evalO tm x) fun x => obind (evalO tm i) fun i => lookA P PTree.getK h t x i ok
def toTuple : AV → Option (List AV)
  | .tuple l => some l
  | _ => none
noncomputable def lExtract (x : Operand) (i : Nat) : Lt := fun _ _ tm => obind (evalO tm x) fun x => obind (toTuple x) fun l => nth l i
noncomputable def lBuild (t : TypeId) (parts : Array (Nat × Operand)) : Lt := fun P _ tm => obind (evalP tm parts.toList) fun ps => buildA P t ps
def assertA (P : Program) (at_ : TypeId) (ok : Bool) : AV → Option AV
  | .iface t v => if t = at_ then some (if ok then .tuple [v, .bool true] else v) else
      if ok then (zeroA P at_).map fun z => .tuple [z, .bool false] else none
  | .nilIface => if ok then (zeroA P at_).map fun z => .tuple [z, .bool false] else none
  | _ => none
noncomputable def lAssert (x : Operand) (_ at_ : TypeId) (ok : Bool) : Lt := fun P _ tm => bcase (notIface P at_) none (obind (evalO tm x) fun x => assertA P at_ ok x)
def one (l : List AV) : Option AV :=
  match l with
  | [x] => some x
  | _ => none
noncomputable def lLen (args : List Operand) (ts : List TypeId) : Lt := fun P h tm => obind (evalL tm args) fun l => obind (one l) fun x => obind ts.head? fun t => lenA P h t x
def capA : AV → Option AV
  | .slice _ _ cap none => some (.int .i64 cap)
  | _ => none
noncomputable def lCap (args : List Operand) (ts : List TypeId) : Lt := fun P _ tm => obind (evalL tm args) fun l => obind (one l) fun x => obind ts.head? fun t => bcase (isSliceT P t) none (capA x)
noncomputable def lMax (args : List Operand) (_ : List TypeId) : Lt := fun _ _ tm => obind (evalL tm args) fun l => extrA ltI l
noncomputable def lMin (args : List Operand) (_ : List TypeId) : Lt := fun _ _ tm => obind (evalL tm args) fun l => extrA (fun a b => ltI b a) l

/-! ## What lays one new block and touches nothing else -/
abbrev Fs := Program → Tm → Option (AObj × (Pos → AV))
noncomputable def sAlloc (t : TypeId) : Fs := fun P _ => obind (zeroC P t) fun z => some (.cells z, fun p => .ptr (some ⟨p, 0⟩))
noncomputable def sBox (_ : TypeId) (x : Operand) : Fs := fun _ tm => obind (evalO tm x) fun v => obind v.cells fun c => some (.cells c, fun p => .ptr (some ⟨p, 0⟩))
def elemT (P : Program) (t : TypeId) : Option TypeId :=
  match P.underlying t with
  | some (.slice e) => some e
  | _ => none
noncomputable def bsA (len n : Nat) (z : List AV) (ps : List (Nat × AV)) : Option (AObj × (Pos → AV)) :=
  bcase (and (Nat.ble (Nat.mul len n) 16777216) (and (Nat.blt 0 n) (Nat.beq z.length n))) none
    (obind (fillA (fun i => some (i * n, n)) put (repL z len) ps) fun c => some (.cells c, fun p => .slice (some ⟨p, 0⟩) len len none))
noncomputable def sBuildSlice (t : TypeId) (len : Nat) (parts : Array (Nat × Operand)) : Fs := fun P tm => obind (elemT P t) fun e => obind (evalP tm parts.toList) fun ps =>
  obind (siz P e) fun n => obind (zeroC P e) fun z => bsA len n z ps
def mapT (P : Program) (t : TypeId) : Bool :=
  match P.underlying t with
  | some (.map _ _) => true
  | _ => false
noncomputable def sMakeMap (t : TypeId) (r : Option Operand) : Fs := fun P tm => bcase (mapT P t) none (Option.casesOn r (some (.map [] 0, fun p => .map (some p)))
  fun r => obind (evalO tm r) fun r => obind (toInt r) fun _ => some (.map [] 0, fun p => .map (some p)))
def chanT (P : Program) (t : TypeId) : Option TypeInfo :=
  match P.underlying t with
  | some (.chan _ e) => P.info? e
  | _ => none
noncomputable def sMakeChan (t : TypeId) (s : Operand) : Fs := fun P tm => obind (evalO tm s) fun s => obind (toIdx s) fun n => obind (chanT P t) fun i =>
  bcase (and (Nat.blt n 100000) (Nat.blt i.bytes 100000)) none (some (.chan n [] 0 0, fun p => .chan (some p)))
noncomputable def msA (l c : Nat) (i : TypeInfo) (z : List AV) : Option (AObj × (Pos → AV)) :=
  bcase (and (Nat.ble l c) (and (Nat.blt c 100000) (and (Nat.blt i.bytes 100000) (and (Nat.blt 0 i.size) (Nat.beq z.length i.size))))) none
    (some (.cells (repL z c), fun p => .slice (some ⟨p, 0⟩) l c none))
noncomputable def sMakeSlice (t : TypeId) (l c : Operand) : Fs := fun P tm => obind (elemT P t) fun e => obind (evalO tm l) fun l => obind (toIdx l) fun l =>
  obind (evalO tm c) fun c => obind (toIdx c) fun c => obind (P.info? e) fun i => obind (zeroC P e) fun z => msA l c i z
end Go.Am

/- The abstract machine's run: operations that write, calls, regions, code. -/
namespace Go.Am

noncomputable def forceP {β : Type} (p : Pos) : (Pos → β) → β :=
  Pos.rec (motive := fun _ => (Pos → β) → β) (fun k => k .h) (fun _ ih k => ih fun p => k (.o p)) (fun _ ih k => ih fun p => k (.i p)) p
/-- Lay a new block. -/
noncomputable def Heap.push {β : Type} (h : Heap) (o : AObj) (k : Pos → Heap → β) : β :=
  Heap.rec (motive := fun _ => β) (fun t n => PTree.setK o n t fun t => forceP (Pos.succ n) fun m => k n ⟨t, m⟩) h
noncomputable def Heap.put {β : Type} (h : Heap) (p : Pos) (o : AObj) (k : Heap → β) : β :=
  Heap.rec (motive := fun _ => β) (fun t n => PTree.setK o p t fun t => k ⟨t, n⟩) h
noncomputable def Heap.obj (h : Heap) (p : Pos) : Option AObj := PTree.getK p h.t

/-- A slot is written, if there is such a slot. -/
noncomputable def putS (nt : Nat) (dst : Option Tmp) (v : AV) (ov : List (Nat × AV)) (ds : List ADef) (h : Heap) : Option St :=
  Option.rec (motive := fun _ => Option St) (some ⟨ov, ds, h⟩) (fun d => bcase (Nat.blt d nt) none (some ⟨(d, v) :: ov, ds, h⟩)) dst

/-! ## Operations that write -/
noncomputable def storeC (h : Heap) (p : Pos) (o : Nat) (n : Nat) (v c : List AV) : Option (AV × Heap) :=
  bcase (Nat.beq v.length n) none (obind (Am.put v o c) fun c => forceL c fun c => h.put p (.cells c) fun h => some (undefA, h))
noncomputable def storeA (P : Program) (h : Heap) (t : TypeId) (a v : AV) : Option (AV × Heap) :=
  obind (toPtr a) fun a => obind (siz P t) fun n => obind v.cells fun v => obind (h.cellsAt a.b) (storeC h a.b a.o n v)
/-- What stands in the first n elements of a slice or a string. -/
noncomputable def srcA (h : Heap) (sz n : Nat) : AV → Option (List AV)
  | .slice none _ _ _ => bcase (Nat.beq n 0) none (some [])
  | .slice (some ⟨p, o⟩) _ _ _ => match h.cellsAt p with
    | some c => sub c o (n * sz)
    | none => none
  | .str s => bcase (and (Nat.beq sz 1) (Nat.ble n s.size)) none (some ((s.data.toList.take n).map fun b => .int .u8 b.toNat))
  | _ => none
def lenOfA : AV → Option Nat
  | .slice _ n _ _ => some n
  | .str s => some s.size
  | _ => none
def toSlice : AV → Option (Option AAd × Nat × Nat × Option Nat)
  | .slice a l c u => some (a, l, c, u)
  | _ => none
def srcT (P : Program) (t : TypeId) : Bool :=
  match P.underlying t with
  | some (.slice _) | some .string => true
  | _ => false
/-- A new block for a slice that has grown. -/
noncomputable def grow (h : Heap) (c : List AV) (len sz : Nat) : Option (AV × Heap) :=
  forceL c fun c => h.push (.cells c) fun q h => some (.slice (some ⟨q, 0⟩) len 0 (some sz), h)
/-- More elements behind a slice whose capacity is known. -/
noncomputable def appK (h : Heap) (a : AAd) (len cap n sz : Nat) (new : List AV) : Option (AV × Heap) :=
  obind (h.cellsAt a.b) fun c => bcase (Nat.ble (Nat.add len n) cap)
    (obind (sub c a.o (Nat.mul len sz)) fun old => grow h (old ++ new) (Nat.add len n) sz)
    (obind (Am.put new (Nat.add a.o (Nat.mul len sz)) c) fun c => forceL c fun c => h.put a.b (.cells c) fun h => some (.slice (some a) (Nat.add len n) cap none, h))
/-- More elements behind a slice whose capacity append chose: the elder block is not looked at again. -/
noncomputable def appU (h : Heap) (a : AAd) (len n sz u : Nat) (new : List AV) : Option (AV × Heap) :=
  obind (h.cellsAt a.b) fun c => bcase (and (Nat.beq u sz) (Nat.beq a.o 0)) none
    (obind (sub c 0 (Nat.mul len sz)) fun old => h.put a.b .dead fun h => grow h (old ++ new) (Nat.add len n) sz)
/-- More elements behind a slice whose capacity append chose, where there surely is room. -/
noncomputable def appI (h : Heap) (a : AAd) (len c n sz u : Nat) (new : List AV) : Option (AV × Heap) :=
  obind (h.cellsAt a.b) fun cs => obind (Am.put new (Nat.add a.o (Nat.mul len sz)) cs) fun cs => forceL cs fun cs => h.put a.b (.cells cs) fun h => some (.slice (some a) (Nat.add len n) c (some u), h)
noncomputable def appN (h : Heap) (a : Option AAd) (len cap : Nat) (u : Option Nat) (n sz : Nat) (new : List AV) : Option (AV × Heap) :=
  match a, u with
  | none, none => bcase (and (Nat.beq len 0) (Nat.beq cap 0)) none (grow h new n sz)
  | some a, none => appK h a len cap n sz new
  | some a, some u => bcase (Nat.ble (Nat.add len n) cap) (appU h a len n sz u new) (appI h a len cap n sz u new)
  | none, some _ => none
def fits (len cap : Nat) (u : Option Nat) : Bool :=
  match u with
  | none => Nat.ble len cap
  | some _ => true
noncomputable def appendS (h : Heap) (i : TypeInfo) (z : List AV) (x y : AV) (X : Option AAd × Nat × Nat × Option Nat) (n : Nat) : Option (AV × Heap) :=
  bcase (and (Nat.blt (Nat.add X.2.1 n) 100000) (and (Nat.blt i.bytes 100000) (and (Nat.blt 0 i.size) (and (Nat.beq z.length i.size) (fits X.2.1 X.2.2.1 X.2.2.2))))) none
    (bcase (Nat.beq n 0) (obind (srcA h i.size n y) fun new => appN h X.1 X.2.1 X.2.2.1 X.2.2.2 n i.size new) (some (x, h)))
def intT (P : Program) (t : TypeId) : Bool :=
  match P.underlying t with
  | some (.int _) => true
  | _ => false
/-- append(s, make(..)...): so many zeros. -/
noncomputable def appendZ (h : Heap) (i : TypeInfo) (z : List AV) (x : AV) (X : Option AAd × Nat × Nat × Option Nat) (n : Nat) : Option (AV × Heap) :=
  bcase (and (Nat.blt (Nat.add X.2.1 n) 100000) (and (Nat.blt i.bytes 100000) (and (Nat.beq i.size 1) (and (Nat.beq z.length i.size) (fits X.2.1 X.2.2.1 X.2.2.2))))) none
    (bcase (Nat.beq n 0) (appN h X.1 X.2.1 X.2.2.1 X.2.2.2 n i.size (repL z n)) (some (x, h)))
noncomputable def appendA (P : Program) (h : Heap) (ts : List TypeId) (x y : AV) : Option (AV × Heap) :=
  obind (obind ts.head? (elemT P)) fun e => obind ts.tail.head? fun st => bcase (srcT P st)
    (bcase (intT P st) none (obind (P.info? e) fun i => obind (zeroC P e) fun z => obind (toSlice x) fun X => obind (toIdx y) fun n => appendZ h i z x X n))
    (obind (P.info? e) fun i => obind (zeroC P e) fun z => obind (toSlice x) fun X => obind (lenOfA y) fun n => appendS h i z x y X n)
noncomputable def copyC (h : Heap) (n : Nat) (new : List AV) (a : Option AAd) : Option (AV × Heap) :=
  match a with
  | none => some (.int .i64 n, h)
  | some a => obind (h.cellsAt a.b) fun c => obind (Am.put new a.o c) fun c => forceL c fun c => h.put a.b (.cells c) fun h => some (.int .i64 n, h)
noncomputable def copyA (P : Program) (h : Heap) (ts : List TypeId) (d s : AV) : Option (AV × Heap) :=
  obind (obind ts.head? (elemT P)) fun e => obind (siz P e) fun sz => obind (toSlice d) fun D => obind (lenOfA s) fun sl => forceN (min sl D.2.1) fun n =>
    obind (srcA h sz n s) fun new => copyC h n new D.1
noncomputable def clearC (h : Heap) (z : List AV) (D : Option AAd × Nat × Nat × Option Nat) : Option (AV × Heap) :=
  match D.1 with
  | none => some (undefA, h)
  | some a => bcase (Nat.beq D.2.1 0) (obind (h.cellsAt a.b) fun c => obind (Am.put (repL z D.2.1) a.o c) fun c => forceL c fun c => h.put a.b (.cells c) fun h => some (undefA, h)) (some (undefA, h))
noncomputable def clearA (P : Program) (h : Heap) (ts : List TypeId) (x : AV) : Option (AV × Heap) :=
  obind (obind ts.head? (elemT P)) fun e => obind (zeroC P e) fun z => obind (toSlice x) fun D => clearC h z D
def setVal (v : AV) (k : AV) : List AEnt → Nat → List AEnt
  | [], _ => []
  | e :: es, 0 => ⟨k, v, e.born⟩ :: es
  | e :: es, i + 1 => e :: setVal v k es i
noncomputable def mapPutA (P : Program) (h : Heap) (t : TypeId) (m k v : AV) : Option (AV × Heap) :=
  match P.underlying t, m with
  | some (.map kt _), .map (some r) =>
    match P.underlying kt, h.obj r with
    | some kd, some (.map es clock) =>
      match findK P kt kd k es with
      | some (some (i, _)) => h.put r (.map (setVal v k es i) clock) fun h => some (undefA, h)
      | some none => h.put r (.map (es ++ [⟨k, v, clock⟩]) (clock + 1)) fun h => some (undefA, h)
      | none => none
    | _, _ => none
  | _, _ => none
def setKey (k : AV) : List AEnt → Nat → List AEnt
  | [], _ => []
  | e :: es, 0 => ⟨k, e.val, e.born⟩ :: es
  | e :: es, i + 1 => e :: setKey k es i
def setAt (v : AV) : List AEnt → Nat → List AEnt
  | [], _ => []
  | e :: es, 0 => ⟨e.key, v, e.born⟩ :: es
  | e :: es, i + 1 => e :: setAt v es i
noncomputable def mapEntryA (P : Program) (h : Heap) (t : TypeId) (m k : AV) : Option (AV × Heap) :=
  match P.underlying t, m with
  | some (.map kt et), .map (some r) =>
    match P.underlying kt, h.obj r with
    | some kd, some (.map es clock) =>
      match findK P kt kd k es with
      | some (some (i, v)) => match es[i]? with
        | some e => h.put r (.map (setKey k es i) clock) fun h => some (.tuple [v, .int .i64 e.born], h)
        | none => none
      | some none => match zeroA P et with
        | some z => h.put r (.map (es ++ [⟨k, z, clock⟩]) (clock + 1)) fun h => some (.tuple [z, .int .i64 clock], h)
        | none => none
      | none => none
    | _, _ => none
  | _, _ => none
noncomputable def entryStoreA (h : Heap) (m st v : AV) : Option (AV × Heap) :=
  match m, st with
  | .map (some r), .int _ n =>
    match h.obj r with
    | some (.map es clock) => match es.findIdx? (fun e => (e.born : Int) == n) with
      | some i => h.put r (.map (setAt v es i) clock) fun h => some (undefA, h)
      | none => none
    | _ => none
  | _, _ => none
noncomputable def sendA (h : Heap) (c v : AV) : Option (AV × Heap) :=
  match c with
  | .chan (some r) => match h.obj r with
    | some (.chan cap buf s rc) => bif Nat.blt buf.length cap then h.put r (.chan cap (buf ++ [v]) (s + 1) rc) fun h => some (undefA, h) else none
    | _ => none
  | _ => none
noncomputable def recvA (h : Heap) (c : AV) (ok : Bool) : Option (AV × Heap) :=
  match c with
  | .chan (some r) => match h.obj r with
    | some (.chan cap (v :: buf) s rc) => h.put r (.chan cap buf s (rc + 1)) fun h => some (if ok then .tuple [v, .bool true] else v, h)
    | _ => none
  | _ => none

/-! ## Calls -/
/-- Between regions: the slots that were kept, the deferred calls, the heap. -/
structure Cs where
  tm : PTree AV
  ds : List ADef
  h : Heap
structure Ex where
  code : Code → Option Pos → Fc → Cs → Option (AExit × Cs)
  call : FuncId → List AV → Heap → Option (AV × Heap)
  round : Pos → List AV → Heap → Option (AV × Heap)

/-- Along embedded structs, by value. -/
def followA (P : Program) : List FieldStep → TypeId → AV → Option (TypeId × AV)
  | [], t, v => some (t, v)
  | s :: rest, _, v =>
    if s.deref then none else
    match P.underlying s.struct, v with
    | some (.struct fs), .agg cs => match fs[s.index]? with
      | some f => match partA P f.type cs f.offset with
        | some v => followA P rest f.type v
        | none => none
      | none => none
    | _, _ => none
/-- The method of a value of a concrete type. -/
def methodA (P : Program) (t : TypeId) (v : AV) (name : String) : Option (FuncId × AV) :=
  match P.info? t with
  | none => none
  | some i => match i.methods.toList.find? (·.name == name) with
    | none => none
    | some m => match followA P m.path.toList t v, m.func with
      | some (xt, x), some (f, ptr) => match P.underlying xt with
        | some (.pointer _) => if ptr then some (f, x) else none
        | some _ => if ptr then none else some (f, x)
        | none => none
      | _, _ => none
noncomputable def enterA (P : Program) (ih : Ex) (f : FuncId) (args : List AV) (h : Heap) : Option (AV × Heap) :=
  match P.funcs[f]? with
  | some fn => if fn.name == "runtime.NumGoroutine" then none else
    match fn.body with
    | some _ => ih.call f args h
    | none => none
  | none => none
noncomputable def callM (P : Program) (ih : Ex) (recv : AV) (name : String) (args : List AV) (h : Heap) : Option (AV × Heap) :=
  match recv with
  | .iface t v => match methodA P t v name with
    | some (f, r) => enterA P ih f (r :: args) h
    | none => none
  | _ => none
noncomputable def callT (P : Program) (ih : Ex) (f : AFn) (captured args : List AV) (h : Heap) : Option (AV × Heap) :=
  match f with
  | .func f => enterA P ih f (args ++ captured) h
  | .yield p => ih.round p args h
  | .method name => match args with
    | r :: args => callM P ih r name args h
    | [] => none
  | .methodOf t name => match args, P.underlying t with
    | r :: args, some (.interface _) => callM P ih r name args h
    | r :: args, some _ => callM P ih (.iface t r) name args h
    | _, _ => none
/-! ## Operations, by their kinds -/
abbrev Hd := Program → Ex → Option Pos → Fc → PTree AV → Option Tmp → List (Nat × AV) → List ADef → Heap → Option St
abbrev Hv := Program → Ex → Option Pos → Heap → Tm → Option (AV × Heap)
/-- An operation looks only, or lays one new block, or may do more, or defers a call. -/
inductive Cls where
  | lite (f : Lt) (force reads : Bool)
  | lay (f : Fs)
  | work (f : Hv)
  | late (f : Operand) (args : List Operand)
  | no
noncomputable def liteH (f : Lt) (force _ : Bool) : Hd := fun P _ _ fc tm dst ov ds h => obind (f P h ⟨tm, ov⟩) fun v =>
  bcase force (putS fc.nt dst v ov ds h) (forceV v fun v => putS fc.nt dst v ov ds h)
noncomputable def freshH (f : Fs) : Hd := fun P _ _ fc tm dst ov ds h => obind (f P ⟨tm, ov⟩) fun r =>
  Prod.rec (motive := fun _ => Option St) (fun o v => h.push o fun p h => putS fc.nt dst (v p) ov ds h) r
noncomputable def fin (dst : Option Tmp) (nt : Nat) (ov : List (Nat × AV)) (ds : List ADef) (r : AV × Heap) : Option St :=
  Prod.rec (motive := fun _ => Option St) (fun v h => putS nt dst v ov ds h) r
noncomputable def heavyH (f : Hv) : Hd := fun P ih rnd fc tm dst ov ds h => obind (f P ih rnd h ⟨tm, ov⟩) (fin dst fc.nt ov ds)
def toFunc : AV → Option (AFn × List AV × List AV)
  | .func f a c => some (f, a, c)
  | _ => none
noncomputable def deferV (f : Operand) (args : List Operand) : Hd := fun _ _ rnd fc tm dst ov ds h => Option.rec (motive := fun _ => Option St)
  (obind (evalO ⟨tm, ov⟩ f) fun f => obind (toFunc f) fun f => obind (evalL ⟨tm, ov⟩ args) fun args =>
    putS fc.nt dst undefA ov (.call f.1 f.2.2 (f.2.1 ++ args) :: ds) h) (fun _ => none) rnd
def hNo : Hd := fun _ _ _ _ _ _ _ _ _ => none
noncomputable def clsH (c : Cls) : Hd := Cls.rec (motive := fun _ => Hd) liteH freshH heavyH deferV hNo c

noncomputable def vStore (t : TypeId) (a x : Operand) : Hv := fun P _ _ h tm => obind (evalO tm a) fun a => obind (evalO tm x) fun x => storeA P h t a x
noncomputable def vMapPut (t : TypeId) (m k x : Operand) : Hv := fun P _ _ h tm => obind (evalO tm m) fun m => obind (evalO tm k) fun k => obind (evalO tm x) fun x => mapPutA P h t m k x
noncomputable def vMapEntry (t : TypeId) (m k : Operand) : Hv := fun P _ _ h tm => obind (evalO tm m) fun m => obind (evalO tm k) fun k => mapEntryA P h t m k
noncomputable def vEntryStore (m st x : Operand) : Hv := fun _ _ _ h tm => obind (evalO tm m) fun m => obind (evalO tm st) fun st => obind (evalO tm x) fun x => entryStoreA h m st x
noncomputable def vSend (c x : Operand) : Hv := fun _ _ _ h tm => obind (evalO tm c) fun c => obind (evalO tm x) fun x => sendA h c x
def chanZ (P : Program) (t : TypeId) : Option AV :=
  match P.underlying t with
  | some (.chan _ e) => zeroA P e
  | _ => none
noncomputable def vRecv (ct : TypeId) (c : Operand) (ok : Bool) : Hv := fun P _ _ h tm => obind (chanZ P ct) fun _ => obind (evalO tm c) fun c => recvA h c ok
def two (l : List AV) : Option (AV × AV) :=
  match l with
  | [x, y] => some (x, y)
  | _ => none
noncomputable def vAppend (args : List Operand) (ts : List TypeId) : Hv := fun P _ _ h tm => obind (evalL tm args) fun l => obind (two l) fun x => appendA P h ts x.1 x.2
noncomputable def vCopy (args : List Operand) (ts : List TypeId) : Hv := fun P _ _ h tm => obind (evalL tm args) fun l => obind (two l) fun x => copyA P h ts x.1 x.2
noncomputable def vClear (args : List Operand) (ts : List TypeId) : Hv := fun P _ _ h tm => obind (evalL tm args) fun l => obind (one l) fun x => clearA P h ts x
noncomputable def vRecover (args : List Operand) (_ : List TypeId) : Hv := fun _ _ rnd h tm => obind (evalL tm args) fun _ => Option.rec (motive := fun _ => Option (AV × Heap)) (some (.nilIface, h)) (fun _ => none) rnd
noncomputable def vNo (_ : List Operand) (_ : List TypeId) : Hv := fun _ _ _ _ _ => none


abbrev BCl := List Operand → List TypeId → Cls
noncomputable def bLen : BCl := fun a t => .lite (lLen a t) true true
noncomputable def bCap : BCl := fun a t => .lite (lCap a t) true false
noncomputable def bMax : BCl := fun a t => .lite (lMax a t) true false
noncomputable def bMin : BCl := fun a t => .lite (lMin a t) true false
noncomputable def bAppend : BCl := fun a t => .work (vAppend a t)
noncomputable def bCopy : BCl := fun a t => .work (vCopy a t)
noncomputable def bClear : BCl := fun a t => .work (vClear a t)
noncomputable def bRecover : BCl := fun a t => .work (vRecover a t)
def bNo : BCl := fun _ _ => .no
noncomputable def builtinC (b : Builtin) : BCl :=
  Builtin.rec (motive := fun _ => BCl) bAppend bCap bClear bNo bNo bCopy bNo bNo bLen bNo bMax bMin bNo bNo bNo bNo bNo bRecover bNo bNo bNo bNo bNo bNo bNo bNo b
/-- The library's maps.clone. -/
def isClone (P : Program) (f : AFn) : Bool :=
  match f with
  | .func g => match P.funcs[g]? with
    | some fn => and fn.body.isNone (and (fn.name == "maps.clone") (fn.origin == ""))
    | none => false
  | _ => false
noncomputable def cloneM (h : Heap) (args : List AV) : Option (AV × Heap) :=
  match args with
  | [.iface t (.map (some r))] => match h.obj r with
    | some (.map es clock) => h.push (.map es clock) fun p h => some (.iface t (.map (some p)), h)
    | _ => none
  | _ => none
noncomputable def vCallV (f : Operand) (args : List Operand) : Hv := fun P ih _ h tm => obind (evalO tm f) fun f => obind (toFunc f) fun f => obind (evalL tm args) fun args =>
  bcase (isClone P f.1) (callT P ih f.1 f.2.2 (f.2.1 ++ args) h) (cloneM h ((f.2.1 ++ args) ++ f.2.2))
noncomputable def vInvoke (r : Operand) (name : String) (args : List Operand) : Hv := fun P ih _ h tm => obind (evalO tm r) fun r => obind (evalL tm args) fun args => callM P ih r name args h
noncomputable def cValue (f : Operand) : BCl := fun args _ => .work (vCallV f args)
noncomputable def cInvoke (r : Operand) (name : String) : BCl := fun args _ => .work (vInvoke r name args)
noncomputable def kCall (c : Call) : Cls :=
  Callee.rec (motive := fun _ => BCl) cValue cInvoke builtinC c.callee c.args.toList c.argTypes.toList
noncomputable def kDefer (c : Call) : Cls := Callee.rec (motive := fun _ => List Operand → Cls) (fun f args => .late f args) (fun _ _ _ => .no) (fun _ _ => .no) c.callee c.args.toList

noncomputable def kMove (x : Operand) : Cls := .lite (lMove x) false false
noncomputable def kPick (c a b : Operand) : Cls := .lite (lPick c a b) false false
noncomputable def kAlloc (t : TypeId) : Cls := .lay (sAlloc t)
noncomputable def kBox (t : TypeId) (x : Operand) : Cls := .lay (sBox t x)
noncomputable def kBuild (t : TypeId) (ps : Array (Nat × Operand)) : Cls := .lite (lBuild t ps) false false
noncomputable def kBuildSlice (t : TypeId) (n : Nat) (ps : Array (Nat × Operand)) : Cls := .lay (sBuildSlice t n ps)
noncomputable def kMapPut (t : TypeId) (m k x : Operand) : Cls := .work (vMapPut t m k x)
noncomputable def kLoad (t : TypeId) (a : Operand) : Cls := .lite (lLoad t a) false true
noncomputable def kStore (t : TypeId) (a x : Operand) : Cls := .work (vStore t a x)
def kNo1 (_ : Nat) : Cls := .no
noncomputable def kNilCheck (x : Operand) : Cls := .lite (lNilCheck x) false false
noncomputable def kBin (op : BinOp) (t : TypeId) (x y : Operand) (u : TypeId) : Cls := .lite (lBin op t x y u) true false
noncomputable def kUn (op : UnOp) (t : TypeId) (x : Operand) : Cls := .lite (lUn op t x) true false
noncomputable def kConv (s d : TypeId) (x : Operand) : Cls := .lite (lConv s d x) true false
def kNo2 (_ : TypeId) (_ : Operand) : Cls := .no
noncomputable def kMkIface (t : TypeId) (x : Operand) : Cls := .lite (lMkIface t x) false false
noncomputable def kMkFunc (fn : Fn) (a c : Array Operand) : Cls := .lite (lMkFunc fn a c) false false
noncomputable def kMakeMap (t : TypeId) (r : Option Operand) : Cls := .lay (sMakeMap t r)
noncomputable def kMakeChan (t : TypeId) (s : Operand) : Cls := .lay (sMakeChan t s)
noncomputable def kMakeSlice (t : TypeId) (l c : Operand) : Cls := .lay (sMakeSlice t l c)
noncomputable def kSlice (t : TypeId) (x : Operand) (lo hi mx : Option Operand) : Cls := .lite (lSlice t x lo hi mx) true false
noncomputable def kFieldAddr (t : TypeId) (x : Operand) (f : Nat) : Cls := .lite (lFieldAddr t x f) true false
noncomputable def kField (t : TypeId) (x : Operand) (f : Nat) : Cls := .lite (lField t x f) false false
noncomputable def kIndexAddr (t : TypeId) (x i : Operand) : Cls := .lite (lIndexAddr t x i) true false
noncomputable def kIndex (t : TypeId) (x i : Operand) : Cls := .lite (lIndex t x i) true false
noncomputable def kLookup (t : TypeId) (x i : Operand) (ok : Bool) : Cls := .lite (lLookup t x i ok) false true
noncomputable def kMapEntry (t : TypeId) (m k : Operand) : Cls := .work (vMapEntry t m k)
noncomputable def kEntryStore (_ : TypeId) (m st x : Operand) : Cls := .work (vEntryStore m st x)
def kNo5 (_ : Operand) (_ : Bool) : Cls := .no
def kNo6 (_ : Operand) : Cls := .no
noncomputable def kAssert (x : Operand) (t u : TypeId) (ok : Bool) : Cls := .lite (lAssert x t u ok) false false
noncomputable def kExtract (x : Operand) (i : Nat) : Cls := .lite (lExtract x i) false false
def kNo7 (_ : Call) : Cls := .no
noncomputable def kSend (c x : Operand) : Cls := .work (vSend c x)
noncomputable def kRecv (t : TypeId) (c : Operand) (ok : Bool) : Cls := .work (vRecv t c ok)
def kNo8 (_ : Array SelectCase) (_ : Bool) : Cls := .no
noncomputable def clsOf (op : Op) : Cls :=
  Op.rec (motive := fun _ => Cls) kMove kMove kPick kAlloc kBox kBuild kBuildSlice kMapPut kLoad kStore kNo1 kNo1 kNilCheck kBin kUn kConv kNo2 kMkIface kMkFunc
    kMakeMap kMakeChan kMakeSlice kSlice kFieldAddr kField kIndexAddr kIndex kLookup kMapPut kMapEntry kEntryStore kNo2 kNo5 kNo6 kAssert kExtract kCall kNo7 kDefer kNo6 kSend kRecv kNo8 op
noncomputable def opH (op : Op) : Hd := clsH (clsOf op)

/-! ## Regions -/
noncomputable def getO (l : List Oper) : Nat → Option Oper :=
  List.rec (motive := fun _ => Nat → Option Oper) (fun _ => none) (fun x _ ih n => Nat.rec (motive := fun _ => Option Oper) (some x) (fun n _ => ih n) n) l
noncomputable def dstOf (ops : List Oper) (j : Nat) : Option Tmp := obind (getO ops j) (·.dst)
/-- Does a slot hold the wanted answer? -/
noncomputable def guardA (ops : List Oper) (tm : Tm) (j : Nat) (w : Bool) : Option Bool :=
  obind (dstOf ops j) fun d => obind (eTmp d tm) fun v => Option.rec (motive := fun _ => Option Bool) (some false) (fun b => some (bcase b (not w) w)) (toBool v)
noncomputable def stepA (P : Program) (ih : Ex) (rnd : Option Pos) (ops : List Oper) (fc : Fc) (tm : PTree AV) (o : Oper) (s : St) : Option St :=
  St.rec (motive := fun _ => Option St) (fun ov ds h => Option.rec (motive := fun _ => Option St) (opH o.op P ih rnd fc tm o.dst ov ds h)
    (fun g => Prod.rec (motive := fun _ => Option St) (fun j w => obind (guardA ops ⟨tm, ov⟩ j w) fun b =>
      bcase b (putS fc.nt o.dst undefA ov ds h) (opH o.op P ih rnd fc tm o.dst ov ds h)) g) o.guard) s
noncomputable def opsA (P : Program) (ih : Ex) (rnd : Option Pos) (ops : List Oper) (fc : Fc) (tm : PTree AV) (l : List Oper) : St → Option St :=
  List.rec (motive := fun _ => St → Option St) (fun s => some s) (fun o _ ihl s => obind (stepA P ih rnd ops fc tm o s) ihl) l
noncomputable def seenOv (t : Nat) (l : List Nat) : Bool := List.rec (motive := fun _ => Bool) false (fun x _ ih => bcase (Nat.beq x t) ih true) l
abbrev FK (β : Type) := List Nat → PTree AV → (PTree AV → β) → β
/-- What is kept of the slots that a region wrote, the youngest first. -/
noncomputable def flush {β : Type} (keep : Nat → Bool) (l : List (Nat × AV)) : FK β :=
  List.rec (motive := fun _ => FK β) (fun _ tm k => k tm)
    (fun x _ ih => Prod.rec (motive := fun _ => FK β) (fun s v done tm k => bcase (keep s) (ih done tm k)
      (bcase (seenOv s done) (PTree.setK v (Pos.key s) tm fun tm => ih (s :: done) tm k) (ih done tm k))) x) l
/-! ## Regions whose order is drawn -/
def eqP : Pos → Pos → Bool
  | .h, .h => true
  | .o p, .o q => eqP p q
  | .i p, .i q => eqP p q
  | _, _ => false
def eqAt : Option AAd → Option AAd → Bool
  | none, none => true
  | some a, some b => and (eqP a.b b.b) (Nat.beq a.o b.o)
  | _, _ => false
def eqOP : Option Pos → Option Pos → Bool
  | none, none => true
  | some a, some b => eqP a b
  | _, _ => false
def eqON : Option Nat → Option Nat → Bool
  | none, none => true
  | some a, some b => Nat.beq a b
  | _, _ => false
def eqVs (f : AV → AV → Bool) : List AV → List AV → Bool
  | [], [] => true
  | a :: l, b :: m => and (f a b) (eqVs f l m)
  | _, _ => false
def eqFn : AFn → AFn → Bool
  | .func f, .func g => Nat.beq f g
  | .method f, .method g => f == g
  | .methodOf t f, .methodOf u g => and (Nat.beq t u) (f == g)
  | _, _ => false
/-- Surely the same value. -/
def eqV : Nat → AV → AV → Bool
  | 0, _, _ => false
  | n + 1, a, b => match a, b with
    | .bool x, .bool y => x == y
    | .int k x, .int l y => and (k == l) (x == y)
    | .str s, .str t => s.data.toList == t.data.toList
    | .ptr p, .ptr q => eqAt p q
    | .slice p l c u, .slice q m d v => and (eqAt p q) (and (Nat.beq l m) (and (Nat.beq c d) (eqON u v)))
    | .map p, .map q => eqOP p q
    | .chan p, .chan q => eqOP p q
    | .func f a c, .func g b d => and (eqFn f g) (and (eqVs (eqV n) a b) (eqVs (eqV n) c d))
    | .nilFunc, .nilFunc => true
    | .nilIface, .nilIface => true
    | .iface t v, .iface u w => and (Nat.beq t u) (eqV n v w)
    | .agg l, .agg m => eqVs (eqV n) l m
    | .tuple l, .tuple m => eqVs (eqV n) l m
    | _, _ => false
def hasB (m i : Nat) : Bool := Nat.beq (Nat.land (Nat.shiftRight m i) 1) 1
def subB (m a : Nat) : Bool := Nat.beq (Nat.lor m a) a
def bitN (i : Nat) : Nat := Nat.shiftLeft 1 i
noncomputable def nthN (l : List Nat) : Nat → Option Nat :=
  List.rec (motive := fun _ => Nat → Option Nat) (fun _ => none) (fun x _ ih n => Nat.rec (motive := fun _ => Option Nat) (some x) (fun n _ => ih n) n) l
/-- An operation, its place, and what comes before it in every order. -/
structure Pl where
  i : Nat
  a : Nat
  o : Oper
noncomputable def ancE (prev : List Nat) (i : Nat) (es : List Edge) : Option Nat :=
  List.rec (motive := fun _ => Option Nat) (some 0) (fun e _ r => bcase (Region.binds .any e) r (bcase (Nat.blt e.on i) none
    (obind r fun m => obind (nthN prev (Nat.sub (Nat.pred i) e.on)) fun a => some (Nat.lor (Nat.lor m a) (bitN e.on))))) es
noncomputable def plan (l : List Oper) : Nat → List Nat → Option (List Pl) :=
  List.rec (motive := fun _ => Nat → List Nat → Option (List Pl)) (fun _ _ => some [])
    (fun o _ ih i prev => obind (ancE prev i o.after.toList) fun a => forceN a fun a => forceN (Nat.succ i) fun j => obind (ih j (a :: prev)) fun r => some (⟨i, a, o⟩ :: r)) l
noncomputable def isLay (c : Cls) : Bool := Cls.rec (motive := fun _ => Bool) (fun _ _ _ => false) (fun _ => true) (fun _ => false) (fun _ _ => false) false c
noncomputable def isWork (c : Cls) : Bool := Cls.rec (motive := fun _ => Bool) (fun _ _ _ => false) (fun _ => false) (fun _ => true) (fun _ _ => false) false c
noncomputable def waitsB (x : Pl) (l : List Pl) : Bool :=
  List.rec (motive := fun _ => Bool) false (fun y _ ih => bcase (and (isWork (clsOf y.o.op)) (not (hasB y.a x.i))) ih true) l
/-- New blocks that need not be there when later work is done come last. -/
noncomputable def partP (l : List Pl) : Nat → List Pl × List Pl :=
  List.rec (motive := fun _ => Nat → List Pl × List Pl) (fun _ => ([], []))
    (fun x l ih dm => bcase (or (not (Nat.beq (Nat.land x.a dm) 0)) (and (isLay (clsOf x.o.op)) (waitsB x l)))
      (Prod.rec (motive := fun _ => List Pl × List Pl) (fun a b => (x :: a, b)) (ih dm))
      (Prod.rec (motive := fun _ => List Pl × List Pl) (fun a b => (a, x :: b)) (ih (Nat.lor dm (bitN x.i))))) l
noncomputable def sched (ops : List Oper) : Option (List Pl) := obind (plan ops 0 []) fun l => some (Prod.rec (motive := fun _ => List Pl) (fun a b => a ++ b) (partP l 0))
/-- A run along one order: the values, the slots written, the events (new blocks, work), the heap before each, what was looked at. -/
structure Dr where
  es : List (Nat × Nat × AV)
  dm : Nat
  em : Nat
  evs : List (Nat × Heap)
  lv : List (Nat × (Heap → Option AV) × AV)
  h : Heap
noncomputable def pickK {β : Type} (a : Nat) (es : List (Nat × Nat × AV)) : (List (Nat × AV) → β) → β :=
  List.rec (motive := fun _ => (List (Nat × AV) → β) → β) (fun k => k [])
    (fun x _ ih k => Prod.rec (motive := fun _ => β) (fun i y => bcase (hasB a i) (ih k) (ih fun l => k (y :: l))) x) es
noncomputable def putD (nt i : Nat) (dst : Option Tmp) (v : AV) (es : List (Nat × Nat × AV)) (dm : Nat) (k : List (Nat × Nat × AV) → Nat → Option Dr) : Option Dr :=
  Option.rec (motive := fun _ => Option Dr) (k es dm) (fun d => bcase (and (Nat.blt d nt) (not (hasB dm d))) none (forceN (Nat.lor dm (bitN d)) fun dm => k ((i, d, v) :: es) dm)) dst
noncomputable def sameV (f : Heap → Option AV) (h : Heap) (v : AV) : Bool := Option.rec (motive := fun _ => Bool) false (fun u => eqV 8 u v) (f h)
noncomputable def backD (a : Nat) (f : Heap → Option AV) (v : AV) (evs : List (Nat × Heap)) : Bool :=
  List.rec (motive := fun _ => Bool) true (fun x _ ih => Prod.rec (motive := fun _ => Bool) (fun m h => bcase (subB m a) (and (sameV f h v) ih) true) x) evs
abbrev Lv := List (Nat × (Heap → Option AV) × AV)
noncomputable def stayD {β : Type} (a : Nat) (lv : Lv) : (Lv → β) → β :=
  List.rec (motive := fun _ => (Lv → β) → β) (fun k => k [])
    (fun x _ ih k => bcase (hasB a x.1) (ih fun l => k (x :: l)) (ih k)) lv
noncomputable def sureD (h : Heap) (lv : Lv) : Bool := List.rec (motive := fun _ => Bool) true (fun x _ ih => bcase (sameV x.2.1 h x.2.2) false ih) lv
noncomputable def eventD (nt i a : Nat) (dst : Option Tmp) (v : AV) (es : List (Nat × Nat × AV)) (dm em : Nat) (evs : List (Nat × Heap)) (lv : Lv) (h h' : Heap) : Option Dr :=
  putD nt i dst v es dm fun es dm => forceN (Nat.lor em (bitN i)) fun em => stayD a lv fun lv => bcase (sureD h' lv) none (some ⟨es, dm, em, (em, h) :: evs, lv, h'⟩)
noncomputable def wantD (ops : List Oper) (tm : Tm) (g : Option (Nat × Bool)) : Option Bool :=
  Option.rec (motive := fun _ => Option Bool) (some true) (fun g => Prod.rec (motive := fun _ => Option Bool) (fun j w => guardA ops tm j w) g) g
noncomputable def drawOp (P : Program) (ih : Ex) (rnd : Option Pos) (ops : List Oper) (fc : Fc) (tm : PTree AV) (x : Pl) (s : Dr) : Option Dr :=
  Dr.rec (motive := fun _ => Option Dr) (fun es dm em evs lv h => Pl.rec (motive := fun _ => Option Dr) (fun i a o => pickK a es fun ov =>
    obind (wantD ops ⟨tm, ov⟩ o.guard) fun g => bcase g (putD fc.nt i o.dst undefA es dm fun es dm => some ⟨es, dm, em, evs, lv, h⟩)
      (Cls.rec (motive := fun _ => Option Dr)
        (fun f _ reads => obind (f P h ⟨tm, ov⟩) fun v => forceV v fun v =>
          bcase reads (putD fc.nt i o.dst v es dm fun es dm => some ⟨es, dm, em, evs, lv, h⟩)
            (bcase (backD a (fun h => f P h ⟨tm, ov⟩) v evs) none (putD fc.nt i o.dst v es dm fun es dm => some ⟨es, dm, em, evs, (i, (fun h => f P h ⟨tm, ov⟩), v) :: lv, h⟩)))
        (fun f => obind (f P ⟨tm, ov⟩) fun r => Prod.rec (motive := fun _ => Option Dr) (fun ob mk => h.push ob fun p h' => eventD fc.nt i a o.dst (mk p) es dm em evs lv h h') r)
        (fun f => bcase (subB em a) none (obind (f P ih rnd h ⟨tm, ov⟩) fun r => Prod.rec (motive := fun _ => Option Dr) (fun v h' => eventD fc.nt i a o.dst v es dm em evs lv h h') r))
        (fun _ _ => none) none (clsOf o.op))) x) s
/-- The slots that are kept and may have been written when an operation is done, but by what surely comes before it. -/
noncomputable def clearsD (keep : Nat → Bool) (x : Pl) (l : List Pl) : List Nat :=
  List.rec (motive := fun _ => List Nat) [] (fun y _ ih => Option.rec (motive := fun _ => List Nat) ih
    (fun d => bcase (and (keep d) (and (not (hasB y.a x.i)) (not (Nat.beq y.i x.i)))) ih (d :: ih)) y.o.dst) l
noncomputable def dropL (tm : PTree AV) (l : List Nat) : PTree AV := List.rec (motive := fun _ => PTree AV) tm (fun d _ ih => PTree.delK (Pos.key d) ih fun t => t) l
/-- Nothing that comes behind an operation in the list comes before it in every order. -/
noncomputable def laterB (x : Pl) (l : List Pl) : Bool := List.rec (motive := fun _ => Bool) false (fun z _ ih => bcase (hasB x.a z.i) ih true) l
noncomputable def orderedB (l : List Pl) : Bool := List.rec (motive := fun _ => Bool) true (fun x l ih => bcase (or (hasB x.a x.i) (laterB x l)) ih false) l
/-- The slots that an operation may look at. -/
noncomputable def tmD (keep : Nat → Bool) (l : List Pl) (tm : PTree AV) (x : Pl) : PTree AV := dropL tm (clearsD keep x l)
noncomputable def goD (P : Program) (ih : Ex) (rnd : Option Pos) (ops : List Oper) (fc : Fc) (tm : Pl → PTree AV) (l : List Pl) : Dr → Option Dr :=
  List.rec (motive := fun _ => Dr → Option Dr) (fun s => some s) (fun x _ ihl s => obind (drawOp P ih rnd ops fc (tm x) x s) ihl) l
noncomputable def flushD {β : Type} (keep : Nat → Bool) (es : List (Nat × Nat × AV)) : PTree AV → (PTree AV → β) → β :=
  List.rec (motive := fun _ => PTree AV → (PTree AV → β) → β) (fun tm k => k tm)
    (fun x _ ih tm k => bcase (keep x.2.1) (ih tm k) (PTree.setK x.2.2 (Pos.key x.2.1) tm fun tm => ih tm k)) es

/-! ## Code -/
noncomputable def setParams (params : List Tmp) : List AV → Nat → (Nat → Bool) → PTree AV → Option (PTree AV) :=
  List.rec (motive := fun _ => List AV → Nat → (Nat → Bool) → PTree AV → Option (PTree AV)) (fun _ _ _ tm => some tm)
    (fun t _ ih as nt keep tm => List.rec (motive := fun _ => Option (PTree AV)) none
      (fun a as _ => bcase (Nat.blt t nt) none (bcase (keep t) (ih as nt keep tm) (PTree.setK a (Pos.key t) tm fun tm => ih as nt keep tm))) as) params
abbrev Cr := Option (AExit × Cs)
abbrev Cd := Program → Ex → Option Pos → Fc → Cs → Cr
def cSkip : Cd := fun _ _ _ _ s => some (.norm, s)
noncomputable def regionK (fc : Fc) (tm : PTree AV) (r : St) : Cr :=
  St.rec (motive := fun _ => Cr) (fun ov ds h => flush fc.keep ov [] tm fun tm => some (.norm, ⟨tm, ds, h⟩)) r
noncomputable def drawA (P : Program) (ih : Ex) (rnd : Option Pos) (ops : List Oper) (fc : Fc) (tm : PTree AV) (ds : List ADef) (h : Heap) : Cr :=
  obind (sched ops) fun l => bcase (orderedB l) none (obind (goD P ih rnd ops fc (tmD fc.keep l tm) l ⟨[], 0, 0, [], [], h⟩) fun r =>
    Dr.rec (motive := fun _ => Cr) (fun es _ _ _ _ h => flushD fc.keep es tm fun tm => some (.norm, ⟨tm, ds, h⟩)) r)
noncomputable def cRegion (_ : Nat) (ops : Array Oper) (draw : Bool) : Cd := fun P ih rnd fc s =>
  Cs.rec (motive := fun _ => Cr) (fun tm ds h =>
    bcase draw (obind (opsA P ih rnd ops.toList fc tm ops.toList ⟨[], ds, h⟩) (regionK fc tm)) (drawA P ih rnd ops.toList fc tm ds h)) s
noncomputable def seqK (b : Code) (ih : Ex) (rnd : Option Pos) (fc : Fc) (r : AExit × Cs) : Cr :=
  Prod.rec (motive := fun _ => Cr) (fun e s => AExit.rec (motive := fun _ => Cr) (ih.code b rnd fc s) (fun id => some (.exit id, s)) (some (.ret, s)) e) r
noncomputable def cSeq (a b : Code) : Cd := fun _ ih rnd fc s => obind (ih.code a rnd fc s) (seqK b ih rnd fc)
noncomputable def cCond (c : Operand) (a b : Code) : Cd := fun _ ih rnd fc s => obind (evalO ⟨s.tm, []⟩ c) fun v => obind (toBool v) fun g => bcase g (ih.code b rnd fc s) (ih.code a rnd fc s)
noncomputable def blockK (id : Nat) (r : AExit × Cs) : Cr :=
  Prod.rec (motive := fun _ => Cr) (fun e s => AExit.rec (motive := fun _ => Cr) (some (.norm, s)) (fun i => bcase (Nat.beq i id) (some (.exit i, s)) (some (.norm, s))) (some (.ret, s)) e) r
noncomputable def cBlock (id : Nat) (body : Code) : Cd := fun _ ih rnd fc s => obind (ih.code body rnd fc s) (blockK id)
noncomputable def cLoop (body : Code) : Cd := fun _ ih rnd fc s => obind (ih.code body rnd fc s) (seqK (.loop body) ih rnd fc)
noncomputable def afterA (ih : Ex) (fc : Fc) (s : Cs) (d l : Pos) (h : Heap) : Cr :=
  match h.obj l with
  | some (.loop L) =>
    h.put l (.loop { L with state := .exhausted }) fun h =>
    match L.state with
    | .busy => none
    | _ => match L.pending with
      | none => some (.norm, ⟨s.tm, .coll d :: s.ds, h⟩)
      | some c => ih.code c none fc ⟨s.tm, .coll d :: s.ds, h⟩
  | _ => none
noncomputable def rangeT (P : Program) (ih : Ex) (f : AFn) (args : List AV) (h : Heap) : Option (AV × Heap) :=
  match f with
  | .func g => enterA P ih g args h
  | _ => none
noncomputable def cRangeFunc (f : Operand) (params : Array Tmp) (assign body : Code) : Cd := fun P ih rnd fc s =>
  Option.rec (motive := fun _ => Cr)
    (obind (evalO ⟨s.tm, []⟩ f) fun f => obind (toFunc f) fun f =>
      s.h.push (.dfr (some [])) fun d h =>
      h.push (.loop ⟨.ready, none, fc, s.tm, params.toList, assign, body, d⟩) fun l h =>
      obind (rangeT P ih f.1 (f.2.1 ++ [.func (.yield l) [] []] ++ f.2.2) h) fun r => afterA ih fc s d l r.2) (fun _ => none) rnd
def cExit (id : Nat) : Cd := fun _ _ _ _ s => some (.exit id, s)
noncomputable def cScope (body : Code) : Cd := fun _ ih rnd fc s => ih.code body rnd fc s
def cLabel (_ : Nat) : Cd := cSkip
def cGoto (_ : Nat) : Cd := fun _ _ _ _ _ => none
def cRet : Cd := fun _ _ _ _ s => some (.ret, s)
def cRefuse (_ : String) : Cd := fun _ _ _ _ _ => none
noncomputable def codeA (c : Code) : Cd :=
  Code.rec (motive := fun _ => Cd) cSkip cRegion (fun a b _ _ => cSeq a b) (fun c a b _ _ => cCond c a b) (fun id b _ => cBlock id b) (fun b _ => cLoop b)
    (fun f p a b _ _ => cRangeFunc f p a b) cExit (fun b _ => cScope b) cLabel cGoto cRet cRefuse c
def goneOn (e : AExit) : Option Code :=
  match e with
  | .norm => none
  | .exit id => some (.exit id)
  | .ret => some .ret
def isNorm : AExit → Bool
  | .norm => true
  | _ => false
/-- The end of a round: the loop's object as it stands then says how the loop goes on. -/
noncomputable def roundEnd (p : Pos) (e : AExit) (s : Cs) : Option (AV × Heap) :=
  match s.ds, s.h.obj p with
  | [], some (.loop L) => s.h.put p (.loop { L with state := bcase (isNorm e) .done .ready, pending := goneOn e }) fun h => some (.bool (isNorm e), h)
  | _, _ => none
noncomputable def roundBody (ih : Ex) (p : Pos) (fc : Fc) (body : Code) (e : AExit) (s : Cs) : Option (AV × Heap) :=
  match e, s.h.obj p with
  | .norm, some (.loop L) =>
    match L.state with
    | .ready => s.h.put p (.loop { L with state := .busy }) fun h => obind (ih.code body (some p) fc ⟨s.tm, s.ds, h⟩) fun r => roundEnd p r.1 r.2
    | _ => none
  | _, _ => none
noncomputable def roundA (ih : Ex) (p : Pos) (args : List AV) (h : Heap) : Option (AV × Heap) :=
  match h.obj p with
  | some (.loop L) => bcase (Nat.beq args.length L.params.length) none (obind (setParams L.params args L.fc.nt L.fc.keep L.tm) fun tm =>
      obind (ih.code L.assign (some p) L.fc ⟨tm, [], h⟩) fun r => roundBody ih p L.fc L.body r.1 r.2)
  | _ => none
/-- The deferred calls of a frame that returns. -/
noncomputable def leaveA (P : Program) (ih : Ex) : List ADef → Heap → Option Heap
  | [], h => some h
  | .call f captured args :: ds, h => match f with
    | .func _ => match callT P ih f captured args h with
      | some (_, h) => leaveA P ih ds h
      | none => none
    | _ => none
  | .coll p :: ds, h => match h.obj p with
    | some (.dfr (some [])) => h.put p (.dfr none) fun h => leaveA P ih ds h
    | _ => none
noncomputable def resultA (P : Program) (tm : PTree AV) (h : Heap) : ResultVar → Option AV
  | .tmp t => PTree.getK (Pos.key t) tm
  | .cell a t => obind (PTree.getK (Pos.key a) tm) fun a => loadA P h t a
noncomputable def resultsA (P : Program) (tm : PTree AV) (h : Heap) (l : List ResultVar) : Option (List AV) :=
  List.rec (motive := fun _ => Option (List AV)) (some []) (fun x _ ih => obind (resultA P tm h x) fun v => obind ih fun r => some (v :: r)) l
def oneOr (l : List AV) : AV :=
  match l with
  | [v] => v
  | vs => .tuple vs
noncomputable def backA (P : Program) (ih : Ex) (rs : List ResultVar) (s : Cs) : Option (AV × Heap) :=
  obind (leaveA P ih s.ds s.h) fun h => obind (resultsA P s.tm h rs) fun vs => some (oneOr vs, h)
noncomputable def bodyK (P : Program) (ih : Ex) (rs : List ResultVar) (r : AExit × Cs) : Option (AV × Heap) :=
  Prod.rec (motive := fun _ => Option (AV × Heap)) (fun e s => AExit.rec (motive := fun _ => Option (AV × Heap)) (backA P ih rs s) (fun _ => none) (backA P ih rs s) e) r
/-- A function's slots: as many as its text has, or as there are arguments. -/
def slots (fn : Func) (n : Nat) : Nat := max n fn.ntmps
/-- Which slots are kept behind a region: those of a list. -/
noncomputable def memL (t : Nat) (l : List Nat) : Bool := List.rec (motive := fun _ => Bool) false (fun x _ ih => bcase (Nat.beq x t) ih true) l
noncomputable def nthL (l : List (List Nat)) : Nat → List Nat := List.rec (motive := fun _ => Nat → List Nat) (fun _ => []) (fun x _ ih n => Nat.rec (motive := fun _ => List Nat) x (fun n _ => ih n) n) l
noncomputable def keepL (l : List Nat) (t : Nat) : Bool := memL t l
/-- As a function begins, each slot that is kept holds nothing yet. -/
noncomputable def undefT (l : List Nat) : PTree AV := List.rec (motive := fun _ => PTree AV) .nil (fun d _ ih => PTree.setK undefA (Pos.key d) ih fun t => t) l
noncomputable def callA (P : Program) (keep : FuncId → List Nat) (ih : Ex) (f : FuncId) (args : List AV) (h : Heap) : Option (AV × Heap) :=
  obind P.funcs[f]? fun fn => obind fn.body fun c => forceN (slots fn args.length) fun nt =>
    obind (setParams (List.range args.length) args nt (keepL (keep f)) (undefT (keep f))) fun tm =>
      obind (ih.code c none ⟨nt, keepL (keep f)⟩ ⟨tm, [], h⟩) (bodyK P ih fn.results.toList)
noncomputable def run (P : Program) (keep : FuncId → List Nat) (n : Nat) : Ex :=
  Nat.rec (motive := fun _ => Ex) ⟨fun _ _ _ _ => none, fun _ _ _ => none, fun _ _ _ => none⟩
    (fun _ ih => ⟨fun c => codeA c P ih, fun f as h => callA P keep ih f as h, fun p as h => roundA ih p as h⟩) n
/-- Does a function without arguments answer true? -/
noncomputable def says (P : Program) (keep : FuncId → List Nat) (n : Nat) (f : FuncId) : Bool :=
  match (run P keep n).call f [] ⟨.nil, .h⟩ with
  | some (.bool b, _) => b
  | _ => false
end Go.Am

/- What the abstract machine's values and memory have to do with the model's: addresses are renamed, what append chose is left open. -/
namespace Go.Am

/-- A renaming: a block of the machine's is a block of the model's of so many cells. -/
abbrev Ren := Pos → Option (Nat × Nat)
def Ren.le (β β' : Ren) : Prop := ∀ p x, β p = some x → β' p = some x
theorem Ren.le_refl (β : Ren) : β.le β := fun _ _ h => h
theorem Ren.le_trans {a b c : Ren} (h : a.le b) (h' : b.le c) : a.le c := fun p x hx => h' p x (h p x hx)

inductive FnR (β : Ren) : AFn → Fn → Prop where
  | func (f : FuncId) : FnR β (.func f) (.func f)
  | method (n : String) : FnR β (.method n) (.method n)
  | methodOf (t : TypeId) (n : String) : FnR β (.methodOf t n) (.methodOf t n)
  | yield {p : Pos} {r n : Nat} (h : β p = some (r, n)) : FnR β (.yield p) (.yield r)

mutual
inductive VR (β : Ren) : AV → Value → Prop where
  | bool (b : Bool) : VR β (.bool b) (.bool b)
  | int (k : IntKind) (n : Int) : VR β (.int k n) (.int k n)
  | str (s : ByteArray) : VR β (.str s) (.string s)
  | ptrNil : VR β (.ptr none) (.pointer none)
  | ptr {p : Pos} {o r n : Nat} (h : β p = some (r, n)) : VR β (.ptr (some ⟨p, o⟩)) (.pointer (some ⟨r, o, none⟩))
  | sliceNil (len cap : Nat) : VR β (.slice none len cap none) (.slice none len cap)
  | sliceK {p : Pos} {o r n len cap : Nat} (h : β p = some (r, n)) : VR β (.slice (some ⟨p, o⟩) len cap none) (.slice (some ⟨r, o, none⟩) len cap)
  | sliceU {p : Pos} {o r n len cap c sz : Nat} (h : β p = some (r, n)) (hl : len ≤ cap) (hb : o + cap * sz ≤ n) (hc : c ≤ cap) :
      VR β (.slice (some ⟨p, o⟩) len c (some sz)) (.slice (some ⟨r, o, none⟩) len cap)
  | sliceE (a : AAd) (a' : Addr) (sz : Nat) : VR β (.slice (some a) 0 0 (some sz)) (.slice (some a') 0 0)
  | mapNil : VR β (.map none) (.map none)
  | map {p : Pos} {r n : Nat} (h : β p = some (r, n)) : VR β (.map (some p)) (.map (some r))
  | chanNil : VR β (.chan none) (.chan none)
  | chan {p : Pos} {r n : Nat} (h : β p = some (r, n)) : VR β (.chan (some p)) (.chan (some r))
  | func {f : AFn} {f' : Fn} {a c : List AV} {a' c' : List Value} (hf : FnR β f f') (ha : VRs β a a') (hc : VRs β c c') :
      VR β (.func f a c) (.func f' ⟨a'⟩ ⟨c'⟩)
  | nilFunc : VR β .nilFunc .nilFunc
  | iface (t : TypeId) {v : AV} {v' : Value} (h : VR β v v') : VR β (.iface t v) (.iface t v')
  | nilIface : VR β .nilIface .nilIface
  | agg {l : List AV} {l' : List Value} (h : VRs β l l') (hf : l.all flat = true) : VR β (.agg l) (.agg ⟨l'⟩)
  | tuple {l : List AV} {l' : List Value} (h : VRs β l l') : VR β (.tuple l) (.tuple ⟨l'⟩)
inductive VRs (β : Ren) : List AV → List Value → Prop where
  | nil : VRs β [] []
  | cons {v : AV} {v' : Value} {l : List AV} {l' : List Value} (h : VR β v v') (hl : VRs β l l') : VRs β (v :: l) (v' :: l')
end

theorem FnR.mono {β β' : Ren} (hb : β.le β') {f : AFn} {f' : Fn} (h : FnR β f f') : FnR β' f f' := by
  cases h with
  | func f => exact .func f
  | method n => exact .method n
  | methodOf t n => exact .methodOf t n
  | yield h => exact .yield (hb _ _ h)
mutual
theorem VR.mono {β β' : Ren} (hb : β.le β') : ∀ {v : AV} {v' : Value}, VR β v v' → VR β' v v'
  | _, _, .bool b => .bool b
  | _, _, .int k n => .int k n
  | _, _, .str s => .str s
  | _, _, .ptrNil => .ptrNil
  | _, _, .ptr h => .ptr (hb _ _ h)
  | _, _, .sliceNil l c => .sliceNil l c
  | _, _, .sliceK h => .sliceK (hb _ _ h)
  | _, _, .sliceU h hl hn hc => .sliceU (hb _ _ h) hl hn hc
  | _, _, .sliceE a a' s => .sliceE a a' s
  | _, _, .mapNil => .mapNil
  | _, _, .map h => .map (hb _ _ h)
  | _, _, .chanNil => .chanNil
  | _, _, .chan h => .chan (hb _ _ h)
  | _, _, .func hf ha hc => .func (hf.mono hb) (VRs.mono hb ha) (VRs.mono hb hc)
  | _, _, .nilFunc => .nilFunc
  | _, _, .iface t h => .iface t (VR.mono hb h)
  | _, _, .nilIface => .nilIface
  | _, _, .agg h hf => .agg (VRs.mono hb h) hf
  | _, _, .tuple h => .tuple (VRs.mono hb h)
theorem VRs.mono {β β' : Ren} (hb : β.le β') : ∀ {l : List AV} {l' : List Value}, VRs β l l' → VRs β' l l'
  | _, _, .nil => .nil
  | _, _, .cons h hl => .cons (VR.mono hb h) (VRs.mono hb hl)
end

section lists
variable {β : Ren}
theorem VRs.length {l : List AV} {l' : List Value} (h : VRs β l l') : l.length = l'.length := by
  induction l generalizing l' with
  | nil => cases h; rfl
  | cons v l ih => cases h with | cons h hl => simp [ih hl]
theorem VRs.append {a b : List AV} {a' b' : List Value} (h : VRs β a a') (h' : VRs β b b') : VRs β (a ++ b) (a' ++ b') := by
  induction a generalizing a' with
  | nil => cases h; exact h'
  | cons v l ih => cases h with | cons h hl => exact .cons h (ih hl)
theorem VRs.get {l : List AV} {l' : List Value} (h : VRs β l l') {i : Nat} {v : AV} (hi : l[i]? = some v) : ∃ v', l'[i]? = some v' ∧ VR β v v' := by
  induction l generalizing l' i with
  | nil => simp at hi
  | cons x l ih => cases h with
    | cons h hl => cases i with
      | zero => simp at hi; subst hi; exact ⟨_, rfl, h⟩
      | succ i => simp at hi; simpa using ih hl hi
theorem VRs.drop {l : List AV} {l' : List Value} (h : VRs β l l') (n : Nat) : VRs β (l.drop n) (l'.drop n) := by
  induction n generalizing l l' with
  | zero => exact h
  | succ n ih => cases h with
    | nil => exact .nil
    | cons h hl => exact ih hl
theorem VRs.take {l : List AV} {l' : List Value} (h : VRs β l l') (n : Nat) : VRs β (l.take n) (l'.take n) := by
  induction n generalizing l l' with
  | zero => exact .nil
  | succ n ih => cases h with
    | nil => exact .nil
    | cons h hl => exact .cons h (ih hl)
theorem VRs.replicateL {z : List AV} {z' : List Value} (h : VRs β z z') : ∀ n, VRs β (repL z n) ((List.replicate n z').flatten)
  | 0 => .nil
  | n + 1 => by rw [List.replicate_succ, List.flatten_cons]; exact h.append (VRs.replicateL h n)
/-- A value's cells are the model's, each one cell alone. -/
theorem VR.cells {v : AV} {v' : Value} (h : VR β v v') {c : List AV} (hc : v.cells = some c) : VRs β c v'.cells.toList ∧ c.all flat = true := by
  have h0 := h
  cases h with
  | agg h hf => cases hc; exact ⟨h, hf⟩
  | tuple h => cases hc
  | _ => cases hc; exact ⟨.cons h0 .nil, rfl⟩
theorem VR.flat {v : AV} {v' : Value} (h : VR β v v') (hf : flat v = true) : v'.oneCell' = true := by
  cases h <;> first | rfl | cases hf
end lists

/-! ## The small tools say what they should -/
theorem obind_some {α γ : Type} {r : Option α} {f : α → Option γ} {x : γ} : obind r f = some x ↔ ∃ a, r = some a ∧ f a = some x := by
  cases r with
  | none => simp [obind]
  | some a => simp [obind]
theorem bcase_eq {γ : Type} (g : Bool) (f t : γ) : bcase g f t = if g then t else f := by cases g <;> rfl
theorem bcase_none {γ : Type} {g : Bool} {t : Option γ} {x : γ} (h : bcase g none t = some x) : g = true ∧ t = some x := by
  cases g
  · cases h
  · exact ⟨rfl, h⟩
theorem nth_eq (l : List AV) (n : Nat) : nth l n = l[n]? := by
  induction l generalizing n with
  | nil => rfl
  | cons x l ih => cases n with
    | zero => rfl
    | succ n => exact (ih n).trans (by simp)
theorem dropK_eq (l : List AV) (n : Nat) : dropK l n = l.drop n := by
  induction l generalizing n with
  | nil => simp [dropK]
  | cons x l ih => cases n with
    | zero => rfl
    | succ n => exact (ih n)
theorem takeN_some {n : Nat} {l r : List AV} (h : takeN n l = some r) : n ≤ l.length ∧ r = l.take n := by
  induction n generalizing l r with
  | zero => cases h; simp
  | succ n ih =>
    cases l with
    | nil => cases h
    | cons x xs =>
      change Option.casesOn (takeN n xs) none (fun r => some (x :: r)) = some r at h
      cases hr : takeN n xs with
      | none => rw [hr] at h; cases h
      | some r' =>
        rw [hr] at h; cases h
        obtain ⟨h1, h2⟩ := ih hr
        exact ⟨by simp; omega, by simp [h2]⟩
theorem sub_some {l r : List AV} {o n : Nat} (h : sub l o n = some r) : r = (l.drop o).take n ∧ n ≤ l.length - o := by
  obtain ⟨h1, h2⟩ := takeN_some h
  rw [dropK_eq] at h1 h2
  exact ⟨h2, by simpa using h1⟩
theorem over_some {vs c r : List AV} (h : over vs c = some r) : vs.length ≤ c.length ∧ r = vs ++ c.drop vs.length := by
  induction vs generalizing c r with
  | nil => cases h; simp
  | cons v vs ih =>
    cases c with
    | nil => cases h
    | cons x xs =>
      change Option.casesOn (over vs xs) none (fun r => some (v :: r)) = some r at h
      cases hr : over vs xs with
      | none => rw [hr] at h; cases h
      | some r' =>
        rw [hr] at h; cases h
        obtain ⟨h1, h2⟩ := ih hr
        exact ⟨by simp; omega, by simp [h2]⟩
theorem put_some {vs c r : List AV} {o : Nat} (h : put vs o c = some r) : o + vs.length ≤ c.length ∧ r = c.take o ++ vs ++ c.drop (o + vs.length) := by
  induction o generalizing c r with
  | zero =>
    obtain ⟨h1, h2⟩ := over_some (vs := vs) (c := c) (r := r) h
    exact ⟨by omega, by simp [h2]⟩
  | succ o ih =>
    cases c with
    | nil => cases h
    | cons x xs =>
      change Option.casesOn (put vs o xs) none (fun r => some (x :: r)) = some r at h
      cases hr : put vs o xs with
      | none => rw [hr] at h; cases h
      | some r' =>
        rw [hr] at h; cases h
        obtain ⟨h1, h2⟩ := ih hr
        exact ⟨by simp; omega, by rw [h2]; simp [Nat.add_right_comm o 1]⟩
theorem forceL_eq {γ : Type} (l : List AV) (k : List AV → γ) : forceL l k = k l := by
  induction l generalizing k with
  | nil => rfl
  | cons x l ih => exact (ih _)
theorem forceN_eq {γ : Type} (n : Nat) (k : Nat → γ) : forceN n k = k n := by cases n <;> rfl
theorem forceI_eq {γ : Type} (n : Int) (k : Int → γ) : forceI n k = k n := by
  cases n with
  | ofNat m => exact forceN_eq m fun m => k (.ofNat m)
  | negSucc m => exact forceN_eq m fun m => k (.negSucc m)
theorem forceB_eq {γ : Type} (b : Bool) (k : Bool → γ) : forceB b k = k b := by cases b <;> rfl
theorem fvAt_eq {γ : Type} (a : AAd) (f : AAd → AV) (k : AV → γ) : fvAt a f k = k (f a) := by
  cases a with | mk p o => exact forceN_eq o fun o => k (f ⟨p, o⟩)
theorem fvPtr_eq {γ : Type} (a : Option AAd) (k : AV → γ) : fvPtr a k = k (.ptr a) := by
  cases a with
  | none => rfl
  | some a => exact fvAt_eq a (fun a => .ptr (some a)) k
theorem fvSlice_eq {γ : Type} (a : Option AAd) (l c : Nat) (u : Option Nat) (k : AV → γ) : fvSlice a l c u k = k (.slice a l c u) := by
  unfold fvSlice
  rw [forceN_eq, forceN_eq]
  cases a with
  | none => rfl
  | some a => exact fvAt_eq a (fun a => .slice (some a) l c u) k
theorem forceV_eq {γ : Type} (v : AV) (k : AV → γ) : forceV v k = k v := by
  cases v with
  | bool b => exact forceB_eq b fun b => k (.bool b)
  | int kd n => exact forceI_eq n fun n => k (.int kd n)
  | ptr a => exact fvPtr_eq a k
  | slice a l c u => exact fvSlice_eq a l c u k
  | _ => rfl
theorem forceP_eq {γ : Type} (p : Pos) (k : Pos → γ) : forceP p k = k p := by
  induction p generalizing k with
  | h => rfl
  | o p ih => exact ih _
  | i p ih => exact ih _
theorem Heap.push_eq {γ : Type} (h : Heap) (o : AObj) (k : Pos → Heap → γ) : h.push o k = k h.next ⟨PTree.set o h.next h.t, h.next.succ⟩ := by
  cases h; simp only [Heap.push]; rw [PTree.setK_eq, forceP_eq]
theorem Heap.put_eq {γ : Type} (h : Heap) (p : Pos) (o : AObj) (k : Heap → γ) : h.put p o k = k ⟨PTree.set o p h.t, h.next⟩ := by
  cases h; simp only [Heap.put]; rw [PTree.setK_eq]
theorem Heap.obj_eq (h : Heap) (p : Pos) : h.obj p = PTree.get p h.t := PTree.getK_eq p h.t
theorem Heap.cellsAt_some {h : Heap} {p : Pos} {c : List AV} (e : h.cellsAt p = some c) : PTree.get p h.t = some (.cells c) := by
  unfold Heap.cellsAt at e
  rw [PTree.getK_eq] at e
  obtain ⟨o, h1, h2⟩ := obind_some.1 e
  cases o <;> simp [ocells] at h2
  rw [h1, h2]
theorem blt_eq (a b : Nat) : Nat.blt a b = decide (a < b) := by
  rw [Bool.eq_iff_iff, Nat.blt_eq]; simp
theorem ble_eq (a b : Nat) : Nat.ble a b = decide (a ≤ b) := by
  rw [Bool.eq_iff_iff, Nat.ble_eq]; simp
theorem beq_eq (a b : Nat) : Nat.beq a b = decide (a = b) := by
  rw [Bool.eq_iff_iff, Nat.beq_eq]; simp
theorem ltI_eq (a b : Int) : ltI a b = decide (a < b) := by
  cases a with
  | ofNat m => cases b with
    | ofNat n => simp [ltI, blt_eq]
    | negSucc n => simp only [ltI]; rw [eq_comm, decide_eq_false_iff_not]; have := Int.negSucc_lt_zero n; have : (0 : Int) ≤ Int.ofNat m := Int.natCast_nonneg m; omega
  | negSucc m => cases b with
    | ofNat n => simp only [ltI]; rw [eq_comm, decide_eq_true_iff]; have := Int.negSucc_lt_zero m; have : (0 : Int) ≤ Int.ofNat n := Int.natCast_nonneg n; omega
    | negSucc n => simp only [ltI, blt_eq]; rw [Bool.eq_iff_iff]; simp only [decide_eq_true_eq]; rw [Int.negSucc_eq, Int.negSucc_eq]; omega
theorem eqI_eq (a b : Int) : eqI a b = (a == b) := by
  cases a with
  | ofNat m => cases b with
    | ofNat n => simp only [eqI, beq_eq]; rw [Bool.eq_iff_iff]; simp; omega
    | negSucc n => simp only [eqI]; rfl
  | negSucc m => cases b with
    | ofNat n => simp only [eqI]; rfl
    | negSucc n => simp only [eqI, beq_eq]; rw [Bool.eq_iff_iff]; simp
theorem kindEq_eq {a b : IntKind} (h : kindEq a b = true) : a = b := by simpa [kindEq] using h
end Go.Am

/- Memory: the machine's heap against the model's world, and what loads, stores and new blocks do to both. -/
namespace Go.Am
variable {β : Ren}

/-- What is known of slots. -/
def TmT (β : Ren) (tm : PTree AV) (arr : Array Value) : Prop := ∀ t v, PTree.get (Pos.key t) tm = some v → VR β v (arr.getD t undef)
def Kp (fc : Fc) (tm : PTree AV) : Prop := ∀ t v, PTree.get (Pos.key t) tm = some v → fc.keep t = true
inductive ERs (β : Ren) : List AEnt → List MapEntry → Prop where
  | nil : ERs β [] []
  | cons {k v : AV} {k' v' : Value} (born : Nat) {es : List AEnt} {es' : List MapEntry} (hk : VR β k k') (hv : VR β v v') (h : ERs β es es') :
      ERs β (⟨k, v, born⟩ :: es) (⟨k', v', born⟩ :: es')
structure LoopR (β : Ren) (L : ALoop) (L' : Loop) : Prop where
  state : L.state = L'.state
  pending : L.pending = L'.pending
  params : L.params = L'.params.toList
  assign : L.assign = L'.assign
  body : L.body = L'.body
  size : L'.tmps.size = L.fc.nt
  tmps : TmT β L.tm L'.tmps
  keep : Kp L.fc L.tm
  defers : ∃ n, β L.defers = some (L'.defers, n)
inductive OR (β : Ren) (n : Nat) : AObj → Obj → Prop where
  | cells {c : List AV} {c' : Array Value} {e : TypeId} (hl : c.length ≤ n) (hn : c'.size = n) (h : VRs β c (c'.toList.take c.length)) (hf : c.all flat = true) :
      OR β n (.cells c) (.cells c' e (0, 0))
  | dead (o : Obj) : OR β n .dead o
  | map {es : List AEnt} {es' : Array MapEntry} (clock : Nat) (h : ERs β es es'.toList) : OR β n (.map es clock) (.map es' clock)
  | chan (cap : Nat) {buf : List AV} {buf' : Array Value} (s r : Nat) (h : VRs β buf buf'.toList) : OR β n (.chan cap buf s r) (.chan cap buf' false s r false)
  | loop {L : ALoop} {L' : Loop} (h : LoopR β L L') : OR β n (.loop L) (.loop L')
  | dfrSome : OR β n (.dfr (some [])) (.deferred (some []))
  | dfrNone : OR β n (.dfr none) (.deferred none)

theorem TmT.mono {β' : Ren} (hb : β.le β') {tm : PTree AV} {arr : Array Value} (h : TmT β tm arr) : TmT β' tm arr := fun t v e => (h t v e).mono hb
theorem ERs.mono {β' : Ren} (hb : β.le β') {es : List AEnt} {es' : List MapEntry} (h : ERs β es es') : ERs β' es es' := by
  induction h with
  | nil => exact .nil
  | cons b hk hv _ ih => exact .cons b (hk.mono hb) (hv.mono hb) ih
theorem LoopR.mono {β' : Ren} (hb : β.le β') {L : ALoop} {L' : Loop} (h : LoopR β L L') : LoopR β' L L' :=
  ⟨h.state, h.pending, h.params, h.assign, h.body, h.size, h.tmps.mono hb, h.keep, let ⟨n, e⟩ := h.defers; ⟨n, hb _ _ e⟩⟩
theorem OR.mono {β' : Ren} (hb : β.le β') {n : Nat} {o : AObj} {o' : Obj} (h : OR β n o o') : OR β' n o o' := by
  cases h with
  | cells hl hn h hf => exact .cells hl hn (h.mono hb) hf
  | dead => exact .dead _
  | map c h => exact .map c (h.mono hb)
  | chan c s r h => exact .chan c s r (h.mono hb)
  | loop h => exact .loop (h.mono hb)
  | dfrSome => exact .dfrSome
  | dfrNone => exact .dfrNone

/-- The heap is the world's, but for the names. -/
structure Rel (β : Ren) (h : Heap) (w : World) : Prop where
  obj : ∀ p o r n, PTree.get p h.t = some o → β p = some (r, n) → ∃ o', w.heap[r]? = some o' ∧ OR β n o o'
  inj : ∀ p q r n m, β p = some (r, n) → β q = some (r, m) → p = q ∨ PTree.get p h.t = some .dead ∨ PTree.get q h.t = some .dead
  fresh : ∀ p o, PTree.get p h.t = some o → p.toNat < h.next.toNat
  inW : ∀ p r n, β p = some (r, n) → r < w.heap.size
def Live (h : Heap) (p : Pos) : Prop := ∃ o, PTree.get p h.t = some o ∧ o ≠ .dead
/-- Nothing but the heap and the draws. -/
def SameW (w w' : World) : Prop := w'.os = w.os ∧ w'.tape = w.tape ∧ w'.output = w.output
theorem SameW.trans {a b c : World} (h : SameW a b) (k : SameW b c) : SameW a c := ⟨k.1.trans h.1, k.2.1.trans h.2.1, k.2.2.trans h.2.2⟩
/-- What a piece of a run may do to both. -/
structure Ext (β : Ren) (h : Heap) (w : World) (β' : Ren) (h' : Heap) (w' : World) : Prop where
  le : β.le β'
  nextLe : h.next.toNat ≤ h'.next.toNat
  sizeLe : w.heap.size ≤ w'.heap.size
  new : ∀ p r n, β' p = some (r, n) → β p = some (r, n) ∨
    (h.next.toNat ≤ p.toNat ∧ p.toNat < h'.next.toNat ∧ (w.heap.size ≤ r ∨ ∃ q m, Live h q ∧ β q = some (r, m)))
  stay : ∀ p, p.toNat < h.next.toNat → (PTree.get p h.t = none → PTree.get p h'.t = none) ∧ (PTree.get p h.t = some .dead → PTree.get p h'.t = some .dead)
  frame : ∀ r, r < w.heap.size → (∀ q m, β q = some (r, m) → ¬ Live h q) → w'.heap[r]? = w.heap[r]?
  same : SameW w w'
/-- Names that are in use before a piece of a run, or that come behind it. -/
def Dom (β : Ren) (h h' : Heap) : Prop := ∀ p x, β p = some x → p.toNat < h.next.toNat ∨ h'.next.toNat ≤ p.toNat

theorem Ext.refl (β : Ren) (h : Heap) (w : World) : Ext β h w β h w :=
  ⟨Ren.le_refl β, Nat.le_refl _, Nat.le_refl _, fun _ _ _ e => .inl e, fun _ _ => ⟨id, id⟩, fun _ _ _ => rfl, ⟨rfl, rfl, rfl⟩⟩
theorem live_back {h h' : Heap} {p : Pos} (hs : (PTree.get p h.t = none → PTree.get p h'.t = none) ∧ (PTree.get p h.t = some .dead → PTree.get p h'.t = some .dead))
    (hl : Live h' p) : Live h p := by
  obtain ⟨o, e, hd⟩ := hl
  cases hg : PTree.get p h.t with
  | none => rw [hs.1 hg] at e; cases e
  | some o' =>
    refine ⟨o', hg, ?_⟩
    intro hh
    rw [hs.2 (hh ▸ hg)] at e
    exact hd (Option.some.inj e).symm
theorem Ext.trans {β β₁ β₂ : Ren} {h h₁ h₂ : Heap} {w w₁ w₂ : World} (hd : Dom β h h₂) (hr : Rel β₁ h₁ w₁) (a : Ext β h w β₁ h₁ w₁) (b : Ext β₁ h₁ w₁ β₂ h₂ w₂) :
    Ext β h w β₂ h₂ w₂ := by
  have back : ∀ q m r, β q = some (r, m) → Live h₁ q → Live h q := by
    intro q m r e hl
    rcases hd q _ e with hlt | hge
    · exact live_back (a.stay q hlt) hl
    · obtain ⟨o, eo, _⟩ := hl
      have := hr.fresh q o eo
      have := b.nextLe
      omega
  refine ⟨Ren.le_trans a.le b.le, Nat.le_trans a.nextLe b.nextLe, Nat.le_trans a.sizeLe b.sizeLe, ?_, ?_, ?_, a.same.trans b.same⟩
  · intro p r n e
    rcases b.new p r n e with e1 | ⟨h1, h2, h3⟩
    · rcases a.new p r n e1 with e0 | ⟨h1, h2, h3⟩
      · exact .inl e0
      · exact .inr ⟨h1, Nat.lt_of_lt_of_le h2 b.nextLe, h3⟩
    · refine .inr ⟨Nat.le_trans a.nextLe h1, h2, ?_⟩
      rcases h3 with h3 | ⟨q, m, hl, e⟩
      · exact .inl (Nat.le_trans a.sizeLe h3)
      · rcases a.new q r m e with e0 | ⟨_, _, h4⟩
        · exact .inr ⟨q, m, back q m r e0 hl, e0⟩
        · exact h4
  · intro p hp
    have h1 := a.stay p hp
    have h2 := b.stay p (Nat.lt_of_lt_of_le hp a.nextLe)
    exact ⟨fun e => h2.1 (h1.1 e), fun e => h2.2 (h1.2 e)⟩
  · intro r hr' hq
    rw [b.frame r (Nat.lt_of_lt_of_le hr' a.sizeLe) ?_, a.frame r hr' hq]
    intro q m e hl
    rcases a.new q r m e with e0 | ⟨_, _, h4⟩
    · exact hq q m e0 (back q m r e0 hl)
    · rcases h4 with h4 | ⟨q', m', hl', e'⟩
      · omega
      · exact hq q' m' e' hl'
theorem Dom.first {h h₁ h₂ : Heap} (hd : Dom β h h₂) (h2 : h₁.next.toNat ≤ h₂.next.toNat) : Dom β h h₁ :=
  fun p x e => (hd p x e).imp id (Nat.le_trans h2)
theorem Dom.second {β₁ : Ren} {h h₁ h₂ : Heap} {w w₁ : World} (hd : Dom β h h₂) (a : Ext β h w β₁ h₁ w₁) : Dom β₁ h₁ h₂ := by
  intro p x e
  obtain ⟨r, n⟩ := x
  rcases a.new p r n e with e0 | ⟨_, h2, _⟩
  · exact (hd p _ e0).imp (fun h => Nat.lt_of_lt_of_le h a.nextLe) id
  · exact .inl h2

/-! ## What a block holds -/
theorem Rel.cells {h : Heap} {w : World} (hr : Rel β h w) {p : Pos} {c : List AV} {r n : Nat} (hc : h.cellsAt p = some c) (hb : β p = some (r, n)) :
    ∃ c' e, w.heap[r]? = some (.cells c' e (0, 0)) ∧ c.length ≤ n ∧ c'.size = n ∧ VRs β c (c'.toList.take c.length) ∧ c.all flat = true := by
  obtain ⟨o', e1, e2⟩ := hr.obj p _ r n (Heap.cellsAt_some hc) hb
  cases e2 with
  | cells hl hn h hf => exact ⟨_, _, e1, hl, hn, h, hf⟩
theorem cell_of_block {w : World} {r : Nat} {c' : Array Value} {e : TypeId} {f : Nat × Nat} (h : w.heap[r]? = some (.cells c' e f)) (i : Nat) :
    w.cell? ⟨r, i, none⟩ = c'[i]? := by simp [World.cell?, h]
theorem frozen_of_block {w : World} {r : Nat} {c' : Array Value} {e : TypeId} (h : w.heap[r]? = some (.cells c' e (0, 0))) (i : Nat) :
    w.frozen? ⟨r, i, none⟩ = false := by simp [World.frozen?, h]
theorem VRs.at_ {c : List AV} {c' : Array Value} (h : VRs β c (c'.toList.take c.length)) {i : Nat} {v : AV} (hi : c[i]? = some v) :
    ∃ v', c'[i]? = some v' ∧ VR β v v' := by
  obtain ⟨v', e, hv⟩ := h.get hi
  have hlt : i < c.length := by
    rcases Nat.lt_or_ge i c.length with hh | hh
    · exact hh
    · rw [List.getElem?_eq_none hh] at hi; cases hi
  rw [List.getElem?_take, if_pos hlt] at e
  exact ⟨v', by simpa using e, hv⟩
theorem all_get {l : List AV} (h : l.all flat = true) {i : Nat} {v : AV} (hi : l[i]? = some v) : flat v = true :=
  List.all_eq_true.1 h v (List.mem_of_getElem? hi)
theorem all_take {l : List AV} (h : l.all flat = true) (n : Nat) : (l.take n).all flat = true :=
  List.all_eq_true.2 fun v hv => List.all_eq_true.1 h v (List.mem_of_mem_take hv)
theorem all_drop {l : List AV} (h : l.all flat = true) (n : Nat) : (l.drop n).all flat = true :=
  List.all_eq_true.2 fun v hv => List.all_eq_true.1 h v (List.mem_of_mem_drop hv)

theorem addr_add (r o n : Nat) : Addr.add ⟨r, o, none⟩ n = ⟨r, o + n, none⟩ := Addr.add_lit r o n

/-- Cells in a row are read. -/
theorem run_loadCells_block {P : Program} {w : World} {r o n : Nat} {c' : Array Value} {e : TypeId} {f : Nat × Nat} (h : w.heap[r]? = some (.cells c' e f))
    (hn : o + n ≤ c'.size) : (loadCells ⟨r, o, none⟩ n).run P w = .ok (Array.mk ((c'.toList.drop o).take n)) w := by
  have hlen : ((c'.toList.drop o).take n).length = n := by simp; omega
  have := run_loadCells_list (P := P) (w := w) ⟨r, o, none⟩ ((c'.toList.drop o).take n) (by
    intro j v hj
    rw [addr_add, cell_of_block h]
    rw [List.getElem?_take] at hj
    split at hj
    · rw [List.getElem?_drop] at hj; simpa using hj
    · cases hj)
  rw [hlen] at this
  exact this
end Go.Am

/- Memory: a block laid anew, a block turned, on both sides. -/
namespace Go.Am
variable {β : Ren}

def setBlock (w : World) (r : Nat) (o : Obj) : World := { w with heap := w.heap.setIfInBounds r o }
theorem setBlock_size (w : World) (r : Nat) (o : Obj) : (setBlock w r o).heap.size = w.heap.size := by simp [setBlock]
theorem setBlock_same {w : World} {r : Nat} (h : r < w.heap.size) (o : Obj) : (setBlock w r o).heap[r]? = some o := by
  simp [setBlock, h]
theorem setBlock_other {w : World} {r s : Nat} (h : s ≠ r) (o : Obj) : (setBlock w r o).heap[s]? = w.heap[s]? := by
  simp [setBlock, Ne.symm h]
theorem setBlock_setBlock (w : World) (r : Nat) (o o' : Obj) : setBlock (setBlock w r o) r o' = setBlock w r o' := by
  simp [setBlock]
theorem block_lt {w : World} {r : Nat} {o : Obj} (h : w.heap[r]? = some o) : r < w.heap.size := by
  rcases Nat.lt_or_ge r w.heap.size with hh | hh
  · exact hh
  · rw [Array.getElem?_eq_none hh] at h; cases h
theorem setBlock_self {w : World} {r : Nat} {o : Obj} (h : w.heap[r]? = some o) : setBlock w r o = w := by
  have hlt := block_lt h
  have : w.heap.setIfInBounds r o = w.heap := by
    apply Array.ext (by simp)
    intro i h1 h2
    rw [Array.getElem_setIfInBounds]
    split
    · rename_i e; subst e
      have := Array.getElem?_eq_getElem hlt
      rw [h] at this; exact (Option.some.inj this)
    · rfl
  simp [setBlock, this]
theorem setCell_block {w : World} {r : Nat} {c : Array Value} {e : TypeId} {f : Nat × Nat} (h : w.heap[r]? = some (.cells c e f)) (o : Nat) (v : Value) :
    w.setCell ⟨r, o, none⟩ v = setBlock w r (.cells (c.setIfInBounds o v) e f) := by
  have hlt := block_lt h
  have hg : w.heap[r] = .cells c e f := by
    have := Array.getElem?_eq_getElem hlt
    rw [h] at this; exact (Option.some.inj this).symm
  simp only [World.setCell, setBlock]
  congr 1
  apply Array.ext (by simp)
  intro i h1 h2
  rw [Array.getElem_modify, Array.getElem_setIfInBounds]
  split
  · rename_i e; subst e; simp [hg]
  · rfl
/-- Cells with some laid over them from a place on. -/
def laid (c : Array Value) (o : Nat) (vs : List Value) : Array Value := (c.toList.take o ++ vs ++ c.toList.drop (o + vs.length)).toArray
theorem laid_cons (c : Array Value) (o : Nat) (v : Value) (vs : List Value) (h : o < c.size) : laid (c.setIfInBounds o v) (o + 1) vs = laid c o (v :: vs) := by
  unfold laid
  apply congrArg List.toArray
  have e : (c.setIfInBounds o v).toList = c.toList.take o ++ v :: c.toList.drop (o + 1) := by
    rw [Array.toList_setIfInBounds, List.set_eq_take_append_cons_drop, if_pos (by simpa using h)]
  rw [e]
  have hl : (c.toList.take o).length = o := by simp; omega
  rw [List.take_append, List.drop_append, hl]
  simp only [List.append_assoc, List.cons_append, List.length_cons]
  rw [List.take_of_length_le (by omega : (List.take o c.toList).length ≤ o + 1), Nat.add_sub_cancel_left, List.drop_eq_nil_of_le (by omega : (List.take o c.toList).length ≤ o + 1 + vs.length)]
  rw [show o + 1 + vs.length - o = vs.length + 1 from by omega]
  simp [show o + (vs.length + 1) = o + 1 + vs.length from by omega, List.drop_drop]
theorem laid_nil (c : Array Value) (o : Nat) : laid c o [] = c := by simp [laid]
theorem laid_size (c : Array Value) (o : Nat) (vs : List Value) (h : o + vs.length ≤ c.size) : (laid c o vs).size = c.size := by
  simp [laid]; omega
theorem run_storeCells_from {P : Program} (vs : List Value) : ∀ {w : World} {r o i : Nat} {c : Array Value} {e : TypeId}, w.heap[r]? = some (.cells c e (0, 0)) → o + i + vs.length ≤ c.size →
    (∀ v ∈ vs, v.oneCell' = true) → (storeCells ⟨r, o, none⟩ vs i).run P w = .ok () (setBlock w r (.cells (laid c (o + i) vs) e (0, 0))) := by
  induction vs with
  | nil =>
    intro w r o i c e h _ _
    rw [laid_nil, setBlock_self h]
    rfl
  | cons v vs ih =>
    intro w r o i c e h hn hv
    simp only [List.length_cons] at hn
    have hlt : o + i < c.size := by omega
    unfold storeCells
    rw [addr_add, Sem.run_bind, run_store _ _ _ _ _ (hv v (List.mem_cons_self ..)), cell_of_block h, Array.getElem?_eq_getElem hlt, frozen_of_block h]
    simp only [Bool.false_eq_true, if_false, Result.andThen_ok]
    rw [setCell_block h]
    have h' := setBlock_same (w := w) (r := r) (block_lt h) (.cells (c.setIfInBounds (o + i) v) e (0, 0))
    rw [ih (i := i + 1) h' (by simp; omega) (fun x hx => hv x (List.mem_cons_of_mem _ hx)), setBlock_setBlock]
    rw [show o + (i + 1) = o + i + 1 from by omega, laid_cons _ _ _ _ hlt]
theorem run_storeCells_block {P : Program} {w : World} {r o : Nat} {c : Array Value} {e : TypeId} {vs : List Value} (h : w.heap[r]? = some (.cells c e (0, 0)))
    (hn : o + vs.length ≤ c.size) (hv : ∀ v ∈ vs, v.oneCell' = true) : (storeCells ⟨r, o, none⟩ vs).run P w = .ok () (setBlock w r (.cells (laid c o vs) e (0, 0))) := by
  have := run_storeCells_from (P := P) vs (i := 0) h (by simpa using hn) hv
  simpa using this
theorem VRs.oneCell {l : List AV} {l' : List Value} (h : VRs β l l') (hf : l.all flat = true) : ∀ v ∈ l', v.oneCell' = true := by
  induction l generalizing l' with
  | nil => cases h; intro v hv; cases hv
  | cons x l ih =>
    cases h with
    | cons h hl =>
      simp only [List.all_cons, Bool.and_eq_true] at hf
      intro v hv
      cases hv with
      | head => exact h.flat hf.1
      | tail _ hv => exact ih hl hf.2 v hv

/-! ## A block turned -/
theorem Rel.turn {h : Heap} {w : World} (hr : Rel β h w) {p : Pos} {o o₁ : AObj} {r n : Nat} {o' : Obj} (hp : PTree.get p h.t = some o) (hd : o ≠ .dead) (hb : β p = some (r, n))
    (ho : OR β n o₁ o') : Rel β ⟨PTree.set o₁ p h.t, h.next⟩ (setBlock w r o') ∧ Ext β h w β ⟨PTree.set o₁ p h.t, h.next⟩ (setBlock w r o') := by
  have hlt := hr.inW p r n hb
  have hdead : ∀ q, PTree.get q h.t = some .dead → PTree.get q (PTree.set o₁ p h.t) = some .dead := by
    intro q hq
    rw [PTree.get_set_other]
    · exact hq
    · intro e; subst e; rw [hp] at hq; exact hd (Option.some.inj hq)
  refine ⟨⟨?_, ?_, ?_, ?_⟩, ⟨Ren.le_refl β, Nat.le_refl _, by rw [setBlock_size]; exact Nat.le_refl _, fun _ _ _ e => .inl e, ?_, ?_, ⟨rfl, rfl, rfl⟩⟩⟩
  · intro q oq rq nq hq hbq
    by_cases e : q = p
    · subst e
      rw [PTree.get_set_same] at hq
      cases hq
      rw [hb] at hbq
      cases hbq
      exact ⟨o', setBlock_same hlt o', ho⟩
    · rw [PTree.get_set_other _ _ e] at hq
      by_cases er : rq = r
      · subst er
        rcases hr.inj q p rq nq n hbq hb with h1 | h1 | h1
        · exact absurd h1 e
        · rw [hq] at h1; cases h1
          exact ⟨o', setBlock_same hlt o', .dead _⟩
        · rw [hp] at h1; exact absurd (Option.some.inj h1) hd
      · obtain ⟨ox, h1, h2⟩ := hr.obj q oq rq nq hq hbq
        exact ⟨ox, by rw [setBlock_other er]; exact h1, h2⟩
  · intro a b s m k ha hbb
    rcases hr.inj a b s m k ha hbb with h1 | h1 | h1
    · exact .inl h1
    · exact .inr (.inl (hdead _ h1))
    · exact .inr (.inr (hdead _ h1))
  · intro q oq hq
    by_cases e : q = p
    · subst e; exact hr.fresh q o hp
    · rw [PTree.get_set_other _ _ e] at hq; exact hr.fresh q oq hq
  · intro q s m hq
    rw [setBlock_size]; exact hr.inW q s m hq
  · intro q _
    refine ⟨fun hq => ?_, hdead q⟩
    by_cases e : q = p
    · subst e; rw [hp] at hq; cases hq
    · show PTree.get q (PTree.set o₁ p h.t) = none
      rw [PTree.get_set_other _ _ e]; exact hq
  · intro s _ hs
    have : s ≠ r := by
      intro e; subst e
      exact hs p n hb ⟨o, hp, hd⟩
    exact setBlock_other this o'

/-! ## A block laid anew -/
def Ren.set (β : Ren) (p : Pos) (x : Nat × Nat) : Ren := fun q => if q = p then some x else β q
theorem Ren.le_set {p : Pos} {x : Nat × Nat} (h : β p = none) : β.le (β.set p x) := by
  intro q y hq
  unfold Ren.set
  split
  · rename_i e; subst e; rw [h] at hq; cases hq
  · exact hq
theorem Ren.set_same (p : Pos) (x : Nat × Nat) : (β.set p x) p = some x := by simp [Ren.set]
theorem pos_ne_of_lt {p q : Pos} (h : p.toNat < q.toNat) : p ≠ q := by intro e; subst e; omega
/-- The name that comes next is in no use. -/
theorem Dom.next {h h' : Heap} (hd : Dom β h h') (hlt : h.next.toNat < h'.next.toNat) : β h.next = none := by
  cases e : β h.next with
  | none => rfl
  | some x => rcases hd h.next x e with h1 | h1 <;> omega
theorem Rel.push {h : Heap} {w : World} (hr : Rel β h w) {o : AObj} {o' : Obj} {n : Nat} (hn : β h.next = none) (ho : OR (β.set h.next (w.heap.size, n)) n o o') :
    Rel (β.set h.next (w.heap.size, n)) ⟨PTree.set o h.next h.t, h.next.succ⟩ (w.alloc o') ∧
    Ext β h w (β.set h.next (w.heap.size, n)) ⟨PTree.set o h.next h.t, h.next.succ⟩ (w.alloc o') := by
  have hle := Ren.le_set (β := β) (x := (w.heap.size, n)) hn
  have hnone : PTree.get h.next h.t = none := by
    cases e : PTree.get h.next h.t with
    | none => rfl
    | some o => have := hr.fresh _ _ e; omega
  have hget : ∀ s, s < w.heap.size → (w.alloc o').heap[s]? = w.heap[s]? := by
    intro s hs
    show (w.heap.push o')[s]? = _
    simp [Array.getElem?_push, Nat.ne_of_lt hs]
  have hold : ∀ q x, (β.set h.next (w.heap.size, n)) q = some x → q ≠ h.next → β q = some x := by
    intro q x hq e
    unfold Ren.set at hq
    rwa [if_neg e] at hq
  refine ⟨⟨?_, ?_, ?_, ?_⟩, ⟨hle, by rw [Pos.toNat_succ]; omega, by simp, ?_, ?_, ?_, ⟨rfl, rfl, rfl⟩⟩⟩
  · intro q oq rq nq hq hbq
    by_cases e : q = h.next
    · subst e
      rw [Ren.set_same] at hbq; cases hbq
      rw [PTree.get_set_same] at hq; cases hq
      exact ⟨o', by show (w.heap.push o')[w.heap.size]? = _; simp, ho⟩
    · rw [PTree.get_set_other _ _ e] at hq
      obtain ⟨ox, h1, h2⟩ := hr.obj q oq rq nq hq (hold q _ hbq e)
      exact ⟨ox, by rw [hget rq (block_lt h1)]; exact h1, h2.mono hle⟩
  · intro a b s m k ha hbb
    by_cases ea : a = h.next
    · by_cases eb : b = h.next
      · exact .inl (ea.trans eb.symm)
      · have := hr.inW b s k (hold b _ hbb eb)
        subst ea; rw [Ren.set_same] at ha; cases ha; omega
    · by_cases eb : b = h.next
      · have := hr.inW a s m (hold a _ ha ea)
        subst eb; rw [Ren.set_same] at hbb; cases hbb; omega
      · rcases hr.inj a b s m k (hold a _ ha ea) (hold b _ hbb eb) with h1 | h1 | h1
        · exact .inl h1
        · exact .inr (.inl (by rw [PTree.get_set_other _ _ ea]; exact h1))
        · exact .inr (.inr (by rw [PTree.get_set_other _ _ eb]; exact h1))
  · intro q oq hq
    show q.toNat < h.next.succ.toNat
    rw [Pos.toNat_succ]
    by_cases e : q = h.next
    · subst e; omega
    · rw [PTree.get_set_other _ _ e] at hq; have := hr.fresh q oq hq; omega
  · intro q s m hq
    rw [World.size_alloc]
    by_cases e : q = h.next
    · subst e; rw [Ren.set_same] at hq; cases hq; omega
    · have := hr.inW q s m (hold q _ hq e); omega
  · intro q s m hq
    by_cases e : q = h.next
    · subst e; rw [Ren.set_same] at hq; cases hq
      exact .inr ⟨Nat.le_refl _, by show _ < h.next.succ.toNat; rw [Pos.toNat_succ]; omega, .inl (Nat.le_refl _)⟩
    · exact .inl (hold q _ hq e)
  · intro q hq
    have e : q ≠ h.next := pos_ne_of_lt hq
    show (_ → PTree.get q (PTree.set o h.next h.t) = none) ∧ (_ → PTree.get q (PTree.set o h.next h.t) = some .dead)
    rw [PTree.get_set_other _ _ e]
    exact ⟨id, id⟩
  · intro s hs _
    exact hget s hs
end Go.Am

/- Operations that only compute or read: what the abstract machine answers, the model answers. -/
namespace Go.Am
variable {β : Ren} {P : Program} {h : Heap} {w : World} {tm : Tm} {ρ : Operand → Value}

/-- Operands: what is known of them is so. -/
def OpR (β : Ren) (tm : Tm) (ρ : Operand → Value) : Prop := ∀ x v, evalO tm x = some v → VR β v (ρ x)

theorem toInt_some {v : AV} {x : IntKind × Int} (h : toInt v = some x) : v = .int x.1 x.2 := by cases v <;> simp [toInt] at h; obtain rfl := h; rfl
theorem toBool_some {v : AV} {b : Bool} (h : toBool v = some b) : v = .bool b := by cases v <;> simp [toBool] at h; obtain rfl := h; rfl
theorem toStr_some {v : AV} {s : ByteArray} (h : toStr v = some s) : v = .str s := by cases v <;> simp [toStr] at h; obtain rfl := h; rfl
theorem toPtr_some {v : AV} {a : AAd} (h : toPtr v = some a) : v = .ptr (some a) := by cases v <;> simp [toPtr] at h; obtain rfl := h; rfl
theorem toAgg_some {v : AV} {l : List AV} (h : toAgg v = some l) : v = .agg l := by cases v <;> simp [toAgg] at h; obtain rfl := h; rfl
theorem toTuple_some {v : AV} {l : List AV} (h : toTuple v = some l) : v = .tuple l := by cases v <;> simp [toTuple] at h; obtain rfl := h; rfl
theorem toIdx_some {v : AV} {i : Nat} (h : toIdx v = some i) : ∃ k, v = .int k (Int.ofNat i) := by
  cases v with
  | int k n => cases n with
    | ofNat m => simp [toIdx] at h; subst h; exact ⟨k, rfl⟩
    | negSucc m => cases h
  | _ => cases h
theorem toFunc_some {v : AV} {x : AFn × List AV × List AV} (h : toFunc v = some x) : v = .func x.1 x.2.1 x.2.2 := by cases v <;> simp [toFunc] at h; obtain rfl := h; rfl
theorem toSlice_some {v : AV} {x : Option AAd × Nat × Nat × Option Nat} (h : toSlice v = some x) : v = .slice x.1 x.2.1 x.2.2.1 x.2.2.2 := by
  cases v <;> simp [toSlice] at h; obtain rfl := h; rfl
theorem toSliceA_some {v : AV} {x : AAd × Nat} (h : toSliceA v = some x) : ∃ c u, v = .slice (some x.1) x.2 c u := by
  cases v with
  | slice a l c u => cases a with
    | none => cases h
    | some a => simp [toSliceA] at h; subst h; exact ⟨c, u, rfl⟩
  | _ => cases h
theorem VR.toBool {b : Bool} {v' : Value} (h : VR β (.bool b) v') : v' = .bool b := by cases h; rfl
theorem VR.toInt {k : IntKind} {n : Int} {v' : Value} (h : VR β (.int k n) v') : v' = .int k n := by cases h; rfl
theorem VR.toStr {s : ByteArray} {v' : Value} (h : VR β (.str s) v') : v' = .string s := by cases h; rfl
theorem VR.toPtr {a : AAd} {v' : Value} (h : VR β (.ptr (some a)) v') : ∃ r n, β a.b = some (r, n) ∧ v' = .pointer (some ⟨r, a.o, none⟩) := by
  cases h with | ptr h => exact ⟨_, _, h, rfl⟩

/-! ## Constants -/
theorem mapM_VRs {f : Nat} (ih : ∀ v a, ofVal f v = some a → VR β a v) : ∀ (l : List Value) (r : List AV), l.mapM (ofVal f) = some r → VRs β r l
  | [], r, h => by simp at h; subst h; exact .nil
  | v :: l, r, h => by
    rw [List.mapM_cons] at h
    cases h1 : ofVal f v with
    | none => rw [h1] at h; cases h
    | some a =>
      cases h2 : l.mapM (ofVal f) with
      | none => rw [h1, h2] at h; cases h
      | some r' => rw [h1, h2] at h; cases h; exact .cons (ih v a h1) (mapM_VRs ih l r' h2)
theorem ofVal_VR : ∀ (f : Nat) (v : Value) (a : AV), ofVal f v = some a → VR β a v := by
  intro f
  induction f with
  | zero =>
    intro v a h
    cases v with
    | bool b => cases h; exact .bool b
    | int k n => cases h; exact .int k n
    | string s => cases h; exact .str s
    | pointer a => cases a <;> cases h; exact .ptrNil
    | slice a l c => cases a <;> cases h; exact .sliceNil l c
    | map r => cases r <;> cases h; exact .mapNil
    | chan r => cases r <;> cases h; exact .chanNil
    | nilFunc => cases h; exact .nilFunc
    | nilIface => cases h; exact .nilIface
    | _ => cases h
  | succ f ih =>
    intro v a h
    cases v with
    | bool b => cases h; exact .bool b
    | int k n => cases h; exact .int k n
    | string s => cases h; exact .str s
    | pointer a => cases a <;> cases h; exact .ptrNil
    | slice a l c => cases a <;> cases h; exact .sliceNil l c
    | map r => cases r <;> cases h; exact .mapNil
    | chan r => cases r <;> cases h; exact .chanNil
    | nilFunc => cases h; exact .nilFunc
    | nilIface => cases h; exact .nilIface
    | iface t v =>
      simp only [ofVal] at h
      cases h1 : ofVal f v with
      | none => rw [h1] at h; cases h
      | some a' => rw [h1] at h; cases h; exact .iface t (ih v a' h1)
    | agg cs =>
      simp only [ofVal] at h
      cases h1 : cs.toList.mapM (ofVal f) with
      | none => rw [h1] at h; cases h
      | some l =>
        rw [h1] at h
        simp only at h
        split at h
        · cases h; exact .agg (l' := cs.toList) (mapM_VRs ih _ _ h1) (by assumption)
        · cases h
    | tuple cs =>
      simp only [ofVal] at h
      cases h1 : cs.toList.mapM (ofVal f) with
      | none => rw [h1] at h; cases h
      | some l => rw [h1] at h; cases h; exact .tuple (l' := cs.toList) (mapM_VRs ih _ _ h1)
    | _ => cases h
theorem zeroA_VR {t : TypeId} {z : AV} (h : zeroA P t = some z) (w : World) : ∃ z', (zeroValue t).run P w = .ok z' w ∧ VR β z z' := by
  unfold zeroA at h
  cases h1 : P.info? t with
  | none => rw [h1] at h; cases h
  | some i =>
    rw [h1] at h
    cases h2 : i.zero with
    | none => simp [h2] at h
    | some v =>
      simp [h2] at h
      exact ⟨v, by simp [zeroValue, typeInfo, h1, h2], ofVal_VR _ _ _ h⟩
theorem zeroC_VRs {t : TypeId} {z : List AV} (h : zeroC P t = some z) (w : World) : ∃ z', (zeroValue t).run P w = .ok z' w ∧ VRs β z z'.cells.toList ∧ z.all flat = true := by
  unfold zeroC at h
  cases h1 : zeroA P t with
  | none => rw [h1] at h; cases h
  | some v =>
    rw [h1] at h
    obtain ⟨z', e, hv⟩ := zeroA_VR (β := β) h1 w
    obtain ⟨h2, h3⟩ := hv.cells (show v.cells = some z from h)
    exact ⟨z', e, h2, h3⟩

theorem run_siz {t : TypeId} {n : Nat} (h : siz P t = some n) (w : World) : (sizeOf t).run P w = .ok n w := by
  unfold siz at h
  cases h1 : P.info? t with
  | none => rw [h1] at h; cases h
  | some i => rw [h1] at h; cases h; simp [sizeOf, typeInfo, h1]
theorem run_aggT {t : TypeId} {g : Bool} (h : aggT P t = some g) (w : World) : (isAgg t).run P w = .ok g w := by
  unfold aggT at h
  cases h1 : P.underlying t with
  | none => rw [h1] at h; cases h
  | some d => rw [h1] at h; cases d <;> cases h <;> simp [isAgg, run_underlying h1]

/-! ## Loads -/
theorem loadA_sim (hr : Rel β h w) {t : TypeId} {a v : AV} {a' : Value} (ha : VR β a a') (hv : loadA P h t a = some v) :
    ∃ v', (Instr.loadAt t a').run P w = .ok v' w ∧ VR β v v' := by
  obtain ⟨⟨p, o⟩, h1, h2⟩ := obind_some.1 hv
  rw [toPtr_some h1] at ha
  obtain ⟨r, n, hb, rfl⟩ := ha.toPtr
  obtain ⟨c, h3, h4⟩ := obind_some.1 (show obind (h.cellsAt p) (fun c => obind (aggT P t) (ldCells c o P t)) = some v from h2)
  obtain ⟨g, h5, h6⟩ := obind_some.1 h4
  obtain ⟨c', e, hblk, hl, hn, hcs, hf⟩ := hr.cells h3 hb
  unfold ldCells at h6
  rw [bcase_eq] at h6
  cases g with
  | true =>
    simp only [if_true] at h6
    obtain ⟨m, h7, h8⟩ := obind_some.1 h6
    obtain ⟨l, h9, h10⟩ := obind_some.1 h8
    cases h10
    obtain ⟨h11, h12⟩ := sub_some h9
    refine ⟨.agg (Array.mk ((c'.toList.drop o).take m)), ?_, ?_⟩
    · simp only [Instr.loadAt, Instr.sureAddr, loadVar, Sem.run_bind, Sem.run_pure, Result.andThen_ok, run_aggT h5, Sem.run_ite, if_true, run_siz h7]
      by_cases hm : m = 0
      · subst hm; simp [_root_.Go.loadCells, loadCellsFrom]
      · rw [run_loadCells_block hblk (by omega)]
        rfl
    · subst h11
      refine .agg ?_ (all_take (all_drop hf o) m)
      have h13 := (hcs.drop o).take m
      rw [List.drop_take, List.take_take] at h13
      rwa [Nat.min_eq_left h12] at h13
  | false =>
    simp only [Bool.false_eq_true, if_false] at h6
    rw [nth_eq] at h6
    obtain ⟨v', e1, e2⟩ := hcs.at_ h6
    refine ⟨v', ?_, e2⟩
    simp only [Instr.loadAt, Instr.sureAddr, loadVar, Sem.run_bind, Sem.run_pure, Result.andThen_ok, run_aggT h5, Sem.run_ite, Bool.false_eq_true, if_false, run_load, cell_of_block hblk, e1]
theorem partA_sim {t : TypeId} {cs : List AV} {cs' : List Value} {off : Nat} {v : AV} (hc : VRs β cs cs') (hf : cs.all flat = true) (hv : partA P t cs off = some v) (w : World) :
    ∃ v', (part t ⟨cs'⟩ off).run P w = .ok v' w ∧ VR β v v' := by
  unfold partA at hv
  cases hg : aggT P t with
  | none => rw [hg] at hv; cases hv
  | some g =>
    rw [hg] at hv
    cases g with
    | true =>
      simp only at hv
      cases hs : siz P t with
      | none => rw [hs] at hv; cases hv
      | some n =>
        rw [hs] at hv; cases hv
        refine ⟨.agg (Array.mk ((cs'.drop off).take n)), ?_, .agg ((hc.drop off).take n) (all_take (all_drop hf off) n)⟩
        simp only [part, Sem.run_bind, run_aggT hg, Result.andThen_ok, Sem.run_ite, if_true, run_siz hs, Sem.run_pure]
        congr 2
        apply Array.ext'
        simp [List.extract_eq_take_drop]
    | false =>
      simp only at hv
      obtain ⟨v', e1, e2⟩ := hc.get hv
      refine ⟨v', ?_, e2⟩
      have e1' : (Array.mk cs')[off]? = some v' := by simpa using e1
      simp only [part, Sem.run_bind, run_aggT hg, Result.andThen_ok, Sem.run_ite, Bool.false_eq_true, if_false, e1', Sem.run_pure]
end Go.Am

/- Operators: what the abstract machine answers, the model answers. -/
namespace Go.Am
variable {β : Ren} {P : Program} {h : Heap} {w : World} {tm : Tm} {ρ : Operand → Value}

theorem ofNat_bounds (m : Nat) : (0 : Int) ≤ Int.ofNat m ∧ Int.ofNat m = (m : Int) := ⟨Int.natCast_nonneg m, rfl⟩
theorem wrapA_eq (k : IntKind) (n : Int) : wrapA k n = k.wrap n := by
  unfold wrapA
  cases hk : inK k n with
  | false => rfl
  | true =>
    show n = k.wrap n
    unfold inK at hk
    split at hk
    · rw [blt_eq, decide_eq_true_eq] at hk
      rename_i m
      have := ofNat_bounds m
      exact (IntWalk.i64_in _ ⟨by omega, by omega⟩).symm
    · rw [blt_eq, decide_eq_true_eq] at hk
      rename_i m
      have := Int.negSucc_eq m
      exact (IntWalk.i64_in _ ⟨by omega, by omega⟩).symm
    · rw [blt_eq, decide_eq_true_eq] at hk
      rename_i m
      have := ofNat_bounds m
      exact (IntWalk.u64_in _ ⟨by omega, by omega⟩).symm
    · rw [blt_eq, decide_eq_true_eq] at hk
      rename_i m
      have := ofNat_bounds m
      exact (IntWalk.u32_in _ ⟨by omega, by omega⟩).symm
    · rw [blt_eq, decide_eq_true_eq] at hk
      rename_i m
      have := ofNat_bounds m
      exact (IntWalk.u8_in _ ⟨by omega, by omega⟩).symm
    · cases hk

/-! ## Whole numbers -/
theorem iop_sim {op : BinOp} {k : IntKind} {a b : Int} {v : AV} {t : TypeId} (hs : isShift op = false) (hv : arithI op k a b = some v) (w : World) :
    ∃ v', (binOp op t (.int k a) (.int k b)).run P w = .ok v' w ∧ VR β v v' := by
  cases op <;> first | cases hs | skip
  case add => cases hv; exact ⟨_, by simp [binOp, Op.intArith]; rfl, by rw [wrapA_eq]; exact .int _ _⟩
  case sub => cases hv; exact ⟨_, by simp [binOp, Op.intArith]; rfl, by rw [wrapA_eq]; exact .int _ _⟩
  case mul => cases hv; exact ⟨_, by simp [binOp, Op.intArith]; rfl, by rw [wrapA_eq]; exact .int _ _⟩
  case quo =>
    change (bif eqI b 0 then none else some (AV.int k (wrapA k (a.tdiv b)))) = some v at hv
    cases hb : eqI b 0 with
    | true => rw [hb] at hv; cases hv
    | false =>
      rw [hb] at hv; cases hv
      rw [eqI_eq, beq_eq_false_iff_ne] at hb
      exact ⟨_, by simp [binOp, Op.intDiv, hb]; rfl, by rw [wrapA_eq]; exact .int _ _⟩
  case rem =>
    change (bif eqI b 0 then none else some (AV.int k (a.tmod b))) = some v at hv
    cases hb : eqI b 0 with
    | true => rw [hb] at hv; cases hv
    | false =>
      rw [hb] at hv; cases hv
      rw [eqI_eq, beq_eq_false_iff_ne] at hb
      exact ⟨_, by simp [binOp, Op.intDiv, hb], .int _ _⟩
  case and => cases hv; exact ⟨_, by simp [binOp, Op.intBits], .int _ _⟩
  case or => cases hv; exact ⟨_, by simp [binOp, Op.intBits], .int _ _⟩
  case xor => cases hv; exact ⟨_, by simp [binOp, Op.intBits], .int _ _⟩
  case andNot => cases hv; exact ⟨_, by simp [binOp, Op.intBits], .int _ _⟩
  case eql => cases hv; exact ⟨.bool (a == b), by simp [binOp, Op.intCmp], by rw [eqI_eq]; exact .bool _⟩
  case neq => cases hv; exact ⟨.bool (a != b), by simp [binOp, Op.intCmp], by rw [eqI_eq]; exact .bool _⟩
  case lss => cases hv; exact ⟨.bool (decide (a < b)), by simp [binOp, Op.intCmp], by rw [ltI_eq]; exact .bool _⟩
  case leq => cases hv; exact ⟨.bool (decide (a ≤ b)), by simp [binOp, Op.intCmp], by rw [ltI_eq, show (!decide (b < a)) = decide (a ≤ b) from by rw [Bool.eq_iff_iff]; simp]; exact .bool _⟩
  case gtr => cases hv; exact ⟨.bool (decide (b < a)), by simp [binOp, Op.intCmp], by rw [ltI_eq]; exact .bool _⟩
  case geq => cases hv; exact ⟨.bool (decide (b ≤ a)), by simp [binOp, Op.intCmp], by rw [ltI_eq, show (!decide (a < b)) = decide (b ≤ a) from by rw [Bool.eq_iff_iff]; simp]; exact .bool _⟩
theorem shift_sim {op : BinOp} {k k' : IntKind} {a b : Int} {v : AV} {t : TypeId} (hs : isShift op = true) (hv : shiftI op k a b = some v) (w : World) :
    ∃ v', (binOp op t (.int k a) (.int k' b)).run P w = .ok v' w ∧ VR β v v' := by
  unfold shiftI at hv
  cases hb : ltI b 0 with
  | true => rw [hb] at hv; cases hv
  | false =>
    rw [hb] at hv
    rw [ltI_eq, decide_eq_false_iff_not] at hb
    cases op with
    | shl => cases hv; exact ⟨_, by simp [binOp, Op.shift, hb]; rfl, by rw [wrapA_eq]; exact .int _ _⟩
    | shr => cases hv; exact ⟨_, by simp [binOp, Op.shift, hb], .int _ _⟩
    | _ => cases hs
theorem intA_sim {op : BinOp} {k k' : IntKind} {a b : Int} {v : AV} {t : TypeId} (hv : intA op k k' a b = some v) (w : World) :
    ∃ v', (binOp op t (.int k a) (.int k' b)).run P w = .ok v' w ∧ VR β v v' := by
  unfold intA at hv
  simp only [bcase_eq] at hv
  cases hs : isShift op with
  | true =>
    rw [hs] at hv
    simp only [if_true, ite_self] at hv
    exact shift_sim hs hv w
  | false =>
    rw [hs] at hv
    simp only [Bool.false_eq_true, if_false] at hv
    split at hv
    · rename_i hk; obtain rfl := kindEq_eq hk; exact iop_sim hs hv w
    · cases hv

/-! ## Strings -/
theorem strOp_sim {op : BinOp} {a b : ByteArray} {v : AV} {t : TypeId} (hv : strOp op a b = some v) (w : World) :
    ∃ v', (binOp op t (.string a) (.string b)).run P w = .ok v' w ∧ VR β v v' := by
  cases op <;> first | (cases hv; done) | skip
  case add =>
    simp only [strOp] at hv
    cases hb : Nat.blt (a.size + b.size) 9223372036854775808 with
    | false => rw [hb] at hv; cases hv
    | true =>
      rw [hb] at hv; cases hv
      rw [blt_eq, decide_eq_true_eq] at hb
      refine ⟨.string (a ++ b), ?_, .str _⟩
      have h2 : ¬ ((a.size + b.size : Nat) : Int) > 9223372036854775807 := by omega
      simp only [binOp, Op.stringOp, IntKind.max_i64]
      rw [if_neg h2]
      rfl
  case eql => cases hv; exact ⟨.bool (a.toList == b.toList), by simp [binOp, Op.stringOp], .bool _⟩
  case neq => cases hv; exact ⟨.bool !(a.toList == b.toList), by simp [binOp, Op.stringOp], .bool _⟩
  case lss => cases hv; exact ⟨.bool (Op.bytesLess a.toList b.toList), by simp [binOp, Op.stringOp], .bool _⟩
  case leq => cases hv; exact ⟨.bool (Op.bytesLess a.toList b.toList || a.toList == b.toList), by simp [binOp, Op.stringOp], .bool _⟩
  case gtr => cases hv; exact ⟨.bool !(Op.bytesLess a.toList b.toList || a.toList == b.toList), by simp [binOp, Op.stringOp], .bool _⟩
  case geq => cases hv; exact ⟨.bool !(Op.bytesLess a.toList b.toList), by simp [binOp, Op.stringOp], .bool _⟩

/-! ## Equality of other things -/
theorem eqFs_sim {d : Nat} {xs ys : List AV} {xs' ys' : List Value} (hx : VRs β xs xs') (hy : VRs β ys ys') (fx : xs.all flat = true) (fy : ys.all flat = true) (w : World)
    (ih : ∀ (t : TypeId) (x y : AV) (x' y' : Value) (b : Bool), VR β x x' → VR β y y' → eqA P d t x y = some b → ∀ D, d ≤ D → (Op.equalIn D t x' y').run P w = .ok b w)
    (D : Nat) (hD : d ≤ D) : ∀ (fs : List Field) (b : Bool), eqFs P (eqA P d) xs ys fs = some b → (Op.eqFields D ⟨xs'⟩ ⟨ys'⟩ fs).run P w = .ok b w
  | [], b, hb => by cases hb; rfl
  | f :: fs, b, hb => by
    unfold eqFs at hb
    unfold Op.eqFields
    split at hb
    · rename_i hn
      rw [if_neg (by simpa using hn)]
      exact eqFs_sim hx hy fx fy w ih D hD fs b hb
    · rename_i hn
      rw [if_pos hn]
      cases h1 : partA P f.type xs f.offset with
      | none => rw [h1] at hb; cases hb
      | some a =>
        cases h2 : partA P f.type ys f.offset with
        | none => rw [h1, h2] at hb; cases hb
        | some c =>
          rw [h1, h2] at hb
          obtain ⟨a', e1, ha⟩ := partA_sim hx fx h1 w
          obtain ⟨c', e2, hc⟩ := partA_sim hy fy h2 w
          simp only at hb
          cases h3 : eqA P d f.type a c with
          | none => rw [h3] at hb; cases hb
          | some r =>
            rw [h3] at hb
            have e3 := ih f.type a c a' c' r ha hc h3 D hD
            simp only [Sem.run_bind, e1, e2, e3, Result.andThen_ok]
            cases r with
            | true => simpa using eqFs_sim hx hy fx fy w ih D hD fs b hb
            | false => cases hb; simp
theorem eqIs_sim {d : Nat} {xs ys : List AV} {xs' ys' : List Value} (hx : VRs β xs xs') (hy : VRs β ys ys') (fx : xs.all flat = true) (fy : ys.all flat = true) (w : World)
    (ih : ∀ (t : TypeId) (x y : AV) (x' y' : Value) (b : Bool), VR β x x' → VR β y y' → eqA P d t x y = some b → ∀ D, d ≤ D → (Op.equalIn D t x' y').run P w = .ok b w)
    (D : Nat) (hD : d ≤ D) (e : TypeId) (c : Nat) : ∀ (is : List Nat) (b : Bool), eqIs P (eqA P d) e c xs ys is = some b → (Op.eqItems D e c ⟨xs'⟩ ⟨ys'⟩ is).run P w = .ok b w
  | [], b, hb => by cases hb; simp [Op.eqItems]
  | i :: is, b, hb => by
    unfold eqIs at hb
    unfold Op.eqItems
    cases h1 : partA P e xs (i * c) with
    | none => rw [h1] at hb; cases hb
    | some a =>
      cases h2 : partA P e ys (i * c) with
      | none => rw [h1, h2] at hb; cases hb
      | some z =>
        rw [h1, h2] at hb
        obtain ⟨a', e1, ha⟩ := partA_sim hx fx h1 w
        obtain ⟨c', e2, hc⟩ := partA_sim hy fy h2 w
        simp only at hb
        cases h3 : eqA P d e a z with
        | none => rw [h3] at hb; cases hb
        | some r =>
          rw [h3] at hb
          have e3 := ih e a z a' c' r ha hc h3 D hD
          simp only [Sem.run_bind, e1, e2, e3, Result.andThen_ok]
          cases r with
          | true => simpa using eqIs_sim hx hy fx fy w ih D hD e c is b hb
          | false => cases hb; simp
theorem isNone_map {a : Option AAd} {v' : Value} {l c : Nat} {u : Option Nat} (h : VR β (.slice a l c u) v') : ∃ a' l' c', v' = .slice a' l' c' ∧ a'.isNone = a.isNone := by
  cases h <;> exact ⟨_, _, _, rfl, rfl⟩
theorem eqA_sim (w : World) : ∀ (d : Nat) (t : TypeId) (x y : AV) (x' y' : Value) (b : Bool), VR β x x' → VR β y y' → eqA P d t x y = some b →
    ∀ D, d ≤ D → (Op.equalIn D t x' y').run P w = .ok b w := by
  intro d
  induction d with
  | zero => intro t x y x' y' b _ _ hb; cases hb
  | succ d ih =>
    intro t x y x' y' b hx hy hb D hD
    obtain ⟨D, rfl⟩ : ∃ m, D = m + 1 := ⟨D - 1, by omega⟩
    unfold eqA at hb
    split at hb
    · rename_i ht
      cases hb; obtain rfl := hx.toBool; obtain rfl := hy.toBool
      simp [Op.equalIn, run_underlying ht]
    · rename_i ht
      split at hb
      · rename_i hk; cases hb; subst hk; obtain rfl := hx.toInt; obtain rfl := hy.toInt
        rw [eqI_eq]; simp [Op.equalIn, run_underlying ht]
      · cases hb
    · rename_i ht
      cases hb; obtain rfl := hx.toStr; obtain rfl := hy.toStr
      simp [Op.equalIn, run_underlying ht]
    · rename_i ht
      cases hb; cases hx; cases hy <;> simp [Op.equalIn, run_underlying ht]
    · rename_i ht
      cases hb; cases hx; cases hy; simp [Op.equalIn, run_underlying ht]
    · rename_i ht
      cases hb
      obtain ⟨a', l', c', rfl, e⟩ := isNone_map hy
      rw [← e]; cases hx; simp [Op.equalIn, run_underlying ht]
    · rename_i ht
      cases hb
      obtain ⟨a', l', c', rfl, e⟩ := isNone_map hx
      cases hy
      cases a' with
      | none => simp at e
      | some a' => simp [Op.equalIn, run_underlying ht]
    · rename_i ht
      cases hb; cases hx; cases hy <;> simp [Op.equalIn, run_underlying ht]
    · rename_i ht
      cases hb; cases hx; cases hy; simp [Op.equalIn, run_underlying ht]
    · rename_i ht
      cases hb; cases hx; cases hy; simp [Op.equalIn, run_underlying ht]
    · rename_i ht
      cases hb; cases hx; cases hy; simp [Op.equalIn, run_underlying ht]
    · rename_i ht
      cases hb; cases hx; cases hy; simp [Op.equalIn, run_underlying ht]
    · rename_i ht
      cases hb; cases hx; cases hy; simp [Op.equalIn, run_underlying ht]
    · rename_i ht
      cases hb; cases hx; cases hy; simp [Op.equalIn, run_underlying ht]
    · rename_i fs xs ys ht
      split at hb
      · cases hb
      · rename_i hst
        cases hx with
        | agg hx fx =>
          cases hy with
          | agg hy fy =>
            have hfs : P.fieldsOf t = fs := by simp [Program.fieldsOf, ht]
            rw [run_equalIn_struct w D t _ _ (by rw [hfs]; exact ht) (by simpa using hst), hfs]
            exact eqFs_sim hx hy fx fy w ih D (by omega) fs.toList b hb
    · rename_i n e xs ys ht
      split at hb
      · rename_i c hc
        obtain ⟨i, hi, hsz⟩ : ∃ i, P.info? e = some i ∧ i.size = c := by
          unfold siz at hc
          cases hi : P.info? e with
          | none => rw [hi] at hc; cases hc
          | some i => rw [hi] at hc; exact ⟨i, rfl, by simpa using hc⟩
        have hcells : P.cellsOf e = c := by simp [Program.cellsOf, hi, hsz]
        cases hx with
        | agg hx fx =>
          cases hy with
          | agg hy fy =>
            rw [run_equalIn_array w D _ _ ht hi, hcells]
            exact eqIs_sim hx hy fx fy w ih D (by omega) e c _ b hb
      · cases hb
    · cases hb
theorem binRest_sim {op : BinOp} {t : TypeId} {x y v : AV} {x' y' : Value} (hx : VR β x x') (hy : VR β y y') (hv : binRest P op t x y = some v)
    (hi : ∀ k n, x ≠ .int k n) (hs : ∀ s, x ≠ .str s) (hp : ∀ a b, x = .ptr (some a) → y ≠ .ptr (some b)) (w : World) :
    ∃ v', (binOp op t x' y').run P w = .ok v' w ∧ VR β v v' := by
  unfold binRest at hv
  cases h1 : eqA P 3 t x y with
  | none => rw [h1] at hv; cases hv
  | some b =>
    rw [h1] at hv
    have e := eqA_sim w 3 t x y x' y' b hx hy h1 10000 (by omega)
    have key : ∀ op', (op' = .eql ∨ op' = .neq) → (binOp op' t x' y').run P w = .ok (.bool (if op' = .eql then b else !b)) w := by
      intro op' ho
      have ni : ∀ k n, x' ≠ .int k n := by intro k n hh; subst hh; cases hx; exact hi _ _ rfl
      have ns : ∀ s, x' ≠ .string s := by intro s hh; subst hh; cases hx; exact hs _ rfl
      rcases ho with rfl | rfl
      · cases hx <;> cases hy <;> first
          | exact absurd rfl (ni _ _)
          | exact absurd rfl (ns _)
          | (simp only [binOp]; simp [Op.equal, Op.maxDepth, e])
      · cases hx <;> cases hy <;> first
          | exact absurd rfl (ni _ _)
          | exact absurd rfl (ns _)
          | (simp only [binOp]; simp [Op.equal, Op.maxDepth, e])
    cases op <;> first | (cases hv; done) | skip
    case eql => cases hv; exact ⟨_, key .eql (.inl rfl), by simpa using VR.bool b⟩
    case neq => cases hv; exact ⟨_, key .neq (.inr rfl), by simpa using VR.bool (!b)⟩
end Go.Am
