/-
The abstract interpreter, part 1: values that are trees (a slice is its list of elements), a store for what is written,
operations, code. Nothing of the tape, of addresses or of capacities stands in it.
-/
import Derived.Calls
import Derived.ChangeKeysEq
import Derived.Defers
import Derived.IntWalk
import Derived.Laws.Append
import Derived.Laws.BytesString
import Derived.Laws.Cells
import Derived.Laws.Entries
import Derived.Laws.Sem
import Derived.Laws.Strings
import Derived.Laws.StructEq
import Derived.Lib.ConvBytes
import Derived.Lib.IndexBytes
import Derived.Orders
import Derived.Recover
set_option linter.unusedSimpArgs false
set_option linter.unusedVariables false
set_option linter.constructorNameAsVariable false

namespace Jet
open Go

/-- May one append to a slice? 'no': it is not known; 'full': its capacity is its length; 'tok t': as long as the token t stands at its length. -/
inductive Perm where
  | no | full | tok (t : Nat)
  deriving DecidableEq, Inhabited

inductive AV where
  | bool (b : Bool)
  | int (k : IntKind) (n : Int)
  | str (s : List UInt8)
  | ptr (m o : Nat)
  | nilp
  | ept (cs : List AV)
  | sl (p : Perm) (xs : List AV)
  | ms (s m o len cap : Nat)
  | map (m : Nat)
  | nilm
  | fn (f : Fn) (first captured : List AV)
  | nilf
  | iface (t : TypeId) (v : AV)
  | nili
  | agg (cs : List AV)
  | tup (vs : List AV)
  | iter (m : Nat)
  | raw (v : Value)
  deriving Inhabited

abbrev AV.undef : AV := .tup []

/-- The cells of a value. -/
def AV.cells : AV → List AV
  | .agg cs => cs
  | v => [v]

/-- Is a value one cell? -/
def AV.one : AV → Bool
  | .agg _ => false
  | .tup _ => false
  | _ => true

def flat (xs : List AV) : List AV := xs.flatMap AV.cells

mutual
/-- Are two values the same? (Where it says yes they are.) -/
def AV.beq : AV → AV → Bool
  | .bool a, .bool b => a == b
  | .int k a, .int l b => k == l && a == b
  | .str a, .str b => a == b
  | .ptr a b, .ptr c d => a == c && b == d
  | .nilp, .nilp => true
  | .ept a, .ept b => AV.beqs a b
  | .sl p a, .sl q b => p == q && AV.beqs a b
  | .ms a b c d e, .ms a' b' c' d' e' => a == a' && b == b' && c == c' && d == d' && e == e'
  | .map a, .map b => a == b
  | .nilm, .nilm => true
  | .fn f a b, .fn g c d => f == g && AV.beqs a c && AV.beqs b d
  | .nilf, .nilf => true
  | .iface t a, .iface u b => t == u && AV.beq a b
  | .nili, .nili => true
  | .agg a, .agg b => AV.beqs a b
  | .tup a, .tup b => AV.beqs a b
  | .iter a, .iter b => a == b
  | _, _ => false
def AV.beqs : List AV → List AV → Bool
  | [], [] => true
  | a :: as, b :: bs => AV.beq a b && AV.beqs as bs
  | _, _ => false
end

mutual
theorem AV.eq_of_beq : ∀ {a b : AV}, AV.beq a b = true → a = b
  | .bool a, b, h => by cases b <;> simp_all [AV.beq]
  | .int k a, b, h => by cases b <;> simp_all [AV.beq]
  | .str a, b, h => by cases b <;> simp_all [AV.beq]
  | .ptr a c, b, h => by cases b <;> simp_all [AV.beq]
  | .nilp, b, h => by cases b <;> simp_all [AV.beq]
  | .ept a, b, h => by cases b <;> simp [AV.beq] at h; rw [AV.eqs_of_beqs h]
  | .sl p a, b, h => by
    cases b <;> simp [AV.beq] at h
    rw [h.1, AV.eqs_of_beqs h.2]
  | .ms s m o l c, b, h => by cases b <;> simp_all [AV.beq]
  | .map a, b, h => by cases b <;> simp_all [AV.beq]
  | .nilm, b, h => by cases b <;> simp_all [AV.beq]
  | .fn f a c, b, h => by
    cases b <;> simp [AV.beq] at h
    rw [h.1.1, AV.eqs_of_beqs h.1.2, AV.eqs_of_beqs h.2]
  | .nilf, b, h => by cases b <;> simp_all [AV.beq]
  | .iface t a, b, h => by
    cases b <;> simp [AV.beq] at h
    rw [h.1, AV.eq_of_beq h.2]
  | .nili, b, h => by cases b <;> simp_all [AV.beq]
  | .agg a, b, h => by cases b <;> simp [AV.beq] at h; rw [AV.eqs_of_beqs h]
  | .tup a, b, h => by cases b <;> simp [AV.beq] at h; rw [AV.eqs_of_beqs h]
  | .iter a, b, h => by cases b <;> simp_all [AV.beq]
  | .raw a, b, h => by cases b <;> simp_all [AV.beq]
theorem AV.eqs_of_beqs : ∀ {a b : List AV}, AV.beqs a b = true → a = b
  | [], b, h => by cases b <;> simp_all [AV.beqs]
  | x :: xs, b, h => by
    cases b with
    | nil => simp [AV.beqs] at h
    | cons y ys =>
      simp [AV.beqs] at h
      rw [AV.eq_of_beq h.1, AV.eqs_of_beqs h.2]
end

/-! The store. -/

inductive AObj where
  | cells (cs : List AV)
  | map (es : List (AV × AV))
  | iter (s : List UInt8) (pos : Nat)
  | tok (n s : Nat)
  | dead
  deriving Inhabited

inductive Tr where
  | nil
  | node (l : Tr) (v : Option AObj) (r : Tr)
  deriving Inhabited

def Tr.get : Tr → Nat → Option AObj
  | .nil, _ => none
  | .node l v r, k => if k ≤ 1 then v else if k % 2 = 0 then l.get (k / 2) else r.get (k / 2)

def Tr.setF : Nat → Tr → Nat → AObj → Tr
  | 0, t, _, _ => t
  | n + 1, t, k, o =>
    let (l, v, r) := match t with
      | .nil => (Tr.nil, none, Tr.nil)
      | .node l v r => (l, v, r)
    if k ≤ 1 then .node l (some o) r else if k % 2 = 0 then .node (Tr.setF n l (k / 2) o) v r else .node l v (Tr.setF n r (k / 2) o)

structure St where
  tr : Tr
  next : Nat
  deriving Inhabited

def St.get (σ : St) (m : Nat) : Option AObj := σ.tr.get (m + 1)
def St.set (σ : St) (m : Nat) (o : AObj) : St := { σ with tr := Tr.setF (Nat.log2 (m + 1) + 1) σ.tr (m + 1) o }
def St.push (σ : St) (o : AObj) : St := { (σ.set σ.next o) with next := σ.next + 1 }

theorem Tr.get_setF : ∀ (n : Nat) (t : Tr) (k k' : Nat) (o : AObj), 1 ≤ k → 1 ≤ k' → k < 2 ^ n → (Tr.setF n t k o).get k' = if k' = k then some o else t.get k'
  | 0, t, k, k', o, h1, _, h => by omega
  | n + 1, t, k, k', o, h1, h2, h => by
    have hp : 2 ^ (n + 1) = 2 * 2 ^ n := by rw [Nat.pow_succ]; omega
    rw [hp] at h
    have nilget : ∀ k, Tr.nil.get k = none := fun _ => rfl
    cases t with
    | nil =>
      simp only [Tr.setF, nilget]
      by_cases hk : k ≤ 1
      · rw [if_pos hk]
        have : k = 1 := by omega
        subst this
        simp only [Tr.get]
        by_cases hk' : k' ≤ 1
        · have : k' = 1 := by omega
          subst this
          simp
        · rw [if_neg hk', if_neg (show ¬ k' = 1 by omega)]
          simp
      · rw [if_neg hk]
        by_cases he : k % 2 = 0
        · rw [if_pos he]
          simp only [Tr.get]
          by_cases hk' : k' ≤ 1
          · rw [if_pos hk', if_neg (by omega)]
          · rw [if_neg hk']
            by_cases he' : k' % 2 = 0
            · rw [if_pos he', Tr.get_setF n _ _ _ _ (by omega) (by omega) (by omega)]
              by_cases hkk : k' = k
              · subst hkk; simp
              · rw [if_neg hkk, if_neg (by omega)]; rfl
            · rw [if_neg he', if_neg (by omega)]
        · rw [if_neg he]
          simp only [Tr.get]
          by_cases hk' : k' ≤ 1
          · rw [if_pos hk', if_neg (by omega)]
          · rw [if_neg hk']
            by_cases he' : k' % 2 = 0
            · rw [if_pos he', if_neg (by omega)]
            · rw [if_neg he', Tr.get_setF n _ _ _ _ (by omega) (by omega) (by omega)]
              by_cases hkk : k' = k
              · subst hkk; simp
              · rw [if_neg hkk, if_neg (by omega)]; rfl
    | node l v r =>
      simp only [Tr.setF]
      by_cases hk : k ≤ 1
      · rw [if_pos hk]
        have : k = 1 := by omega
        subst this
        simp only [Tr.get]
        by_cases hk' : k' ≤ 1
        · have : k' = 1 := by omega
          subst this
          simp
        · rw [if_neg hk', if_neg (show ¬ k' = 1 by omega), if_neg hk']
      · rw [if_neg hk]
        by_cases he : k % 2 = 0
        · rw [if_pos he]
          simp only [Tr.get]
          by_cases hk' : k' ≤ 1
          · rw [if_pos hk', if_neg (by omega)]; simp [hk']
          · rw [if_neg hk']
            by_cases he' : k' % 2 = 0
            · rw [if_pos he', Tr.get_setF n _ _ _ _ (by omega) (by omega) (by omega)]
              by_cases hkk : k' = k
              · subst hkk; simp
              · rw [if_neg hkk, if_neg (by omega)]; simp [hk', he']
            · rw [if_neg he', if_neg (by omega)]; simp [hk', he']
        · rw [if_neg he]
          simp only [Tr.get]
          by_cases hk' : k' ≤ 1
          · rw [if_pos hk', if_neg (by omega)]; simp [hk']
          · rw [if_neg hk']
            by_cases he' : k' % 2 = 0
            · rw [if_pos he', if_neg (by omega)]; simp [hk', he']
            · rw [if_neg he', Tr.get_setF n _ _ _ _ (by omega) (by omega) (by omega)]
              by_cases hkk : k' = k
              · subst hkk; simp
              · rw [if_neg hkk, if_neg (by omega)]; simp [hk', he']

theorem St.get_set (σ : St) (m m' : Nat) (o : AObj) : (σ.set m o).get m' = if m' = m then some o else σ.get m' := by
  unfold St.get St.set
  rw [Tr.get_setF _ _ _ _ _ (by omega) (by omega) Nat.lt_log2_self]
  by_cases h : m' = m
  · subst h; simp
  · rw [if_neg h, if_neg (by omega)]

theorem St.get_set_eq (σ : St) (m : Nat) (o : AObj) : (σ.set m o).get m = some o := by rw [St.get_set, if_pos rfl]
theorem St.get_set_ne (σ : St) {m m' : Nat} (o : AObj) (h : m' ≠ m) : (σ.set m o).get m' = σ.get m' := by rw [St.get_set, if_neg h]
theorem St.get_push (σ : St) (m' : Nat) (o : AObj) : (σ.push o).get m' = if m' = σ.next then some o else σ.get m' := St.get_set σ σ.next m' o
@[simp] theorem St.next_set (σ : St) (m : Nat) (o : AObj) : (σ.set m o).next = σ.next := rfl
@[simp] theorem St.next_push (σ : St) (o : AObj) : (σ.push o).next = σ.next + 1 := rfl

end Jet

/-
The abstract interpreter, part 2: operations, code, and what they come to.
-/
namespace Jet
open Go

inductive Opd where
  | t (i : Nat)
  | c (v : AV)
  deriving Inhabited

def Opd.ev (env : List AV) : Opd → AV
  | .t i => (env[i]?).getD .undef
  | .c v => v

/-- What '==' holds against one another, beside numbers and texts. -/
inductive EqK where
  | bool | ptr | iface | func | map | other
  deriving DecidableEq, Inhabited

/-- Operations that neither read nor write. -/
inductive POp where
  | mv (x : Opd)
  | pick (c a b : Opd)
  | build (zero : List AV) (parts : List (Nat × Nat × Opd))
  | bslice (s : Nat) (xs : List Opd)
  | field (off n : Nat) (agg : Bool) (x : Opd)
  | faddr (off : Nat) (x : Opd)
  | iaddrS (s : Nat) (x i : Opd)
  | iaddrA (len s : Nat) (x i : Opd)
  | idxStr (x i : Opd)
  | idxArr (len s : Nat) (agg : Bool) (x i : Opd)
  | slcStr (x : Opd) (lo hi : Option Opd)
  | slcSl (s : Nat) (x : Opd) (lo hi mx : Option Opd)
  | slcArr (n s : Nat) (x : Opd) (lo hi mx : Option Opd)
  | nilchk (x : Opd)
  | bin (op : BinOp) (ek : EqK) (x y : Opd)
  | un (op : UnOp) (x : Opd)
  | convInt (k : IntKind) (x : Opd)
  | convChr (x : Opd)
  | convId (x : Opd)
  | sbytes (x : Opd)
  | mkI (t : TypeId) (x : Opd)
  | mkF (f : Fn) (first captured : List Opd)
  | tass (want : TypeId) (zero : AV) (ok : Bool) (x : Opd)
  | ext (i : Nat) (x : Opd)
  | lenS (x : Opd)
  | len (x : Opd)
  | cap (x : Opd)
  | mnmx (mx : Bool) (xs : List Opd)
  deriving Inhabited

/-- The kinds of a map's keys. -/
inductive KK where
  | i | s | b
  deriving DecidableEq, Inhabited

/-- Operations that read. -/
inductive ROp where
  | load (n : Nat) (agg : Bool) (a : Opd)
  | lookup (kk : KK) (zero : AV) (ok : Bool) (m k : Opd)
  | lenM (m : Opd)
  | bstr (x : Opd)
  deriving Inhabited

/-- Operations that write, make, or call. -/
inductive EOp where
  | store (n : Nat) (a x : Opd)
  | box (x : Opd)
  | mkM
  | mkS (s bytes : Nat) (zero : List AV) (l c : Opd)
  | app (s bytes : Nat) (x y : Opd)
  | mupd (kk : KK) (m k v : Opd)
  | range (x : Opd)
  | next (it : Opd)
  | call (f : Opd) (args : List Opd)
  | defer (f : Opd) (args : List Opd)
  | panic (x : Opd)
  | recov
  | bad
  deriving Inhabited

inductive AOp where
  | p (o : POp)
  | r (o : ROp)
  | e (o : EOp)
  | al (zero : List AV)
  deriving Inhabited

/-- An operation in its place: what it writes to, when it is done, how many effects ahead of it and behind it (in the text's order) may stand on its other side. -/
structure AOper where
  dst : Option Nat
  op : AOp
  guard : Option (Nat × Bool)
  nb : Nat
  nf : Nat
  deriving Inhabited

inductive ACode where
  | skip
  | reg (ops : List AOper) (draw : Bool)
  | seq (a b : ACode)
  | cond (c : Opd) (thn els : ACode)
  | block (id : Nat) (body : ACode)
  | loop (body : ACode)
  | exit (id : Nat)
  | ret
  | bad
  deriving Inhabited

inductive ARes where
  | t (i : Nat)
  | c (a n : Nat) (agg : Bool)
  deriving Inhabited

structure AFn where
  ntmps : Nat
  body : ACode
  results : List ARes
  deriving Inhabited

/-! What they name. -/

def POp.opds : POp → List Opd
  | .mv x => [x]
  | .pick c a b => [c, a, b]
  | .build _ ps => ps.map fun p => p.2.2
  | .bslice _ xs => xs
  | .field _ _ _ x => [x]
  | .faddr _ x => [x]
  | .iaddrS _ x i => [x, i]
  | .iaddrA _ _ x i => [x, i]
  | .idxStr x i => [x, i]
  | .idxArr _ _ _ x i => [x, i]
  | .slcStr x lo hi => x :: (lo.toList ++ hi.toList)
  | .slcSl _ x lo hi mx => x :: (lo.toList ++ (hi.toList ++ mx.toList))
  | .slcArr _ _ x lo hi mx => x :: (lo.toList ++ (hi.toList ++ mx.toList))
  | .nilchk x => [x]
  | .bin _ _ x y => [x, y]
  | .un _ x => [x]
  | .convInt _ x => [x]
  | .convChr x => [x]
  | .convId x => [x]
  | .sbytes x => [x]
  | .mkI _ x => [x]
  | .mkF _ xs ys => xs ++ ys
  | .tass _ _ _ x => [x]
  | .ext _ x => [x]
  | .lenS x => [x]
  | .len x => [x]
  | .cap x => [x]
  | .mnmx _ xs => xs

def ROp.opds : ROp → List Opd
  | .load _ _ a => [a]
  | .lookup _ _ _ m k => [m, k]
  | .lenM m => [m]
  | .bstr x => [x]

def EOp.opds : EOp → List Opd
  | .store _ a x => [a, x]
  | .box x => [x]
  | .mkM => []
  | .mkS _ _ _ l c => [l, c]
  | .app _ _ x y => [x, y]
  | .mupd _ m k v => [m, k, v]
  | .range x => [x]
  | .next it => [it]
  | .call f xs => f :: xs
  | .defer f xs => f :: xs
  | .panic x => [x]
  | .recov => []
  | .bad => []

def AOp.opds : AOp → List Opd
  | .p o => o.opds
  | .r o => o.opds
  | .e o => o.opds
  | .al _ => []

/-- The slots that an operation reads. -/
def AOper.reads (a : AOper) : List Nat :=
  (a.op.opds.filterMap fun | .t i => some i | .c _ => none) ++ (match a.guard with | some (d, _) => [d] | none => [])

/-! What they come to. -/

def ibin (op : BinOp) (k : IntKind) (a b : Int) : Option AV :=
  match op with
  | .add => some (.int k (k.wrap (a + b)))
  | .sub => some (.int k (k.wrap (a - b)))
  | .mul => some (.int k (k.wrap (a * b)))
  | .quo => if b = 0 then none else some (.int k (k.wrap (a.tdiv b)))
  | .rem => if b = 0 then none else some (.int k (a.tmod b))
  | .and => some (.int k (k.wrap (BitVec.ofInt k.bits a &&& BitVec.ofInt k.bits b).toNat))
  | .or => some (.int k (k.wrap (BitVec.ofInt k.bits a ||| BitVec.ofInt k.bits b).toNat))
  | .xor => some (.int k (k.wrap (BitVec.ofInt k.bits a ^^^ BitVec.ofInt k.bits b).toNat))
  | .andNot => some (.int k (k.wrap (BitVec.ofInt k.bits a &&& ~~~BitVec.ofInt k.bits b).toNat))
  | .eql => some (.bool (a == b))
  | .neq => some (.bool (a != b))
  | .lss => some (.bool (a < b))
  | .leq => some (.bool (a ≤ b))
  | .gtr => some (.bool (a > b))
  | .geq => some (.bool (a ≥ b))
  | _ => none

def ishift (op : BinOp) (k : IntKind) (a b : Int) : Option AV :=
  if b < 0 then none else
  match op with
  | .shl => some (.int k (k.wrap (a * 2 ^ (min b.toNat k.bits))))
  | .shr => some (.int k (a.fdiv (2 ^ (min b.toNat k.bits))))
  | _ => none

def sbin (op : BinOp) (a b : List UInt8) : Option AV :=
  match op with
  | .add => if a.length + b.length ≤ 9223372036854775807 then some (.str (a ++ b)) else none
  | .eql => some (.bool (a == b))
  | .neq => some (.bool (!(a == b)))
  | .lss => some (.bool (Op.bytesLess a b))
  | .leq => some (.bool (Op.bytesLess a b || a == b))
  | .gtr => some (.bool !(Op.bytesLess a b || a == b))
  | .geq => some (.bool !(Op.bytesLess a b))
  | _ => none

/-- Are two values, that are neither numbers nor texts, the same? -/
def eqv (ek : EqK) (x y : AV) : Option Bool :=
  match ek, x, y with
  | .bool, .bool a, .bool b => some (a == b)
  | .ptr, .nilp, .nilp => some true
  | .ptr, .nilp, .ptr _ _ => some false
  | .ptr, .nilp, .ept _ => some false
  | .ptr, .ptr _ _, .nilp => some false
  | .ptr, .ept _, .nilp => some false
  | .ptr, .ptr m o, .ptr m' o' => some (m == m' && o == o')
  | .iface, .nili, .nili => some true
  | .iface, .nili, .iface _ _ => some false
  | .iface, .iface _ _, .nili => some false
  | .func, .nilf, .nilf => some true
  | .func, .nilf, .fn _ _ _ => some false
  | .func, .fn _ _ _, .nilf => some false
  | .map, .nilm, .nilm => some true
  | .map, .nilm, .map _ => some false
  | .map, .map _, .nilm => some false
  | _, _, _ => none

def abin (op : BinOp) (ek : EqK) (x y : AV) : Option AV :=
  match x, y with
  | .int k a, .int k' b =>
    match op with
    | .shl => ishift .shl k a b
    | .shr => ishift .shr k a b
    | op => if k = k' then ibin op k a b else none
  | .str a, .str b => sbin op a b
  | x, y =>
    match op with
    | .eql => (eqv ek x y).map .bool
    | .neq => (eqv ek x y).map fun b => .bool !b
    | _ => none

def aun (op : UnOp) (x : AV) : Option AV :=
  match op, x with
  | .neg, .int k n => some (.int k (k.wrap (0 - n)))
  | .not, .bool b => some (.bool !b)
  | .xor, .int k n => some (.int k (k.wrap (BitVec.ofInt k.bits (if k.signed then -1 else k.max) ^^^ BitVec.ofInt k.bits n).toNat))
  | _, _ => none

def splice (cs : List AV) (off : Nat) (new : List AV) : List AV := cs.take off ++ new ++ cs.drop (off + new.length)

def fillA (env : List AV) : List AV → List (Nat × Nat × Opd) → Option (List AV)
  | cs, [] => some cs
  | cs, (off, n, x) :: rest =>
    let v := (x.ev env).cells
    if v.length = n ∧ v.all AV.one = true ∧ off + n ≤ cs.length then fillA env (splice cs off v) rest else none

/-- n cells from a place on, as a value. -/
def takeVal (cs : List AV) (off n : Nat) (agg : Bool) : Option AV :=
  if agg then (if off + n ≤ cs.length ∧ ((cs.drop off).take n).all AV.one = true then some (.agg ((cs.drop off).take n)) else none)
  else match cs[off]? with
    | some x => if x.one = true then some x else none
    | none => none

def okElem (s : Nat) (v : AV) : Bool := v.cells.length == s && v.cells.all AV.one

def intv : AV → Option Int
  | .int _ n => some n
  | _ => none

/-- A bound of a slice: what it is, where it is not there, and what it may be at most. -/
def bnd (env : List AV) (o : Option Opd) (dflt most : Nat) : Option Nat :=
  match o with
  | none => if dflt ≤ most then some dflt else none
  | some x => match x.ev env with
    | .int _ i => if 0 ≤ i ∧ i ≤ most then some i.toNat else none
    | _ => none

def firstOk (s : Nat) : List AV → Bool
  | [] => true
  | x :: _ => x.cells.length == s

def mnmx2 (mx : Bool) : AV → AV → Option AV
  | .int k x, .int k' y => if k = k' then some (.int k (if mx then (if y > x then y else x) else (if y < x then y else x))) else none
  | _, _ => none

def mnmxL (mx : Bool) : AV → List AV → Option AV
  | x, [] => some x
  | x, y :: r => (mnmx2 mx x y).bind fun z => mnmxL mx z r

def evP (env : List AV) : POp → Option AV
  | .mv x => some (x.ev env)
  | .pick c a b => match c.ev env with
    | .bool t => some (if t then a.ev env else b.ev env)
    | _ => none
  | .build zero parts => (fillA env zero parts).map .agg
  | .bslice s xs =>
    let vs := xs.map (Opd.ev env)
    if vs.all (okElem s) = true ∧ vs.length * s ≤ 16777216 then some (.sl .full vs) else none
  | .field off n agg x => match x.ev env with
    | .agg cs => takeVal cs off n agg
    | _ => none
  | .faddr off x => match x.ev env with
    | .ptr m o => some (.ptr m (o + off))
    | .ept cs => some (.ept (cs.drop off))
    | _ => none
  | .iaddrS s x i => match x.ev env, i.ev env with
    | .sl _ xs, .int _ n => if 0 ≤ n then (match xs[n.toNat]? with
      | some v => if v.cells.length = s then some (.ept v.cells) else none
      | none => none) else none
    | .ms s' m o len _, .int _ n => if s = s' ∧ 0 ≤ n ∧ n < len then some (.ptr m (o + n.toNat * s)) else none
    | _, _ => none
  | .iaddrA len s x i => match x.ev env, i.ev env with
    | .ptr m o, .int _ n => if 0 ≤ n ∧ n < len then some (.ptr m (o + n.toNat * s)) else none
    | .ept cs, .int _ n => if 0 ≤ n ∧ n < len then some (.ept (cs.drop (n.toNat * s))) else none
    | _, _ => none
  | .idxStr x i => match x.ev env, i.ev env with
    | .str l, .int _ n => if 0 ≤ n then (match l[n.toNat]? with
      | some b => some (.int .u8 b.toNat)
      | none => none) else none
    | _, _ => none
  | .idxArr len s agg x i => match x.ev env, i.ev env with
    | .agg cs, .int _ n => if 0 ≤ n ∧ n < len then takeVal cs (n.toNat * s) s agg else none
    | _, _ => none
  | .slcStr x lo hi => match x.ev env with
    | .str l => (bnd env hi l.length l.length).bind fun h => (bnd env lo 0 h).bind fun l' => some (.str ((l.take h).drop l'))
    | _ => none
  | .slcSl s x lo hi mx => match x.ev env with
    | .sl p xs =>
      (bnd env mx xs.length xs.length).bind fun m => (bnd env hi xs.length m).bind fun h => (bnd env lo 0 h).bind fun l =>
        if l = 0 ∨ firstOk s xs = true then
          some (.sl (match mx with
            | some _ => if m = h then .full else .no
            | none => match p with
              | .full => if h = xs.length then .full else .no
              | .tok t => if l = 0 then .tok t else .no
              | .no => .no) ((xs.take h).drop l))
        else none
    | .ms s' b o len cap =>
      (bnd env mx cap cap).bind fun m => (bnd env hi len m).bind fun h => (bnd env lo 0 h).bind fun l =>
        if s = s' then some (.ms s b (if m = l then o else o + l * s) (h - l) (m - l)) else none
    | _ => none
  | .slcArr n s x lo hi mx => match x.ev env with
    | .ptr b o => (bnd env mx n n).bind fun m => (bnd env hi n m).bind fun h => (bnd env lo 0 h).bind fun l =>
        some (.ms s b (if m = l then o else o + l * s) (h - l) (m - l))
    | _ => none
  | .nilchk x => match x.ev env with
    | .ptr m o => some (.ptr m o)
    | .ept cs => some (.ept cs)
    | .fn (.func f) a b => some (.fn (.func f) a b)
    | _ => none
  | .bin op ek x y => abin op ek (x.ev env) (y.ev env)
  | .un op x => aun op (x.ev env)
  | .convInt k x => match x.ev env with
    | .int _ n => some (.int k (k.wrap n))
    | _ => none
  | .convChr x => match x.ev env with
    | .int _ n => some (.str (Utf8.encode n).data.toList)
    | _ => none
  | .convId x => match x.ev env with
    | .str s => some (.str s)
    | _ => none
  | .sbytes x => match x.ev env with
    | .str s => some (.sl .no (s.map fun b => .int .u8 b.toNat))
    | _ => none
  | .mkI t x => some (.iface t (x.ev env))
  | .mkF f first captured => some (.fn f (first.map (Opd.ev env)) (captured.map (Opd.ev env)))
  | .tass want zero ok x => match x.ev env with
    | .iface t v => if t = want then some (if ok then .tup [v, .bool true] else v) else if ok then some (.tup [zero, .bool false]) else none
    | .nili => if ok then some (.tup [zero, .bool false]) else none
    | _ => none
  | .ext i x => match x.ev env with
    | .tup vs => vs[i]?
    | _ => none
  | .lenS x => match x.ev env with
    | .str l => some (.int .i64 l.length)
    | _ => none
  | .len x => match x.ev env with
    | .sl _ xs => some (.int .i64 xs.length)
    | .ms _ _ _ n _ => some (.int .i64 n)
    | _ => none
  | .cap x => match x.ev env with
    | .sl .full xs => some (.int .i64 xs.length)
    | .ms _ _ _ _ n => some (.int .i64 n)
    | _ => none
  | .mnmx mx xs => match xs.map (Opd.ev env) with
    | x :: r => mnmxL mx x r
    | [] => none

/-- Are two keys the same? -/
def keyEq : KK → AV → AV → Option Bool
  | .i, .int k a, .int k' b => if k = k' then some (a == b) else none
  | .s, .str a, .str b => some (a == b)
  | .b, .bool a, .bool b => some (a == b)
  | _, _, _ => none

def findE (kk : KK) (k : AV) : List (AV × AV) → Option (Option AV)
  | [] => some none
  | e :: es => match keyEq kk k e.1 with
    | some true => some (some e.2)
    | some false => findE kk k es
    | none => none

def updE (kk : KK) (k v : AV) : List (AV × AV) → Option (List (AV × AV))
  | [] => some [(k, v)]
  | e :: es => match keyEq kk k e.1 with
    | some true => some ((k, v) :: es)
    | some false => (updE kk k v es).map (e :: ·)
    | none => none

def byteOfAV : AV → Option UInt8
  | .int .u8 n => some (UInt8.ofNat n.toNat)
  | _ => none

def evR (env : List AV) (σ : St) : ROp → Option AV
  | .load n agg a => match a.ev env with
    | .ptr m o => match σ.get m with
      | some (.cells cs) => takeVal cs o n agg
      | _ => none
    | .ept cs => takeVal cs 0 n agg
    | _ => none
  | .lookup kk zero ok m k => match m.ev env with
    | .nilm => some (if ok then .tup [zero, .bool false] else zero)
    | .map m => match σ.get m with
      | some (.map es) => match findE kk (k.ev env) es with
        | some (some v) => some (if ok then .tup [v, .bool true] else v)
        | some none => some (if ok then .tup [zero, .bool false] else zero)
        | none => none
      | _ => none
    | _ => none
  | .lenM m => match m.ev env with
    | .nilm => some (.int .i64 0)
    | .map m => match σ.get m with
      | some (.map es) => some (.int .i64 es.length)
      | _ => none
    | _ => none
  | .bstr x => match x.ev env with
    | .sl _ xs => (xs.mapM byteOfAV).map .str
    | .ms 1 m o len _ => match σ.get m with
      | some (.cells cs) => if o + len ≤ cs.length then (((cs.drop o).take len).mapM byteOfAV).map .str else none
      | _ => none
    | _ => none

/-- The rune that a text begins with, and how many bytes it takes. -/
def decL (s : List UInt8) : Nat × Nat :=
  let at' (k : Nat) : Nat := (s.getD k 0).toNat
  let cont (k : Nat) : Bool := decide (k < s.length) && at' k / 64 == 2
  let b0 := at' 0
  if b0 < 0x80 then (b0, 1)
  else if b0 / 32 == 6 && cont 1 then
    let c := (b0 % 32) * 64 + at' 1 % 64
    if c ≥ 0x80 then (c, 2) else (Utf8.runeError, 1)
  else if b0 / 16 == 14 && cont 1 && cont 2 then
    let c := (b0 % 16) * 4096 + (at' 1 % 64) * 64 + at' 2 % 64
    if c ≥ 0x800 && Utf8.valid c then (c, 3) else (Utf8.runeError, 1)
  else if b0 / 8 == 30 && cont 1 && cont 2 && cont 3 then
    let c := (b0 % 8) * 262144 + (at' 1 % 64) * 4096 + (at' 2 % 64) * 64 + at' 3 % 64
    if c ≥ 0x10000 && Utf8.valid c then (c, 4) else (Utf8.runeError, 1)
  else (Utf8.runeError, 1)

inductive Out where
  | ret (v : AV)
  | pan (v : AV)
  deriving Inhabited

structure ADef where
  fn : FuncId
  args : List AV
  deriving Inhabited

inductive ER where
  | val (v : AV)
  | dfr (d : ADef)
  | pan (v : AV)
  deriving Inhabited

/-- What is called: a function, and its arguments. -/
def callee (f : AV) (args : List AV) : Option (FuncId × List AV) :=
  match f with
  | .fn (.func f) first captured => some (f, first ++ args ++ captured)
  | _ => none

/-- The elements of a slice, or of a text. -/
def elems (σ : St) (s : Nat) : AV → Option (List AV)
  | .sl _ xs => some xs
  | .str l => if s = 1 then some (l.map fun b => .int .u8 b.toNat) else none
  | .ms 1 m o len _ => if s = 1 then (match σ.get m with
    | some (.cells cs) => if o + len ≤ cs.length then some ((cs.drop o).take len) else none
    | _ => none) else none
  | _ => none

def evApp (s bytes : Nat) (x : AV) (ys : List AV) (σ : St) : Option (AV × St) :=
  match x with
  | .sl p xs =>
    if ys.isEmpty then some (.sl p xs, σ) else
    if (xs.length + ys.length) * bytes ≤ 140737488355328 ∧ xs.length + ys.length ≤ 140737488355328 ∧ ys.all (okElem s) = true ∧ firstOk s xs = true ∧ 0 < s then
      match p with
      | .no => none
      | .full => some (.sl (.tok σ.next) (xs ++ ys), σ.push (.tok (xs.length + ys.length) s))
      | .tok t => match σ.get t with
        | some (.tok n s') => if n = xs.length ∧ s' = s then some (.sl (.tok t) (xs ++ ys), σ.set t (.tok (xs.length + ys.length) s)) else none
        | _ => none
    else none
  | _ => none

abbrev CallF := FuncId → List AV → St → Option (Out × St)

def evE (call : CallF) (env : List AV) (σ : St) : EOp → Option (ER × St)
  | .store n a x => match a.ev env with
    | .ptr m o => match σ.get m with
      | some (.cells old) =>
        let cs := (x.ev env).cells
        if cs.length = n ∧ cs.all AV.one = true ∧ o + n ≤ old.length then some (.val .undef, σ.set m (.cells (splice old o cs))) else none
      | _ => none
    | _ => none
  | .box x =>
    let cs := (x.ev env).cells
    if cs.all AV.one = true then some (.val (.ptr σ.next 0), σ.push (.cells cs)) else none
  | .mkM => some (.val (.map σ.next), σ.push (.map []))
  | .mkS s bytes zero l c => match l.ev env, c.ev env with
    | .int .i64 l, .int .i64 c =>
      if 0 ≤ l ∧ l ≤ c ∧ c * bytes ≤ 140737488355328 ∧ c ≤ 140737488355328 ∧ zero.length = s ∧ zero.all AV.one = true ∧ 0 < s then
        some (.val (.ms s σ.next 0 l.toNat c.toNat), σ.push (.cells (List.replicate c.toNat zero).flatten))
      else none
    | _, _ => none
  | .app s bytes x y => match elems σ s (y.ev env) with
    | some ys => (evApp s bytes (x.ev env) ys σ).map fun r => (.val r.1, r.2)
    | none => none
  | .mupd kk m k v => match m.ev env with
    | .map m => match σ.get m with
      | some (.map es) => match updE kk (k.ev env) (v.ev env) es with
        | some es' => some (.val .undef, σ.set m (.map es'))
        | none => none
      | _ => none
    | _ => none
  | .range x => match x.ev env with
    | .str l => some (.val (.iter σ.next), σ.push (.iter l 0))
    | _ => none
  | .next it => match it.ev env with
    | .iter m => match σ.get m with
      | some (.iter rest pos) => match rest with
        | [] => some (.val (.tup [.bool false]), σ)
        | _ :: _ =>
          let d := decL rest
          some (.val (.tup [.bool true, .int .i64 pos, .int .i32 d.1]), σ.set m (.iter (rest.drop d.2) (pos + d.2)))
      | _ => none
    | _ => none
  | .call f args => match callee (f.ev env) (args.map (Opd.ev env)) with
    | some (f, vs) => match call f vs σ with
      | some (.ret v, σ') => some (.val v, σ')
      | some (.pan v, σ') => some (.pan v, σ')
      | none => none
    | none => none
  | .defer f args => match callee (f.ev env) (args.map (Opd.ev env)) with
    | some (f, vs) => some (.dfr ⟨f, vs⟩, σ)
    | none => none
  | .panic x => match x.ev env with
    | .iface t v => some (.pan (.iface t v), σ)
    | _ => none
  | .recov => none
  | .bad => none

structure AAct where
  tmps : List AV
  defs : List ADef
  deriving Inhabited

inductive AX where
  | norm
  | exit (id : Nat)
  | ret
  | pan (v : AV)
  deriving Inhabited

def put (env : List AV) (d : Option Nat) (v : AV) : List AV :=
  match d with
  | some d => env.set d v
  | none => env

def wantedA (env : List AV) (g : Option (Nat × Bool)) : Bool :=
  match g with
  | none => true
  | some (d, b) => match env[d]? with
    | some (.bool c) => c == b
    | _ => false

/-- A region in the text's order. -/
def evOps (call : CallF) : List AOper → AAct → St → Option (AX × AAct × St)
  | [], a, σ => some (.norm, a, σ)
  | o :: os, a, σ =>
    if wantedA a.tmps o.guard then
      match o.op with
      | .p op => match evP a.tmps op with
        | some v => evOps call os { a with tmps := put a.tmps o.dst v } σ
        | none => none
      | .r op => match evR a.tmps σ op with
        | some v => evOps call os { a with tmps := put a.tmps o.dst v } σ
        | none => none
      | .al zero => evOps call os { a with tmps := put a.tmps o.dst (.ptr σ.next 0) } (σ.push (.cells zero))
      | .e op => match evE call a.tmps σ op with
        | some (.val v, σ') => evOps call os { a with tmps := put a.tmps o.dst v } σ'
        | some (.dfr d, σ') => evOps call os { tmps := put a.tmps o.dst .undef, defs := d :: a.defs } σ'
        | some (.pan v, σ') => some (.pan v, a, σ')
        | none => none
    else evOps call os { a with tmps := put a.tmps o.dst .undef } σ

/-- What was read and must still read so; a variable that must still be as it was made. -/
inductive Chk where
  | rd (env : List AV) (op : ROp) (v : AV)
  | zr (m : Nat) (zero : List AV)
  deriving Inhabited

def okChk (σ : St) : Chk → Bool
  | .rd env op v => match evR env σ op with
    | some u => AV.beq v u
    | none => false
  | .zr m zero => match σ.get m with
    | some (.cells cs) => AV.beqs zero cs
    | _ => false

/-- Each that must hold behind one effect more does. -/
def pendOk (σ : St) : List (Chk × Nat) → Bool
  | [] => true
  | p :: ps => (p.2 == 0 || okChk σ p.1) && pendOk σ ps

def pendDown : List (Chk × Nat) → List (Chk × Nat)
  | [] => []
  | p :: ps => if p.2 ≤ 1 then pendDown ps else (p.1, p.2 - 1) :: pendDown ps

def allOk (c : Chk) : List St → Bool
  | [] => true
  | σ :: σs => okChk σ c && allOk c σs

/-- A region whose order is open: in the text's order, with what must not hang on it held again. 'snaps': the stores ahead of each effect, the last one first. -/
def evDraw (call : CallF) : List AOper → List AV → St → List St → List (Chk × Nat) → List Nat → Option (List AV × St)
  | [], env, σ, _, _, _ => some (env, σ)
  | o :: os, env, σ, snaps, pend, names =>
    if wantedA env o.guard then
      match o.op with
      | .p op => match evP env op with
        | some v => evDraw call os (put env o.dst v) σ snaps pend names
        | none => none
      | .r op => match evR env σ op with
        | some v =>
          if allOk (.rd env op v) (snaps.take o.nb) then
            evDraw call os (put env o.dst v) σ snaps ((.rd env op v, o.nf) :: pend) names
          else none
        | none => none
      | .al zero => match names with
        | m :: names =>
          if okChk σ (.zr m zero) && allOk (.zr m zero) (snaps.take o.nb) then
            evDraw call os (put env o.dst (.ptr m 0)) σ snaps ((.zr m zero, o.nf) :: pend) names
          else none
        | [] => none
      | .e op => match evE call env σ op with
        | some (.val v, σ') => if pendOk σ' pend then evDraw call os (put env o.dst v) σ' (σ :: snaps) (pendDown pend) names else none
        | _ => none
    else match o.op with
      | .e _ => if pendOk σ pend then evDraw call os (put env o.dst .undef) σ (σ :: snaps) (pendDown pend) names else none
      | .al _ => evDraw call os (put env o.dst .undef) σ snaps pend names.tail
      | _ => evDraw call os (put env o.dst .undef) σ snaps pend names

/-- The variables that a region makes, made ahead of it. -/
def hoist : List AOper → St → List Nat × St
  | [], σ => ([], σ)
  | o :: os, σ => match o.op with
    | .al zero => let r := hoist os (σ.push (.cells zero)); (σ.next :: r.1, r.2)
    | _ => hoist os σ

def evDrawn (call : CallF) (ops : List AOper) (env : List AV) (σ : St) : Option (List AV × St) :=
  evDraw call ops env (hoist ops σ).2 [] [] (hoist ops σ).1

def readRes (env : List AV) (σ : St) : ARes → Option AV
  | .t i => some ((env[i]?).getD .undef)
  | .c a n agg => evR env σ (.load n agg (.t a))

def finish (rs : List ARes) (env : List AV) (σ : St) : Option AV :=
  (rs.mapM (readRes env σ)).map fun vs => match vs with
    | [v] => v
    | vs => .tup vs

structure Tab where
  fn : FuncId → Option AFn
  hook : FuncId → Option (List AV → St → Option (Out × St))

/-- One round deeper: 'self' does what stands within. -/
def codeStep (call : CallF) (self : ACode → AAct → St → Option (AX × AAct × St)) (c : ACode) (a : AAct) (σ : St) : Option (AX × AAct × St) :=
  match c with
  | .skip => some (.norm, a, σ)
  | .reg ops false => evOps call ops a σ
  | .reg ops true => match evDrawn call ops a.tmps σ with
    | some (env, σ') => some (.norm, { a with tmps := env }, σ')
    | none => none
  | .seq x y => match self x a σ with
    | some (.norm, a', σ') => self y a' σ'
    | r => r
  | .cond c x y => match c.ev a.tmps with
    | .bool true => self x a σ
    | .bool false => self y a σ
    | _ => none
  | .block id x => match self x a σ with
    | some (.exit i, a', σ') => if i = id then some (.norm, a', σ') else some (.exit i, a', σ')
    | r => r
  | .loop x => match self x a σ with
    | some (.norm, a', σ') => self (.loop x) a' σ'
    | r => r
  | .exit id => some (.exit id, a, σ)
  | .ret => some (.ret, a, σ)
  | .bad => none

/-- A region with a recover in it, of a deferred call: what the frame behind it panics with. -/
def evOpsR : List AOper → AAct → St → Option AV → Bool → Option (AAct × St × Bool)
  | [], a, σ, _, rec => some (a, σ, rec)
  | o :: os, a, σ, pv, rec =>
    match o.guard, o.op with
    | none, .e .recov => match pv, rec with
      | some v, false => evOpsR os { a with tmps := put a.tmps o.dst v } σ pv true
      | _, _ => evOpsR os { a with tmps := put a.tmps o.dst .nili } σ pv rec
    | none, .p op => match evP a.tmps op with
      | some v => evOpsR os { a with tmps := put a.tmps o.dst v } σ pv rec
      | none => none
    | _, _ => none

def enter (fn : AFn) (args : List AV) : AAct := { tmps := args ++ List.replicate (fn.ntmps - args.length) .undef, defs := [] }

/-- The deferred calls, one by one; 'pv': what is panicked with, if anything is. -/
def leave (self : ACode → AAct → St → Option (AX × AAct × St)) (T : Tab) (rs : List ARes) (env : List AV) : List ADef → Option AV → St → Option (Out × St)
  | [], none, σ => (finish rs env σ).map fun v => (.ret v, σ)
  | [], some v, σ => some (.pan v, σ)
  | d :: ds, pv, σ => match T.fn d.fn with
    | some fn => match fn.body with
      | .seq (.reg ops false) rest => match evOpsR ops (enter fn d.args) σ pv false with
        | some (a, σ', rec) => match self rest a σ' with
          | some (.norm, a', σ'') => if a'.defs.isEmpty ∧ (finish fn.results a'.tmps σ'').isSome then leave self T rs env ds (if rec then none else pv) σ'' else none
          | some (.ret, a', σ'') => if a'.defs.isEmpty ∧ (finish fn.results a'.tmps σ'').isSome then leave self T rs env ds (if rec then none else pv) σ'' else none
          | _ => none
        | none => none
      | _ => none
    | none => none

def callStep (T : Tab) (self : ACode → AAct → St → Option (AX × AAct × St)) : CallF := fun f args σ =>
  match T.hook f with
  | some h => h args σ
  | none => match T.fn f with
    | none => none
    | some fn => match self fn.body (enter fn args) σ with
      | some (.norm, a, σ') => leave self T fn.results a.tmps a.defs none σ'
      | some (.ret, a, σ') => leave self T fn.results a.tmps a.defs none σ'
      | some (.pan v, a, σ') => leave self T fn.results a.tmps a.defs (some v) σ'
      | _ => none

/-- Code, at most so deep. -/
def ev (T : Tab) : Nat → ACode → AAct → St → Option (AX × AAct × St)
  | 0 => fun _ _ _ => none
  | n + 1 => codeStep (callStep T (ev T n)) (ev T n)

/-- A call, at most so deep. -/
def evCall (T : Tab) (n : Nat) : CallF := callStep T (ev T n)

end Jet

/-
The abstract interpreter, part 3: from the program's code to the interpreter's. What it does not take it turns into 'bad', which comes to nothing.
-/
namespace Jet
open Go

def toAV1 : Value → Option AV
  | .bool b => some (.bool b)
  | .int k n => some (.int k n)
  | .string s => some (.str s.data.toList)
  | .pointer none => some .nilp
  | .slice none 0 0 => some (.sl .full [])
  | .map none => some .nilm
  | .nilFunc => some .nilf
  | .nilIface => some .nili
  | _ => none

def toAV : Value → Option AV
  | .agg cs => (cs.toList.mapM toAV1).map .agg
  | .tuple cs => if cs.isEmpty then some .undef else none
  | v => toAV1 v

abbrev Gl := Nat → Option (List AV)

def cOpd (gl : Gl) : Operand → Option Opd
  | .tmp t => some (.t t)
  | .const v => (toAV v).map .c
  | .global g => (gl g).map fun cs => .c (.ept cs)
  | .func f => some (.c (.fn (.func f) [] []))

def cOpds (gl : Gl) (xs : Array Operand) : Option (List Opd) := xs.toList.mapM (cOpd gl)

def cOpt (gl : Gl) : Option Operand → Option (Option Opd)
  | none => some none
  | some x => (cOpd gl x).map some

def szT (P : Program) (t : TypeId) : Option Nat := (P.info? t).map (·.size)

def aggT (P : Program) (t : TypeId) : Option Bool := (P.underlying t).map fun
  | .struct _ | .array _ _ => true
  | _ => false

def zeroT (P : Program) (t : TypeId) : Option AV := ((P.info? t).bind (·.zero)).bind toAV

/-- How many cells, and is it a struct or an array? One that is neither has one cell. -/
def shapeT (P : Program) (t : TypeId) : Option (Nat × Bool) := do
  let n ← szT P t
  let a ← aggT P t
  if a || n == 1 then some (n, a) else none

def isConstO : Operand → Bool
  | .const _ => true
  | _ => false

def cEq (P : Program) (t : TypeId) (x y : Operand) : EqK :=
  match P.underlying t with
  | some .bool => .bool
  | some (.pointer e) => match szT P e with
    | some (_ + 1) => .ptr
    | _ => .other
  | some (.interface ms) => if isConstO x || isConstO y || ms.isEmpty then .iface else .other
  | some (.func _ _ _) => .func
  | some (.map _ _) => .map
  | _ => .other

def cBuildParts (gl : Gl) (places : List (Nat × Nat)) : List (Nat × Operand) → Option (List (Nat × Nat × Opd))
  | [] => some []
  | (i, x) :: rest => do
    let p ← places[i]?
    let o ← cOpd gl x
    let r ← cBuildParts gl places rest
    some ((p.1, p.2, o) :: r)

def cArrParts (gl : Gl) (s : Nat) : List (Nat × Operand) → Option (List (Nat × Nat × Opd))
  | [] => some []
  | (i, x) :: rest => do
    let o ← cOpd gl x
    let r ← cArrParts gl s rest
    some ((i * s, s, o) :: r)

def cPlaces (P : Program) : List Field → Option (List (Nat × Nat))
  | [] => some []
  | f :: fs => do
    let n ← szT P f.type
    let r ← cPlaces P fs
    some ((f.offset, n) :: r)

def keyKind (P : Program) (t : TypeId) : Option KK :=
  match P.underlying t with
  | some (.int _) => some .i
  | some .string => some .s
  | some .bool => some .b
  | _ => none

def notInt : TypeDesc → Bool
  | .int _ => false
  | _ => true

def cOp (P : Program) (gl : Gl) (op : Op) : Option AOp :=
  match op with
  | .move x | .assign x => do some (.p (.mv (← cOpd gl x)))
  | .pick c a b => do some (.p (.pick (← cOpd gl c) (← cOpd gl a) (← cOpd gl b)))
  | .alloc t => do
    let z ← zeroT P t
    if z.cells.all AV.one then some (.al z.cells) else none
  | .box _ x => do some (.e (.box (← cOpd gl x)))
  | .build t parts => do
    let z ← zeroT P t
    match z, P.underlying t with
    | .agg zc, some (.struct fs) => do
      let places ← cPlaces P fs.toList
      some (.p (.build zc (← cBuildParts gl places parts.toList)))
    | .agg zc, some (.array _ e) => do
      let s ← szT P e
      some (.p (.build zc (← cArrParts gl s parts.toList)))
    | _, _ => none
  | .buildSlice t len parts =>
    match P.underlying t with
    | some (.slice e) => do
      let s ← szT P e
      let _ ← zeroT P e
      if parts.toList.map (·.1) = List.range len then some (.p (.bslice s (← (parts.toList.map (·.2)).mapM (cOpd gl)))) else none
    | _ => none
  | .load t a => do
    let (n, g) ← shapeT P t
    some (.r (.load n g (← cOpd gl a)))
  | .store t a x => do
    let n ← szT P t
    some (.e (.store n (← cOpd gl a) (← cOpd gl x)))
  | .nilCheck x => do some (.p (.nilchk (← cOpd gl x)))
  | .binOp op t x y _ => do some (.p (.bin op (cEq P t x y) (← cOpd gl x) (← cOpd gl y)))
  | .unOp op _ x => do some (.p (.un op (← cOpd gl x)))
  | .convert src dst x =>
    match P.underlying src, P.underlying dst with
    | some _, some (.int k) => do some (.p (.convInt k (← cOpd gl x)))
    | some (.int _), some .string => do some (.p (.convChr (← cOpd gl x)))
    | some .string, some .string => do some (.p (.convId (← cOpd gl x)))
    | some .string, some (.slice e) => match P.underlying e with
      | some (.int .u8) => do some (.p (.sbytes (← cOpd gl x)))
      | _ => none
    | some (.slice e), some .string => match P.underlying e with
      | some (.int .u8) => do some (.r (.bstr (← cOpd gl x)))
      | _ => none
    | _, _ => none
  | .makeInterface t x => match P.underlying t with
    | some (.interface _) => none
    | some _ => do some (.p (.mkI t (← cOpd gl x)))
    | none => none
  | .makeFunc f first captured => do some (.p (.mkF f (← cOpds gl first) (← cOpds gl captured)))
  | .makeMap _ none => some (.e .mkM)
  | .makeSlice t l c => match P.underlying t with
    | some (.slice e) => do
      let i ← P.info? e
      let z ← zeroT P e
      some (.e (.mkS i.size i.bytes z.cells (← cOpd gl l) (← cOpd gl c)))
    | _ => none
  | .slice t x lo hi mx => match P.underlying t with
    | some .string => do if mx.isSome then none else some (.p (.slcStr (← cOpd gl x) (← cOpt gl lo) (← cOpt gl hi)))
    | some (.slice e) => do
      let s ← szT P e
      if mx.isSome && hi.isNone then none else some (.p (.slcSl s (← cOpd gl x) (← cOpt gl lo) (← cOpt gl hi) (← cOpt gl mx)))
    | some (.array n e) => do
      let s ← szT P e
      if mx.isSome && hi.isNone then none else some (.p (.slcArr n s (← cOpd gl x) (← cOpt gl lo) (← cOpt gl hi) (← cOpt gl mx)))
    | _ => none
  | .fieldAddr t x f => match P.underlying t with
    | some (.struct fs) => do
      let fd ← fs[f]?
      let n ← szT P fd.type
      if n = 0 then none else some (.p (.faddr fd.offset (← cOpd gl x)))
    | _ => none
  | .field t x f => match P.underlying t with
    | some (.struct fs) => do
      let fd ← fs[f]?
      let (n, g) ← shapeT P fd.type
      some (.p (.field fd.offset n g (← cOpd gl x)))
    | _ => none
  | .indexAddr t x i => match P.underlying t with
    | some (.slice e) => do
      let s ← szT P e
      some (.p (.iaddrS s (← cOpd gl x) (← cOpd gl i)))
    | some (.array n e) => do
      let s ← szT P e
      some (.p (.iaddrA n s (← cOpd gl x) (← cOpd gl i)))
    | _ => none
  | .index t x i => match P.underlying t with
    | some .string => do some (.p (.idxStr (← cOpd gl x) (← cOpd gl i)))
    | some (.array n e) => do
      let (s, g) ← shapeT P e
      some (.p (.idxArr n s g (← cOpd gl x) (← cOpd gl i)))
    | _ => none
  | .lookup t m k ok => match P.underlying t with
    | some (.map kt e) => do
      let kk ← keyKind P kt
      some (.r (.lookup kk (← zeroT P e) ok (← cOpd gl m) (← cOpd gl k)))
    | _ => none
  | .mapUpdate t m k v | .insert t m k v => match P.underlying t with
    | some (.map kt _) => do
      let kk ← keyKind P kt
      some (.e (.mupd kk (← cOpd gl m) (← cOpd gl k) (← cOpd gl v)))
    | _ => none
  | .range t x => match P.underlying t with
    | some .string => do some (.e (.range (← cOpd gl x)))
    | _ => none
  | .next it true => do some (.e (.next (← cOpd gl it)))
  | .typeAssert x _ t ok => match P.underlying t with
    | some (.interface _) => none
    | some _ => do some (.p (.tass t (← zeroT P t) ok (← cOpd gl x)))
    | none => none
  | .extract x i => do some (.p (.ext i (← cOpd gl x)))
  | .call c => match c.callee with
    | .value f => do some (.e (.call (← cOpd gl f) (← cOpds gl c.args)))
    | .invoke _ _ => none
    | .builtin b => match b, c.args.toList, c.argTypes.toList with
      | .len, [x], [t] => match P.underlying t with
        | some .string => do some (.p (.lenS (← cOpd gl x)))
        | some (.slice _) => do some (.p (.len (← cOpd gl x)))
        | some (.map _ _) => do some (.r (.lenM (← cOpd gl x)))
        | _ => none
      | .cap, [x], [t] => match P.underlying t with
        | some (.slice _) => do some (.p (.cap (← cOpd gl x)))
        | _ => none
      | .append, [x, y], [t, u] => match P.underlying t, P.underlying u with
        | some (.slice e), some d => do
          let i ← P.info? e
          let z ← zeroT P e
          if z.cells.length == i.size && notInt d then some (.e (.app i.size i.bytes (← cOpd gl x) (← cOpd gl y))) else none
        | _, _ => none
      | .max, xs, _ => do some (.p (.mnmx true (← xs.mapM (cOpd gl))))
      | .min, xs, _ => do some (.p (.mnmx false (← xs.mapM (cOpd gl))))
      | .recover, [], _ => some (.e .recov)
      | _, _, _ => none
  | .defer c => match c.callee with
    | .value f => do some (.e (.defer (← cOpd gl f) (← cOpds gl c.args)))
    | _ => none
  | .panic x => do some (.e (.panic (← cOpd gl x)))
  | _ => none

/-! Regions. -/

def edgesOf (o : Oper) : List Nat := (o.after.toList.filter (Region.binds .any)).map (·.on)

def befStep (acc : List Nat) (o : Oper) : List Nat :=
  acc ++ [(edgesOf o).foldl (fun s e => s ||| 2 ^ e ||| acc.getD e 0) 0]

/-- Of each operation those that are done ahead of it in every order, as bits. -/
def befs (ops : List Oper) : List Nat := ops.foldl befStep []

def guardTmp (ops : List Oper) (o : Oper) : Option (Option (Nat × Bool)) :=
  match o.guard with
  | none => some none
  | some (g, b) => match ops[g]? with
    | some og => match og.dst with
      | some d => some (some (d, b))
      | none => none
    | none => none

def cOper (P : Program) (gl : Gl) (ops : List Oper) (o : Oper) : AOper :=
  match guardTmp ops o with
  | some g => { dst := o.dst, op := (cOp P gl o.op).getD (.e .bad), guard := g, nb := 0, nf := 0 }
  | none => { dst := o.dst, op := .e .bad, guard := none, nb := 0, nf := 0 }

def AOp.isEff : AOp → Bool
  | .e _ => true
  | _ => false

/-- Are all that name what another one writes ordered with it, and the effects among themselves? -/
def okDraw (ops : List Oper) (aops : List AOper) : Bool :=
  let b := befs ops
  let n := ops.length
  (List.range n).all fun i =>
    match ops[i]?, aops[i]? with
    | some o, some a =>
      (edgesOf o).all (fun e => decide (e < i)) &&
      (List.range n).all fun d =>
        match aops[d]? with
        | none => false
        | some w =>
          (d == i) ||
          ((match w.dst with
            | none => true
            | some t => (a.dst != some t) && (!a.reads.contains t || (b.getD (max d i) 0).testBit (min d i))) &&
           (!(w.op.isEff && a.op.isEff) || (b.getD (max d i) 0).testBit (min d i)))
    | _, _ => false

def countIf (p : Nat → Bool) (n : Nat) : Nat := ((List.range n).filter p).length

def withCounts (ops : List Oper) (effs : List Bool) (i : Nat) (a : AOper) : AOper :=
  let b := befs ops
  let ahead := countIf (fun e => effs.getD e false) i
  { a with
    nb := ahead - countIf (fun e => effs.getD e false && (b.getD i 0).testBit e) i
    nf := countIf (fun e => effs.getD e false && !(b.getD e 0).testBit i) ops.length - ahead - (if effs.getD i false then 1 else 0) }

def cRegion (P : Program) (gl : Gl) (ops : List Oper) (draw : Bool) : ACode :=
  let aops := ops.map (cOper P gl ops)
  if draw then
    let effs := aops.map fun a => a.op.isEff
    if okDraw ops aops then .reg (aops.zipIdx.map fun (a, i) => withCounts ops effs i a) true else .bad
  else .reg aops false

def cCode (P : Program) (gl : Gl) : Code → ACode
  | .skip => .skip
  | .region _ ops d => cRegion P gl ops.toList d
  | .seq a b => .seq (cCode P gl a) (cCode P gl b)
  | .cond c a b => match cOpd gl c with
    | some c => .cond c (cCode P gl a) (cCode P gl b)
    | none => .bad
  | .block id c => .block id (cCode P gl c)
  | .loop c => .loop (cCode P gl c)
  | .exit id => .exit id
  | .ret => .ret
  | _ => .bad

def cRes (P : Program) : ResultVar → Option ARes
  | .tmp t => some (.t t)
  | .cell a t => (shapeT P t).map fun (n, g) => .c a n g

def comp (P : Program) (gl : Gl) (f : Func) : Option AFn := do
  let c ← f.body
  let rs ← f.results.toList.mapM (cRes P)
  some { ntmps := f.ntmps, body := cCode P gl c, results := rs }

end Jet

/-
Soundness, part 1: how an abstract value stands to a value in memory.
-/
namespace Jet
open Go

/-- What a block of memory is for: a variable of the abstract store; cells that are not written any more; a map or an iterator of the abstract store. -/
inductive BK where
  | var (m : Nat)
  | imm (cs : List AV)
  | obj (m : Nat)

/-- Where a token stands: the block, where the slice begins, the size of an element, how many there are, the capacity. -/
structure TK where
  b : Nat
  o : Nat
  s : Nat
  n : Nat
  cap : Nat

structure Gh where
  blk : Nat → Option BK
  tok : Nat → Option TK
  nx : Nat

structure Gh.le (G G' : Gh) : Prop where
  var : ∀ b m, G.blk b = some (.var m) → G'.blk b = some (.var m)
  obj : ∀ b m, G.blk b = some (.obj m) → G'.blk b = some (.obj m)
  imm : ∀ b cs, G.blk b = some (.imm cs) → ∃ more, G'.blk b = some (.imm (cs ++ more))
  tok : ∀ t k, G.tok t = some k → ∃ k', G'.tok t = some k' ∧ k'.s = k.s ∧ (k' = k ∨ k.n < k'.n)

theorem Gh.le.refl (G : Gh) : G.le G := ⟨fun _ _ h => h, fun _ _ h => h, fun _ cs h => ⟨[], by simpa using h⟩, fun _ k h => ⟨k, h, rfl, .inl rfl⟩⟩

theorem Gh.le.trans {G G' G'' : Gh} (h : G.le G') (h' : G'.le G'') : G.le G'' where
  var b m e := h'.var b m (h.var b m e)
  obj b m e := h'.obj b m (h.obj b m e)
  imm b cs e := by
    obtain ⟨m1, e1⟩ := h.imm b cs e
    obtain ⟨m2, e2⟩ := h'.imm b _ e1
    exact ⟨m1 ++ m2, by rw [e2, List.append_assoc]⟩
  tok t k e := by
    obtain ⟨k1, e1, s1, c1⟩ := h.tok t k e
    obtain ⟨k2, e2, s2, c2⟩ := h'.tok t _ e1
    refine ⟨k2, e2, s2.trans s1, ?_⟩
    rcases c1 with rfl | c1
    · exact c2
    · rcases c2 with rfl | c2
      · exact .inr c1
      · exact .inr (Nat.lt_trans c1 c2)

def BaseOk (G : Gh) (xs : List AV) (a : Option Addr) (cap : Nat) : Prop :=
  match a with
  | none => xs = [] ∧ cap = 0
  | some a => a.spot = none ∧ (xs = [] ∨ ∃ full, G.blk a.block = some (.imm full) ∧ flat xs <+: full.drop a.off)

def TokOk (G : Gh) (p : Perm) (xs : List AV) (a : Option Addr) (cap : Nat) : Prop :=
  match p with
  | .no => True
  | .full => cap = xs.length
  | .tok t => ∃ k, G.tok t = some k ∧ (∀ x ∈ xs, x.cells.length = k.s) ∧ xs.length ≤ k.n ∧ (xs.length = k.n → a = some ⟨k.b, k.o, none⟩ ∧ cap = k.cap)

/-- What may stand for itself. -/
def rawOk : Value → Bool
  | .agg _ | .tuple _ | .bool _ => false
  | _ => true

mutual
def Rel (G : Gh) : AV → Value → Prop
  | .bool b, v => v = .bool b
  | .int k n, v => v = .int k n
  | .str s, v => ∃ bs : ByteArray, v = .string bs ∧ bs.data.toList = s
  | .ptr m o, v => ∃ b, v = .pointer (some ⟨b, o, none⟩) ∧ G.blk b = some (.var m)
  | .nilp, v => v = .pointer none
  | .ept cs, v => ∃ b o full, v = .pointer (some ⟨b, o, none⟩) ∧ G.blk b = some (.imm full) ∧ cs <+: full.drop o
  | .sl p xs, v => ∃ a cap, v = .slice a xs.length cap ∧ xs.length ≤ cap ∧ (∃ s, ∀ x ∈ xs, x.cells.length = s) ∧ BaseOk G xs a cap ∧ TokOk G p xs a cap
  | .ms _ m o len cap, v => ∃ b, v = .slice (some ⟨b, o, none⟩) len cap ∧ G.blk b = some (.var m)
  | .map m, v => ∃ b, v = .map (some b) ∧ G.blk b = some (.obj m)
  | .nilm, v => v = .map none
  | .fn f xs ys, v => ∃ xs' ys', v = .func f xs' ys' ∧ RelL G xs xs'.toList ∧ RelL G ys ys'.toList
  | .nilf, v => v = .nilFunc
  | .iface t x, v => ∃ y, v = .iface t y ∧ Rel G x y
  | .nili, v => v = .nilIface
  | .agg xs, v => ∃ ys, v = .agg ys ∧ RelL G xs ys.toList ∧ ∀ x ∈ xs, x.one = true
  | .tup xs, v => ∃ ys, v = .tuple ys ∧ RelL G xs ys.toList
  | .iter m, v => ∃ b, v = .pointer (some ⟨b, 0, none⟩) ∧ G.blk b = some (.obj m)
  | .raw u, v => v = u ∧ rawOk u = true
def RelL (G : Gh) : List AV → List Value → Prop
  | [], l => l = []
  | x :: xs, l => ∃ y ys, l = y :: ys ∧ Rel G x y ∧ RelL G xs ys
end

theorem prefix_drop_append {α : Type} (cs full more : List α) (o : Nat) (h : cs <+: full.drop o) : cs <+: (full ++ more).drop o := by
  rw [List.drop_append]
  exact h.trans (List.prefix_append _ _)

theorem BaseOk.mono {G G' : Gh} (h : G.le G') {xs : List AV} {a : Option Addr} {cap : Nat} (hb : BaseOk G xs a cap) : BaseOk G' xs a cap := by
  cases a with
  | none => exact hb
  | some a =>
    refine ⟨hb.1, hb.2.imp id ?_⟩
    rintro ⟨full, e, hp⟩
    obtain ⟨more, e'⟩ := h.imm _ _ e
    exact ⟨_, e', prefix_drop_append _ _ _ _ hp⟩

theorem TokOk.mono {G G' : Gh} (h : G.le G') {p : Perm} {xs : List AV} {a : Option Addr} {cap : Nat} (hb : TokOk G p xs a cap) : TokOk G' p xs a cap := by
  cases p with
  | no => exact hb
  | full => exact hb
  | tok t =>
    obtain ⟨k, e, hs, hl, hc⟩ := hb
    obtain ⟨k', e', hs', hk⟩ := h.tok _ _ e
    refine ⟨k', e', fun x hx => (hs x hx).trans hs'.symm, ?_, ?_⟩
    · rcases hk with rfl | hk <;> omega
    · rcases hk with rfl | hk
      · exact hc
      · intro h1; omega

mutual
theorem Rel.mono {G G' : Gh} (h : G.le G') : ∀ {a : AV} {v : Value}, Rel G a v → Rel G' a v
  | .bool _, _, r => by simpa [Rel] using r
  | .int _ _, _, r => by simpa [Rel] using r
  | .str _, _, r => by simpa [Rel] using r
  | .ptr m o, _, r => by
    simp only [Rel] at r ⊢
    obtain ⟨b, e, hb⟩ := r
    exact ⟨b, e, h.var _ _ hb⟩
  | .nilp, _, r => by simpa [Rel] using r
  | .ept cs, _, r => by
    simp only [Rel] at r ⊢
    obtain ⟨b, o, full, e, hb, hp⟩ := r
    obtain ⟨more, e'⟩ := h.imm _ _ hb
    exact ⟨b, o, _, e, e', prefix_drop_append _ _ _ _ hp⟩
  | .sl p xs, _, r => by
    simp only [Rel] at r ⊢
    obtain ⟨a, cap, e, hl, hs, hb, ht⟩ := r
    exact ⟨a, cap, e, hl, hs, hb.mono h, ht.mono h⟩
  | .ms s m o l c, _, r => by
    simp only [Rel] at r ⊢
    obtain ⟨b, e, hb⟩ := r
    exact ⟨b, e, h.var _ _ hb⟩
  | .map m, _, r => by
    simp only [Rel] at r ⊢
    obtain ⟨b, e, hb⟩ := r
    exact ⟨b, e, h.obj _ _ hb⟩
  | .nilm, _, r => by simpa [Rel] using r
  | .fn f xs ys, _, r => by
    simp only [Rel] at r ⊢
    obtain ⟨xs', ys', e, h1, h2⟩ := r
    exact ⟨xs', ys', e, RelL.mono h h1, RelL.mono h h2⟩
  | .nilf, _, r => by simpa [Rel] using r
  | .iface t x, _, r => by
    simp only [Rel] at r ⊢
    obtain ⟨y, e, h1⟩ := r
    exact ⟨y, e, Rel.mono h h1⟩
  | .nili, _, r => by simpa [Rel] using r
  | .agg xs, _, r => by
    simp only [Rel] at r ⊢
    obtain ⟨ys, e, h1, h2⟩ := r
    exact ⟨ys, e, RelL.mono h h1, h2⟩
  | .tup xs, _, r => by
    simp only [Rel] at r ⊢
    obtain ⟨ys, e, h1⟩ := r
    exact ⟨ys, e, RelL.mono h h1⟩
  | .iter m, _, r => by
    simp only [Rel] at r ⊢
    obtain ⟨b, e, hb⟩ := r
    exact ⟨b, e, h.obj _ _ hb⟩
  | .raw _, _, r => by simpa [Rel] using r
theorem RelL.mono {G G' : Gh} (h : G.le G') : ∀ {xs : List AV} {l : List Value}, RelL G xs l → RelL G' xs l
  | [], _, r => by simpa [RelL] using r
  | x :: xs, _, r => by
    simp only [RelL] at r ⊢
    obtain ⟨y, ys, e, h1, h2⟩ := r
    exact ⟨y, ys, e, Rel.mono h h1, RelL.mono h h2⟩
end

/-! Lists. -/

theorem RelL.nil {G : Gh} : RelL G [] [] := by simp [RelL]
theorem RelL.cons {G : Gh} {x : AV} {y : Value} {xs : List AV} {ys : List Value} (h : Rel G x y) (hs : RelL G xs ys) : RelL G (x :: xs) (y :: ys) := by
  simp only [RelL]; exact ⟨y, ys, rfl, h, hs⟩
theorem RelL.cons_iff {G : Gh} {x : AV} {y : Value} {xs : List AV} {ys : List Value} : RelL G (x :: xs) (y :: ys) ↔ Rel G x y ∧ RelL G xs ys := by
  constructor
  · intro h
    simp only [RelL] at h
    obtain ⟨y', ys', e, h1, h2⟩ := h
    cases e
    exact ⟨h1, h2⟩
  · rintro ⟨h1, h2⟩; exact RelL.cons h1 h2
theorem RelL.length {G : Gh} : ∀ {xs : List AV} {ys : List Value}, RelL G xs ys → ys.length = xs.length
  | [], ys, h => by simp only [RelL] at h; simp [h]
  | x :: xs, ys, h => by
    simp only [RelL] at h
    obtain ⟨y, ys', rfl, _, h2⟩ := h
    simp [RelL.length h2]
theorem RelL.nil_left {G : Gh} {ys : List Value} (h : RelL G [] ys) : ys = [] := by simpa [RelL] using h
theorem RelL.get {G : Gh} : ∀ {xs : List AV} {ys : List Value}, RelL G xs ys → ∀ {i : Nat} {x : AV}, xs[i]? = some x → ∃ y, ys[i]? = some y ∧ Rel G x y
  | [], ys, h, i, x, e => by simp at e
  | x' :: xs, ys, h, i, x, e => by
    simp only [RelL] at h
    obtain ⟨y, ys', rfl, h1, h2⟩ := h
    cases i with
    | zero => simp at e; subst e; exact ⟨y, by simp, h1⟩
    | succ i => simp at e; obtain ⟨z, hz, hr⟩ := RelL.get h2 e; exact ⟨z, by simpa using hz, hr⟩
theorem RelL.of_get {G : Gh} : ∀ {xs : List AV} {ys : List Value}, ys.length = xs.length → (∀ (i : Nat) x y, xs[i]? = some x → ys[i]? = some y → Rel G x y) → RelL G xs ys
  | [], ys, h, _ => by
    have : ys = [] := by cases ys <;> simp_all
    subst this; exact .nil
  | x :: xs, [], h, _ => by simp at h
  | x :: xs, y :: ys, h, hg => .cons (hg 0 x y rfl rfl) (RelL.of_get (by simpa using h) fun i a b ha hb => hg (i + 1) a b (by simpa using ha) (by simpa using hb))
theorem RelL.append {G : Gh} : ∀ {xs xs' : List AV} {ys ys' : List Value}, RelL G xs ys → RelL G xs' ys' → RelL G (xs ++ xs') (ys ++ ys')
  | [], _, ys, _, h, h' => by rw [h.nil_left]; exact h'
  | x :: xs, _, ys, _, h, h' => by
    simp only [RelL] at h
    obtain ⟨y, ys', rfl, h1, h2⟩ := h
    exact .cons h1 (RelL.append h2 h')
theorem RelL.take {G : Gh} : ∀ {xs : List AV} {ys : List Value} (n : Nat), RelL G xs ys → RelL G (xs.take n) (ys.take n)
  | [], ys, n, h => by rw [h.nil_left]; simpa using RelL.nil
  | x :: xs, ys, n, h => by
    simp only [RelL] at h
    obtain ⟨y, ys', rfl, h1, h2⟩ := h
    cases n with
    | zero => exact .nil
    | succ n => exact .cons h1 (RelL.take n h2)
theorem RelL.drop {G : Gh} : ∀ {xs : List AV} {ys : List Value} (n : Nat), RelL G xs ys → RelL G (xs.drop n) (ys.drop n)
  | [], ys, n, h => by rw [h.nil_left]; simpa using RelL.nil
  | x :: xs, ys, n, h => by
    simp only [RelL] at h
    obtain ⟨y, ys', rfl, h1, h2⟩ := h
    cases n with
    | zero => exact .cons h1 h2
    | succ n => exact RelL.drop n h2
theorem RelL.set {G : Gh} : ∀ {xs : List AV} {ys : List Value} (i : Nat) {x : AV} {y : Value}, RelL G xs ys → Rel G x y → RelL G (xs.set i x) (ys.set i y)
  | [], ys, i, x, y, h, _ => by rw [h.nil_left]; simpa using RelL.nil
  | a :: xs, ys, i, x, y, h, hr => by
    simp only [RelL] at h
    obtain ⟨b, ys', rfl, h1, h2⟩ := h
    cases i with
    | zero => exact .cons hr h2
    | succ i => exact .cons h1 (RelL.set i h2 hr)
theorem RelL.replicate {G : Gh} {x : AV} {y : Value} (h : Rel G x y) : ∀ n, RelL G (List.replicate n x) (List.replicate n y)
  | 0 => .nil
  | n + 1 => by rw [List.replicate_succ, List.replicate_succ]; exact .cons h (RelL.replicate h n)
theorem RelL.split {G : Gh} {xs xs' : List AV} {ys : List Value} (h : RelL G (xs ++ xs') ys) : ∃ a b, ys = a ++ b ∧ RelL G xs a ∧ RelL G xs' b := by
  refine ⟨ys.take xs.length, ys.drop xs.length, (List.take_append_drop _ _).symm, ?_, ?_⟩
  · have := h.take xs.length; simpa using this
  · have := h.drop xs.length; simpa using this
theorem RelL.map_exists {G : Gh} {α : Type} (f : α → AV) (g : α → Value) : ∀ (l : List α), (∀ a ∈ l, Rel G (f a) (g a)) → RelL G (l.map f) (l.map g)
  | [], _ => .nil
  | a :: l, h => .cons (h a (by simp)) (RelL.map_exists f g l fun b hb => h b (by simp [hb]))

/-! One cell, and many. -/

theorem Rel.one {G : Gh} {a : AV} {v : Value} (h : Rel G a v) (ho : a.one = true) : v.oneCell' = true := by
  cases a <;> simp only [Rel, AV.one] at h ho <;> first | (obtain ⟨_, h⟩ := h; cases h; done) | skip
  all_goals first
    | (subst h; rfl)
    | (obtain ⟨rfl, h⟩ := h; revert h; cases v <;> simp [rawOk, Value.oneCell'])
    | (obtain ⟨_, rfl, _⟩ := h; rfl)
    | (obtain ⟨_, _, rfl, _⟩ := h; rfl)
    | (obtain ⟨_, _, _, rfl, _⟩ := h; rfl)
    | simp at ho

theorem Rel.cells {G : Gh} {a : AV} {v : Value} (h : Rel G a v)   : RelL G a.cells v.cells.toList := by
  cases a with
  | agg cs =>
    simp only [Rel] at h
    obtain ⟨ys, rfl, h1, _⟩ := h
    exact h1
  | raw u =>
    simp only [Rel] at h
    obtain ⟨rfl, h⟩ := h
    have hv : v.cells = #[v] := by cases v <;> first | rfl | cases h
    rw [hv]
    exact .cons ⟨rfl, h⟩ .nil
  | _ =>
    all_goals
      have hv : v.cells = #[v] := by
        simp only [Rel] at h
        first
          | (subst h; rfl)
          | (obtain ⟨_, rfl, _⟩ := h; rfl)
          | (obtain ⟨_, _, rfl, _⟩ := h; rfl)
          | (obtain ⟨_, _, _, rfl, _⟩ := h; rfl)
      rw [hv]
      exact .cons h .nil

/-! Cells of which some are not known ('undef' stands in their places). -/

def RelH (G : Gh) : List AV → List Value → Prop
  | [], l => l = []
  | x :: xs, l => ∃ y ys, l = y :: ys ∧ (x = .undef ∨ (Rel G x y ∧ x.one = true)) ∧ RelH G xs ys

theorem RelH.nil {G : Gh} : RelH G [] [] := rfl
theorem RelH.nil_left {G : Gh} {ys : List Value} (h : RelH G [] ys) : ys = [] := h
theorem RelH.of {G : Gh} : ∀ {xs : List AV} {ys : List Value}, RelL G xs ys → (∀ x ∈ xs, x.one = true) → RelH G xs ys
  | [], _, h, _ => h.nil_left
  | x :: xs, _, h, ho => by
    simp only [RelL] at h
    obtain ⟨y, ys, rfl, h1, h2⟩ := h
    exact ⟨y, ys, rfl, .inr ⟨h1, ho x (by simp)⟩, RelH.of h2 fun z hz => ho z (by simp [hz])⟩
theorem RelH.toL {G : Gh} : ∀ {xs : List AV} {ys : List Value}, RelH G xs ys → (∀ x ∈ xs, x.one = true) → RelL G xs ys
  | [], _, h, _ => by rw [h.nil_left]; exact RelL.nil
  | x :: xs, _, ⟨y, ys, e, h1, h2⟩, ho => by
    subst e
    rcases h1 with rfl | h1
    · have := ho .undef (by simp); simp [AV.one] at this
    · exact .cons h1.1 (RelH.toL h2 fun z hz => ho z (by simp [hz]))
theorem RelH.length {G : Gh} : ∀ {xs : List AV} {ys : List Value}, RelH G xs ys → ys.length = xs.length
  | [], ys, h => by rw [h.nil_left]; rfl
  | x :: xs, _, ⟨y, ys, e, _, h2⟩ => by subst e; simp [RelH.length h2]
theorem RelH.mono {G G' : Gh} (h : G.le G') : ∀ {xs : List AV} {ys : List Value}, RelH G xs ys → RelH G' xs ys
  | [], _, r => r
  | x :: xs, _, ⟨y, ys, e, h1, h2⟩ => ⟨y, ys, e, h1.imp id fun r => ⟨r.1.mono h, r.2⟩, RelH.mono h h2⟩
theorem RelH.append {G : Gh} : ∀ {xs xs' : List AV} {ys ys' : List Value}, RelH G xs ys → RelH G xs' ys' → RelH G (xs ++ xs') (ys ++ ys')
  | [], _, ys, _, h, h' => by rw [h.nil_left]; exact h'
  | x :: xs, _, _, _, ⟨y, ys, e, h1, h2⟩, h' => by subst e; exact ⟨y, _, rfl, h1, RelH.append h2 h'⟩
theorem RelH.take {G : Gh} : ∀ {xs : List AV} {ys : List Value} (n : Nat), RelH G xs ys → RelH G (xs.take n) (ys.take n)
  | [], ys, n, h => by rw [h.nil_left]; simp [RelH]
  | x :: xs, _, n, ⟨y, ys, e, h1, h2⟩ => by
    subst e
    cases n with
    | zero => exact .nil
    | succ n => exact ⟨y, _, rfl, h1, RelH.take n h2⟩
theorem RelH.drop {G : Gh} : ∀ {xs : List AV} {ys : List Value} (n : Nat), RelH G xs ys → RelH G (xs.drop n) (ys.drop n)
  | [], ys, n, h => by rw [h.nil_left]; simp [RelH]
  | x :: xs, _, n, ⟨y, ys, e, h1, h2⟩ => by
    subst e
    cases n with
    | zero => exact ⟨y, _, rfl, h1, h2⟩
    | succ n => exact RelH.drop n h2
theorem RelH.split {G : Gh} {xs xs' : List AV} {ys : List Value} (h : RelH G (xs ++ xs') ys) : ∃ a b, ys = a ++ b ∧ RelH G xs a ∧ RelH G xs' b := by
  refine ⟨ys.take xs.length, ys.drop xs.length, (List.take_append_drop _ _).symm, ?_, ?_⟩
  · have := h.take xs.length; simpa using this
  · have := h.drop xs.length; simpa using this
theorem RelH.get {G : Gh} : ∀ {xs : List AV} {ys : List Value}, RelH G xs ys → ∀ {i : Nat} {x : AV}, xs[i]? = some x → x.one = true → ∃ y, ys[i]? = some y ∧ Rel G x y
  | [], ys, h, i, x, e, _ => by simp at e
  | x' :: xs, _, ⟨y, ys, e0, h1, h2⟩, i, x, e, ho => by
    subst e0
    cases i with
    | zero =>
      simp at e; subst e
      rcases h1 with rfl | h1
      · simp [AV.one] at ho
      · exact ⟨y, by simp, h1.1⟩
    | succ i => simp at e; obtain ⟨z, hz, hr⟩ := RelH.get h2 e ho; exact ⟨z, by simpa using hz, hr⟩
/-- What stands for a part of which all is known. -/
theorem RelH.pre {G : Gh} {full cs : List AV} {l1 : List Value} {off : Nat} (h : RelH G full l1) (hp : cs <+: full.drop off) (ho : ∀ x ∈ cs, x.one = true) :
    ∃ v1 v2, l1.drop off = v1 ++ v2 ∧ RelL G cs v1 := by
  obtain ⟨r, hr⟩ := hp
  have hsub := h.drop off
  rw [← hr] at hsub
  obtain ⟨v1, v2, e1, e2, e3⟩ := hsub.split
  exact ⟨v1, v2, e1, e2.toL ho⟩

end Jet

/-
Soundness, part 2: how the abstract store stands to memory, and what making, writing and appending do to that.
-/
namespace Jet
open Go

def EntRel (G : Gh) : List (AV × AV) → List MapEntry → Prop
  | [], l => l = []
  | (k, v) :: es, l => ∃ e r, l = e :: r ∧ Rel G k e.key ∧ Rel G v e.val ∧ EntRel G es r

theorem EntRel.mono {G G' : Gh} (h : G.le G') : ∀ {es : List (AV × AV)} {l : List MapEntry}, EntRel G es l → EntRel G' es l
  | [], _, r => r
  | (_, _) :: _, _, ⟨e, r, h0, h1, h2, h3⟩ => ⟨e, r, h0, h1.mono h, h2.mono h, EntRel.mono h h3⟩

def BlkOk (G : Gh) (σ : St) (w : World) (b : Nat) : BK → Prop
  | .var m => ∃ cs c e, σ.get m = some (.cells cs) ∧ w.heap[b]? = some (.cells c e (0, 0)) ∧ RelL G cs c.toList ∧ ∀ x ∈ cs, x.one = true
  | .imm cs => ∃ c e fr l1 l2, w.heap[b]? = some (.cells c e fr) ∧ c.toList = l1 ++ l2 ∧ RelH G cs l1
  | .obj m => (∃ es c clock, σ.get m = some (.map es) ∧ w.heap[b]? = some (.map c clock) ∧ EntRel G es c.toList) ∨
      (∃ s pos bs, σ.get m = some (.iter s pos) ∧ w.heap[b]? = some (.stringIter bs pos) ∧ bs.data.toList.drop pos = s)

def TokInv (G : Gh) (σ : St) (w : World) (t : Nat) (k : TK) : Prop :=
  σ.get t = some (.tok k.n k.s) ∧ ∃ cs c e fr, G.blk k.b = some (.imm cs) ∧ w.heap[k.b]? = some (.cells c e fr) ∧ cs.length = k.o + k.n * k.s ∧
    k.o + k.cap * k.s ≤ c.size ∧ k.n ≤ k.cap ∧ ∀ i, cs.length ≤ i → i < c.size → ¬ (fr.1 ≤ i ∧ i < fr.2)

def BK.name : BK → Option Nat
  | .var m => some m
  | .obj m => some m
  | .imm _ => none

structure Inv (G : Gh) (σ : St) (w : World) : Prop where
  blk : ∀ b k, G.blk b = some k → BlkOk G σ w b k
  inj : ∀ b b' k k' m, G.blk b = some k → G.blk b' = some k' → k.name = some m → k'.name = some m → b = b'
  tok : ∀ t k, G.tok t = some k → TokInv G σ w t k
  tinj : ∀ t t' k k', G.tok t = some k → G.tok t' = some k' → k.b = k'.b → t = t'
  ltb : ∀ b k m, G.blk b = some k → k.name = some m → m < σ.next
  ltt : ∀ t k, G.tok t = some k → t < σ.next
  nx : G.nx ≤ σ.next

theorem BlkOk.lt {G : Gh} {σ : St} {w : World} {b : Nat} {k : BK} (h : BlkOk G σ w b k) : b < w.heap.size := by
  have key : ∀ {o : Obj}, w.heap[b]? = some o → b < w.heap.size := fun h => (Array.getElem?_eq_some_iff.1 h).1
  cases k with
  | var m => obtain ⟨_, _, _, _, h, _⟩ := h; exact key h
  | imm cs => obtain ⟨_, _, _, _, _, h, _⟩ := h; exact key h
  | obj m =>
    rcases h with ⟨_, _, _, _, h, _⟩ | ⟨_, _, _, _, h, _⟩ <;> exact key h

theorem Inv.dom {G : Gh} {σ : St} {w : World} (h : Inv G σ w) {b : Nat} {k : BK} (e : G.blk b = some k) : b < w.heap.size := (h.blk b k e).lt

theorem Inv.size_none {G : Gh} {σ : St} {w : World} (h : Inv G σ w) : G.blk w.heap.size = none := by
  cases e : G.blk w.heap.size with
  | none => rfl
  | some k => exact absurd (h.dom e) (Nat.lt_irrefl _)

theorem Inv.fresh_blk {G : Gh} {σ : St} {w : World} (h : Inv G σ w) {b : Nat} {k : BK} (e : G.blk b = some k) : k.name ≠ some σ.next := fun hn => Nat.lt_irrefl _ (h.ltb b k _ e hn)
theorem Inv.fresh_tok {G : Gh} {σ : St} {w : World} (h : Inv G σ w) : G.tok σ.next = none := by
  cases e : G.tok σ.next with
  | none => rfl
  | some k => exact absurd (h.ltt _ k e) (Nat.lt_irrefl _)

theorem BlkOk.mono {G G' : Gh} {σ σ' : St} {w w' : World} {b : Nat} {k : BK} (le : G.le G') (hw : w'.heap[b]? = w.heap[b]?)
    (hm : ∀ m, k.name = some m → σ'.get m = σ.get m) (h : BlkOk G σ w b k) : BlkOk G' σ' w' b k := by
  cases k with
  | var m =>
    obtain ⟨cs, c, e, h1, h2, h3, h4⟩ := h
    exact ⟨cs, c, e, by rw [hm m rfl]; exact h1, by rw [hw]; exact h2, h3.mono le, h4⟩
  | imm cs =>
    obtain ⟨c, e, fr, l1, l2, h1, h2, h3⟩ := h
    exact ⟨c, e, fr, l1, l2, by rw [hw]; exact h1, h2, h3.mono le⟩
  | obj m =>
    rcases h with ⟨es, c, cl, h1, h2, h3⟩ | ⟨s, pos, bs, h1, h2, h3⟩
    · exact .inl ⟨es, c, cl, by rw [hm m rfl]; exact h1, by rw [hw]; exact h2, h3.mono le⟩
    · exact .inr ⟨s, pos, bs, by rw [hm m rfl]; exact h1, by rw [hw]; exact h2, h3⟩

/-- What becomes of the world: nothing that the ghost does not know is turned, nor any cell that is not written any more. -/
structure Ex (G G' : Gh) (w w' : World) : Prop where
  le : G.le G'
  os : w'.os = w.os
  tape : w'.tape = w.tape
  output : w'.output = w.output
  size : w.heap.size ≤ w'.heap.size
  frame : ∀ b, b < w.heap.size → G.blk b = none → w'.heap[b]? = w.heap[b]? ∧ G'.blk b = none
  imm : ∀ b cs, G.blk b = some (.imm cs) → ∀ c e fr, w.heap[b]? = some (.cells c e fr) → ∃ c', w'.heap[b]? = some (.cells c' e fr) ∧ c'.size = c.size ∧ ∀ i, i < cs.length → c'[i]? = c[i]?
  names : ∀ b k m, G'.blk b = some k → k.name = some m → G.blk b = some k ∨ G.nx ≤ m
  nx : G'.nx = G.nx
  toks : ∀ t k, G'.tok t = some k → (∃ t0 k0, G.tok t0 = some k0 ∧ k0.b = k.b) ∨ G.blk k.b = none
  grow : ∀ b cs, G.blk b = some (.imm cs) → (∀ t k, G.tok t = some k → k.b ≠ b) → G'.blk b = some (.imm cs)

theorem Gh.le.none_of {G G' : Gh} (h : G.le G') {b : Nat} (e : G'.blk b = none) : G.blk b = none := by
  cases hb : G.blk b with
  | none => rfl
  | some k =>
    cases k with
    | var m => rw [h.var b m hb] at e; cases e
    | obj m => rw [h.obj b m hb] at e; cases e
    | imm cs => obtain ⟨more, e'⟩ := h.imm b cs hb; rw [e'] at e; cases e

theorem Ex.refl (G : Gh) (w : World) : Ex G G w w :=
  ⟨.refl G, rfl, rfl, rfl, Nat.le_refl _, fun _ _ h => ⟨rfl, h⟩, fun _ _ _ c _ _ h => ⟨c, h, rfl, fun _ _ => rfl⟩, fun _ _ _ h _ => .inl h, rfl, fun t k h => .inl ⟨t, k, h, rfl⟩, fun _ _ h _ => h⟩

theorem Ex.trans {G G1 G2 : Gh} {w w1 w2 : World} (h : Ex G G1 w w1) (h' : Ex G1 G2 w1 w2) : Ex G G2 w w2 where
  le := h.le.trans h'.le
  os := h'.os.trans h.os
  tape := h'.tape.trans h.tape
  output := h'.output.trans h.output
  size := Nat.le_trans h.size h'.size
  frame b hb e := by
    obtain ⟨e1, n1⟩ := h.frame b hb e
    obtain ⟨e2, n2⟩ := h'.frame b (Nat.lt_of_lt_of_le hb h.size) n1
    exact ⟨e2.trans e1, n2⟩
  imm b cs e c ty fr hc := by
    obtain ⟨c1, h1, s1, g1⟩ := h.imm b cs e c ty fr hc
    obtain ⟨more, e1⟩ := h.le.imm b cs e
    obtain ⟨c2, h2, s2, g2⟩ := h'.imm b _ e1 c1 ty fr h1
    exact ⟨c2, h2, s2.trans s1, fun i hi => (g2 i (by simp; omega)).trans (g1 i hi)⟩
  names b k m e hm := by
    rcases h'.names b k m e hm with e1 | e1
    · exact h.names b k m e1 hm
    · rw [h.nx] at e1; exact .inr e1
  nx := h'.nx.trans h.nx
  toks t k e := by
    rcases h'.toks t k e with ⟨t1, k1, e1, b1⟩ | hb
    · rcases h.toks t1 k1 e1 with ⟨t0, k0, e0, b0⟩ | hb
      · exact .inl ⟨t0, k0, e0, b0.trans b1⟩
      · rw [b1] at hb; exact .inr hb
    · exact .inr (h.le.none_of hb)
  grow b cs e hn := by
    refine h'.grow b cs (h.grow b cs e hn) fun t k e1 hk => ?_
    rcases h.toks t k e1 with ⟨t0, k0, e0, b0⟩ | hle
    · exact hn t0 k0 e0 (b0.trans hk)
    · rw [hk, e] at hle; cases hle

/-- A token of a new block. -/
theorem Ex.withTok {G G1 G2 : Gh} {w w1 : World} (h : Ex G G1 w w1) (le : G1.le G2) (hb : G2.blk = G1.blk) (hx : G2.nx = G1.nx) (ht : ∀ t k, G2.tok t = some k → G1.tok t = some k ∨ G.blk k.b = none) : Ex G G2 w w1 where
  le := h.le.trans le
  os := h.os
  tape := h.tape
  output := h.output
  size := h.size
  frame b hlt e := ⟨(h.frame b hlt e).1, by rw [hb]; exact (h.frame b hlt e).2⟩
  imm := h.imm
  names b k m e hm := by rw [hb] at e; exact h.names b k m e hm
  nx := hx.trans h.nx
  toks t k e := by
    rcases ht t k e with e1 | hle
    · exact h.toks t k e1
    · exact .inr hle
  grow b cs e hn := by rw [hb]; exact h.grow b cs e hn

/-- Nothing of memory has turned, but for what is new. -/
theorem Ex.same {G : Gh} {w w' : World} (hos : w'.os = w.os) (ht : w'.tape = w.tape) (ho : w'.output = w.output) (hh : w'.heap = w.heap) : Ex G G w w' :=
  ⟨.refl G, hos, ht, ho, by rw [hh]; exact Nat.le_refl _, fun _ _ h => ⟨by rw [hh], h⟩, fun _ _ _ c _ _ h => ⟨c, by rw [hh]; exact h, rfl, fun _ _ => rfl⟩, fun _ _ _ h _ => .inl h, rfl, fun t k h => .inl ⟨t, k, h, rfl⟩, fun _ _ h _ => h⟩

theorem Inv.same_heap {G : Gh} {σ : St} {w w' : World} (h : Inv G σ w) (hh : w'.heap = w.heap) : Inv G σ w' where
  blk b k e := (h.blk b k e).mono (.refl G) (by rw [hh]) (fun _ _ => rfl)
  inj := h.inj
  tok t k e := by
    obtain ⟨h1, cs, c, ty, fr, h2, h3, h4⟩ := h.tok t k e
    exact ⟨h1, cs, c, ty, fr, h2, by rw [hh]; exact h3, h4⟩
  tinj := h.tinj
  ltb := h.ltb
  ltt := h.ltt
  nx := h.nx

/-! The ghost, with a block more. -/

def Gh.add (G : Gh) (b : Nat) (k : BK) : Gh := { G with blk := fun x => if x = b then some k else G.blk x }

theorem Gh.add_self (G : Gh) (b : Nat) (k : BK) : (G.add b k).blk b = some k := by simp [Gh.add]
theorem Gh.add_ne (G : Gh) (b : Nat) (k : BK) {x : Nat} (h : x ≠ b) : (G.add b k).blk x = G.blk x := by simp [Gh.add, h]

theorem Gh.le_add (G : Gh) (b : Nat) (k : BK) (h : G.blk b = none) : G.le (G.add b k) where
  var x m e := by rw [Gh.add_ne]; exact e; rintro rfl; rw [h] at e; cases e
  obj x m e := by rw [Gh.add_ne]; exact e; rintro rfl; rw [h] at e; cases e
  imm x cs e := ⟨[], by rw [Gh.add_ne, List.append_nil]; exact e; rintro rfl; rw [h] at e; cases e⟩
  tok t k e := ⟨k, e, rfl, .inl rfl⟩

theorem heap_push_old (w : World) (o : Obj) {b : Nat} (h : b < w.heap.size) : ({ w with heap := w.heap.push o } : World).heap[b]? = w.heap[b]? := by
  show (w.heap.push o)[b]? = _
  rw [Array.getElem?_push, if_neg (by omega)]
theorem heap_push_new (w : World) (o : Obj) : ({ w with heap := w.heap.push o } : World).heap[w.heap.size]? = some o := by
  show (w.heap.push o)[w.heap.size]? = _
  rw [Array.getElem?_push, if_pos rfl]

/-- A block that is new. 'σ'' holds the name of the new block, and what the ghost's other names held. -/
theorem Inv.new {G : Gh} {σ σ' : St} {w : World} (h : Inv G σ w) (o : Obj) (k : BK)
    (old : ∀ b k' m, G.blk b = some k' → k'.name = some m → σ'.get m = σ.get m) (oldt : ∀ t k', G.tok t = some k' → σ'.get t = σ.get t)
    (fr : ∀ m, k.name = some m → (∀ b k', G.blk b = some k' → k'.name ≠ some m) ∧ m < σ'.next)
    (nx : σ.next ≤ σ'.next)
    (ok : BlkOk (G.add w.heap.size k) σ' { w with heap := w.heap.push o } w.heap.size k) :
    Inv (G.add w.heap.size k) σ' { w with heap := w.heap.push o } := by
  have hn := h.size_none
  have le := G.le_add w.heap.size k hn
  have split : ∀ b k', (G.add w.heap.size k).blk b = some k' → (b = w.heap.size ∧ k' = k) ∨ (b ≠ w.heap.size ∧ G.blk b = some k') := by
    intro b k' e
    by_cases hb : b = w.heap.size
    · subst hb; rw [Gh.add_self] at e; exact .inl ⟨rfl, by cases e; rfl⟩
    · rw [Gh.add_ne _ _ _ hb] at e; exact .inr ⟨hb, e⟩
  constructor
  · intro b k' e
    rcases split b k' e with ⟨rfl, rfl⟩ | ⟨hb, e⟩
    · exact ok
    · exact (h.blk b k' e).mono le (heap_push_old w o (h.dom e)) (fun m hm => old b k' m e hm)
  · intro b b' k1 k2 m e1 e2 n1 n2
    rcases split b k1 e1 with ⟨rfl, rfl⟩ | ⟨hb, e1⟩ <;> rcases split b' k2 e2 with ⟨rfl, rfl⟩ | ⟨hb', e2⟩
    · rfl
    · exact absurd n2 ((fr m n1).1 b' k2 e2)
    · exact absurd n1 ((fr m n2).1 b k1 ‹_›)
    · exact h.inj b b' k1 k2 m e1 e2 n1 n2
  · intro t k' e
    obtain ⟨h1, cs, c, ty, f, h2, h3, h4⟩ := h.tok t k' e
    have hlt := h.dom h2
    refine ⟨by rw [oldt t k' e]; exact h1, cs, c, ty, f, ?_, ?_, h4⟩
    · rw [Gh.add_ne _ _ _ (by omega)]; exact h2
    · rw [heap_push_old w o hlt]; exact h3
  · exact h.tinj
  · intro b k' m e hm
    rcases split b k' e with ⟨rfl, rfl⟩ | ⟨hb, e⟩
    · exact (fr m hm).2
    · exact Nat.lt_of_lt_of_le (h.ltb b k' m e hm) nx
  · intro t k' e
    exact Nat.lt_of_lt_of_le (h.ltt t k' e) nx
  · exact Nat.le_trans h.nx nx

theorem Ex.new {G : Gh} {σ : St} {w : World} (h : Inv G σ w) (o : Obj) (k : BK) (hk : ∀ m, k.name = some m → G.nx ≤ m) : Ex G (G.add w.heap.size k) w { w with heap := w.heap.push o } where
  le := G.le_add _ _ h.size_none
  os := rfl
  tape := rfl
  output := rfl
  size := by show _ ≤ (w.heap.push o).size; simp
  frame b hb e := ⟨heap_push_old w o hb, by rw [Gh.add_ne _ _ _ (by omega)]; exact e⟩
  imm b cs e c ty fr hc := ⟨c, by rw [heap_push_old w o (h.dom e)]; exact hc, rfl, fun _ _ => rfl⟩
  names b k' m e hm := by
    by_cases hb : b = w.heap.size
    · subst hb; rw [Gh.add_self] at e; cases e; exact .inr (hk m hm)
    · rw [Gh.add_ne _ _ _ hb] at e; exact .inl e
  nx := rfl
  toks t k e := .inl ⟨t, k, e, rfl⟩
  grow b cs e _ := by rw [Gh.add_ne _ _ _ (by rintro rfl; rw [h.size_none] at e; cases e)]; exact e

/-- Cells that are not written any more. -/
theorem Inv.new_imm {G : Gh} {σ : St} {w : World} (h : Inv G σ w) (c : Array Value) (e : TypeId) (fr : Nat × Nat) (cs : List AV) (l1 l2 : List Value) (hc : c.toList = l1 ++ l2)
    (hr : RelH G cs l1) : Inv (G.add w.heap.size (.imm cs)) σ { w with heap := w.heap.push (.cells c e fr) } :=
  h.new _ _ (fun _ _ _ _ _ => rfl) (fun _ _ _ => rfl) (fun _ e => by cases e) (Nat.le_refl _)
    ⟨c, e, fr, l1, l2, heap_push_new w _, hc, hr.mono (G.le_add _ _ h.size_none)⟩

/-- A variable, of the next name. -/
theorem Inv.new_var {G : Gh} {σ : St} {w : World} (h : Inv G σ w) (c : Array Value) (e : TypeId) (cs : List AV) (hr : RelL G cs c.toList) (ho : ∀ x ∈ cs, x.one = true) :
    Inv (G.add w.heap.size (.var σ.next)) (σ.push (.cells cs)) { w with heap := w.heap.push (.cells c e (0, 0)) } := by
  refine h.new _ _ (fun b k m e hm => ?_) (fun t k e => ?_) (fun m e => ?_) (by simp) ?_
  · rw [St.get_push, if_neg]; have := h.ltb b k m e hm; omega
  · rw [St.get_push, if_neg]; have := h.ltt t k e; omega
  · cases e; exact ⟨fun b k e hn => h.fresh_blk e hn, by simp⟩
  · exact ⟨cs, c, e, by rw [St.get_push, if_pos rfl], heap_push_new w _, hr.mono (G.le_add _ _ h.size_none), ho⟩

/-- A variable whose name was laid ahead of it. -/
theorem Inv.new_laid {G : Gh} {σ : St} {w : World} (h : Inv G σ w) (m : Nat) (c : Array Value) (e : TypeId) (cs : List AV) (hm : σ.get m = some (.cells cs))
    (hf : ∀ b k', G.blk b = some k' → k'.name ≠ some m) (hlt : m < σ.next) (hr : RelL G cs c.toList) (ho : ∀ x ∈ cs, x.one = true) :
    Inv (G.add w.heap.size (.var m)) σ { w with heap := w.heap.push (.cells c e (0, 0)) } := by
  refine h.new _ _ (fun b k m e hm => rfl) (fun t k e => rfl) (fun m' e => ?_) (by simp) ?_
  · cases e; exact ⟨hf, hlt⟩
  · exact ⟨cs, c, e, hm, heap_push_new w _, hr.mono (G.le_add _ _ h.size_none), ho⟩

theorem Inv.new_map {G : Gh} {σ : St} {w : World} (h : Inv G σ w) : Inv (G.add w.heap.size (.obj σ.next)) (σ.push (.map [])) { w with heap := w.heap.push (.map #[] 0) } := by
  refine h.new _ _ (fun b k m e hm => ?_) (fun t k e => ?_) (fun m e => ?_) (by simp) ?_
  · rw [St.get_push, if_neg]; have := h.ltb b k m e hm; omega
  · rw [St.get_push, if_neg]; have := h.ltt t k e; omega
  · cases e; exact ⟨fun b k e hn => h.fresh_blk e hn, by simp⟩
  · exact .inl ⟨[], #[], 0, by rw [St.get_push, if_pos rfl], heap_push_new w _, rfl⟩

theorem Inv.new_iter {G : Gh} {σ : St} {w : World} (h : Inv G σ w) (bs : ByteArray) :
    Inv (G.add w.heap.size (.obj σ.next)) (σ.push (.iter bs.data.toList 0)) { w with heap := w.heap.push (.stringIter bs 0) } := by
  refine h.new _ _ (fun b k m e hm => ?_) (fun t k e => ?_) (fun m e => ?_) (by simp) ?_
  · rw [St.get_push, if_neg]; have := h.ltb b k m e hm; omega
  · rw [St.get_push, if_neg]; have := h.ltt t k e; omega
  · cases e; exact ⟨fun b k e hn => h.fresh_blk e hn, by simp⟩
  · exact .inr ⟨_, 0, bs, by rw [St.get_push, if_pos rfl], heap_push_new w _, by simp⟩

/-! A block of a name is written. -/

def World.setBlk (w : World) (b : Nat) (o : Obj) : World := { w with heap := w.heap.setIfInBounds b o }

theorem setBlk_ne (w : World) {b x : Nat} (o : Obj) (h : x ≠ b) : (World.setBlk w b o).heap[x]? = w.heap[x]? := by
  show (w.heap.setIfInBounds b o)[x]? = _
  rw [Array.getElem?_setIfInBounds_ne (by omega)]
theorem setBlk_eq (w : World) {b : Nat} (o : Obj) (h : b < w.heap.size) : (World.setBlk w b o).heap[b]? = some o := by
  show (w.heap.setIfInBounds b o)[b]? = _
  rw [Array.getElem?_setIfInBounds_self_of_lt h]

theorem Inv.write {G : Gh} {σ : St} {w : World} (h : Inv G σ w) {b m : Nat} {k : BK} (e : G.blk b = some k) (hk : k.name = some m) (o : Obj) (a : AObj)
    (nt : ∀ n s, σ.get m ≠ some (.tok n s)) (ok : BlkOk G (σ.set m a) (World.setBlk w b o) b k) : Inv G (σ.set m a) (World.setBlk w b o) where
  blk x k' e' := by
    by_cases hx : x = b
    · subst hx; rw [e] at e'; cases e'; exact ok
    · refine (h.blk x k' e').mono (.refl G) (setBlk_ne w o hx) fun m' hm' => St.get_set_ne _ _ ?_
      rintro rfl
      exact hx (h.inj x b k' k _ e' e hm' hk)
  inj := h.inj
  tok t k' e' := by
    obtain ⟨h1, cs, c, ty, fr, h2, h3, h4⟩ := h.tok t k' e'
    refine ⟨?_, cs, c, ty, fr, h2, ?_, h4⟩
    · rw [St.get_set_ne]; exact h1
      rintro rfl; exact nt _ _ h1
    · rw [setBlk_ne]; exact h3
      rintro hb
      rw [hb, e] at h2; cases h2; cases hk
  tinj := h.tinj
  ltb := h.ltb
  ltt := h.ltt
  nx := h.nx

theorem Ex.write {G : Gh} {w : World} {b m : Nat} {k : BK} (e : G.blk b = some k) (hk : k.name = some m) (o : Obj) : Ex G G w (World.setBlk w b o) where
  le := .refl G
  os := rfl
  tape := rfl
  output := rfl
  size := by show _ ≤ (w.heap.setIfInBounds b o).size; simp
  frame x hx en := ⟨setBlk_ne w o (by rintro rfl; rw [e] at en; cases en), en⟩
  imm x cs ex c ty fr hc := by
    have hx : x ≠ b := by rintro rfl; rw [e] at ex; cases ex; cases hk
    refine ⟨c, ?_, rfl, fun _ _ => rfl⟩
    rw [setBlk_ne w o hx]; exact hc
  names _ _ _ h _ := .inl h
  nx := rfl
  toks t k e := .inl ⟨t, k, e, rfl⟩
  grow _ _ e _ := e

end Jet

/-
Soundness, part 3: operands, types, and the operations that neither read nor write.
-/
namespace Jet
open Go

/-! Types. -/

theorem run_info {P : Program} {t : TypeId} {i : TypeInfo} (h : P.info? t = some i) (w : World) : (typeInfo t).run P w = .ok i w := by
  simp [typeInfo, h]

theorem szT_info {P : Program} {t : TypeId} {n : Nat} (h : szT P t = some n) : ∃ i, P.info? t = some i ∧ i.size = n := by
  unfold szT at h
  cases e : P.info? t with
  | none => rw [e] at h; cases h
  | some i => rw [e] at h; cases h; exact ⟨i, rfl, rfl⟩

theorem run_size {P : Program} {t : TypeId} {n : Nat} (h : szT P t = some n) (w : World) : (Go.sizeOf t).run P w = .ok n w := by
  obtain ⟨i, h1, rfl⟩ := szT_info h
  simp [Go.sizeOf, run_info h1]

theorem szT_of {P : Program} {t : TypeId} {i : TypeInfo} (h : P.info? t = some i) : szT P t = some i.size := by
  simp [szT, h]

theorem run_agg {P : Program} {t : TypeId} {b : Bool} (h : aggT P t = some b) (w : World) : (isAgg t).run P w = .ok b w := by
  unfold aggT at h
  cases e : P.underlying t with
  | none => rw [e] at h; cases h
  | some d =>
    rw [e] at h
    simp only [Option.map_some, Option.some.injEq] at h
    unfold isAgg
    simp only [Sem.run_bind, run_underlying e, Result.andThen_ok]
    cases d <;> simp_all

theorem toAV1_rel {v : Value} {a : AV} (h : toAV1 v = some a) (G : Gh) : Rel G a v ∧ a.one = true := by
  unfold toAV1 at h
  split at h <;> first | cases h | skip
  all_goals first
    | (constructor <;> simp [Rel, AV.one, BaseOk, TokOk]; done)
    | skip

theorem mapM_toAV1 (G : Gh) : ∀ {l : List Value} {as : List AV}, l.mapM toAV1 = some as → RelL G as l ∧ ∀ x ∈ as, x.one = true
  | [], as, h => by simp at h; subst h; exact ⟨.nil, by simp⟩
  | v :: l, as, h => by
    rw [List.mapM_cons] at h
    cases e : toAV1 v with
    | none => rw [e] at h; cases h
    | some a =>
      rw [e] at h
      cases e2 : l.mapM toAV1 with
      | none => rw [e2] at h; cases h
      | some as' =>
        rw [e2] at h; cases h
        obtain ⟨h1, h2⟩ := mapM_toAV1 G e2
        obtain ⟨h3, h4⟩ := toAV1_rel e G
        exact ⟨.cons h3 h1, by simp; exact ⟨h4, h2⟩⟩

theorem toAV_rel {v : Value} {a : AV} (h : toAV v = some a) (G : Gh) : Rel G a v := by
  unfold toAV at h
  split at h
  · rename_i cs
    cases e : cs.toList.mapM toAV1 with
    | none => rw [e] at h; cases h
    | some as =>
      rw [e] at h; cases h
      obtain ⟨h1, h2⟩ := mapM_toAV1 G e
      simp only [Rel]
      exact ⟨cs, rfl, h1, h2⟩
  · rename_i cs
    split at h
    · cases h
      rename_i he
      simp only [Rel]
      exact ⟨cs, rfl, by have : cs = #[] := by simpa using he
                         subst this; exact .nil⟩
    · cases h
  · exact (toAV1_rel h G).1

theorem zeroT_run {P : Program} {t : TypeId} {z : AV} (h : zeroT P t = some z) : ∃ i zv, P.info? t = some i ∧ i.zero = some zv ∧ toAV zv = some z := by
  unfold zeroT at h
  cases e : P.info? t with
  | none => rw [e] at h; cases h
  | some i =>
    rw [e] at h
    cases e2 : i.zero with
    | none => simp [e2] at h
    | some zv => simp only [Option.bind_some, e2] at h; exact ⟨i, zv, rfl, e2, h⟩

theorem run_zero {P : Program} {t : TypeId} {i : TypeInfo} {zv : Value} (h : P.info? t = some i) (hz : i.zero = some zv) (w : World) : (zeroValue t).run P w = .ok zv w := by
  simp [zeroValue, run_info h, hz]

/-! Operands. -/

def GlOk (gl : Gl) (G : Gh) : Prop := ∀ g cs, gl g = some cs → G.blk g = some (.imm cs) ∧ ∀ t k, G.tok t = some k → k.b ≠ g

theorem GlOk.mono {gl : Gl} {G G' : Gh} {w w' : World} (hg : GlOk gl G) (h : Ex G G' w w') : GlOk gl G' := by
  intro g cs e
  obtain ⟨e1, hp⟩ := hg g cs e
  refine ⟨h.grow g cs e1 hp, fun t k ek hk => ?_⟩
  rcases h.toks t k ek with ⟨t0, k0, e0, b0⟩ | hn
  · exact hp t0 k0 e0 (b0.trans hk)
  · rw [hk, e1] at hn; cases hn

theorem opd_rel {gl : Gl} {G : Gh} {env : List AV} {a : Act} {x : Operand} {ox : Opd} (hg : GlOk gl G) (he : RelL G env a.tmps.toList)
    (h : cOpd gl x = some ox) : Rel G (ox.ev env) (a.eval x) := by
  cases x with
  | tmp t =>
    cases h
    simp only [Opd.ev, Act.eval]
    cases e : env[t]? with
    | some v =>
      obtain ⟨y, hy, hr⟩ := he.get e
      have : a.tmps[t]? = some y := by rw [← Array.getElem?_toList]; exact hy
      simp [this, Array.getD_eq_getD_getElem?]; exact hr
    | none =>
      have : a.tmps[t]? = none := by
        rw [← Array.getElem?_toList]
        rw [List.getElem?_eq_none_iff] at e ⊢
        rw [he.length]; exact e
      simp [this, Array.getD_eq_getD_getElem?]
      simp [Rel, undef, RelL]
  | const v =>
    simp only [cOpd] at h
    cases e : toAV v with
    | none => rw [e] at h; cases h
    | some av => rw [e] at h; cases h; exact toAV_rel e G
  | global g =>
    simp only [cOpd] at h
    cases e : gl g with
    | none => rw [e] at h; cases h
    | some cs =>
      rw [e] at h; cases h
      obtain ⟨h1, _⟩ := hg g cs e
      simp only [Opd.ev, Rel, Act.eval]
      exact ⟨g, 0, cs, rfl, h1, by simp⟩
  | func f =>
    cases h
    simp only [Opd.ev, Rel, Act.eval]
    exact ⟨#[], #[], rfl, .nil, .nil⟩

theorem opds_rel {gl : Gl} {G : Gh} {env : List AV} {a : Act} (hg : GlOk gl G) (he : RelL G env a.tmps.toList) :
    ∀ {xs : List Operand} {oxs : List Opd}, xs.mapM (cOpd gl) = some oxs → RelL G (oxs.map (Opd.ev env)) (xs.map a.eval)
  | [], oxs, h => by simp at h; subst h; exact .nil
  | x :: xs, oxs, h => by
    rw [List.mapM_cons] at h
    cases e : cOpd gl x with
    | none => rw [e] at h; cases h
    | some ox =>
      rw [e] at h
      cases e2 : xs.mapM (cOpd gl) with
      | none => rw [e2] at h; cases h
      | some oxs' =>
        rw [e2] at h; cases h
        exact .cons (opd_rel hg he e) (opds_rel hg he e2)

/-- What an operation that neither reads nor writes the abstract store comes to. -/
def Fine (P : Program) (G : Gh) (σ : St) (w : World) (a : Act) (o : Oper) (v : AV) : Prop :=
  ∃ cv w' G', (execOp a.eval o).run P w = .ok (.value cv) w' ∧ Rel G' v cv ∧ Inv G' σ w' ∧ Ex G G' w w'

theorem Fine.here {P : Program} {G : Gh} {σ : St} {w : World} {a : Act} {o : Oper} {v : AV} {cv : Value} (hi : Inv G σ w)
    (h : (execOp a.eval o).run P w = .ok (.value cv) w) (hr : Rel G v cv) : Fine P G σ w a o v :=
  ⟨cv, w, G, h, hr, hi, .refl G w⟩

theorem Rel.int_inv {G : Gh} {k : IntKind} {n : Int} {v : Value} (h : Rel G (.int k n) v) : v = .int k n := by simpa [Rel] using h
theorem Rel.bool_inv {G : Gh} {b : Bool} {v : Value} (h : Rel G (.bool b) v) : v = .bool b := by simpa [Rel] using h
theorem Rel.agg_inv {G : Gh} {cs : List AV} {v : Value} (h : Rel G (.agg cs) v) : ∃ ys, v = .agg ys ∧ RelL G cs ys.toList ∧ ∀ x ∈ cs, x.one = true := by simpa [Rel] using h
theorem Rel.str_inv {G : Gh} {s : List UInt8} {v : Value} (h : Rel G (.str s) v) : ∃ bs : ByteArray, v = .string bs ∧ bs.data.toList = s := by simpa [Rel] using h
theorem Rel.of_int {G : Gh} {k : IntKind} {n : Int} : Rel G (.int k n) (.int k n) := by simp [Rel]
theorem Rel.of_bool {G : Gh} {b : Bool} : Rel G (.bool b) (.bool b) := by simp [Rel]
theorem Rel.of_str {G : Gh} {s : ByteArray} : Rel G (.str s.data.toList) (.string s) := by simp [Rel]

theorem ba_toList (s : ByteArray) : s.toList = s.data.toList := ByteArray.toList_eq s

/-! Numbers, texts. -/

theorem ibin_run {P : Program} {op : BinOp} {k : IntKind} {x y : Int} {v : AV} (h : ibin op k x y = some v) (t : TypeId) (w : World) :
    ∃ cv, (binOp op t (.int k x) (.int k y)).run P w = .ok cv w ∧ ∀ G, Rel G v cv := by
  cases op <;> simp only [ibin] at h <;> first | (cases h; done) | skip
  case quo =>
    split at h
    · cases h
    · rename_i hy; cases h
      exact ⟨.int k (k.wrap (x.tdiv y)), by simp [binOp, Op.intDiv, hy], fun G => .of_int⟩
  case rem =>
    split at h
    · cases h
    · rename_i hy; cases h
      exact ⟨.int k (x.tmod y), by simp [binOp, Op.intDiv, hy], fun G => .of_int⟩
  all_goals
    cases h
    refine ⟨_, by simp [binOp, Op.intArith, Op.intBits, Op.intCmp]; rfl, fun G => by simp [Rel]⟩

theorem ishift_run {P : Program} {op : BinOp} {k k' : IntKind} {x y : Int} {v : AV} (h : ishift op k x y = some v) (t : TypeId) (w : World) :
    ∃ cv, (binOp op t (.int k x) (.int k' y)).run P w = .ok cv w ∧ ∀ G, Rel G v cv := by
  unfold ishift at h
  split at h
  · cases h
  · rename_i hy
    cases op <;> simp only at h <;> first | (cases h; done) | skip
    all_goals
      cases h
      refine ⟨_, by simp [binOp, Op.shift, hy]; rfl, fun G => by simp [Rel]⟩

theorem sbin_run {P : Program} {op : BinOp} {x y : ByteArray} {v : AV} (h : sbin op x.data.toList y.data.toList = some v) (t : TypeId) (w : World) :
    ∃ cv, (binOp op t (.string x) (.string y)).run P w = .ok cv w ∧ ∀ G, Rel G v cv := by
  cases op <;> simp only [sbin] at h <;> first | (cases h; done) | skip
  case add =>
    split at h
    · rename_i hl; cases h
      refine ⟨.string (x ++ y), ?_, fun G => by simp [Rel]⟩
      have hx : x.data.toList.length = x.size := rfl
      have hy : y.data.toList.length = y.size := rfl
      have : ¬ (((x.size + y.size : Nat) : Int) > IntKind.i64.max) := by rw [IntKind.max_i64]; omega
      simp only [binOp, Op.stringOp]
      rw [if_neg this]; rfl
    · cases h
  all_goals
    cases h
    refine ⟨_, by simp only [binOp, Op.stringOp, ba_toList]; rfl, fun G => by simp [Rel]⟩

end Jet

/-
Soundness, part 4: the operations that neither read nor write.
-/
namespace Jet
open Go

section
variable {P : Program} {gl : Gl} {G : Gh} {σ : St} {w : World} {a : Act} {env : List AV}

theorem takeVal_rel {cs : List AV} {ys : Array Value} (hr : RelL G cs ys.toList) (ho : ∀ x ∈ cs, x.one = true) {t : TypeId} {off n : Nat} {g : Bool} {v : AV}
    (hs : szT P t = some n) (hg : aggT P t = some g) (h1 : g = true ∨ n = 1) (h : takeVal cs off n g = some v) :
    ∃ cv, (part t ys off).run P w = .ok cv w ∧ Rel G v cv := by
  unfold takeVal at h
  unfold part
  simp only [Sem.run_bind, run_agg hg, Result.andThen_ok]
  cases g with
  | true =>
    simp only [if_true, run_size hs, Sem.run_bind, Result.andThen_ok, Sem.run_pure] at h ⊢
    split at h
    · rename_i hcnd
      cases h
      refine ⟨_, rfl, ?_⟩
      simp only [Rel]
      refine ⟨_, rfl, ?_, fun x hx => ho x (List.mem_of_mem_drop (List.mem_of_mem_take hx))⟩
      have : (ys.extract off (off + n)).toList = (ys.toList.drop off).take n := by
        rw [Array.toList_extract]; simp [List.extract_eq_take_drop]
      rw [this]
      exact (hr.drop off).take n
    · cases h
  | false =>
    simp only [Bool.false_eq_true, if_false] at h ⊢
    split at h
    rotate_left
    · cases h
    rename_i x hx
    split at h
    rotate_left
    · cases h
    cases h
    obtain ⟨y, hy, hr'⟩ := hr.get hx
    rw [Array.getElem?_toList] at hy
    simp only [hy]
    exact ⟨y, rfl, hr'⟩

theorem fill_sound {place : Nat → Option (Nat × Nat)} (hg : GlOk gl G) (he : RelL G env a.tmps.toList) : ∀ (parts : List (Nat × Operand)) (ps : List (Nat × Nat × Opd)) (cs cs' : List AV) (ys : Array Value)
    (hp : ps.length = parts.length ∧ ∀ (i : Nat) (p : Nat × Operand) (q : Nat × Nat × Opd), parts[i]? = some p → ps[i]? = some q → place p.1 = some (q.1, q.2.1) ∧ cOpd gl p.2 = some q.2.2),
    RelL G cs ys.toList → (∀ x ∈ cs, x.one = true) → fillA env cs ps = some cs' →
    ∃ ys', Instr.fill place ys (parts.map fun p => (p.1, a.eval p.2)) = some ys' ∧ RelL G cs' ys'.toList ∧ ∀ x ∈ cs', x.one = true
  | [], ps, cs, cs', ys, hp, hr, ho, h => by
    have : ps = [] := by cases ps <;> simp_all
    subst this
    simp only [fillA, Option.some.injEq] at h
    subst h
    exact ⟨ys, rfl, hr, ho⟩
  | (i, x) :: parts, [], cs, cs', ys, hp, hr, ho, h => by simp at hp
  | (i, x) :: parts, (off, n, ox) :: ps, cs, cs', ys, hp, hr, ho, h => by
    obtain ⟨hl, hq⟩ := hp
    obtain ⟨h1, h2⟩ := hq 0 (i, x) (off, n, ox) rfl rfl
    simp only [fillA] at h
    split at h
    · rename_i hc
      obtain ⟨c1, c2, c3⟩ := hc
      have hv := (opd_rel hg he h2)
      have hcl := Rel.cells hv
      have hsz : (a.eval x).cells.size = n := by
        have := RelL.length hcl
        rw [Array.length_toList] at this; rw [this]; exact c1
      have hys : ys.size = cs.length := by have := hr.length; rwa [Array.length_toList] at this
      simp only [List.map_cons, Instr.fill, h1]
      rw [if_neg (by simp [hsz]; omega)]
      refine fill_sound hg he parts ps _ cs' _ ⟨by simpa using hl, fun j p q e1 e2 => hq (j + 1) p q (by simpa using e1) (by simpa using e2)⟩ ?_ ?_ h
      · -- the cells
        have key : ∀ (l : List Value) (k : Nat) (zs : Array Value), ((l.zipIdx k).foldl (fun cs (c, j) => cs.setIfInBounds (off + j) c) zs).toList =
            if off + k + l.length ≤ zs.size then zs.toList.take (off + k) ++ l ++ zs.toList.drop (off + k + l.length)
            else ((l.zipIdx k).foldl (fun cs (c, j) => cs.setIfInBounds (off + j) c) zs).toList := by
          intro l
          induction l with
          | nil => intro k zs; simp
          | cons c l ih =>
            intro k zs
            split
            · rename_i hle
              simp only [List.zipIdx_cons, List.foldl_cons]
              rw [ih (k + 1) (zs.setIfInBounds (off + k) c)]
              simp only [List.length_cons] at hle
              rw [if_pos (by simp; omega)]
              simp only [Array.toList_setIfInBounds, List.length_cons]
              rw [show off + (k + 1) = off + k + 1 by omega, show off + k + 1 + l.length = off + k + (l.length + 1) by omega]
              rw [List.drop_set_of_lt (by omega)]
              rw [List.take_succ_eq_append_getElem (by simp; omega)]
              simp only [List.getElem_set_self, List.append_assoc, List.cons_append, List.nil_append]
              rw [List.take_set_of_le (Nat.le_refl _)]
            · rfl
        have hfold : (Array.foldl (fun (cs : Array Value) (x : Value × Nat) => cs.setIfInBounds (off + x.2) x.1) ys (a.eval x).cells.zipIdx).toList = ys.toList.take off ++ (a.eval x).cells.toList ++ ys.toList.drop (off + (a.eval x).cells.size) := by
          rw [← Array.foldl_toList, Array.toList_zipIdx]
          have := key (a.eval x).cells.toList 0 ys
          rw [if_pos (by simp [hsz]; omega)] at this
          simpa using this
        show RelL G _ (Array.foldl (fun (cs : Array Value) (x : Value × Nat) => cs.setIfInBounds (off + x.2) x.1) ys (a.eval x).cells.zipIdx).toList
        rw [hfold]
        unfold splice
        refine RelL.append (RelL.append (hr.take off) hcl) ?_
        rw [hsz, c1]
        exact hr.drop _
      · intro y hy
        unfold splice at hy
        simp only [List.mem_append] at hy
        rcases hy with (hy | hy) | hy
        · exact ho y (List.mem_of_mem_take hy)
        · exact List.all_eq_true.1 c2 y hy
        · exact ho y (List.mem_of_mem_drop hy)
    · cases h

end
end Jet

/-
Soundness, part 5: the operations that neither read nor write, one by one.
-/
namespace Jet
open Go

section
variable {P : Program} {gl : Gl} {G : Gh} {σ : St} {w : World} {a : Act} {env : List AV} {o : Oper} {pop : POp} {v : AV}

theorem p_move {x : Operand} (hg : GlOk gl G) (he : RelL G env a.tmps.toList) (hi : Inv G σ w) (ho : o.op = .move x ∨ o.op = .assign x)
    (hc : cOp P gl o.op = some (.p pop)) (hv : evP env pop = some v) : Fine P G σ w a o v := by
  have hc' : ∃ ox, cOpd gl x = some ox ∧ pop = .mv ox := by
    rcases ho with ho | ho <;> (rw [ho] at hc; simp [cOp, Option.bind_eq_some_iff] at hc; obtain ⟨ox, h1, h2⟩ := hc; exact ⟨ox, h1, h2.symm⟩)
  obtain ⟨ox, hx, rfl⟩ := hc'
  simp only [evP, Option.some.injEq] at hv
  subst hv
  refine .here hi (cv := a.eval x) ?_ (opd_rel hg he hx)
  rcases ho with ho | ho <;> simp [execOp, ho]

theorem p_pick {c x y : Operand} (hg : GlOk gl G) (he : RelL G env a.tmps.toList) (hi : Inv G σ w) (ho : o.op = .pick c x y)
    (hc : cOp P gl o.op = some (.p pop)) (hv : evP env pop = some v) : Fine P G σ w a o v := by
  rw [ho] at hc
  simp [cOp, Option.bind_eq_some_iff] at hc
  obtain ⟨oc, hoc, ox, hox, oy, hoy, rfl⟩ := hc
  have rc := opd_rel hg he hoc
  simp only [evP] at hv
  split at hv
  · rename_i t e
    rw [e] at rc
    cases hv
    cases t
    · exact .here hi (cv := a.eval y) (by simp [execOp, ho, rc.bool_inv, asBool]) (opd_rel hg he hoy)
    · exact .here hi (cv := a.eval x) (by simp [execOp, ho, rc.bool_inv, asBool]) (opd_rel hg he hox)
  · cases hv

theorem p_nilchk {x : Operand} (hg : GlOk gl G) (he : RelL G env a.tmps.toList) (hi : Inv G σ w) (ho : o.op = .nilCheck x)
    (hc : cOp P gl o.op = some (.p pop)) (hv : evP env pop = some v) : Fine P G σ w a o v := by
  rw [ho] at hc
  simp [cOp, Option.bind_eq_some_iff] at hc
  obtain ⟨ox, hox, rfl⟩ := hc
  have rx := opd_rel hg he hox
  simp only [evP] at hv
  split at hv
  · rename_i m oo e
    cases hv
    rw [e] at rx
    have rx' := rx
    simp only [Rel] at rx'
    obtain ⟨b, hb, _⟩ := rx'
    exact .here hi (cv := a.eval x) (by simp [execOp, ho, hb]) rx
  · rename_i cs e
    cases hv
    rw [e] at rx
    have rx' := rx
    simp only [Rel] at rx'
    obtain ⟨b, oo, full, hb, _⟩ := rx'
    exact .here hi (cv := a.eval x) (by simp [execOp, ho, hb]) rx
  · rename_i f xs ys e
    cases hv
    rw [e] at rx
    have rx' := rx
    simp only [Rel] at rx'
    obtain ⟨xs', ys', hb, _⟩ := rx'
    exact .here hi (cv := a.eval x) (by simp [execOp, ho, hb]) rx
  · cases hv

theorem shapeT_iff {t : TypeId} {n : Nat} {g : Bool} (h : shapeT P t = some (n, g)) : szT P t = some n ∧ aggT P t = some g ∧ (g = true ∨ n = 1) := by
  unfold shapeT at h
  cases e1 : szT P t with
  | none => rw [e1] at h; cases h
  | some n' =>
    cases e2 : aggT P t with
    | none => rw [e1, e2] at h; cases h
    | some g' =>
      rw [e1, e2] at h
      simp only [Option.bind_eq_bind, Option.bind_some] at h
      split at h
      · rename_i hs
        cases h
        exact ⟨rfl, rfl, by simpa using hs⟩
      · cases h

theorem prefix_drop {α : Type} {l l' : List α} (h : l <+: l') (n : Nat) : l.drop n <+: l'.drop n := by
  obtain ⟨t, rfl⟩ := h
  rw [List.drop_append]
  exact List.prefix_append _ _

theorem p_field {t : TypeId} {x : Operand} {f : Nat} (hg : GlOk gl G) (he : RelL G env a.tmps.toList) (hi : Inv G σ w) (ho : o.op = .field t x f)
    (hc : cOp P gl o.op = some (.p pop)) (hv : evP env pop = some v) : Fine P G σ w a o v := by
  rw [ho] at hc
  simp only [cOp] at hc
  split at hc
  · rename_i fs hu
    simp only [Option.bind_eq_bind, Option.bind_eq_some_iff, Option.some.injEq, AOp.p.injEq, Prod.exists] at hc
    obtain ⟨fd, hf, n, g, hsh, ox, hox, rfl⟩ := hc
    obtain ⟨hn, hg', hsh⟩ := shapeT_iff hsh
    simp only [evP] at hv
    split at hv
    · rename_i cs e
      have rx := opd_rel hg he hox
      rw [e] at rx
      obtain ⟨ys, hy, hr, hone⟩ := rx.agg_inv
      obtain ⟨cv, h1, h2⟩ := takeVal_rel (w := w) hr hone hn hg' hsh hv
      refine .here hi (cv := cv) ?_ h2
      simp only [execOp, ho, Instr.field, Sem.run_bind, run_underlying hu, Result.andThen_ok, hf, hy, asAgg, Sem.run_pure, h1]
    · cases hv
  · cases hc

theorem p_faddr {t : TypeId} {x : Operand} {f : Nat} (hg : GlOk gl G) (he : RelL G env a.tmps.toList) (hi : Inv G σ w) (ho : o.op = .fieldAddr t x f)
    (hc : cOp P gl o.op = some (.p pop)) (hv : evP env pop = some v) : Fine P G σ w a o v := by
  rw [ho] at hc
  simp only [cOp] at hc
  split at hc
  · rename_i fs hu
    simp [Option.bind_eq_some_iff] at hc
    obtain ⟨fd, hf, n, hn, hc⟩ := hc
    by_cases hz : n = 0
    · simp [hz] at hc
    · simp [hz, Option.bind_eq_some_iff] at hc
      obtain ⟨ox, hox, rfl⟩ := hc
      have rx := opd_rel hg he hox
      have run : ∀ ad : Addr, a.eval x = .pointer (some ad) → ad.spot = none →
          (execOp a.eval o).run P w = .ok (.value (.pointer (some ⟨ad.block, ad.off + fd.offset, none⟩))) w := by
        intro ad hx hsp
        have hadd : ad.add fd.offset = ⟨ad.block, ad.off + fd.offset, none⟩ := by
          unfold Addr.add
          split
          · rename_i h0; cases ad; simp_all
          · rfl
        simp only [execOp, ho, Instr.fieldAt, Sem.run_bind, run_underlying hu, Result.andThen_ok, hf, hx, Instr.sureAddr, fieldPlace, run_size hn, hz, if_false, Sem.run_ite, Sem.run_pure, hadd]
      simp only [evP] at hv
      split at hv
      · rename_i m oo e
        cases hv
        rw [e] at rx
        simp only [Rel] at rx
        obtain ⟨b, hb, hblk⟩ := rx
        exact .here hi (run _ hb rfl) (by simp only [Rel]; exact ⟨b, rfl, hblk⟩)
      · rename_i cs e
        cases hv
        rw [e] at rx
        simp only [Rel] at rx
        obtain ⟨b, oo, full, hb, hblk, hp⟩ := rx
        refine .here hi (run _ hb rfl) ?_
        simp only [Rel]
        refine ⟨b, oo + fd.offset, full, rfl, hblk, ?_⟩
        rw [← List.drop_drop]
        exact prefix_drop hp _
      · cases hv
  · cases hc

theorem addr_add (b oo n : Nat) : (⟨b, oo, none⟩ : Addr).add n = ⟨b, oo + n, none⟩ := Addr.add_lit b oo n

theorem flat_cons (x : AV) (xs : List AV) : flat (x :: xs) = x.cells ++ flat xs := by simp [flat]
theorem flat_length {s : Nat} : ∀ {xs : List AV}, (∀ x ∈ xs, x.cells.length = s) → (flat xs).length = xs.length * s
  | [], _ => by simp [flat]
  | x :: xs, h => by
    rw [flat_cons, List.length_append, h x (by simp), flat_length fun y hy => h y (by simp [hy]), List.length_cons, Nat.succ_mul]; omega
theorem flat_drop {s : Nat} : ∀ {xs : List AV} (i : Nat), (∀ x ∈ xs, x.cells.length = s) → i ≤ xs.length → (flat xs).drop (i * s) = flat (xs.drop i)
  | xs, 0, _, _ => by simp
  | [], i + 1, _, h => by simp at h
  | x :: xs, i + 1, h, hi => by
    rw [flat_cons, List.drop_succ_cons, show (i + 1) * s = x.cells.length + i * s by rw [h x (by simp), Nat.succ_mul]; omega, ← List.drop_drop, List.drop_left]
    exact flat_drop i (fun y hy => h y (by simp [hy])) (by simpa using hi)
theorem flat_append (xs ys : List AV) : flat (xs ++ ys) = flat xs ++ flat ys := by simp [flat]
theorem flat_get {s : Nat} {xs : List AV} {i : Nat} {x : AV} (h : ∀ x ∈ xs, x.cells.length = s) (hx : xs[i]? = some x) : x.cells <+: (flat xs).drop (i * s) := by
  have hlt : i < xs.length := (List.getElem?_eq_some_iff.1 hx).1
  rw [flat_drop i h (Nat.le_of_lt hlt), List.drop_eq_getElem_cons hlt, flat_cons]
  have : xs[i] = x := (List.getElem?_eq_some_iff.1 hx).2
  rw [this]
  exact List.prefix_append _ _

theorem p_iaddr {t : TypeId} {x i : Operand} (hg : GlOk gl G) (he : RelL G env a.tmps.toList) (hi : Inv G σ w) (ho : o.op = .indexAddr t x i)
    (hc : cOp P gl o.op = some (.p pop)) (hv : evP env pop = some v) : Fine P G σ w a o v := by
  rw [ho] at hc
  simp only [cOp] at hc
  split at hc
  · rename_i e hu
    simp [Option.bind_eq_some_iff] at hc
    obtain ⟨s, hs, ox, hox, oi, hoi, rfl⟩ := hc
    have rx := opd_rel hg he hox
    have ri := opd_rel hg he hoi
    have run : ∀ b oo len cap k n, a.eval x = .slice (some ⟨b, oo, none⟩) len cap → a.eval i = .int k n → 0 ≤ n → n < len →
        (execOp a.eval o).run P w = .ok (.value (.pointer (some ⟨b, oo + n.toNat * s, none⟩))) w := by
      intro b oo len cap k n hx hn h0 h1
      simp only [execOp, ho, Instr.indexAt, Sem.run_bind, hn, asIntOf, Sem.run_pure, run_underlying hu, Result.andThen_ok, hx, h0, h1, and_self, if_true, run_size hs, addr_add]
    simp only [evP] at hv
    split at hv
    · rename_i p xs k n e1 e2
      rw [e1] at rx; rw [e2] at ri
      have ri := ri.int_inv
      split at hv
      · rename_i h0
        split at hv
        · rename_i y hy
          split at hv
          · rename_i hl
            cases hv
            have hlt : n.toNat < xs.length := (List.getElem?_eq_some_iff.1 hy).1
            simp only [Rel] at rx
            obtain ⟨ad, cap, hx, _, ⟨s', hs'⟩, hb, _⟩ := rx
            have hss : s' = s := by rw [← hl, hs' y (List.mem_of_getElem? hy)]
            subst hss
            cases ad with
            | none => simp only [BaseOk] at hb; rw [hb.1] at hlt; simp at hlt
            | some ad =>
              obtain ⟨hsp, hb⟩ := hb
              rcases hb with rfl | ⟨full, hbk, hp⟩
              · simp at hlt
              obtain ⟨b, oo, sp⟩ := ad
              simp only at hsp hbk hp
              subst hsp
              refine .here hi (run b oo _ cap k n hx ri h0 (by omega)) ?_
              simp only [Rel]
              refine ⟨b, _, full, rfl, hbk, ?_⟩
              rw [← List.drop_drop]
              exact (flat_get hs' hy).trans (prefix_drop hp _)
          · cases hv
        · cases hv
      · cases hv
    · rename_i s' m oo len cap k n e1 e2
      rw [e1] at rx; rw [e2] at ri
      have ri := ri.int_inv
      split at hv
      · rename_i h
        cases hv
        simp only [Rel] at rx
        obtain ⟨b, hx, hbk⟩ := rx
        refine .here hi (run b oo _ cap k n hx ri h.2.1 h.2.2) ?_
        simp only [Rel]
        exact ⟨b, rfl, hbk⟩
      · cases hv
    · cases hv
  · rename_i len e hu
    simp [Option.bind_eq_some_iff] at hc
    obtain ⟨s, hs, ox, hox, oi, hoi, rfl⟩ := hc
    have rx := opd_rel hg he hox
    have ri := opd_rel hg he hoi
    have run : ∀ b oo k n, a.eval x = .pointer (some ⟨b, oo, none⟩) → a.eval i = .int k n → 0 ≤ n → n < len →
        (execOp a.eval o).run P w = .ok (.value (.pointer (some ⟨b, oo + n.toNat * s, none⟩))) w := by
      intro b oo k n hx hn h0 h1
      simp only [execOp, ho, Instr.indexAt, Sem.run_bind, hn, asIntOf, Sem.run_pure, run_underlying hu, Result.andThen_ok, hx, Instr.sureAddr, h0, h1, and_self, if_true, run_size hs, addr_add]
    simp only [evP] at hv
    split at hv
    · rename_i m oo k n e1 e2
      rw [e1] at rx; rw [e2] at ri
      split at hv
      · rename_i h
        cases hv
        simp only [Rel] at rx
        obtain ⟨b, hx, hbk⟩ := rx
        refine .here hi (run b oo k n hx ri.int_inv h.1 h.2) ?_
        simp only [Rel]
        exact ⟨b, rfl, hbk⟩
      · cases hv
    · rename_i cs k n e1 e2
      rw [e1] at rx; rw [e2] at ri
      split at hv
      · rename_i h
        cases hv
        simp only [Rel] at rx
        obtain ⟨b, oo, full, hx, hbk, hp⟩ := rx
        refine .here hi (run b oo k n hx ri.int_inv h.1 h.2) ?_
        simp only [Rel]
        refine ⟨b, _, full, rfl, hbk, ?_⟩
        rw [← List.drop_drop]
        exact prefix_drop hp _
      · cases hv
    · cases hv
  · cases hc

theorem ba_get (s : ByteArray) (i : Nat) : s[i]? = s.data.toList[i]? := by
  by_cases h : i < s.size
  · rw [Lib.data_getElem? s i h]
    simp [h]
  · have h1 : s.data.toList[i]? = none := List.getElem?_eq_none (by rw [Array.length_toList]; exact Nat.le_of_not_lt h)
    rw [h1]
    simp [h]

theorem p_index {t : TypeId} {x i : Operand} (hg : GlOk gl G) (he : RelL G env a.tmps.toList) (hi : Inv G σ w) (ho : o.op = .index t x i)
    (hc : cOp P gl o.op = some (.p pop)) (hv : evP env pop = some v) : Fine P G σ w a o v := by
  rw [ho] at hc
  simp only [cOp] at hc
  split at hc
  · rename_i hu
    simp [Option.bind_eq_some_iff] at hc
    obtain ⟨ox, hox, oi, hoi, rfl⟩ := hc
    have rx := opd_rel hg he hox
    have ri := opd_rel hg he hoi
    simp only [evP] at hv
    split at hv
    · rename_i l k n e1 e2
      rw [e1] at rx; rw [e2] at ri
      obtain ⟨bs, hx, rfl⟩ := rx.str_inv
      split at hv
      · rename_i h0
        split at hv
        · rename_i c hcc
          cases hv
          refine .here hi (cv := .int .u8 c.toNat) ?_ .of_int
          simp only [execOp, ho, Instr.index, Sem.run_bind, ri.int_inv, asIntOf, Sem.run_pure, run_underlying hu, Result.andThen_ok, hx, h0, if_true, ba_get, hcc]
        · cases hv
      · cases hv
    · cases hv
  · rename_i len e hu
    simp only [Option.bind_eq_bind, Option.bind_eq_some_iff, Option.some.injEq, AOp.p.injEq, Prod.exists] at hc
    obtain ⟨s, g, hsh, ox, hox, oi, hoi, rfl⟩ := hc
    obtain ⟨hn, hg', hsh⟩ := shapeT_iff hsh
    have rx := opd_rel hg he hox
    have ri := opd_rel hg he hoi
    simp only [evP] at hv
    split at hv
    · rename_i cs k n e1 e2
      rw [e1] at rx; rw [e2] at ri
      split at hv
      · rename_i h
        obtain ⟨ys, hy, hr, hone⟩ := rx.agg_inv
        obtain ⟨cv, h1, h2⟩ := takeVal_rel (w := w) hr hone hn hg' hsh hv
        refine .here hi (cv := cv) ?_ h2
        simp only [execOp, ho, Instr.index, Sem.run_bind, ri.int_inv, asIntOf, Sem.run_pure, run_underlying hu, Result.andThen_ok, hy, h.1, h.2, and_self, if_true, run_size hn, h1]
      · cases hv
    · cases hv
  · cases hc

end
end Jet

/-
Soundness, part 6: the operations that neither read nor write, the rest.
-/
namespace Jet
open Go

section
variable {P : Program} {gl : Gl} {G : Gh} {σ : St} {w : World} {a : Act} {env : List AV} {o : Oper} {pop : POp} {v : AV}

theorem p_un {op : UnOp} {t : TypeId} {x : Operand} (hg : GlOk gl G) (he : RelL G env a.tmps.toList) (hi : Inv G σ w) (ho : o.op = .unOp op t x)
    (hc : cOp P gl o.op = some (.p pop)) (hv : evP env pop = some v) : Fine P G σ w a o v := by
  rw [ho] at hc
  simp only [cOp, Option.bind_eq_bind, Option.bind_eq_some_iff, Option.some.injEq, AOp.p.injEq] at hc
  obtain ⟨ox, hox, rfl⟩ := hc
  have rx := opd_rel hg he hox
  simp only [evP, aun] at hv
  split at hv
  · rename_i k n e; rw [e] at rx; cases hv
    exact .here hi (cv := .int k (k.wrap (0 - n))) (by simp [execOp, ho, Op.unary, rx.int_inv, Op.intArith]) .of_int
  · rename_i b e; rw [e] at rx; cases hv
    exact .here hi (cv := .bool !b) (by simp [execOp, ho, Op.unary, rx.bool_inv]) .of_bool
  · rename_i k n e; rw [e] at rx; cases hv
    exact .here hi (by simp only [execOp, ho, Op.unary, rx.int_inv, Op.intBits, Sem.run_bind, Sem.run_pure, Result.andThen_ok]) .of_int
  · cases hv

theorem run_eqGuard_other {op : BinOp} {t : TypeId} {x y : Operand} {u z : Value} (w : World) (h1 : ∀ cs, u ≠ .agg cs)
    (h2 : ¬ (u = .nilIface ∧ z = .nilIface)) : (eqGuard op t x y u z).run P w = .ok () w := by
  cases u <;> first
    | exact absurd rfl (h1 _)
    | (cases op <;> rfl)
    | (cases z <;> first
        | exact absurd ⟨rfl, rfl⟩ h2
        | (cases op <;> rfl))

theorem run_eqGuard_nil {op : BinOp} {t : TypeId} {x y : Operand} (w : World) {ms : Array (String × TypeId)} (hu : P.underlying t = some (.interface ms))
    (h : (isConstO x || isConstO y || ms.isEmpty) = true) : (eqGuard op t x y .nilIface .nilIface).run P w = .ok () w := by
  have key : isConstO x = false → isConstO y = false → (Op.eqGuardIn Op.maxDepth t .nilIface .nilIface).run P w = .ok false w := by
    intro hx hy
    have hm : ms.isEmpty = true := by simpa [hx, hy] using h
    show (Op.eqGuardIn (9999 + 1) t .nilIface .nilIface).run P w = _
    unfold Op.eqGuardIn
    simp [run_underlying hu, hm]
  have goal : ∀ why, isConstO x = false → isConstO y = false → (do if (← Op.eqGuardIn Op.maxDepth t .nilIface .nilIface) then unsupported why else pure () : Sem Unit).run P w = .ok () w := by
    intro why hx hy
    simp only [Sem.run_bind, key hx hy, Result.andThen_ok]
    rfl
  cases op <;> first
    | rfl
    | (cases x <;> cases y <;> first
        | rfl
        | exact goal _ rfl rfl)

theorem eqv_run {t : TypeId} {x y : Operand} {ax ay : AV} {b : Bool} (hi : Inv G σ w) (rx : Rel G ax (a.eval x)) (ry : Rel G ay (a.eval y))
    (h : eqv (cEq P t x y) ax ay = some b) : (∀ op, (eqGuard op t x y (a.eval x) (a.eval y)).run P w = .ok () w) ∧ (Op.equal t (a.eval x) (a.eval y)).run P w = .ok b w ∧
      (∀ op, op = .eql ∨ op = .neq → binOp op t (a.eval x) (a.eval y) = (do let r ← Op.equal t (a.eval x) (a.eval y); pure (.bool (if op = .eql then r else !r)))) := by
  have hk : ∀ ek, cEq P t x y = ek → ek ≠ .other → ∃ d, P.underlying t = some d ∧
      (ek = .bool → d = .bool) ∧ (ek = .ptr → ∃ e n, d = .pointer e ∧ szT P e = some (n + 1)) ∧ (ek = .iface → ∃ ms, d = .interface ms ∧ (isConstO x || isConstO y || ms.isEmpty) = true) ∧
      (ek = .func → ∃ p q r, d = .func p q r) ∧ (ek = .map → ∃ p q, d = .map p q) := by
    intro ek hek hne
    unfold cEq at hek
    split at hek
    · rename_i hu; subst hek; exact ⟨_, hu, by simp⟩
    · rename_i e hu
      split at hek
      · rename_i n hs; subst hek; exact ⟨_, hu, by simp [hs]⟩
      · exact absurd hek.symm hne
    · rename_i ms hu
      split at hek
      · rename_i hc; subst hek; refine ⟨_, hu, by simp, by simp, ?_, by simp, by simp⟩
        intro _; exact ⟨ms, rfl, hc⟩
      · exact absurd hek.symm hne
    · rename_i hu; subst hek; exact ⟨_, hu, by simp⟩
    · rename_i hu; subst hek; exact ⟨_, hu, by simp⟩
    · exact absurd hek.symm hne
  generalize hek : cEq P t x y = ek at h
  unfold eqv at h
  have hguard : (∀ cs, a.eval x ≠ .agg cs) → ¬ (a.eval x = .nilIface ∧ a.eval y = .nilIface) → ∀ op, (eqGuard op t x y (a.eval x) (a.eval y)).run P w = .ok () w :=
    fun h1 h2 op => run_eqGuard_other w h1 h2
  have hmd : Op.maxDepth = 9999 + 1 := rfl
  split at h <;> first | cases h | skip
  · -- bool
    obtain ⟨d, hu, h1, _⟩ := hk _ hek (by simp)
    obtain rfl := h1 rfl
    have ex := rx.bool_inv; have ey := ry.bool_inv
    refine ⟨hguard (by simp [ex]) (by simp [ex]), ?_, ?_⟩
    · unfold Op.equal; rw [hmd]; unfold Op.equalIn; simp [run_underlying hu, ex, ey]
    · rintro op (rfl | rfl) <;> simp [ex, ey, binOp]
  all_goals
    obtain ⟨d, hu, hbo, hpt, hif, hfu, hma⟩ := hk _ hek (by simp)
  · -- nil pointers
    obtain ⟨e, n, rfl, hs⟩ := hpt rfl
    simp only [Rel] at rx ry
    refine ⟨hguard (by simp [rx]) (by simp [rx]), ?_, ?_⟩
    · unfold Op.equal; rw [hmd]; unfold Op.equalIn; simp [run_underlying hu, rx, ry]
    · rintro op (rfl | rfl) <;> simp [rx, ry, binOp]
  · obtain ⟨e, n, rfl, hs⟩ := hpt rfl
    simp only [Rel] at rx ry
    obtain ⟨b2, ry, _⟩ := ry
    refine ⟨hguard (by simp [rx]) (by simp [rx]), ?_, ?_⟩
    · unfold Op.equal; rw [hmd]; unfold Op.equalIn; simp [run_underlying hu, rx, ry]
    · rintro op (rfl | rfl) <;> simp [rx, ry, binOp]
  · obtain ⟨e, n, rfl, hs⟩ := hpt rfl
    simp only [Rel] at rx ry
    obtain ⟨b2, o2, f2, ry, _⟩ := ry
    refine ⟨hguard (by simp [rx]) (by simp [rx]), ?_, ?_⟩
    · unfold Op.equal; rw [hmd]; unfold Op.equalIn; simp [run_underlying hu, rx, ry]
    · rintro op (rfl | rfl) <;> simp [rx, ry, binOp]
  · obtain ⟨e, n, rfl, hs⟩ := hpt rfl
    simp only [Rel] at rx ry
    obtain ⟨b2, rx, _⟩ := rx
    refine ⟨hguard (by simp [rx]) (by simp [rx]), ?_, ?_⟩
    · unfold Op.equal; rw [hmd]; unfold Op.equalIn; simp [run_underlying hu, rx, ry]
    · rintro op (rfl | rfl) <;> simp [rx, ry, binOp]
  · obtain ⟨e, n, rfl, hs⟩ := hpt rfl
    simp only [Rel] at rx ry
    obtain ⟨b2, o2, f2, rx, _⟩ := rx
    refine ⟨hguard (by simp [rx]) (by simp [rx]), ?_, ?_⟩
    · unfold Op.equal; rw [hmd]; unfold Op.equalIn; simp [run_underlying hu, rx, ry]
    · rintro op (rfl | rfl) <;> simp [rx, ry, binOp]
  · -- two pointers
    obtain ⟨e, n, rfl, hs⟩ := hpt rfl
    rename_i m o1 m' o2
    simp only [Rel] at rx ry
    obtain ⟨b1, ex, k1⟩ := rx
    obtain ⟨b2, ey, k2⟩ := ry
    obtain ⟨cs1, c1, e1, q1, g1, _, _⟩ := hi.blk _ _ k1
    obtain ⟨cs2, c2, e2, q2, g2, _, _⟩ := hi.blk _ _ k2
    have hb : (b1 = b2) ↔ (m = m') := by
      constructor
      · rintro rfl; rw [k1] at k2; cases k2; rfl
      · rintro rfl; exact hi.inj _ _ _ _ m k1 k2 rfl rfl
    refine ⟨hguard (by simp [ex]) (by simp [ex]), ?_, ?_⟩
    · unfold Op.equal; rw [hmd]; unfold Op.equalIn
      simp only [Sem.run_bind, run_underlying hu, Result.andThen_ok, ex, ey, run_size hs]
      simp only [Nat.add_eq_zero_iff, Nat.succ_ne_self, ne_eq, and_false, not_false_eq_true, if_true, Nat.one_ne_zero]
      unfold sameAddr
      by_cases hbb : b1 = b2
      · subst hbb
        obtain rfl := hb.1 rfl
        have hadr : (({ block := b1, off := o1 } : Addr) == { block := b1, off := o2 }) = (o1 == o2) := by rw [Bool.eq_iff_iff]; simp
        simp [hadr]
      · have hm : ¬ m = m' := fun h => hbb (hb.2 h)
        have f1 : ∀ off, w.frozen? ⟨b1, off, none⟩ = false := by intro off; simp [World.frozen?, g1]
        have f2 : ∀ off, w.frozen? ⟨b2, off, none⟩ = false := by intro off; simp [World.frozen?, g2]
        have s1 : w.shape? b1 = some (e1, c1.size) := by simp [World.shape?, g1]
        have s2 : w.shape? b2 = some (e2, c2.size) := by simp [World.shape?, g2]
        simp [hbb, hm, f1, f2, noView, viewAt, s1, s2, mayBeOne, stringish]
    · rintro op (rfl | rfl) <;> simp [ex, ey, binOp]
  · -- nil interfaces
    obtain ⟨ms, rfl, hcst⟩ := hif rfl
    simp only [Rel] at rx ry
    refine ⟨fun op => by rw [rx, ry]; exact run_eqGuard_nil w hu hcst, ?_, ?_⟩
    · unfold Op.equal; rw [hmd]; unfold Op.equalIn; simp [run_underlying hu, rx, ry]
    · rintro op (rfl | rfl) <;> simp [rx, ry, binOp]
  · obtain ⟨ms, rfl, hcst⟩ := hif rfl
    simp only [Rel] at rx ry
    obtain ⟨y2, ry, _⟩ := ry
    refine ⟨hguard (by simp [rx]) (by simp [rx, ry]), ?_, ?_⟩
    · unfold Op.equal; rw [hmd]; unfold Op.equalIn; simp [run_underlying hu, rx, ry]
    · rintro op (rfl | rfl) <;> simp [rx, ry, binOp]
  · obtain ⟨ms, rfl, hcst⟩ := hif rfl
    simp only [Rel] at rx ry
    obtain ⟨y2, rx, _⟩ := rx
    refine ⟨hguard (by simp [rx]) (by simp [rx, ry]), ?_, ?_⟩
    · unfold Op.equal; rw [hmd]; unfold Op.equalIn; simp [run_underlying hu, rx, ry]
    · rintro op (rfl | rfl) <;> simp [rx, ry, binOp]
  · obtain ⟨p, q, r, rfl⟩ := hfu rfl
    simp only [Rel] at rx ry
    refine ⟨hguard (by simp [rx]) (by simp [rx]), ?_, ?_⟩
    · unfold Op.equal; rw [hmd]; unfold Op.equalIn; simp [run_underlying hu, rx, ry]
    · rintro op (rfl | rfl) <;> simp [rx, ry, binOp]
  · obtain ⟨p, q, r, rfl⟩ := hfu rfl
    simp only [Rel] at rx ry
    obtain ⟨_, _, ry, _⟩ := ry
    refine ⟨hguard (by simp [rx]) (by simp [rx]), ?_, ?_⟩
    · unfold Op.equal; rw [hmd]; unfold Op.equalIn; simp [run_underlying hu, rx, ry]
    · rintro op (rfl | rfl) <;> simp [rx, ry, binOp]
  · obtain ⟨p, q, r, rfl⟩ := hfu rfl
    simp only [Rel] at rx ry
    obtain ⟨_, _, rx, _⟩ := rx
    refine ⟨hguard (by simp [rx]) (by simp [rx]), ?_, ?_⟩
    · unfold Op.equal; rw [hmd]; unfold Op.equalIn; simp [run_underlying hu, rx, ry]
    · rintro op (rfl | rfl) <;> simp [rx, ry, binOp]
  · obtain ⟨p, q, rfl⟩ := hma rfl
    simp only [Rel] at rx ry
    refine ⟨hguard (by simp [rx]) (by simp [rx]), ?_, ?_⟩
    · unfold Op.equal; rw [hmd]; unfold Op.equalIn; simp [run_underlying hu, rx, ry]
    · rintro op (rfl | rfl) <;> simp [rx, ry, binOp]
  · obtain ⟨p, q, rfl⟩ := hma rfl
    simp only [Rel] at rx ry
    obtain ⟨_, ry, _⟩ := ry
    refine ⟨hguard (by simp [rx]) (by simp [rx]), ?_, ?_⟩
    · unfold Op.equal; rw [hmd]; unfold Op.equalIn; simp [run_underlying hu, rx, ry]
    · rintro op (rfl | rfl) <;> simp [rx, ry, binOp]
  · obtain ⟨p, q, rfl⟩ := hma rfl
    simp only [Rel] at rx ry
    obtain ⟨_, rx, _⟩ := rx
    refine ⟨hguard (by simp [rx]) (by simp [rx]), ?_, ?_⟩
    · unfold Op.equal; rw [hmd]; unfold Op.equalIn; simp [run_underlying hu, rx, ry]
    · rintro op (rfl | rfl) <;> simp [rx, ry, binOp]

end
end Jet

/-
Soundness, part 7: the operations that neither read nor write, the rest.
-/
namespace Jet
open Go

section
variable {P : Program} {gl : Gl} {G : Gh} {σ : St} {w : World} {a : Act} {env : List AV} {o : Oper} {pop : POp} {v : AV}

theorem p_bin {op : BinOp} {t t' : TypeId} {x y : Operand} (hg : GlOk gl G) (he : RelL G env a.tmps.toList) (hi : Inv G σ w) (ho : o.op = .binOp op t x y t')
    (hc : cOp P gl o.op = some (.p pop)) (hv : evP env pop = some v) : Fine P G σ w a o v := by
  rw [ho] at hc
  simp only [cOp, Option.bind_eq_bind, Option.bind_eq_some_iff, Option.some.injEq, AOp.p.injEq] at hc
  obtain ⟨ox, hox, oy, hoy, rfl⟩ := hc
  have rx := opd_rel hg he hox
  have ry := opd_rel hg he hoy
  simp only [evP, abin] at hv
  have fin : ∀ cv, (eqGuard op t x y (a.eval x) (a.eval y)).run P w = .ok () w → (binOp op t (a.eval x) (a.eval y)).run P w = .ok cv w → Rel G v cv → Fine P G σ w a o v := by
    intro cv h1 h2 h3
    exact .here hi (cv := cv) (by simp only [execOp, ho, Sem.run_bind, h1, Result.andThen_ok, h2, Sem.run_pure]) h3
  split at hv
  · rename_i k n k' n' e1 e2
    rw [e1] at rx; rw [e2] at ry
    have ex := rx.int_inv; have ey := ry.int_inv
    have hgd : (eqGuard op t x y (a.eval x) (a.eval y)).run P w = .ok () w := by rw [ex, eqGuard_at_int]; rfl
    split at hv
    · obtain ⟨cv, h1, h2⟩ := ishift_run (P := P) (k' := k') hv t w
      exact fin cv hgd (by rw [ex, ey]; exact h1) (h2 G)
    · obtain ⟨cv, h1, h2⟩ := ishift_run (P := P) (k' := k') hv t w
      exact fin cv hgd (by rw [ex, ey]; exact h1) (h2 G)
    · split at hv
      · rename_i hk; subst hk
        obtain ⟨cv, h1, h2⟩ := ibin_run (P := P) hv t w
        exact fin cv hgd (by rw [ex, ey]; exact h1) (h2 G)
      · cases hv
  · rename_i s1 s2 e1 e2
    rw [e1] at rx; rw [e2] at ry
    obtain ⟨b1, ex, rfl⟩ := rx.str_inv
    obtain ⟨b2, ey, rfl⟩ := ry.str_inv
    obtain ⟨cv, h1, h2⟩ := sbin_run (P := P) hv t w
    exact fin cv (by rw [ex, eqGuard_at_string]; rfl) (by rw [ex, ey]; exact h1) (h2 G)
  · split at hv
    · rw [Option.map_eq_some_iff] at hv
      obtain ⟨b, hb, rfl⟩ := hv
      obtain ⟨h1, h2, h3⟩ := eqv_run hi rx ry hb
      refine fin (.bool b) (h1 _) ?_ .of_bool
      rw [h3 _ (.inl rfl)]
      simp only [Sem.run_bind, h2, Result.andThen_ok]; rfl
    · rw [Option.map_eq_some_iff] at hv
      obtain ⟨b, hb, rfl⟩ := hv
      obtain ⟨h1, h2, h3⟩ := eqv_run hi rx ry hb
      refine fin (.bool !b) (h1 _) ?_ .of_bool
      rw [h3 _ (.inr rfl)]
      simp only [Sem.run_bind, h2, Result.andThen_ok]; rfl
    · cases hv

theorem cells_size {x : Operand} {ox : Opd} (h : Rel G (ox.ev env) (a.eval x)) : (a.eval x).cells.size = (ox.ev env).cells.length := by
  have := (Rel.cells h).length
  rwa [Array.length_toList] at this

theorem flat_rel {s : Nat} : ∀ {vs : List AV} {cvs : List Value}, RelL G vs cvs → (∀ x ∈ vs, okElem s x = true) →
    RelL G (flat vs) (cvs.flatMap fun c => c.cells.toList) ∧ (∀ x ∈ flat vs, x.one = true) ∧ ∀ x ∈ vs, x.cells.length = s
  | [], cvs, h, _ => by rw [h.nil_left]; exact ⟨.nil, by simp [flat], by simp⟩
  | x :: vs, cvs, h, hk => by
    simp only [RelL] at h
    obtain ⟨y, ys, rfl, h1, h2⟩ := h
    obtain ⟨r1, r2, r3⟩ := flat_rel h2 fun z hz => hk z (by simp [hz])
    have hx := hk x (by simp)
    simp only [okElem, Bool.and_eq_true, beq_iff_eq] at hx
    refine ⟨?_, ?_, ?_⟩
    · rw [flat_cons, List.flatMap_cons]; exact RelL.append (Rel.cells h1) r1
    · intro z hz
      rw [flat_cons, List.mem_append] at hz
      rcases hz with hz | hz
      · exact List.all_eq_true.1 hx.2 z hz
      · exact r2 z hz
    · intro z hz
      simp at hz
      rcases hz with rfl | hz
      · exact hx.1
      · exact r3 z hz

/-- Elements laid one by one, from the beginning. -/
theorem fill_all {s : Nat} : ∀ (cvs : List Value) (k : Nat) (zs : Array Value), (∀ c ∈ cvs, c.cells.size = s) → zs.size = (k + cvs.length) * s →
    Instr.fill (fun i => some (i * s, s)) zs (((List.range' k cvs.length).zip cvs)) = some (zs.toList.take (k * s) ++ cvs.flatMap fun c => c.cells.toList).toArray
  | [], k, zs, _, hz => by
    simp only [List.length_nil, Nat.add_zero] at hz
    simp only [List.length_nil, List.range'_zero, List.zip_nil_left, Instr.fill, List.flatMap_nil, List.append_nil]
    rw [List.take_of_length_le (by simp [hz])]
  | c :: cvs, k, zs, hc, hz => by
    have hcs := hc c (by simp)
    simp only [List.length_cons] at hz
    have hz' : zs.size = k * s + s + cvs.length * s := by rw [hz]; rw [Nat.add_mul, Nat.succ_mul]; omega
    simp only [List.length_cons, List.range'_succ, List.zip_cons_cons, Instr.fill]
    rw [if_neg (by simp [hcs]; omega)]
    have key : ∀ (l : List Value) (j : Nat) (zs : Array Value), ((l.zipIdx j).foldl (fun cs (c, j) => cs.setIfInBounds (k * s + j) c) zs).toList =
        if k * s + j + l.length ≤ zs.size then zs.toList.take (k * s + j) ++ l ++ zs.toList.drop (k * s + j + l.length)
        else ((l.zipIdx j).foldl (fun cs (c, j) => cs.setIfInBounds (k * s + j) c) zs).toList := by
      intro l
      induction l with
      | nil => intro j zs; simp
      | cons c l ih =>
        intro j zs
        split
        · rename_i hle
          simp only [List.zipIdx_cons, List.foldl_cons]
          rw [ih (j + 1) (zs.setIfInBounds (k * s + j) c)]
          simp only [List.length_cons] at hle
          rw [if_pos (by simp; omega)]
          simp only [Array.toList_setIfInBounds, List.length_cons]
          rw [show k * s + (j + 1) = k * s + j + 1 by omega, show k * s + j + 1 + l.length = k * s + j + (l.length + 1) by omega]
          rw [List.drop_set_of_lt (by omega)]
          rw [List.take_succ_eq_append_getElem (by simp; omega)]
          simp only [List.getElem_set_self, List.append_assoc, List.cons_append, List.nil_append]
          rw [List.take_set_of_le (Nat.le_refl _)]
        · rfl
    have hfold : (Array.foldl (fun (cs : Array Value) (x : Value × Nat) => cs.setIfInBounds (k * s + x.2) x.1) zs c.cells.zipIdx) =
        (zs.toList.take (k * s) ++ c.cells.toList ++ zs.toList.drop (k * s + s)).toArray := by
      apply Array.ext'
      rw [← Array.foldl_toList, Array.toList_zipIdx]
      have := key c.cells.toList 0 zs
      rw [if_pos (by simp [hcs]; omega)] at this
      simpa [hcs] using this
    have hih := fill_all cvs (k + 1) (zs.toList.take (k * s) ++ c.cells.toList ++ zs.toList.drop (k * s + s)).toArray (fun d hd => hc d (by simp [hd]))
      (by simp [hcs]; rw [Nat.min_eq_left (by omega), hz', Nat.add_mul, Nat.succ_mul]; omega)
    show Instr.fill _ (Array.foldl (fun (cs : Array Value) (x : Value × Nat) => cs.setIfInBounds (k * s + x.2) x.1) zs c.cells.zipIdx) _ = _
    rw [hfold, hih]
    congr 2
    rw [List.flatMap_cons]
    have : (k + 1) * s = (zs.toList.take (k * s) ++ c.cells.toList).length := by
      simp [hcs, Nat.succ_mul]; omega
    rw [this, List.take_left]
    simp

theorem p_bslice {t : TypeId} {n : Nat} {parts : Array (Nat × Operand)} (hg : GlOk gl G) (he : RelL G env a.tmps.toList) (hi : Inv G σ w) (ho : o.op = .buildSlice t n parts)
    (hc : cOp P gl o.op = some (.p pop)) (hv : evP env pop = some v) : Fine P G σ w a o v := by
  rw [ho] at hc
  simp only [cOp] at hc
  split at hc
  · rename_i e hu
    simp only [Option.bind_eq_bind, Option.bind_eq_some_iff] at hc
    obtain ⟨s, hs, z, hz, hc⟩ := hc
    split at hc
    · rename_i hpar
      simp only [Option.bind_eq_some_iff, Option.some.injEq, AOp.p.injEq] at hc
      obtain ⟨oxs, hoxs, rfl⟩ := hc
      have rxs := opds_rel hg he hoxs
      simp only [evP] at hv
      split at hv
      · rename_i hok
        cases hv
        obtain ⟨hok1, hok2⟩ := hok
        have hall : ∀ x ∈ oxs.map (Opd.ev env), okElem s x = true := fun x hx => List.all_eq_true.1 hok1 x hx
        obtain ⟨r1, r2, r3⟩ := flat_rel rxs hall
        obtain ⟨i, zv, hinf, hzv, _⟩ := zeroT_run hz
        have hlen : oxs.length = parts.toList.length := by have := rxs.length; simpa using this.symm
        have hn : parts.toList.length = n := by
          have := congrArg List.length hpar
          simpa using this
        have hzip : (parts.map fun x => (x.1, a.eval x.2)).toList = (List.range' 0 n).zip ((parts.toList.map (·.2)).map a.eval) := by
          rw [← List.range_eq_range', ← hpar]
          simp only [Array.toList_map]
          have : ∀ l : List (Nat × Operand), l.map (fun x => (x.1, a.eval x.2)) = (l.map (·.1)).zip ((l.map (·.2)).map a.eval) := by
            intro l; induction l with
            | nil => rfl
            | cons p l ih => simp [ih]
          exact this _
        have hcsz : ∀ c ∈ (parts.toList.map (·.2)).map a.eval, c.cells.size = s := by
          intro c hcm
          obtain ⟨j, hj⟩ := List.getElem?_of_mem hcm
          have hjlt : j < (oxs.map (Opd.ev env)).length := by rw [← rxs.length]; exact (List.getElem?_eq_some_iff.1 hj).1
          obtain ⟨y, hy, hr⟩ := rxs.get (List.getElem?_eq_getElem hjlt)
          rw [hj] at hy; cases hy
          have h1 := r3 _ (List.getElem_mem hjlt)
          have h2 := (Rel.cells hr).length
          rw [Array.length_toList] at h2
          rw [h2]; exact h1
        have hcvl : ((parts.toList.map (·.2)).map a.eval).length = n := by simp [hn]
        have hzsz : ∀ zs : Array Value, zs.size = n * s → Instr.fill (fun i => some (i * s, s)) zs (parts.map fun x => (x.1, a.eval x.2)).toList =
            some (((parts.toList.map (·.2)).map a.eval).flatMap fun c => c.cells.toList).toArray := by
          intro zs hzs
          rw [hzip]
          have := fill_all ((parts.toList.map (·.2)).map a.eval) 0 zs hcsz (by rw [hcvl]; simpa using hzs)
          rw [hcvl] at this
          simpa using this
        refine ⟨.slice (some ⟨w.heap.size, 0, none⟩) n n, { w with heap := w.heap.push (.cells (((parts.toList.map (·.2)).map a.eval).flatMap fun c => c.cells.toList).toArray e (0, 0)) },
          G.add w.heap.size (.imm (flat (oxs.map (Opd.ev env)))), ?_, ?_, ?_, ?_⟩
        · have hsmall : ¬ n * s > 2 ^ 24 := by
            have : (oxs.map (Opd.ev env)).length = n := by rw [List.length_map, hlen, hn]
            rw [this] at hok2; omega
          have hn' : parts.size = n := by simpa using hn
          simp only [execOp, ho, Instr.buildSlice, Sem.run_bind, run_underlying hu, Result.andThen_ok, run_size hs, hsmall, if_false, Sem.run_pure]
          by_cases h0 : n * s = 0
          · simp only [h0, if_true, Sem.run_bind, Sem.run_pure, Result.andThen_ok]
            rw [hzsz _ (by simp [h0])]
            simp only [newRow, Sem.run_bind, run_newObj, Result.andThen_ok, Sem.run_pure]
          · simp only [h0, if_false, Sem.run_bind, run_zero hinf hzv, Result.andThen_ok, Sem.run_pure]
            rw [hzsz _ (by simp)]
            simp only [newRow, Sem.run_bind, run_newObj, Result.andThen_ok, Sem.run_pure]
        · simp only [Rel]
          have hl' : (oxs.map (Opd.ev env)).length = n := by rw [List.length_map, hlen, hn]
          refine ⟨some ⟨w.heap.size, 0, none⟩, n, by rw [hl'], by rw [hl']; exact Nat.le_refl _, ⟨s, r3⟩, ⟨rfl, .inr ⟨_, Gh.add_self _ _ _, by simp⟩⟩, hl'.symm⟩
        · exact hi.new_imm _ _ _ _ _ [] (by simp) (.of r1 r2)
        · exact Ex.new hi _ _ (by intro m h; cases h)
      · cases hv
    · cases hc
  · cases hc

end
end Jet

/-
Soundness, part 8: the operations that neither read nor write, the rest.
-/
namespace Jet
open Go

section
variable {P : Program} {gl : Gl} {G : Gh} {σ : St} {w : World} {a : Act} {env : List AV} {o : Oper} {pop : POp} {v : AV}

theorem places_get : ∀ {fs : List Field} {ps : List (Nat × Nat)}, cPlaces P fs = some ps →
    (∀ w, (fs.mapM fun f => do pure (f.offset, ← Go.sizeOf f.type) : Sem (List (Nat × Nat))).run P w = .ok ps w)
  | [], ps, h => by cases h; intro w; simp
  | f :: fs, ps, h => by
    simp only [cPlaces, Option.bind_eq_bind, Option.bind_eq_some_iff, Option.some.injEq] at h
    obtain ⟨n, hn, r, hr, rfl⟩ := h
    intro w
    have ih := places_get hr w
    simp only [List.mapM_cons, Sem.run_bind, run_size hn, Result.andThen_ok, Sem.run_pure] at ih ⊢
    rw [ih]; rfl

theorem parts_sound {places : List (Nat × Nat)} : ∀ {parts : List (Nat × Operand)} {ps : List (Nat × Nat × Opd)}, cBuildParts gl places parts = some ps →
    ps.length = parts.length ∧ ∀ (i : Nat) (p : Nat × Operand) (q : Nat × Nat × Opd), parts[i]? = some p → ps[i]? = some q → places[p.1]? = some (q.1, q.2.1) ∧ cOpd gl p.2 = some q.2.2
  | [], ps, h => by cases h; exact ⟨rfl, by simp⟩
  | (j, x) :: parts, ps, h => by
    simp only [cBuildParts, Option.bind_eq_bind, Option.bind_eq_some_iff, Option.some.injEq] at h
    obtain ⟨pl, hpl, ox, hox, r, hr, rfl⟩ := h
    obtain ⟨h1, h2⟩ := parts_sound hr
    refine ⟨by simp [h1], fun i p q e1 e2 => ?_⟩
    cases i with
    | zero => simp at e1 e2; subst e1; subst e2; exact ⟨by simp [hpl], hox⟩
    | succ i => exact h2 i p q (by simpa using e1) (by simpa using e2)

theorem arr_sound {s : Nat} : ∀ {parts : List (Nat × Operand)} {ps : List (Nat × Nat × Opd)}, cArrParts gl s parts = some ps →
    ps.length = parts.length ∧ ∀ (i : Nat) (p : Nat × Operand) (q : Nat × Nat × Opd), parts[i]? = some p → ps[i]? = some q → (fun i => some (i * s, s)) p.1 = some (q.1, q.2.1) ∧ cOpd gl p.2 = some q.2.2
  | [], ps, h => by cases h; exact ⟨rfl, by simp⟩
  | (j, x) :: parts, ps, h => by
    simp only [cArrParts, Option.bind_eq_bind, Option.bind_eq_some_iff, Option.some.injEq] at h
    obtain ⟨ox, hox, r, hr, rfl⟩ := h
    obtain ⟨h1, h2⟩ := arr_sound hr
    refine ⟨by simp [h1], fun i p q e1 e2 => ?_⟩
    cases i with
    | zero => simp at e1 e2; subst e1; subst e2; exact ⟨rfl, hox⟩
    | succ i => exact h2 i p q (by simpa using e1) (by simpa using e2)

theorem p_build {t : TypeId} {parts : Array (Nat × Operand)} (hg : GlOk gl G) (he : RelL G env a.tmps.toList) (hi : Inv G σ w) (ho : o.op = .build t parts)
    (hc : cOp P gl o.op = some (.p pop)) (hv : evP env pop = some v) : Fine P G σ w a o v := by
  rw [ho] at hc
  simp only [cOp, Option.bind_eq_bind, Option.bind_eq_some_iff] at hc
  obtain ⟨z, hz, hc⟩ := hc
  obtain ⟨i, zv, hinf, hzv, hav⟩ := zeroT_run hz
  have hmap : (parts.map fun x => (x.1, a.eval x.2)).toList = parts.toList.map fun p => (p.1, a.eval p.2) := by simp
  split at hc
  · rename_i zc fs hu
    obtain ⟨zs, rfl, zr, zone⟩ := (toAV_rel hav G).agg_inv
    simp only [Option.bind_eq_some_iff, Option.some.injEq, AOp.p.injEq] at hc
    obtain ⟨places, hpl, ps, hps, rfl⟩ := hc
    simp only [evP, Option.map_eq_some_iff] at hv
    obtain ⟨cs', hf, rfl⟩ := hv
    obtain ⟨ys', h1, h2, h3⟩ := fill_sound (place := fun i => places[i]?) hg he parts.toList ps zc cs' zs (parts_sound hps) zr zone hf
    refine .here hi (cv := .agg ys') ?_ (by simp only [Rel]; exact ⟨ys', rfl, h2, h3⟩)
    have hm := places_get hpl w
    have hma : (fs.mapM fun f => do pure (f.offset, ← Go.sizeOf f.type) : Sem (Array (Nat × Nat))).run P w = .ok places.toArray w := by
      rw [Array.mapM_eq_mapM_toList, Sem.run_map, hm]; rfl
    have hpa : (fun (x : Nat) => places.toArray[x]?) = fun (i : Nat) => places[i]? := by funext x; simp
    simp only [execOp, ho, Instr.build, Sem.run_bind, run_zero hinf hzv, Result.andThen_ok, run_underlying hu, Sem.run_pure, hma, hmap, Value.cells, hpa, h1]
  · rename_i zc n e hu
    obtain ⟨zs, rfl, zr, zone⟩ := (toAV_rel hav G).agg_inv
    simp only [Option.bind_eq_some_iff, Option.some.injEq, AOp.p.injEq] at hc
    obtain ⟨s, hs, ps, hps, rfl⟩ := hc
    simp only [evP, Option.map_eq_some_iff] at hv
    obtain ⟨cs', hf, rfl⟩ := hv
    obtain ⟨ys', h1, h2, h3⟩ := fill_sound (place := fun i => some (i * s, s)) hg he parts.toList ps zc cs' zs (arr_sound hps) zr zone hf
    refine .here hi (cv := .agg ys') ?_ (by simp only [Rel]; exact ⟨ys', rfl, h2, h3⟩)
    simp only [execOp, ho, Instr.build, Sem.run_bind, run_zero hinf hzv, Result.andThen_ok, run_underlying hu, Sem.run_pure, run_size hs, hmap, Value.cells, h1]
  · cases hc

theorem p_mkI {t : TypeId} {x : Operand} (hg : GlOk gl G) (he : RelL G env a.tmps.toList) (hi : Inv G σ w) (ho : o.op = .makeInterface t x)
    (hc : cOp P gl o.op = some (.p pop)) (hv : evP env pop = some v) : Fine P G σ w a o v := by
  rw [ho] at hc
  simp only [cOp] at hc
  split at hc
  · cases hc
  · rename_i d hu hni
    simp only [Option.bind_eq_bind, Option.bind_eq_some_iff, Option.some.injEq, AOp.p.injEq] at hc
    obtain ⟨ox, hox, rfl⟩ := hc
    simp only [evP, Option.some.injEq] at hv
    subst hv
    refine .here hi (cv := .iface t (a.eval x)) ?_ (by simp only [Rel]; exact ⟨_, rfl, opd_rel hg he hox⟩)
    simp only [execOp, ho, Instr.makeInterface, Sem.run_bind, run_underlying hni, Result.andThen_ok]
    cases d <;> first | rfl | exact absurd rfl (hu _)
  · cases hc

theorem p_mkF {f : Fn} {xs ys : Array Operand} (hg : GlOk gl G) (he : RelL G env a.tmps.toList) (hi : Inv G σ w) (ho : o.op = .makeFunc f xs ys)
    (hc : cOp P gl o.op = some (.p pop)) (hv : evP env pop = some v) : Fine P G σ w a o v := by
  rw [ho] at hc
  simp only [cOp, Option.bind_eq_bind, Option.bind_eq_some_iff, Option.some.injEq, AOp.p.injEq, cOpds] at hc
  obtain ⟨oxs, hox, oys, hoy, rfl⟩ := hc
  simp only [evP, Option.some.injEq] at hv
  subst hv
  refine .here hi (cv := .func f (xs.map a.eval) (ys.map a.eval)) ?_ ?_
  · simp [execOp, ho, Instr.makeFunc]
  · simp only [Rel]
    exact ⟨_, _, rfl, by rw [Array.toList_map]; exact opds_rel hg he hox, by rw [Array.toList_map]; exact opds_rel hg he hoy⟩

theorem p_tass {t xt : TypeId} {x : Operand} {ok : Bool} (hg : GlOk gl G) (he : RelL G env a.tmps.toList) (hi : Inv G σ w) (ho : o.op = .typeAssert x xt t ok)
    (hc : cOp P gl o.op = some (.p pop)) (hv : evP env pop = some v) : Fine P G σ w a o v := by
  rw [ho] at hc
  simp only [cOp] at hc
  split at hc
  · cases hc
  · rename_i d hu hni
    simp only [Option.bind_eq_bind, Option.bind_eq_some_iff, Option.some.injEq, AOp.p.injEq] at hc
    obtain ⟨z, hz, ox, hox, rfl⟩ := hc
    have rx := opd_rel hg he hox
    obtain ⟨i, zv, hinf, hzv, hav⟩ := zeroT_run hz
    have rz := toAV_rel hav G
    simp only [evP] at hv
    have pair : ∀ (v1 : AV) (cv : Value) (b : Bool), Rel G v1 cv → Rel G (.tup [v1, .bool b]) (.tuple #[cv, .bool b]) := by
      intro v1 cv b h; simp only [Rel]; exact ⟨_, rfl, .cons h (.cons .of_bool .nil)⟩
    split at hv
    · rename_i t' v1 e
      rw [e] at rx
      simp only [Rel] at rx
      obtain ⟨y, hy, ry⟩ := rx
      have hrun : (execOp a.eval o).run P w = if t' = t then .ok (.value (if ok then .tuple #[y, .bool true] else y)) w else
          if ok then .ok (.value (.tuple #[zv, .bool false])) w else (execOp a.eval o).run P w := by
        by_cases ht : t' = t
        · simp only [execOp, ho, Instr.typeAssert, Sem.run_bind, run_underlying hni, Result.andThen_ok, hy, ht]
          cases d <;> first | (exact absurd rfl (hu _); done) | (cases ok <;> rfl)
        · rw [if_neg ht]
          cases ok with
          | false => rfl
          | true =>
            simp only [execOp, ho, Instr.typeAssert, Sem.run_bind, run_underlying hni, Result.andThen_ok, hy]
            cases d <;> first | (exact absurd rfl (hu _); done) | (simp [ht, run_zero hinf hzv])
      split at hv
      · rename_i ht
        rw [if_pos ht] at hrun
        cases hv
        cases ok
        · exact .here hi hrun ry
        · exact .here hi hrun (pair _ _ _ ry)
      · rename_i ht
        rw [if_neg ht] at hrun
        split at hv
        · rename_i hok
          subst hok
          cases hv
          exact .here hi hrun (pair _ _ _ rz)
        · cases hv
    · rename_i e
      rw [e] at rx
      simp only [Rel] at rx
      split at hv
      · rename_i hok
        subst hok
        cases hv
        refine .here hi (cv := .tuple #[zv, .bool false]) ?_ (pair _ _ _ rz)
        simp only [execOp, ho, Instr.typeAssert, Sem.run_bind, run_underlying hni, Result.andThen_ok, rx]
        cases d <;> first | (exact absurd rfl (hu _); done) | (simp [run_zero hinf hzv])
      · cases hv
    · cases hv
  · cases hc

theorem p_ext {x : Operand} {i : Nat} (hg : GlOk gl G) (he : RelL G env a.tmps.toList) (hi : Inv G σ w) (ho : o.op = .extract x i)
    (hc : cOp P gl o.op = some (.p pop)) (hv : evP env pop = some v) : Fine P G σ w a o v := by
  rw [ho] at hc
  simp only [cOp, Option.bind_eq_bind, Option.bind_eq_some_iff, Option.some.injEq, AOp.p.injEq] at hc
  obtain ⟨ox, hox, rfl⟩ := hc
  have rx := opd_rel hg he hox
  simp only [evP] at hv
  split at hv
  · rename_i vs e
    rw [e] at rx
    simp only [Rel] at rx
    obtain ⟨ys, hy, hr⟩ := rx
    obtain ⟨y, h1, h2⟩ := hr.get hv
    refine .here hi (cv := y) ?_ h2
    have h1' : ys[i]? = some y := by rw [← Array.getElem?_toList]; exact h1
    simp [execOp, ho, Instr.extract, hy, h1']
  · cases hv

end
end Jet

/-
Soundness, part 9: the operations that neither read nor write, the rest.
-/
namespace Jet
open Go

section
variable {P : Program} {gl : Gl} {G : Gh} {σ : St} {w : World} {a : Act} {env : List AV} {o : Oper} {pop : POp} {v : AV}

set_option maxHeartbeats 400000 in
theorem p_conv {t u : TypeId} {x : Operand} (hg : GlOk gl G) (he : RelL G env a.tmps.toList) (hi : Inv G σ w) (ho : o.op = .convert t u x)
    (hc : cOp P gl o.op = some (.p pop)) (hv : evP env pop = some v) : Fine P G σ w a o v := by
  rw [ho] at hc
  simp only [cOp] at hc
  split at hc
  · rename_i d k hs hd
    simp only [Option.bind_eq_bind, Option.bind_eq_some_iff, Option.some.injEq, AOp.p.injEq] at hc
    obtain ⟨ox, hox, rfl⟩ := hc
    have rx := opd_rel hg he hox
    simp only [evP] at hv
    split at hv
    · rename_i k' n e; rw [e] at rx; cases hv
      refine .here hi (cv := .int k (k.wrap n)) ?_ .of_int
      simp [execOp, ho, convert, run_underlying hs, run_underlying hd, rx.int_inv, Conv.intToInt]
    · cases hv
  · rename_i k hs hd
    simp only [Option.bind_eq_bind, Option.bind_eq_some_iff, Option.some.injEq, AOp.p.injEq] at hc
    obtain ⟨ox, hox, rfl⟩ := hc
    have rx := opd_rel hg he hox
    simp only [evP] at hv
    split at hv
    · rename_i k' n e; rw [e] at rx; cases hv
      refine .here hi (cv := .string (Utf8.encode n)) ?_ .of_str
      simp [execOp, ho, convert, run_underlying hs, run_underlying hd, rx.int_inv, Conv.intToString]
    · cases hv
  · rename_i hs hd
    simp only [Option.bind_eq_bind, Option.bind_eq_some_iff, Option.some.injEq, AOp.p.injEq] at hc
    obtain ⟨ox, hox, rfl⟩ := hc
    have rx := opd_rel hg he hox
    simp only [evP] at hv
    split at hv
    · rename_i l e; rw [e] at rx; cases hv
      obtain ⟨bs, hx, rfl⟩ := rx.str_inv
      refine .here hi (cv := .string bs) ?_ .of_str
      simp [execOp, ho, convert, run_underlying hs, run_underlying hd, hx]
    · cases hv
  · rename_i e hs hd
    split at hc
    · rename_i he8
      simp only [Option.bind_eq_bind, Option.bind_eq_some_iff, Option.some.injEq, AOp.p.injEq] at hc
      obtain ⟨ox, hox, rfl⟩ := hc
      have rx := opd_rel hg he hox
      simp only [evP] at hv
      split at hv
      · rename_i l e1; rw [e1] at rx; cases hv
        obtain ⟨bs, hx, rfl⟩ := rx.str_inv
        have hcap : ∀ t, ∃ m, Question.cut (.appendCap bs.size 0 e) t = bs.size + m := fun t => ⟨_, rfl⟩
        obtain ⟨m, hm⟩ := hcap (w.tape w.drawn (.appendCap bs.size 0 e))
        have hw1 : ({ w with drawn := w.drawn + 1 } : World).heap = w.heap := rfl
        have hi1 : Inv G σ { w with drawn := w.drawn + 1 } := hi.same_heap rfl
        let cells : Array Value := (bs.data.map fun b => .int .u8 b.toNat) ++ Array.replicate m (.int .u8 0)
        have hcl : cells.size = bs.size + m := by simp [cells]
        have fl : ∀ l : List UInt8, flat (l.map fun b => AV.int .u8 b.toNat) = l.map fun b => AV.int .u8 b.toNat := by
          intro l
          induction l with
          | nil => rfl
          | cons b l ih => rw [List.map_cons, flat_cons, ih]; rfl
        have hfz : ∀ n : Nat, (({ w with drawn := w.drawn + 1, heap := w.heap.push (.cells cells e (0, 0)) } : World).freeze ⟨w.heap.size, n, none⟩ 1) =
            { w with drawn := w.drawn + 1, heap := w.heap.push (.cells cells e (n, n + 1)) } := by
          intro n
          simp only [World.freeze]
          simp only [Nat.one_ne_zero, if_false]
          congr 1
          apply Array.ext_getElem?
          intro j
          simp only [Array.getElem?_modify, Array.getElem?_push]
          by_cases hj : j = w.heap.size
          · subst hj; simp
          · simp [hj]; intro h; exact absurd h.symm hj
        refine ⟨.slice (some ⟨w.heap.size, 0, none⟩) bs.size (bs.size + m), { w with drawn := w.drawn + 1, heap := w.heap.push (.cells cells e (cells.size, cells.size + 1)) },
          G.add w.heap.size (.imm (bs.data.toList.map fun b => AV.int .u8 b.toNat)), ?_, ?_, ?_, ?_⟩
        · simp only [execOp, ho, convert, Sem.run_bind, run_underlying hs, run_underlying hd, run_underlying he8, Result.andThen_ok, hx, Conv.stringToBytes, run_choose, Question.forced, Bool.false_eq_true, if_false, hm,
            newRow, run_newObj, Sem.run_pure, markStringish, run_shape]
          rw [show bs.size + m - bs.size = m by omega]
          have hsh : ({ w with heap := w.heap.push (.cells cells e (0, 0)), drawn := w.drawn + 1 } : World).shape? w.heap.size = some (e, cells.size) := by
            simp [World.shape?, heap_push_new]
          simp only [show (Array.map (fun b => Value.int IntKind.u8 (b.toNat : Int)) bs.data ++ Array.replicate m (Value.int IntKind.u8 0)) = cells from rfl, hsh, run_freeze, Result.andThen_ok, hfz]
        · simp only [Rel]
          refine ⟨some ⟨w.heap.size, 0, none⟩, bs.size + m, by simp, by simp, ⟨1, ?_⟩, ⟨rfl, .inr ⟨_, Gh.add_self _ _ _, ?_⟩⟩, trivial⟩
          · intro x hx'; simp at hx'; obtain ⟨b, _, rfl⟩ := hx'; rfl
          · rw [fl]; simp
        · refine hi1.new_imm cells e _ _ (bs.data.toList.map fun b => .int .u8 b.toNat) (List.replicate m (.int .u8 0)) (by simp [cells]) (.of (RelL.map_exists _ _ _ fun b _ => .of_int) ?_)
          intro x hx'; simp at hx'; obtain ⟨b, _, rfl⟩ := hx'; rfl
        · exact (Ex.same (G := G) (w := w) (w' := { w with drawn := w.drawn + 1 }) rfl rfl rfl rfl).trans (Ex.new hi1 (.cells cells e (cells.size, cells.size + 1)) _ (by intro m h; cases h))
      · cases hv
    · cases hc
  · split at hc
    · simp only [Option.bind_eq_bind, Option.bind_eq_some_iff] at hc
      obtain ⟨_, _, h⟩ := hc
      cases h
    · cases hc
  · cases hc

end
end Jet

/-
Soundness, part 10: slices, lengths, the least and the greatest.
-/
namespace Jet
open Go

section
variable {P : Program} {gl : Gl} {G : Gh} {σ : St} {w : World} {a : Act} {env : List AV} {o : Oper} {pop : POp} {v : AV}

theorem opt_rel {x : Option Operand} {ox : Option Opd} (h : cOpt gl x = some ox) : (x = none ∧ ox = none) ∨ ∃ y oy, x = some y ∧ ox = some oy ∧ cOpd gl y = some oy := by
  cases x with
  | none => cases h; exact .inl ⟨rfl, rfl⟩
  | some y =>
    simp only [cOpt, Option.map_eq_some_iff] at h
    obtain ⟨oy, h1, rfl⟩ := h
    exact .inr ⟨y, oy, rfl, rfl, h1⟩

theorem bound_run {y : Operand} {oy : Opd} {m n : Nat} {d : Nat} (hg : GlOk gl G) (he : RelL G env a.tmps.toList) (hy : cOpd gl y = some oy)
    (h : bnd env (some oy) d m = some n) (c : BoundsCode) : (Instr.sliceBound (a.eval y) m c).run P w = .ok n w ∧ n ≤ m := by
  have ry := opd_rel hg he hy
  simp only [bnd] at h
  split at h
  · rename_i k i e
    rw [e] at ry
    split at h
    · rename_i hb
      cases h
      refine ⟨?_, by omega⟩
      simp [Instr.sliceBound, ry.int_inv, asIntOf, hb.1, hb.2]
    · cases h
  · cases h

/-- The three bounds. -/
theorem bounds_run {lo hi' mx : Option Operand} {ol oh om : Option Opd} {len cap l h m : Nat} {isSlice : Bool} (hg : GlOk gl G) (he : RelL G env a.tmps.toList)
    (h1 : cOpt gl lo = some ol) (h2 : cOpt gl hi' = some oh) (h3 : cOpt gl mx = some om) (hmx : mx.isSome = true → hi'.isSome = true)
    (bm : (bnd env om cap cap = some m)) (bh : bnd env oh len m = some h) (bl : bnd env ol 0 h = some l) :
    (Instr.sliceBounds isSlice len cap (lo.map a.eval) (hi'.map a.eval) (mx.map a.eval)).run P w = .ok (l, h, m) w ∧ l ≤ h ∧ h ≤ m ∧ m ≤ cap ∧ (mx = none → m = cap) := by
  have em : (match mx.map a.eval with
      | some v => Instr.sliceBound v cap (if isSlice then .slice3Acap else .slice3Alen)
      | none => pure cap).run P w = .ok m w ∧ m ≤ cap ∧ (mx = none → m = cap) := by
    rcases opt_rel h3 with ⟨rfl, rfl⟩ | ⟨y, oy, rfl, rfl, hy⟩
    · simp only [bnd, Nat.le_refl, if_true, Option.some.injEq] at bm
      subst bm
      exact ⟨rfl, Nat.le_refl _, fun _ => rfl⟩
    · obtain ⟨r1, r2⟩ := bound_run (P := P) (w := w) hg he hy bm (if isSlice then .slice3Acap else .slice3Alen)
      exact ⟨r1, r2, by simp⟩
  have eh : (match hi'.map a.eval, mx.map a.eval with
      | some v, some _ => Instr.sliceBound v m .slice3B
      | some v, none => Instr.sliceBound v m (if isSlice then .sliceAcap else .sliceAlen)
      | none, none => pure len
      | none, some _ => stuck "Slice: max without high").run P w = .ok h w ∧ h ≤ m := by
    rcases opt_rel h2 with ⟨rfl, rfl⟩ | ⟨y, oy, rfl, rfl, hy⟩
    · have : mx = none := by cases mx with | none => rfl | some _ => simp at hmx
      subst this
      simp only [bnd] at bh
      split at bh
      · rename_i hb; cases bh; exact ⟨rfl, hb⟩
      · cases bh
    · cases mx with
      | none => exact bound_run (P := P) (w := w) hg he hy bh _
      | some z => exact bound_run (P := P) (w := w) hg he hy bh _
  have el : (match lo.map a.eval with
      | some v => Instr.sliceBound v h (if (mx.map a.eval).isSome then .slice3C else .sliceB)
      | none => pure 0).run P w = .ok l w ∧ l ≤ h := by
    rcases opt_rel h1 with ⟨rfl, rfl⟩ | ⟨y, oy, rfl, rfl, hy⟩
    · simp only [bnd, Nat.zero_le, if_true, Option.some.injEq] at bl
      subst bl
      exact ⟨rfl, Nat.zero_le _⟩
    · exact bound_run (P := P) (w := w) hg he hy bl _
  refine ⟨?_, el.2, eh.2, em.2.1, em.2.2⟩
  have em1 := em.1
  have eh1 := eh.1
  have el1 := el.1
  clear em eh el bm bh bl h1 h2 h3
  unfold Instr.sliceBounds
  rcases mx with _ | mx <;> rcases hi' with _ | hi' <;> rcases lo with _ | lo
  all_goals simp only [Option.map_none, Option.map_some, Option.isSome_none, Option.isSome_some, Sem.run_pure, Result.ok.injEq, and_true, Bool.false_eq_true, if_false, if_true, forall_const, reduceCtorEq] at em1 eh1 el1 hmx ⊢
  all_goals first
    | (subst em1; subst eh1; subst el1; simp only [Sem.run_bind, Sem.run_pure, Result.andThen_ok]; done)
    | (subst em1; subst eh1; simp only [Sem.run_bind, Sem.run_pure, Result.andThen_ok, el1]; done)
    | (subst em1; subst el1; simp only [Sem.run_bind, Sem.run_pure, Result.andThen_ok, eh1]; done)
    | (subst em1; simp only [Sem.run_bind, Sem.run_pure, Result.andThen_ok, eh1, el1]; done)
    | (subst el1; simp only [Sem.run_bind, Sem.run_pure, Result.andThen_ok, em1, eh1]; done)
    | (simp only [Sem.run_bind, Sem.run_pure, Result.andThen_ok, em1, eh1, el1]; done)

theorem flat_take_prefix (xs : List AV) (n : Nat) : flat (xs.take n) <+: flat xs := by
  have := flat_append (xs.take n) (xs.drop n)
  rw [List.take_append_drop] at this
  rw [this]; exact List.prefix_append _ _

theorem mx_hi {hi' mx : Option Operand} (h : ¬ (mx.isSome && hi'.isNone) = true) : mx.isSome = true → hi'.isSome = true := by
  cases mx <;> cases hi' <;> simp_all

theorem TokOk.no {p : Perm} {xs : List AV} {ad : Option Addr} {cap : Nat} : TokOk G .no xs ad cap := trivial

theorem p_slice {t : TypeId} {x : Operand} {lo hi' mx : Option Operand} (hg : GlOk gl G) (he : RelL G env a.tmps.toList) (hi : Inv G σ w) (ho : o.op = .slice t x lo hi' mx)
    (hc : cOp P gl o.op = some (.p pop)) (hv : evP env pop = some v) : Fine P G σ w a o v := by
  rw [ho] at hc
  simp only [cOp] at hc
  split at hc
  · rename_i hu
    split at hc
    · cases hc
    · rename_i hmx
      have hmn : mx = none := by cases mx with | none => rfl | some _ => simp at hmx
      subst hmn
      simp only [Option.bind_eq_bind, Option.bind_eq_some_iff, Option.some.injEq, AOp.p.injEq] at hc
      obtain ⟨ox, hox, ol, hol, oh, hoh, rfl⟩ := hc
      have rx := opd_rel hg he hox
      simp only [evP] at hv
      split at hv
      · rename_i l e
        rw [e] at rx
        obtain ⟨bs, hx, rfl⟩ := rx.str_inv
        simp only [Option.bind_eq_some_iff, Option.some.injEq] at hv
        obtain ⟨h, bh, l, bl, rfl⟩ := hv
        have hsz : bs.data.toList.length = bs.size := rfl
        rw [hsz] at bh
        obtain ⟨r, h1, h2, h3, _⟩ := bounds_run (P := P) (w := w) (isSlice := false) (mx := none) (om := none) (cap := bs.size) hg he hol hoh rfl (by simp) (by simp [bnd]) bh bl
        refine .here hi (cv := .string (bs.extract l h)) ?_ ?_
        · simp only [execOp, ho, Instr.sliceAt, Instr.slice, Sem.run_bind, run_underlying hu, Result.andThen_ok, hx, Option.map_none, Option.isSome_none, Bool.false_eq_true, if_false]
          simp only [Option.map_none] at r
          simp only [Sem.run_bind, r, Result.andThen_ok, Sem.run_pure]
        · simp only [Rel]
          refine ⟨_, rfl, ?_⟩
          rw [Lib.extract_data, List.drop_take]
      · cases hv
  · rename_i e hu
    simp only [Option.bind_eq_bind, Option.bind_eq_some_iff] at hc
    obtain ⟨s, hs, hc⟩ := hc
    split at hc
    · cases hc
    rename_i hmh
    simp only [Option.bind_eq_some_iff, Option.some.injEq, AOp.p.injEq] at hc
    obtain ⟨ox, hox, ol, hol, oh, hoh, om, hom, rfl⟩ := hc
    have hmh' := mx_hi (hi' := hi') (mx := mx) hmh
    have rx := opd_rel hg he hox
    have run : ∀ ad len cap l h m, a.eval x = .slice ad len cap →
        (Instr.sliceBounds true len cap (lo.map a.eval) (hi'.map a.eval) (mx.map a.eval)).run P w = .ok (l, h, m) w →
        (execOp a.eval o).run P w = .ok (.value (.slice (if m = l then ad else ad.map (·.add (l * s))) (h - l) (m - l))) w := by
      intro ad len cap l h m hx hb
      simp only [execOp, ho, Instr.sliceAt, Instr.slice, Sem.run_bind, run_underlying hu, Result.andThen_ok, hx, hb, run_size hs, Sem.run_pure]
    simp only [evP] at hv
    split at hv
    · rename_i p xs e1
      rw [e1] at rx
      simp only [Rel] at rx
      obtain ⟨ad, cap, hx, hlc, ⟨s', hs'⟩, hb, htk⟩ := rx
      simp only [Option.bind_eq_some_iff] at hv
      obtain ⟨m, bm, h, bh, l, bl, hv⟩ := hv
      split at hv
      · rename_i hfirst
        simp only [Option.some.injEq] at hv
        -- the bounds, against the capacity that is there
        have hbm : ∃ m', bnd env om cap cap = some m' ∧ (om = none → m' = cap) ∧ (om ≠ none → m' = m) ∧ m ≤ m' := by
          cases om with
          | none =>
            simp only [bnd, Nat.le_refl, if_true, Option.some.injEq] at bm ⊢
            exact ⟨cap, rfl, by simp, by simp, by omega⟩
          | some z =>
            simp only [bnd] at bm ⊢
            split at bm
            · rename_i k i ei
              split at bm
              · rename_i hb1; cases bm; refine ⟨i.toNat, ?_, by simp, by simp, Nat.le_refl _⟩; rw [if_pos ⟨hb1.1, by omega⟩]
              · cases bm
            · cases bm
        obtain ⟨m', bm', hmn, hms, hmm⟩ := hbm
        have hbh : bnd env oh xs.length m' = some h := by
          cases oh with
          | none =>
            simp only [bnd] at bh ⊢
            split at bh
            · rename_i hb1; cases bh; rw [if_pos (by omega)]
            · cases bh
          | some z =>
            simp only [bnd] at bh ⊢
            split at bh
            · rename_i k i ei
              split at bh
              · rename_i hb1; cases bh; rw [if_pos ⟨hb1.1, by omega⟩]
              · cases bh
            · cases bh
        have hhm : h ≤ m := by
          cases oh with
          | none =>
            simp only [bnd] at bh
            split at bh
            · rename_i hb1; cases bh; exact hb1
            · cases bh
          | some z =>
            simp only [bnd] at bh
            split at bh
            · rename_i k i ei
              split at bh
              · rename_i hb1; cases bh; omega
              · cases bh
            · cases bh
        have hml : m ≤ xs.length := by
          cases om with
          | none => simp [bnd] at bm; omega
          | some z =>
            simp only [bnd] at bm
            split at bm
            · split at bm
              · rename_i hb1; cases bm; omega
              · cases bm
            · cases bm
        obtain ⟨r, h1, h2, h3, _⟩ := bounds_run (P := P) (w := w) (isSlice := true) hg he hol hoh hom hmh' bm' hbh bl
        have hrun := run ad xs.length cap l h m' hx r
        -- the elements
        have hl0 : l = 0 ∨ l * s' = l * s := by
          rcases hfirst with h0 | hf
          · exact .inl h0
          · by_cases hl : l = 0
            · exact .inl hl
            · right
              cases xs with
              | nil => simp at hml; omega
              | cons y ys => simp [firstOk] at hf; rw [← hf, hs' y (by simp)]
        have hls : l * s' = l * s := by rcases hl0 with h0 | h0; · simp [h0]
                                        · exact h0
        have hxs : ∀ z ∈ (xs.take h).drop l, z.cells.length = s' := fun z hz => hs' z (List.mem_of_mem_take (List.mem_of_mem_drop hz))
        have hlen : ((xs.take h).drop l).length = h - l := by simp; omega
        refine .here hi hrun ?_
        rw [← hv]
        simp only [Rel]
        refine ⟨_, _, by rw [hlen], by rw [hlen]; omega, ⟨s', hxs⟩, ?_, ?_⟩
        · -- where it begins
          cases ad with
          | none =>
            have hx0 : xs = [] := hb.1
            have hc0 : cap = 0 := hb.2
            subst hx0
            have : (if m' = l then (none : Option Addr) else Option.map (fun (x : Addr) => x.add (l * s)) none) = none := by split <;> rfl
            rw [this]
            exact ⟨by simp, by omega⟩
          | some ad =>
            obtain ⟨hsp, hb⟩ := hb
            have hadd : ∀ n, ad.add n = ⟨ad.block, ad.off + n, none⟩ := by
              intro n; obtain ⟨b, oo, sp⟩ := ad; simp only at hsp; subst hsp; exact addr_add b oo n
            by_cases hem : (xs.take h).drop l = []
            · rw [hem]
              split
              · exact ⟨hsp, .inl rfl⟩
              · simp only [Option.map_some, hadd]; exact ⟨rfl, .inl rfl⟩
            · have hlt : l < h := by
                rcases Nat.lt_or_ge l h with h' | h'
                · exact h'
                · exact absurd (List.drop_eq_nil_of_le (by simp; omega)) hem
              rw [if_neg (by omega)]
              simp only [Option.map_some, hadd]
              refine ⟨rfl, .inr ?_⟩
              rcases hb with rfl | ⟨full, hbk, hp⟩
              · simp at hem
              refine ⟨full, hbk, ?_⟩
              show flat ((xs.take h).drop l) <+: full.drop (ad.off + l * s)
              rw [← hls, ← List.drop_drop]
              have h5 : flat ((xs.take h).drop l) = (flat (xs.take h)).drop (l * s') := (flat_drop l (fun z hz => hs' z (List.mem_of_mem_take hz)) (by simp; omega)).symm
              rw [h5]
              exact prefix_drop ((flat_take_prefix xs h).trans hp) _
        · -- what may be appended
          cases om with
          | some z =>
            have := hms (by simp)
            subst this
            simp only []
            split
            · rename_i hmh2; show m' - l = _; rw [hlen, hmh2]
            · trivial
          | none =>
            have := hmn rfl
            subst this
            simp only []
            cases p with
            | no => trivial
            | full =>
              simp only []
              have hcx : m' = xs.length := htk
              split
              · rename_i hh; show m' - l = _; rw [hlen]; omega
              · trivial
            | tok t =>
              simp only []
              split
              · rename_i hl
                subst hl
                obtain ⟨k, hk1, hk2, hk3, hk4⟩ := htk
                refine ⟨k, hk1, fun z hz => hk2 z (by simp at hz; exact List.mem_of_mem_take hz), by simp; omega, fun hkn => ?_⟩
                have : xs.length = k.n := by simp at hkn; omega
                obtain ⟨ha, hcp⟩ := hk4 this
                subst ha
                refine ⟨?_, by omega⟩
                split
                · rfl
                · simp [addr_add]
              · trivial
      · cases hv
    · rename_i s' b oo len cap e1
      rw [e1] at rx
      simp only [Rel] at rx
      obtain ⟨bk, hx, hblk⟩ := rx
      simp only [Option.bind_eq_some_iff] at hv
      obtain ⟨m, bm, h, bh, l, bl, hv⟩ := hv
      split at hv
      · rename_i hss
        subst hss
        simp only [Option.some.injEq] at hv
        obtain ⟨r, h1, h2, h3, _⟩ := bounds_run (P := P) (w := w) (isSlice := true) hg he hol hoh hom hmh' bm bh bl
        refine .here hi (run _ _ _ l h m hx r) ?_
        rw [← hv]
        simp only [Rel]
        refine ⟨bk, ?_, hblk⟩
        split
        · rfl
        · simp [addr_add]
      · cases hv
    · cases hv
  · rename_i n e hu
    simp only [Option.bind_eq_bind, Option.bind_eq_some_iff] at hc
    obtain ⟨s, hs, hc⟩ := hc
    split at hc
    · cases hc
    rename_i hmh
    simp only [Option.bind_eq_some_iff, Option.some.injEq, AOp.p.injEq] at hc
    obtain ⟨ox, hox, ol, hol, oh, hoh, om, hom, rfl⟩ := hc
    have hmh' := mx_hi (hi' := hi') (mx := mx) hmh
    have rx := opd_rel hg he hox
    simp only [evP] at hv
    split at hv
    · rename_i b oo e1
      rw [e1] at rx
      simp only [Rel] at rx
      obtain ⟨bk, hx, hblk⟩ := rx
      simp only [Option.bind_eq_some_iff, Option.some.injEq] at hv
      obtain ⟨m, bm, h, bh, l, bl, hv⟩ := hv
      obtain ⟨r, h1, h2, h3, _⟩ := bounds_run (P := P) (w := w) (isSlice := false) hg he hol hoh hom hmh' bm bh bl
      refine .here hi (cv := .slice (some (if m = l then ⟨bk, oo, none⟩ else (⟨bk, oo, none⟩ : Addr).add (l * s))) (h - l) (m - l)) ?_ ?_
      · simp only [execOp, ho, Instr.sliceAt, Sem.run_bind, run_underlying hu, Result.andThen_ok, hx, Instr.sureAddr, r, run_size hs, Sem.run_pure]
      · rw [← hv]
        simp only [Rel]
        refine ⟨bk, ?_, hblk⟩
        split
        · rfl
        · simp [addr_add]
    · cases hv
  · cases hc

end
end Jet

/-
Soundness, part 11: builtins that neither read nor write; all operations of that kind.
-/
namespace Jet
open Go

section
variable {P : Program} {gl : Gl} {G : Gh} {σ : St} {w : World} {a : Act} {env : List AV} {o : Oper} {pop : POp} {v : AV}

theorem run_builtin {c : Call} {b : Builtin} (ho : o.op = .call c) (hcb : c.callee = .builtin b) {r : Result Next}
    (h : (builtin b c.argTypes o.type (c.args.map fun | .const _ => true | _ => false) (c.args.map a.eval)).run P w = r) :
    (execOp a.eval o).run P w = r := by
  simp only [execOp, ho, resolve, hcb, Sem.run_bind, Sem.run_pure, Result.andThen_ok, invoke]
  exact h

theorem arr1 {α : Type} {x : Array α} {y : α} (h : x.toList = [y]) : x = #[y] := by
  cases x; simp_all
theorem arr2 {α : Type} {x : Array α} {y z : α} (h : x.toList = [y, z]) : x = #[y, z] := by
  cases x; simp_all

theorem mnmx2_run {mx : Bool} {x y z : AV} {u v' : Value} (h : mnmx2 mx x y = some z) (hx : Rel G x u) (hy : Rel G y v') :
    ∃ cv, ((if mx then Builtin.max2 u v' else Builtin.min2 u v').run P w = .ok cv w) ∧ Rel G z cv := by
  unfold mnmx2 at h
  split at h
  · rename_i k x k' y
    split at h
    · rename_i hk; subst hk
      simp only [Option.some.injEq] at h
      rw [← h]
      rw [hx.int_inv, hy.int_inv]
      cases mx
      · exact ⟨_, by simp only [Bool.false_eq_true, if_false, Builtin.min2]; rfl, .of_int⟩
      · exact ⟨_, by simp only [if_true, Builtin.max2]; rfl, .of_int⟩
    · cases h
  · cases h

theorem mnmxL_run {mx : Bool} : ∀ {ys : List AV} {vs : List Value} {x z : AV} {u : Value}, mnmxL mx x ys = some z → Rel G x u → RelL G ys vs →
    ∃ cv, ((vs.foldlM (if mx then Builtin.max2 else Builtin.min2) u).run P w = .ok cv w) ∧ Rel G z cv
  | [], vs, x, z, u, h, hx, hy => by
    rw [hy.nil_left]
    simp only [mnmxL, Option.some.injEq] at h
    rw [← h]
    exact ⟨u, rfl, hx⟩
  | y :: ys, vs, x, z, u, h, hx, hy => by
    simp only [RelL] at hy
    obtain ⟨v', vs', rfl, h1, h2⟩ := hy
    simp only [mnmxL, Option.bind_eq_some_iff] at h
    obtain ⟨z1, hz1, h⟩ := h
    obtain ⟨cv, e1, r1⟩ := mnmx2_run (P := P) (w := w) hz1 hx h1
    obtain ⟨cv2, e2, r2⟩ := mnmxL_run h r1 h2
    refine ⟨cv2, ?_, r2⟩
    simp only [List.foldlM_cons, Sem.run_bind]
    cases mx
    · simp only [Bool.false_eq_true, if_false] at e1 e2 ⊢; rw [e1]; exact e2
    · simp only [if_true] at e1 e2 ⊢; rw [e1]; exact e2

theorem p_call {c : Call} (hg : GlOk gl G) (he : RelL G env a.tmps.toList) (hi : Inv G σ w) (ho : o.op = .call c)
    (hc : cOp P gl o.op = some (.p pop)) (hv : evP env pop = some v) : Fine P G σ w a o v := by
  rw [ho] at hc
  simp only [cOp] at hc
  split at hc
  · simp only [Option.bind_eq_bind, Option.bind_eq_some_iff, Option.some.injEq] at hc
    obtain ⟨_, _, _, _, h⟩ := hc; cases h
  · cases hc
  · rename_i b hcb
    split at hc
    · -- len
      rename_i x t hargs htys
      have ha := arr1 hargs
      have ht := arr1 htys
      have lenrun : ∀ cv, (Builtin.len_ #[t] o.type #[a.eval x]).run P w = .ok cv w → (execOp a.eval o).run P w = .ok (.value cv) w := by
        intro cv h
        refine run_builtin ho hcb ?_
        rw [ha, ht]
        simp only [builtin, Sem.run_bind]
        simp only [List.map_toArray, List.map_cons, List.map_nil, h, Result.andThen_ok, Sem.run_pure]
      split at hc
      · rename_i hu
        simp only [Option.bind_eq_bind, Option.bind_eq_some_iff, Option.some.injEq, AOp.p.injEq] at hc
        obtain ⟨ox, hox, rfl⟩ := hc
        have rx := opd_rel hg he hox
        simp only [evP] at hv
        split at hv
        · rename_i l e; rw [e] at rx; cases hv
          obtain ⟨bs, hx, rfl⟩ := rx.str_inv
          exact .here hi (lenrun (.int .i64 bs.size) (by simp [Builtin.len_, run_underlying hu, hx, goInt])) .of_int
        · cases hv
      · rename_i e' hu
        simp only [Option.bind_eq_bind, Option.bind_eq_some_iff, Option.some.injEq, AOp.p.injEq] at hc
        obtain ⟨ox, hox, rfl⟩ := hc
        have rx := opd_rel hg he hox
        simp only [evP] at hv
        split at hv
        · rename_i p xs e; rw [e] at rx; cases hv
          simp only [Rel] at rx
          obtain ⟨ad, cap, hx, _⟩ := rx
          exact .here hi (lenrun (.int .i64 xs.length) (by simp [Builtin.len_, run_underlying hu, hx, goInt])) .of_int
        · rename_i s m oo n cap e; rw [e] at rx; cases hv
          simp only [Rel] at rx
          obtain ⟨b, hx, _⟩ := rx
          exact .here hi (lenrun (.int .i64 n) (by simp [Builtin.len_, run_underlying hu, hx, goInt])) .of_int
        · cases hv
      · simp only [Option.bind_eq_bind, Option.bind_eq_some_iff, Option.some.injEq] at hc
        obtain ⟨_, _, h⟩ := hc; cases h
      · cases hc
    · -- cap
      rename_i x t hargs htys
      have ha := arr1 hargs
      have ht := arr1 htys
      have caprun : ∀ cv, (Builtin.cap_ #[t] o.type #[a.eval x]).run P w = .ok cv w → (execOp a.eval o).run P w = .ok (.value cv) w := by
        intro cv h
        refine run_builtin ho hcb ?_
        rw [ha, ht]
        simp only [builtin, Sem.run_bind]
        simp only [List.map_toArray, List.map_cons, List.map_nil, h, Result.andThen_ok, Sem.run_pure]
      split at hc
      · rename_i e' hu
        simp only [Option.bind_eq_bind, Option.bind_eq_some_iff, Option.some.injEq, AOp.p.injEq] at hc
        obtain ⟨ox, hox, rfl⟩ := hc
        have rx := opd_rel hg he hox
        simp only [evP] at hv
        split at hv
        · rename_i xs e; rw [e] at rx; cases hv
          simp only [Rel] at rx
          obtain ⟨ad, cap, hx, _, _, _, hcp⟩ := rx
          have hcp' : cap = xs.length := hcp
          exact .here hi (caprun (.int .i64 xs.length) (by simp [Builtin.cap_, run_underlying hu, hx, goInt, hcp'])) .of_int
        · rename_i s m oo n cap e; rw [e] at rx; cases hv
          simp only [Rel] at rx
          obtain ⟨b, hx, _⟩ := rx
          exact .here hi (caprun (.int .i64 cap) (by simp [Builtin.cap_, run_underlying hu, hx, goInt])) .of_int
        · cases hv
      · cases hc
    · -- append
      split at hc
      · simp only [Option.bind_eq_bind, Option.bind_eq_some_iff] at hc
        obtain ⟨_, _, _, _, hc⟩ := hc
        split at hc
        · simp only [Option.bind_eq_some_iff, Option.some.injEq] at hc
          obtain ⟨_, _, _, _, h⟩ := hc; cases h
        · cases hc
      · cases hc
    · -- max
      simp only [Option.bind_eq_bind, Option.bind_eq_some_iff, Option.some.injEq, AOp.p.injEq] at hc
      obtain ⟨oxs, hox, rfl⟩ := hc
      have rxs := opds_rel hg he hox
      simp only [evP] at hv
      split at hv
      · rename_i x r e
        rw [e] at rxs
        simp only [RelL] at rxs
        obtain ⟨y, ys, e2, h1, h2⟩ := rxs
        obtain ⟨cv, e3, r3⟩ := mnmxL_run (P := P) (w := w) hv h1 h2
        refine .here hi (cv := cv) (run_builtin ho hcb ?_) r3
        have e4 : (c.args.map a.eval).toList = y :: ys := by rw [Array.toList_map]; exact e2
        simp only [if_true] at e3
        simp only [builtin, Builtin.max_, e4, Sem.run_bind, e3, Result.andThen_ok, Sem.run_pure]
      · cases hv
    · -- min
      simp only [Option.bind_eq_bind, Option.bind_eq_some_iff, Option.some.injEq, AOp.p.injEq] at hc
      obtain ⟨oxs, hox, rfl⟩ := hc
      have rxs := opds_rel hg he hox
      simp only [evP] at hv
      split at hv
      · rename_i x r e
        rw [e] at rxs
        simp only [RelL] at rxs
        obtain ⟨y, ys, e2, h1, h2⟩ := rxs
        obtain ⟨cv, e3, r3⟩ := mnmxL_run (P := P) (w := w) hv h1 h2
        refine .here hi (cv := cv) (run_builtin ho hcb ?_) r3
        have e4 : (c.args.map a.eval).toList = y :: ys := by rw [Array.toList_map]; exact e2
        simp only [Bool.false_eq_true, if_false] at e3
        simp only [builtin, Builtin.min_, e4, Sem.run_bind, e3, Result.andThen_ok, Sem.run_pure]
      · cases hv
    · cases hc
    · cases hc

/-- All of them. -/
theorem pop_sound (hg : GlOk gl G) (he : RelL G env a.tmps.toList) (hi : Inv G σ w)
    (hc : cOp P gl o.op = some (.p pop)) (hv : evP env pop = some v) : Fine P G σ w a o v := by
  cases ho : o.op with
  | move x => exact p_move hg he hi (.inl ho) hc hv
  | assign x => exact p_move hg he hi (.inr ho) hc hv
  | pick c x y => exact p_pick hg he hi ho hc hv
  | build t ps => exact p_build hg he hi ho hc hv
  | buildSlice t n ps => exact p_bslice hg he hi ho hc hv
  | nilCheck x => exact p_nilchk hg he hi ho hc hv
  | binOp op t x y t' => exact p_bin hg he hi ho hc hv
  | unOp op t x => exact p_un hg he hi ho hc hv
  | convert t u x => exact p_conv hg he hi ho hc hv
  | makeInterface t x => exact p_mkI hg he hi ho hc hv
  | makeFunc f xs ys => exact p_mkF hg he hi ho hc hv
  | slice t x lo h mx => exact p_slice hg he hi ho hc hv
  | fieldAddr t x f => exact p_faddr hg he hi ho hc hv
  | field t x f => exact p_field hg he hi ho hc hv
  | indexAddr t x i => exact p_iaddr hg he hi ho hc hv
  | index t x i => exact p_index hg he hi ho hc hv
  | typeAssert x t u ok => exact p_tass hg he hi ho hc hv
  | extract x i => exact p_ext hg he hi ho hc hv
  | call c => exact p_call hg he hi ho hc hv
  | alloc t =>
    rw [ho] at hc
    simp only [cOp, Option.bind_eq_bind, Option.bind_eq_some_iff] at hc
    obtain ⟨z, _, hc⟩ := hc
    split at hc <;> cases hc
  | box t x =>
    rw [ho] at hc
    simp only [cOp, Option.bind_eq_bind, Option.bind_eq_some_iff, Option.some.injEq] at hc
    obtain ⟨_, _, h⟩ := hc; cases h
  | insert t m k x =>
    rw [ho] at hc
    simp only [cOp] at hc
    split at hc
    · simp only [Option.bind_eq_bind, Option.bind_eq_some_iff, Option.some.injEq] at hc
      obtain ⟨_, _, _, _, _, _, _, _, h⟩ := hc; cases h
    · cases hc
  | mapUpdate t m k x =>
    rw [ho] at hc
    simp only [cOp] at hc
    split at hc
    · simp only [Option.bind_eq_bind, Option.bind_eq_some_iff, Option.some.injEq] at hc
      obtain ⟨_, _, _, _, _, _, _, _, h⟩ := hc; cases h
    · cases hc
  | load t x =>
    rw [ho] at hc
    simp only [cOp, Option.bind_eq_bind, Option.bind_eq_some_iff, Option.some.injEq, Prod.exists] at hc
    obtain ⟨_, _, _, _, _, h⟩ := hc; cases h
  | store t x y =>
    rw [ho] at hc
    simp only [cOp, Option.bind_eq_bind, Option.bind_eq_some_iff, Option.some.injEq] at hc
    obtain ⟨_, _, _, _, _, _, h⟩ := hc; cases h
  | makeMap t r =>
    rw [ho] at hc
    cases r <;> simp [cOp] at hc
  | makeSlice t l c =>
    rw [ho] at hc
    simp only [cOp] at hc
    split at hc
    · simp only [Option.bind_eq_bind, Option.bind_eq_some_iff, Option.some.injEq] at hc
      obtain ⟨_, _, _, _, _, _, _, _, h⟩ := hc; cases h
    · cases hc
  | lookup t m k ok =>
    rw [ho] at hc
    simp only [cOp] at hc
    split at hc
    · simp only [Option.bind_eq_bind, Option.bind_eq_some_iff, Option.some.injEq] at hc
      obtain ⟨_, _, _, _, _, _, _, _, h⟩ := hc; cases h
    · cases hc
  | range t x =>
    rw [ho] at hc
    simp only [cOp] at hc
    split at hc
    · simp only [Option.bind_eq_bind, Option.bind_eq_some_iff, Option.some.injEq] at hc
      obtain ⟨_, _, h⟩ := hc; cases h
    · cases hc
  | next it s =>
    rw [ho] at hc
    cases s
    · simp [cOp] at hc
    · simp only [cOp, Option.bind_eq_bind, Option.bind_eq_some_iff, Option.some.injEq] at hc
      obtain ⟨_, _, h⟩ := hc; cases h
  | defer c =>
    rw [ho] at hc
    simp only [cOp] at hc
    split at hc
    · simp only [Option.bind_eq_bind, Option.bind_eq_some_iff, Option.some.injEq] at hc
      obtain ⟨_, _, _, _, h⟩ := hc; cases h
    · cases hc
  | panic x =>
    rw [ho] at hc
    simp only [cOp, Option.bind_eq_bind, Option.bind_eq_some_iff, Option.some.injEq] at hc
    obtain ⟨_, _, h⟩ := hc; cases h
  | _ => rw [ho] at hc; simp [cOp] at hc

end
end Jet

/-
Soundness, part 12: the operations that read.
-/
namespace Jet
open Go

section
variable {P : Program} {gl : Gl} {G : Gh} {σ : St} {w : World} {a : Act} {env : List AV} {o : Oper} {rop : ROp} {v : AV}

/-- Cells that stand for a list, in a block. -/
theorem loadVar_run {b off n : Nat} {c : Array Value} {e : TypeId} {fr : Nat × Nat} {cs : List AV} {l1 l2 : List Value} {t : TypeId} {g : Bool}
    (hb : w.heap[b]? = some (.cells c e fr)) (hc : c.toList = l1 ++ l2) (hr : RelH G cs l1)
    (hs : szT P t = some n) (hg : aggT P t = some g) (h1 : g = true ∨ n = 1) (h : takeVal cs off n g = some v) :
    ∃ cv, (loadVar t ⟨b, off, none⟩).run P w = .ok cv w ∧ Rel G v cv := by
  have cell : ∀ j : Nat, j < cs.length → w.cell? ⟨b, j, none⟩ = l1[j]? := by
    intro j hj
    simp only [World.cell?, hb]
    rw [← Array.getElem?_toList, hc, List.getElem?_append_left (by rw [hr.length]; exact hj)]
    simp
  unfold takeVal at h
  unfold loadVar
  simp only [Sem.run_bind, run_agg hg, Result.andThen_ok]
  cases g with
  | true =>
    simp only [if_true] at h ⊢
    split at h
    · rename_i hcnd
      obtain ⟨hle, hall⟩ := hcnd
      cases h
      have hall : ∀ x ∈ (cs.drop off).take n, x.one = true := List.all_eq_true.1 hall
      have hlen : ((l1.drop off).take n).length = n := by simp [hr.length]; omega
      have hld := run_loadCells_list (P := P) w ⟨b, off, none⟩ ((l1.drop off).take n) (by
        intro j x hj
        have hjn : j < n := by rw [← hlen]; exact (List.getElem?_eq_some_iff.1 hj).1
        rw [addr_add, cell (off + j) (by omega)]
        rw [List.getElem?_take, if_pos hjn, List.getElem?_drop] at hj
        exact hj)
      rw [hlen] at hld
      refine ⟨.agg ((l1.drop off).take n).toArray, ?_, ?_⟩
      · simp only [Sem.run_bind, run_size hs, Result.andThen_ok, hld, Sem.run_pure]
      · simp only [Rel]
        exact ⟨_, rfl, ((hr.drop off).take n).toL hall, hall⟩
    · cases h
  | false =>
    simp only [Bool.false_eq_true, if_false] at h ⊢
    split at h
    rotate_left
    · cases h
    rename_i x hx
    split at h
    rotate_left
    · cases h
    rename_i hone
    cases h
    obtain ⟨y, hy, hr'⟩ := hr.get hx hone
    have hlt : off < cs.length := (List.getElem?_eq_some_iff.1 hx).1
    refine ⟨y, ?_, hr'⟩
    simp only [run_load, cell off hlt, hy]

theorem takeVal_prefix {cs full : List AV} {oo n : Nat} {g : Bool} (hn : g = true → n ≠ 0) (hp : cs <+: full.drop oo) (h : takeVal cs 0 n g = some v) : takeVal full oo n g = some v := by
  obtain ⟨r, hr⟩ := hp
  unfold takeVal at h ⊢
  cases g with
  | true =>
    have hn := hn rfl
    simp only [if_true] at h ⊢
    split at h
    · rename_i hcnd
      obtain ⟨hle, hall⟩ := hcnd
      have hl : cs.length + r.length = full.length - oo := by have := congrArg List.length hr; simpa using this
      have ht : (full.drop oo).take n = (cs.drop 0).take n := by rw [← hr, List.take_append_of_le_length (by omega), List.drop_zero]
      rw [ht, if_pos ⟨by omega, hall⟩]
      exact h
    · cases h
  | false =>
    simp only [Bool.false_eq_true, if_false] at h ⊢
    split at h
    rotate_left
    · cases h
    rename_i x hx
    have : (full.drop oo)[0]? = some x := by rw [← hr, List.getElem?_append_left (by exact (List.getElem?_eq_some_iff.1 hx).1)]; exact hx
    rw [List.getElem?_drop] at this
    rw [show full[oo]? = some x by simpa using this]
    exact h

/-- A load, of what an address stands for. -/
theorem load_run {av : AV} {cv : Value} {t : TypeId} {n : Nat} {g : Bool} (hi : Inv G σ w) (hr : Rel G av cv)
    (hs : szT P t = some n) (hg : aggT P t = some g) (h1 : g = true ∨ n = 1) {e0 : List AV} {oa : Opd} (hoa : oa.ev e0 = av) (h : evR e0 σ (.load n g oa) = some v) :
    ∃ ad, cv = .pointer (some ad) ∧ ∃ u, (loadVar t ad).run P w = .ok u w ∧ Rel G v u := by
  simp only [evR, hoa] at h
  split at h
  · rename_i m oo
    simp only [Rel] at hr
    obtain ⟨b, hx, hblk⟩ := hr
    obtain ⟨cs, c, ty, hm, hh, hrel, hone⟩ := hi.blk _ _ hblk
    rw [hm] at h
    obtain ⟨u, r1, r2⟩ := loadVar_run (P := P) (G := G) (l2 := []) hh (by simp) (.of hrel hone) hs hg h1 h
    exact ⟨_, hx, u, r1, r2⟩
  · rename_i cs
    simp only [Rel] at hr
    obtain ⟨b, oo, full, hx, hblk, hp⟩ := hr
    obtain ⟨c, ty, fr, l1, l2, hh, hc, hrel⟩ := hi.blk _ _ hblk
    by_cases hz : g = true ∧ n = 0
    · obtain ⟨rfl, rfl⟩ := hz
      simp only [takeVal, if_true] at h
      simp at h
      refine ⟨_, hx, .agg #[], ?_, by rw [← h]; simp [Rel, RelL]⟩
      unfold loadVar
      simp only [Sem.run_bind, run_agg hg, Result.andThen_ok, if_true, run_size hs, loadCells, loadCellsFrom, Sem.run_pure]
    · obtain ⟨u, r1, r2⟩ := loadVar_run (P := P) (G := G) hh hc hrel hs hg h1 (takeVal_prefix (fun hgt hn => hz ⟨hgt, hn⟩) hp h)
      exact ⟨_, hx, u, r1, r2⟩
  · cases h

/-! Maps. -/

def KK.fits : KK → TypeDesc → Prop
  | .i, .int _ => True
  | .s, .string => True
  | .b, .bool => True
  | _, _ => False

theorem keyKind_fits {t : TypeId} {kk : KK} (h : keyKind P t = some kk) : ∃ d, P.underlying t = some d ∧ kk.fits d := by
  unfold keyKind at h
  split at h <;> first | (cases h; done) | skip
  all_goals
    rename_i hu
    cases h
    exact ⟨_, hu, trivial⟩

theorem keyEq_same {kk : KK} {d : TypeDesc} {k k2 : AV} {ck ck2 : Value} {b : Bool} (hf : kk.fits d) (hr : Rel G k ck) (hr2 : Rel G k2 ck2) (h : keyEq kk k k2 = some b) :
    Instr.sameNow d ck ck2 = some b ∧ (b = true → Instr.sameBits 10000 ck2 ck = true) := by
  unfold keyEq at h
  split at h
  · split at h
    · rename_i hk; subst hk
      simp only [Option.some.injEq] at h
      cases d <;> simp only [KK.fits] at hf
      rw [hr.int_inv, hr2.int_inv]
      simp only [Instr.sameNow, if_true, Instr.sameBits]
      exact ⟨by rw [h], fun hb => by subst hb; simp at h; simp [h]⟩
    · cases h
  · simp only [Option.some.injEq] at h
    cases d <;> simp only [KK.fits] at hf
    obtain ⟨b1, e1, rfl⟩ := hr.str_inv
    obtain ⟨b2, e2, rfl⟩ := hr2.str_inv
    rw [e1, e2]
    have hb12 : ∀ x y : ByteArray, (x == y) = (x.data.toList == y.data.toList) := fun x y => by rw [beq_toListBytes, ba_toList, ba_toList]
    simp only [Instr.sameNow, Instr.sameBits, hb12]
    refine ⟨by rw [h], fun hb => ?_⟩
    subst hb
    have h' : b1.data.toList = b2.data.toList := by simpa using h
    rw [h']; simp
  · simp only [Option.some.injEq] at h
    cases d <;> simp only [KK.fits] at hf
    rw [hr.bool_inv, hr2.bool_inv]
    simp only [Instr.sameNow, Instr.sameBits]
    exact ⟨by rw [h], fun hb => by subst hb; simp at h; simp [h]⟩
  · cases h

theorem findE_run {kk : KK} {d : TypeDesc} {k : AV} {ck : Value} (hf : kk.fits d) (hr : Rel G k ck) : ∀ {es : List (AV × AV)} {l : List MapEntry} (n : Nat) {r : Option AV}, EntRel G es l → findE kk k es = some r →
    (r = none ∧ Instr.findNow d ck l n = some none) ∨ ∃ v1 i cv, r = some v1 ∧ Instr.findNow d ck l n = some (some (i, cv)) ∧ Rel G v1 cv
  | [], l, n, r, he, h => by
    simp only [EntRel] at he
    subst he
    cases h
    exact .inl ⟨rfl, rfl⟩
  | (k2, v2) :: es, l, n, r, he, h => by
    obtain ⟨e, l', rfl, h1, h2, h3⟩ := he
    simp only [findE] at h
    split at h
    · rename_i hk
      cases h
      refine .inr ⟨v2, n, e.val, rfl, ?_, h2⟩
      simp only [Instr.findNow, (keyEq_same hf hr h1 hk).1]
    · rename_i hk
      simp only [Instr.findNow, (keyEq_same hf hr h1 hk).1]
      exact findE_run hf hr (n + 1) h3 h
    · cases h

theorem run_checkKey {t : TypeId} {d : TypeDesc} {kk : KK} (hu : P.underlying t = some d) (hf : kk.fits d) (b : Bool) (ck : Value) : (Instr.checkKey b 10000 t ck).run P w = .ok () w := by
  show (Instr.checkKey b (9999 + 1) t ck).run P w = _
  unfold Instr.checkKey
  simp only [Sem.run_bind, run_underlying hu, Result.andThen_ok]
  cases kk <;> cases d <;> simp only [KK.fits] at hf <;> rfl

theorem run_findKey {t : TypeId} {d : TypeDesc} (hu : P.underlying t = some d) {ck : Value} {l : List MapEntry} {r : Option (Nat × Value)} (h : Instr.findNow d ck l 0 = some r) :
    (Instr.findKey t ck l).run P w = .ok r w := by
  unfold Instr.findKey
  simp only [Sem.run_bind, run_underlying hu, Result.andThen_ok, h, Sem.run_pure]

theorem run_getObj_map' {b : Nat} {es : Array MapEntry} {cl : Nat} (h : w.heap[b]? = some (.map es cl)) : (getObj b).run P w = .ok (.map es cl) w := by
  simp [getObj, Sem.run, h]

/-- What an operation that reads comes to. -/
theorem rop_sound (hg : GlOk gl G) (he : RelL G env a.tmps.toList) (hi : Inv G σ w)
    (hc : cOp P gl o.op = some (.r rop)) (hv : evR env σ rop = some v) : ∃ cv, (execOp a.eval o).run P w = .ok (.value cv) w ∧ Rel G v cv := by
  cases ho : o.op with
  | load t x =>
    rw [ho] at hc
    simp only [cOp, Option.bind_eq_bind, Option.bind_eq_some_iff, Option.some.injEq, AOp.r.injEq, Prod.exists] at hc
    obtain ⟨n, g, hsh, ox, hox, rfl⟩ := hc
    obtain ⟨hn, hg', hs⟩ := shapeT_iff hsh
    obtain ⟨ad, hx, u, r1, r2⟩ := load_run (P := P) hi (opd_rel hg he hox) hn hg' hs rfl hv
    refine ⟨u, ?_, r2⟩
    simp only [execOp, ho, Instr.loadAt, Sem.run_bind, hx, Instr.sureAddr, Sem.run_pure, Result.andThen_ok, r1]
  | lookup t m k ok =>
    rw [ho] at hc
    simp only [cOp] at hc
    split at hc
    · rename_i kt e hu
      simp only [Option.bind_eq_bind, Option.bind_eq_some_iff, Option.some.injEq, AOp.r.injEq] at hc
      obtain ⟨kk, hkk, z, hz, om, hom, ok', hok, rfl⟩ := hc
      obtain ⟨d, hud, hf⟩ := keyKind_fits hkk
      obtain ⟨i, zv, hinf, hzv, hav⟩ := zeroT_run hz
      have rz := toAV_rel hav G
      have rm := opd_rel hg he hom
      have rk := opd_rel hg he hok
      have pair : ∀ (v1 : AV) (cv : Value) (b : Bool), Rel G v1 cv → Rel G (if ok then .tup [v1, .bool b] else v1) (if ok then .tuple #[cv, .bool b] else cv) := by
        intro v1 cv b h
        cases ok
        · exact h
        · simp only [if_true, Rel]; exact ⟨_, rfl, .cons h (.cons .of_bool .nil)⟩
      simp only [evR] at hv
      split at hv
      · rename_i em
        rw [em] at rm
        simp only [Rel] at rm
        simp only [Option.some.injEq] at hv
        rw [← hv]
        refine ⟨_, ?_, pair z zv false rz⟩
        have hfk : (Instr.findKey kt (a.eval k) []).run P w = .ok none w := run_findKey hud rfl
        simp only [execOp, ho, Instr.lookup, Sem.run_bind, run_underlying hu, Result.andThen_ok, rm, Sem.run_pure, run_checkKey hud hf, hfk, run_zero hinf hzv]
      · rename_i m' em
        rw [em] at rm
        simp only [Rel] at rm
        obtain ⟨b, hx, hblk⟩ := rm
        rcases hi.blk _ _ hblk with ⟨es, c, cl, h1, h2, h3⟩ | ⟨s, pos, bs, h1, h2, h3⟩
        · rw [h1] at hv
          simp only [] at hv
          have go : ∀ q, Instr.findNow d (a.eval k) c.toList 0 = some q → (execOp a.eval o).run P w =
              .ok (.value (match q with | some (_, v) => (if ok then .tuple #[v, .bool true] else v) | none => (if ok then .tuple #[zv, .bool false] else zv))) w := by
            intro q hq
            have hfk := run_findKey (P := P) (w := w) hud hq
            simp only [execOp, ho, Instr.lookup, Sem.run_bind, run_underlying hu, Result.andThen_ok, hx, run_getObj_map' h2, Sem.run_pure, run_checkKey hud hf, hfk]
            cases q with
            | none => simp only [Sem.run_bind, run_zero hinf hzv, Result.andThen_ok, Sem.run_pure]
            | some q => simp only [Sem.run_bind, Sem.run_pure, Result.andThen_ok]
          split at hv
          · rename_i v1 hfe
            simp only [Option.some.injEq] at hv
            rw [← hv]
            rcases findE_run hf rk 0 h3 hfe with ⟨h, _⟩ | ⟨v1', i, cv, hv1, hq, hr⟩
            · cases h
            · cases hv1
              exact ⟨_, go _ hq, pair _ _ _ hr⟩
          · rename_i hfe
            simp only [Option.some.injEq] at hv
            rw [← hv]
            rcases findE_run hf rk 0 h3 hfe with ⟨_, hq⟩ | ⟨v1', i, cv, hv1, hq, hr⟩
            · exact ⟨_, go _ hq, pair _ _ _ rz⟩
            · cases hv1
          · cases hv
        · rw [h1] at hv; cases hv
      · cases hv
    · cases hc
  | call c =>
    rw [ho] at hc
    simp only [cOp] at hc
    split at hc
    · simp only [Option.bind_eq_bind, Option.bind_eq_some_iff, Option.some.injEq] at hc
      obtain ⟨_, _, _, _, h⟩ := hc; cases h
    · cases hc
    · rename_i b hcb
      split at hc
      · rename_i x t hargs htys
        have ha := arr1 hargs
        have ht := arr1 htys
        split at hc
        · simp only [Option.bind_eq_bind, Option.bind_eq_some_iff, Option.some.injEq] at hc
          obtain ⟨_, _, h⟩ := hc; cases h
        · simp only [Option.bind_eq_bind, Option.bind_eq_some_iff, Option.some.injEq] at hc
          obtain ⟨_, _, h⟩ := hc; cases h
        · rename_i kt e hu
          simp only [Option.bind_eq_bind, Option.bind_eq_some_iff, Option.some.injEq, AOp.r.injEq] at hc
          obtain ⟨ox, hox, rfl⟩ := hc
          have rx := opd_rel hg he hox
          have lenrun : ∀ cv, (Builtin.len_ #[t] o.type #[a.eval x]).run P w = .ok cv w → (execOp a.eval o).run P w = .ok (.value cv) w := by
            intro cv h
            refine run_builtin ho hcb ?_
            rw [ha, ht]
            simp only [builtin, Sem.run_bind]
            simp only [List.map_toArray, List.map_cons, List.map_nil, h, Result.andThen_ok, Sem.run_pure]
          simp only [evR] at hv
          split at hv
          · rename_i em
            rw [em] at rx
            simp only [Rel] at rx
            cases hv
            exact ⟨.int .i64 0, lenrun _ (by simp [Builtin.len_, run_underlying hu, rx, goInt]), .of_int⟩
          · rename_i m em
            rw [em] at rx
            simp only [Rel] at rx
            obtain ⟨b', hx, hblk⟩ := rx
            rcases hi.blk _ _ hblk with ⟨es, cc, cl, h1, h2, h3⟩ | ⟨s, pos, bs, h1, h2, h3⟩
            · rw [h1] at hv
              simp only [Option.some.injEq] at hv
              rw [← hv]
              have hlen : ∀ {es : List (AV × AV)} {l : List MapEntry}, EntRel G es l → l.length = es.length := by
                intro es
                induction es with
                | nil => intro l h; simp only [EntRel] at h; simp [h]
                | cons x es ih => intro l h; obtain ⟨e, r, rfl, _, _, h⟩ := h; simp [ih h]
              have hl := hlen h3
              rw [Array.length_toList] at hl
              exact ⟨.int .i64 es.length, lenrun _ (by simp [Builtin.len_, run_underlying hu, hx, run_getObj_map' h2, goInt, hl]), .of_int⟩
            · rw [h1] at hv; cases hv
          · cases hv
        · cases hc
      · split at hc
        · simp only [Option.bind_eq_bind, Option.bind_eq_some_iff, Option.some.injEq] at hc
          obtain ⟨_, _, h⟩ := hc; cases h
        · cases hc
      · split at hc
        · simp only [Option.bind_eq_bind, Option.bind_eq_some_iff] at hc
          obtain ⟨_, _, _, _, hc⟩ := hc
          split at hc
          · simp only [Option.bind_eq_some_iff, Option.some.injEq] at hc
            obtain ⟨_, _, _, _, h⟩ := hc; cases h
          · cases hc
        · cases hc
      · simp only [Option.bind_eq_bind, Option.bind_eq_some_iff, Option.some.injEq] at hc
        obtain ⟨_, _, h⟩ := hc; cases h
      · simp only [Option.bind_eq_bind, Option.bind_eq_some_iff, Option.some.injEq] at hc
        obtain ⟨_, _, h⟩ := hc; cases h
      · cases hc
      · cases hc
  | convert t u x =>
    rw [ho] at hc
    simp only [cOp] at hc
    split at hc
    · simp only [Option.bind_eq_bind, Option.bind_eq_some_iff, Option.some.injEq] at hc
      obtain ⟨_, _, h⟩ := hc; cases h
    · simp only [Option.bind_eq_bind, Option.bind_eq_some_iff, Option.some.injEq] at hc
      obtain ⟨_, _, h⟩ := hc; cases h
    · simp only [Option.bind_eq_bind, Option.bind_eq_some_iff, Option.some.injEq] at hc
      obtain ⟨_, _, h⟩ := hc; cases h
    · split at hc
      · simp only [Option.bind_eq_bind, Option.bind_eq_some_iff, Option.some.injEq] at hc
        obtain ⟨_, _, h⟩ := hc; cases h
      · cases hc
    · rename_i e hs hd
      split at hc
      · rename_i he8
        simp only [Option.bind_eq_bind, Option.bind_eq_some_iff, Option.some.injEq, AOp.r.injEq] at hc
        obtain ⟨ox, hox, rfl⟩ := hc
        have rx := opd_rel hg he hox
        simp only [evR] at hv
        have bytes : ∀ {xs : List AV} {l : List UInt8}, xs.mapM byteOfAV = some l → ∃ ns : List Int, xs = ns.map (AV.int .u8) ∧ l = ns.map fun n => UInt8.ofNat n.toNat := by
          intro xs
          induction xs with
          | nil => intro l h; simp at h; subst h; exact ⟨[], rfl, rfl⟩
          | cons x xs ih =>
            intro l h
            rw [List.mapM_cons] at h
            simp only [Option.bind_eq_bind, Option.bind_eq_some_iff] at h
            obtain ⟨b, hb, l', hl', h⟩ := h
            cases h
            obtain ⟨ns, h1, h2⟩ := ih hl'
            unfold byteOfAV at hb
            split at hb
            · rename_i n; cases hb; exact ⟨n :: ns, by simp [h1], by simp [h2]⟩
            · cases hb
        have fold : ∀ (ns : List Int) (b : ByteArray), (ns.foldl (fun r n => r.push (UInt8.ofNat n.toNat)) b).data.toList = b.data.toList ++ ns.map fun n => UInt8.ofNat n.toNat := by
          intro ns
          induction ns with
          | nil => intro b; simp
          | cons n ns ih => intro b; rw [List.foldl_cons, ih]; simp
        have relns : ∀ {ns : List Int} {l : List Value}, RelL G (ns.map (AV.int .u8)) l → l = ns.map (Value.int .u8) := by
          intro ns
          induction ns with
          | nil => intro l h; exact h.nil_left
          | cons n ns ih => intro l h; simp only [List.map_cons, RelL] at h; obtain ⟨y, ys, rfl, h1, h2⟩ := h; rw [h1.int_inv, ih h2]; rfl
        have fin : ∀ (ad : Addr) (len cap : Nat) (ns : List Int), a.eval x = .slice (some ad) len cap → (loadCells ad len).run P w = .ok (ns.map (Value.int .u8)).toArray w →
            ∃ cv, (execOp a.eval o).run P w = .ok (.value cv) w ∧ Rel G (.str (ns.map fun n => UInt8.ofNat n.toNat)) cv := by
          intro ad len cap ns hx hld
          refine ⟨.string (ns.foldl (fun r n => r.push (UInt8.ofNat n.toNat)) ByteArray.empty), ?_, ?_⟩
          · simp only [execOp, ho, Sem.run_bind, hx, run_convert_bytes_string w t u e (some ad) len cap hs he8 hd, run_bytesToString w ad len cap ns hld, Result.andThen_ok, Sem.run_pure]
          · simp only [Rel]
            exact ⟨_, rfl, by rw [fold]; simp⟩
        split at hv
        · rename_i p xs em
          rw [em] at rx
          simp only [Option.map_eq_some_iff] at hv
          obtain ⟨l, hl, rfl⟩ := hv
          obtain ⟨ns, rfl, rfl⟩ := bytes hl
          simp only [Rel] at rx
          obtain ⟨ad, cap, hx, _, _, hb, _⟩ := rx
          cases ad with
          | none =>
            have hn : ns = [] := by simpa using hb.1
            subst hn
            refine ⟨.string .empty, ?_, by simp [Rel]⟩
            simp only [execOp, ho, Sem.run_bind, hx, run_convert_bytes_string w t u e none _ cap hs he8 hd, Conv.bytesToString, Result.andThen_ok, Sem.run_pure]
          | some ad =>
            obtain ⟨hsp, hb⟩ := hb
            refine fin ad _ cap ns hx ?_
            rcases hb with h0 | ⟨full, hblk, hp⟩
            · have hn : ns = [] := by simpa using h0
              subst hn
              simp [loadCells, loadCellsFrom]
            · obtain ⟨c, ty, fr, l1, l2, hh, hcl, hrel⟩ := hi.blk _ _ hblk
              have fl : ∀ ms : List Int, flat (ms.map (AV.int .u8)) = ms.map (AV.int .u8) := by
                intro ms
                induction ms with
                | nil => rfl
                | cons n ns ih => rw [List.map_cons, flat_cons, ih]; rfl
              rw [fl] at hp
              obtain ⟨v1, v2, e1, e2⟩ := hrel.pre hp (by intro x hx; rw [List.mem_map] at hx; obtain ⟨_, _, rfl⟩ := hx; rfl)
              have e2' := relns e2
              subst e2'
              have := run_loadCells_list (P := P) w ad (ns.map (Value.int .u8)) (by
                intro j y hj
                obtain ⟨bb, oo, sp⟩ := ad
                simp only at hsp
                subst hsp
                rw [addr_add]
                have hjl : (l1.drop oo)[j]? = some y := by
                  rw [e1, List.getElem?_append_left (List.getElem?_eq_some_iff.1 hj).1]; exact hj
                rw [List.getElem?_drop] at hjl
                have hll : oo + j < l1.length := (List.getElem?_eq_some_iff.1 hjl).1
                simp only [World.cell?, hh]
                rw [← Array.getElem?_toList, hcl, List.getElem?_append_left hll]
                simp [hjl])
              simpa using this
        · rename_i m oo len cap em
          rw [em] at rx
          simp only [Rel] at rx
          obtain ⟨b, hx, hblk⟩ := rx
          obtain ⟨cs, c, ty, hm, hh, hrel, hone⟩ := hi.blk _ _ hblk
          rw [hm] at hv
          simp only [] at hv
          split at hv
          · rename_i hle
            simp only [Option.map_eq_some_iff] at hv
            obtain ⟨l, hl, rfl⟩ := hv
            obtain ⟨ns, h1, rfl⟩ := bytes hl
            refine fin _ _ cap ns hx ?_
            have hsub := (hrel.drop oo).take len
            rw [h1] at hsub
            have e2 := relns hsub
            have hlen : ns.length = len := by have := congrArg List.length h1; simp at this; omega
            have := run_loadCells_list (P := P) w ⟨b, oo, none⟩ (ns.map (Value.int .u8)) (by
              intro j y hj
              rw [addr_add]
              have hjl : j < len := by rw [← hlen]; simpa using (List.getElem?_eq_some_iff.1 hj).1
              rw [← e2, List.getElem?_take, if_pos hjl, List.getElem?_drop] at hj
              simp only [World.cell?, hh]
              rw [← Array.getElem?_toList]
              simp [hj])
            rw [List.length_map, hlen] at this
            exact this
          · cases hv
        · cases hv
      · cases hc
    · cases hc
  | move x => rw [ho] at hc; simp only [cOp, Option.bind_eq_bind, Option.bind_eq_some_iff, Option.some.injEq] at hc; obtain ⟨_, _, h⟩ := hc; cases h
  | assign x => rw [ho] at hc; simp only [cOp, Option.bind_eq_bind, Option.bind_eq_some_iff, Option.some.injEq] at hc; obtain ⟨_, _, h⟩ := hc; cases h
  | box t x => rw [ho] at hc; simp only [cOp, Option.bind_eq_bind, Option.bind_eq_some_iff, Option.some.injEq] at hc; obtain ⟨_, _, h⟩ := hc; cases h
  | pick c x y => rw [ho] at hc; simp only [cOp, Option.bind_eq_bind, Option.bind_eq_some_iff, Option.some.injEq] at hc; obtain ⟨_, _, _, _, _, _, h⟩ := hc; cases h
  | alloc t =>
    rw [ho] at hc
    simp only [cOp, Option.bind_eq_bind, Option.bind_eq_some_iff] at hc
    obtain ⟨z, _, hc⟩ := hc
    split at hc <;> cases hc
  | build t ps =>
    rw [ho] at hc
    simp only [cOp, Option.bind_eq_bind, Option.bind_eq_some_iff] at hc
    obtain ⟨z, _, hc⟩ := hc
    split at hc
    · simp only [Option.bind_eq_some_iff, Option.some.injEq] at hc
      obtain ⟨_, _, _, _, h⟩ := hc; cases h
    · simp only [Option.bind_eq_some_iff, Option.some.injEq] at hc
      obtain ⟨_, _, _, _, h⟩ := hc; cases h
    · cases hc
  | buildSlice t n ps =>
    rw [ho] at hc
    simp only [cOp] at hc
    split at hc
    · simp only [Option.bind_eq_bind, Option.bind_eq_some_iff] at hc
      obtain ⟨_, _, _, _, hc⟩ := hc
      split at hc
      · simp only [Option.bind_eq_some_iff, Option.some.injEq] at hc
        obtain ⟨_, _, h⟩ := hc; cases h
      · cases hc
    · cases hc
  | nilCheck x => rw [ho] at hc; simp only [cOp, Option.bind_eq_bind, Option.bind_eq_some_iff, Option.some.injEq] at hc; obtain ⟨_, _, h⟩ := hc; cases h
  | binOp op t x y t' => rw [ho] at hc; simp only [cOp, Option.bind_eq_bind, Option.bind_eq_some_iff, Option.some.injEq] at hc; obtain ⟨_, _, _, _, h⟩ := hc; cases h
  | unOp op t x => rw [ho] at hc; simp only [cOp, Option.bind_eq_bind, Option.bind_eq_some_iff, Option.some.injEq] at hc; obtain ⟨_, _, h⟩ := hc; cases h
  | makeInterface t x =>
    rw [ho] at hc
    simp only [cOp] at hc
    split at hc
    · cases hc
    · simp only [Option.bind_eq_bind, Option.bind_eq_some_iff, Option.some.injEq] at hc
      obtain ⟨_, _, h⟩ := hc; cases h
    · cases hc
  | makeFunc f xs ys => rw [ho] at hc; simp only [cOp, Option.bind_eq_bind, Option.bind_eq_some_iff, Option.some.injEq] at hc; obtain ⟨_, _, _, _, h⟩ := hc; cases h
  | makeMap t r => rw [ho] at hc; cases r <;> simp [cOp] at hc
  | makeSlice t l c =>
    rw [ho] at hc
    simp only [cOp] at hc
    split at hc
    · simp only [Option.bind_eq_bind, Option.bind_eq_some_iff, Option.some.injEq] at hc
      obtain ⟨_, _, _, _, _, _, _, _, h⟩ := hc; cases h
    · cases hc
  | slice t x lo h mx =>
    rw [ho] at hc
    simp only [cOp] at hc
    split at hc
    · split at hc
      · cases hc
      · simp only [Option.bind_eq_bind, Option.bind_eq_some_iff, Option.some.injEq] at hc
        obtain ⟨_, _, _, _, _, _, h⟩ := hc; cases h
    · simp only [Option.bind_eq_bind, Option.bind_eq_some_iff] at hc
      obtain ⟨_, _, hc⟩ := hc
      split at hc
      · cases hc
      · simp only [Option.bind_eq_some_iff, Option.some.injEq] at hc
        obtain ⟨_, _, _, _, _, _, _, _, h⟩ := hc; cases h
    · simp only [Option.bind_eq_bind, Option.bind_eq_some_iff] at hc
      obtain ⟨_, _, hc⟩ := hc
      split at hc
      · cases hc
      · simp only [Option.bind_eq_some_iff, Option.some.injEq] at hc
        obtain ⟨_, _, _, _, _, _, _, _, h⟩ := hc; cases h
    · cases hc
  | fieldAddr t x f =>
    rw [ho] at hc
    simp only [cOp] at hc
    split at hc
    · simp only [Option.bind_eq_bind, Option.bind_eq_some_iff] at hc
      obtain ⟨_, _, _, _, hc⟩ := hc
      split at hc
      · cases hc
      · simp only [Option.bind_eq_some_iff, Option.some.injEq] at hc
        obtain ⟨_, _, h⟩ := hc; cases h
    · cases hc
  | field t x f =>
    rw [ho] at hc
    simp only [cOp] at hc
    split at hc
    · simp only [Option.bind_eq_bind, Option.bind_eq_some_iff, Option.some.injEq, Prod.exists] at hc
      obtain ⟨_, _, _, _, _, _, _, h⟩ := hc; cases h
    · cases hc
  | indexAddr t x i =>
    rw [ho] at hc
    simp only [cOp] at hc
    split at hc
    · simp only [Option.bind_eq_bind, Option.bind_eq_some_iff, Option.some.injEq] at hc
      obtain ⟨_, _, _, _, _, _, h⟩ := hc; cases h
    · simp only [Option.bind_eq_bind, Option.bind_eq_some_iff, Option.some.injEq] at hc
      obtain ⟨_, _, _, _, _, _, h⟩ := hc; cases h
    · cases hc
  | index t x i =>
    rw [ho] at hc
    simp only [cOp] at hc
    split at hc
    · simp only [Option.bind_eq_bind, Option.bind_eq_some_iff, Option.some.injEq] at hc
      obtain ⟨_, _, _, _, h⟩ := hc; cases h
    · simp only [Option.bind_eq_bind, Option.bind_eq_some_iff, Option.some.injEq, Prod.exists] at hc
      obtain ⟨_, _, _, _, _, _, _, h⟩ := hc; cases h
    · cases hc
  | insert t m k x =>
    rw [ho] at hc
    simp only [cOp] at hc
    split at hc
    · simp only [Option.bind_eq_bind, Option.bind_eq_some_iff, Option.some.injEq] at hc
      obtain ⟨_, _, _, _, _, _, _, _, h⟩ := hc; cases h
    · cases hc
  | mapUpdate t m k x =>
    rw [ho] at hc
    simp only [cOp] at hc
    split at hc
    · simp only [Option.bind_eq_bind, Option.bind_eq_some_iff, Option.some.injEq] at hc
      obtain ⟨_, _, _, _, _, _, _, _, h⟩ := hc; cases h
    · cases hc
  | store t x y => rw [ho] at hc; simp only [cOp, Option.bind_eq_bind, Option.bind_eq_some_iff, Option.some.injEq] at hc; obtain ⟨_, _, _, _, _, _, h⟩ := hc; cases h
  | range t x =>
    rw [ho] at hc
    simp only [cOp] at hc
    split at hc
    · simp only [Option.bind_eq_bind, Option.bind_eq_some_iff, Option.some.injEq] at hc
      obtain ⟨_, _, h⟩ := hc; cases h
    · cases hc
  | next it s =>
    rw [ho] at hc
    cases s
    · simp [cOp] at hc
    · simp only [cOp, Option.bind_eq_bind, Option.bind_eq_some_iff, Option.some.injEq] at hc
      obtain ⟨_, _, h⟩ := hc; cases h
  | typeAssert x t u ok =>
    rw [ho] at hc
    simp only [cOp] at hc
    split at hc
    · cases hc
    · simp only [Option.bind_eq_bind, Option.bind_eq_some_iff, Option.some.injEq] at hc
      obtain ⟨_, _, _, _, h⟩ := hc; cases h
    · cases hc
  | extract x i => rw [ho] at hc; simp only [cOp, Option.bind_eq_bind, Option.bind_eq_some_iff, Option.some.injEq] at hc; obtain ⟨_, _, h⟩ := hc; cases h
  | defer c =>
    rw [ho] at hc
    simp only [cOp] at hc
    split at hc
    · simp only [Option.bind_eq_bind, Option.bind_eq_some_iff, Option.some.injEq] at hc
      obtain ⟨_, _, _, _, h⟩ := hc; cases h
    · cases hc
  | panic x => rw [ho] at hc; simp only [cOp, Option.bind_eq_bind, Option.bind_eq_some_iff, Option.some.injEq] at hc; obtain ⟨_, _, h⟩ := hc; cases h
  | _ => rw [ho] at hc; simp [cOp] at hc

end
end Jet

/-
Soundness, part 13: what writes or makes: stores, boxes, maps, slices that are made, iterators.
-/
namespace Jet
open Go

section
variable {P : Program} {gl : Gl} {G : Gh} {σ : St} {w : World} {a : Act} {env : List AV} {o : Oper}

/-- An operation that makes or writes, and hands a value on. -/
def Does (P : Program) (G : Gh) (w : World) (a : Act) (o : Oper) (v : AV) (σ' : St) : Prop :=
  ∃ cv w' G', ((execOp a.eval o).run P w = .ok (.value cv) w' ∨ (cv = undef ∧ (execOp a.eval o).run P w = .ok .skip w')) ∧ Rel G' v cv ∧ Inv G' σ' w' ∧ Ex G G' w w'

theorem rel_undef {G : Gh} : Rel G .undef undef := by simp [Rel, undef, RelL]

/-- Cells that are stored one by one into a block. -/
theorem storeCells_run {b : Nat} {e : TypeId} : ∀ (vs : List Value) (i off : Nat) (c : Array Value) (w : World), w.heap[b]? = some (.cells c e (0, 0)) → (∀ v ∈ vs, v.oneCell' = true) → off + i + vs.length ≤ c.size →
    (storeCells ⟨b, off, none⟩ vs i).run P w = .ok () (World.setBlk w b (.cells (c.toList.take (off + i) ++ vs ++ c.toList.drop (off + i + vs.length)).toArray e (0, 0)))
  | [], i, off, c, w, hb, ho, hl => by
    simp only [storeCells, Sem.run_pure, List.append_nil, List.length_nil, Nat.add_zero, List.take_append_drop]
    congr 1
    have hlt : b < w.heap.size := (Array.getElem?_eq_some_iff.1 hb).1
    unfold World.setBlk
    have : w.heap.setIfInBounds b (.cells c.toList.toArray e (0, 0)) = w.heap := by
      apply Array.ext_getElem?
      intro j
      by_cases hj : b = j
      · subst hj
        rw [Array.getElem?_setIfInBounds_self_of_lt hlt, hb]
      · rw [Array.getElem?_setIfInBounds_ne hj]
    rw [this]
  | v :: vs, i, off, c, w, hb, ho, hl => by
    have hlt : b < w.heap.size := (Array.getElem?_eq_some_iff.1 hb).1
    simp only [List.length_cons] at hl
    have hcell : ∃ x, w.cell? ⟨b, off + i, none⟩ = some x := by
      have hlt2 : off + i < c.size := by omega
      simp only [World.cell?, hb]
      exact ⟨c[off + i], by simp [hlt2]⟩
    obtain ⟨x, hx⟩ := hcell
    have hfr : w.frozen? ⟨b, off + i, none⟩ = false := by simp [World.frozen?, hb]
    have hset : w.setCell ⟨b, off + i, none⟩ v = World.setBlk w b (.cells (c.setIfInBounds (off + i) v) e (0, 0)) := by
      unfold World.setCell World.setBlk
      congr 1
      apply Array.ext_getElem?
      intro j
      by_cases hj : b = j
      · subst hj
        rw [Array.getElem?_setIfInBounds_self_of_lt hlt]
        simp [Array.getElem?_modify, hb]
      · rw [Array.getElem?_setIfInBounds_ne hj]
        simp [Array.getElem?_modify, hj]
    simp only [storeCells, Sem.run_bind, addr_add, run_store P w _ v _ (ho v (by simp)), hx, hfr, hset, Bool.false_eq_true, if_false, Result.andThen_ok]
    rw [storeCells_run vs (i + 1) off (c.setIfInBounds (off + i) v) _ (setBlk_eq w _ hlt) (fun z hz => ho z (by simp [hz])) (by simp; omega)]
    congr 1
    unfold World.setBlk
    simp only [Array.setIfInBounds_setIfInBounds]
    congr 3
    simp only [Array.toList_setIfInBounds, List.length_cons]
    rw [show off + (i + 1) = off + i + 1 by omega, show off + i + 1 + vs.length = off + i + (vs.length + 1) by omega]
    rw [List.drop_set_of_lt (by omega), List.take_succ_eq_append_getElem (by simp; omega)]
    simp only [List.getElem_set_self, List.append_assoc, List.cons_append, List.nil_append]
    rw [List.take_set_of_le (Nat.le_refl _)]

theorem relL_one {cs : List AV} {vs : List Value} (hr : RelL G cs vs) (ho : ∀ x ∈ cs, x.one = true) : ∀ v ∈ vs, v.oneCell' = true := by
  intro v hv
  obtain ⟨i, hi⟩ := List.getElem?_of_mem hv
  have hlt : i < cs.length := by rw [← hr.length]; exact (List.getElem?_eq_some_iff.1 hi).1
  obtain ⟨y, hy, hry⟩ := hr.get (List.getElem?_eq_getElem hlt)
  rw [hi] at hy
  cases hy
  exact hry.one (ho _ (List.getElem_mem hlt))

theorem e_store {t : TypeId} {x y : Operand} {n : Nat} {ox oy : Opd} {v : AV} {σ' : St} {call : CallF} (hg : GlOk gl G) (he : RelL G env a.tmps.toList) (hi : Inv G σ w) (ho : o.op = .store t x y)
    (hn : szT P t = some n) (hx : cOpd gl x = some ox) (hy : cOpd gl y = some oy) {r : ER} (hv : evE call env σ (.store n ox oy) = some (r, σ')) : r = .val .undef ∧ Does P G w a o .undef σ' := by
  have rx := opd_rel hg he hx
  have ry := opd_rel hg he hy
  simp only [evE] at hv
  split at hv
  · rename_i m oo e
    rw [e] at rx
    simp only [Rel] at rx
    obtain ⟨b, hxv, hblk⟩ := rx
    obtain ⟨cs, c, ty, hm, hh, hrel, hone⟩ := hi.blk _ _ hblk
    rw [hm] at hv
    simp only [] at hv
    split at hv
    · rename_i hcond
      obtain ⟨h1, h2, h3⟩ := hcond
      cases hv
      refine ⟨rfl, ?_⟩
      have hcl := Rel.cells ry
      have hsz : (a.eval y).cells.size = n := by have := hcl.length; rw [Array.length_toList] at this; rw [this]; exact h1
      have hone2 : ∀ z ∈ (oy.ev env).cells, z.one = true := fun z hz => List.all_eq_true.1 h2 z hz
      have hcs : c.size = cs.length := by have := hrel.length; rwa [Array.length_toList] at this
      have hst := storeCells_run (P := P) (a.eval y).cells.toList 0 oo c w hh (relL_one hcl hone2) (by simp [hsz]; omega)
      refine ⟨undef, World.setBlk w b (.cells (c.toList.take (oo + 0) ++ (a.eval y).cells.toList ++ c.toList.drop (oo + 0 + (a.eval y).cells.toList.length)).toArray ty (0, 0)), G, .inr ⟨rfl, ?_⟩, rel_undef, ?_, Ex.write hblk rfl _⟩
      · simp only [execOp, ho, Instr.storeAt, Sem.run_bind, hxv, Instr.sureAddr, Sem.run_pure, Result.andThen_ok, storeVar, run_size hn, hsz, ne_eq, not_true, if_false, hst]
      · refine hi.write hblk rfl _ _ (fun n s => by rw [hm]; simp) ?_
        refine ⟨_, _, ty, St.get_set_eq _ _ _, setBlk_eq w _ (hi.dom hblk), ?_, ?_⟩
        · simp only [Nat.add_zero]
          unfold splice
          rw [show (oy.ev env).cells.length = (a.eval y).cells.toList.length by simp [hsz, h1]]
          exact RelL.append (RelL.append (hrel.take oo) hcl) (hrel.drop _)
        · intro z hz
          unfold splice at hz
          simp only [List.mem_append] at hz
          rcases hz with (hz | hz) | hz
          · exact hone z (List.mem_of_mem_take hz)
          · exact hone2 z hz
          · exact hone z (List.mem_of_mem_drop hz)
    · cases hv
  · cases hv

theorem e_box {t : TypeId} {x : Operand} {ox : Opd} {σ' : St} {call : CallF} (hg : GlOk gl G) (he : RelL G env a.tmps.toList) (hi : Inv G σ w) (ho : o.op = .box t x)
    (hx : cOpd gl x = some ox) {r : ER} (hv : evE call env σ (.box ox) = some (r, σ')) : ∃ v, r = .val v ∧ Does P G w a o v σ' := by
  have rx := opd_rel hg he hx
  simp only [evE] at hv
  split at hv
  · rename_i h1
    cases hv
    refine ⟨_, rfl, .pointer (some ⟨w.heap.size, 0, none⟩), { w with heap := w.heap.push (.cells (a.eval x).cells t (0, 0)) }, G.add w.heap.size (.var σ.next), .inl ?_, ?_, ?_, Ex.new hi _ _ (by intro m h; cases h; exact hi.nx)⟩
    · simp only [execOp, ho, Instr.box, newVar, newRow, Sem.run_bind, run_newObj, Result.andThen_ok, Sem.run_pure]
    · simp only [Rel]; exact ⟨_, rfl, Gh.add_self _ _ _⟩
    · exact hi.new_var _ _ _ (Rel.cells rx) fun z hz => List.all_eq_true.1 h1 z hz
  · cases hv

theorem e_alloc {t : TypeId} {z : AV} (hi : Inv G σ w) (ho : o.op = .alloc t) (hz : zeroT P t = some z) (h1 : z.cells.all AV.one = true) :
    Does P G w a o (.ptr σ.next 0) (σ.push (.cells z.cells)) := by
  obtain ⟨i, zv, hinf, hzv, hav⟩ := zeroT_run hz
  have rz := toAV_rel hav G
  refine ⟨.pointer (some ⟨w.heap.size, 0, none⟩), { w with heap := w.heap.push (.cells zv.cells t (0, 0)) }, G.add w.heap.size (.var σ.next), .inl ?_, ?_, ?_, Ex.new hi _ _ (by intro m h; cases h; exact hi.nx)⟩
  · simp only [execOp, ho, Instr.alloc, Sem.run_bind, run_zero hinf hzv, newVar, newRow, run_newObj, Result.andThen_ok, Sem.run_pure]
  · simp only [Rel]; exact ⟨_, rfl, Gh.add_self _ _ _⟩
  · exact hi.new_var _ _ _ (Rel.cells rz) fun z hz => List.all_eq_true.1 h1 z hz

/-- A variable whose name was laid ahead. -/
theorem e_alloc_laid {t : TypeId} {z : AV} {m : Nat} (hi : Inv G σ w) (ho : o.op = .alloc t) (hz : zeroT P t = some z) (h1 : z.cells.all AV.one = true)
    (hm : σ.get m = some (.cells z.cells)) (hf : ∀ b k', G.blk b = some k' → k'.name ≠ some m) (hlt : m < σ.next) (hnx : G.nx ≤ m) :
    ∃ w', (execOp a.eval o).run P w = .ok (.value (.pointer (some ⟨w.heap.size, 0, none⟩))) w' ∧ Rel (G.add w.heap.size (.var m)) (.ptr m 0) (.pointer (some ⟨w.heap.size, 0, none⟩)) ∧
      Inv (G.add w.heap.size (.var m)) σ w' ∧ Ex G (G.add w.heap.size (.var m)) w w' := by
  obtain ⟨i, zv, hinf, hzv, hav⟩ := zeroT_run hz
  have rz := toAV_rel hav G
  refine ⟨{ w with heap := w.heap.push (.cells zv.cells t (0, 0)) }, ?_, ?_, ?_, Ex.new hi _ _ (by intro m h; cases h; exact hnx)⟩
  · simp only [execOp, ho, Instr.alloc, Sem.run_bind, run_zero hinf hzv, newVar, newRow, run_newObj, Result.andThen_ok, Sem.run_pure]
  · simp only [Rel]; exact ⟨_, rfl, Gh.add_self _ _ _⟩
  · exact hi.new_laid m _ _ _ hm hf hlt (Rel.cells rz) fun z hz => List.all_eq_true.1 h1 z hz

theorem e_mkM {t : TypeId} (hi : Inv G σ w) (ho : o.op = .makeMap t none) : Does P G w a o (.map σ.next) (σ.push (.map [])) := by
  refine ⟨.map (some w.heap.size), { w with heap := w.heap.push (.map #[] 0) }, G.add w.heap.size (.obj σ.next), .inl ?_, ?_, hi.new_map, Ex.new hi _ _ (by intro m h; cases h; exact hi.nx)⟩
  · simp [execOp, ho, Instr.makeMap]
  · simp only [Rel]; exact ⟨_, rfl, Gh.add_self _ _ _⟩

theorem e_range {t : TypeId} {x : Operand} {ox : Opd} {σ' : St} {call : CallF} (hg : GlOk gl G) (he : RelL G env a.tmps.toList) (hi : Inv G σ w) (ho : o.op = .range t x)
    (hu : P.underlying t = some .string) (hx : cOpd gl x = some ox) {r : ER} (hv : evE call env σ (.range ox) = some (r, σ')) : ∃ v, r = .val v ∧ Does P G w a o v σ' := by
  have rx := opd_rel hg he hx
  simp only [evE] at hv
  split at hv
  · rename_i l e
    rw [e] at rx
    obtain ⟨bs, hxv, rfl⟩ := rx.str_inv
    cases hv
    refine ⟨_, rfl, .pointer (some ⟨w.heap.size, 0, none⟩), { w with heap := w.heap.push (.stringIter bs 0) }, G.add w.heap.size (.obj σ.next), .inl ?_, ?_, hi.new_iter bs, Ex.new hi _ _ (by intro m h; cases h; exact hi.nx)⟩
    · simp only [execOp, ho, Instr.range, Sem.run_bind, run_underlying hu, hxv, Result.andThen_ok, Sem.run_pure, run_newObj]
    · simp only [Rel]; exact ⟨_, rfl, Gh.add_self _ _ _⟩
  · cases hv

theorem ba_get! (s : ByteArray) (i : Nat) : s.get! i = s.data.toList.getD i 0 := by
  show s.data[i]! = _
  rw [List.getD_eq_getElem?_getD, Array.getElem?_toList]
  simp only [getElem!_def]
  cases s.data[i]? <;> rfl

theorem decL_eq (s : ByteArray) (i : Nat) (hi : i ≤ s.size) : Utf8.decode s i = decL (s.data.toList.drop i) := by
  have hg : ∀ k, (s.get! (i + k)).toNat = ((s.data.toList.drop i).getD k 0).toNat := by
    intro k
    rw [ba_get!]
    simp only [List.getD_eq_getElem?_getD, List.getElem?_drop]
  have hl : ∀ k, decide (i + k < s.size) = decide (k < (s.data.toList.drop i).length) := by
    intro k
    have : (s.data.toList.drop i).length = s.size - i := by simp
    rw [this]
    congr 1
    rw [eq_iff_iff]; omega
  unfold Utf8.decode decL
  simp only [hg, hl]

theorem decL_pos (c : UInt8) (s : List UInt8) : 1 ≤ (decL (c :: s)).2 := by
  unfold decL
  simp only []
  repeat' split
  all_goals simp

theorem e_next {x : Operand} {ox : Opd} {σ' : St} {call : CallF} (hg : GlOk gl G) (he : RelL G env a.tmps.toList) (hi : Inv G σ w) (ho : o.op = .next x true)
    (hx : cOpd gl x = some ox) {r : ER} (hv : evE call env σ (.next ox) = some (r, σ')) : ∃ v, r = .val v ∧ Does P G w a o v σ' := by
  have rx := opd_rel hg he hx
  simp only [evE] at hv
  split at hv
  · rename_i m e
    rw [e] at rx
    simp only [Rel] at rx
    obtain ⟨b, hxv, hblk⟩ := rx
    rcases hi.blk _ _ hblk with ⟨es, c, cl, h1, h2, h3⟩ | ⟨s, pos, bs, h1, h2, h3⟩
    · rw [h1] at hv; cases hv
    · rw [h1] at hv
      simp only [] at hv
      have hgo : (getObj b).run P w = .ok (.stringIter bs pos) w := by simp [getObj, Sem.run, h2]
      have hso : ∀ ob, (setObj b ob).run P w = .ok () (World.setBlk w b ob) := by intro ob; simp [setObj, Sem.run, h2, World.setBlk]
      split at hv
      · -- over
        cases hv
        refine ⟨_, rfl, .tuple #[.bool false], w, G, .inl ?_, by simp only [Rel]; exact ⟨_, rfl, .cons .of_bool .nil⟩, hi, .refl G w⟩
        have hpos : ¬ pos < bs.size := by
          intro hlt
          have hl := congrArg List.length h3
          rw [List.length_drop] at hl
          simp at hl
          omega
        simp only [execOp, ho, Instr.next, Sem.run_bind, hxv, hgo, Result.andThen_ok, hpos, if_false, Sem.run_pure]
      · rename_i c rest
        cases hv
        have hpos : pos < bs.size := by
          rcases Nat.lt_or_ge pos bs.size with h | h
          · exact h
          · rw [List.drop_eq_nil_of_le (by simpa using h)] at h3; cases h3
        have hd : Utf8.decode bs pos = decL (c :: rest) := by rw [decL_eq bs pos (Nat.le_of_lt hpos), h3]
        refine ⟨_, rfl, .tuple #[.bool true, goInt pos, .int .i32 (decL (c :: rest)).1], World.setBlk w b (.stringIter bs (pos + (decL (c :: rest)).2)), G, .inl ?_, ?_, ?_, Ex.write hblk rfl _⟩
        · simp only [execOp, ho, Instr.next, Sem.run_bind, hxv, hgo, Result.andThen_ok, hpos, if_true, hd, hso, Sem.run_pure]
        · simp only [Rel]
          exact ⟨_, rfl, .cons .of_bool (.cons .of_int (.cons .of_int .nil))⟩
        · refine hi.write hblk rfl _ _ (fun n s => by rw [h1]; simp) ?_
          exact .inr ⟨_, _, bs, St.get_set_eq _ _ _, setBlk_eq w _ (hi.dom hblk), by rw [← List.drop_drop, h3]⟩
  · cases hv

end
end Jet

/-
Soundness, part 14: maps that are written, slices that are made, appends.
-/
namespace Jet
open Go

section
variable {P : Program} {gl : Gl} {G : Gh} {σ : St} {w : World} {a : Act} {env : List AV} {o : Oper}

theorem updE_run {kk : KK} {d : TypeDesc} {k v : AV} {ck cv : Value} (hf : kk.fits d) (hr : Rel G k ck) (hv : Rel G v cv) : ∀ {es es' : List (AV × AV)} {l : List MapEntry} (n : Nat), EntRel G es l → updE kk k v es = some es' →
    (Instr.findNow d ck l n = some none ∧ ∀ born, EntRel G es' (l ++ [{ key := ck, val := cv, born }])) ∨
    ∃ j ov oe, Instr.findNow d ck l n = some (some (n + j, ov)) ∧ l[j]? = some oe ∧ Instr.sameBits 10000 oe.key ck = true ∧ EntRel G es' (l.modify j fun e => { e with key := ck, val := cv })
  | [], es', l, n, he, h => by
    simp only [EntRel] at he
    subst he
    cases h
    exact .inl ⟨rfl, fun born => ⟨_, _, rfl, hr, hv, rfl⟩⟩
  | (k2, v2) :: es, es', l, n, he, h => by
    obtain ⟨e, l', rfl, h1, h2, h3⟩ := he
    simp only [updE] at h
    split at h
    · rename_i hk
      cases h
      obtain ⟨s1, s2⟩ := keyEq_same hf hr h1 hk
      refine .inr ⟨0, e.val, e, ?_, rfl, s2 rfl, ?_⟩
      · simp only [Instr.findNow, s1, Nat.add_zero]
      · simp only [List.modify_zero_cons, EntRel]
        exact ⟨_, _, rfl, hr, hv, h3⟩
    · rename_i hk
      obtain ⟨s1, _⟩ := keyEq_same hf hr h1 hk
      rw [Option.map_eq_some_iff] at h
      obtain ⟨es2, h, rfl⟩ := h
      rcases updE_run hf hr hv (n + 1) h3 h with ⟨q1, q2⟩ | ⟨j, ov, oe, q1, q2, q3, q4⟩
      · refine .inl ⟨?_, fun born => ⟨_, _, rfl, h1, h2, q2 born⟩⟩
        simp only [Instr.findNow, s1, q1]
      · refine .inr ⟨j + 1, ov, oe, ?_, by simpa using q2, q3, ?_⟩
        · simp only [Instr.findNow, s1, q1]; congr 3; omega
        · simp only [List.modify_succ_cons]
          exact ⟨_, _, rfl, h1, h2, q4⟩
    · cases h

theorem e_mupd {t kt e : TypeId} {kk : KK} {m k x : Operand} {om ok ox : Opd} {σ' : St} {call : CallF} (hg : GlOk gl G) (he : RelL G env a.tmps.toList) (hi : Inv G σ w) (ho : o.op = .mapUpdate t m k x ∨ o.op = .insert t m k x)
    (hu : P.underlying t = some (.map kt e)) (hk : keyKind P kt = some kk) (hm : cOpd gl m = some om) (hok : cOpd gl k = some ok) (hx : cOpd gl x = some ox) {r : ER}
    (hv : evE call env σ (.mupd kk om ok ox) = some (r, σ')) : r = .val .undef ∧ Does P G w a o .undef σ' := by
  obtain ⟨d, hud, hf⟩ := keyKind_fits hk
  have rm := opd_rel hg he hm
  have rk := opd_rel hg he hok
  have rx := opd_rel hg he hx
  simp only [evE] at hv
  split at hv
  · rename_i m' em
    rw [em] at rm
    simp only [Rel] at rm
    obtain ⟨b, hxm, hblk⟩ := rm
    rcases hi.blk _ _ hblk with ⟨es, c, cl, h1, h2, h3⟩ | ⟨s, pos, bs, h1, h2, h3⟩
    · rw [h1] at hv
      simp only [] at hv
      split at hv
      · rename_i es' hupd
        cases hv
        refine ⟨rfl, ?_⟩
        have hso : ∀ ob, (setObj b ob).run P w = .ok () (World.setBlk w b ob) := by intro ob; simp [setObj, Sem.run, h2, World.setBlk]
        have run : ∀ q ob, Instr.findNow d (a.eval k) c.toList 0 = some q →
            (match q with
              | some (i, _) => (do
                let key ← Instr.keyThatStays (((c[i]?).map (fun (x : MapEntry) => x.key)).getD (a.eval k)) (a.eval k)
                setObj b (.map (c.modify i fun e => { e with key, val := a.eval x }) cl) : Sem Unit)
              | none => setObj b (.map (c.push { key := a.eval k, val := a.eval x, born := cl }) (cl + 1))).run P w = .ok () (World.setBlk w b ob) →
            (execOp a.eval o).run P w = .ok .skip (World.setBlk w b ob) := by
          intro q ob hq hr
          have hfk := run_findKey (P := P) (w := w) hud hq
          have : (Instr.mapUpdate t (a.eval m) (a.eval k) (a.eval x)).run P w = .ok () (World.setBlk w b ob) := by
            unfold Instr.mapUpdate
            simp only [Sem.run_bind, run_underlying hu, Result.andThen_ok, hxm, run_getObj_map' h2, run_checkKey hud hf, hfk]
            cases q with
            | none => exact hr
            | some q => exact hr
          rcases ho with ho | ho <;> simp only [execOp, ho, Sem.run_bind, this, Result.andThen_ok, Sem.run_pure]
        rcases updE_run hf rk rx 0 h3 hupd with ⟨q1, q2⟩ | ⟨j, ov, oe, q1, q2, q3, q4⟩
        · refine ⟨undef, World.setBlk w b (.map (c.push { key := a.eval k, val := a.eval x, born := cl }) (cl + 1)), G, .inr ⟨rfl, run none _ q1 (hso _)⟩, rel_undef, ?_, Ex.write hblk rfl _⟩
          refine hi.write hblk rfl _ _ (fun n s => by rw [h1]; simp) (.inl ⟨_, _, _, St.get_set_eq _ _ _, setBlk_eq w _ (hi.dom hblk), ?_⟩)
          rw [Array.toList_push]
          exact q2 cl
        · refine ⟨undef, World.setBlk w b (.map (c.modify (0 + j) fun e => { e with key := a.eval k, val := a.eval x }) cl), G, .inr ⟨rfl, run (some (0 + j, ov)) _ q1 ?_⟩, rel_undef, ?_, Ex.write hblk rfl _⟩
          · have hcj : c[0 + j]? = some oe := by rw [Nat.zero_add, ← Array.getElem?_toList]; exact q2
            simp only [Sem.run_bind, hcj, Option.map_some, Option.getD_some, Instr.keyThatStays, q3, if_true, Sem.run_pure, Result.andThen_ok, hso]
          · refine hi.write hblk rfl _ _ (fun n s => by rw [h1]; simp) (.inl ⟨_, _, _, St.get_set_eq _ _ _, setBlk_eq w _ (hi.dom hblk), ?_⟩)
            rw [Array.toList_modify, Nat.zero_add]
            exact q4
      · cases hv
    · rw [h1] at hv; cases hv
  · cases hv

theorem zeros_rel {zs : List AV} {zv : Array Value} (h : RelL G zs zv.toList) : ∀ n, RelL G (List.replicate n zs).flatten (List.replicate n zv.toList).flatten
  | 0 => .nil
  | n + 1 => by rw [List.replicate_succ, List.replicate_succ, List.flatten_cons, List.flatten_cons]; exact RelL.append h (zeros_rel h n)

theorem zeros_cells {zv : Array Value} {s : Nat} (hs : zv.size = s) (h0 : 0 < s) : ∀ n, ((Array.range (n * s)).map fun x => zv[x % zv.size]!).toList = (List.replicate n zv.toList).flatten := by
  have key : ∀ n, (List.range (n * s)).map (fun x => zv[x % zv.size]!) = (List.replicate n zv.toList).flatten := by
    intro n
    induction n with
    | zero => simp
    | succ n ih =>
      rw [Nat.succ_mul, List.range_add, List.map_append, ih, List.replicate_succ', List.flatten_append]
      congr 1
      simp only [List.map_map, List.flatten_cons, List.flatten_nil, List.append_nil]
      apply List.ext_getElem?
      intro j
      simp only [List.getElem?_map, Array.getElem?_toList]
      by_cases hj : j < s
      · rw [List.getElem?_range hj]
        simp only [Option.map_some, Function.comp]
        rw [hs, Nat.mul_add_mod_self_right, Nat.mod_eq_of_lt hj]
        rw [Array.getElem?_eq_getElem (by omega), getElem!_pos zv j (by omega)]
      · rw [List.getElem?_eq_none (by simp; omega), Array.getElem?_eq_none (by omega)]
        rfl
  intro n
  rw [Array.toList_map]
  simpa using key n

theorem e_mkS {t e : TypeId} {l c : Operand} {ol oc : Opd} {i : TypeInfo} {z : AV} {σ' : St} {call : CallF} (hg : GlOk gl G) (he : RelL G env a.tmps.toList) (hi : Inv G σ w) (ho : o.op = .makeSlice t l c)
    (hu : P.underlying t = some (.slice e)) (hinf : P.info? e = some i) (hz : zeroT P e = some z) (hol : cOpd gl l = some ol) (hoc : cOpd gl c = some oc) {r : ER}
    (hv : evE call env σ (.mkS i.size i.bytes z.cells ol oc) = some (r, σ')) : ∃ v, r = .val v ∧ Does P G w a o v σ' := by
  have rl := opd_rel hg he hol
  have rc := opd_rel hg he hoc
  obtain ⟨i', zv, hinf', hzv, hav⟩ := zeroT_run hz
  rw [hinf] at hinf'; cases hinf'
  have rz := Rel.cells (toAV_rel hav G)
  simp only [evE] at hv
  split at hv
  · rename_i nl nc e1 e2
    rw [e1] at rl; rw [e2] at rc
    have el := rl.int_inv; have ec := rc.int_inv
    split at hv
    · rename_i hcond
      obtain ⟨h0, h1, h2, h3, h4, h5, h6⟩ := hcond
      cases hv
      have hzs : zv.cells.size = i.size := by have := rz.length; rw [Array.length_toList] at this; rw [this]; exact h4
      obtain ⟨n, rfl⟩ := Int.eq_ofNat_of_zero_le h0
      obtain ⟨m, rfl⟩ := Int.eq_ofNat_of_zero_le (Int.le_trans h0 h1)
      have wrapn : ∀ k : Nat, (k : Int) ≤ 140737488355328 → IntKind.i64.wrap (k : Int) = k := fun k hk => IntWalk.i64_in _ (by omega)
      have hm3 : (m : Int) ≤ 140737488355328 := h3
      have hwl := wrapn n (by omega)
      have hwc := wrapn m hm3
      have hbytes : (m : Int) * i.bytes ≤ 140737488355328 := h2
      have hb2 : ¬ ((i.bytes : Int) * m > 2 ^ 48) := by rw [Int.mul_comm]; omega
      refine ⟨_, rfl, .slice (some ⟨w.heap.size, 0, none⟩) n m, { w with heap := w.heap.push (.cells (((Array.range (m * i.size)).map fun x => zv.cells[x % zv.cells.size]!)) e (0, 0)) }, G.add w.heap.size (.var σ.next), .inl ?_, ?_, ?_, Ex.new hi _ _ (by intro m h; cases h; exact hi.nx)⟩
      · have hn0 : ¬ m * i.size = 0 ∨ m = 0 := by
          rcases Nat.eq_zero_or_pos m with h | h
          · exact .inr h
          · left; have := Nat.mul_pos h h6; omega
        simp only [execOp, ho, Instr.makeSlice, Sem.run_bind, run_underlying hu, Result.andThen_ok, el, ec, asInt, asIntOf, Sem.run_pure, run_info hinf, hwl, hwc]
        have c1 : (decide ((m : Int) < 0) || decide ((i.bytes : Int) * m > 2 ^ 48)) = false := by rw [decide_eq_false (show ¬ (m : Int) < 0 by omega), decide_eq_false hb2]; rfl
        have c2 : decide ((n : Int) < 0) = false := decide_eq_false (by omega)
        have c3 : decide ((n : Int) > m) = false := decide_eq_false (by omega)
        simp only [c1, c2, c3, Bool.or_false, Bool.false_eq_true, if_false, Sem.run_pure, Result.andThen_ok, Sem.run_bind, run_askRoom, Int.toNat_natCast, run_size (szT_of hinf)]
        rcases hn0 with hn0 | hn0
        · simp only [hn0, if_false, Sem.run_bind, run_zero hinf hzv, Result.andThen_ok, Sem.run_pure, newRow, run_newObj]
        · subst hn0
          simp only [Nat.zero_mul, if_true, Sem.run_pure, Result.andThen_ok, newRow, run_newObj, Sem.run_bind, Array.range_zero', List.map_toArray, List.map_nil]
      · simp only [Rel, Int.toNat_natCast]; exact ⟨_, rfl, Gh.add_self _ _ _⟩
      · refine hi.new_var _ _ _ ?_ ?_
        · rw [zeros_cells hzs h6, Int.toNat_natCast]
          exact zeros_rel rz m
        · intro y hy
          simp only [List.mem_flatten, List.mem_replicate] at hy
          obtain ⟨l', ⟨_, rfl⟩, hy⟩ := hy
          exact List.all_eq_true.1 h5 y hy
    · cases hv
  · cases hv

end
end Jet
