/-
A calculus for frames as functions: what is shown by rewriting holds of the evaluator.
-/
import Derived.Test.YteijihklafdlgaaGreatDoorJ05
import Derived.IntWalk
set_option linter.unusedSimpArgs false
set_option linter.unusedVariables false
set_option linter.constructorNameAsVariable false

namespace Jet
open Go

abbrev Fr := Nat → AV
def upd (f : Fr) (d : Nat) (v : AV) : Fr := fun i => if i = d then v else f i
theorem upd_apply (f : Fr) (d : Nat) (v : AV) (i : Nat) : upd f d v i = if i = d then v else f i := rfl

def fo (f : Fr) : Opd → AV
  | .t i => f i
  | .c v => v

/-- An environment that is a function's. -/
def toL (N : Nat) (f : Fr) : List AV := (List.range N).map f

/-- Nothing stands beyond. -/
def Top (N : Nat) (f : Fr) : Prop := ∀ i, N ≤ i → f i = .undef

theorem toL_get (N : Nat) (f : Fr) (i : Nat) : (toL N f)[i]? = if i < N then some (f i) else none := by
  unfold toL
  rw [List.getElem?_map]
  split
  · rename_i h; rw [List.getElem?_range h]; rfl
  · rename_i h; rw [List.getElem?_eq_none (by simpa using h)]; rfl

theorem ev_toL {N : Nat} {f : Fr} (h : Top N f) (x : Opd) : x.ev (toL N f) = fo f x := by
  cases x with
  | c v => rfl
  | t i =>
    simp only [Opd.ev, fo, toL_get]
    split
    · rfl
    · rename_i hi; rw [h i (by omega)]; rfl

theorem ev_toL_fun {N : Nat} {f : Fr} (h : Top N f) : Opd.ev (toL N f) = fo f := funext fun x => ev_toL h x

theorem put_toL {N : Nat} {f : Fr} {d : Nat} (v : AV) (h : d < N) : put (toL N f) (some d) v = toL N (upd f d v) := by
  simp only [put]
  apply List.ext_getElem?
  intro i
  rw [List.getElem?_set, toL_get, toL_get]
  by_cases hd : d = i
  · subst hd; simp [upd, h, toL]
  · rw [if_neg hd]
    have : i ≠ d := fun e => hd e.symm
    simp [upd, this]

theorem Top.upd {N : Nat} {f : Fr} (h : Top N f) {d : Nat} (v : AV) (hd : d < N) : Top N (upd f d v) := by
  intro i hi
  simp only [Jet.upd]
  rw [if_neg (by omega)]
  exact h i hi

/-! Operations, over what their operands come to. -/

def bndF (g : Opd → AV) (o : Option Opd) (dflt most : Nat) : Option Nat :=
  match o with
  | none => if dflt ≤ most then some dflt else none
  | some x => match g x with
    | .int _ i => if 0 ≤ i ∧ i ≤ most then some i.toNat else none
    | _ => none

def fillF (g : Opd → AV) : List AV → List (Nat × Nat × Opd) → Option (List AV)
  | cs, [] => some cs
  | cs, (off, n, x) :: rest =>
    if (g x).cells.length = n ∧ (g x).cells.all AV.one = true ∧ off + n ≤ cs.length then fillF g (splice cs off (g x).cells) rest else none

def iaS (s : Nat) (v i : AV) : Option AV :=
  match v, i with
    | .sl _ xs, .int _ n => if 0 ≤ n then (match xs[n.toNat]? with
      | some v => if v.cells.length = s then some (.ept v.cells) else none
      | none => none) else none
    | .ms s' m o len _, .int _ n => if s = s' ∧ 0 ≤ n ∧ n < len then some (.ptr m (o + n.toNat * s)) else none
    | _, _ => none

def iaA (len s : Nat) (v i : AV) : Option AV :=
  match v, i with
    | .ptr m o, .int _ n => if 0 ≤ n ∧ n < len then some (.ptr m (o + n.toNat * s)) else none
    | .ept cs, .int _ n => if 0 ≤ n ∧ n < len then some (.ept (cs.drop (n.toNat * s))) else none
    | _, _ => none

def ixS (v i : AV) : Option AV :=
  match v, i with
    | .str l, .int _ n => if 0 ≤ n then (match l[n.toNat]? with
      | some b => some (.int .u8 b.toNat)
      | none => none) else none
    | _, _ => none

def ixA (len s : Nat) (agg : Bool) (v i : AV) : Option AV :=
  match v, i with
    | .agg cs, .int _ n => if 0 ≤ n ∧ n < len then takeVal cs (n.toNat * s) s agg else none
    | _, _ => none

def perm3 (p : Perm) (l h n : Nat) : Perm := match p with
              | .full => if h = n then .full else .no
              | .tok t => if l = 0 then .tok t else .no
              | .no => .no

def slS (g : Opd → AV) (lo hi : Option Opd) (v : AV) : Option AV :=
  match v with
    | .str l => (bndF g hi l.length l.length).bind fun h => (bndF g lo 0 h).bind fun l' => some (.str ((l.take h).drop l'))
    | _ => none

def slL (g : Opd → AV) (s : Nat) (lo hi mx : Option Opd) (v : AV) : Option AV :=
  match v with
    | .sl p xs =>
      (bndF g mx xs.length xs.length).bind fun m => (bndF g hi xs.length m).bind fun h => (bndF g lo 0 h).bind fun l =>
        if l = 0 ∨ firstOk s xs = true then
          some (.sl (match mx with
            | some _ => if m = h then .full else .no
            | none => perm3 p l h xs.length) ((xs.take h).drop l))
        else none
    | .ms s' b o len cap =>
      (bndF g mx cap cap).bind fun m => (bndF g hi len m).bind fun h => (bndF g lo 0 h).bind fun l =>
        if s = s' then some (.ms s b (if m = l then o else o + l * s) (h - l) (m - l)) else none
    | _ => none

def slA (g : Opd → AV) (n s : Nat) (lo hi mx : Option Opd) (v : AV) : Option AV :=
  match v with
    | .ptr b o => (bndF g mx n n).bind fun m => (bndF g hi n m).bind fun h => (bndF g lo 0 h).bind fun l =>
        some (.ms s b (if m = l then o else o + l * s) (h - l) (m - l))
    | _ => none

def nilC (v : AV) : Option AV := match v with
    | .ptr m o => some (.ptr m o)
    | .ept cs => some (.ept cs)
    | .fn (.func f) a b => some (.fn (.func f) a b)
    | _ => none

def cInt (k : IntKind) (v : AV) : Option AV := match v with
    | .int _ n => some (.int k (k.wrap n))
    | _ => none

def cChr (v : AV) : Option AV := match v with
    | .int _ n => some (.str (Utf8.encode n).data.toList)
    | _ => none

def cId (v : AV) : Option AV := match v with
    | .str s => some (.str s)
    | _ => none

def sByt (v : AV) : Option AV := match v with
    | .str s => some (.sl .no (s.map fun b => .int .u8 b.toNat))
    | _ => none

def tAss (want : TypeId) (zero : AV) (ok : Bool) (v : AV) : Option AV := match v with
    | .iface t v => if t = want then some (if ok then .tup [v, .bool true] else v) else if ok then some (.tup [zero, .bool false]) else none
    | .nili => if ok then some (.tup [zero, .bool false]) else none
    | _ => none

def extA (i : Nat) (v : AV) : Option AV := match v with
    | .tup vs => vs[i]?
    | _ => none

def lenSA (v : AV) : Option AV := match v with
    | .str l => some (.int .i64 l.length)
    | _ => none

def lenA (v : AV) : Option AV := match v with
    | .sl _ xs => some (.int .i64 xs.length)
    | .ms _ _ _ n _ => some (.int .i64 n)
    | _ => none

def capA (v : AV) : Option AV := match v with
    | .sl .full xs => some (.int .i64 xs.length)
    | .ms _ _ _ _ n => some (.int .i64 n)
    | _ => none

def mnA (mx : Bool) (vs : List AV) : Option AV := match vs with
    | x :: r => mnmxL mx x r
    | [] => none

def fldA (off n : Nat) (agg : Bool) (v : AV) : Option AV := match v with
    | .agg cs => takeVal cs off n agg
    | _ => none

def fadA (off : Nat) (v : AV) : Option AV := match v with
    | .ptr m o => some (.ptr m (o + off))
    | .ept cs => some (.ept (cs.drop off))
    | _ => none

def pickA (c a b : AV) : Option AV := match c with
    | .bool t => some (if t then a else b)
    | _ => none

def bslA (s : Nat) (vs : List AV) : Option AV :=
    if vs.all (okElem s) = true ∧ vs.length * s ≤ 16777216 then some (.sl .full vs) else none

def evPF (g : Opd → AV) : POp → Option AV
  | .mv x => some (g x)
  | .pick c a b => pickA (g c) (g a) (g b)
  | .build zero parts => (fillF g zero parts).map .agg
  | .bslice s xs => bslA s (xs.map g)
  | .field off n agg x => fldA off n agg (g x)
  | .faddr off x => fadA off (g x)
  | .iaddrS s x i => iaS s (g x) (g i)
  | .iaddrA len s x i => iaA len s (g x) (g i)
  | .idxStr x i => ixS (g x) (g i)
  | .idxArr len s agg x i => ixA len s agg (g x) (g i)
  | .slcStr x lo hi => slS g lo hi (g x)
  | .slcSl s x lo hi mx => slL g s lo hi mx (g x)
  | .slcArr n s x lo hi mx => slA g n s lo hi mx (g x)
  | .nilchk x => nilC (g x)
  | .bin op ek x y => abin op ek (g x) (g y)
  | .un op x => aun op (g x)
  | .convInt k x => cInt k (g x)
  | .convChr x => cChr (g x)
  | .convId x => cId (g x)
  | .sbytes x => sByt (g x)
  | .mkI t x => some (.iface t (g x))
  | .mkF f first captured => some (.fn f (first.map g) (captured.map g))
  | .tass want zero ok x => tAss want zero ok (g x)
  | .ext i x => extA i (g x)
  | .lenS x => lenSA (g x)
  | .len x => lenA (g x)
  | .cap x => capA (g x)
  | .mnmx mx xs => mnA mx (xs.map g)

section
variable {N : Nat} {f : Fr}

theorem bnd_F (h : Top N f) (o : Option Opd) (d m : Nat) : bnd (toL N f) o d m = bndF (fo f) o d m := by
  cases o with
  | none => rfl
  | some x => simp only [bnd, bndF, ev_toL h]; rfl

theorem fill_F (h : Top N f) : ∀ (ps : List (Nat × Nat × Opd)) (cs : List AV), fillA (toL N f) cs ps = fillF (fo f) cs ps
  | [], cs => rfl
  | (off, n, x) :: ps, cs => by
    simp only [fillA, fillF, ev_toL h]
    split
    · exact fill_F h ps _
    · rfl

theorem bnd_fun (h : Top N f) : bnd (toL N f) = bndF (fo f) := by
  funext o d m; exact bnd_F h o d m

theorem evP_F (h : Top N f) (op : POp) : evP (toL N f) op = evPF (fo f) op := by
  cases op <;> simp only [evP, evPF, ev_toL h, ev_toL_fun h, fill_F h, bnd_fun h, pickA, bslA, fldA, fadA, iaS, iaA, ixS, ixA, slS, slL, slA, nilC, cInt, cChr, cId, sByt, tAss, extA, lenSA, lenA, capA, mnA, perm3] <;> rfl
end

/-! Reads, over what their operands come to. -/

def ldA (n : Nat) (agg : Bool) (σ : St) (v : AV) : Option AV := match v with
    | .ptr m o => match σ.get m with
      | some (.cells cs) => takeVal cs o n agg
      | _ => none
    | .ept cs => takeVal cs 0 n agg
    | _ => none

def fndA (zero : AV) (ok : Bool) : Option (Option AV) → Option AV
  | some (some v) => some (if ok then .tup [v, .bool true] else v)
  | some none => some (if ok then .tup [zero, .bool false] else zero)
  | none => none

def lkA (kk : KK) (zero : AV) (ok : Bool) (σ : St) (m k : AV) : Option AV := match m with
    | .nilm => fndA zero ok (some none)
    | .map m => match σ.get m with
      | some (.map es) => fndA zero ok (findE kk k es)
      | _ => none
    | _ => none

def lmA (σ : St) (m : AV) : Option AV := match m with
    | .nilm => some (.int .i64 0)
    | .map m => match σ.get m with
      | some (.map es) => some (.int .i64 es.length)
      | _ => none
    | _ => none

def bsA (σ : St) (v : AV) : Option AV := match v with
    | .sl _ xs => (xs.mapM byteOfAV).map .str
    | .ms 1 m o len _ => match σ.get m with
      | some (.cells cs) => if o + len ≤ cs.length then (((cs.drop o).take len).mapM byteOfAV).map .str else none
      | _ => none
    | _ => none

def evRF (g : Opd → AV) (σ : St) : ROp → Option AV
  | .load n agg a => ldA n agg σ (g a)
  | .lookup kk zero ok m k => lkA kk zero ok σ (g m) (g k)
  | .lenM m => lmA σ (g m)
  | .bstr x => bsA σ (g x)

theorem evR_F {N : Nat} {f : Fr} (h : Top N f) (σ : St) (op : ROp) : evR (toL N f) σ op = evRF (fo f) σ op := by
  cases op with
  | load n agg a => simp only [evR, evRF, ev_toL h, ldA]; rfl
  | lookup kk zero ok m k =>
    simp only [evR, evRF, ev_toL h, lkA]
    generalize fo f m = vm
    cases vm <;> rfl
  | lenM m => simp only [evR, evRF, ev_toL h, lmA]; rfl
  | bstr x => simp only [evR, evRF, ev_toL h, bsA]; rfl

/-- A read whose operands are what they come to. -/
def ROp.inst (g : Opd → AV) : ROp → ROp
  | .load n agg a => .load n agg (.c (g a))
  | .lookup kk zero ok m k => .lookup kk zero ok (.c (g m)) (.c (g k))
  | .lenM m => .lenM (.c (g m))
  | .bstr x => .bstr (.c (g x))

def g0F : Opd → AV := fo fun _ => .undef

theorem evRF_inst (g : Opd → AV) (σ : St) (op : ROp) : evRF g0F σ (op.inst g) = evRF g σ op := by cases op <;> rfl

/-! Effects but for calls. -/

def stE (n : Nat) (σ : St) (a x : AV) : Option (AV × St) := match a with
    | .ptr m o => match σ.get m with
      | some (.cells old) => if x.cells.length = n ∧ x.cells.all AV.one = true ∧ o + n ≤ old.length then some (.undef, σ.set m (.cells (splice old o x.cells))) else none
      | _ => none
    | _ => none

def bxE (σ : St) (x : AV) : Option (AV × St) := if x.cells.all AV.one = true then some (.ptr σ.next 0, σ.push (.cells x.cells)) else none

def mkSE (s bytes : Nat) (zero : List AV) (σ : St) (l c : AV) : Option (AV × St) := match l, c with
    | .int .i64 l, .int .i64 c =>
      if 0 ≤ l ∧ l ≤ c ∧ c * bytes ≤ 140737488355328 ∧ c ≤ 140737488355328 ∧ zero.length = s ∧ zero.all AV.one = true ∧ 0 < s then
        some (.ms s σ.next 0 l.toNat c.toNat, σ.push (.cells (List.replicate c.toNat zero).flatten))
      else none
    | _, _ => none

def apE (s bytes : Nat) (σ : St) (x y : AV) : Option (AV × St) := match elems σ s y with
    | some ys => evApp s bytes x ys σ
    | none => none

def muE (kk : KK) (σ : St) (m k v : AV) : Option (AV × St) := match m with
    | .map m => match σ.get m with
      | some (.map es) => match updE kk k v es with
        | some es' => some (.undef, σ.set m (.map es'))
        | none => none
      | _ => none
    | _ => none

def rgE (σ : St) (x : AV) : Option (AV × St) := match x with
    | .str l => some (.iter σ.next, σ.push (.iter l 0))
    | _ => none

def nxE (σ : St) (it : AV) : Option (AV × St) := match it with
    | .iter m => match σ.get m with
      | some (.iter rest pos) => match rest with
        | [] => some (.tup [.bool false], σ)
        | _ :: _ => some (.tup [.bool true, .int .i64 pos, .int .i32 (decL rest).1], σ.set m (.iter (rest.drop (decL rest).2) (pos + (decL rest).2)))
      | _ => none
    | _ => none

def evEF (g : Opd → AV) (σ : St) : EOp → Option (AV × St)
  | .store n a x => stE n σ (g a) (g x)
  | .box x => bxE σ (g x)
  | .mkM => some (.map σ.next, σ.push (.map []))
  | .mkS s bytes zero l c => mkSE s bytes zero σ (g l) (g c)
  | .app s bytes x y => apE s bytes σ (g x) (g y)
  | .mupd kk m k v => muE kk σ (g m) (g k) (g v)
  | .range x => rgE σ (g x)
  | .next it => nxE σ (g it)
  | _ => none

theorem evE_F {N : Nat} {f : Fr} (h : Top N f) (call : CallF) (σ : St) (op : EOp) {v : AV} {σ' : St} (he : evEF (fo f) σ op = some (v, σ')) :
    evE call (toL N f) σ op = some (.val v, σ') := by
  cases op with
  | store n a x =>
    simp only [evEF, stE] at he
    simp only [evE, ev_toL h]
    generalize fo f a = va at *
    cases va <;> first | (exfalso; simp at he; done) | skip
    rename_i m o
    simp only at he ⊢
    generalize σ.get m = g at *
    cases g with
    | none => cases he
    | some ob =>
      cases ob <;> first | (exfalso; simp at he; done) | skip
      simp only at he ⊢
      split at he
      · rename_i h1; cases he; simp only [h1, and_self, if_true]
      · cases he
  | box x =>
    simp only [evEF, bxE] at he
    simp only [evE, ev_toL h]
    split at he
    · rename_i h1; cases he; simp only [h1, if_true]
    · cases he
  | mkM => simp only [evEF] at he; cases he; rfl
  | mkS s bytes zero l c =>
    simp only [evEF, mkSE] at he
    simp only [evE, ev_toL h]
    generalize fo f l = vl at *
    generalize fo f c = vc at *
    cases vl <;> first | (exfalso; simp at he; done) | skip
    rename_i k1 n1
    cases k1 <;> first | (exfalso; simp at he; done) | skip
    cases vc <;> first | (exfalso; simp at he; done) | skip
    rename_i k2 n2
    cases k2 <;> first | (exfalso; simp at he; done) | skip
    simp only at he ⊢
    split at he
    · rename_i h1; cases he; rw [if_pos h1]
    · cases he
  | app s bytes x y =>
    simp only [evEF, apE] at he
    simp only [evE, ev_toL h]
    split at he
    · rename_i e1; simp only [e1, he, Option.map_some]
    · cases he
  | mupd kk m k x =>
    simp only [evEF, muE] at he
    simp only [evE, ev_toL h]
    generalize fo f m = vm at *
    cases vm <;> first | (exfalso; simp at he; done) | skip
    rename_i m
    simp only at he ⊢
    generalize σ.get m = g at *
    cases g with
    | none => cases he
    | some ob =>
      cases ob <;> first | (exfalso; simp at he; done) | skip
      simp only at he ⊢
      split at he
      · rename_i e3; cases he; simp only [e3]
      · cases he
  | range x =>
    simp only [evEF, rgE] at he
    simp only [evE, ev_toL h]
    generalize fo f x = vx at *
    cases vx <;> first | (exfalso; simp at he; done) | skip
    simp only [Option.some.injEq, Prod.mk.injEq] at he
    obtain ⟨rfl, rfl⟩ := he
    rfl
  | next it =>
    simp only [evEF, nxE] at he
    simp only [evE, ev_toL h]
    generalize fo f it = vx at *
    cases vx <;> first | (exfalso; simp at he; done) | skip
    rename_i m
    simp only at he ⊢
    generalize σ.get m = g at *
    cases g with
    | none => cases he
    | some ob =>
      cases ob <;> first | (exfalso; simp at he; done) | skip
      rename_i rest pos
      cases rest with
      | nil => simp only [Option.some.injEq, Prod.mk.injEq] at he; obtain ⟨rfl, rfl⟩ := he; rfl
      | cons a b => simp only [Option.some.injEq, Prod.mk.injEq] at he; obtain ⟨rfl, rfl⟩ := he; rfl
  | _ => all_goals (simp only [evEF] at he; cases he)

/-! Regions. -/

/-- What a call comes to, in a table, at all depths from one on. -/
def Runs (T : Tab) (f : FuncId) (args : List AV) (σ : St) (K : Out → St → Prop) : Prop :=
  ∃ o σ', (∃ n, ∀ m, n ≤ m → evCall T m f args σ = some (o, σ')) ∧ K o σ'

abbrev CK := FuncId → List AV → St → (Out → St → Prop) → Prop
abbrev KF := AX → Fr → St → Prop
abbrev NX := Fr → St → Prop

def ret (N : Nat) (next : NX) (f : Fr) (d : Option Nat) (σ : St) (v : AV) : Prop := match d with
  | none => next f σ
  | some d => d < N ∧ next (upd f d v) σ

def retO (N : Nat) (next : NX) (f : Fr) (d : Option Nat) (σ : St) (r : Option AV) : Prop := match r with
  | some v => ret N next f d σ v
  | none => False

def retS (N : Nat) (next : NX) (f : Fr) (d : Option Nat) (r : Option (AV × St)) : Prop := match r with
  | some (v, σ) => ret N next f d σ v
  | none => False

def callR (N : Nat) (next : NX) (f : Fr) (d : Option Nat) (k : KF) : Out → St → Prop := fun o σ => match o with
  | .ret v => ret N next f d σ v
  | .pan v => k (.pan v) f σ

def callC (C : CK) (σ : St) (fv : AV) (args : List AV) (K : Out → St → Prop) : Prop := match fv with
  | .fn (.func f) first captured => C f (first ++ args ++ captured) σ K
  | _ => False

def panK (k : KF) (f : Fr) (σ : St) (v : AV) : Prop := match v with
  | .iface t v => k (.pan (.iface t v)) f σ
  | _ => False

def wantF (f : Fr) (g : Option (Nat × Bool)) : Bool := match g with
  | none => true
  | some (d, b) => match f d with
    | .bool c => c == b
    | _ => false

def stepE (C : CK) (N : Nat) (next : NX) (f : Fr) (d : Option Nat) (σ : St) (k : KF) : EOp → Prop
  | .call g args => callC C σ (fo f g) (args.map (fo f)) (callR N next f d k)
  | .panic x => panK k f σ (fo f x)
  | .defer _ _ => False
  | .recov => False
  | .bad => False
  | e => retS N next f d (evEF (fo f) σ e)

def stepA (C : CK) (N : Nat) (next : NX) (f : Fr) (d : Option Nat) (σ : St) (k : KF) : AOp → Prop
  | .p op => retO N next f d σ (evPF (fo f) op)
  | .r op => retO N next f d σ (evRF (fo f) σ op)
  | .al zero => ret N next f d (σ.push (.cells zero)) (.ptr σ.next 0)
  | .e op => stepE C N next f d σ k op

def stepO (C : CK) (N : Nat) (next : NX) (f : Fr) (σ : St) (k : KF) (o : AOper) : Prop := match wantF f o.guard with
  | true => stepA C N next f o.dst σ k o.op
  | false => ret N next f o.dst σ .undef

def WO (C : CK) (N : Nat) : List AOper → Fr → St → KF → Prop
  | [], f, σ, k => k .norm f σ
  | o :: os, f, σ, k => stepO C N (fun f σ => WO C N os f σ k) f σ k o

def nxO (C : CK) (N : Nat) (os : List AOper) (k : KF) : NX := fun f σ => WO C N os f σ k

/-! Regions whose order is open. -/

/-- What must still hold behind effects. -/
inductive CF where
  | rd (op : ROp) (v : AV)
  | zr (m : Nat) (zero : List AV)

def okC (σ : St) : CF → Prop
  | .rd op v => evRF g0F σ op = some v ∧ AV.beq v v = true
  | .zr m zero => σ.get m = some (.cells zero) ∧ AV.beqs zero zero = true

def pendC (σ : St) : List (CF × Nat) → Prop
  | [] => True
  | p :: ps => okC σ p.1 ∧ pendC σ ps

def downC : List (CF × Nat) → List (CF × Nat)
  | [] => []
  | p :: ps => match p.2 with
    | 0 => downC ps
    | 1 => downC ps
    | n + 2 => (p.1, n + 1) :: downC ps

def allC (c : CF) : Nat → List St → Prop
  | 0, _ => True
  | _ + 1, [] => True
  | n + 1, σ :: σs => okC σ c ∧ allC c n σs

def pushC (c : CF) (n : Nat) (pend : List (CF × Nat)) : List (CF × Nat) := match n with
  | 0 => pend
  | n + 1 => (c, n + 1) :: pend

/-- A state of such a region: the frame, the store, the stores ahead of each effect, what must still hold, names. -/
structure DS where
  f : Fr
  σ : St
  sn : List St
  pd : List (CF × Nat)
  nm : List Nat

abbrev DX := DS → Prop

def dRet (N : Nat) (next : DX) (s : DS) (d : Option Nat) (v : AV) : Prop := match d with
  | none => next s
  | some d => d < N ∧ next { s with f := upd s.f d v }

def dP (N : Nat) (next : DX) (s : DS) (d : Option Nat) (r : Option AV) : Prop := match r with
  | some v => dRet N next s d v
  | none => False

def dR (N : Nat) (next : DX) (s : DS) (d : Option Nat) (nb nf : Nat) (op : ROp) (r : Option AV) : Prop := match r with
  | some v => allC (.rd op v) nb s.sn ∧ dRet N next { s with pd := pushC (.rd op v) nf s.pd } d v
  | none => False

def dE (N : Nat) (next : DX) (s : DS) (d : Option Nat) (r : Option (AV × St)) : Prop := match r with
  | some (v, σ') => pendC σ' s.pd ∧ dRet N next { s with σ := σ', sn := s.σ :: s.sn, pd := downC s.pd } d v
  | none => False

def dCallR (N : Nat) (next : DX) (s : DS) (d : Option Nat) : Out → St → Prop := fun o σ' => match o with
  | .ret v => dE N next s d (some (v, σ'))
  | .pan _ => False

def dEff (C : CK) (N : Nat) (next : DX) (s : DS) (d : Option Nat) : EOp → Prop
  | .call g args => callC C s.σ (fo s.f g) (args.map (fo s.f)) (dCallR N next s d)
  | .panic _ => False
  | .defer _ _ => False
  | .recov => False
  | .bad => False
  | e => dE N next s d (evEF (fo s.f) s.σ e)

def dAl (N : Nat) (next : DX) (s : DS) (d : Option Nat) (nb nf : Nat) (zero : List AV) : Prop := match s.nm with
  | m :: nm => okC s.σ (.zr m zero) ∧ allC (.zr m zero) nb s.sn ∧ dRet N next { s with pd := pushC (.zr m zero) nf s.pd, nm := nm } d (.ptr m 0)
  | [] => False

def dGo (C : CK) (N : Nat) (next : DX) (s : DS) (o : AOper) : Prop := match o.op with
  | .p op => dP N next s o.dst (evPF (fo s.f) op)
  | .r op => dR N next s o.dst o.nb o.nf (op.inst (fo s.f)) (evRF (fo s.f) s.σ op)
  | .al zero => dAl N next s o.dst o.nb o.nf zero
  | .e op => dEff C N next s o.dst op

def dSkip (N : Nat) (next : DX) (s : DS) (o : AOper) : Prop := match o.op with
  | .e _ => pendC s.σ s.pd ∧ dRet N next { s with sn := s.σ :: s.sn, pd := downC s.pd } o.dst .undef
  | .al _ => dRet N next { s with nm := s.nm.tail } o.dst .undef
  | _ => dRet N next s o.dst .undef

def dStep (C : CK) (N : Nat) (next : DX) (s : DS) (o : AOper) : Prop := match wantF s.f o.guard with
  | true => dGo C N next s o
  | false => dSkip N next s o

def WD (C : CK) (N : Nat) : List AOper → DS → NX → Prop
  | [], s, k => k s.f s.σ
  | o :: os, s, k => dStep C N (fun s => WD C N os s k) s o

def nxD (C : CK) (N : Nat) (os : List AOper) (k : NX) : DX := fun s => WD C N os s k

/-! Code. -/

def seqF (W : Fr → St → KF → Prop) (k : KF) : KF := fun x f σ => match x with
  | .norm => W f σ k
  | .exit i => k (.exit i) f σ
  | .ret => k .ret f σ
  | .pan v => k (.pan v) f σ

def blockF (id : Nat) (k : KF) : KF := fun x f σ => match x with
  | .exit i => if i = id then k .norm f σ else k (.exit i) f σ
  | .norm => k .norm f σ
  | .ret => k .ret f σ
  | .pan v => k (.pan v) f σ

def condF (W1 W2 : Prop) (v : AV) : Prop := match v with
  | .bool true => W1
  | .bool false => W2
  | _ => False

def loopF (I : Fr → St → Prop) (k : KF) : KF := fun x f σ => match x with
  | .norm => I f σ
  | .exit i => k (.exit i) f σ
  | .ret => k .ret f σ
  | .pan v => k (.pan v) f σ

def normF (k : KF) : NX := fun f σ => k .norm f σ

def WC (C : CK) (N : Nat) : ACode → Fr → St → KF → Prop
  | .skip => fun f σ k => k .norm f σ
  | .reg ops false => fun f σ k => WO C N ops f σ k
  | .reg ops true => fun f σ k => WD C N ops { f := f, σ := (hoist ops σ).2, sn := [], pd := [], nm := (hoist ops σ).1 } (normF k)
  | .seq x y => fun f σ k => WC C N x f σ (seqF (WC C N y) k)
  | .cond c x y => fun f σ k => condF (WC C N x f σ k) (WC C N y f σ k) (fo f c)
  | .block id x => fun f σ k => WC C N x f σ (blockF id k)
  | .loop x => fun f σ k => ∀ I : Fr → St → Prop, (∀ f σ, WC C N x f σ (loopF I k) → I f σ) → I f σ
  | .exit id => fun f σ k => k (.exit id) f σ
  | .ret => fun f σ k => k .ret f σ
  | .bad => fun _ _ _ => False

def resF (f : Fr) (σ : St) : ARes → Option AV
  | .t i => some (f i)
  | .c a n agg => ldA n agg σ (f a)

def finF (rs : List ARes) (f : Fr) (σ : St) : Option AV :=
  (rs.mapM (resF f σ)).map fun vs => match vs with
    | [v] => v
    | vs => .tup vs

def finK (K : Out → St → Prop) (σ : St) (r : Option AV) : Prop := match r with
  | some v => K (.ret v) σ
  | none => False

def endF (K : Out → St → Prop) (rs : List ARes) : KF := fun x f σ => match x with
  | .norm => finK K σ (finF rs f σ)
  | .ret => finK K σ (finF rs f σ)
  | .pan v => K (.pan v) σ
  | .exit _ => False

def enterF (args : List AV) : Fr := fun i => (args[i]?).getD .undef

end Jet

/-
What the calculus shows holds of the evaluator.
-/
namespace Jet
open Go

section
variable {T : Tab} {N : Nat}

/-- At all depths from one on. -/
def Ev {α : Type} (F : Nat → Option α) (r : α) : Prop := ∃ n, ∀ m, n ≤ m → F m = some r

theorem want_F {f : Fr} (h : Top N f) (g : Option (Nat × Bool)) : wantedA (toL N f) g = wantF f g := by
  cases g with
  | none => rfl
  | some p =>
    obtain ⟨d, b⟩ := p
    simp only [wantedA, wantF, toL_get]
    by_cases hd : d < N
    · rw [if_pos hd]
      generalize f d = v
      cases v <;> rfl
    · rw [if_neg hd, h d (by omega)]

/-- What is put. -/
theorem put_F {f : Fr} (h : Top N f) {d : Option Nat} {next : NX} {σ : St} {v : AV} (hr : ret N next f d σ v) :
    ∃ f', Top N f' ∧ put (toL N f) d v = toL N f' ∧ next f' σ := by
  cases d with
  | none => exact ⟨f, h, rfl, hr⟩
  | some d => exact ⟨upd f d v, h.upd v hr.1, put_toL v hr.1, hr.2⟩

theorem WO_sound : ∀ (os : List AOper) {f : Fr} {σ : St} {k : KF}, Top N f → WO (Runs T) N os f σ k →
    ∃ x f' σ', Ev (fun m => evOps (evCall T m) os ⟨toL N f, []⟩ σ) (x, ⟨toL N f', []⟩, σ') ∧ Top N f' ∧ k x f' σ'
  | [], f, σ, k, h, hw => ⟨.norm, f, σ, ⟨0, fun m _ => rfl⟩, h, hw⟩
  | o :: os, f, σ, k, h, hw => by
    simp only [WO, stepO] at hw
    -- the rest
    have rest : ∀ (v : AV) (σ1 : St), ret N (fun f σ => WO (Runs T) N os f σ k) f o.dst σ1 v →
        ∃ x f' σ', Ev (fun m => evOps (evCall T m) os ⟨put (toL N f) o.dst v, []⟩ σ1) (x, ⟨toL N f', []⟩, σ') ∧ Top N f' ∧ k x f' σ' := by
      intro v σ1 hr
      obtain ⟨f1, h1, h2, h3⟩ := put_F h hr
      rw [h2]
      exact WO_sound os h1 h3
    -- a step whose answer does not hang on the depth
    have one : ∀ (v : AV) (σ1 : St), ret N (fun f σ => WO (Runs T) N os f σ k) f o.dst σ1 v → (∀ m, evOps (evCall T m) (o :: os) ⟨toL N f, []⟩ σ = evOps (evCall T m) os ⟨put (toL N f) o.dst v, []⟩ σ1) →
        ∃ x f' σ', Ev (fun m => evOps (evCall T m) (o :: os) ⟨toL N f, []⟩ σ) (x, ⟨toL N f', []⟩, σ') ∧ Top N f' ∧ k x f' σ' := by
      intro v σ1 hr he
      obtain ⟨x, f', σ', ⟨n, hn⟩, r2, r3⟩ := rest v σ1 hr
      exact ⟨x, f', σ', ⟨n, fun m hm => by simp only [he m]; exact hn m hm⟩, r2, r3⟩
    split at hw
    · rename_i hg
      rw [← want_F h] at hg
      cases ho : o.op with
      | p op =>
        simp only [ho, stepA, retO] at hw
        split at hw
        · rename_i v hv
          exact one v σ hw fun m => by simp only [evOps, hg, if_true, ho, evP_F h, hv]
        · exact hw.elim
      | r op =>
        simp only [ho, stepA, retO] at hw
        split at hw
        · rename_i v hv
          exact one v σ hw fun m => by simp only [evOps, hg, if_true, ho, evR_F h, hv]
        · exact hw.elim
      | al zero =>
        simp only [ho, stepA] at hw
        exact one _ _ hw fun m => by simp only [evOps, hg, if_true, ho]
      | e op =>
        simp only [ho, stepA] at hw
        have eff : retS N (fun f σ => WO (Runs T) N os f σ k) f o.dst (evEF (fo f) σ op) →
            ∃ x f' σ', Ev (fun m => evOps (evCall T m) (o :: os) ⟨toL N f, []⟩ σ) (x, ⟨toL N f', []⟩, σ') ∧ Top N f' ∧ k x f' σ' := by
          intro hr
          unfold retS at hr
          split at hr
          · rename_i v σ1 hv
            exact one v σ1 hr fun m => by simp only [evOps, hg, if_true, ho, evE_F h _ _ _ hv]
          · exact hr.elim
        cases op with
        | call g args =>
          simp only [stepE, callC] at hw
          split at hw
          · rename_i fid first captured hf
            obtain ⟨out, σ1, ⟨n0, hn0⟩, hk⟩ := hw
            have hcal : callee ((g.ev (toL N f))) (args.map (Opd.ev (toL N f))) = some (fid, first ++ args.map (fo f) ++ captured) := by
              rw [ev_toL h, hf, ev_toL_fun h]; rfl
            cases out with
            | ret v =>
              simp only [callR] at hk
              obtain ⟨x, f', σ', ⟨n, hn⟩, r2, r3⟩ := rest v σ1 hk
              refine ⟨x, f', σ', ⟨max n0 n, fun m hm => ?_⟩, r2, r3⟩
              have h1 := hn0 m (by omega)
              have h2 := hn m (by omega)
              simp only [evOps, hg, if_true, ho, evE, hcal, h1]
              exact h2
            | pan v =>
              simp only [callR] at hk
              refine ⟨.pan v, f, σ1, ⟨n0, fun m hm => ?_⟩, h, hk⟩
              have h1 := hn0 m hm
              simp only [evOps, hg, if_true, ho, evE, hcal, h1]
          · exact hw.elim
        | panic x =>
          simp only [stepE, panK] at hw
          split at hw
          · rename_i t v hx
            refine ⟨.pan (.iface t v), f, σ, ⟨0, fun m _ => ?_⟩, h, hw⟩
            simp only [evOps, hg, if_true, ho, evE, ev_toL h, hx]
          · exact hw.elim
        | defer g args => exact hw.elim
        | recov => exact hw.elim
        | bad => exact hw.elim
        | store n a x => exact eff hw
        | box x => exact eff hw
        | mkM => exact eff hw
        | mkS s b z l c => exact eff hw
        | app s b x y => exact eff hw
        | mupd kk m x v => exact eff hw
        | range x => exact eff hw
        | next it => exact eff hw
    · rename_i hg
      rw [← want_F h] at hg
      exact one .undef σ hw fun m => by simp only [evOps, hg, Bool.false_eq_true, if_false]

/-! Regions whose order is open. -/

def CRl (cf : CF) (c : Chk) : Prop := ∀ σ, okC σ cf → okChk σ c = true

def PRel (pc : List (CF × Nat)) (p : List (Chk × Nat)) : Prop := ∀ c n, (c, n) ∈ p → n ≠ 0 → ∃ cf, (cf, n) ∈ pc ∧ CRl cf c

theorem pendC_mem {σ : St} : ∀ {pc : List (CF × Nat)}, pendC σ pc → ∀ cf n, (cf, n) ∈ pc → okC σ cf
  | [], _, _, _, h => by cases h
  | p :: ps, hp, cf, n, h => by
    rcases List.mem_cons.1 h with e | h
    · rw [← e] at hp; exact hp.1
    · exact pendC_mem hp.2 cf n h

theorem pend_ok {σ : St} {pc : List (CF × Nat)} : ∀ {p : List (Chk × Nat)}, PRel pc p → pendC σ pc → pendOk σ p = true
  | [], _, _ => rfl
  | (c, n) :: ps, hr, hp => by
    have h2 := pend_ok (p := ps) (fun c n hm hn => hr c n (by simp [hm]) hn) hp
    simp only [pendOk, h2, Bool.and_true]
    by_cases hn : n = 0
    · simp [hn]
    · obtain ⟨cf, h3, h4⟩ := hr c n (by simp) hn
      simp [h4 σ (pendC_mem hp cf n h3)]

theorem down_mem {cf : CF} {n : Nat} : ∀ {pc : List (CF × Nat)}, (cf, n + 2) ∈ pc → (cf, n + 1) ∈ downC pc
  | [], h => by cases h
  | p :: ps, h => by
    rcases List.mem_cons.1 h with e | h
    · subst e; simp [downC]
    · have := down_mem h
      unfold downC
      split <;> simp [this]

theorem pendDown_mem {c : Chk} {n : Nat} : ∀ {p : List (Chk × Nat)}, (c, n) ∈ pendDown p → (c, n + 1) ∈ p ∧ 1 ≤ n
  | [], h => by cases h
  | (c', n') :: ps, h => by
    unfold pendDown at h
    split at h
    · have := pendDown_mem h; exact ⟨by simp [this.1], this.2⟩
    · rename_i hlt
      simp only at hlt
      rcases List.mem_cons.1 h with e | h
      · simp only [Prod.mk.injEq] at e
        obtain ⟨rfl, rfl⟩ := e
        have : n' - 1 + 1 = n' := by omega
        exact ⟨by simp [this], by omega⟩
      · have := pendDown_mem h; exact ⟨by simp [this.1], this.2⟩

theorem down_rel {pc : List (CF × Nat)} {p : List (Chk × Nat)} (h : PRel pc p) : PRel (downC pc) (pendDown p) := by
  intro c n hm hn
  obtain ⟨h1, h2⟩ := pendDown_mem hm
  obtain ⟨cf, h3, h4⟩ := h c (n + 1) h1 (by omega)
  obtain ⟨n, rfl⟩ : ∃ n', n = n' + 1 := ⟨n - 1, by omega⟩
  exact ⟨cf, down_mem h3, h4⟩

theorem push_rel {pc : List (CF × Nat)} {p : List (Chk × Nat)} {cf : CF} {c : Chk} {n : Nat} (h : PRel pc p) (hc : CRl cf c) : PRel (pushC cf n pc) ((c, n) :: p) := by
  intro c' n' hm hn
  rcases List.mem_cons.1 hm with e | hm
  · simp only [Prod.mk.injEq] at e
    obtain ⟨rfl, rfl⟩ := e
    cases n' with
    | zero => exact absurd rfl hn
    | succ n' => exact ⟨cf, by simp [pushC], hc⟩
  · obtain ⟨cf', h1, h2⟩ := h c' n' hm hn
    refine ⟨cf', ?_, h2⟩
    cases n with
    | zero => exact h1
    | succ n => simp [pushC, h1]

theorem all_ok {cf : CF} {c : Chk} (hc : CRl cf c) : ∀ {n : Nat} {sn : List St}, allC cf n sn → allOk c (sn.take n) = true
  | 0, _, _ => by simp [allOk]
  | n + 1, [], _ => rfl
  | n + 1, σ :: σs, h => by
    simp only [List.take_succ_cons, allOk, hc σ h.1, all_ok hc h.2, Bool.and_self]

theorem cr_rd {f : Fr} (h : Top N f) (op : ROp) (v : AV) : CRl (.rd (op.inst (fo f)) v) (.rd (toL N f) op v) := by
  intro σ ho
  obtain ⟨h1, h2⟩ := ho
  rw [evRF_inst] at h1
  simp only [okChk, evR_F h, h1, h2]

theorem cr_zr (m : Nat) (zero : List AV) : CRl (.zr m zero) (.zr m zero) := by
  intro σ ho
  obtain ⟨h1, h2⟩ := ho
  simp only [okChk, h1, h2]

theorem dput {s : DS} (h : Top N s.f) {d : Option Nat} {next : DX} {v : AV} (hr : dRet N next s d v) :
    ∃ f', Top N f' ∧ put (toL N s.f) d v = toL N f' ∧ next { s with f := f' } := by
  cases d with
  | none => exact ⟨s.f, h, rfl, hr⟩
  | some d => exact ⟨upd s.f d v, h.upd v hr.1, put_toL v hr.1, hr.2⟩

theorem WD_sound : ∀ (os : List AOper) {s : DS} {p : List (Chk × Nat)} {k : NX}, Top N s.f → PRel s.pd p → WD (Runs T) N os s k →
    ∃ f' σ', Ev (fun m => evDraw (evCall T m) os (toL N s.f) s.σ s.sn p s.nm) (toL N f', σ') ∧ Top N f' ∧ k f' σ'
  | [], s, p, k, h, hp, hw => ⟨s.f, s.σ, ⟨0, fun m _ => rfl⟩, h, hw⟩
  | o :: os, s, p, k, h, hp, hw => by
    simp only [WD, dStep] at hw
    have one : ∀ (s1 : DS) (p1 : List (Chk × Nat)) (v : AV), s1.f = s.f → PRel s1.pd p1 → dRet N (fun s => WD (Runs T) N os s k) s1 o.dst v →
        (∀ m, evDraw (evCall T m) (o :: os) (toL N s.f) s.σ s.sn p s.nm = evDraw (evCall T m) os (put (toL N s.f) o.dst v) s1.σ s1.sn p1 s1.nm) →
        ∃ f' σ', Ev (fun m => evDraw (evCall T m) (o :: os) (toL N s.f) s.σ s.sn p s.nm) (toL N f', σ') ∧ Top N f' ∧ k f' σ' := by
      intro s1 p1 v e1 hp1 hr he
      obtain ⟨f1, h1, h2, h3⟩ := dput (s := s1) (by rw [e1]; exact h) hr
      obtain ⟨f', σ', ⟨n, hn⟩, r2, r3⟩ := WD_sound os (s := { s1 with f := f1 }) h1 hp1 h3
      refine ⟨f', σ', ⟨n, fun m hm => ?_⟩, r2, r3⟩
      have := hn m hm
      simp only [he m]
      rw [← e1, h2]
      exact this
    split at hw
    · rename_i hg
      rw [← want_F h] at hg
      simp only [dGo] at hw
      cases ho : o.op with
      | p op =>
        simp only [ho, dP] at hw
        split at hw
        · rename_i v hv
          exact one s p v rfl hp hw fun m => by simp only [evDraw, hg, if_true, ho, evP_F h, hv]
        · exact hw.elim
      | r op =>
        simp only [ho, dR] at hw
        split at hw
        · rename_i v hv
          obtain ⟨ha, hw⟩ := hw
          have hc := cr_rd h op v
          exact one { s with pd := pushC (.rd (op.inst (fo s.f)) v) o.nf s.pd } ((.rd (toL N s.f) op v, o.nf) :: p) v rfl (push_rel hp hc) hw fun m => by simp only [evDraw, hg, if_true, ho, evR_F h, hv, all_ok hc ha]
        · exact hw.elim
      | al zero =>
        simp only [ho, dAl] at hw
        split at hw
        · rename_i m0 nm hnm
          obtain ⟨hok, ha, hw⟩ := hw
          have hc := cr_zr m0 zero
          exact one { s with pd := pushC (.zr m0 zero) o.nf s.pd, nm := nm } ((.zr m0 zero, o.nf) :: p) (.ptr m0 0) rfl (push_rel hp hc) hw fun m => by simp only [evDraw, hg, if_true, ho, hnm, all_ok hc ha, hc _ hok, Bool.and_self]
        · exact hw.elim
      | e op =>
        simp only [ho] at hw
        have eff : dE N (fun s => WD (Runs T) N os s k) s o.dst (evEF (fo s.f) s.σ op) →
            ∃ f' σ', Ev (fun m => evDraw (evCall T m) (o :: os) (toL N s.f) s.σ s.sn p s.nm) (toL N f', σ') ∧ Top N f' ∧ k f' σ' := by
          intro hr
          unfold dE at hr
          split at hr
          · rename_i v σ1 hv
            obtain ⟨hpd, hr⟩ := hr
            have hpo := pend_ok hp hpd
            exact one { s with σ := σ1, sn := s.σ :: s.sn, pd := downC s.pd } (pendDown p) v rfl (down_rel hp) hr fun m => by simp only [evDraw, hg, if_true, ho, evE_F h _ _ _ hv, hpo]
          · exact hr.elim
        cases op with
        | call g args =>
          simp only [dEff, callC] at hw
          split at hw
          · rename_i fid first captured hf
            obtain ⟨out, σ1, ⟨n0, hn0⟩, hk⟩ := hw
            have hcal : callee ((g.ev (toL N s.f))) (args.map (Opd.ev (toL N s.f))) = some (fid, first ++ args.map (fo s.f) ++ captured) := by
              rw [ev_toL h, hf, ev_toL_fun h]; rfl
            cases out with
            | ret v =>
              simp only [dCallR, dE] at hk
              obtain ⟨hpd, hk⟩ := hk
              have hpo := pend_ok hp hpd
              obtain ⟨f1, h1, h2, h3⟩ := dput (s := { s with σ := σ1, sn := s.σ :: s.sn, pd := downC s.pd }) h hk
              obtain ⟨f', σ', ⟨n, hn⟩, r2, r3⟩ := WD_sound os (p := pendDown p) h1 (down_rel hp) h3
              refine ⟨f', σ', ⟨max n0 n, fun m hm => ?_⟩, r2, r3⟩
              have q1 := hn0 m (by omega)
              have q2 := hn m (by omega)
              simp only [evDraw, hg, if_true, ho, evE, hcal, q1, hpo]
              simp only [] at h2
              rw [h2]
              exact q2
            | pan v => exact hk.elim
          · exact hw.elim
        | panic x => exact hw.elim
        | defer g args => exact hw.elim
        | recov => exact hw.elim
        | bad => exact hw.elim
        | store n a x => exact eff hw
        | box x => exact eff hw
        | mkM => exact eff hw
        | mkS s b z l c => exact eff hw
        | app s b x y => exact eff hw
        | mupd kk m x v => exact eff hw
        | range x => exact eff hw
        | next it => exact eff hw
    · rename_i hg
      rw [← want_F h] at hg
      simp only [dSkip] at hw
      cases ho : o.op with
      | p op => simp only [ho] at hw; exact one s p .undef rfl hp hw fun m => by simp only [evDraw, hg, Bool.false_eq_true, if_false, ho]
      | r op => simp only [ho] at hw; exact one s p .undef rfl hp hw fun m => by simp only [evDraw, hg, Bool.false_eq_true, if_false, ho]
      | al zero =>
        simp only [ho] at hw
        exact one { s with nm := s.nm.tail } p .undef rfl hp hw fun m => by simp only [evDraw, hg, Bool.false_eq_true, if_false, ho]
      | e op =>
        simp only [ho] at hw
        obtain ⟨hpd, hw⟩ := hw
        have hpo := pend_ok hp hpd
        exact one { s with sn := s.σ :: s.sn, pd := downC s.pd } (pendDown p) .undef rfl (down_rel hp) hw fun m => by simp only [evDraw, hg, Bool.false_eq_true, if_false, ho, hpo, if_true]

/-! Code. -/

theorem WC_sound : ∀ (c : ACode) {f : Fr} {σ : St} {k : KF}, Top N f → WC (Runs T) N c f σ k →
    ∃ x f' σ', Ev (fun m => ev T m c ⟨toL N f, []⟩ σ) (x, ⟨toL N f', []⟩, σ') ∧ Top N f' ∧ k x f' σ'
  | .skip, f, σ, k, h, hw => ⟨.norm, f, σ, ⟨1, fun m hm => by obtain ⟨m, rfl⟩ : ∃ m', m = m' + 1 := ⟨m - 1, by omega⟩; rfl⟩, h, hw⟩
  | .exit id, f, σ, k, h, hw => ⟨.exit id, f, σ, ⟨1, fun m hm => by obtain ⟨m, rfl⟩ : ∃ m', m = m' + 1 := ⟨m - 1, by omega⟩; rfl⟩, h, hw⟩
  | .ret, f, σ, k, h, hw => ⟨.ret, f, σ, ⟨1, fun m hm => by obtain ⟨m, rfl⟩ : ∃ m', m = m' + 1 := ⟨m - 1, by omega⟩; rfl⟩, h, hw⟩
  | .bad, f, σ, k, h, hw => hw.elim
  | .reg ops false, f, σ, k, h, hw => by
    obtain ⟨x, f', σ', ⟨n, hn⟩, r2, r3⟩ := WO_sound ops h hw
    refine ⟨x, f', σ', ⟨n + 1, fun m hm => ?_⟩, r2, r3⟩
    obtain ⟨m, rfl⟩ : ∃ m', m = m' + 1 := ⟨m - 1, by omega⟩
    exact hn m (by omega)
  | .reg ops true, f, σ, k, h, hw => by
    obtain ⟨f', σ', ⟨n, hn⟩, r2, r3⟩ := WD_sound (p := []) ops (s := { f := f, σ := (hoist ops σ).2, sn := [], pd := [], nm := (hoist ops σ).1 }) h (fun _ _ hm => by cases hm) hw
    refine ⟨.norm, f', σ', ⟨n + 1, fun m hm => ?_⟩, r2, r3⟩
    obtain ⟨m, rfl⟩ : ∃ m', m = m' + 1 := ⟨m - 1, by omega⟩
    have := hn m (by omega)
    simp only [ev, codeStep, evDrawn, callStep]
    simp only [evCall] at this
    rw [this]
  | .seq x y, f, σ, k, h, hw => by
    obtain ⟨x1, f1, σ1, ⟨n1, hn1⟩, r2, r3⟩ := WC_sound x h hw
    cases x1 with
    | norm =>
      obtain ⟨x2, f2, σ2, ⟨n2, hn2⟩, q2, q3⟩ := WC_sound y r2 r3
      refine ⟨x2, f2, σ2, ⟨max n1 n2 + 1, fun m hm => ?_⟩, q2, q3⟩
      obtain ⟨m, rfl⟩ : ∃ m', m = m' + 1 := ⟨m - 1, by omega⟩
      simp only [ev, codeStep, hn1 m (by omega), hn2 m (by omega)]
    | exit i =>
      refine ⟨.exit i, f1, σ1, ⟨n1 + 1, fun m hm => ?_⟩, r2, r3⟩
      obtain ⟨m, rfl⟩ : ∃ m', m = m' + 1 := ⟨m - 1, by omega⟩
      simp only [ev, codeStep, hn1 m (by omega)]
    | ret =>
      refine ⟨.ret, f1, σ1, ⟨n1 + 1, fun m hm => ?_⟩, r2, r3⟩
      obtain ⟨m, rfl⟩ : ∃ m', m = m' + 1 := ⟨m - 1, by omega⟩
      simp only [ev, codeStep, hn1 m (by omega)]
    | pan v =>
      refine ⟨.pan v, f1, σ1, ⟨n1 + 1, fun m hm => ?_⟩, r2, r3⟩
      obtain ⟨m, rfl⟩ : ∃ m', m = m' + 1 := ⟨m - 1, by omega⟩
      simp only [ev, codeStep, hn1 m (by omega)]
  | .cond c x y, f, σ, k, h, hw => by
    simp only [WC, condF] at hw
    split at hw
    · rename_i hc
      obtain ⟨x1, f1, σ1, ⟨n1, hn1⟩, r2, r3⟩ := WC_sound x h hw
      refine ⟨x1, f1, σ1, ⟨n1 + 1, fun m hm => ?_⟩, r2, r3⟩
      obtain ⟨m, rfl⟩ : ∃ m', m = m' + 1 := ⟨m - 1, by omega⟩
      simp only [ev, codeStep, ev_toL h, hc, hn1 m (by omega)]
    · rename_i hc
      obtain ⟨x1, f1, σ1, ⟨n1, hn1⟩, r2, r3⟩ := WC_sound y h hw
      refine ⟨x1, f1, σ1, ⟨n1 + 1, fun m hm => ?_⟩, r2, r3⟩
      obtain ⟨m, rfl⟩ : ∃ m', m = m' + 1 := ⟨m - 1, by omega⟩
      simp only [ev, codeStep, ev_toL h, hc, hn1 m (by omega)]
    · exact hw.elim
  | .block id x, f, σ, k, h, hw => by
    obtain ⟨x1, f1, σ1, ⟨n1, hn1⟩, r2, r3⟩ := WC_sound x h hw
    cases x1 with
    | exit i =>
      simp only [blockF] at r3
      by_cases hi : i = id
      · rw [if_pos hi] at r3
        refine ⟨.norm, f1, σ1, ⟨n1 + 1, fun m hm => ?_⟩, r2, r3⟩
        obtain ⟨m, rfl⟩ : ∃ m', m = m' + 1 := ⟨m - 1, by omega⟩
        simp only [ev, codeStep, hn1 m (by omega), if_pos hi]
      · rw [if_neg hi] at r3
        refine ⟨.exit i, f1, σ1, ⟨n1 + 1, fun m hm => ?_⟩, r2, r3⟩
        obtain ⟨m, rfl⟩ : ∃ m', m = m' + 1 := ⟨m - 1, by omega⟩
        simp only [ev, codeStep, hn1 m (by omega), if_neg hi]
    | norm =>
      refine ⟨.norm, f1, σ1, ⟨n1 + 1, fun m hm => ?_⟩, r2, r3⟩
      obtain ⟨m, rfl⟩ : ∃ m', m = m' + 1 := ⟨m - 1, by omega⟩
      simp only [ev, codeStep, hn1 m (by omega)]
    | ret =>
      refine ⟨.ret, f1, σ1, ⟨n1 + 1, fun m hm => ?_⟩, r2, r3⟩
      obtain ⟨m, rfl⟩ : ∃ m', m = m' + 1 := ⟨m - 1, by omega⟩
      simp only [ev, codeStep, hn1 m (by omega)]
    | pan v =>
      refine ⟨.pan v, f1, σ1, ⟨n1 + 1, fun m hm => ?_⟩, r2, r3⟩
      obtain ⟨m, rfl⟩ : ∃ m', m = m' + 1 := ⟨m - 1, by omega⟩
      simp only [ev, codeStep, hn1 m (by omega)]
  | .loop x, f, σ, k, h, hw => by
    refine hw (fun f σ => Top N f → ∃ x1 f' σ', Ev (fun m => ev T m (.loop x) ⟨toL N f, []⟩ σ) (x1, ⟨toL N f', []⟩, σ') ∧ Top N f' ∧ k x1 f' σ') ?_ h
    intro f σ hb h
    obtain ⟨x1, f1, σ1, ⟨n1, hn1⟩, r2, r3⟩ := WC_sound x h hb
    cases x1 with
    | norm =>
      obtain ⟨x2, f2, σ2, ⟨n2, hn2⟩, q2, q3⟩ := r3 r2
      refine ⟨x2, f2, σ2, ⟨max n1 n2 + 1, fun m hm => ?_⟩, q2, q3⟩
      obtain ⟨m, rfl⟩ : ∃ m', m = m' + 1 := ⟨m - 1, by omega⟩
      have e2 := hn2 m (by omega)
      simp only [ev, codeStep, hn1 m (by omega)]
      exact e2
    | exit i =>
      refine ⟨.exit i, f1, σ1, ⟨n1 + 1, fun m hm => ?_⟩, r2, r3⟩
      obtain ⟨m, rfl⟩ : ∃ m', m = m' + 1 := ⟨m - 1, by omega⟩
      simp only [ev, codeStep, hn1 m (by omega)]
    | ret =>
      refine ⟨.ret, f1, σ1, ⟨n1 + 1, fun m hm => ?_⟩, r2, r3⟩
      obtain ⟨m, rfl⟩ : ∃ m', m = m' + 1 := ⟨m - 1, by omega⟩
      simp only [ev, codeStep, hn1 m (by omega)]
    | pan v =>
      refine ⟨.pan v, f1, σ1, ⟨n1 + 1, fun m hm => ?_⟩, r2, r3⟩
      obtain ⟨m, rfl⟩ : ∃ m', m = m' + 1 := ⟨m - 1, by omega⟩
      simp only [ev, codeStep, hn1 m (by omega)]

theorem enter_toL {fn : AFn} {args : List AV} (h : args.length ≤ fn.ntmps) : enter fn args = ⟨toL fn.ntmps (enterF args), []⟩ ∧ Top fn.ntmps (enterF args) := by
  constructor
  · unfold enter
    congr 1
    apply List.ext_getElem?
    intro i
    rw [toL_get]
    simp only [enterF]
    by_cases hi : i < args.length
    · rw [List.getElem?_append_left hi, if_pos (by omega)]
      rw [List.getElem?_eq_getElem hi]; rfl
    · rw [List.getElem?_append_right (by omega), List.getElem?_eq_none (l := args) (by omega)]
      by_cases hn : i < fn.ntmps
      · rw [if_pos hn, List.getElem?_replicate, if_pos (by omega)]; rfl
      · rw [if_neg hn, List.getElem?_replicate, if_neg (by omega)]
  · intro i hi
    simp only [enterF]
    rw [List.getElem?_eq_none (by omega)]; rfl

theorem res_F {f : Fr} (h : Top N f) (σ : St) (r : ARes) : readRes (toL N f) σ r = resF f σ r := by
  cases r with
  | t i =>
    simp only [readRes, resF, toL_get]
    split
    · rfl
    · rename_i hi; rw [h i (by omega)]; rfl
  | c a n agg => simp only [readRes, resF, evR_F h, evRF, fo]

theorem fin_F {f : Fr} (h : Top N f) (σ : St) (rs : List ARes) : finish rs (toL N f) σ = finF rs f σ := by
  have : readRes (toL N f) σ = resF f σ := funext fun r => res_F h σ r
  simp only [finish, finF, this]; rfl

/-- A call of a function that the table has no answer for. -/
theorem runs_fn {f : FuncId} {fn : AFn} {args : List AV} {σ : St} {K : Out → St → Prop} (hh : T.hook f = none) (hf : T.fn f = some fn) (hl : args.length ≤ fn.ntmps)
    (hw : WC (Runs T) fn.ntmps fn.body (enterF args) σ (endF K fn.results)) : Runs T f args σ K := by
  obtain ⟨he, ht⟩ := enter_toL hl
  obtain ⟨x, f', σ', ⟨n, hn⟩, r2, r3⟩ := WC_sound fn.body ht hw
  have fin : ∀ v, finF fn.results f' σ' = some v → ∀ m, leave (ev T m) T fn.results (toL fn.ntmps f') [] none σ' = some (.ret v, σ') := by
    intro v hv m
    simp only [leave, fin_F r2, hv, Option.map_some]
  cases x with
  | norm =>
    simp only [endF, finK] at r3
    split at r3
    · rename_i v hv
      refine ⟨.ret v, σ', ⟨n, fun m hm => ?_⟩, r3⟩
      simp only [evCall, callStep, hh, hf, he, hn m hm]
      exact fin v hv m
    · exact r3.elim
  | ret =>
    simp only [endF, finK] at r3
    split at r3
    · rename_i v hv
      refine ⟨.ret v, σ', ⟨n, fun m hm => ?_⟩, r3⟩
      simp only [evCall, callStep, hh, hf, he, hn m hm]
      exact fin v hv m
    · exact r3.elim
  | pan v =>
    refine ⟨.pan v, σ', ⟨n, fun m hm => ?_⟩, r3⟩
    simp only [evCall, callStep, hh, hf, he, hn m hm, leave]
  | exit i => exact r3.elim

/-- A call that the table has an answer for. -/
theorem runs_hook {f : FuncId} {h : List AV → St → Option (Out × St)} {args : List AV} {σ σ' : St} {o : Out} {K : Out → St → Prop} (hh : T.hook f = some h) (hr : h args σ = some (o, σ')) (hk : K o σ') :
    Runs T f args σ K := ⟨o, σ', ⟨0, fun m _ => by simp only [evCall, callStep, hh, hr]⟩, hk⟩

theorem Runs.mono {f : FuncId} {args : List AV} {σ : St} {K K' : Out → St → Prop} (h : Runs T f args σ K) (hk : ∀ o σ', K o σ' → K' o σ') : Runs T f args σ K' := by
  obtain ⟨o, σ', h1, h2⟩ := h
  exact ⟨o, σ', h1, hk _ _ h2⟩

end

/-! More holds of more. -/

def CMono (C : CK) : Prop := ∀ f args σ (K K' : Out → St → Prop), (∀ o σ', K o σ' → K' o σ') → C f args σ K → C f args σ K'

theorem runs_mono (T : Tab) : CMono (Runs T) := fun _ _ _ _ _ hk h => h.mono hk

section
variable {C : CK} {N : Nat}

theorem ret_mono {next next' : NX} (h : ∀ f σ, next f σ → next' f σ) {f : Fr} {d : Option Nat} {σ : St} {v : AV} (hr : ret N next f d σ v) : ret N next' f d σ v := by
  cases d with
  | none => exact h _ _ hr
  | some d => exact ⟨hr.1, h _ _ hr.2⟩

theorem callC_mono (hC : CMono C) {σ : St} {fv : AV} {args : List AV} {K K' : Out → St → Prop} (h : ∀ o σ', K o σ' → K' o σ') (hr : callC C σ fv args K) : callC C σ fv args K' := by
  unfold callC at hr ⊢
  split
  · exact hC _ _ _ _ _ h hr
  · rename_i hne
    split at hr
    · exact (hne _ _ _ rfl).elim
    · exact hr

theorem retS_mono {next next' : NX} (h : ∀ f σ, next f σ → next' f σ) {f : Fr} {d : Option Nat} {r : Option (AV × St)} (hr : retS N next f d r) : retS N next' f d r := by
  unfold retS at hr ⊢
  split
  · exact ret_mono h hr
  · exact hr

theorem WO_mono (hC : CMono C) : ∀ (os : List AOper) {f : Fr} {σ : St} {k k' : KF}, (∀ x f σ, k x f σ → k' x f σ) → WO C N os f σ k → WO C N os f σ k'
  | [], f, σ, k, k', hk, hw => hk _ _ _ hw
  | o :: os, f, σ, k, k', hk, hw => by
    have nx : ∀ f σ, WO C N os f σ k → WO C N os f σ k' := fun f σ h => WO_mono hC os hk h
    simp only [WO, stepO] at hw ⊢
    split
    · rename_i hg
      rw [hg] at hw
      simp only at hw
      cases ho : o.op with
      | p op =>
        simp only [ho, stepA, retO] at hw ⊢
        split
        · rename_i v hv; rw [hv] at hw; exact ret_mono nx hw
        · rename_i hv; rw [hv] at hw; exact hw
      | r op =>
        simp only [ho, stepA, retO] at hw ⊢
        split
        · rename_i v hv; rw [hv] at hw; exact ret_mono nx hw
        · rename_i hv; rw [hv] at hw; exact hw
      | al zero => simp only [ho, stepA] at hw ⊢; exact ret_mono nx hw
      | e op =>
        simp only [ho, stepA] at hw ⊢
        cases op with
        | call g args =>
          refine callC_mono hC ?_ hw
          intro o' σ' h
          cases o' with
          | ret v => exact ret_mono nx h
          | pan v => exact hk _ _ _ h
        | panic x =>
          simp only [stepE, panK] at hw ⊢
          split
          · rename_i hv; rw [hv] at hw; exact hk _ _ _ hw
          · rename_i hne
            split at hw
            · exact (hne _ _ (by assumption)).elim
            · exact hw
        | defer g args => exact hw
        | recov => exact hw
        | bad => exact hw
        | store n a x => exact retS_mono nx hw
        | box x => exact retS_mono nx hw
        | mkM => exact retS_mono (r := some (.map σ.next, σ.push (.map []))) nx hw
        | mkS s b z l c => exact retS_mono nx hw
        | app s b x y => exact retS_mono nx hw
        | mupd kk m x v => exact retS_mono nx hw
        | range x => exact retS_mono nx hw
        | next it => exact retS_mono nx hw
    · rename_i hg
      rw [hg] at hw
      exact ret_mono nx hw

theorem dRet_mono {next next' : DX} (h : ∀ s, next s → next' s) {s : DS} {d : Option Nat} {v : AV} (hr : dRet N next s d v) : dRet N next' s d v := by
  cases d with
  | none => exact h _ hr
  | some d => exact ⟨hr.1, h _ hr.2⟩

theorem dE_mono {next next' : DX} (h : ∀ s, next s → next' s) {s : DS} {d : Option Nat} {r : Option (AV × St)} (hr : dE N next s d r) : dE N next' s d r := by
  unfold dE at hr ⊢
  split
  · exact ⟨hr.1, dRet_mono h hr.2⟩
  · exact hr

theorem WD_mono (hC : CMono C) : ∀ (os : List AOper) {s : DS} {k k' : NX}, (∀ f σ, k f σ → k' f σ) → WD C N os s k → WD C N os s k'
  | [], s, k, k', hk, hw => hk _ _ hw
  | o :: os, s, k, k', hk, hw => by
    have nx : ∀ s, WD C N os s k → WD C N os s k' := fun s h => WD_mono hC os hk h
    simp only [WD, dStep] at hw ⊢
    split
    · rename_i hg
      rw [hg] at hw
      simp only [dGo] at hw ⊢
      cases ho : o.op with
      | p op =>
        simp only [ho, dP] at hw ⊢
        split
        · rename_i v hv; rw [hv] at hw; exact dRet_mono nx hw
        · rename_i hv; rw [hv] at hw; exact hw
      | r op =>
        simp only [ho, dR] at hw ⊢
        split
        · rename_i v hv; rw [hv] at hw; exact ⟨hw.1, dRet_mono nx hw.2⟩
        · rename_i hv; rw [hv] at hw; exact hw
      | al zero =>
        simp only [ho, dAl] at hw ⊢
        split
        · rename_i hv; rw [hv] at hw; exact ⟨hw.1, hw.2.1, dRet_mono nx hw.2.2⟩
        · rename_i hv; rw [hv] at hw; exact hw
      | e op =>
        simp only [ho] at hw ⊢
        cases op with
        | call g args =>
          refine callC_mono hC ?_ hw
          intro o' σ' h
          cases o' with
          | ret v => exact dE_mono (r := some (v, σ')) nx h
          | pan v => exact h
        | panic x => exact hw
        | defer g args => exact hw
        | recov => exact hw
        | bad => exact hw
        | store n a x => exact dE_mono nx hw
        | box x => exact dE_mono nx hw
        | mkM => exact dE_mono (r := some (.map s.σ.next, s.σ.push (.map []))) nx hw
        | mkS s b z l c => exact dE_mono nx hw
        | app s b x y => exact dE_mono nx hw
        | mupd kk m x v => exact dE_mono nx hw
        | range x => exact dE_mono nx hw
        | next it => exact dE_mono nx hw
    · rename_i hg
      rw [hg] at hw
      simp only [dSkip] at hw ⊢
      cases ho : o.op with
      | p op => simp only [ho] at hw ⊢; exact dRet_mono nx hw
      | r op => simp only [ho] at hw ⊢; exact dRet_mono nx hw
      | al zero => simp only [ho] at hw ⊢; exact dRet_mono nx hw
      | e op => simp only [ho] at hw ⊢; exact ⟨hw.1, dRet_mono nx hw.2⟩

theorem WC_mono (hC : CMono C) : ∀ (c : ACode) {f : Fr} {σ : St} {k k' : KF}, (∀ x f σ, k x f σ → k' x f σ) → WC C N c f σ k → WC C N c f σ k'
  | .skip, f, σ, k, k', hk, hw => hk _ _ _ hw
  | .exit id, f, σ, k, k', hk, hw => hk _ _ _ hw
  | .ret, f, σ, k, k', hk, hw => hk _ _ _ hw
  | .bad, f, σ, k, k', hk, hw => hw
  | .reg ops false, f, σ, k, k', hk, hw => WO_mono hC ops hk hw
  | .reg ops true, f, σ, k, k', hk, hw => WD_mono hC ops (fun f σ h => hk _ _ _ h) hw
  | .seq x y, f, σ, k, k', hk, hw => by
    refine WC_mono hC x ?_ hw
    intro x f σ h
    cases x with
    | norm => exact WC_mono hC y hk h
    | exit i => exact hk _ _ _ h
    | ret => exact hk _ _ _ h
    | pan v => exact hk _ _ _ h
  | .cond c x y, f, σ, k, k', hk, hw => by
    simp only [WC] at hw ⊢
    generalize fo f c = v at *
    cases v <;> first | exact hw | skip
    rename_i b
    cases b with
    | true => exact WC_mono hC x hk hw
    | false => exact WC_mono hC y hk hw
  | .block id x, f, σ, k, k', hk, hw => by
    refine WC_mono hC x ?_ hw
    intro x f σ h
    cases x with
    | exit i => simp only [blockF] at h ⊢; split at h <;> rename_i hi <;> simp only [hi, if_true, if_false] <;> exact hk _ _ _ h
    | norm => exact hk _ _ _ h
    | ret => exact hk _ _ _ h
    | pan v => exact hk _ _ _ h
  | .loop x, f, σ, k, k', hk, hw => by
    intro I hI
    refine hw I ?_
    intro f σ h
    refine hI f σ (WC_mono hC x ?_ h)
    intro x f σ h
    cases x with
    | norm => exact h
    | exit i => exact hk _ _ _ h
    | ret => exact hk _ _ _ h
    | pan v => exact hk _ _ _ h

/-- One round. -/
theorem loop_step (hC : CMono C) {x : ACode} {f : Fr} {σ : St} {k : KF} (h : WC C N x f σ (loopF (fun f σ => WC C N (.loop x) f σ k) k)) : WC C N (.loop x) f σ k := by
  intro I hI
  refine hI f σ (WC_mono hC x ?_ h)
  intro x f σ h
  cases x with
  | norm => exact h I hI
  | exit i => exact h
  | ret => exact h
  | pan v => exact h

/-- Rounds, by a number that falls. -/
theorem loop_nat (hC : CMono C) {x : ACode} {k : KF} (I : Nat → Fr → St → Prop)
    (step : ∀ n f σ, I n f σ → WC C N x f σ (loopF (fun f' σ' => ∃ n', n' < n ∧ I n' f' σ') k)) : ∀ n f σ, I n f σ → WC C N (.loop x) f σ k := by
  intro n
  induction n using Nat.strongRecOn with
  | ind n ih =>
    intro f σ h
    refine loop_step hC (WC_mono hC x ?_ (step n f σ h))
    intro x f σ h
    cases x with
    | norm => obtain ⟨n', h1, h2⟩ := h; exact ih n' h1 f σ h2
    | exit i => exact h
    | ret => exact h
    | pan v => exact h

end
end Jet

/-
The calculus by rewriting.
-/
namespace Jet
open Go

section
variable {C : CK} {N : Nat} {f : Fr} {σ : St} {k : KF}

@[simp] theorem upd_simp (f : Fr) (d : Nat) (v : AV) (i : Nat) : upd f d v i = if i = d then v else f i := rfl
@[simp] theorem fo_t (i : Nat) : fo f (.t i) = f i := rfl
@[simp] theorem fo_c (v : AV) : fo f (.c v) = v := rfl
@[simp] theorem enterF_simp (args : List AV) (i : Nat) : enterF args i = (args[i]?).getD .undef := rfl

/-! Code. -/

@[simp] theorem WC_skip : WC C N .skip f σ k = k .norm f σ := by simp only [WC]
@[simp] theorem WC_exit (id : Nat) : WC C N (.exit id) f σ k = k (.exit id) f σ := by simp only [WC]
@[simp] theorem WC_ret : WC C N .ret f σ k = k .ret f σ := by simp only [WC]
@[simp] theorem WC_seq (x y : ACode) : WC C N (.seq x y) f σ k = WC C N x f σ (seqF (WC C N y) k) := by simp only [WC]
@[simp] theorem WC_block (id : Nat) (x : ACode) : WC C N (.block id x) f σ k = WC C N x f σ (blockF id k) := by simp only [WC]
@[simp] theorem WC_reg (ops : List AOper) : WC C N (.reg ops false) f σ k = WO C N ops f σ k := by simp only [WC]
@[simp] theorem WC_draw (ops : List AOper) : WC C N (.reg ops true) f σ k = WD C N ops { f := f, σ := (hoist ops σ).2, sn := [], pd := [], nm := (hoist ops σ).1 } (normF k) := by simp only [WC]
@[simp] theorem WC_true {c : Opd} {x y : ACode} (h : fo f c = .bool true) : WC C N (.cond c x y) f σ k = WC C N x f σ k := by simp only [WC, h, condF]
@[simp] theorem WC_false {c : Opd} {x y : ACode} (h : fo f c = .bool false) : WC C N (.cond c x y) f σ k = WC C N y f σ k := by simp only [WC, h, condF]
theorem WC_if {c : Opd} {x y : ACode} (p : Prop) [Decidable p] (h : fo f c = .bool (decide p)) (ht : p → WC C N x f σ k) (hf : ¬ p → WC C N y f σ k) : WC C N (.cond c x y) f σ k := by
  by_cases hp : p
  · rw [WC_true (by rw [h]; simp [hp])]; exact ht hp
  · rw [WC_false (by rw [h]; simp [hp])]; exact hf hp

@[simp] theorem seqF_norm (W : Fr → St → KF → Prop) : seqF W k .norm f σ = W f σ k := rfl
@[simp] theorem seqF_exit (W : Fr → St → KF → Prop) (i : Nat) : seqF W k (.exit i) f σ = k (.exit i) f σ := rfl
@[simp] theorem seqF_ret (W : Fr → St → KF → Prop) : seqF W k .ret f σ = k .ret f σ := rfl
@[simp] theorem seqF_pan (W : Fr → St → KF → Prop) (v : AV) : seqF W k (.pan v) f σ = k (.pan v) f σ := rfl
@[simp] theorem blockF_norm (id : Nat) : blockF id k .norm f σ = k .norm f σ := rfl
@[simp] theorem blockF_same (id : Nat) : blockF id k (.exit id) f σ = k .norm f σ := by simp [blockF]
@[simp] theorem blockF_other {id i : Nat} (h : i ≠ id) : blockF id k (.exit i) f σ = k (.exit i) f σ := by simp [blockF, h]
@[simp] theorem blockF_ret (id : Nat) : blockF id k .ret f σ = k .ret f σ := rfl
@[simp] theorem blockF_pan (id : Nat) (v : AV) : blockF id k (.pan v) f σ = k (.pan v) f σ := rfl
@[simp] theorem loopF_norm (I : Fr → St → Prop) : loopF I k .norm f σ = I f σ := rfl
@[simp] theorem loopF_exit (I : Fr → St → Prop) (i : Nat) : loopF I k (.exit i) f σ = k (.exit i) f σ := rfl
@[simp] theorem loopF_ret (I : Fr → St → Prop) : loopF I k .ret f σ = k .ret f σ := rfl
@[simp] theorem loopF_pan (I : Fr → St → Prop) (v : AV) : loopF I k (.pan v) f σ = k (.pan v) f σ := rfl
@[simp] theorem normF_simp : normF k f σ = k .norm f σ := rfl

variable {K : Out → St → Prop} {rs : List ARes}
@[simp] theorem endF_norm : endF K rs .norm f σ = finK K σ (finF rs f σ) := rfl
@[simp] theorem endF_ret : endF K rs .ret f σ = finK K σ (finF rs f σ) := rfl
@[simp] theorem endF_pan (v : AV) : endF K rs (.pan v) f σ = K (.pan v) σ := rfl
@[simp] theorem finK_some (v : AV) : finK K σ (some v) = K (.ret v) σ := rfl
@[simp] theorem finF_nil : finF [] f σ = some (.tup []) := rfl
@[simp] theorem finF_t (i : Nat) : finF [.t i] f σ = some (f i) := rfl
@[simp] theorem finF_c (a n : Nat) (g : Bool) : finF [.c a n g] f σ = ldA n g σ (f a) := by
  simp only [finF, List.mapM_cons, List.mapM_nil, resF]
  cases ldA n g σ (f a) <;> rfl
@[simp] theorem resF_t (i : Nat) : resF f σ (.t i) = some (f i) := rfl
@[simp] theorem resF_c (a n : Nat) (g : Bool) : resF f σ (.c a n g) = ldA n g σ (f a) := rfl
def tup2 (a b : Option AV) : Option AV := match a, b with
  | some a, some b => some (.tup [a, b])
  | _, _ => none
def tup3 (a b c : Option AV) : Option AV := match a, b, c with
  | some a, some b, some c => some (.tup [a, b, c])
  | _, _, _ => none
@[simp] theorem tup2_some (a b : AV) : tup2 (some a) (some b) = some (.tup [a, b]) := rfl
@[simp] theorem tup3_some (a b c : AV) : tup3 (some a) (some b) (some c) = some (.tup [a, b, c]) := rfl
@[simp] theorem finF_2 (a b : ARes) : finF [a, b] f σ = tup2 (resF f σ a) (resF f σ b) := by
  simp only [finF, List.mapM_cons, List.mapM_nil]
  cases resF f σ a <;> cases resF f σ b <;> rfl
@[simp] theorem finF_3 (a b c : ARes) : finF [a, b, c] f σ = tup3 (resF f σ a) (resF f σ b) (resF f σ c) := by
  simp only [finF, List.mapM_cons, List.mapM_nil]
  cases resF f σ a <;> cases resF f σ b <;> cases resF f σ c <;> rfl

/-! Regions. -/

@[simp] theorem WO_nil : WO C N [] f σ k = k .norm f σ := by simp only [WO]
@[simp] theorem WO_cons (o : AOper) (os : List AOper) : WO C N (o :: os) f σ k = stepO C N (nxO C N os k) f σ k o := by simp only [WO, nxO]; rfl
@[simp] theorem nxO_simp (os : List AOper) : nxO C N os k f σ = WO C N os f σ k := rfl

variable {next : NX} {d : Option Nat} {nb nf : Nat} {op : AOp}
@[simp] theorem stepO_go : stepO C N next f σ k ⟨d, op, none, nb, nf⟩ = stepA C N next f d σ k op := rfl
@[simp] theorem stepO_yes {g : Nat} {b : Bool} (h : f g = .bool b) : stepO C N next f σ k ⟨d, op, some (g, b), nb, nf⟩ = stepA C N next f d σ k op := by simp [stepO, wantF, h]
@[simp] theorem stepO_no {g : Nat} {b : Bool} (h : f g = .bool !b) : stepO C N next f σ k ⟨d, op, some (g, b), nb, nf⟩ = ret N next f d σ .undef := by simp [stepO, wantF, h]
@[simp] theorem stepO_un {g : Nat} {b : Bool} (h : f g = .undef) : stepO C N next f σ k ⟨d, op, some (g, b), nb, nf⟩ = ret N next f d σ .undef := by simp [stepO, wantF, h]
@[simp] theorem stepA_p (op : POp) : stepA C N next f d σ k (.p op) = retO N next f d σ (evPF (fo f) op) := rfl
@[simp] theorem stepA_r (op : ROp) : stepA C N next f d σ k (.r op) = retO N next f d σ (evRF (fo f) σ op) := rfl
@[simp] theorem stepA_al (zero : List AV) : stepA C N next f d σ k (.al zero) = ret N next f d (σ.push (.cells zero)) (.ptr σ.next 0) := rfl
@[simp] theorem stepA_call (g : Opd) (args : List Opd) : stepA C N next f d σ k (.e (.call g args)) = callC C σ (fo f g) (args.map (fo f)) (callR N next f d k) := rfl
@[simp] theorem stepA_panic (x : Opd) : stepA C N next f d σ k (.e (.panic x)) = panK k f σ (fo f x) := rfl
@[simp] theorem stepA_store (n : Nat) (a x : Opd) : stepA C N next f d σ k (.e (.store n a x)) = retS N next f d (stE n σ (fo f a) (fo f x)) := rfl
@[simp] theorem stepA_box (x : Opd) : stepA C N next f d σ k (.e (.box x)) = retS N next f d (bxE σ (fo f x)) := rfl
@[simp] theorem stepA_mkM : stepA C N next f d σ k (.e .mkM) = ret N next f d (σ.push (.map [])) (.map σ.next) := rfl
@[simp] theorem stepA_mkS (s b : Nat) (z : List AV) (l c : Opd) : stepA C N next f d σ k (.e (.mkS s b z l c)) = retS N next f d (mkSE s b z σ (fo f l) (fo f c)) := rfl
@[simp] theorem stepA_app (s b : Nat) (x y : Opd) : stepA C N next f d σ k (.e (.app s b x y)) = retS N next f d (apE s b σ (fo f x) (fo f y)) := rfl
@[simp] theorem stepA_mupd (kk : KK) (m x v : Opd) : stepA C N next f d σ k (.e (.mupd kk m x v)) = retS N next f d (muE kk σ (fo f m) (fo f x) (fo f v)) := rfl
@[simp] theorem stepA_range (x : Opd) : stepA C N next f d σ k (.e (.range x)) = retS N next f d (rgE σ (fo f x)) := rfl
@[simp] theorem stepA_next (x : Opd) : stepA C N next f d σ k (.e (.next x)) = retS N next f d (nxE σ (fo f x)) := rfl
@[simp] theorem ret_none (v : AV) : ret N next f none σ v = next f σ := rfl
@[simp] theorem ret_some (d : Nat) (v : AV) : ret N next f (some d) σ v = (d < N ∧ next (upd f d v) σ) := rfl
@[simp] theorem retO_some (v : AV) : retO N next f d σ (some v) = ret N next f d σ v := rfl
@[simp] theorem retS_some (v : AV) : retS N next f d (some (v, σ)) = ret N next f d σ v := rfl
@[simp] theorem callC_fn (g : FuncId) (xs ys args : List AV) : callC C σ (.fn (.func g) xs ys) args K = C g (xs ++ args ++ ys) σ K := rfl
@[simp] theorem callR_ret (v : AV) : callR N next f d k (.ret v) σ = ret N next f d σ v := rfl
@[simp] theorem callR_pan (v : AV) : callR N next f d k (.pan v) σ = k (.pan v) f σ := rfl
@[simp] theorem panK_iface (t : TypeId) (v : AV) : panK k f σ (.iface t v) = k (.pan (.iface t v)) f σ := rfl

/-! Regions whose order is open. -/

variable {s : DS} {k1 : NX} {dn : DX}
@[simp] theorem WD_nil : WD C N [] s k1 = k1 s.f s.σ := by simp only [WD]
@[simp] theorem WD_cons (o : AOper) (os : List AOper) : WD C N (o :: os) s k1 = dStep C N (nxD C N os k1) s o := by simp only [WD, nxD]; rfl
@[simp] theorem nxD_simp (os : List AOper) : nxD C N os k1 s = WD C N os s k1 := rfl
@[simp] theorem dStep_go : dStep C N dn s ⟨d, op, none, nb, nf⟩ = dGo C N dn s ⟨d, op, none, nb, nf⟩ := rfl
@[simp] theorem dStep_yes {g : Nat} {b : Bool} (h : s.f g = .bool b) : dStep C N dn s ⟨d, op, some (g, b), nb, nf⟩ = dGo C N dn s ⟨d, op, none, nb, nf⟩ := by simp only [dStep, wantF, h, BEq.rfl]; rfl
@[simp] theorem dStep_no {g : Nat} {b : Bool} (h : s.f g = .bool !b) : dStep C N dn s ⟨d, op, some (g, b), nb, nf⟩ = dSkip N dn s ⟨d, op, none, nb, nf⟩ := by cases b <;> simp only [dStep, wantF, h, Bool.not_true, Bool.not_false] <;> rfl
@[simp] theorem dStep_un {g : Nat} {b : Bool} (h : s.f g = .undef) : dStep C N dn s ⟨d, op, some (g, b), nb, nf⟩ = dSkip N dn s ⟨d, op, none, nb, nf⟩ := by simp only [dStep, wantF, h]; rfl
variable {g : Option (Nat × Bool)}
@[simp] theorem dGo_p (op : POp) : dGo C N dn s ⟨d, .p op, g, nb, nf⟩ = dP N dn s d (evPF (fo s.f) op) := rfl
@[simp] theorem dGo_r (op : ROp) : dGo C N dn s ⟨d, .r op, g, nb, nf⟩ = dR N dn s d nb nf (op.inst (fo s.f)) (evRF (fo s.f) s.σ op) := rfl
@[simp] theorem dGo_al (zero : List AV) : dGo C N dn s ⟨d, .al zero, g, nb, nf⟩ = dAl N dn s d nb nf zero := rfl
@[simp] theorem dGo_call (h : Opd) (args : List Opd) : dGo C N dn s ⟨d, .e (.call h args), g, nb, nf⟩ = callC C s.σ (fo s.f h) (args.map (fo s.f)) (dCallR N dn s d) := rfl
@[simp] theorem dGo_store (n : Nat) (a x : Opd) : dGo C N dn s ⟨d, .e (.store n a x), g, nb, nf⟩ = dE N dn s d (stE n s.σ (fo s.f a) (fo s.f x)) := rfl
@[simp] theorem dGo_box (x : Opd) : dGo C N dn s ⟨d, .e (.box x), g, nb, nf⟩ = dE N dn s d (bxE s.σ (fo s.f x)) := rfl
@[simp] theorem dGo_mkM : dGo C N dn s ⟨d, .e .mkM, g, nb, nf⟩ = dE N dn s d (some (.map s.σ.next, s.σ.push (.map []))) := rfl
@[simp] theorem dGo_app (sz b : Nat) (x y : Opd) : dGo C N dn s ⟨d, .e (.app sz b x y), g, nb, nf⟩ = dE N dn s d (apE sz b s.σ (fo s.f x) (fo s.f y)) := rfl
@[simp] theorem dGo_mupd (kk : KK) (m x v : Opd) : dGo C N dn s ⟨d, .e (.mupd kk m x v), g, nb, nf⟩ = dE N dn s d (muE kk s.σ (fo s.f m) (fo s.f x) (fo s.f v)) := rfl
@[simp] theorem dGo_mkS (sz b : Nat) (z : List AV) (l c : Opd) : dGo C N dn s ⟨d, .e (.mkS sz b z l c), g, nb, nf⟩ = dE N dn s d (mkSE sz b z s.σ (fo s.f l) (fo s.f c)) := rfl
@[simp] theorem dGo_next (x : Opd) : dGo C N dn s ⟨d, .e (.next x), g, nb, nf⟩ = dE N dn s d (nxE s.σ (fo s.f x)) := rfl
@[simp] theorem dSkip_p (op : POp) : dSkip N dn s ⟨d, .p op, g, nb, nf⟩ = dRet N dn s d .undef := rfl
@[simp] theorem dSkip_r (op : ROp) : dSkip N dn s ⟨d, .r op, g, nb, nf⟩ = dRet N dn s d .undef := rfl
@[simp] theorem dSkip_al (zero : List AV) : dSkip N dn s ⟨d, .al zero, g, nb, nf⟩ = dRet N dn { s with nm := s.nm.tail } d .undef := rfl
@[simp] theorem dSkip_e (op : EOp) : dSkip N dn s ⟨d, .e op, g, nb, nf⟩ = (pendC s.σ s.pd ∧ dRet N dn { s with sn := s.σ :: s.sn, pd := downC s.pd } d .undef) := rfl
@[simp] theorem dRet_none (v : AV) : dRet N dn s none v = dn s := rfl
@[simp] theorem dRet_some (d : Nat) (v : AV) : dRet N dn s (some d) v = (d < N ∧ dn { s with f := upd s.f d v }) := rfl
@[simp] theorem dP_some (v : AV) : dP N dn s d (some v) = dRet N dn s d v := rfl
@[simp] theorem dR_some (op : ROp) (v : AV) : dR N dn s d nb nf op (some v) = (allC (.rd op v) nb s.sn ∧ dRet N dn { s with pd := pushC (.rd op v) nf s.pd } d v) := rfl
@[simp] theorem dE_some (v : AV) (σ' : St) : dE N dn s d (some (v, σ')) = (pendC σ' s.pd ∧ dRet N dn { s with σ := σ', sn := s.σ :: s.sn, pd := downC s.pd } d v) := rfl
@[simp] theorem dCallR_ret (v : AV) (σ' : St) : dCallR N dn s d (.ret v) σ' = (pendC σ' s.pd ∧ dRet N dn { s with σ := σ', sn := s.σ :: s.sn, pd := downC s.pd } d v) := rfl
@[simp] theorem dAl_cons (f : Fr) (σ : St) (sn : List St) (pd : List (CF × Nat)) (m : Nat) (nm : List Nat) (zero : List AV) :
    dAl N dn ⟨f, σ, sn, pd, m :: nm⟩ d nb nf zero = (okC σ (.zr m zero) ∧ allC (.zr m zero) nb sn ∧ dRet N dn ⟨f, σ, sn, pushC (.zr m zero) nf pd, nm⟩ d (.ptr m 0)) := rfl
@[simp] theorem pendC_nil : pendC σ [] = True := rfl
@[simp] theorem pendC_cons (p : CF × Nat) (ps : List (CF × Nat)) : pendC σ (p :: ps) = (okC σ p.1 ∧ pendC σ ps) := rfl
@[simp] theorem okC_rd (op : ROp) (v : AV) : okC σ (.rd op v) = (evRF g0F σ op = some v ∧ AV.beq v v = true) := rfl
@[simp] theorem okC_zr (m : Nat) (zero : List AV) : okC σ (.zr m zero) = (σ.get m = some (.cells zero) ∧ AV.beqs zero zero = true) := rfl
@[simp] theorem g0F_c (v : AV) : g0F (.c v) = v := rfl
@[simp] theorem downC_nil : downC [] = [] := rfl
@[simp] theorem downC_0 (c : CF) (ps : List (CF × Nat)) : downC ((c, 0) :: ps) = downC ps := rfl
@[simp] theorem downC_1 (c : CF) (ps : List (CF × Nat)) : downC ((c, 1) :: ps) = downC ps := rfl
theorem downC_2 (c : CF) (n : Nat) (ps : List (CF × Nat)) : downC ((c, n + 2) :: ps) = (c, n + 1) :: downC ps := rfl
@[simp] theorem allC_0 (c : CF) (sn : List St) : allC c 0 sn = True := by cases sn <;> rfl
@[simp] theorem allC_nil (c : CF) (n : Nat) : allC c n [] = True := by cases n <;> rfl
@[simp] theorem allC_cons (c : CF) (n : Nat) (σ : St) (sn : List St) : allC c (n + 1) (σ :: sn) = (okC σ c ∧ allC c n sn) := rfl
@[simp] theorem allC_one (c : CF) (σ : St) (sn : List St) : allC c 1 (σ :: sn) = (okC σ c ∧ True) := by show (okC σ c ∧ allC c 0 sn) = _; rw [allC_0]
@[simp] theorem pushC_0 (c : CF) (pd : List (CF × Nat)) : pushC c 0 pd = pd := rfl
@[simp] theorem pushC_1 (c : CF) (pd : List (CF × Nat)) : pushC c 1 pd = (c, 1) :: pd := rfl
@[simp] theorem pushC_2 (c : CF) (pd : List (CF × Nat)) : pushC c 2 pd = (c, 2) :: pd := rfl
@[simp] theorem pushC_3 (c : CF) (pd : List (CF × Nat)) : pushC c 3 pd = (c, 3) :: pd := rfl
@[simp] theorem pushC_4 (c : CF) (pd : List (CF × Nat)) : pushC c 4 pd = (c, 4) :: pd := rfl
@[simp] theorem downC_s2 (c : CF) (ps : List (CF × Nat)) : downC ((c, 2) :: ps) = (c, 1) :: downC ps := rfl
@[simp] theorem downC_s3 (c : CF) (ps : List (CF × Nat)) : downC ((c, 3) :: ps) = (c, 2) :: downC ps := rfl
@[simp] theorem downC_s4 (c : CF) (ps : List (CF × Nat)) : downC ((c, 4) :: ps) = (c, 3) :: downC ps := rfl
variable {gv : Opd → AV}
@[simp] theorem inst_load (n : Nat) (a : Bool) (x : Opd) : ROp.inst gv (.load n a x) = .load n a (.c (gv x)) := rfl
@[simp] theorem inst_lookup (kk : KK) (z : AV) (ok : Bool) (m x : Opd) : ROp.inst gv (.lookup kk z ok m x) = .lookup kk z ok (.c (gv m)) (.c (gv x)) := rfl
@[simp] theorem inst_lenM (x : Opd) : ROp.inst gv (.lenM x) = .lenM (.c (gv x)) := rfl
@[simp] theorem inst_bstr (x : Opd) : ROp.inst gv (.bstr x) = .bstr (.c (gv x)) := rfl
@[simp] theorem hoist_nil : hoist [] σ = ([], σ) := rfl
@[simp] theorem hoist_al (d : Option Nat) (z : List AV) (g : Option (Nat × Bool)) (nb nf : Nat) (os : List AOper) :
    hoist (⟨d, .al z, g, nb, nf⟩ :: os) σ = (σ.next :: (hoist os (σ.push (.cells z))).1, (hoist os (σ.push (.cells z))).2) := rfl
@[simp] theorem hoist_p (d : Option Nat) (o : POp) (g : Option (Nat × Bool)) (nb nf : Nat) (os : List AOper) : hoist (⟨d, .p o, g, nb, nf⟩ :: os) σ = hoist os σ := rfl
@[simp] theorem hoist_r (d : Option Nat) (o : ROp) (g : Option (Nat × Bool)) (nb nf : Nat) (os : List AOper) : hoist (⟨d, .r o, g, nb, nf⟩ :: os) σ = hoist os σ := rfl
@[simp] theorem hoist_e (d : Option Nat) (o : EOp) (g : Option (Nat × Bool)) (nb nf : Nat) (os : List AOper) : hoist (⟨d, .e o, g, nb, nf⟩ :: os) σ = hoist os σ := rfl

/-! Operations. -/

@[simp] theorem evPF_mv (x : Opd) : evPF gv (.mv x) = some (gv x) := rfl
@[simp] theorem evPF_pick (c a b : Opd) : evPF gv (.pick c a b) = pickA (gv c) (gv a) (gv b) := rfl
@[simp] theorem evPF_build (z : List AV) (ps : List (Nat × Nat × Opd)) : evPF gv (.build z ps) = (fillF gv z ps).map .agg := rfl
@[simp] theorem evPF_bslice (n : Nat) (xs : List Opd) : evPF gv (.bslice n xs) = bslA n (xs.map gv) := rfl
@[simp] theorem evPF_field (o n : Nat) (a : Bool) (x : Opd) : evPF gv (.field o n a x) = fldA o n a (gv x) := rfl
@[simp] theorem evPF_faddr (o : Nat) (x : Opd) : evPF gv (.faddr o x) = fadA o (gv x) := rfl
@[simp] theorem evPF_iaddrS (n : Nat) (x i : Opd) : evPF gv (.iaddrS n x i) = iaS n (gv x) (gv i) := rfl
@[simp] theorem evPF_iaddrA (l n : Nat) (x i : Opd) : evPF gv (.iaddrA l n x i) = iaA l n (gv x) (gv i) := rfl
@[simp] theorem evPF_idxStr (x i : Opd) : evPF gv (.idxStr x i) = ixS (gv x) (gv i) := rfl
@[simp] theorem evPF_idxArr (l n : Nat) (a : Bool) (x i : Opd) : evPF gv (.idxArr l n a x i) = ixA l n a (gv x) (gv i) := rfl
@[simp] theorem evPF_slcStr (x : Opd) (lo hi : Option Opd) : evPF gv (.slcStr x lo hi) = slS gv lo hi (gv x) := rfl
@[simp] theorem evPF_slcSl (n : Nat) (x : Opd) (lo hi mx : Option Opd) : evPF gv (.slcSl n x lo hi mx) = slL gv n lo hi mx (gv x) := rfl
@[simp] theorem evPF_slcArr (n m : Nat) (x : Opd) (lo hi mx : Option Opd) : evPF gv (.slcArr n m x lo hi mx) = slA gv n m lo hi mx (gv x) := rfl
@[simp] theorem evPF_nilchk (x : Opd) : evPF gv (.nilchk x) = nilC (gv x) := rfl
@[simp] theorem evPF_bin (o : BinOp) (ek : EqK) (x y : Opd) : evPF gv (.bin o ek x y) = abin o ek (gv x) (gv y) := rfl
@[simp] theorem evPF_un (o : UnOp) (x : Opd) : evPF gv (.un o x) = aun o (gv x) := rfl
@[simp] theorem evPF_convInt (t : IntKind) (x : Opd) : evPF gv (.convInt t x) = cInt t (gv x) := rfl
@[simp] theorem evPF_convChr (x : Opd) : evPF gv (.convChr x) = cChr (gv x) := rfl
@[simp] theorem evPF_convId (x : Opd) : evPF gv (.convId x) = cId (gv x) := rfl
@[simp] theorem evPF_sbytes (x : Opd) : evPF gv (.sbytes x) = sByt (gv x) := rfl
@[simp] theorem evPF_mkI (t : TypeId) (x : Opd) : evPF gv (.mkI t x) = some (.iface t (gv x)) := rfl
@[simp] theorem evPF_mkF (h : Fn) (a b : List Opd) : evPF gv (.mkF h a b) = some (.fn h (a.map gv) (b.map gv)) := rfl
@[simp] theorem evPF_tass (w : TypeId) (z : AV) (ok : Bool) (x : Opd) : evPF gv (.tass w z ok x) = tAss w z ok (gv x) := rfl
@[simp] theorem evPF_ext (i : Nat) (x : Opd) : evPF gv (.ext i x) = extA i (gv x) := rfl
@[simp] theorem evPF_lenS (x : Opd) : evPF gv (.lenS x) = lenSA (gv x) := rfl
@[simp] theorem evPF_len (x : Opd) : evPF gv (.len x) = lenA (gv x) := rfl
@[simp] theorem evPF_cap (x : Opd) : evPF gv (.cap x) = capA (gv x) := rfl
@[simp] theorem evPF_mnmx (m : Bool) (xs : List Opd) : evPF gv (.mnmx m xs) = mnA m (xs.map gv) := rfl
@[simp] theorem evRF_load (n : Nat) (a : Bool) (x : Opd) : evRF gv σ (.load n a x) = ldA n a σ (gv x) := rfl
@[simp] theorem evRF_lookup (kk : KK) (z : AV) (ok : Bool) (m x : Opd) : evRF gv σ (.lookup kk z ok m x) = lkA kk z ok σ (gv m) (gv x) := rfl
@[simp] theorem evRF_lenM (x : Opd) : evRF gv σ (.lenM x) = lmA σ (gv x) := rfl
@[simp] theorem evRF_bstr (x : Opd) : evRF gv σ (.bstr x) = bsA σ (gv x) := rfl

@[simp] theorem pickA_true (a b : AV) : pickA (.bool true) a b = some a := rfl
@[simp] theorem pickA_false (a b : AV) : pickA (.bool false) a b = some b := rfl
@[simp] theorem pickA_bool (p : Prop) [Decidable p] (a b : Bool) : pickA (.bool (decide p)) (.bool a) (.bool b) = some (.bool (if p then a else b)) := by simp [pickA]; split <;> rfl
@[simp] theorem fillF_nil (cs : List AV) : fillF gv cs [] = some cs := rfl
@[simp] theorem fillF_cons (cs : List AV) (o n : Nat) (x : Opd) (r : List (Nat × Nat × Opd)) : fillF gv cs ((o, n, x) :: r) =
    if (gv x).cells.length = n ∧ (gv x).cells.all AV.one = true ∧ o + n ≤ cs.length then fillF gv (splice cs o (gv x).cells) r else none := rfl
@[simp] theorem bslA_simp (n : Nat) (vs : List AV) : bslA n vs = if vs.all (okElem n) = true ∧ vs.length * n ≤ 16777216 then some (.sl .full vs) else none := rfl
@[simp] theorem okElem_simp (n : Nat) (v : AV) : okElem n v = (v.cells.length == n && v.cells.all AV.one) := rfl
@[simp] theorem fldA_agg (o n : Nat) (a : Bool) (cs : List AV) : fldA o n a (.agg cs) = takeVal cs o n a := rfl
@[simp] theorem takeVal_agg (cs : List AV) (o n : Nat) : takeVal cs o n true = if o + n ≤ cs.length ∧ ((cs.drop o).take n).all AV.one = true then some (.agg ((cs.drop o).take n)) else none := by simp [takeVal]
def oneA (x : Option AV) : Option AV := match x with
  | some x => if x.one = true then some x else none
  | none => none
@[simp] theorem oneA_some (x : AV) : oneA (some x) = if x.one = true then some x else none := rfl
@[simp] theorem takeVal_one (cs : List AV) (o n : Nat) : takeVal cs o n false = oneA cs[o]? := by simp only [takeVal, oneA, Bool.false_eq_true, if_false]; rfl
@[simp] theorem fadA_ptr (o m p : Nat) : fadA o (.ptr m p) = some (.ptr m (p + o)) := rfl
@[simp] theorem fadA_ept (o : Nat) (cs : List AV) : fadA o (.ept cs) = some (.ept (cs.drop o)) := rfl
def eptA (n : Nat) (x : Option AV) : Option AV := match x with
  | some v => if v.cells.length = n then some (.ept v.cells) else none
  | none => none
@[simp] theorem eptA_some (n : Nat) (v : AV) : eptA n (some v) = if v.cells.length = n then some (.ept v.cells) else none := rfl
@[simp] theorem iaS_sl (n : Nat) (p : Perm) (xs : List AV) (t : IntKind) (i : Int) : iaS n (.sl p xs) (.int t i) = if 0 ≤ i then eptA n xs[i.toNat]? else none := rfl
@[simp] theorem iaS_ms (n s' m o len cap : Nat) (t : IntKind) (i : Int) : iaS n (.ms s' m o len cap) (.int t i) = if n = s' ∧ 0 ≤ i ∧ i < len then some (.ptr m (o + i.toNat * n)) else none := rfl
@[simp] theorem iaA_ptr (l n m o : Nat) (t : IntKind) (i : Int) : iaA l n (.ptr m o) (.int t i) = if 0 ≤ i ∧ i < l then some (.ptr m (o + i.toNat * n)) else none := rfl
@[simp] theorem iaA_ept (l n : Nat) (cs : List AV) (t : IntKind) (i : Int) : iaA l n (.ept cs) (.int t i) = if 0 ≤ i ∧ i < l then some (.ept (cs.drop (i.toNat * n))) else none := rfl
def byteA (x : Option UInt8) : Option AV := x.map fun b => .int .u8 b.toNat
@[simp] theorem byteA_some (b : UInt8) : byteA (some b) = some (.int .u8 b.toNat) := rfl
@[simp] theorem ixS_str (l : List UInt8) (t : IntKind) (i : Int) : ixS (.str l) (.int t i) = if 0 ≤ i then byteA l[i.toNat]? else none := by
  simp only [ixS, byteA]
  split
  · cases l[i.toNat]? <;> rfl
  · rfl
@[simp] theorem ixA_agg (l n : Nat) (a : Bool) (cs : List AV) (t : IntKind) (i : Int) : ixA l n a (.agg cs) (.int t i) = if 0 ≤ i ∧ i < l then takeVal cs (i.toNat * n) n a else none := rfl
@[simp] theorem nilC_ptr (m o : Nat) : nilC (.ptr m o) = some (.ptr m o) := rfl
@[simp] theorem nilC_ept (cs : List AV) : nilC (.ept cs) = some (.ept cs) := rfl
@[simp] theorem nilC_fn (g : FuncId) (a b : List AV) : nilC (.fn (.func g) a b) = some (.fn (.func g) a b) := rfl
@[simp] theorem cInt_int (t t' : IntKind) (n : Int) : cInt t (.int t' n) = some (.int t (t.wrap n)) := rfl
@[simp] theorem cChr_int (t : IntKind) (n : Int) : cChr (.int t n) = some (.str (Utf8.encode n).data.toList) := rfl
@[simp] theorem cId_str (l : List UInt8) : cId (.str l) = some (.str l) := rfl
@[simp] theorem sByt_str (l : List UInt8) : sByt (.str l) = some (.sl .no (l.map fun b => .int .u8 b.toNat)) := rfl
@[simp] theorem tAss_iface (w : TypeId) (z : AV) (ok : Bool) (t : TypeId) (v : AV) : tAss w z ok (.iface t v) = if t = w then some (if ok then .tup [v, .bool true] else v) else if ok then some (.tup [z, .bool false]) else none := rfl
@[simp] theorem tAss_nil (w : TypeId) (z : AV) (ok : Bool) : tAss w z ok .nili = if ok then some (.tup [z, .bool false]) else none := rfl
@[simp] theorem extA_tup (i : Nat) (vs : List AV) : extA i (.tup vs) = vs[i]? := rfl
@[simp] theorem lenSA_str (l : List UInt8) : lenSA (.str l) = some (.int .i64 l.length) := rfl
@[simp] theorem lenA_sl (p : Perm) (xs : List AV) : lenA (.sl p xs) = some (.int .i64 xs.length) := rfl
@[simp] theorem lenA_ms (s m o l c : Nat) : lenA (.ms s m o l c) = some (.int .i64 l) := rfl
@[simp] theorem capA_full (xs : List AV) : capA (.sl .full xs) = some (.int .i64 xs.length) := rfl
@[simp] theorem capA_ms (s m o l c : Nat) : capA (.ms s m o l c) = some (.int .i64 c) := rfl
@[simp] theorem mnA_cons (m : Bool) (x : AV) (r : List AV) : mnA m (x :: r) = mnmxL m x r := rfl
@[simp] theorem mnmxL_nil (m : Bool) (x : AV) : mnmxL m x [] = some x := rfl
@[simp] theorem mnmxL_min (t : IntKind) (x y : Int) (r : List AV) : mnmxL false (.int t x) (.int t y :: r) = mnmxL false (.int t (min x y)) r := by
  simp only [mnmxL, mnmx2, if_true, Option.bind_some, Bool.false_eq_true, if_false]
  congr 2
  omega
@[simp] theorem mnmxL_max (t : IntKind) (x y : Int) (r : List AV) : mnmxL true (.int t x) (.int t y :: r) = mnmxL true (.int t (max x y)) r := by
  simp only [mnmxL, mnmx2, if_true, Option.bind_some]
  congr 2
  omega

@[simp] theorem ab_add (ek : EqK) (t : IntKind) (a b : Int) : abin .add ek (.int t a) (.int t b) = some (.int t (t.wrap (a + b))) := by simp [abin, ibin]
@[simp] theorem ab_sub (ek : EqK) (t : IntKind) (a b : Int) : abin .sub ek (.int t a) (.int t b) = some (.int t (t.wrap (a - b))) := by simp [abin, ibin]
@[simp] theorem ab_mul (ek : EqK) (t : IntKind) (a b : Int) : abin .mul ek (.int t a) (.int t b) = some (.int t (t.wrap (a * b))) := by simp [abin, ibin]
@[simp] theorem ab_quo (ek : EqK) (t : IntKind) (a b : Int) : abin .quo ek (.int t a) (.int t b) = if b = 0 then none else some (.int t (t.wrap (a.tdiv b))) := by simp [abin, ibin]
@[simp] theorem ab_rem (ek : EqK) (t : IntKind) (a b : Int) : abin .rem ek (.int t a) (.int t b) = if b = 0 then none else some (.int t (a.tmod b)) := by simp [abin, ibin]
@[simp] theorem ab_eql (ek : EqK) (t : IntKind) (a b : Int) : abin .eql ek (.int t a) (.int t b) = some (.bool (decide (a = b))) := by simp [abin, ibin]; rfl
@[simp] theorem ab_neq (ek : EqK) (t : IntKind) (a b : Int) : abin .neq ek (.int t a) (.int t b) = some (.bool (decide (a ≠ b))) := by simp [abin, ibin]; rfl
@[simp] theorem ab_lss (ek : EqK) (t : IntKind) (a b : Int) : abin .lss ek (.int t a) (.int t b) = some (.bool (decide (a < b))) := by simp [abin, ibin]
@[simp] theorem ab_leq (ek : EqK) (t : IntKind) (a b : Int) : abin .leq ek (.int t a) (.int t b) = some (.bool (decide (a ≤ b))) := by simp [abin, ibin]
@[simp] theorem ab_gtr (ek : EqK) (t : IntKind) (a b : Int) : abin .gtr ek (.int t a) (.int t b) = some (.bool (decide (a > b))) := by simp [abin, ibin]
@[simp] theorem ab_geq (ek : EqK) (t : IntKind) (a b : Int) : abin .geq ek (.int t a) (.int t b) = some (.bool (decide (a ≥ b))) := by simp [abin, ibin]
@[simp] theorem ab_seql (ek : EqK) (a b : List UInt8) : abin .eql ek (.str a) (.str b) = some (.bool (decide (a = b))) := by by_cases h : a = b <;> simp [abin, sbin, h]
@[simp] theorem ab_sneq (ek : EqK) (a b : List UInt8) : abin .neq ek (.str a) (.str b) = some (.bool (decide (a ≠ b))) := by by_cases h : a = b <;> simp [abin, sbin, h]
@[simp] theorem ab_sadd (ek : EqK) (a b : List UInt8) : abin .add ek (.str a) (.str b) = if a.length + b.length ≤ 9223372036854775807 then some (.str (a ++ b)) else none := by simp [abin, sbin]
@[simp] theorem ab_beql (a b : Bool) : abin .eql .bool (.bool a) (.bool b) = some (.bool (decide (a = b))) := by simp [abin, eqv]; rfl
@[simp] theorem ab_bneq (a b : Bool) : abin .neq .bool (.bool a) (.bool b) = some (.bool (decide (a ≠ b))) := by simp [abin, eqv]; cases a <;> cases b <;> rfl
@[simp] theorem au_not (b : Bool) : aun .not (.bool b) = some (.bool !b) := rfl
@[simp] theorem au_neg (t : IntKind) (n : Int) : aun .neg (.int t n) = some (.int t (t.wrap (0 - n))) := rfl

/-! Reads and writes. -/

def cellsA (x : Option AObj) (o n : Nat) (a : Bool) : Option AV := match x with
  | some (.cells cs) => takeVal cs o n a
  | _ => none
@[simp] theorem cellsA_some (cs : List AV) (o n : Nat) (a : Bool) : cellsA (some (.cells cs)) o n a = takeVal cs o n a := rfl
@[simp] theorem ldA_ptr (n : Nat) (a : Bool) (m o : Nat) : ldA n a σ (.ptr m o) = cellsA (σ.get m) o n a := rfl
@[simp] theorem ldA_ept (n : Nat) (a : Bool) (cs : List AV) : ldA n a σ (.ept cs) = takeVal cs 0 n a := rfl
def stB (n : Nat) (σ : St) (m o : Nat) (x : AV) (old : Option AObj) : Option (AV × St) := match old with
  | some (.cells old) => if x.cells.length = n ∧ x.cells.all AV.one = true ∧ o + n ≤ old.length then some (.undef, σ.set m (.cells (splice old o x.cells))) else none
  | _ => none
@[simp] theorem stB_some (n m o : Nat) (x : AV) (old : List AV) : stB n σ m o x (some (.cells old)) =
    if x.cells.length = n ∧ x.cells.all AV.one = true ∧ o + n ≤ old.length then some (.undef, σ.set m (.cells (splice old o x.cells))) else none := rfl
@[simp] theorem stE_ptr (n m o : Nat) (x : AV) : stE n σ (.ptr m o) x = stB n σ m o x (σ.get m) := rfl
@[simp] theorem bxE_simp (x : AV) : bxE σ x = if x.cells.all AV.one = true then some (.ptr σ.next 0, σ.push (.cells x.cells)) else none := rfl
@[simp] theorem splice_simp (cs new : List AV) (o : Nat) : splice cs o new = cs.take o ++ new ++ cs.drop (o + new.length) := rfl
@[simp] theorem rgE_str (l : List UInt8) : rgE σ (.str l) = some (.iter σ.next, σ.push (.iter l 0)) := rfl
@[simp] theorem get_push_if (m : Nat) (o : AObj) : (σ.push o).get m = if m = σ.next then some o else σ.get m := St.get_push σ m o
@[simp] theorem get_set_if (m m' : Nat) (o : AObj) : (σ.set m o).get m' = if m' = m then some o else σ.get m' := St.get_set σ m m' o

/-! Cells. -/

@[simp] theorem cells_bool (b : Bool) : (AV.bool b).cells = [.bool b] := rfl
@[simp] theorem cells_int (t : IntKind) (n : Int) : (AV.int t n).cells = [.int t n] := rfl
@[simp] theorem cells_str (l : List UInt8) : (AV.str l).cells = [.str l] := rfl
@[simp] theorem cells_ptr (m o : Nat) : (AV.ptr m o).cells = [.ptr m o] := rfl
@[simp] theorem cells_nilp : AV.nilp.cells = [.nilp] := rfl
@[simp] theorem cells_ept (cs : List AV) : (AV.ept cs).cells = [.ept cs] := rfl
@[simp] theorem cells_sl (p : Perm) (xs : List AV) : (AV.sl p xs).cells = [.sl p xs] := rfl
@[simp] theorem cells_ms (a b c d e : Nat) : (AV.ms a b c d e).cells = [.ms a b c d e] := rfl
@[simp] theorem cells_map (m : Nat) : (AV.map m).cells = [.map m] := rfl
@[simp] theorem cells_nilm : AV.nilm.cells = [.nilm] := rfl
@[simp] theorem cells_fn (h : Fn) (a b : List AV) : (AV.fn h a b).cells = [.fn h a b] := rfl
@[simp] theorem cells_nilf : AV.nilf.cells = [.nilf] := rfl
@[simp] theorem cells_iface (t : TypeId) (v : AV) : (AV.iface t v).cells = [.iface t v] := rfl
@[simp] theorem cells_nili : AV.nili.cells = [.nili] := rfl
@[simp] theorem cells_agg (cs : List AV) : (AV.agg cs).cells = cs := rfl
@[simp] theorem one_bool (b : Bool) : (AV.bool b).one = true := rfl
@[simp] theorem one_int (t : IntKind) (n : Int) : (AV.int t n).one = true := rfl
@[simp] theorem one_str (l : List UInt8) : (AV.str l).one = true := rfl
@[simp] theorem one_ptr (m o : Nat) : (AV.ptr m o).one = true := rfl
@[simp] theorem one_nilp : AV.nilp.one = true := rfl
@[simp] theorem one_ept (cs : List AV) : (AV.ept cs).one = true := rfl
@[simp] theorem one_sl (p : Perm) (xs : List AV) : (AV.sl p xs).one = true := rfl
@[simp] theorem one_ms (a b c d e : Nat) : (AV.ms a b c d e).one = true := rfl
@[simp] theorem one_map (m : Nat) : (AV.map m).one = true := rfl
@[simp] theorem one_nilm : AV.nilm.one = true := rfl
@[simp] theorem one_fn (h : Fn) (a b : List AV) : (AV.fn h a b).one = true := rfl
@[simp] theorem one_nilf : AV.nilf.one = true := rfl
@[simp] theorem one_iface (t : TypeId) (v : AV) : (AV.iface t v).one = true := rfl
@[simp] theorem one_nili : AV.nili.one = true := rfl

/-! Appending. -/

@[simp] theorem apE_sl (n b : Nat) (x : AV) (p : Perm) (ys : List AV) : apE n b σ x (.sl p ys) = evApp n b x ys σ := rfl
theorem evApp_nil (n b : Nat) (p : Perm) (xs : List AV) : evApp n b (.sl p xs) [] σ = some (.sl p xs, σ) := rfl
theorem evApp_full {n b : Nat} {xs ys : List AV} (h0 : ys ≠ []) (hb : (xs.length + ys.length) * b ≤ 140737488355328) (hl : xs.length + ys.length ≤ 140737488355328) (hy : ys.all (okElem n) = true)
    (hx : firstOk n xs = true) (hn : 0 < n) : evApp n b (.sl .full xs) ys σ = some (.sl (.tok σ.next) (xs ++ ys), σ.push (.tok (xs.length + ys.length) n)) := by
  have : ys.isEmpty = false := by cases ys <;> simp_all
  simp only [evApp, this, Bool.false_eq_true, if_false, hb, hl, hy, hx, hn, and_self, if_true]
theorem evApp_tok {n b t : Nat} {xs ys : List AV} (h0 : ys ≠ []) (hb : (xs.length + ys.length) * b ≤ 140737488355328) (hl : xs.length + ys.length ≤ 140737488355328) (hy : ys.all (okElem n) = true)
    (hx : firstOk n xs = true) (hn : 0 < n) (ht : σ.get t = some (.tok xs.length n)) : evApp n b (.sl (.tok t) xs) ys σ = some (.sl (.tok t) (xs ++ ys), σ.set t (.tok (xs.length + ys.length) n)) := by
  have : ys.isEmpty = false := by cases ys <;> simp_all
  simp only [evApp, this, Bool.false_eq_true, if_false, hb, hl, hy, hx, hn, and_self, if_true, ht]

end
end Jet

/-
Queries and expressions as data; with, and without, what may be appended to their slices.
-/
namespace Jet
open Go

abbrev Str := List UInt8

/-! Without. -/

inductive E0 where
  | mk (kind : Int) (op : Str) (n : Int) (var field : Str) (kids : List E0)
  deriving Inhabited

inductive I0 where
  | mk (kind : Int) (name var : Str) (pred : List E0) (low high : Int) (kids : List (List I0))
  deriving Inhabited

def E0.kind : E0 → Int | .mk k _ _ _ _ _ => k
def E0.op : E0 → Str | .mk _ o _ _ _ _ => o
def E0.n : E0 → Int | .mk _ _ n _ _ _ => n
def E0.var : E0 → Str | .mk _ _ _ v _ _ => v
def E0.field : E0 → Str | .mk _ _ _ _ f _ => f
def E0.kids : E0 → List E0 | .mk _ _ _ _ _ l => l
def I0.kind : I0 → Int | .mk k _ _ _ _ _ _ => k
def I0.name : I0 → Str | .mk _ n _ _ _ _ _ => n
def I0.var : I0 → Str | .mk _ _ v _ _ _ _ => v
def I0.pred : I0 → List E0 | .mk _ _ _ l _ _ _ => l
def I0.low : I0 → Int | .mk _ _ _ _ l _ _ => l
def I0.high : I0 → Int | .mk _ _ _ _ _ h _ => h
def I0.kids : I0 → List (List I0) | .mk _ _ _ _ _ _ l => l

structure Q0 where
  items : List I0
  within : Int
  by' : Str
  deriving Inhabited

/-! With. -/

inductive Xp where
  | mk (kind : Int) (op : Str) (n : Int) (var field : Str) (p : Perm) (kids : List Xp)
  deriving Inhabited

mutual
def Xp.av : Xp → AV
  | .mk k o n v f p kids => .agg [.int .i64 k, .str o, .int .i64 n, .str v, .str f, .sl p (Xp.avs kids)]
def Xp.avs : List Xp → List AV
  | [] => []
  | e :: es => e.av :: Xp.avs es
end

mutual
def Xp.e : Xp → E0
  | .mk k o n v f p kids => .mk k o n v f (Xp.es kids)
def Xp.es : List Xp → List E0
  | [] => []
  | e :: es => e.e :: Xp.es es
end

mutual
inductive Itm where
  | mk (kind : Int) (name var : Str) (pp : Perm) (pred : List Xp) (low high : Int) (kp : Perm) (kids : List Ks)
inductive Ks where
  | mk (p : Perm) (l : List Itm)
end

instance : Inhabited Itm := ⟨.mk 0 [] [] .full [] 0 0 .full []⟩
instance : Inhabited Ks := ⟨.mk .full []⟩

mutual
def Itm.av : Itm → AV
  | .mk k n v pp pred lo hi kp kids => .agg [.int .i64 k, .str n, .str v, .sl pp (Xp.avs pred), .int .i64 lo, .int .i64 hi, .sl kp (Ks.avs kids)]
def Itm.avs : List Itm → List AV
  | [] => []
  | e :: es => e.av :: Itm.avs es
def Ks.av : Ks → AV
  | .mk p l => .sl p (Itm.avs l)
def Ks.avs : List Ks → List AV
  | [] => []
  | e :: es => e.av :: Ks.avs es
end

mutual
def Itm.e : Itm → I0
  | .mk k n v pp pred lo hi kp kids => .mk k n v (Xp.es pred) lo hi (Ks.es kids)
def Itm.es : List Itm → List I0
  | [] => []
  | e :: es => e.e :: Itm.es es
def Ks.e : Ks → List I0
  | .mk p l => Itm.es l
def Ks.es : List Ks → List (List I0)
  | [] => []
  | e :: es => e.e :: Ks.es es
end

theorem Xp.avs_map : ∀ l, Xp.avs l = l.map Xp.av
  | [] => rfl
  | e :: es => by simp [Xp.avs, Xp.avs_map es]
theorem Itm.avs_map : ∀ l, Itm.avs l = l.map Itm.av
  | [] => rfl
  | e :: es => by simp [Itm.avs, Itm.avs_map es]
theorem Ks.avs_map : ∀ l, Ks.avs l = l.map Ks.av
  | [] => rfl
  | e :: es => by simp [Ks.avs, Ks.avs_map es]
theorem Xp.es_map : ∀ l, Xp.es l = l.map Xp.e
  | [] => rfl
  | e :: es => by simp [Xp.es, Xp.es_map es]
theorem Itm.es_map : ∀ l, Itm.es l = l.map Itm.e
  | [] => rfl
  | e :: es => by simp [Itm.es, Itm.es_map es]
theorem Ks.es_map : ∀ l, Ks.es l = l.map Ks.e
  | [] => rfl
  | e :: es => by simp [Ks.es, Ks.es_map es]

def Xp.p : Xp → Perm | .mk _ _ _ _ _ p _ => p
def Xp.kids : Xp → List Xp | .mk _ _ _ _ _ _ l => l
theorem Xp.e_kids (x : Xp) : x.e.kids = x.kids.map Xp.e := by cases x; simp only [Xp.e, Xp.es_map]; rfl
theorem Xp.av_eq (x : Xp) : x.av = .agg [.int .i64 x.e.kind, .str x.e.op, .int .i64 x.e.n, .str x.e.var, .str x.e.field, .sl x.p (x.kids.map Xp.av)] := by
  cases x; simp only [Xp.av, Xp.avs_map]; rfl
theorem Xp.size_kids (e k : Xp) (h : k ∈ e.kids) : sizeOf k < sizeOf e := by
  cases e
  have := List.sizeOf_lt_of_mem h
  simp only [Xp.kids] at this
  simp only [Xp.mk.sizeOf_spec]
  omega

def Itm.pp : Itm → Perm | .mk _ _ _ p _ _ _ _ _ => p
def Itm.pred : Itm → List Xp | .mk _ _ _ _ l _ _ _ _ => l
def Itm.kp : Itm → Perm | .mk _ _ _ _ _ _ _ p _ => p
def Itm.kids : Itm → List Ks | .mk _ _ _ _ _ _ _ _ l => l
def Ks.p : Ks → Perm | .mk p _ => p
def Ks.l : Ks → List Itm | .mk _ l => l
theorem Itm.e_pred (x : Itm) : x.e.pred = x.pred.map Xp.e := by cases x; simp only [Itm.e, Xp.es_map]; rfl
theorem Itm.e_kids (x : Itm) : x.e.kids = x.kids.map Ks.e := by cases x; simp only [Itm.e, Ks.es_map]; rfl
theorem Ks.e_eq (x : Ks) : x.e = x.l.map Itm.e := by cases x; simp only [Ks.e, Itm.es_map]; rfl
theorem Itm.av_eq (x : Itm) : x.av = .agg [.int .i64 x.e.kind, .str x.e.name, .str x.e.var, .sl x.pp (x.pred.map Xp.av), .int .i64 x.e.low, .int .i64 x.e.high, .sl x.kp (x.kids.map Ks.av)] := by
  cases x; simp only [Itm.av, Xp.avs_map, Ks.avs_map]; rfl
theorem Ks.av_eq (x : Ks) : x.av = .sl x.p (x.l.map Itm.av) := by
  cases x; simp only [Ks.av, Itm.avs_map]; rfl
theorem Itm.size_kids (x : Itm) (k : Ks) (h : k ∈ x.kids) : sizeOf k.l < sizeOf x := by
  cases x
  cases k
  have := List.sizeOf_lt_of_mem h
  simp only [Itm.kids, Ks.mk.sizeOf_spec] at this
  simp only [Itm.mk.sizeOf_spec, Ks.l]
  omega
theorem Itm.size_mem {l : List Itm} {x : Itm} (h : x ∈ l) {k : Ks} (hk : k ∈ x.kids) : sizeOf k.l < sizeOf l :=
  Nat.lt_trans (Itm.size_kids x k hk) (List.sizeOf_lt_of_mem h)

/-- What a query is. -/
structure Qry where
  p : Perm
  items : List Itm
  within : Int
  by' : Str
def Qry.e (q : Qry) : Q0 := ⟨q.items.map Itm.e, q.within, q.by'⟩
def Qry.av (q : Qry) : AV := .agg [.sl q.p (q.items.map Itm.av), .int .i64 q.within, .str q.by']

/-! Numbers of the machine; lengths that memory lets be. -/

def inI64 (n : Int) : Prop := -9223372036854775808 ≤ n ∧ n ≤ 9223372036854775807
def okLen {α : Type} (l : List α) : Prop := l.length ≤ 140737488355328

inductive E0.Ok : E0 → Prop
  | mk (k o n v f kids) : inI64 k → inI64 n → okLen kids → (∀ x ∈ kids, E0.Ok x) → E0.Ok (.mk k o n v f kids)

inductive I0.Ok : I0 → Prop
  | mk (k n v pred lo hi kids) : inI64 k → inI64 lo → inI64 hi → okLen pred → (∀ x ∈ pred, E0.Ok x) → okLen kids → (∀ l ∈ kids, okLen l) → (∀ l ∈ kids, ∀ x ∈ l, I0.Ok x) → I0.Ok (.mk k n v pred lo hi kids)

theorem E0.Ok.inv {x : E0} (h : x.Ok) : inI64 x.kind ∧ inI64 x.n ∧ okLen x.kids ∧ ∀ y ∈ x.kids, y.Ok := by
  cases h with
  | mk k o n v f kids h1 h2 h3 h4 => exact ⟨h1, h2, h3, h4⟩
theorem I0.Ok.inv {x : I0} (h : x.Ok) : inI64 x.kind ∧ inI64 x.low ∧ inI64 x.high ∧ okLen x.pred ∧ (∀ y ∈ x.pred, y.Ok) ∧ okLen x.kids ∧ (∀ l ∈ x.kids, okLen l) ∧ ∀ l ∈ x.kids, ∀ y ∈ l, y.Ok := by
  cases h with
  | mk k n v pred lo hi kids h1 h2 h3 h4 h5 h6 h7 h8 => exact ⟨h1, h2, h3, h4, h5, h6, h7, h8⟩

def ItemsOk (l : List I0) : Prop := okLen l ∧ ∀ x ∈ l, x.Ok

/-! Paths, steps, code. -/

def cap20 (n : Nat) : Nat := min n 1048576
def timesN (lo hi : Int) : Nat := if lo ≤ hi then (min (hi - lo) 1048575).toNat + 1 else 0

mutual
/-- How many paths an item has. -/
def I0.many : I0 → Nat
  | .mk k _ _ _ lo hi kids => if k = 1 then timesN lo hi else if k = 3 then I0.manyK 0 kids else 1
def I0.manyK : Nat → List (List I0) → Nat
  | m, [] => m
  | m, l :: ks => I0.manyK (cap20 (m + I0.paths 1 l)) ks
def I0.paths : Nat → List I0 → Nat
  | m, [] => m
  | m, x :: xs => I0.paths (cap20 (m * x.many)) xs
end

theorem I0.many_eq (x : I0) : x.many = if x.kind = 1 then timesN x.low x.high else if x.kind = 3 then I0.manyK 0 x.kids else 1 := by
  cases x; simp only [I0.many]; rfl
theorem cap20_le (n : Nat) : cap20 n ≤ 1048576 := Nat.min_le_right _ _
theorem I0.paths_le : ∀ (l : List I0) {m : Nat}, m ≤ 1048576 → I0.paths m l ≤ 1048576
  | [], m, h => by simpa only [I0.paths] using h
  | x :: xs, m, h => by simp only [I0.paths]; exact I0.paths_le xs (cap20_le _)
theorem I0.manyK_le : ∀ (l : List (List I0)) {m : Nat}, m ≤ 1048576 → I0.manyK m l ≤ 1048576
  | [], m, h => by simpa only [I0.manyK] using h
  | x :: xs, m, h => by simp only [I0.manyK]; exact I0.manyK_le xs (cap20_le _)

mutual
/-- How many steps an item has at most. -/
def I0.long : I0 → Nat
  | .mk k _ _ _ _ hi kids => if k = 1 then (min (max hi 0) 1048576).toNat else if k = 2 then 0 else if k = 3 then I0.longK 0 kids else 1
def I0.longK : Nat → List (List I0) → Nat
  | m, [] => m
  | m, l :: ks => I0.longK (max m (I0.steps 0 l)) ks
def I0.steps : Nat → List I0 → Nat
  | m, [] => m
  | m, x :: xs => I0.steps (cap20 (m + x.long)) xs
end

theorem I0.long_eq (x : I0) : x.long = if x.kind = 1 then (min (max x.high 0) 1048576).toNat else if x.kind = 2 then 0 else if x.kind = 3 then I0.longK 0 x.kids else 1 := by
  cases x; simp only [I0.long]; rfl
theorem I0.steps_le : ∀ (l : List I0) {m : Nat}, m ≤ 1048576 → I0.steps m l ≤ 1048576
  | [], m, h => by simpa only [I0.steps] using h
  | x :: xs, m, h => by simp only [I0.steps]; exact I0.steps_le xs (cap20_le _)
theorem I0.longK_le : ∀ (l : List (List I0)) {m : Nat}, m ≤ 1048576 → I0.longK m l ≤ 1048576
  | [], m, h => by simpa only [I0.longK] using h
  | x :: xs, m, h => by simp only [I0.longK]; exact I0.longK_le xs (Nat.max_le.2 ⟨h, I0.steps_le x (Nat.zero_le _)⟩)

mutual
/-- How many expressions stand in one. -/
def E0.size : E0 → Nat
  | .mk _ _ _ _ _ kids => 1 + E0.sizes kids
def E0.sizes : List E0 → Nat
  | [] => 0
  | e :: es => e.size + E0.sizes es
end
mutual
/-- How large the predicates of an item are. -/
def I0.code : I0 → Nat
  | .mk _ _ _ pred _ _ kids => E0.sizes pred + I0.codeK kids
def I0.codeK : List (List I0) → Nat
  | [] => 0
  | l :: ks => I0.codes l + I0.codeK ks
def I0.codes : List I0 → Nat
  | [] => 0
  | x :: xs => x.code + I0.codes xs
end
theorem E0.size_eq (x : E0) : x.size = 1 + E0.sizes x.kids := by cases x; simp only [E0.size]; rfl
theorem I0.code_eq (x : I0) : x.code = E0.sizes x.pred + I0.codeK x.kids := by cases x; simp only [I0.code]; rfl

end Jet

/-
The makers of queries out of bytes, as plain functions.
-/
namespace Jet
open Go

/-- What a feed has gone by. -/
structure FS where
  pos : Nat
  vars : List Str
  kinds : List Str
  many : Nat

def FS.Ok (s : FS) : Prop := s.kinds.length = s.vars.length

def nextM (bs : List Nat) (s : FS) : Nat × FS := if s.pos < bs.length then (bs.getD s.pos 0, { s with pos := s.pos + 1 }) else (0, s)

def map3M (kind : Str) : Str := if kind = [66] then [121] else [120]

def refM (bs : List Nat) (own kind : Str) (s : FS) : E0 × FS :=
  let b := (nextM bs s).1
  let s1 := (nextM bs s).2
  let c := decide (0 < s1.vars.length) && decide (b % 3 = 0)
  let k := b / 3 % s1.vars.length
  (.mk 1 [] 0 (if c then s1.vars.getD k [] else own) (if b / 64 % 2 = 0 then [107] else map3M (if c then s1.kinds.getD k [] else kind)) [], s1)

def nums : List Int := [0, 1, 2, 3, 5, 9223372036854775807]
def arith : List Str := [[43], [45], [42], [47], [37]]
def logic : List Str := [[38, 38], [124, 124]]
def compar : List Str := [[61, 61], [33, 61], [60], [60, 61], [62], [62, 61], [60, 61], [62, 61]]

def numberM (bs : List Nat) (own kind : Str) : Nat → FS → E0 × FS
  | 0, s =>
    let b := (nextM bs s).1
    let s1 := (nextM bs s).2
    if b % 8 < 3 ∨ b % 2 = 0 then (.mk 0 [] (nums.getD (b / 8 % 6) 0) [] [] [], s1) else refM bs own kind s1
  | d + 1, s =>
    let b := (nextM bs s).1
    let s1 := (nextM bs s).2
    if b % 8 < 3 then (.mk 0 [] (nums.getD (b / 8 % 6) 0) [] [] [], s1)
    else if b % 8 < 6 then refM bs own kind s1
    else if b % 8 = 6 then (.mk 2 [45] 0 [] [] [(numberM bs own kind d s1).1], (numberM bs own kind d s1).2)
    else
      let x := numberM bs own kind d s1
      let y := numberM bs own kind d x.2
      (.mk 3 (arith.getD (b / 8 % 5) []) 0 [] [] [x.1, y.1], y.2)

def comparM (bs : List Nat) (own kind : Str) (b : Nat) (s1 : FS) : E0 × FS :=
  let x := numberM bs own kind 1 s1
  let y := numberM bs own kind 1 x.2
  (.mk 3 (compar.getD (b / 8 % 8) []) 0 [] [] [x.1, y.1], y.2)

def truthM (bs : List Nat) (own kind : Str) : Nat → FS → E0 × FS
  | 0, s => comparM bs own kind (nextM bs s).1 (nextM bs s).2
  | d + 1, s =>
    let b := (nextM bs s).1
    let s1 := (nextM bs s).2
    if b % 8 = 0 then (.mk 2 [33] 0 [] [] [(truthM bs own kind d s1).1], (truthM bs own kind d s1).2)
    else if b % 8 < 3 then
      let x := truthM bs own kind d s1
      let y := truthM bs own kind d x.2
      (.mk 3 (logic.getD (b / 8 % 2) []) 0 [] [] [x.1, y.1], y.2)
    else comparM bs own kind b s1

def predM (bs : List Nat) (own kind : Str) (s : FS) : List E0 × FS :=
  let b := (nextM bs s).1
  let s1 := (nextM bs s).2
  if b % 2 = 0 then ([], s1) else ([(truthM bs own kind 1 s1).1], (truthM bs own kind 1 s1).2)

def kindsL : List Str := [[65], [66], [67]]
def varsL : List Str := [[97], [98], [99], [100], [101], [102], [103], [104], [105], [106], [108], [109]]

/-- An item; 'alts': the lists of an Alt, where it may be one. -/
def itemW (bs : List Nat) (alts : Option (FS → List I0 × FS)) (not : Bool) (s : FS) : I0 × FS :=
  let b := (nextM bs s).1
  let s1 := { (nextM bs s).2 with many := (nextM bs s).2.many + 1 }
  let kind := kindsL.getD (b % 3) []
  let own := varsL.getD (s1.many % 12) []
  if not && decide (b % 8 = 7) then (.mk 2 kind own (predM bs own kind s1).1 0 0 [], (predM bs own kind s1).2)
  else if alts.isSome && decide (b % 8 = 6) && decide (s1.many < 5) then
    match alts with
    | some f => (.mk 3 [] [] [] 0 0 [(f s1).1, (f (f s1).2).1], (f (f s1).2).2)
    | none => (.mk 0 [] [] [] 0 0 [], s1)
  else
    let p := predM bs own kind s1
    let lo : Int := if b % 8 = 5 then (1 + b / 8 % 2 : Nat) else 0
    let hi : Int := if b % 8 = 5 then (1 + b / 8 % 2 + b / 16 % 2 : Nat) else 0
    (.mk (if b % 8 = 5 then 1 else 0) kind own p.1 lo hi [], { p.2 with vars := p.2.vars ++ [own], kinds := p.2.kinds ++ [kind] })

/-- More items, from the i-th on. -/
def moreW (bs : List Nat) (item : Bool → FS → I0 × FS) (most : Nat) : Nat → Nat → List I0 → FS → List I0 × FS
  | 0, _, out, s => (out, s)
  | n + 1, i, out, s =>
    if i < most ∧ s.pos < bs.length ∧ s.many < 6 then
      moreW bs item most n (i + 1) (out ++ [(item (decide (i + 1 < most)) s).1]) (item (decide (i + 1 < most)) s).2
    else (out, s)

def itemsW (bs : List Nat) (item item0 : Bool → FS → I0 × FS) (most : Nat) (s : FS) : List I0 × FS :=
  let x := item false s
  let r := moreW bs item most most 1 [x.1] x.2
  if (r.1.getLast?.map I0.kind).getD 0 = 2 then (r.1 ++ [(item0 false r.2).1], (item0 false r.2).2) else r

def item0 (bs : List Nat) : Bool → FS → I0 × FS := itemW bs none
def items0 (bs : List Nat) (most : Nat) : FS → List I0 × FS := itemsW bs (item0 bs) (item0 bs) most
def item1 (bs : List Nat) : Bool → FS → I0 × FS := itemW bs (some (items0 bs 2))
def items1 (bs : List Nat) (most : Nat) : FS → List I0 × FS := itemsW bs (item1 bs) (item0 bs) most

def askedM (bs : List Nat) : Q0 :=
  let s0 : FS := ⟨0, [], [], 0⟩
  let a := nextM bs s0
  let b := nextM bs a.2
  ⟨(items1 bs 3 b.2).1, (a.1 % 12 : Nat), if b.1 % 2 = 0 then [107] else []⟩

end Jet

/-
Paths, steps and code of items.
-/
namespace Jet
open Go

/-- A table that answers for nothing but what 'hooked' names. -/
structure Base (T : Tab) : Prop where
  fn : ∀ f v, tree.get f = some v → T.fn f = some v
  hook : ∀ f, f ∉ hooked → T.hook f = none

theorem w64 {n : Int} (h1 : -9223372036854775808 ≤ n) (h2 : n ≤ 9223372036854775807) : IntKind.i64.wrap n = n := IntWalk.i64_in n ⟨h1, h2⟩
theorem wnat {n : Nat} (h : n ≤ 9223372036854775807) : IntKind.i64.wrap (n : Int) = (n : Int) := w64 (by omega) (by omega)
theorem wsucc {n : Nat} (h : n < 9223372036854775807) : IntKind.i64.wrap ((n : Int) + 1) = ((n + 1 : Nat) : Int) := by rw [w64 (by omega) (by omega)]; simp
theorem wu64 {n : Int} (h1 : 0 ≤ n) (h2 : n ≤ 18446744073709551615) : IntKind.u64.wrap n = n := by
  have : n % 18446744073709551616 = n := by omega
  simpa [IntKind.wrap, IntKind.bits, IntKind.signed] using this

theorem Grows.set {σ σ' : St} (h : Grows σ σ') {m : Nat} (hm : σ.next ≤ m) (o : AObj) : Grows σ (σ'.set m o) :=
  ⟨by simpa using h.1, fun x hx => by rw [St.get_set_ne _ _ (by omega)]; exact h.2 x hx⟩
theorem Grows.push' {σ σ' : St} (h : Grows σ σ') (o : AObj) : Grows σ (σ'.push o) := h.trans (Grows.push σ' o)
@[simp] theorem Grows.refl' (σ : St) : Grows σ σ := .refl σ

variable {T : Tab}

theorem u64_eq (n : Int) : IntKind.u64.wrap n = n % 18446744073709551616 := by
  simp [IntKind.wrap, IntKind.bits, IntKind.signed]

theorem times_eq {lo hi : Int} (h1 : inI64 lo) (h2 : inI64 hi) (h : lo ≤ hi) :
    IntKind.i64.wrap (IntKind.i64.wrap (min (IntKind.u64.wrap (IntKind.u64.wrap hi - IntKind.u64.wrap lo)) 1048575) + 1) = ((timesN lo hi : Nat) : Int) := by
  have e : IntKind.u64.wrap (IntKind.u64.wrap hi - IntKind.u64.wrap lo) = hi - lo := by
    rw [u64_eq, u64_eq, u64_eq]
    unfold inI64 at h1 h2
    omega
  rw [e]
  simp only [timesN, if_pos h]
  rw [w64 (n := min (hi - lo) 1048575) (by omega) (by omega), w64 (by omega) (by omega)]
  omega

theorem timesN_le (lo hi : Int) : timesN lo hi ≤ 1048576 := by
  unfold timesN
  split
  · omega
  · omega

theorem paths_run (hB : Base T) : ∀ (n : Nat) (l : List Itm), sizeOf l < n → ItemsOk (l.map Itm.e) → ∀ (p : Perm) (σ : St),
    Runs T f_check_Paths [.sl p (l.map Itm.av)] σ (fun o σ' => o = .ret (.int .i64 (I0.paths 1 (l.map Itm.e))) ∧ Grows σ σ') := by
  intro n
  induction n with
  | zero => intro l hn; exact absurd hn (Nat.not_lt_zero _)
  | succ sz ih =>
    intro l hsz hok p σ
    obtain ⟨hlen, hok⟩ := hok
    simp only [okLen, List.length_map] at hlen
    refine runs_fn (hB.hook _ (by decide)) (hB.fn _ q_check_Paths rfl) (by simp [q_check_Paths]) ?_
    obtain ⟨I, hI⟩ : ∃ I : Nat → Fr → St → Prop, I = fun n f σ' => ∃ i acc : Nat, n = l.length - i ∧ i ≤ l.length ∧ f 9 = .sl p (l.map Itm.av) ∧ f 10 = .int .i64 l.length ∧ f 11 = .int .i64 i ∧
      f 3 = .int .i64 acc ∧ acc ≤ 1048576 ∧ I0.paths acc ((l.drop i).map Itm.e) = I0.paths 1 (l.map Itm.e) ∧ Grows σ σ' := ⟨_, rfl⟩
    simp [q_check_Paths]
    refine loop_nat (runs_mono T) I ?_ l.length _ _ (by rw [hI]; exact ⟨0, 1, by simp⟩)
    intro n f σ1 h
    rw [hI] at h
    obtain ⟨i, acc, h1, h2, h3, h4, h5, h6, h7, h8, h9⟩ := h
    by_cases hi : i < l.length
    · obtain ⟨x, hx⟩ : ∃ x, l[i]? = some x := ⟨l[i], List.getElem?_eq_getElem hi⟩
      have hxm : x ∈ l := List.mem_of_getElem? hx
      have hgx : l[i] = x := by rw [List.getElem?_eq_getElem hi] at hx; exact Option.some.inj hx
      have hdrop : l.drop i = x :: l.drop (i + 1) := by rw [List.drop_eq_getElem_cons hi, hgx]
      rw [hdrop, List.map_cons] at h8
      simp only [I0.paths] at h8
      obtain ⟨hki, hlo, hhi, _, _, hkl, hkl2, hkids⟩ := (hok x.e (List.mem_map_of_mem hxm)).inv
      have w1 : IntKind.i64.wrap ((i : Int) + 1) = ((i + 1 : Nat) : Int) := wsucc (by omega)
      -- behind the item
      have fin : ∀ (many : Nat), many ≤ 1048576 → min (IntKind.i64.wrap ((acc : Int) * (many : Int))) 1048576 = ((cap20 (acc * many) : Nat) : Int) := by
        intro many hm
        have h : acc * many ≤ 1048576 * 1048576 := Nat.mul_le_mul h7 hm
        have e : ((acc : Int) * (many : Int)) = ((acc * many : Nat) : Int) := by simp
        rw [e, wnat (by omega)]
        simp only [cap20]; omega
      have next : ∀ (f' : Fr) (σ' : St), f' 9 = f 9 → f' 10 = f 10 → f' 11 = .int .i64 ((i + 1 : Nat) : Int) → f' 3 = .int .i64 ((cap20 (acc * x.e.many) : Nat) : Int) → Grows σ σ' → ∃ n', n' < n ∧ I n' f' σ' := by
        intro f' σ' e1 e2 e3 e4 e5
        rw [hI]
        exact ⟨l.length - (i + 1), by omega, i + 1, _, rfl, by omega, by rw [e1, h3], by rw [e2, h4], e3, e4, cap20_le _, h8, e5⟩
      simp [q_check_Paths_b1, h3, h4, h5, h6, hi, hx, Itm.av_eq, hgx]
      by_cases hk1 : x.e.kind = 1
      · simp [hk1]
        by_cases hle : x.e.low ≤ x.e.high
        · have e1 : x.e.many = timesN x.e.low x.e.high := by rw [I0.many_eq, if_pos hk1]
          have t1 := times_eq hlo hhi hle
          have t2 := fin _ (timesN_le x.e.low x.e.high)
          simp [hle, h6, h5, w1, t1, t2]
          exact next _ _ (by simp) (by simp) (by simp) (by simp [e1]) ((h9.push' _).set (h9.1) _)
        · have e1 : x.e.many = 0 := by rw [I0.many_eq, if_pos hk1, timesN, if_neg hle]
          have t2 := fin 0 (by decide)
          simp only [Int.natCast_zero, Int.mul_zero] at t2
          simp [hle, h6, h5, w1, t2]
          exact next _ _ (by simp) (by simp) (by simp) (by simp [e1]) ((h9.push' _).set (h9.1) _)
      · by_cases hk3 : x.e.kind = 3
        · have em : x.e.many = I0.manyK 0 x.e.kids := by rw [I0.many_eq, if_neg hk1, if_pos hk3]
          simp [hk3]
          have hkl' : x.kids.length ≤ 140737488355328 := by rw [Itm.e_kids] at hkl; simpa [okLen] using hkl
          obtain ⟨J, hJ⟩ : ∃ J : Nat → Fr → St → Prop, J = fun n f' σ' => ∃ j m : Nat, n = x.kids.length - j ∧ j ≤ x.kids.length ∧ f' 9 = f 9 ∧ f' 10 = f 10 ∧ f' 11 = f 11 ∧ f' 3 = f 3 ∧
            f' 37 = .sl x.kp (x.kids.map Ks.av) ∧ f' 38 = .int .i64 x.kids.length ∧ f' 39 = .int .i64 j ∧ f' 6 = .int .i64 m ∧ m ≤ 1048576 ∧
            I0.manyK m ((x.kids.drop j).map Ks.e) = I0.manyK 0 x.e.kids ∧ Grows σ σ' := ⟨_, rfl⟩
          refine loop_nat (runs_mono T) J ?_ x.kids.length _ _ (by rw [hJ]; exact ⟨0, 0, by simp [Itm.e_kids, h9.push', (h9.push' _).set (h9.1)]⟩)
          intro n2 f2 σ2 h
          rw [hJ] at h
          obtain ⟨j, m, j1, j2, j3, j4, j5, j6, j7, j8, j9, j10, j11, j12, j13⟩ := h
          by_cases hj : j < x.kids.length
          · obtain ⟨y, hy⟩ : ∃ y, x.kids[j]? = some y := ⟨x.kids[j], List.getElem?_eq_getElem hj⟩
            have hym : y ∈ x.kids := List.mem_of_getElem? hy
            have hgy : x.kids[j] = y := by rw [List.getElem?_eq_getElem hj] at hy; exact Option.some.inj hy
            have hdropy : x.kids.drop j = y :: x.kids.drop (j + 1) := by rw [List.drop_eq_getElem_cons hj, hgy]
            rw [hdropy, List.map_cons] at j12
            simp only [I0.manyK] at j12
            have wj : IntKind.i64.wrap ((j : Int) + 1) = ((j + 1 : Nat) : Int) := wsucc (by omega)
            have hye : y.e ∈ x.e.kids := by rw [Itm.e_kids]; exact List.mem_map_of_mem hym
            have hyo : ItemsOk (y.l.map Itm.e) := by rw [← Ks.e_eq]; exact ⟨hkl2 _ hye, hkids _ hye⟩
            have hrec := ih y.l (Nat.lt_of_lt_of_le (Itm.size_mem hxm hym) (by omega)) hyo y.p σ2
            rw [Ks.e_eq] at j12
            have hb := I0.paths_le (y.l.map Itm.e) (m := 1) (by decide)
            have wm : min (IntKind.i64.wrap ((m : Int) + (I0.paths 1 (y.l.map Itm.e) : Int))) 1048576 = ((cap20 (m + I0.paths 1 (y.l.map Itm.e)) : Nat) : Int) := by
              rw [w64 (by omega) (by omega)]; simp only [cap20]; omega
            simp [q_check_Paths_b0, j7, j8, j9, j10, hj, hy, hgy, Ks.av_eq]
            refine hrec.mono ?_
            rintro o σ3 ⟨rfl, g3⟩
            simp [j9, j10, wj, wm]
            rw [hJ]
            exact ⟨x.kids.length - (j + 1), by omega, j + 1, _, rfl, by omega, by simp [j3], by simp [j4], by simp [j5], by simp [j6], by simp [j7], by simp [j8], by simp, by simp, cap20_le _, j12, j13.trans g3⟩
          · have : j = x.kids.length := by omega
            subst this
            simp only [List.drop_length, List.map_nil, I0.manyK] at j12
            have t2 := fin m j11
            simp [q_check_Paths_b0, j7, j8, j9, j10, j3, j4, j5, j6, h3, h4, h5, h6, w1, t2]
            exact next _ _ (by simp [j3]) (by simp [j4]) (by simp) (by simp [em, j12]) j13
        · have e1 : x.e.many = 1 := by rw [I0.many_eq, if_neg hk1, if_neg hk3]
          have t2 := fin 1 (by decide)
          simp only [Int.natCast_one, Int.mul_one] at t2
          simp [hk1, hk3, h6, h5, w1, t2]
          exact next _ _ (by simp) (by simp) (by simp) (by simp [e1]) ((h9.push' _).set (h9.1) _)
    · simp [q_check_Paths_b1, h3, h4, h5, h6, hi]
      have : i = l.length := by omega
      subst this
      simp only [List.drop_length, List.map_nil, I0.paths] at h8
      exact ⟨congrArg Int.ofNat h8, h9⟩

end Jet

/-
Steps, and the code of items.
-/
namespace Jet
open Go

/-- A loop over a list. -/
theorem rng {C : CK} (hC : CMono C) {N : Nat} {x : ACode} {k : KF} {α : Type} (l : List α) (I : Nat → Fr → St → Prop)
    (step : ∀ j y f σ, j < l.length → l[j]? = some y → y ∈ l → (∀ h : j < l.length, l[j] = y) → l.drop j = y :: l.drop (j + 1) → I j f σ → WC C N x f σ (loopF (I (j + 1)) k))
    (last : ∀ f σ, I l.length f σ → WC C N x f σ (loopF (fun _ _ => False) k)) {f : Fr} {σ : St} (h0 : I 0 f σ) : WC C N (.loop x) f σ k := by
  refine loop_nat hC (fun n f σ => ∃ j, n = l.length - j ∧ j ≤ l.length ∧ I j f σ) ?_ l.length f σ ⟨0, by simp, by simp, h0⟩
  rintro n f σ ⟨j, rfl, h1, h2⟩
  by_cases hj : j < l.length
  · refine WC_mono hC x ?_ (step j l[j] f σ hj (List.getElem?_eq_getElem hj) (List.getElem_mem hj) (fun _ => rfl) (List.drop_eq_getElem_cons hj) h2)
    intro x f σ h
    cases x with
    | norm => exact ⟨l.length - (j + 1), by omega, j + 1, rfl, by omega, h⟩
    | exit i => exact h
    | ret => exact h
    | pan v => exact h
  · have : j = l.length := by omega
    subst this
    refine WC_mono hC x ?_ (last f σ h2)
    intro x f σ h
    cases x with
    | norm => exact h.elim
    | exit i => exact h
    | ret => exact h
    | pan v => exact h

variable {T : Tab}

theorem steps_run (hB : Base T) : ∀ (n : Nat) (l : List Itm), sizeOf l < n → ItemsOk (l.map Itm.e) → ∀ (p : Perm) (σ : St),
    Runs T f_check_Steps [.sl p (l.map Itm.av)] σ (fun o σ' => o = .ret (.int .i64 (I0.steps 0 (l.map Itm.e))) ∧ Grows σ σ') := by
  intro n
  induction n with
  | zero => intro l hn; exact absurd hn (Nat.not_lt_zero _)
  | succ sz ih =>
    intro l hsz hok p σ
    obtain ⟨hlen, hok⟩ := hok
    simp only [okLen, List.length_map] at hlen
    refine runs_fn (hB.hook _ (by decide)) (hB.fn _ q_check_Steps rfl) (by simp [q_check_Steps]) ?_
    obtain ⟨I, hI⟩ : ∃ I : Nat → Fr → St → Prop, I = fun i f σ' => ∃ acc : Nat, f 9 = .sl p (l.map Itm.av) ∧ f 10 = .int .i64 l.length ∧ f 11 = .int .i64 i ∧
      f 3 = .int .i64 acc ∧ acc ≤ 1048576 ∧ I0.steps acc ((l.drop i).map Itm.e) = I0.steps 0 (l.map Itm.e) ∧ Grows σ σ' := ⟨_, rfl⟩
    simp [q_check_Steps]
    refine rng (runs_mono T) l I ?_ ?_ (by rw [hI]; exact ⟨0, by simp⟩)
    · intro i x f σ1 hi hx hxm hgx hdrop h
      rw [hI] at h
      obtain ⟨acc, h3, h4, h5, h6, h7, h8, h9⟩ := h
      have hgx := hgx hi
      rw [hdrop, List.map_cons] at h8
      simp only [I0.steps] at h8
      obtain ⟨hki, hlo, hhi, _, _, hkl, hkl2, hkids⟩ := (hok x.e (List.mem_map_of_mem hxm)).inv
      have w1 : IntKind.i64.wrap ((i : Int) + 1) = ((i + 1 : Nat) : Int) := wsucc (by omega)
      have fin : ∀ (many : Nat), many ≤ 1048576 → min (IntKind.i64.wrap ((acc : Int) + (many : Int))) 1048576 = ((cap20 (acc + many) : Nat) : Int) := by
        intro many hm
        rw [w64 (by omega) (by omega)]
        simp only [cap20]; omega
      have next : ∀ (f' : Fr) (σ' : St), f' 9 = f 9 → f' 10 = f 10 → f' 11 = .int .i64 ((i + 1 : Nat) : Int) → f' 3 = .int .i64 ((cap20 (acc + x.e.long) : Nat) : Int) → Grows σ σ' → I (i + 1) f' σ' := by
        intro f' σ' e1 e2 e3 e4 e5
        rw [hI]
        exact ⟨_, by rw [e1, h3], by rw [e2, h4], e3, e4, cap20_le _, h8, e5⟩
      simp [q_check_Steps_b1, h3, h4, h5, h6, hi, hx, Itm.av_eq, hgx]
      by_cases hk1 : x.e.kind = 1
      · have e1 : x.e.long = (min (max x.e.high 0) 1048576).toNat := by rw [I0.long_eq, if_pos hk1]
        have t2 := fin _ (show (min (max x.e.high 0) 1048576).toNat ≤ 1048576 by omega)
        rw [show (((min (max x.e.high 0) 1048576).toNat : Nat) : Int) = min (max x.e.high 0) 1048576 by omega] at t2
        simp [hk1, h6, h5, w1, t2]
        exact next _ _ (by simp) (by simp) (by simp) (by simp [e1]) ((h9.push' _).set (h9.1) _)
      · by_cases hk2 : x.e.kind = 2
        · have e1 : x.e.long = 0 := by rw [I0.long_eq, if_neg hk1, if_pos hk2]
          have t2 := fin 0 (by decide)
          simp only [Int.natCast_zero, Int.add_zero] at t2
          simp [hk2, h6, h5, w1, t2]
          exact next _ _ (by simp) (by simp) (by simp) (by simp [e1]) ((h9.push' _).set (h9.1) _)
        · by_cases hk3 : x.e.kind = 3
          · have em : x.e.long = I0.longK 0 x.e.kids := by rw [I0.long_eq, if_neg hk1, if_neg hk2, if_pos hk3]
            simp [hk3]
            have hkl' : x.kids.length ≤ 140737488355328 := by rw [Itm.e_kids] at hkl; simpa [okLen] using hkl
            obtain ⟨J, hJ⟩ : ∃ J : Nat → Fr → St → Prop, J = fun j f' σ' => ∃ m : Nat, f' 9 = f 9 ∧ f' 10 = f 10 ∧ f' 11 = f 11 ∧ f' 3 = f 3 ∧
              f' 28 = .sl x.kp (x.kids.map Ks.av) ∧ f' 29 = .int .i64 x.kids.length ∧ f' 30 = .int .i64 j ∧ f' 6 = .int .i64 m ∧ m ≤ 1048576 ∧
              I0.longK m ((x.kids.drop j).map Ks.e) = I0.longK 0 x.e.kids ∧ Grows σ σ' := ⟨_, rfl⟩
            refine rng (runs_mono T) x.kids J ?_ ?_ (by rw [hJ]; exact ⟨0, by simp [Itm.e_kids, h9.push', (h9.push' _).set (h9.1)]⟩)
            · intro j y f2 σ2 hj hy hym hgy hdropy h
              rw [hJ] at h
              obtain ⟨m, j3, j4, j5, j6, j7, j8, j9, j10, j11, j12, j13⟩ := h
              have hgy := hgy hj
              rw [hdropy, List.map_cons] at j12
              simp only [I0.longK] at j12
              have wj : IntKind.i64.wrap ((j : Int) + 1) = ((j + 1 : Nat) : Int) := wsucc (by omega)
              have hye : y.e ∈ x.e.kids := by rw [Itm.e_kids]; exact List.mem_map_of_mem hym
              have hyo : ItemsOk (y.l.map Itm.e) := by rw [← Ks.e_eq]; exact ⟨hkl2 _ hye, hkids _ hye⟩
              have hrec := ih y.l (Nat.lt_of_lt_of_le (Itm.size_mem hxm hym) (by omega)) hyo y.p σ2
              rw [Ks.e_eq] at j12
              have hb := I0.steps_le (y.l.map Itm.e) (m := 0) (by decide)
              have wm : max (m : Int) (I0.steps 0 (y.l.map Itm.e) : Int) = ((max m (I0.steps 0 (y.l.map Itm.e)) : Nat) : Int) := by omega
              simp [q_check_Steps_b0, j7, j8, j9, j10, hj, hy, hgy, Ks.av_eq]
              refine hrec.mono ?_
              rintro o σ3 ⟨rfl, g3⟩
              simp [j9, j10, wj, wm]
              rw [hJ]
              exact ⟨_, by simp [j3], by simp [j4], by simp [j5], by simp [j6], by simp [j7], by simp [j8], by simp, by simp, Nat.max_le.2 ⟨j11, hb⟩, j12, j13.trans g3⟩
            · intro f2 σ2 h
              rw [hJ] at h
              obtain ⟨m, j3, j4, j5, j6, j7, j8, j9, j10, j11, j12, j13⟩ := h
              simp only [List.drop_length, List.map_nil, I0.longK] at j12
              have t2 := fin m j11
              simp [q_check_Steps_b0, j7, j8, j9, j10, j3, j4, j5, j6, h3, h4, h5, h6, w1, t2]
              exact next _ _ (by simp [j3]) (by simp [j4]) (by simp) (by simp [em, j12]) j13
          · have e1 : x.e.long = 1 := by rw [I0.long_eq, if_neg hk1, if_neg hk2, if_neg hk3]
            have t2 := fin 1 (by decide)
            simp only [Int.natCast_one] at t2
            simp [hk1, hk2, hk3, h6, h5, w1, t2]
            exact next _ _ (by simp) (by simp) (by simp) (by simp [e1]) ((h9.push' _).set (h9.1) _)
    · intro f σ1 h
      rw [hI] at h
      obtain ⟨acc, h3, h4, h5, h6, h7, h8, h9⟩ := h
      simp only [List.drop_length, List.map_nil, I0.steps] at h8
      simp [q_check_Steps_b1, h3, h4, h5, h6]
      exact ⟨congrArg Int.ofNat h8, h9⟩

/-! Expressions, gone by. -/

mutual
/-- An expression and all below it, gone by. -/
def Xp.fold {β : Type} (g : β → β) : Xp → β → β
  | .mk _ _ _ _ _ _ kids, b => Xp.folds g kids (g b)
def Xp.folds {β : Type} (g : β → β) : List Xp → β → β
  | [], b => b
  | x :: xs, b => Xp.folds g xs (Xp.fold g x b)
end
theorem Xp.fold_eq {β : Type} (g : β → β) (x : Xp) (b : β) : Xp.fold g x b = Xp.folds g x.kids (g b) := by cases x; simp only [Xp.fold]; rfl

/-- Of the names that were there only some were turned. -/
def FrM (M : Nat → Prop) (σ σ' : St) : Prop := σ.next ≤ σ'.next ∧ ∀ y, y < σ.next → ¬ M y → σ'.get y = σ.get y

theorem FrM.refl (M : Nat → Prop) (σ : St) : FrM M σ σ := ⟨Nat.le_refl _, fun _ _ _ => rfl⟩
theorem FrM.trans {M : Nat → Prop} {σ σ' σ'' : St} (h : FrM M σ σ') (h' : FrM M σ' σ'') : FrM M σ σ'' :=
  ⟨Nat.le_trans h.1 h'.1, fun y hy hn => (h'.2 y (Nat.lt_of_lt_of_le hy h.1) hn).trans (h.2 y hy hn)⟩
theorem FrM.push {M : Nat → Prop} {σ σ' : St} (h : FrM M σ σ') (o : AObj) : FrM M σ (σ'.push o) :=
  ⟨Nat.le_trans h.1 (by simp), fun y hy hn => by rw [St.get_push, if_neg (Nat.ne_of_lt (Nat.lt_of_lt_of_le hy h.1))]; exact h.2 y hy hn⟩
theorem FrM.set {M : Nat → Prop} {σ σ' : St} (h : FrM M σ σ') {m : Nat} (hm : σ.next ≤ m ∨ M m) (o : AObj) : FrM M σ (σ'.set m o) :=
  ⟨by simpa using h.1, fun y hy hn => by
    rw [St.get_set_ne _ _ (by rintro rfl; rcases hm with hm | hm; omega; exact hn hm)]
    exact h.2 y hy hn⟩
theorem FrM.of_grows {M : Nat → Prop} {σ σ' : St} (h : Grows σ σ') : FrM M σ σ' := ⟨h.1, fun y hy _ => h.2 y hy⟩
theorem FrM.grows {σ σ' : St} (h : FrM (fun _ => False) σ σ') : Grows σ σ' := ⟨h.1, fun y hy => h.2 y hy id⟩

theorem walk_run (hB : Base T) {β : Type} (g : β → β) (M : Nat → Prop) (S : β → St → Prop) (fv : AV) (hM : ∀ b σ y, S b σ → M y → y < σ.next)
    (hS : ∀ b σ σ', S b σ → σ.next ≤ σ'.next → (∀ y, M y → σ'.get y = σ.get y) → S b σ')
    (hf : ∀ (x : Xp) b σ, S b σ → callC (Runs T) σ fv [x.av] (fun o σ' => o = .ret .undef ∧ S (g b) σ' ∧ FrM M σ σ')) :
    ∀ (n : Nat) (x : Xp), sizeOf x < n → x.e.Ok → ∀ b σ, S b σ → Runs T f_expr_walk [x.av, fv] σ (fun o σ' => o = .ret .undef ∧ S (Xp.fold g x b) σ' ∧ FrM M σ σ') := by
  intro n
  induction n with
  | zero => intro l hn; exact absurd hn (Nat.not_lt_zero _)
  | succ sz ih =>
    intro x hsz hok b σ hs
    obtain ⟨_, _, hkl, hko⟩ := hok.inv
    have hkl' : x.kids.length ≤ 140737488355328 := by rw [Xp.e_kids] at hkl; simpa [okLen] using hkl
    refine runs_fn (hB.hook _ (by decide)) (hB.fn _ q_expr_walk rfl) (by simp [q_expr_walk]) ?_
    have hmn : ∀ y, M y → y ≠ σ.next := fun y hy => Nat.ne_of_lt (hM b σ y hs hy)
    have hnm : ¬ M σ.next := fun h => hmn _ h rfl
    have pushS : ∀ b (σ1 : St) o, S b σ1 → S b (σ1.push o) := fun b σ1 o h => hS b σ1 _ h (by simp) fun y hy => by rw [St.get_push, if_neg (Nat.ne_of_lt (hM b σ1 y h hy))]
    obtain ⟨cs, hcs⟩ : ∃ cs, cs = [AV.int .i64 x.e.kind, .str x.e.op, .int .i64 x.e.n, .str x.e.var, .str x.e.field, .sl x.p (x.kids.map Xp.av)] := ⟨_, rfl⟩
    have hcall := hf x b (σ.push (.cells cs)) (pushS b σ _ hs)
    simp [q_expr_walk, Xp.av_eq]
    rw [← hcs]
    rw [Xp.av_eq, ← hcs] at hcall
    refine callC_mono (runs_mono T) ?_ hcall
    rintro o σ1 ⟨rfl, hs1, hfr⟩
    have hcell : σ1.get σ.next = some (.cells cs) := by rw [hfr.2 σ.next (by simp) hnm]; simp
    simp
    rw [hcell, hcs]
    simp
    obtain ⟨J, hJ⟩ : ∃ J : Nat → Fr → St → Prop, J = fun j f' σ' => ∃ b' : β, f' 1 = fv ∧ f' 10 = .sl x.p (x.kids.map Xp.av) ∧ f' 11 = .int .i64 x.kids.length ∧ f' 12 = .int .i64 j ∧
      S b' σ' ∧ Xp.folds g (x.kids.drop j) b' = Xp.folds g x.kids (g b) ∧ FrM M σ σ' := ⟨_, rfl⟩
    have hfr0 : FrM M σ σ1 := ((FrM.refl M σ).push _).trans hfr
    refine rng (runs_mono T) x.kids J ?_ ?_ (by rw [hJ]; exact ⟨g b, by simp, by simp, by simp, by simp, hs1, rfl, hfr0⟩)
    · intro j y f2 σ2 hj hy hym hgy hdropy h
      rw [hJ] at h
      obtain ⟨b2, j1, j2, j3, j4, j5, j6, j7⟩ := h
      have hgy := hgy hj
      rw [hdropy] at j6
      simp only [Xp.folds] at j6
      have wj : IntKind.i64.wrap ((j : Int) + 1) = ((j + 1 : Nat) : Int) := wsucc (by omega)
      have hye : y.e ∈ x.e.kids := by rw [Xp.e_kids]; exact List.mem_map_of_mem hym
      simp [q_expr_walk_b0, j1, j2, j3, j4, hj, hy, hgy, Xp.av_eq]
      rw [← Xp.av_eq]
      refine (ih y (Nat.lt_of_lt_of_le (Xp.size_kids x y hym) (by omega)) (hko _ hye) b2 _ ?_).mono ?_
      · refine hS b2 σ2 _ j5 (by simp) fun z hz => ?_
        have := Nat.ne_of_lt (hM b2 σ2 z j5 hz)
        rw [St.get_set_ne _ _ this, St.get_push, if_neg this]
      · rintro o σ3 ⟨rfl, g3, g4⟩
        simp [j4, wj]
        rw [hJ]
        refine ⟨_, by simp [j1], by simp [j2], by simp [j3], by simp, g3, j6, ?_⟩
        exact ((j7.push _).set (.inl j7.1) _).trans g4
    · intro f2 σ2 h
      rw [hJ] at h
      obtain ⟨b2, j1, j2, j3, j4, j5, j6, j7⟩ := h
      simp only [List.drop_length, Xp.folds] at j6
      simp [q_expr_walk_b0, j1, j2, j3, j4]
      rw [Xp.fold_eq, ← j6]
      exact ⟨j5, j7⟩

mutual
theorem fold_size : ∀ (x : Xp) (b : Nat), Xp.fold (· + 1) x b = b + x.e.size
  | .mk _ _ _ _ _ _ kids, b => by simp only [Xp.fold, Xp.e, E0.size]; rw [folds_size kids]; omega
theorem folds_size : ∀ (l : List Xp) (b : Nat), Xp.folds (· + 1) l b = b + E0.sizes (Xp.es l)
  | [], b => rfl
  | x :: xs, b => by simp only [Xp.folds, Xp.es, E0.sizes]; rw [fold_size x, folds_size xs]; omega
end

theorem wrap_add (a b : Int) : IntKind.i64.wrap (IntKind.i64.wrap a + b) = IntKind.i64.wrap (a + b) := by
  simp only [IntKind.wrap_i64]; omega

theorem size_run (hB : Base T) (x : Xp) (hok : x.e.Ok) (σ : St) :
    Runs T f_expr_Size [x.av] σ (fun o σ' => o = .ret (.int .i64 (IntKind.i64.wrap x.e.size)) ∧ Grows σ σ') := by
  refine runs_fn (hB.hook _ (by decide)) (hB.fn _ q_expr_Size rfl) (by simp [q_expr_Size]) ?_
  simp [q_expr_Size, Xp.av_eq]
  rw [← Xp.av_eq]
  refine (walk_run hB (β := Nat) (· + 1) (fun y => y = σ.next + 1) (fun b σ' => σ.next + 1 < σ'.next ∧ σ'.get (σ.next + 1) = some (.cells [.int .i64 (IntKind.i64.wrap b)])) _ ?_ ?_ ?_ _ x (Nat.lt_succ_self _) hok 0 _ ?_).mono ?_
  · rintro b σ' y ⟨h1, h2⟩ rfl; exact h1
  · rintro b σ1 σ2 ⟨h1, h2⟩ h3 h4; exact ⟨by omega, by rw [h4 _ rfl]; exact h2⟩
  · rintro y b σ1 ⟨h1, h2⟩
    simp only [callC_fn, List.nil_append, List.append_nil]
    refine runs_fn (hB.hook _ (by decide)) (hB.fn _ q_expr_Size_1 rfl) (by simp [q_expr_Size_1]) ?_
    have hne : σ.next + 1 ≠ σ1.next := by omega
    simp [q_expr_Size_1, Xp.av_eq, hne, h2, wrap_add]
    refine ⟨by omega, ?_⟩
    exact ((FrM.refl (fun y => y = σ.next + 1) σ1).push _).set (.inr rfl) _
  · refine ⟨by simp, by simp [IntKind.wrap_i64]⟩
  · rintro o σ' ⟨rfl, ⟨h1, h2⟩, h3⟩
    simp [h2]
    refine ⟨by rw [fold_size]; simp, ?_⟩
    refine ⟨by have := h3.1; simp at this; omega, fun y hy => ?_⟩
    rw [h3.2 y (by simp; omega) (by omega)]
    have e1 : y ≠ σ.next := by omega
    have e2 : y ≠ σ.next + 1 := by omega
    simp [e1, e2]

theorem code_run (hB : Base T) : ∀ (n : Nat) (l : List Itm), sizeOf l < n → ItemsOk (l.map Itm.e) → ∀ (p : Perm) (σ : St),
    Runs T f_check_Code [.sl p (l.map Itm.av)] σ (fun o σ' => o = .ret (.int .i64 (IntKind.i64.wrap (I0.codes (l.map Itm.e)))) ∧ Grows σ σ') := by
  intro n
  induction n with
  | zero => intro l hn; exact absurd hn (Nat.not_lt_zero _)
  | succ sz ih =>
    intro l hsz hok p σ
    obtain ⟨hlen, hok⟩ := hok
    simp only [okLen, List.length_map] at hlen
    refine runs_fn (hB.hook _ (by decide)) (hB.fn _ q_check_Code rfl) (by simp [q_check_Code]) ?_
    obtain ⟨I, hI⟩ : ∃ I : Nat → Fr → St → Prop, I = fun i f σ' => ∃ acc : Nat, f 10 = .sl p (l.map Itm.av) ∧ f 11 = .int .i64 l.length ∧ f 12 = .int .i64 i ∧
      f 3 = .int .i64 (IntKind.i64.wrap acc) ∧ acc + I0.codes ((l.drop i).map Itm.e) = I0.codes (l.map Itm.e) ∧ Grows σ σ' := ⟨_, rfl⟩
    simp [q_check_Code]
    refine rng (runs_mono T) l I ?_ ?_ (by rw [hI]; exact ⟨0, by simp [IntKind.wrap_i64]⟩)
    · intro i x f σ1 hi hx hxm hgx hdrop h
      rw [hI] at h
      obtain ⟨acc, h3, h4, h5, h6, h8, h9⟩ := h
      have hgx := hgx hi
      rw [hdrop, List.map_cons] at h8
      simp only [I0.codes] at h8
      obtain ⟨hki, hlo, hhi, hpl, hpo, hkl, hkl2, hkids⟩ := (hok x.e (List.mem_map_of_mem hxm)).inv
      have w1 : IntKind.i64.wrap ((i : Int) + 1) = ((i + 1 : Nat) : Int) := wsucc (by omega)
      have hkl' : x.kids.length ≤ 140737488355328 := by rw [Itm.e_kids] at hkl; simpa [okLen] using hkl
      have hpl' : x.pred.length ≤ 140737488355328 := by rw [Itm.e_pred] at hpl; simpa [okLen] using hpl
      simp [q_check_Code_b2, h3, h4, h5, h6, hi, hx, Itm.av_eq, hgx]
      obtain ⟨cs, hcs⟩ : ∃ cs, cs = [AV.int .i64 x.e.kind, .str x.e.name, .str x.e.var, .sl x.pp (x.pred.map Xp.av), .int .i64 x.e.low, .int .i64 x.e.high, .sl x.kp (x.kids.map Ks.av)] := ⟨_, rfl⟩
      obtain ⟨L, hL⟩ : ∃ L : Nat → Fr → St → Prop, L = fun j f' σ' => ∃ m : Nat, f' 10 = f 10 ∧ f' 11 = f 11 ∧ f' 12 = f 12 ∧ f' 5 = .ptr σ1.next 0 ∧
        f' 17 = .sl x.pp (x.pred.map Xp.av) ∧ f' 18 = .int .i64 x.pred.length ∧ f' 19 = .int .i64 j ∧ f' 3 = .int .i64 (IntKind.i64.wrap m) ∧
        m + E0.sizes ((x.pred.drop j).map Xp.e) = acc + E0.sizes x.e.pred ∧ Grows σ σ' ∧ σ1.next < σ'.next ∧ σ'.get σ1.next = some (.cells cs) := ⟨_, rfl⟩
      refine rng (runs_mono T) x.pred L ?_ ?_ (by rw [hL]; exact ⟨acc, by simp [Itm.e_pred, h9.push', (h9.push' _).set (h9.1), h6, hcs]⟩)
      · intro j y f2 σ2 hj hy hym hgy hdropy h
        rw [hL] at h
        obtain ⟨m, j3, j4, j5, j6, j7, j8, j9, j10, j12, j13, j14, j15⟩ := h
        have hgy := hgy hj
        rw [hdropy, List.map_cons] at j12
        simp only [E0.sizes] at j12
        have wj : IntKind.i64.wrap ((j : Int) + 1) = ((j + 1 : Nat) : Int) := wsucc (by omega)
        have hye : y.e ∈ x.e.pred := by rw [Itm.e_pred]; exact List.mem_map_of_mem hym
        simp [q_check_Code_b1, j7, j8, j9, j10, hj, hy, hgy, Xp.av_eq]
        rw [← Xp.av_eq]
        refine (size_run hB y (hpo _ hye) _).mono ?_
        rintro o σ3 ⟨rfl, g3⟩
        have w3 : IntKind.i64.wrap (IntKind.i64.wrap (m : Int) + IntKind.i64.wrap (y.e.size : Int)) = IntKind.i64.wrap ((m + y.e.size : Nat) : Int) := by
          rw [wrap_add, Int.add_comm, wrap_add, Int.add_comm]; simp
        simp [j9, j10, wj, w3]
        rw [hL]
        refine ⟨m + y.e.size, by simp [j3], by simp [j4], by simp [j5], by simp [j6], by simp [j7], by simp [j8], by simp, by simp, by omega, ((j13.push' _).set (j13.1) _).trans g3, by have := g3.1; simp at this; omega, ?_⟩
        rw [g3.2 _ (by simp; omega)]
        have e1 : σ1.next ≠ σ2.next := by omega
        simp [e1, j15]
      · intro f2 σ2 h
        rw [hL] at h
        obtain ⟨m, j3, j4, j5, j6, j7, j8, j9, j10, j12, j13, j14, j15⟩ := h
        simp only [List.drop_length, List.map_nil, E0.sizes] at j12
        simp [q_check_Code_b1, j7, j8, j9, j6, j15, hcs]
        obtain ⟨J, hJ⟩ : ∃ J : Nat → Fr → St → Prop, J = fun j f' σ' => ∃ m' : Nat, f' 10 = f 10 ∧ f' 11 = f 11 ∧ f' 12 = f 12 ∧
          f' 29 = .sl x.kp (x.kids.map Ks.av) ∧ f' 30 = .int .i64 x.kids.length ∧ f' 31 = .int .i64 j ∧ f' 3 = .int .i64 (IntKind.i64.wrap m') ∧
          m' + I0.codeK ((x.kids.drop j).map Ks.e) = m + I0.codeK x.e.kids ∧ Grows σ σ' := ⟨_, rfl⟩
        refine rng (runs_mono T) x.kids J ?_ ?_ (by rw [hJ]; exact ⟨m, by simp [j3], by simp [j4], by simp [j5], by simp, by simp, by simp, by simp [j10], by simp [Itm.e_kids], j13⟩)
        · intro j y f3 σ3 hj hy hym hgy hdropy h
          rw [hJ] at h
          obtain ⟨m', k3, k4, k5, k7, k8, k9, k10, k12, k13⟩ := h
          have hgy := hgy hj
          rw [hdropy, List.map_cons] at k12
          simp only [I0.codeK] at k12
          have wj : IntKind.i64.wrap ((j : Int) + 1) = ((j + 1 : Nat) : Int) := wsucc (by omega)
          have hye : y.e ∈ x.e.kids := by rw [Itm.e_kids]; exact List.mem_map_of_mem hym
          have hyo : ItemsOk (y.l.map Itm.e) := by rw [← Ks.e_eq]; exact ⟨hkl2 _ hye, hkids _ hye⟩
          have hrec := ih y.l (Nat.lt_of_lt_of_le (Itm.size_mem hxm hym) (by omega)) hyo y.p σ3
          rw [Ks.e_eq] at k12
          simp [q_check_Code_b0, k7, k8, k9, k10, hj, hy, hgy, Ks.av_eq]
          refine hrec.mono ?_
          rintro o σ4 ⟨rfl, g3⟩
          have w3 : IntKind.i64.wrap (IntKind.i64.wrap (m' : Int) + IntKind.i64.wrap (I0.codes (y.l.map Itm.e) : Int)) = IntKind.i64.wrap ((m' + I0.codes (y.l.map Itm.e) : Nat) : Int) := by
            rw [wrap_add, Int.add_comm, wrap_add, Int.add_comm]; simp
          simp [k9, k10, wj, w3]
          rw [hJ]
          exact ⟨m' + I0.codes (y.l.map Itm.e), by simp [k3], by simp [k4], by simp [k5], by simp [k7], by simp [k8], by simp, by simp, by omega, k13.trans g3⟩
        · intro f3 σ3 h
          rw [hJ] at h
          obtain ⟨m', k3, k4, k5, k7, k8, k9, k10, k12, k13⟩ := h
          simp only [List.drop_length, List.map_nil, I0.codeK] at k12
          simp [q_check_Code_b0, k7, k8, k9, k3, k4, k5, h3, h4, h5, w1]
          rw [hI]
          refine ⟨m', by simp [k3, h3], by simp [k4, h4], by simp, by simp [k10], ?_, k13⟩
          rw [I0.code_eq] at h8
          omega
    · intro f σ1 h
      rw [hI] at h
      obtain ⟨acc, h3, h4, h5, h6, h8, h9⟩ := h
      simp only [List.drop_length, List.map_nil, I0.codes, Nat.add_zero] at h8
      simp [q_check_Code_b2, h3, h4, h5, h6]
      exact ⟨by rw [h8], h9⟩

end Jet

/-
The makers of queries out of bytes: what the program's do.
-/
namespace Jet
open Go

/-- Such expressions, without anything appended. -/
def E0.x : E0 → Xp
  | .mk k o n v f kids => .mk k o n v f .full (E0.xs kids)
where
  E0.xs : List E0 → List Xp
  | [] => []
  | e :: es => E0.x e :: E0.xs es

def bytesAV (bs : List Nat) : AV := .sl .no (bs.map fun (b : Nat) => .int .u8 (b : Int))

def feedCells (bs : List Nat) (s : FS) (pv po : Perm) : List AV := [bytesAV bs, .int .i64 s.pos, .sl pv (s.vars.map .str), .sl po (s.kinds.map .str), .int .i64 s.many]

def TokP (σ : St) (p : Perm) (n : Nat) : Prop := (p = .full ∧ n = 0) ∨ ∃ t, p = .tok t ∧ t < σ.next ∧ σ.get t = some (.tok n 1)

structure Feed (m : Nat) (bs : List Nat) (s : FS) (pv po : Perm) (σ : St) : Prop where
  cell : σ.get m = some (.cells (feedCells bs s pv po))
  lt : m < σ.next
  tv : TokP σ pv s.vars.length
  tk : TokP σ po s.kinds.length
  ne : ∀ t, pv = .tok t → po ≠ .tok t

/-- The names of a feed. -/
def FM (m : Nat) (pv po : Perm) (y : Nat) : Prop := y = m ∨ pv = .tok y ∨ po = .tok y

structure FStep (m : Nat) (bs : List Nat) (σ σ' : St) (pv po pv' po' : Perm) (s' : FS) : Prop where
  feed : Feed m bs s' pv' po' σ'
  fr : FrM (FM m pv po) σ σ'
  fv : ∀ y, pv' = .tok y → pv = .tok y ∨ σ.next ≤ y
  fk : ∀ y, po' = .tok y → po = .tok y ∨ σ.next ≤ y

variable {m : Nat} {bs : List Nat} {σ σ' σ'' : St} {pv po pv' po' pv'' po'' : Perm} {s s' s'' : FS}

theorem FStep.refl (h : Feed m bs s pv po σ) : FStep m bs σ σ pv po pv po s := ⟨h, .refl _ _, fun _ e => .inl e, fun _ e => .inl e⟩

theorem FStep.trans (h : FStep m bs σ σ' pv po pv' po' s') (h' : FStep m bs σ' σ'' pv' po' pv'' po'' s'') : FStep m bs σ σ'' pv po pv'' po'' s'' where
  feed := h'.feed
  fr := ⟨Nat.le_trans h.fr.1 h'.fr.1, fun y hy hn => by
    rw [h'.fr.2 y (Nat.lt_of_lt_of_le hy h.fr.1) ?_, h.fr.2 y hy hn]
    rintro (rfl | e | e)
    · exact hn (.inl rfl)
    · rcases h.fv y e with e | e
      · exact hn (.inr (.inl e))
      · omega
    · rcases h.fk y e with e | e
      · exact hn (.inr (.inr e))
      · omega⟩
  fv y e := by
    rcases h'.fv y e with e | e
    · exact h.fv y e
    · exact .inr (Nat.le_trans h.fr.1 e)
  fk y e := by
    rcases h'.fk y e with e | e
    · exact h.fk y e
    · exact .inr (Nat.le_trans h.fr.1 e)

theorem TokP.mono {p : Perm} {n : Nat} (h : TokP σ p n) (hn : σ.next ≤ σ'.next) (hg : ∀ t, p = .tok t → σ'.get t = σ.get t) : TokP σ' p n := by
  rcases h with h | ⟨t, e, h1, h2⟩
  · exact .inl h
  · exact .inr ⟨t, e, by omega, by rw [hg t e]; exact h2⟩

theorem TokP.lt {p : Perm} {n t : Nat} (h : TokP σ p n) (e : p = .tok t) : t < σ.next ∧ σ.get t = some (.tok n 1) := by
  rcases h with ⟨h, _⟩ | ⟨t', e', h1, h2⟩
  · rw [h] at e; cases e
  · rw [e'] at e; cases e; exact ⟨h1, h2⟩

/-- What a feed's names hold is as it was. -/
theorem Feed.keep (h : Feed m bs s pv po σ) (hn : σ.next ≤ σ'.next) (hg : ∀ y, FM m pv po y → y < σ.next → σ'.get y = σ.get y) : Feed m bs s pv po σ' where
  cell := by rw [hg m (.inl rfl) h.lt]; exact h.cell
  lt := by have := h.lt; omega
  tv := h.tv.mono hn fun t e => hg t (.inr (.inl e)) (h.tv.lt e).1
  tk := h.tk.mono hn fun t e => hg t (.inr (.inr e)) (h.tk.lt e).1
  ne := h.ne

theorem Feed.push (h : Feed m bs s pv po σ) (o : AObj) : Feed m bs s pv po (σ.push o) :=
  h.keep (by simp) fun y _ hy => by rw [St.get_push, if_neg (Nat.ne_of_lt hy)]

/-- A variable is none of the feed's. -/
theorem Feed.not_var (h : Feed m bs s pv po σ) {y : Nat} {cs : List AV} (hy : y ≠ m) (hc : σ.get y = some (.cells cs)) : ¬ FM m pv po y := by
  rintro (e | e | e)
  · exact hy e
  · have := (h.tv.lt e).2; rw [hc] at this; cases this
  · have := (h.tk.lt e).2; rw [hc] at this; cases this

theorem Feed.set (h : Feed m bs s pv po σ) {y : Nat} {cs : List AV} (hy : y ≠ m) (hc : σ.get y = some (.cells cs)) (o : AObj) : Feed m bs s pv po (σ.set y o) :=
  h.keep (by simp) fun z hz _ => by rw [St.get_set_ne]; rintro rfl; exact h.not_var hy hc hz

theorem FStep.push (h : FStep m bs σ σ' pv po pv' po' s') (o : AObj) : FStep m bs σ (σ'.push o) pv po pv' po' s' := ⟨h.feed.push o, h.fr.push o, h.fv, h.fk⟩

theorem FStep.set (h : FStep m bs σ σ' pv po pv' po' s') {y : Nat} {cs : List AV} (hy : y ≠ m) (hy2 : σ.next ≤ y) (hc : σ'.get y = some (.cells cs)) (o : AObj) : FStep m bs σ (σ'.set y o) pv po pv' po' s' :=
  ⟨h.feed.set hy hc o, h.fr.set (.inl hy2) o, h.fv, h.fk⟩

/-- A variable is kept. -/
theorem FStep.var (h : FStep m bs σ σ' pv po pv' po' s') (hf : Feed m bs s pv po σ) {y : Nat} {cs : List AV} (hy : y ≠ m) (hlt : y < σ.next) (hc : σ.get y = some (.cells cs)) : σ'.get y = some (.cells cs) := by
  rw [h.fr.2 y hlt (hf.not_var hy hc)]; exact hc

/-- The feed's own cells are written. -/
theorem FStep.own (h : FStep m bs σ σ' pv po pv' po' s') {s2 : FS} (hv : s2.vars = s'.vars) (hk : s2.kinds = s'.kinds) : FStep m bs σ (σ'.set m (.cells (feedCells bs s2 pv' po'))) pv po pv' po' s2 where
  feed := {
    cell := St.get_set_eq _ _ _
    lt := by simpa using h.feed.lt
    tv := by
      rw [hv]
      refine h.feed.tv.mono (by simp) fun t e => St.get_set_ne _ _ ?_
      rintro rfl
      have := (h.feed.tv.lt e).2; rw [h.feed.cell] at this; cases this
    tk := by
      rw [hk]
      refine h.feed.tk.mono (by simp) fun t e => St.get_set_ne _ _ ?_
      rintro rfl
      have := (h.feed.tk.lt e).2; rw [h.feed.cell] at this; cases this
    ne := h.feed.ne }
  fr := h.fr.set (.inr (.inl rfl)) _
  fv := h.fv
  fk := h.fk

/-- Numbers that are bytes. -/
def BytesOk (bs : List Nat) : Prop := (∀ b ∈ bs, b ≤ 255) ∧ bs.length ≤ 9223372036854775807

structure FOk (bs : List Nat) (s : FS) : Prop where
  pos : s.pos ≤ bs.length
  len : s.kinds.length = s.vars.length

theorem nextM_le (hb : BytesOk bs) (s : FS) : (nextM bs s).1 ≤ 255 := by
  unfold nextM
  split
  · rename_i h
    simp only [List.getD_eq_getElem?_getD, List.getElem?_eq_getElem h, Option.getD_some]
    exact hb.1 _ (List.getElem_mem h)
  · exact Nat.zero_le _

theorem nextM_ok (h : FOk bs s) : FOk bs (nextM bs s).2 := by
  unfold nextM
  split
  · rename_i h1; exact ⟨by simp; omega, h.len⟩
  · exact h

variable {T : Tab}

theorem next_run (hB : Base T) (hb : BytesOk bs) (hf : Feed m bs s pv po σ) (ho : FOk bs s) :
    Runs T f_jettisonlaw11_feed_next [.ptr m 0] σ (fun o σ' => o = .ret (.int .i64 (nextM bs s).1) ∧ FStep m bs σ σ' pv po pv po (nextM bs s).2) := by
  have hl := hb.2
  have hp := ho.pos
  refine runs_fn (hB.hook _ (by decide)) (hB.fn _ q_jettisonlaw11_feed_next rfl) (by simp [q_jettisonlaw11_feed_next]) ?_
  have hc := hf.cell
  simp [q_jettisonlaw11_feed_next, hc, feedCells, bytesAV]
  by_cases h : s.pos < bs.length
  · have h' : ¬ bs.length ≤ s.pos := by omega
    have w1 : IntKind.i64.wrap ((s.pos : Int) + 1) = ((s.pos + 1 : Nat) : Int) := wsucc (by omega)
    have w2 : IntKind.i64.wrap (s.pos : Int) = (s.pos : Int) := wnat (by omega)
    have w3 : IntKind.i64.wrap ((bs[s.pos] : Nat) : Int) = ((bs[s.pos] : Nat) : Int) := wnat (by have := hb.1 _ (List.getElem_mem h); omega)
    simp [h, h', hc, feedCells, bytesAV, w1, w2, w3, nextM]
    have := (FStep.refl hf).own (s2 := { s with pos := s.pos + 1 }) rfl rfl
    simpa [feedCells, bytesAV] using this
  · have h' : bs.length ≤ s.pos := by omega
    simp [h', nextM, h]
    exact .refl hf

theorem map3_run (hB : Base T) (kind : Str) (σ : St) : Runs T f_jettisonlaw11_map3 [.str kind] σ (fun o σ' => o = .ret (.str (map3M kind)) ∧ σ' = σ) := by
  refine runs_fn (hB.hook _ (by decide)) (hB.fn _ q_jettisonlaw11_map3 rfl) (by simp [q_jettisonlaw11_map3]) ?_
  by_cases h : kind = [66]
  · simp [q_jettisonlaw11_map3, map3M, h]
  · simp [q_jettisonlaw11_map3, map3M, h]

/-- Division and remainder of numbers that are none too large. -/
theorem rm (b k : Nat) : Int.tmod (b : Int) (k : Int) = ((b % k : Nat) : Int) := by rw [Int.ofNat_tmod]
theorem qt {b : Nat} (h : b ≤ 9223372036854775807) (n : Nat) : IntKind.i64.wrap (Int.tdiv (b : Int) (n : Int)) = ((b / n : Nat) : Int) := by
  rw [← Int.ofNat_tdiv, wnat]
  exact Nat.le_trans (Nat.div_le_self _ _) h
theorem qr {b : Nat} (h : b ≤ 9223372036854775807) (n k : Nat) : Int.tmod (IntKind.i64.wrap (Int.tdiv (b : Int) (n : Int))) (k : Int) = ((b / n % k : Nat) : Int) := by rw [qt h, rm]

/-- An expression's value. -/
def E0.a (e : E0) : AV := e.x.av

theorem E0.x_mk (k : Int) (o : Str) (n : Int) (v f : Str) (kids : List E0) : (E0.mk k o n v f kids).a = .agg [.int .i64 k, .str o, .int .i64 n, .str v, .str f, .sl .full (kids.map E0.a)] := by
  have : ∀ l : List E0, Xp.avs (E0.x.E0.xs l) = l.map E0.a := by
    intro l
    induction l with
    | nil => rfl
    | cons e l ih => simp only [E0.x.E0.xs, Xp.avs, ih, List.map_cons, E0.a]
  simp only [E0.a, E0.x, Xp.av, this]

theorem E0.a_eq (e : E0) : e.a = .agg [.int .i64 e.kind, .str e.op, .int .i64 e.n, .str e.var, .str e.field, .sl .full (e.kids.map E0.a)] := by
  cases e; rw [E0.x_mk]; rfl

@[simp] theorem E0.len6 (e : E0) : e.a.cells.length = 6 := by rw [E0.a_eq]; rfl
@[simp] theorem E0.ones (e : E0) : (∀ x, x ∈ e.a.cells → x.one = true) = True := by rw [E0.a_eq]; simp
@[simp] theorem E0.take6 (e : E0) : e.a.cells.take 6 = e.a.cells := List.take_of_length_le (by simp)
@[simp] theorem E0.agg_cells (e : E0) : AV.agg e.a.cells = e.a := by rw [E0.a_eq]; rfl
@[simp] theorem Xp.len6 (e : Xp) : e.av.cells.length = 6 := by rw [Xp.av_eq]; rfl
@[simp] theorem Xp.ones (e : Xp) : (∀ x, x ∈ e.av.cells → x.one = true) = True := by rw [Xp.av_eq]; simp
@[simp] theorem Xp.take6 (e : Xp) : e.av.cells.take 6 = e.av.cells := List.take_of_length_le (by simp)
@[simp] theorem Xp.agg_cells (e : Xp) : AV.agg e.av.cells = e.av := by rw [Xp.av_eq]; rfl
@[simp] theorem Itm.len7 (e : Itm) : e.av.cells.length = 7 := by rw [Itm.av_eq]; rfl
@[simp] theorem Itm.ones (e : Itm) : (∀ x, x ∈ e.av.cells → x.one = true) = True := by rw [Itm.av_eq]; simp
@[simp] theorem Itm.take7 (e : Itm) : e.av.cells.take 7 = e.av.cells := List.take_of_length_le (by simp)
@[simp] theorem Itm.agg_cells (e : Itm) : AV.agg e.av.cells = e.av := by rw [Itm.av_eq]; rfl

theorem qt' {b : Nat} (h : b ≤ 9223372036854775807) (n : Nat) : IntKind.i64.wrap ((b : Int) / (n : Int)) = ((b / n : Nat) : Int) := by
  have := qt h n
  rwa [← Int.ofNat_tdiv] at this
theorem qr' {b : Nat} (h : b ≤ 9223372036854775807) (n k : Nat) : Int.tmod (IntKind.i64.wrap ((b : Int) / (n : Int))) (k : Int) = ((b / n % k : Nat) : Int) := by rw [qt' h, rm]

def zeroE : List AV := [.int .i64 0, .str [], .int .i64 0, .str [], .str [], .sl .full []]

theorem ref_run (hB : Base T) (hb : BytesOk bs) (hf : Feed m bs s pv po σ) (ho : FOk bs s) (own kind : Str) :
    Runs T f_jettisonlaw11_feed_ref [.ptr m 0, .str own, .str kind] σ (fun o σ' => o = .ret (refM bs own kind s).1.a ∧ FStep m bs σ σ' pv po pv po (refM bs own kind s).2) := by
  refine runs_fn (hB.hook _ (by decide)) (hB.fn _ q_jettisonlaw11_feed_ref rfl) (by simp [q_jettisonlaw11_feed_ref]) ?_
  simp [q_jettisonlaw11_feed_ref]
  refine (next_run hB hb (hf.push _) ho).mono ?_
  rintro o σ1 ⟨rfl, g1⟩
  have hn1 := nextM_le hb s
  have ho1 := nextM_ok ho
  have hc := g1.feed.cell
  have hne : σ.next ≠ m := by have := hf.lt; omega
  have hne' : m ≠ σ.next := hne.symm
  have hloc : σ1.get σ.next = some (.cells zeroE) := g1.var (hf.push _) hne (by simp) (by simp [zeroE])
  have g0 : FStep m bs σ σ1 pv po pv po (nextM bs s).2 := ((FStep.refl hf).push _).trans g1
  simp only [refM]
  obtain ⟨b, hbd⟩ : ∃ b, (nextM bs s).1 = b := ⟨_, rfl⟩
  obtain ⟨s1, hs1⟩ : ∃ s1, (nextM bs s).2 = s1 := ⟨_, rfl⟩
  rw [hbd] at hn1
  rw [hs1] at ho1 hc g0
  simp only [hbd, hs1]
  have d1 : Int.tmod (IntKind.i64.wrap ((b : Int) / 3)) (s1.vars.length : Int) = ((b / 3 % s1.vars.length : Nat) : Int) := qr' (by omega) 3 _
  have d2 : Int.tmod (b : Int) 3 = ((b % 3 : Nat) : Int) := rm b 3
  have d3 : Int.tmod (IntKind.i64.wrap ((b : Int) / 64)) 2 = ((b / 64 % 2 : Nat) : Int) := qr' (by omega) 64 2
  obtain ⟨c3, hc3⟩ : ∃ c, b % 3 = c := ⟨_, rfl⟩
  obtain ⟨c64, hc64⟩ : ∃ c, b / 64 % 2 = c := ⟨_, rfl⟩
  have hc64' : c64 = 0 ∨ c64 = 1 := by omega
  rw [hc3] at d2
  rw [hc64] at d3
  have hg : ∀ z : AV, ([AV.str [107], z])[c64]? = some (if c64 = 0 then .str [107] else z) := by intro z; rcases hc64' with h | h <;> simp [h]
  have hcl : ∀ z : Str, (if c64 = 0 then AV.str [107] else AV.str z) = .str (if c64 = 0 then [107] else z) := by intro z; split <;> rfl
  by_cases c0 : 0 < s1.vars.length
  · by_cases c1 : c3 = 0
    · have hne0 : s1.vars.length ≠ 0 := by omega
      obtain ⟨k, hk⟩ : ∃ k, b / 3 % s1.vars.length = k := ⟨_, rfl⟩
      have hkl : k < s1.vars.length := by rw [← hk]; exact Nat.mod_lt _ c0
      have hkl2 : k < s1.kinds.length := by rw [ho1.len]; exact hkl
      rw [hk] at d1
      have z1 : ¬ s1.vars = [] := by intro e; simp [e] at c0
      simp [hbd, hs1, hc, feedCells, c0, d2, c1, d1, hne0, hkl, hkl2, z1, hk]
      refine (map3_run hB _ σ1).mono ?_
      rintro o σ2 ⟨rfl, rfl⟩
      simp [d3, hg, hcl, hloc, zeroE, E0.x_mk, hc3, c1, c0, hk, hkl, hkl2]
      exact ⟨by rw [hc64], g0.set hne (Nat.le_refl _) hloc _⟩
    · simp [hbd, hs1, hc, feedCells, c0, d2, c1]
      refine (map3_run hB kind σ1).mono ?_
      rintro o σ2 ⟨rfl, rfl⟩
      simp [d3, hg, hcl, hloc, zeroE, E0.x_mk, hc3, c1, c0]
      exact ⟨by rw [hc64], g0.set hne (Nat.le_refl _) hloc _⟩
  · simp [hbd, hs1, hc, feedCells, c0]
    refine (map3_run hB kind σ1).mono ?_
    rintro o σ2 ⟨rfl, rfl⟩
    simp [d3, hg, hcl, hloc, zeroE, E0.x_mk, c0]
    exact ⟨by rw [hc64], g0.set hne (Nat.le_refl _) hloc _⟩

mutual
/-- Nothing raw stands in it. -/
def AV.nr : AV → Bool
  | .raw _ => false
  | .ept cs => AV.nrs cs
  | .sl _ xs => AV.nrs xs
  | .fn _ a b => AV.nrs a && AV.nrs b
  | .iface _ v => v.nr
  | .agg cs => AV.nrs cs
  | .tup vs => AV.nrs vs
  | _ => true
def AV.nrs : List AV → Bool
  | [] => true
  | x :: xs => x.nr && AV.nrs xs
end

mutual
theorem AV.beq_nr : ∀ {x : AV}, x.nr = true → AV.beq x x = true
  | .raw _, h => by simp [AV.nr] at h
  | .bool _, _ => by simp [AV.beq]
  | .int _ _, _ => by simp [AV.beq]
  | .str _, _ => by simp [AV.beq]
  | .ptr _ _, _ => by simp [AV.beq]
  | .nilp, _ => rfl
  | .ept cs, h => by simp only [AV.nr] at h; simp only [AV.beq, AV.beqs_nr h]
  | .sl p xs, h => by simp only [AV.nr] at h; simp [AV.beq, AV.beqs_nr h]
  | .ms _ _ _ _ _, _ => by simp [AV.beq]
  | .map _, _ => by simp [AV.beq]
  | .nilm, _ => rfl
  | .fn f a b, h => by simp only [AV.nr, Bool.and_eq_true] at h; simp [AV.beq, AV.beqs_nr h.1, AV.beqs_nr h.2]
  | .nilf, _ => rfl
  | .iface t v, h => by simp only [AV.nr] at h; simp [AV.beq, AV.beq_nr h]
  | .nili, _ => rfl
  | .agg cs, h => by simp only [AV.nr] at h; simp only [AV.beq, AV.beqs_nr h]
  | .tup cs, h => by simp only [AV.nr] at h; simp only [AV.beq, AV.beqs_nr h]
  | .iter _, _ => by simp [AV.beq]
theorem AV.beqs_nr : ∀ {xs : List AV}, AV.nrs xs = true → AV.beqs xs xs = true
  | [], _ => rfl
  | x :: xs, h => by simp only [AV.nrs, Bool.and_eq_true] at h; simp only [AV.beqs, AV.beq_nr h.1, AV.beqs_nr h.2, Bool.and_self]
end

mutual
theorem Xp.nr : ∀ x : Xp, x.av.nr = true
  | .mk k o n v f p kids => by simp only [Xp.av, AV.nr, AV.nrs, Xp.nrs kids, Bool.and_self]
theorem Xp.nrs : ∀ l : List Xp, AV.nrs (Xp.avs l) = true
  | [] => rfl
  | x :: xs => by simp only [Xp.avs, AV.nrs, Xp.nr x, Xp.nrs xs, Bool.and_self]
end
@[simp] theorem E0.beq (e : E0) : AV.beq e.a e.a = true := AV.beq_nr (by rw [E0.a]; exact Xp.nr _)
@[simp] theorem Xp.beq (x : Xp) : AV.beq x.av x.av = true := AV.beq_nr x.nr
@[simp] theorem beq_str (s : List UInt8) : AV.beq (.str s) (.str s) = true := by simp [AV.beq]
@[simp] theorem beq_int (k : IntKind) (n : Int) : AV.beq (.int k n) (.int k n) = true := by simp [AV.beq]
@[simp] theorem beq_bool (b : Bool) : AV.beq (.bool b) (.bool b) = true := by simp [AV.beq]

theorem refM_ok (h : FOk bs s) (own kind : Str) : FOk bs (refM bs own kind s).2 := nextM_ok h
theorem numberM_ok (own kind : Str) : ∀ (d : Nat) {s : FS}, FOk bs s → FOk bs (numberM bs own kind d s).2
  | 0, s, h => by
    simp only [numberM]
    split
    · exact nextM_ok h
    · exact nextM_ok (nextM_ok h)
  | d + 1, s, h => by
    simp only [numberM]
    split
    · exact nextM_ok h
    split
    · exact nextM_ok (nextM_ok h)
    split
    · exact numberM_ok own kind d (nextM_ok h)
    · exact numberM_ok own kind d (numberM_ok own kind d (nextM_ok h))

theorem number_run (hB : Base T) (hb : BytesOk bs) (own kind : Str) : ∀ (d : Nat), d ≤ 1000 → ∀ {σ : St} {s : FS}, Feed m bs s pv po σ → FOk bs s →
    Runs T f_jettisonlaw11_feed_number [.ptr m 0, .str own, .str kind, .int .i64 d] σ (fun o σ' => o = .ret (numberM bs own kind d s).1.a ∧ FStep m bs σ σ' pv po pv po (numberM bs own kind d s).2) := by
  intro d
  induction d with
  | zero =>
    intro _ σ s hf ho
    refine runs_fn (hB.hook _ (by decide)) (hB.fn _ q_jettisonlaw11_feed_number rfl) (by simp [q_jettisonlaw11_feed_number]) ?_
    simp [q_jettisonlaw11_feed_number]
    refine (next_run hB hb (hf.push _) ho).mono ?_
    rintro o σ1 ⟨rfl, g1⟩
    have hn1 := nextM_le hb s
    have ho1 := nextM_ok ho
    have hne : σ.next ≠ m := by have := hf.lt; omega
    have hloc : σ1.get σ.next = some (.cells zeroE) := g1.var (hf.push _) hne (by simp) (by simp [zeroE])
    have g0 : FStep m bs σ σ1 pv po pv po (nextM bs s).2 := ((FStep.refl hf).push _).trans g1
    simp only [numberM]
    obtain ⟨b, hbd⟩ : ∃ b, (nextM bs s).1 = b := ⟨_, rfl⟩
    obtain ⟨s1, hs1⟩ : ∃ s1, (nextM bs s).2 = s1 := ⟨_, rfl⟩
    rw [hbd] at hn1
    rw [hs1] at ho1 g0
    simp only [hbd, hs1]
    have d2 : Int.tmod (b : Int) 2 = ((b % 2 : Nat) : Int) := rm b 2
    have d8 : Int.tmod (b : Int) 8 = ((b % 8 : Nat) : Int) := rm b 8
    have d6 : Int.tmod (IntKind.i64.wrap ((b : Int) / 8)) 6 = ((b / 8 % 6 : Nat) : Int) := qr' (by omega) 8 6
    obtain ⟨c2, hc2⟩ : ∃ c, b % 2 = c := ⟨_, rfl⟩
    obtain ⟨c8, hc8⟩ : ∃ c, b % 8 = c := ⟨_, rfl⟩
    obtain ⟨c6, hc6⟩ : ∃ c, b / 8 % 6 = c := ⟨_, rfl⟩
    have h6 : c6 < 6 := by omega
    rw [hc2] at d2
    rw [hc8] at d8
    rw [hc6] at d6
    have hg : ([AV.int .i64 0, .int .i64 1, .int .i64 2, .int .i64 3, .int .i64 5, .int .i64 9223372036854775807])[c6]? = some (.int .i64 (nums.getD c6 0)) := by
      have : c6 = 0 ∨ c6 = 1 ∨ c6 = 2 ∨ c6 = 3 ∨ c6 = 4 ∨ c6 = 5 := by omega
      rcases this with h | h | h | h | h | h <;> subst h <;> rfl
    simp only [hc2, hc8, hc6]
    by_cases h3 : c8 < 3
    · have h3' : (c8 : Int) < 3 := by omega
      simp [hbd, d8, h3, h3', d6, hg, hloc, zeroE, E0.x_mk]
      exact g0.set hne (Nat.le_refl _) hloc _
    · have h3' : ¬ (c8 : Int) < 3 := by omega
      by_cases h2 : c2 = 0
      · simp [hbd, d8, d2, h3, h3', h2, d6, hg, hloc, zeroE, E0.x_mk]
        exact g0.set hne (Nat.le_refl _) hloc _
      · simp [hbd, d8, d2, h3, h3', h2]
        by_cases h5 : c8 < 6
        · have h5' : (c8 : Int) < 6 := by omega
          simp [d8, h5', hbd]
          refine (ref_run hB hb g0.feed ho1 own kind).mono ?_
          rintro o σ2 ⟨rfl, g2⟩
          have hloc2 := g2.var g0.feed hne (by have := g0.fr.1; have := g1.fr.1; simp at this; omega) hloc
          simp [hloc2, zeroE]
          exact (g0.trans g2).set hne (Nat.le_refl _) hloc2 _
        · have h5' : ¬ (c8 : Int) < 6 := by omega
          simp [d8, h5', hbd]
          refine (ref_run hB hb g0.feed ho1 own kind).mono ?_
          rintro o σ2 ⟨rfl, g2⟩
          have hloc2 := g2.var g0.feed hne (by have := g0.fr.1; have := g1.fr.1; simp at this; omega) hloc
          simp [hloc2, zeroE]
          exact (g0.trans g2).set hne (Nat.le_refl _) hloc2 _
  | succ d ih =>
    intro hd σ s hf ho
    refine runs_fn (hB.hook _ (by decide)) (hB.fn _ q_jettisonlaw11_feed_number rfl) (by simp [q_jettisonlaw11_feed_number]) ?_
    simp [q_jettisonlaw11_feed_number]
    refine (next_run hB hb (hf.push _) ho).mono ?_
    rintro o σ1 ⟨rfl, g1⟩
    have hn1 := nextM_le hb s
    have ho1 := nextM_ok ho
    have hne : σ.next ≠ m := by have := hf.lt; omega
    have hloc : σ1.get σ.next = some (.cells zeroE) := g1.var (hf.push _) hne (by simp) (by simp [zeroE])
    have hlt : σ.next < σ1.next := by have := g1.fr.1; simp at this; omega
    have g0 : FStep m bs σ σ1 pv po pv po (nextM bs s).2 := ((FStep.refl hf).push _).trans g1
    simp only [numberM]
    obtain ⟨b, hbd⟩ : ∃ b, (nextM bs s).1 = b := ⟨_, rfl⟩
    obtain ⟨s1, hs1⟩ : ∃ s1, (nextM bs s).2 = s1 := ⟨_, rfl⟩
    rw [hbd] at hn1
    rw [hs1] at ho1 g0
    simp only [hbd, hs1]
    have d8 : Int.tmod (b : Int) 8 = ((b % 8 : Nat) : Int) := rm b 8
    have d6 : Int.tmod (IntKind.i64.wrap ((b : Int) / 8)) 6 = ((b / 8 % 6 : Nat) : Int) := qr' (by omega) 8 6
    have d5 : Int.tmod (IntKind.i64.wrap ((b : Int) / 8)) 5 = ((b / 8 % 5 : Nat) : Int) := qr' (by omega) 8 5
    have dw : IntKind.i64.wrap (d : Int) = (d : Int) := wnat (by omega)
    have dn : ¬ (d : Int) + 1 < 1 := by omega
    obtain ⟨c8, hc8⟩ : ∃ c, b % 8 = c := ⟨_, rfl⟩
    obtain ⟨c6, hc6⟩ : ∃ c, b / 8 % 6 = c := ⟨_, rfl⟩
    obtain ⟨c5, hc5⟩ : ∃ c, b / 8 % 5 = c := ⟨_, rfl⟩
    have h6 : c6 < 6 := by omega
    have h55 : c5 < 5 := by omega
    rw [hc8] at d8
    rw [hc6] at d6
    rw [hc5] at d5
    have hg : ([AV.int .i64 0, .int .i64 1, .int .i64 2, .int .i64 3, .int .i64 5, .int .i64 9223372036854775807])[c6]? = some (.int .i64 (nums.getD c6 0)) := by
      have : c6 = 0 ∨ c6 = 1 ∨ c6 = 2 ∨ c6 = 3 ∨ c6 = 4 ∨ c6 = 5 := by omega
      rcases this with h | h | h | h | h | h <;> subst h <;> rfl
    have hg5 : ([AV.str [43], .str [45], .str [42], .str [47], .str [37]])[c5]? = some (.str (arith.getD c5 [])) := by
      have : c5 = 0 ∨ c5 = 1 ∨ c5 = 2 ∨ c5 = 3 ∨ c5 = 4 := by omega
      rcases this with h | h | h | h | h <;> subst h <;> rfl
    simp only [hc8, hc6, hc5]
    by_cases h3 : c8 < 3
    · have h3' : (c8 : Int) < 3 := by omega
      simp [hbd, d8, h3, h3', d6, hg, hloc, zeroE, E0.x_mk]
      exact g0.set hne (Nat.le_refl _) hloc _
    · have h3' : ¬ (c8 : Int) < 3 := by omega
      simp [hbd, d8, h3, h3', dn]
      by_cases h5 : c8 < 6
      · have h5' : (c8 : Int) < 6 := by omega
        simp [d8, h5, h5', hbd]
        refine (ref_run hB hb g0.feed ho1 own kind).mono ?_
        rintro o σ2 ⟨rfl, g2⟩
        have hloc2 := g2.var g0.feed hne hlt hloc
        simp [hloc2, zeroE]
        exact (g0.trans g2).set hne (Nat.le_refl _) hloc2 _
      · have h5' : ¬ (c8 : Int) < 6 := by omega
        simp [d8, h5, h5', hbd, dn]
        by_cases h66 : c8 = 6
        · have h66' : (c8 : Int) = 6 := by omega
          simp [d8, h66, h66', hbd, dw]
          refine (ih (by omega) g0.feed ho1).mono ?_
          rintro o σ2 ⟨rfl, g2⟩
          have hloc2 := g2.var g0.feed hne hlt hloc
          simp [hloc2, zeroE, E0.x_mk]
          exact (g0.trans g2).set hne (Nat.le_refl _) hloc2 _
        · have h66' : ¬ (c8 : Int) = 6 := by omega
          simp [d8, h66, h66', hbd, dw]
          refine (ih (by omega) g0.feed ho1).mono ?_
          rintro o σ2 ⟨rfl, g2⟩
          have ho2 := numberM_ok own kind d ho1
          have hloc2 := g2.var g0.feed hne hlt hloc
          have hlt2 : σ.next < σ2.next := by have := g2.fr.1; omega
          have hnx : σ2.next ≠ m := by have := g2.feed.lt; omega
          obtain ⟨x, hx⟩ : ∃ x, (numberM bs own kind d s1).1 = x := ⟨_, rfl⟩
          obtain ⟨s2, hs2⟩ : ∃ s2, (numberM bs own kind d s1).2 = s2 := ⟨_, rfl⟩
          rw [hs2] at g2 ho2
          have g3 : FStep m bs σ2 ((σ2.push (.cells zeroE)).set σ2.next (.cells x.a.cells)) pv po pv po s2 := ((FStep.refl g2.feed).push (.cells zeroE)).set (cs := zeroE) hnx (Nat.le_refl _) (by simp) _
          simp [hx, hs2, zeroE, hbd, d5, hg5, dw]
          have hne2 : σ.next ≠ σ2.next := by omega
          have hlocy : ((σ2.push (.cells zeroE)).set σ2.next (.cells x.a.cells)).get σ.next = some (.cells zeroE) := by simp [hne2, hloc2]
          refine (ih (by omega) g3.feed ho2).mono ?_
          rintro o σ3 ⟨rfl, g4⟩
          have hlocx : σ3.get σ2.next = some (.cells x.a.cells) := g4.var g3.feed hnx (by simp) (by simp)
          have hloc3 : σ3.get σ.next = some (.cells zeroE) := g4.var g3.feed hne (by simp; omega) hlocy
          simp [hlocx, hloc3, zeroE, E0.x_mk]
          exact (((g0.trans g2).trans g3).trans g4).set hne (Nat.le_refl _) hloc3 _

theorem comparM_ok (own kind : Str) (b : Nat) (h : FOk bs s) : FOk bs (comparM bs own kind b s).2 := numberM_ok own kind 1 (numberM_ok own kind 1 h)

theorem truthM_ok (own kind : Str) : ∀ (d : Nat) {s : FS}, FOk bs s → FOk bs (truthM bs own kind d s).2
  | 0, s, h => comparM_ok own kind _ (nextM_ok h)
  | d + 1, s, h => by
    simp only [truthM]
    split
    · exact truthM_ok own kind d (nextM_ok h)
    split
    · exact truthM_ok own kind d (truthM_ok own kind d (nextM_ok h))
    · exact comparM_ok own kind _ (nextM_ok h)

theorem predM_ok (own kind : Str) (h : FOk bs s) : FOk bs (predM bs own kind s).2 := by
  simp only [predM]
  split
  · exact nextM_ok h
  · exact truthM_ok own kind 1 (nextM_ok h)

theorem truth_run (hB : Base T) (hb : BytesOk bs) (own kind : Str) : ∀ (d : Nat), d ≤ 1000 → ∀ {σ : St} {s : FS}, Feed m bs s pv po σ → FOk bs s →
    Runs T f_jettisonlaw11_feed_truth [.ptr m 0, .str own, .str kind, .int .i64 d] σ (fun o σ' => o = .ret (truthM bs own kind d s).1.a ∧ FStep m bs σ σ' pv po pv po (truthM bs own kind d s).2) := by
  intro d
  induction d with
  | zero =>
    intro _ σ s hf ho
    refine runs_fn (hB.hook _ (by decide)) (hB.fn _ q_jettisonlaw11_feed_truth rfl) (by simp [q_jettisonlaw11_feed_truth]) ?_
    simp [q_jettisonlaw11_feed_truth]
    refine (next_run hB hb (hf.push _) ho).mono ?_
    rintro o σ1 ⟨rfl, g1⟩
    have hn1 := nextM_le hb s
    have ho1 := nextM_ok ho
    have hne : σ.next ≠ m := by have := hf.lt; omega
    have hloc : σ1.get σ.next = some (.cells zeroE) := g1.var (hf.push _) hne (by simp) (by simp [zeroE])
    have hlt : σ.next < σ1.next := by have := g1.fr.1; simp at this; omega
    have g0 : FStep m bs σ σ1 pv po pv po (nextM bs s).2 := ((FStep.refl hf).push _).trans g1
    simp only [truthM, comparM]
    obtain ⟨b, hbd⟩ : ∃ b, (nextM bs s).1 = b := ⟨_, rfl⟩
    obtain ⟨s1, hs1⟩ : ∃ s1, (nextM bs s).2 = s1 := ⟨_, rfl⟩
    rw [hbd] at hn1
    rw [hs1] at ho1 g0
    simp only [hbd, hs1]
    have d8 : Int.tmod (IntKind.i64.wrap ((b : Int) / 8)) 8 = ((b / 8 % 8 : Nat) : Int) := qr' (by omega) 8 8
    obtain ⟨c8, hc8⟩ : ∃ c, b / 8 % 8 = c := ⟨_, rfl⟩
    have h8 : c8 < 8 := by omega
    rw [hc8] at d8
    have hg8 : ([AV.str [61, 61], .str [33, 61], .str [60], .str [60, 61], .str [62], .str [62, 61], .str [60, 61], .str [62, 61]])[c8]? = some (.str (compar.getD c8 [])) := by
      have : c8 = 0 ∨ c8 = 1 ∨ c8 = 2 ∨ c8 = 3 ∨ c8 = 4 ∨ c8 = 5 ∨ c8 = 6 ∨ c8 = 7 := by omega
      rcases this with h | h | h | h | h | h | h | h <;> subst h <;> rfl
    simp only [hc8]
    simp [hbd]
    refine (number_run hB hb own kind 1 (by omega) g0.feed ho1).mono ?_
    rintro o σ2 ⟨rfl, g2⟩
    have ho2 := numberM_ok own kind 1 ho1
    have hloc2 := g2.var g0.feed hne hlt hloc
    have hlt2 : σ.next < σ2.next := by have := g2.fr.1; omega
    have hnx : σ2.next ≠ m := by have := g2.feed.lt; omega
    obtain ⟨x, hx⟩ : ∃ x, (numberM bs own kind 1 s1).1 = x := ⟨_, rfl⟩
    obtain ⟨s2, hs2⟩ : ∃ s2, (numberM bs own kind 1 s1).2 = s2 := ⟨_, rfl⟩
    rw [hs2] at g2 ho2
    have g3 : FStep m bs σ2 ((σ2.push (.cells zeroE)).set σ2.next (.cells x.a.cells)) pv po pv po s2 := ((FStep.refl g2.feed).push (.cells zeroE)).set (cs := zeroE) hnx (Nat.le_refl _) (by simp) _
    have hne2 : σ.next ≠ σ2.next := by omega
    have hlocy : ((σ2.push (.cells zeroE)).set σ2.next (.cells x.a.cells)).get σ.next = some (.cells zeroE) := by simp [hne2, hloc2]
    simp [hx, hs2, zeroE, hbd, d8, hg8]
    refine (number_run hB hb own kind 1 (by omega) g3.feed ho2).mono ?_
    rintro o σ3 ⟨rfl, g4⟩
    have hlocx : σ3.get σ2.next = some (.cells x.a.cells) := g4.var g3.feed hnx (by simp) (by simp)
    have hloc3 : σ3.get σ.next = some (.cells zeroE) := g4.var g3.feed hne (by simp; omega) hlocy
    simp [hlocx, hloc3, zeroE, E0.x_mk]
    exact (((g0.trans g2).trans g3).trans g4).set hne (Nat.le_refl _) hloc3 _
  | succ d ih =>
    intro hd σ s hf ho
    refine runs_fn (hB.hook _ (by decide)) (hB.fn _ q_jettisonlaw11_feed_truth rfl) (by simp [q_jettisonlaw11_feed_truth]) ?_
    simp [q_jettisonlaw11_feed_truth]
    refine (next_run hB hb (hf.push _) ho).mono ?_
    rintro o σ1 ⟨rfl, g1⟩
    have hn1 := nextM_le hb s
    have ho1 := nextM_ok ho
    have hne : σ.next ≠ m := by have := hf.lt; omega
    have hloc : σ1.get σ.next = some (.cells zeroE) := g1.var (hf.push _) hne (by simp) (by simp [zeroE])
    have hlt : σ.next < σ1.next := by have := g1.fr.1; simp at this; omega
    have g0 : FStep m bs σ σ1 pv po pv po (nextM bs s).2 := ((FStep.refl hf).push _).trans g1
    simp only [truthM, comparM]
    obtain ⟨b, hbd⟩ : ∃ b, (nextM bs s).1 = b := ⟨_, rfl⟩
    obtain ⟨s1, hs1⟩ : ∃ s1, (nextM bs s).2 = s1 := ⟨_, rfl⟩
    rw [hbd] at hn1
    rw [hs1] at ho1 g0
    simp only [hbd, hs1]
    have e8 : Int.tmod (b : Int) 8 = ((b % 8 : Nat) : Int) := rm b 8
    have d8 : Int.tmod (IntKind.i64.wrap ((b : Int) / 8)) 8 = ((b / 8 % 8 : Nat) : Int) := qr' (by omega) 8 8
    have d2 : Int.tmod (IntKind.i64.wrap ((b : Int) / 8)) 2 = ((b / 8 % 2 : Nat) : Int) := qr' (by omega) 8 2
    have dw : IntKind.i64.wrap (d : Int) = (d : Int) := wnat (by omega)
    have dp : (0 : Int) < (d : Int) + 1 := by omega
    obtain ⟨r8, hr8⟩ : ∃ c, b % 8 = c := ⟨_, rfl⟩
    obtain ⟨c8, hc8⟩ : ∃ c, b / 8 % 8 = c := ⟨_, rfl⟩
    obtain ⟨c2, hc2⟩ : ∃ c, b / 8 % 2 = c := ⟨_, rfl⟩
    have h8 : c8 < 8 := by omega
    have h2 : c2 < 2 := by omega
    rw [hr8] at e8
    rw [hc8] at d8
    rw [hc2] at d2
    have hg8 : ([AV.str [61, 61], .str [33, 61], .str [60], .str [60, 61], .str [62], .str [62, 61], .str [60, 61], .str [62, 61]])[c8]? = some (.str (compar.getD c8 [])) := by
      have : c8 = 0 ∨ c8 = 1 ∨ c8 = 2 ∨ c8 = 3 ∨ c8 = 4 ∨ c8 = 5 ∨ c8 = 6 ∨ c8 = 7 := by omega
      rcases this with h | h | h | h | h | h | h | h <;> subst h <;> rfl
    have hg2 : ([AV.str [38, 38], .str [124, 124]])[c2]? = some (.str (logic.getD c2 [])) := by
      have : c2 = 0 ∨ c2 = 1 := by omega
      rcases this with h | h <;> subst h <;> rfl
    simp only [hr8, hc8, hc2]
    by_cases h0 : r8 = 0
    · have h0' : (r8 : Int) = 0 := by omega
      simp [hbd, e8, h0, h0', dp, dw]
      refine (ih (by omega) g0.feed ho1).mono ?_
      rintro o σ2 ⟨rfl, g2⟩
      have hloc2 := g2.var g0.feed hne hlt hloc
      simp [hloc2, zeroE, E0.x_mk]
      exact (g0.trans g2).set hne (Nat.le_refl _) hloc2 _
    · have h0' : ¬ (r8 : Int) = 0 := by omega
      simp [hbd, e8, h0, h0', dp, dw]
      by_cases h3 : r8 < 3
      · have h3' : (r8 : Int) < 3 := by omega
        simp [hbd, e8, h3, h3', dp, dw]
        refine (ih (by omega) g0.feed ho1).mono ?_
        rintro o σ2 ⟨rfl, g2⟩
        have ho2 := truthM_ok own kind d ho1
        have hloc2 := g2.var g0.feed hne hlt hloc
        have hlt2 : σ.next < σ2.next := by have := g2.fr.1; omega
        have hnx : σ2.next ≠ m := by have := g2.feed.lt; omega
        obtain ⟨x, hx⟩ : ∃ x, (truthM bs own kind d s1).1 = x := ⟨_, rfl⟩
        obtain ⟨s2, hs2⟩ : ∃ s2, (truthM bs own kind d s1).2 = s2 := ⟨_, rfl⟩
        rw [hs2] at g2 ho2
        have g3 : FStep m bs σ2 ((σ2.push (.cells zeroE)).set σ2.next (.cells x.a.cells)) pv po pv po s2 := ((FStep.refl g2.feed).push (.cells zeroE)).set (cs := zeroE) hnx (Nat.le_refl _) (by simp) _
        have hne2 : σ.next ≠ σ2.next := by omega
        have hlocy : ((σ2.push (.cells zeroE)).set σ2.next (.cells x.a.cells)).get σ.next = some (.cells zeroE) := by simp [hne2, hloc2]
        simp [hx, hs2, zeroE, hbd, d2, hg2, dw]
        refine (ih (by omega) g3.feed ho2).mono ?_
        rintro o σ3 ⟨rfl, g4⟩
        have hlocx : σ3.get σ2.next = some (.cells x.a.cells) := g4.var g3.feed hnx (by simp) (by simp)
        have hloc3 : σ3.get σ.next = some (.cells zeroE) := g4.var g3.feed hne (by simp; omega) hlocy
        simp [hlocx, hloc3, zeroE, E0.x_mk]
        exact (((g0.trans g2).trans g3).trans g4).set hne (Nat.le_refl _) hloc3 _
      · have h3' : ¬ (r8 : Int) < 3 := by omega
        simp [hbd, e8, h3, h3', dp, dw]
        refine (number_run hB hb own kind 1 (by omega) g0.feed ho1).mono ?_
        rintro o σ2 ⟨rfl, g2⟩
        have ho2 := numberM_ok own kind 1 ho1
        have hloc2 := g2.var g0.feed hne hlt hloc
        have hlt2 : σ.next < σ2.next := by have := g2.fr.1; omega
        have hnx : σ2.next ≠ m := by have := g2.feed.lt; omega
        obtain ⟨x, hx⟩ : ∃ x, (numberM bs own kind 1 s1).1 = x := ⟨_, rfl⟩
        obtain ⟨s2, hs2⟩ : ∃ s2, (numberM bs own kind 1 s1).2 = s2 := ⟨_, rfl⟩
        rw [hs2] at g2 ho2
        have g3 : FStep m bs σ2 ((σ2.push (.cells zeroE)).set σ2.next (.cells x.a.cells)) pv po pv po s2 := ((FStep.refl g2.feed).push (.cells zeroE)).set (cs := zeroE) hnx (Nat.le_refl _) (by simp) _
        have hne2 : σ.next ≠ σ2.next := by omega
        have hlocy : ((σ2.push (.cells zeroE)).set σ2.next (.cells x.a.cells)).get σ.next = some (.cells zeroE) := by simp [hne2, hloc2]
        simp [hx, hs2, zeroE, hbd, d8, hg8]
        refine (number_run hB hb own kind 1 (by omega) g3.feed ho2).mono ?_
        rintro o σ3 ⟨rfl, g4⟩
        have hlocx : σ3.get σ2.next = some (.cells x.a.cells) := g4.var g3.feed hnx (by simp) (by simp)
        have hloc3 : σ3.get σ.next = some (.cells zeroE) := g4.var g3.feed hne (by simp; omega) hlocy
        simp [hlocx, hloc3, zeroE, E0.x_mk]
        exact (((g0.trans g2).trans g3).trans g4).set hne (Nat.le_refl _) hloc3 _

theorem pred_run (hB : Base T) (hb : BytesOk bs) (own kind : Str) (hf : Feed m bs s pv po σ) (ho : FOk bs s) :
    Runs T f_jettisonlaw11_feed_pred [.ptr m 0, .str own, .str kind] σ (fun o σ' => o = .ret (.sl .full ((predM bs own kind s).1.map E0.a)) ∧ FStep m bs σ σ' pv po pv po (predM bs own kind s).2) := by
  refine runs_fn (hB.hook _ (by decide)) (hB.fn _ q_jettisonlaw11_feed_pred rfl) (by simp [q_jettisonlaw11_feed_pred]) ?_
  simp [q_jettisonlaw11_feed_pred]
  refine (next_run hB hb hf ho).mono ?_
  rintro o σ1 ⟨rfl, g1⟩
  have ho1 := nextM_ok ho
  simp only [predM]
  have d2 : Int.tmod ((nextM bs s).1 : Int) 2 = (((nextM bs s).1 % 2 : Nat) : Int) := rm _ 2
  obtain ⟨c2, hc2⟩ : ∃ c, (nextM bs s).1 % 2 = c := ⟨_, rfl⟩
  rw [hc2] at d2
  simp only [hc2]
  by_cases h2 : c2 = 0
  · have h2' : (c2 : Int) = 0 := by omega
    simp [d2, h2, h2']
    exact g1
  · have h2' : ¬ (c2 : Int) = 0 := by omega
    simp [d2, h2, h2']
    refine (truth_run hB hb own kind 1 (by omega) g1.feed ho1).mono ?_
    rintro o σ2 ⟨rfl, g2⟩
    simp
    exact g1.trans g2

end Jet

/-
The makers of queries out of bytes: items.
-/
namespace Jet
open Go

/-- Beside its place a feed is as it was. -/
def SameF (s s' : FS) : Prop := s'.many = s.many ∧ s'.vars = s.vars ∧ s'.kinds = s.kinds

theorem SameF.trans {s s' s'' : FS} (h : SameF s s') (h' : SameF s' s'') : SameF s s'' := ⟨h'.1.trans h.1, h'.2.1.trans h.2.1, h'.2.2.trans h.2.2⟩

variable {m : Nat} {bs : List Nat} {σ σ' σ'' : St} {pv po pv' po' pv'' po'' : Perm} {s s' s'' : FS}

theorem nextM_same (s : FS) : SameF s (nextM bs s).2 := by
  unfold nextM
  split <;> exact ⟨rfl, rfl, rfl⟩
theorem numberM_same (own kind : Str) : ∀ (d : Nat) (s : FS), SameF s (numberM bs own kind d s).2
  | 0, s => by
    simp only [numberM]
    split
    · exact nextM_same s
    · exact (nextM_same s).trans (nextM_same _)
  | d + 1, s => by
    simp only [numberM]
    split
    · exact nextM_same s
    split
    · exact (nextM_same s).trans (nextM_same _)
    split
    · exact (nextM_same s).trans (numberM_same own kind d _)
    · exact ((nextM_same s).trans (numberM_same own kind d _)).trans (numberM_same own kind d _)
theorem comparM_same (own kind : Str) (b : Nat) (s : FS) : SameF s (comparM bs own kind b s).2 := (numberM_same own kind 1 s).trans (numberM_same own kind 1 _)
theorem truthM_same (own kind : Str) : ∀ (d : Nat) (s : FS), SameF s (truthM bs own kind d s).2
  | 0, s => (nextM_same s).trans (comparM_same own kind _ _)
  | d + 1, s => by
    simp only [truthM]
    split
    · exact (nextM_same s).trans (truthM_same own kind d _)
    split
    · exact ((nextM_same s).trans (truthM_same own kind d _)).trans (truthM_same own kind d _)
    · exact (nextM_same s).trans (comparM_same own kind _ _)
theorem predM_same (own kind : Str) (s : FS) : SameF s (predM bs own kind s).2 := by
  simp only [predM]
  split
  · exact nextM_same s
  · exact (nextM_same s).trans (truthM_same own kind 1 _)

theorem evApp_one {n b : Nat} {p : Perm} {xs : List AV} {y : AV} {σ : St} (hp : p ≠ .no) (ht : ∀ t, p = .tok t → σ.get t = some (.tok xs.length n)) (hb : (xs.length + 1) * b ≤ 140737488355328) (hl : xs.length + 1 ≤ 140737488355328)
    (hy : okElem n y = true) (hx : firstOk n xs = true) (hn : 0 < n) :
    evApp n b (.sl p xs) [y] σ = some (match p with
      | .tok t => (.sl (.tok t) (xs ++ [y]), σ.set t (.tok (xs.length + 1) n))
      | _ => (.sl (.tok σ.next) (xs ++ [y]), σ.push (.tok (xs.length + 1) n))) := by
  cases p with
  | no => exact absurd rfl hp
  | full => exact evApp_full (by simp) hb hl (by simpa using hy) hx hn
  | tok t => exact evApp_tok (by simp) hb hl (by simpa using hy) hx hn (ht t rfl)

/-- A variable more. -/
theorem app_var (h : FStep m bs σ σ' pv po pv' po' s') (hl : s'.vars.length ≤ 1000) (own : Str) :
    ∃ q σ1, evApp 1 16 (.sl pv' (s'.vars.map .str)) [.str own] σ' = some (.sl q ((s'.vars ++ [own]).map .str), σ1) ∧ σ1.get m = some (.cells (feedCells bs s' pv' po')) ∧
      FStep m bs σ (σ1.set m (.cells (feedCells bs { s' with vars := s'.vars ++ [own] } q po'))) pv po q po' { s' with vars := s'.vars ++ [own] } ∧ σ'.next ≤ σ1.next ∧
      ∀ y cs, y < σ'.next → σ'.get y = some (.cells cs) → σ1.get y = some (.cells cs) := by
  have hf := h.feed
  have hne : m ≠ σ'.next := by have := hf.lt; omega
  rcases hf.tv with ⟨e, e0⟩ | ⟨t, e, h1, h2⟩
  · subst e
    have hv : s'.vars = [] := List.eq_nil_of_length_eq_zero e0
    refine ⟨.tok σ'.next, σ'.push (.tok 1 1), ?_, ?_, ?_, by simp, ?_⟩
    · rw [evApp_one (by simp) (by simp) (by simp [hv]) (by simp [hv]) rfl (by simp [hv, firstOk]) (by decide)]
      simp [hv]
    · rw [St.get_push, if_neg hne]; exact hf.cell
    · refine ⟨⟨St.get_set_eq _ _ _, by simp; have := hf.lt; omega, ?_, ?_, ?_⟩, ?_, ?_, h.fk⟩
      · refine .inr ⟨_, rfl, by simp, ?_⟩
        rw [St.get_set_ne _ _ hne.symm, St.get_push, if_pos rfl]
        simp [hv]
      · refine hf.tk.mono (by simp) fun t et => ?_
        have := hf.tk.lt et
        rw [St.get_set_ne _ _ (by rintro rfl; rw [hf.cell] at this; cases this.2), St.get_push, if_neg (by omega)]
      · intro t et e2
        cases et
        exact Nat.lt_irrefl _ (hf.tk.lt e2).1
      · exact (h.fr.push _).set (.inr (.inl rfl)) _
      · intro y ey; cases ey; exact .inr h.fr.1
    · intro y cs hy hc; rw [St.get_push, if_neg (by omega)]; exact hc
  · subst e
    have hmt : m ≠ t := by rintro rfl; rw [hf.cell] at h2; cases h2
    refine ⟨.tok t, σ'.set t (.tok (s'.vars.length + 1) 1), ?_, ?_, ?_, by simp, ?_⟩
    · rw [evApp_one (by simp) (by intro t' et; cases et; simpa using h2) (by simp; omega) (by simp; omega) rfl (by cases s'.vars <;> rfl) (by decide)]
      simp
    · rw [St.get_set_ne _ _ hmt]; exact hf.cell
    · refine ⟨⟨St.get_set_eq _ _ _, by simpa using hf.lt, ?_, ?_, hf.ne⟩, ?_, h.fv, h.fk⟩
      · refine .inr ⟨t, rfl, by simpa using h1, ?_⟩
        rw [St.get_set_ne _ _ hmt.symm, St.get_set_eq]
        simp
      · refine hf.tk.mono (by simp) fun t' et => ?_
        have := hf.tk.lt et
        rw [St.get_set_ne _ _ (by rintro rfl; rw [hf.cell] at this; cases this.2), St.get_set_ne _ _ (by rintro rfl; exact hf.ne _ rfl et)]
      · refine (h.fr.set ?_ _).set (.inr (.inl rfl)) _
        rcases h.fv t rfl with e | e
        · exact .inr (.inr (.inl e))
        · exact .inl e
    · intro y cs hy hc; rw [St.get_set_ne _ _ (by rintro rfl; rw [hc] at h2; cases h2)]; exact hc

/-- A kind more. -/
theorem app_kind (h : FStep m bs σ σ' pv po pv' po' s') (hl : s'.kinds.length ≤ 1000) (own : Str) :
    ∃ q σ1, evApp 1 16 (.sl po' (s'.kinds.map .str)) [.str own] σ' = some (.sl q ((s'.kinds ++ [own]).map .str), σ1) ∧ σ1.get m = some (.cells (feedCells bs s' pv' po')) ∧
      FStep m bs σ (σ1.set m (.cells (feedCells bs { s' with kinds := s'.kinds ++ [own] } pv' q))) pv po pv' q { s' with kinds := s'.kinds ++ [own] } ∧ σ'.next ≤ σ1.next ∧
      ∀ y cs, y < σ'.next → σ'.get y = some (.cells cs) → σ1.get y = some (.cells cs) := by
  have hf := h.feed
  have hne : m ≠ σ'.next := by have := hf.lt; omega
  rcases hf.tk with ⟨e, e0⟩ | ⟨t, e, h1, h2⟩
  · subst e
    have hv : s'.kinds = [] := List.eq_nil_of_length_eq_zero e0
    refine ⟨.tok σ'.next, σ'.push (.tok 1 1), ?_, ?_, ?_, by simp, ?_⟩
    · rw [evApp_one (by simp) (by simp) (by simp [hv]) (by simp [hv]) rfl (by simp [hv, firstOk]) (by decide)]
      simp [hv]
    · rw [St.get_push, if_neg hne]; exact hf.cell
    · refine ⟨⟨St.get_set_eq _ _ _, by simp; have := hf.lt; omega, ?_, ?_, ?_⟩, ?_, h.fv, ?_⟩
      · refine hf.tv.mono (by simp) fun t et => ?_
        have := hf.tv.lt et
        rw [St.get_set_ne _ _ (by rintro rfl; rw [hf.cell] at this; cases this.2), St.get_push, if_neg (by omega)]
      · refine .inr ⟨_, rfl, by simp, ?_⟩
        rw [St.get_set_ne _ _ hne.symm, St.get_push, if_pos rfl]
        simp [hv]
      · intro t et e2
        cases e2
        exact Nat.lt_irrefl _ (hf.tv.lt et).1
      · exact (h.fr.push _).set (.inr (.inl rfl)) _
      · intro y ey; cases ey; exact .inr h.fr.1
    · intro y cs hy hc; rw [St.get_push, if_neg (by omega)]; exact hc
  · subst e
    have hmt : m ≠ t := by rintro rfl; rw [hf.cell] at h2; cases h2
    refine ⟨.tok t, σ'.set t (.tok (s'.kinds.length + 1) 1), ?_, ?_, ?_, by simp, ?_⟩
    · rw [evApp_one (by simp) (by intro t' et; cases et; simpa using h2) (by simp; omega) (by simp; omega) rfl (by cases s'.kinds <;> rfl) (by decide)]
      simp
    · rw [St.get_set_ne _ _ hmt]; exact hf.cell
    · refine ⟨⟨St.get_set_eq _ _ _, by simpa using hf.lt, ?_, ?_, hf.ne⟩, ?_, h.fv, h.fk⟩
      · refine hf.tv.mono (by simp) fun t' et => ?_
        have := hf.tv.lt et
        rw [St.get_set_ne _ _ (by rintro rfl; rw [hf.cell] at this; cases this.2), St.get_set_ne _ _ (by rintro rfl; exact hf.ne _ et rfl)]
      · refine .inr ⟨t, rfl, by simpa using h1, ?_⟩
        rw [St.get_set_ne _ _ hmt.symm, St.get_set_eq]
        simp
      · refine (h.fr.set ?_ _).set (.inr (.inl rfl)) _
        rcases h.fk t rfl with e | e
        · exact .inr (.inr (.inr e))
        · exact .inl e
    · intro y cs hy hc; rw [St.get_set_ne _ _ (by rintro rfl; rw [hc] at h2; cases h2)]; exact hc

end Jet

/-
The makers of queries out of bytes: an item.
-/
namespace Jet
open Go

def Small (c : Nat) (s : FS) : Prop := s.many ≤ c ∧ s.vars.length ≤ c
def Grow (g : Nat) (f : FS → List I0 × FS) : Prop := ∀ c s, Small c s → Small (c + g) (f s).2

mutual
theorem E0.x_e : ∀ e : E0, e.x.e = e
  | .mk k o n v f kids => by simp only [E0.x, Xp.e, E0.xs_e kids]
theorem E0.xs_e : ∀ l : List E0, Xp.es (E0.x.E0.xs l) = l
  | [] => rfl
  | e :: es => by simp only [E0.x.E0.xs, Xp.es, E0.x_e e, E0.xs_e es]
end

def zeroI : List AV := [.int .i64 0, .str [], .str [], .sl .full [], .int .i64 0, .int .i64 0, .sl .full []]

variable {m : Nat} {bs : List Nat} {σ σ' σ'' : St} {pv po pv' po' pv'' po'' : Perm} {s s' s'' : FS} {T : Tab}

/-- A plain item, of a predicate. -/
def mkI (k : Int) (n v : Str) (pred : List E0) (lo hi : Int) : Itm := .mk k n v .full (pred.map E0.x) lo hi .full []
theorem mkI_e (k : Int) (n v : Str) (pred : List E0) (lo hi : Int) : (mkI k n v pred lo hi).e = .mk k n v pred lo hi [] := by
  simp only [mkI, Itm.e, Xp.es_map, List.map_map, Ks.es]
  congr 1
  have : (Xp.e ∘ E0.x) = id := funext fun e => E0.x_e e
  rw [this, List.map_id]
theorem mkI_av (k : Int) (n v : Str) (pred : List E0) (lo hi : Int) : (mkI k n v pred lo hi).av = .agg [.int .i64 k, .str n, .str v, .sl .full (pred.map E0.a), .int .i64 lo, .int .i64 hi, .sl .full []] := by
  simp only [mkI, Itm.av, Xp.avs_map, List.map_map, Ks.avs]
  rfl

def itC (kd : Int) (kind own : Str) (lo hi : Int) (p : AV) (kids : AV) : List AV := [.int .i64 kd, .str kind, .str own, p, .int .i64 lo, .int .i64 hi, kids]

def pushM (p : List E0 × FS) (own kind : Str) : FS := { p.2 with vars := p.2.vars ++ [own], kinds := p.2.kinds ++ [kind] }

theorem item_r0 (hB : Base T) (hb : BytesOk bs) {σ0 σ : St} {S : FS} {L X : Nat} {cs : List AV} {kind own : Str} {kd lo hi : Int} {f : Fr} {k : KF} (h0 : f 0 = .ptr m 0) (h6 : f 6 = .ptr L 0) (h8 : f 8 = .str kind) (h9 : f 9 = .str own) (h10 : f 10 = .ptr X 0)
    (g : FStep m bs σ0 σ pv po pv' po' S) (ho : FOk bs S) (hL : σ.get L = some (.cells cs)) (hcs : cs.length = 7) (hX : σ.get X = some (.cells (itC kd kind own lo hi (.sl .full []) (.sl .full []))))
    (nL : L ≠ m) (nX : X ≠ m) (nLX : L ≠ X) (lL : L < σ.next) (lX : X < σ.next) (bL : σ0.next ≤ L) (bX : σ0.next ≤ X) (hv : S.vars.length ≤ 900)
    (hk : ∀ f' σ' pv'' po'', f' 6 = .ptr L 0 → σ'.get L = some (.cells (mkI kd kind own (predM bs own kind S).1 lo hi).av.cells) → FStep m bs σ0 σ' pv po pv'' po'' (pushM (predM bs own kind S) own kind) → k .ret f' σ') :
    WC (Runs T) 121 q_jettisonlaw11_feed_item_r0 f σ k := by
  simp [q_jettisonlaw11_feed_item_r0, h0, h6, h8, h9, h10]
  refine (pred_run hB hb own kind g.feed ho).mono ?_
  rintro o σ4 ⟨rfl, g4⟩
  have hX4 := g4.var g.feed nX lX hX
  have hL4 := g4.var g.feed nL lL hL
  have hln := g4.fr.1
  have hsm := predM_same (bs := bs) own kind S
  have ho4 := predM_ok own kind ho
  obtain ⟨P, hP⟩ : ∃ P, predM bs own kind S = P := ⟨_, rfl⟩
  rw [hP] at g4 hsm hk ho4
  have g5 := (g.trans g4).set nX bX hX4 (.cells (itC kd kind own lo hi (.sl .full (P.1.map E0.a)) (.sl .full [])))
  simp only [hP]
  simp only [itC] at hX4
  have hX5 : (σ4.set X (.cells (itC kd kind own lo hi (.sl .full (P.1.map E0.a)) (.sl .full [])))).get X = some (.cells (itC kd kind own lo hi (.sl .full (P.1.map E0.a)) (.sl .full []))) := St.get_set_eq _ _ _
  have hL5 : (σ4.set X (.cells (itC kd kind own lo hi (.sl .full (P.1.map E0.a)) (.sl .full [])))).get L = some (.cells cs) := by rw [St.get_set_ne _ _ nLX]; exact hL4
  have hc5 := g5.feed.cell
  simp only [itC] at g5 hX5 hL5 hc5
  obtain ⟨σ5, h5⟩ : ∃ σ5, σ4.set X (.cells [.int .i64 kd, .str kind, .str own, .sl .full (P.1.map E0.a), .int .i64 lo, .int .i64 hi, .sl .full []]) = σ5 := ⟨_, rfl⟩
  have hn5 : σ5.next = σ4.next := by rw [← h5]; simp
  rw [h5] at g5 hX5 hL5 hc5
  have hv5 : P.2.vars.length ≤ 1000 := by rw [hsm.2.1]; omega
  obtain ⟨q, σ6, e6, c6, g6, n6, k6⟩ := app_var g5 hv5 own
  have hX6 := k6 X _ (by omega) hX5
  have hL6 := k6 L _ (by omega) hL5
  obtain ⟨σ7, h7⟩ : ∃ σ7, σ6.set m (.cells (feedCells bs { P.2 with vars := P.2.vars ++ [own] } q po')) = σ7 := ⟨_, rfl⟩
  have hn7 : σ7.next = σ6.next := by rw [← h7]; simp
  have hX7 := (show σ7.get X = σ6.get X by rw [← h7, St.get_set_ne _ _ nX]).trans hX6
  have hL7 := (show σ7.get L = σ6.get L by rw [← h7, St.get_set_ne _ _ nL]).trans hL6
  rw [h7] at g6
  have hc7 := g6.feed.cell
  have hk7 : ({ P.2 with vars := P.2.vars ++ [own] } : FS).kinds.length ≤ 1000 := by
    have := ho4.len; show P.2.kinds.length ≤ 1000; rw [this, hsm.2.1]; omega
  obtain ⟨q', σ8, e8, c8, g8, n8, k8⟩ := app_kind g6 hk7 kind
  have hX8 := k8 X _ (by omega) hX7
  have hL8 := k8 L _ (by omega) hL7
  obtain ⟨σ9, h9'⟩ : ∃ σ9, σ8.set m (.cells (feedCells bs { P.2 with vars := P.2.vars ++ [own], kinds := P.2.kinds ++ [kind] } q q')) = σ9 := ⟨_, rfl⟩
  have hX9 := (show σ9.get X = σ8.get X by rw [← h9', St.get_set_ne _ _ nX]).trans hX8
  have hL9 := (show σ9.get L = σ8.get L by rw [← h9', St.get_set_ne _ _ nL]).trans hL8
  have hn9 : σ9.next = σ8.next := by rw [← h9']; simp
  simp only [h9'] at g8
  simp only [feedCells, List.map_append, List.map_cons, List.map_nil] at hc5 e6 c6 h7 hc7 e8 c8 h9'
  simp [hX4, h5, hc5, e6, c6, h0, h6, h8, h9, h10, h7, hc7, e8, c8, h9', hX9, hL9, hcs]
  refine hk _ _ q q' (by simp [h6]) (by simp [mkI_av, AV.cells, hcs]) ?_
  exact g8.set nL bL hL9 _

/-- What is set of a Times. -/
theorem item_r1 (hB : Base T) (hb : BytesOk bs) {σ0 σ : St} {S : FS} {L X b : Nat} {cs : List AV} {kind own : Str} {f : Fr} {k : KF} (h0 : f 0 = .ptr m 0) (h6 : f 6 = .ptr L 0) (h7 : f 7 = .int .i64 b) (hbb : b ≤ 255) (h8 : f 8 = .str kind) (h9 : f 9 = .str own) (h10 : f 10 = .ptr X 0)
    (g : FStep m bs σ0 σ pv po pv' po' S) (ho : FOk bs S) (hL : σ.get L = some (.cells cs)) (hcs : cs.length = 7) (hX : σ.get X = some (.cells (itC 0 kind own 0 0 (.sl .full []) (.sl .full []))))
    (nL : L ≠ m) (nX : X ≠ m) (nLX : L ≠ X) (lL : L < σ.next) (lX : X < σ.next) (bL : σ0.next ≤ L) (bX : σ0.next ≤ X) (hv : S.vars.length ≤ 900)
    (hk : ∀ f' σ' pv'' po'', f' 6 = .ptr L 0 → σ'.get L = some (.cells (mkI (if b % 8 = 5 then 1 else 0) kind own (predM bs own kind S).1 (if b % 8 = 5 then ((1 + b / 8 % 2 : Nat) : Int) else 0) (if b % 8 = 5 then ((1 + b / 8 % 2 + b / 16 % 2 : Nat) : Int) else 0)).av.cells) →
      FStep m bs σ0 σ' pv po pv'' po'' (pushM (predM bs own kind S) own kind) → k .ret f' σ') :
    WC (Runs T) 121 q_jettisonlaw11_feed_item_r1 f σ k := by
  have d8 : Int.tmod (b : Int) 8 = ((b % 8 : Nat) : Int) := rm b 8
  by_cases h5 : b % 8 = 5
  · have h5' : ((b % 8 : Nat) : Int) = 5 := by omega
    have d2 : Int.tmod (IntKind.i64.wrap ((b : Int) / 8)) 2 = ((b / 8 % 2 : Nat) : Int) := qr' (by omega) 8 2
    have d3 : Int.tmod (IntKind.i64.wrap ((b : Int) / 16)) 2 = ((b / 16 % 2 : Nat) : Int) := qr' (by omega) 16 2
    simp only [if_pos h5] at hk
    rw [h5'] at d8
    obtain ⟨c2, hc2⟩ : ∃ c, b / 8 % 2 = c := ⟨_, rfl⟩
    obtain ⟨c3, hc3⟩ : ∃ c, b / 16 % 2 = c := ⟨_, rfl⟩
    rw [hc2] at d2 hk
    rw [hc3] at d3 hk
    have w2 : IntKind.i64.wrap (1 + (c2 : Int)) = ((1 + c2 : Nat) : Int) := by rw [w64 (by omega) (by omega)]; omega
    have w3 : IntKind.i64.wrap (((1 + c2 : Nat) : Int) + (c3 : Int)) = ((1 + c2 + c3 : Nat) : Int) := by rw [w64 (by omega) (by omega)]; omega
    obtain ⟨lo, hlo⟩ : ∃ c, ((1 + c2 : Nat) : Int) = c := ⟨_, rfl⟩
    obtain ⟨hi, hhi⟩ : ∃ c, ((1 + c2 + c3 : Nat) : Int) = c := ⟨_, rfl⟩
    rw [hlo] at w2 w3 hk
    rw [hhi] at w3 hk
    simp only [itC] at hX
    simp [q_jettisonlaw11_feed_item_r1, h7, h10, d8, hX, d2, d3, w2, w3]
    refine item_r0 hB hb (by simp [h0]) (by simp [h6]) (by simp [h8]) (by simp [h9]) (by simp [h10]) (((g.set nX bX hX _).set nX bX (St.get_set_eq _ _ _) _).set nX bX (St.get_set_eq _ _ _) _) ho (cs := cs) (by simp [nLX, hL]) hcs (St.get_set_eq _ _ _) nL nX nLX (by simpa using lL) (by simpa using lX) bL bX hv hk
  · have h5' : ¬ ((b % 8 : Nat) : Int) = 5 := by omega
    simp only [if_neg h5] at hk
    obtain ⟨c8, hc8⟩ : ∃ c, ((b % 8 : Nat) : Int) = c := ⟨_, rfl⟩
    rw [hc8] at d8 h5'
    simp [q_jettisonlaw11_feed_item_r1, h7, d8, h5']
    exact item_r0 hB hb (by simp [h0]) (by simp [h6]) (by simp [h8]) (by simp [h9]) (by simp [h10]) g ho hL hcs hX nL nX nLX lL lX bL bX hv hk

mutual
theorem Itm.nr : ∀ x : Itm, x.av.nr = true
  | .mk k n v pp pred lo hi kp kids => by simp only [Itm.av, AV.nr, AV.nrs, Xp.nrs pred, Ks.nrs kids, Bool.and_self]
theorem Itm.nrs : ∀ l : List Itm, AV.nrs (Itm.avs l) = true
  | [] => rfl
  | x :: xs => by simp only [Itm.avs, AV.nrs, Itm.nr x, Itm.nrs xs, Bool.and_self]
theorem Ks.nr : ∀ x : Ks, x.av.nr = true
  | .mk p l => by simp only [Ks.av, AV.nr, Itm.nrs l]
theorem Ks.nrs : ∀ l : List Ks, AV.nrs (Ks.avs l) = true
  | [] => rfl
  | x :: xs => by simp only [Ks.avs, AV.nrs, Ks.nr x, Ks.nrs xs, Bool.and_self]
end
@[simp] theorem Itm.beq (x : Itm) : AV.beq x.av x.av = true := AV.beq_nr x.nr
@[simp] theorem Ks.beq (x : Ks) : AV.beq x.av x.av = true := AV.beq_nr x.nr
theorem beq_items (p : Perm) (l : List Itm) : AV.beq (.sl p (l.map Itm.av)) (.sl p (l.map Itm.av)) = true := AV.beq_nr (by rw [← Itm.avs_map]; exact Itm.nrs l)

/-- An item behind its first byte, where it is no Not. -/
def altW (bs : List Nat) (alts : Option (FS → List I0 × FS)) (b : Nat) (kind own : Str) (s1 : FS) : I0 × FS :=
  if alts.isSome && decide (b % 8 = 6) && decide (s1.many < 5) then
    match alts with
    | some f => (.mk 3 [] [] [] 0 0 [(f s1).1, (f (f s1).2).1], (f (f s1).2).2)
    | none => (.mk 0 [] [] [] 0 0 [], s1)
  else
    let p := predM bs own kind s1
    let lo : Int := if b % 8 = 5 then (1 + b / 8 % 2 : Nat) else 0
    let hi : Int := if b % 8 = 5 then (1 + b / 8 % 2 + b / 16 % 2 : Nat) else 0
    (.mk (if b % 8 = 5 then 1 else 0) kind own p.1 lo hi [], { p.2 with vars := p.2.vars ++ [own], kinds := p.2.kinds ++ [kind] })

/-- What the lists of an Alt come to. -/
def ItemsRun (T : Tab) (m : Nat) (bs : List Nat) (deep : Nat) (c : Nat) (most : Nat) (f : FS → List I0 × FS) : Prop :=
  ∀ ⦃σ : St⦄ ⦃s : FS⦄ ⦃pv po : Perm⦄, Feed m bs s pv po σ → FOk bs s → Small c s →
      Runs T f_jettisonlaw11_feed_items [.ptr m 0, .int .i64 deep, .int .i64 most] σ (fun o σ' => ∃ (p : Perm) (l : List Itm) (pv' po' : Perm), o = .ret (.sl p (l.map Itm.av)) ∧ l.map Itm.e = (f s).1 ∧ FStep m bs σ σ' pv po pv' po' (f s).2)

theorem item_r2 (hB : Base T) (hb : BytesOk bs) (alts : Option (FS → List I0 × FS)) (deep : Nat) (hd : alts.isSome = decide (0 < deep)) (hd2 : deep ≤ 1000) (c : Nat) (hcl : 100 ≤ c) (hcu : c ≤ 900)
    (hit : ∀ f, alts = some f → ItemsRun T m bs (deep - 1) c 2 f)
    (hg : ∀ f, alts = some f → Grow 10 f ∧ ∀ s, FOk bs s → FOk bs (f s).2)
    {σ0 σ : St} {S : FS} {L X b : Nat} {cs : List AV} {kind own : Str} {f : Fr} {k : KF} (h0 : f 0 = .ptr m 0) (h1 : f 1 = .int .i64 deep) (h6 : f 6 = .ptr L 0) (h7 : f 7 = .int .i64 b) (hbb : b ≤ 255) (h8 : f 8 = .str kind) (h9 : f 9 = .str own) (h10 : f 10 = .ptr X 0)
    (g : FStep m bs σ0 σ pv po pv' po' S) (ho : FOk bs S) (hL : σ.get L = some (.cells cs)) (hcs : cs.length = 7) (hX : σ.get X = some (.cells (itC 0 kind own 0 0 (.sl .full []) (.sl .full []))))
    (nL : L ≠ m) (nX : X ≠ m) (nLX : L ≠ X) (lL : L < σ.next) (lX : X < σ.next) (bL : σ0.next ≤ L) (bX : σ0.next ≤ X) (hv : Small (c - 50) S)
    (hk : ∀ f' σ' x pv'' po'', f' 6 = .ptr L 0 → σ'.get L = some (.cells x) → (∃ y : Itm, y.av.cells = x ∧ y.e = (altW bs alts b kind own S).1) →
      FStep m bs σ0 σ' pv po pv'' po'' (altW bs alts b kind own S).2 → k .ret f' σ') :
    WC (Runs T) 121 q_jettisonlaw11_feed_item_r2 f σ k := by
  have d8 : Int.tmod (b : Int) 8 = ((b % 8 : Nat) : Int) := rm b 8
  have plain : ∀ f', f' 0 = f 0 → f' 6 = f 6 → f' 7 = f 7 → f' 8 = f 8 → f' 9 = f 9 → f' 10 = f 10 → ¬ (alts.isSome = true ∧ b % 8 = 6 ∧ S.many < 5) → WC (Runs T) 121 q_jettisonlaw11_feed_item_r1 f' σ k := by
    intro f' e0 e6 e7 e8 e9 e10 hn
    have ea : altW bs alts b kind own S = (.mk (if b % 8 = 5 then 1 else 0) kind own (predM bs own kind S).1 (if b % 8 = 5 then ((1 + b / 8 % 2 : Nat) : Int) else 0) (if b % 8 = 5 then ((1 + b / 8 % 2 + b / 16 % 2 : Nat) : Int) else 0) [], pushM (predM bs own kind S) own kind) := by
      have : ¬ ((alts.isSome && decide (b % 8 = 6) && decide (S.many < 5)) = true) := by simpa [and_assoc] using hn
      simp only [altW, if_neg this]
      rfl
    rw [ea] at hk
    refine item_r1 hB hb (e0.trans h0) (e6.trans h6) (e7.trans h7) hbb (e8.trans h8) (e9.trans h9) (e10.trans h10) g ho hL hcs hX nL nX nLX lL lX bL bX (Nat.le_trans hv.2 (by omega)) ?_
    intro f' σ' pv'' po'' e6 hl hs
    exact hk f' σ' _ pv'' po'' e6 hl ⟨_, rfl, mkI_e ..⟩ hs
  have hc := g.feed.cell
  simp only [feedCells] at hc
  by_cases hdp : 0 < deep
  · have hdp' : (0 : Int) < (deep : Int) := by omega
    by_cases h6' : b % 8 = 6
    · have h6i : ((b % 8 : Nat) : Int) = 6 := by omega
      by_cases h5 : S.many < 5
      · have h5i : (S.many : Int) < 5 := by omega
        obtain ⟨F, rfl⟩ : ∃ F, alts = some F := Option.isSome_iff_exists.1 (by rw [hd]; simp [hdp])
        have hF := hit F rfl
        have hG := hg F rfl
        have ea : altW bs (some F) b kind own S = (.mk 3 [] [] [] 0 0 [(F S).1, (F (F S).2).1], (F (F S).2).2) := by simp [altW, h6', h5]
        rw [ea] at hk
        have wd : IntKind.i64.wrap ((deep : Int) - 1) = ((deep - 1 : Nat) : Int) := by rw [w64 (by omega) (by omega)]; omega
        rw [h6i] at d8
        simp only [itC] at hX
        simp [q_jettisonlaw11_feed_item_r2, h0, h1, h7, d8, hdp', hdp, hc, h5, h5i, wd]
        refine (hF g.feed ho ⟨by have := hv.1; omega, by have := hv.2; omega⟩).mono ?_
        rintro o σ1 ⟨p1, l1, pv1, po1, rfl, e1, g1⟩
        have ho1 := hG.2 S ho
        have hs1 := hG.1 _ _ hv
        obtain ⟨S1, hS1⟩ : ∃ S1, (F S).2 = S1 := ⟨_, rfl⟩
        rw [hS1] at g1 ho1 hs1 hk
        have lt1 := g1.fr.1
        have hX1 := g1.var g.feed nX lX hX
        have hL1 := g1.var g.feed nL lL hL
        have g1' := g.trans g1
        obtain ⟨σ2, hσ2⟩ : ∃ σ2, σ1.set X (.cells [.int .i64 3, .str [], .str [], .sl .full [], .int .i64 0, .int .i64 0, .sl .full [.sl p1 (l1.map Itm.av)]]) = σ2 := ⟨_, rfl⟩
        have g2 : FStep m bs σ0 σ2 pv po pv1 po1 S1 := by rw [← hσ2]; exact g1'.set nX bX hX1 _
        have hX2 : σ2.get X = some (.cells [.int .i64 3, .str [], .str [], .sl .full [], .int .i64 0, .int .i64 0, .sl .full [.sl p1 (l1.map Itm.av)]]) := by rw [← hσ2]; exact St.get_set_eq _ _ _
        have hL2 : σ2.get L = some (.cells cs) := by rw [← hσ2, St.get_set_ne _ _ nLX]; exact hL1
        have hn2 : σ2.next = σ1.next := by rw [← hσ2]; simp
        simp [hX1, h0, h1, h10, hσ2, hX2, wd]
        refine (hF g2.feed ho1 ⟨by have := hs1.1; omega, by have := hs1.2; omega⟩).mono ?_
        rintro o σ3 ⟨p2, l2, pv2, po2, rfl, e2, g3⟩
        have lt3 := g3.fr.1
        have hX3 := g3.var g2.feed nX (by omega) hX2
        have hL3 := g3.var g2.feed nL (by omega) hL2
        have g3' := g2.trans g3
        obtain ⟨S2, hS2⟩ : ∃ S2, (F S1).2 = S2 := ⟨_, rfl⟩
        rw [hS2] at g3' hk
        have hbl : AV.beqs (l1.map Itm.av) (l1.map Itm.av) = true := AV.beqs_nr (by rw [← Itm.avs_map]; exact Itm.nrs l1)
        have eA : evApp 1 24 (AV.sl .full [AV.sl p1 (l1.map Itm.av)]) [AV.sl p2 (l2.map Itm.av)] σ3 = some (.sl (.tok σ3.next) [AV.sl p1 (l1.map Itm.av), AV.sl p2 (l2.map Itm.av)], σ3.push (.tok 2 1)) :=
          evApp_full (by simp) (by simp) (by simp) rfl rfl (by decide)
        have g4 := g3'.push (.tok 2 1)
        have hX4 : (σ3.push (.tok 2 1)).get X = some (.cells [.int .i64 3, .str [], .str [], .sl .full [], .int .i64 0, .int .i64 0, .sl .full [.sl p1 (l1.map Itm.av)]]) := by rw [St.get_push, if_neg (by omega)]; exact hX3
        have hL4 : (σ3.push (.tok 2 1)).get L = some (.cells cs) := by rw [St.get_push, if_neg (by omega)]; exact hL3
        obtain ⟨σ4, hσ4⟩ : ∃ σ4, σ3.push (.tok 2 1) = σ4 := ⟨_, rfl⟩
        rw [hσ4] at eA g4 hX4 hL4
        simp [hX3, h0, h1, h6, h10, hbl, AV.beq, AV.beqs, eA, hX4, hL4, nLX, hcs]
        refine hk _ _ (Itm.mk 3 [] [] .full [] 0 0 (.tok σ3.next) [Ks.mk p1 l1, Ks.mk p2 l2]).av.cells pv2 po2 (by simp [h6]) ?_ ⟨_, rfl, ?_⟩ ((g4.set nX bX hX4 _).set nL bL (by rw [St.get_set_ne _ _ nLX]; exact hL4) _)
        · simp [Itm.av, Ks.avs, Ks.av, Xp.avs, Itm.avs_map, AV.cells, hcs]
        · simp only [Itm.e, Ks.es, Ks.e, Xp.es, Itm.es_map, e1, e2]
      · have h5i : ¬ (S.many : Int) < 5 := by omega
        rw [h6i] at d8
        simp [q_jettisonlaw11_feed_item_r2, h0, h1, h7, d8, hdp', hdp, hc, h5, h5i]
        exact plain _ (by simp) (by simp) (by simp) (by simp) (by simp) (by simp) (by simp [h5])
    · have h6i : ¬ ((b % 8 : Nat) : Int) = 6 := by omega
      have hn : ¬ (alts.isSome = true ∧ b % 8 = 6 ∧ S.many < 5) := fun h => h6' h.2.1
      obtain ⟨c8, hc8⟩ : ∃ c, ((b % 8 : Nat) : Int) = c := ⟨_, rfl⟩
      rw [hc8] at d8 h6i
      simp [q_jettisonlaw11_feed_item_r2, h0, h1, h7, d8, hdp', hdp, h6i]
      exact plain _ (by simp) (by simp) (by simp) (by simp) (by simp) (by simp) hn
  · have hdp' : ¬ (0 : Int) < (deep : Int) := by omega
    have hn : ¬ (alts.isSome = true ∧ b % 8 = 6 ∧ S.many < 5) := fun h => by rw [hd] at h; simp [hdp] at h
    simp [q_jettisonlaw11_feed_item_r2, h0, h1, h7, d8, hdp', hdp]
    exact plain _ (by simp) (by simp) (by simp) (by simp) (by simp) (by simp) hn

theorem item_run (hB : Base T) (hb : BytesOk bs) (alts : Option (FS → List I0 × FS)) (deep : Nat) (hd : alts.isSome = decide (0 < deep)) (hd2 : deep ≤ 1000) (c : Nat) (hcl : 100 ≤ c) (hcu : c ≤ 900)
    (hit : ∀ f, alts = some f → ItemsRun T m bs (deep - 1) c 2 f)
    (hg : ∀ f, alts = some f → Grow 10 f ∧ ∀ s, FOk bs s → FOk bs (f s).2) (not : Bool) (hf : Feed m bs s pv po σ) (ho : FOk bs s) (hs : Small (c - 100) s) :
    Runs T f_jettisonlaw11_feed_item [.ptr m 0, .int .i64 deep, .bool not] σ (fun o σ' => ∃ x pv' po', o = .ret (Itm.av x) ∧ x.e = (itemW bs alts not s).1 ∧ FStep m bs σ σ' pv po pv' po' (itemW bs alts not s).2) := by
  refine runs_fn (hB.hook _ (by decide)) (hB.fn _ q_jettisonlaw11_feed_item rfl) (by simp [q_jettisonlaw11_feed_item]) ?_
  simp [q_jettisonlaw11_feed_item]
  refine (next_run hB hb (hf.push _) ho).mono ?_
  rintro o σ1 ⟨rfl, g1⟩
  have hn1 := nextM_le hb s
  have ho1 := nextM_ok ho
  have hsm := nextM_same (bs := bs) s
  have hne : σ.next ≠ m := by have := hf.lt; omega
  have hloc : σ1.get σ.next = some (.cells zeroI) := g1.var (hf.push _) hne (by simp) (by simp [zeroI])
  have hlt : σ.next < σ1.next := by have := g1.fr.1; simp at this; omega
  have g0 : FStep m bs σ σ1 pv po pv po (nextM bs s).2 := ((FStep.refl hf).push _).trans g1
  obtain ⟨b, hbd⟩ : ∃ b, (nextM bs s).1 = b := ⟨_, rfl⟩
  obtain ⟨s1, hs1⟩ : ∃ s1, (nextM bs s).2 = s1 := ⟨_, rfl⟩
  rw [hbd] at hn1
  rw [hs1] at ho1 g0 hsm
  have hmany : s1.many ≤ c - 100 := by rw [hsm.1]; exact hs.1
  have hvars : s1.vars.length ≤ c - 100 := by rw [hsm.2.1]; exact hs.2
  have hkinds : s1.kinds.length ≤ c - 100 := by rw [ho1.len]; exact hvars
  obtain ⟨s2, hs2⟩ : ∃ s2, s2 = { s1 with many := s1.many + 1 } := ⟨_, rfl⟩
  have ho2 : FOk bs s2 := by rw [hs2]; exact ⟨ho1.pos, ho1.len⟩
  have g2 : FStep m bs σ (σ1.set m (.cells (feedCells bs s2 pv po))) pv po pv po s2 := g0.own (by rw [hs2]) (by rw [hs2])
  have hc1 := g0.feed.cell
  have wm : IntKind.i64.wrap ((s1.many : Int) + 1) = ((s2.many : Nat) : Int) := by rw [hs2]; exact wsucc (by omega)
  have d3 : Int.tmod (b : Int) 3 = ((b % 3 : Nat) : Int) := rm b 3
  have d12 : Int.tmod (s2.many : Int) 12 = ((s2.many % 12 : Nat) : Int) := rm _ 12
  have d8 : Int.tmod (b : Int) 8 = ((b % 8 : Nat) : Int) := rm b 8
  obtain ⟨c3, hc3⟩ : ∃ c, b % 3 = c := ⟨_, rfl⟩
  obtain ⟨c8, hc8⟩ : ∃ c, b % 8 = c := ⟨_, rfl⟩
  obtain ⟨c12, hc12⟩ : ∃ c, s2.many % 12 = c := ⟨_, rfl⟩
  have h3 : c3 < 3 := by omega
  have h12 : c12 < 12 := by omega
  have hm2 : s2.many = s1.many + 1 := by rw [hs2]
  rw [hc3] at d3
  rw [hc8] at d8
  rw [hc12] at d12
  obtain ⟨kind, hkind⟩ : ∃ k, kindsL.getD c3 [] = k := ⟨_, rfl⟩
  obtain ⟨own, hown⟩ : ∃ k, varsL.getD c12 [] = k := ⟨_, rfl⟩
  have hgk : ([AV.str [65], .str [66], .str [67]])[c3]? = some (.str kind) := by
    rw [← hkind]
    have : c3 = 0 ∨ c3 = 1 ∨ c3 = 2 := by omega
    rcases this with h | h | h <;> subst h <;> rfl
  have hgv : ([AV.str [97], .str [98], .str [99], .str [100], .str [101], .str [102], .str [103], .str [104], .str [105], .str [106], .str [108], .str [109]])[c12]? = some (.str own) := by
    rw [← hown]
    have : c12 = 0 ∨ c12 = 1 ∨ c12 = 2 ∨ c12 = 3 ∨ c12 = 4 ∨ c12 = 5 ∨ c12 = 6 ∨ c12 = 7 ∨ c12 = 8 ∨ c12 = 9 ∨ c12 = 10 ∨ c12 = 11 := by omega
    rcases this with h | h | h | h | h | h | h | h | h | h | h | h <;> subst h <;> rfl
  have hc12' : (s1.many + 1) % 12 = c12 := by rw [← hm2]; exact hc12
  have ei : itemW bs alts not s = if not = true ∧ c8 = 7 then (.mk 2 kind own (predM bs own kind s2).1 0 0 [], (predM bs own kind s2).2) else altW bs alts b kind own s2 := by
    simp only [itemW, altW, hbd, hs1, ← hs2, hc3, hc8, hkind, Bool.and_eq_true, decide_eq_true_eq]
    simp only [← hm2, hc12, hown]
    all_goals rfl
  obtain ⟨W, hW⟩ : ∃ W, itemW bs alts not s = W := ⟨_, rfl⟩
  simp only [hW]
  rw [hW] at ei
  simp [hbd, hc1, feedCells, wm, d3, hgk, d12, hgv]
  have hc2 := g2.feed.cell
  have e2 : feedCells bs s2 pv po = [bytesAV bs, .int .i64 s1.pos, .sl pv (s1.vars.map .str), .sl po (s1.kinds.map .str), .int .i64 s2.many] := by rw [hs2]; rfl
  obtain ⟨τ, hτ⟩ : ∃ τ, τ = σ1.set m (.cells (feedCells bs s2 pv po)) := ⟨_, rfl⟩
  rw [← e2, ← hτ]
  rw [← hτ] at g2 hc2
  have hlτ : τ.next = σ1.next := by rw [hτ]; simp
  have hlocτ : τ.get σ.next = some (.cells zeroI) := by rw [hτ]; simp [hne, hloc]
  have hnm : σ1.next ≠ m := by have := g0.feed.lt; omega
  have hne3 : σ.next ≠ σ1.next := by omega
  have hln : σ.next ≤ σ1.next := by omega
  by_cases hn : not = true ∧ c8 = 7
  · obtain ⟨rfl, h7⟩ := hn
    have h7' : (c8 : Int) = 7 := by omega
    rw [if_pos ⟨rfl, h7⟩] at ei
    subst ei
    simp [d8, h7, h7', hbd, hlτ, hlocτ, zeroI, hgk, hgv]
    obtain ⟨τ2, hτ2⟩ : ∃ τ2, τ2 = ((τ.push (.cells zeroI)).set σ1.next (.cells [.int .i64 0, .str kind, .str own, .sl .full [], .int .i64 0, .int .i64 0, .sl .full []])).set σ1.next (.cells [.int .i64 2, .str kind, .str own, .sl .full [], .int .i64 0, .int .i64 0, .sl .full []]) := ⟨_, rfl⟩
    have g3 : FStep m bs σ τ2 pv po pv po s2 := by
      rw [hτ2]
      exact ((g2.push (.cells zeroI)).set (cs := zeroI) hnm hln (by rw [← hlτ]; simp) _).set (cs := _) hnm hln (St.get_set_eq _ _ _) _
    have hy2 : τ2.get σ1.next = some (.cells [.int .i64 2, .str kind, .str own, .sl .full [], .int .i64 0, .int .i64 0, .sl .full []]) := by rw [hτ2]; simp
    have hl2 : τ2.get σ.next = some (.cells zeroI) := by rw [hτ2]; simp [hne3, hlτ, hlocτ]
    have hn2 : τ2.next = σ1.next + 1 := by rw [hτ2]; simp [hlτ]
    simp only [zeroI] at hτ2
    rw [← hτ2]
    refine (pred_run hB hb own kind g3.feed ho2).mono ?_
    rintro o σ4 ⟨rfl, g4⟩
    have hy4 := g4.var g3.feed hnm (by omega) hy2
    have hl4 := g4.var g3.feed hne (by omega) hl2
    have g5 := g3.trans g4
    simp [hy4, hl4, zeroI, hne3, hne3.symm]
    refine ⟨mkI 2 kind own (predM bs own kind s2).1 0 0, ?_, mkI_e .., pv, po, (g5.set hnm hln hy4 _).set (cs := zeroI) hne (Nat.le_refl _) (by simp [hne3, hl4]) _⟩
    rw [mkI_av]
  · rw [if_neg hn] at ei
    subst ei
    have hn7 : not = true → ¬ (c8 : Int) = 7 := fun h e => hn ⟨h, by omega⟩
    obtain ⟨τ2, hτ2⟩ : ∃ τ2, τ2 = (τ.push (.cells zeroI)).set σ1.next (.cells [.int .i64 0, .str kind, .str own, .sl .full [], .int .i64 0, .int .i64 0, .sl .full []]) := ⟨_, rfl⟩
    have g3 : FStep m bs σ τ2 pv po pv po s2 := by
      rw [hτ2]
      exact (g2.push (.cells zeroI)).set (cs := zeroI) hnm hln (by rw [← hlτ]; simp) _
    have hy2 : τ2.get σ1.next = some (.cells [.int .i64 0, .str kind, .str own, .sl .full [], .int .i64 0, .int .i64 0, .sl .full []]) := by rw [hτ2]; simp
    have hl2 : τ2.get σ.next = some (.cells zeroI) := by rw [hτ2]; simp [hne3, hlτ, hlocτ]
    have hm2c : τ2.get m = some (.cells (feedCells bs s2 pv po)) := g3.feed.cell
    have hn2 : τ2.next = σ1.next + 1 := by rw [hτ2]; simp [hlτ]
    simp only [zeroI] at hτ2
    have fin : ∀ (f' : Fr) (σ' : St) (x : List AV) (pv'' po'' : Perm), f' 6 = .ptr σ.next 0 → σ'.get σ.next = some (.cells x) → (∃ y : Itm, y.av.cells = x ∧ y.e = (altW bs alts b kind own s2).1) →
        FStep m bs σ σ' pv po pv'' po'' (altW bs alts b kind own s2).2 →
        endF (fun o σ' => ∃ x pv' po', o = Out.ret (Itm.av x) ∧ x.e = (altW bs alts b kind own s2).1 ∧ FStep m bs σ σ' pv po pv' po' (altW bs alts b kind own s2).2) [.c 6 7 true] .ret f' σ' := by
      rintro f' σ' x pv'' po'' h6 hx ⟨y, rfl, hy⟩ hs
      simp only [endF_ret, finF_c, h6]
      simp only [ldA, hx]
      have : takeVal y.av.cells 0 7 true = some y.av := by
        rw [Itm.av_eq]; rfl
      simp only [this, finK_some]
      exact ⟨y, pv'', po'', rfl, hy, hs⟩
    obtain ⟨W2, hW2⟩ : ∃ W2, altW bs alts b kind own s2 = W2 := ⟨_, rfl⟩
    rw [hW2] at fin
    simp only [hW2]
    cases not
    · simp [hlτ, hlocτ, hgk, hgv, hbd, ← hτ2]
      refine item_r2 hB hb alts deep hd hd2 c hcl hcu hit hg (by simp) (by simp) (by simp) (by simp) hn1 (by simp) (by simp) (by simp) g3 ho2 hl2 rfl hy2 hne hnm hne3 (by omega) (by omega) (Nat.le_refl _) hln ⟨by omega, by rw [hs2]; show s1.vars.length ≤ c - 50; omega⟩ ?_
      rw [hW2]
      simpa using fin
    · have hn7 := hn7 rfl
      simp [hlτ, hlocτ, hgk, hgv, hbd, ← hτ2, d8, hn7]
      refine item_r2 hB hb alts deep hd hd2 c hcl hcu hit hg (by simp) (by simp) (by simp) (by simp) hn1 (by simp) (by simp) (by simp) g3 ho2 hl2 rfl hy2 hne hnm hne3 (by omega) (by omega) (Nat.le_refl _) hln ⟨by omega, by rw [hs2]; show s1.vars.length ≤ c - 50; omega⟩ ?_
      rw [hW2]
      simpa using fin

end Jet

/-
The makers of queries out of bytes: lists of items.
-/
namespace Jet
open Go

variable {m : Nat} {bs : List Nat} {σ σ' σ'' : St} {pv po pv' po' pv'' po'' : Perm} {s s' s'' : FS} {T : Tab}

/-- A list under way: one may append to it. -/
def OutP (σ0 σ : St) (p : Perm) (n : Nat) : Prop := p = .full ∨ ∃ t, p = .tok t ∧ σ0.next ≤ t ∧ t < σ.next ∧ σ.get t = some (.tok n 7)

theorem OutP.keep {σ0 : St} {p : Perm} {n : Nat} (h : OutP σ0 σ p n) (hf : Feed m bs s pv po σ) (g : FStep m bs σ σ' pv po pv' po' s') : OutP σ0 σ' p n := by
  rcases h with h | ⟨t, e, h1, h2, h3⟩
  · exact .inl h
  · refine .inr ⟨t, e, h1, Nat.lt_of_lt_of_le h2 g.fr.1, ?_⟩
    rw [g.fr.2 t h2 ?_]; exact h3
    rintro (rfl | e | e)
    · rw [hf.cell] at h3; cases h3
    · have := (hf.tv.lt e).2; rw [h3] at this; simp at this
    · have := (hf.tk.lt e).2; rw [h3] at this; simp at this

theorem Itm.okElem (x : Itm) : okElem 7 x.av = true := by
  simp [Jet.okElem]
theorem Itm.firstOk (l : List Itm) : firstOk 7 (l.map Itm.av) = true := by
  cases l with
  | nil => rfl
  | cons x l => simp [Jet.firstOk]

theorem app_item {σ0 : St} {p : Perm} {l : List Itm} (g : FStep m bs σ0 σ pv po pv' po' s') (h : OutP σ0 σ p l.length) (hl : l.length ≤ 100) (x : Itm) :
    ∃ q σ1, evApp 7 104 (.sl p (l.map Itm.av)) [x.av] σ = some (.sl q ((l ++ [x]).map Itm.av), σ1) ∧ FStep m bs σ0 σ1 pv po pv' po' s' ∧ OutP σ0 σ1 q (l ++ [x]).length := by
  rcases h with rfl | ⟨t, rfl, h1, h2, h3⟩
  · refine ⟨.tok σ.next, σ.push (.tok (l.length + 1) 7), ?_, g.push _, .inr ⟨_, rfl, g.fr.1, by simp, by simp⟩⟩
    rw [evApp_one (by simp) (by simp) (by simp; omega) (by simp; omega) x.okElem (Itm.firstOk l) (by decide)]
    simp
  · have hn : ¬ FM m pv' po' t := by
      rintro (rfl | e | e)
      · rw [g.feed.cell] at h3; cases h3
      · have := (g.feed.tv.lt e).2; rw [h3] at this; simp at this
      · have := (g.feed.tk.lt e).2; rw [h3] at this; simp at this
    refine ⟨.tok t, σ.set t (.tok (l.length + 1) 7), ?_, ⟨?_, g.fr.set (.inl h1) _, g.fv, g.fk⟩, .inr ⟨_, rfl, h1, by simpa using h2, by simp⟩⟩
    · rw [evApp_one (by simp) (by intro t' e; cases e; simpa using h3) (by simp; omega) (by simp; omega) x.okElem (Itm.firstOk l) (by decide)]
      simp
    · refine g.feed.keep (by simp) fun y hy _ => ?_
      rw [St.get_set_ne]; rintro rfl; exact hn hy

/-- What an item comes to. -/
def ItemRun (T : Tab) (m : Nat) (bs : List Nat) (deep : Nat) (c : Nat) (it : Bool → FS → I0 × FS) : Prop :=
  ∀ ⦃σ : St⦄ ⦃s : FS⦄ ⦃pv po : Perm⦄ (not : Bool), Feed m bs s pv po σ → FOk bs s → Small c s →
    Runs T f_jettisonlaw11_feed_item [.ptr m 0, .int .i64 deep, .bool not] σ (fun o σ' => ∃ (x : Itm) (pv' po' : Perm), o = .ret (Itm.av x) ∧ x.e = (it not s).1 ∧ FStep m bs σ σ' pv po pv' po' (it not s).2)

def GrowI (bs : List Nat) (g : Nat) (it : Bool → FS → I0 × FS) : Prop := ∀ not s, (FOk bs s → FOk bs (it not s).2) ∧ ∀ c, Small c s → Small (c + g) (it not s).2

set_option maxHeartbeats 2000000 in
theorem items_run (hB : Base T) (hb : BytesOk bs) (deep most c : Nat) (hd : deep ≤ 1000) (hm : 1 ≤ most) (hm2 : most ≤ 8) (hc : c ≤ 1000) (it it0 : Bool → FS → I0 × FS) (hi : ItemRun T m bs deep (c + 100) it) (hi0 : ItemRun T m bs 0 (c + 100) it0) (hg : GrowI bs 10 it) (hg0 : GrowI bs 10 it0) :
    ItemsRun T m bs deep c most (itemsW bs it it0 most) := by
  intro σ s pv po hf ho hs
  refine runs_fn (hB.hook _ (by decide)) (hB.fn _ q_jettisonlaw11_feed_items rfl) (by simp [q_jettisonlaw11_feed_items]) ?_
  obtain ⟨R, hR⟩ : ∃ R, itemsW bs it it0 most s = R := ⟨_, rfl⟩
  simp only [hR]
  simp only [itemsW] at hR
  obtain ⟨K, hK⟩ : ∃ K : Out → St → Prop, K = fun o σ' => ∃ (p : Perm) (l : List Itm) (pv' po' : Perm), o = Out.ret (AV.sl p (l.map Itm.av)) ∧ l.map Itm.e = R.1 ∧ FStep m bs σ σ' pv po pv' po' R.2 := ⟨_, rfl⟩
  rw [← hK]
  simp [q_jettisonlaw11_feed_items]
  refine (hi false hf ho ⟨by have := hs.1; omega, by have := hs.2; omega⟩).mono ?_
  rintro o σ1 ⟨x, pv1, po1, rfl, ex, g1⟩
  have hgr1 := And.intro ((hg false s).1 ho) (hg false s).2
  rw [← ex] at hR
  obtain ⟨s1, hs1⟩ : ∃ s1, (it false s).2 = s1 := ⟨_, rfl⟩
  rw [hs1] at g1 hgr1 hR
  obtain ⟨M, hM⟩ : ∃ M, moreW bs it most most 1 [x.e] s1 = M := ⟨_, rfl⟩
  rw [hM] at hR
  have tail : ∀ (f' : Fr) (τ : St) (p : Perm) (l : List Itm) (S : FS) (pv2 po2 : Perm), f' 0 = .ptr m 0 → f' 7 = .sl p (l.map Itm.av) → M = (l.map Itm.e, S) → l ≠ [] → l.length ≤ 20 → FStep m bs σ τ pv po pv2 po2 S → FOk bs S → Small (c + 100) S → OutP σ τ p l.length →
      WC (Runs T) 61 q_jettisonlaw11_feed_items_r0 f' τ (endF K [.t 6]) := by
    intro f' τ p l S pv2 po2 e0 e7 eM hne hl g2 ho2 hs2 hp
    obtain ⟨l', y, rfl⟩ : ∃ l' y, l = l' ++ [y] := by
      rcases List.eq_nil_or_concat l with h | ⟨l', y, h⟩
      · exact absurd h hne
      · exact ⟨l', y, by rw [h, List.concat_eq_append]⟩
    rw [eM] at hR
    have wl : IntKind.i64.wrap (l'.length : Int) = (l'.length : Int) := wnat (by simp at hl; omega)
    have hkd : (((l' ++ [y]).map Itm.e).getLast?.map I0.kind).getD 0 = y.e.kind := by simp
    simp only [hkd] at hR
    have hget : (List.map Itm.av l' ++ [y.av])[l'.length]? = some y.av := by simp
    have hyc : y.av.cells = [.int .i64 y.e.kind, .str y.e.name, .str y.e.var, .sl y.pp (y.pred.map Xp.av), .int .i64 y.e.low, .int .i64 y.e.high, .sl y.kp (y.kids.map Ks.av)] := by rw [Itm.av_eq]; rfl
    by_cases hk : y.e.kind = 2
    · rw [if_pos hk] at hR
      simp [q_jettisonlaw11_feed_items_r0, e0, e7, wl, hget, hyc, hk]
      have h0 := hi0 false g2.feed ho2 hs2
      simp only [Int.natCast_zero] at h0
      refine h0.mono ?_
      rintro o σ3 ⟨z, pv3, po3, rfl, ez, g3⟩
      obtain ⟨q, σ4, e4, g4, h4⟩ := app_item (g2.trans g3) (hp.keep g2.feed g3) (by omega) z
      simp only [List.map_append, List.map_cons, List.map_nil] at e4
      have oz := z.okElem
      simp [oz, e4]
      rw [← ez] at hR
      subst hR
      rw [hK]
      exact ⟨q, l' ++ [y] ++ [z], pv3, po3, by simp, by simp, g4⟩
    · rw [if_neg hk] at hR
      subst hR
      simp [q_jettisonlaw11_feed_items_r0, e0, e7, wl, hget, hyc, hk]
      rw [hK]
      exact ⟨p, l' ++ [y], pv2, po2, by simp, by simp, g2⟩
  simp
  obtain ⟨I, hI⟩ : ∃ I : Nat → Fr → St → Prop, I = fun n f' τ => ∃ (i : Nat) (p : Perm) (l : List Itm) (S : FS) (pv2 po2 : Perm), n + i = most + 1 ∧ 1 ≤ i ∧ i ≤ most ∧ f' 0 = .ptr m 0 ∧ f' 1 = .int .i64 deep ∧ f' 2 = .int .i64 most ∧ f' 7 = .sl p (l.map Itm.av) ∧ f' 8 = .int .i64 i ∧
      moreW bs it most n i (l.map Itm.e) S = M ∧ l.length = i ∧ FStep m bs σ τ pv po pv2 po2 S ∧ FOk bs S ∧ Small (c + 10 * i) S ∧ OutP σ τ p l.length := ⟨_, rfl⟩
  refine loop_nat (runs_mono T) I ?_ most _ _ ?_
  · intro n f' τ h
    rw [hI] at h
    obtain ⟨i, p, l, S, pv2, po2, hni, h1i, him, e0, e1, e2, e7, e8, eM, hl, g2, ho2, hs2, hp⟩ := h
    obtain ⟨n, rfl⟩ : ∃ n', n = n' + 1 := ⟨n - 1, by omega⟩
    have hcell := g2.feed.cell
    simp only [feedCells] at hcell
    have wi : IntKind.i64.wrap ((i : Int) + 1) = (i : Int) + 1 := w64 (by omega) (by omega)
    simp only [moreW] at eM
    by_cases c1 : i < most
    · by_cases c2 : S.pos < bs.length
      · by_cases c3 : S.many < 6
        · have c3' : (S.many : Int) < 6 := by omega
          rw [if_pos ⟨c1, c2, c3⟩] at eM
          have cb : decide ((i : Int) + 1 < (most : Int)) = decide (i + 1 < most) := by rw [decide_eq_decide]; omega
          obtain ⟨nt, hnt⟩ : ∃ nt, decide (i + 1 < most) = nt := ⟨_, rfl⟩
          rw [hnt] at cb eM
          simp [q_jettisonlaw11_feed_items_b0, e0, e1, e2, e7, e8, c1, hcell, bytesAV, c2, c3, c3', wi, cb]
          refine (hi nt g2.feed ho2 ⟨by have := hs2.1; omega, by have := hs2.2; omega⟩).mono ?_
          rintro o σ3 ⟨z, pv3, po3, rfl, ez, g3⟩
          obtain ⟨q, σ4, e4, g4, h4⟩ := app_item (g2.trans g3) (hp.keep g2.feed g3) (by omega) z
          have oz := z.okElem
          have hgr := And.intro ((hg nt S).1 ho2) (hg nt S).2
          rw [← ez] at eM
          obtain ⟨S3, hS3⟩ : ∃ S3, (it nt S).2 = S3 := ⟨_, rfl⟩
          rw [hS3] at g4 eM hgr
          simp [oz, e4, e8, wi]
          rw [hI]
          refine ⟨n, by omega, i + 1, q, l ++ [z], S3, pv3, po3, by omega, by omega, by omega, by simp [e0], by simp [e1], by simp [e2], by simp, by simp, by simpa using eM, by simp [hl], g4, hgr.1, ?_, h4⟩
          have := hgr.2 _ hs2
          exact ⟨by have := this.1; omega, by have := this.2; omega⟩
        · have c3' : ¬ (S.many : Int) < 6 := by omega
          rw [if_neg (fun h => c3 h.2.2)] at eM
          simp [q_jettisonlaw11_feed_items_b0, e0, e1, e2, e7, e8, c1, hcell, bytesAV, c2, c3, c3']
          exact tail _ τ p l S pv2 po2 (by simp [e0]) (by simp [e7]) eM.symm (by rintro rfl; simp at hl; omega) (by omega) g2 ho2 ⟨by have := hs2.1; omega, by have := hs2.2; omega⟩ hp
      · rw [if_neg (fun h => c2 h.2.1)] at eM
        simp [q_jettisonlaw11_feed_items_b0, e0, e1, e2, e7, e8, c1, hcell, bytesAV, c2]
        exact tail _ τ p l S pv2 po2 (by simp [e0]) (by simp [e7]) eM.symm (by rintro rfl; simp at hl; omega) (by omega) g2 ho2 ⟨by have := hs2.1; omega, by have := hs2.2; omega⟩ hp
    · rw [if_neg (fun h => c1 h.1)] at eM
      simp [q_jettisonlaw11_feed_items_b0, e0, e1, e2, e7, e8, c1]
      exact tail _ τ p l S pv2 po2 (by simp [e0]) (by simp [e7]) eM.symm (by rintro rfl; simp at hl; omega) (by omega) g2 ho2 ⟨by have := hs2.1; omega, by have := hs2.2; omega⟩ hp
  · rw [hI]
    exact ⟨1, .full, [x], s1, pv1, po1, by omega, by omega, hm, by simp, by simp, by simp, by simp, by simp, by simpa using hM, rfl, g1, hgr1.1, hgr1.2 _ hs, .inl rfl⟩

theorem GrowI.mono {g g' : Nat} (h : g ≤ g') {it : Bool → FS → I0 × FS} (hi : GrowI bs g it) : GrowI bs g' it := fun not s =>
  ⟨(hi not s).1, fun c hs => ⟨Nat.le_trans ((hi not s).2 c hs).1 (by omega), Nat.le_trans ((hi not s).2 c hs).2 (by omega)⟩⟩

theorem itemW_grow (alts : Option (FS → List I0 × FS)) (g : Nat) (h : ∀ f, alts = some f → Grow g f ∧ ∀ s, FOk bs s → FOk bs (f s).2) : GrowI bs (1 + 2 * g) (itemW bs alts) := by
  intro not s
  obtain ⟨b, hbd⟩ : ∃ b, (nextM bs s).1 = b := ⟨_, rfl⟩
  obtain ⟨s1, hs1⟩ : ∃ s1, (nextM bs s).2 = s1 := ⟨_, rfl⟩
  have hsm := nextM_same (bs := bs) s
  have hok : FOk bs s → FOk bs s1 := fun ho => hs1 ▸ nextM_ok ho
  rw [hs1] at hsm
  simp only [itemW, hbd, hs1]
  obtain ⟨s2, hs2⟩ : ∃ s2, s2 = { s1 with many := s1.many + 1 } := ⟨_, rfl⟩
  rw [← hs2]
  have ho2 : FOk bs s → FOk bs s2 := fun ho => by rw [hs2]; exact ⟨(hok ho).pos, (hok ho).len⟩
  have hv2 : ∀ c, Small c s → s2.many ≤ c + 1 ∧ s2.vars.length ≤ c := fun c hs => by rw [hs2]; exact ⟨by have := hs.1; have := hsm.1; show s1.many + 1 ≤ c + 1; omega, by show s1.vars.length ≤ c; rw [hsm.2.1]; exact hs.2⟩
  split
  · have hp := predM_same (bs := bs) (varsL.getD ((s1.many + 1) % 12) []) (kindsL.getD (b % 3) []) s2
    refine ⟨fun ho => predM_ok _ _ (ho2 ho), fun c hs => ?_⟩
    have := hv2 c hs
    exact ⟨by rw [hp.1]; omega, by rw [hp.2.1]; omega⟩
  split
  · cases alts with
    | none => simp at *
    | some f =>
      obtain ⟨hg, hf⟩ := h f rfl
      refine ⟨fun ho => hf _ (hf _ (ho2 ho)), fun c hs => ?_⟩
      have := hv2 c hs
      have h1 := hg (c + 1) s2 ⟨by omega, by omega⟩
      have h2 := hg _ _ h1
      exact ⟨by have := h2.1; show (f (f s2).2).2.many ≤ _; omega, by have := h2.2; show (f (f s2).2).2.vars.length ≤ _; omega⟩
  · have hp := predM_same (bs := bs) (varsL.getD ((s1.many + 1) % 12) []) (kindsL.getD (b % 3) []) s2
    refine ⟨fun ho => ?_, fun c hs => ?_⟩
    · have := predM_ok (varsL.getD ((s1.many + 1) % 12) []) (kindsL.getD (b % 3) []) (ho2 ho)
      exact ⟨this.pos, by simp only [List.length_append, this.len, List.length_singleton]⟩
    · have := hv2 c hs
      exact ⟨by show (predM bs _ _ s2).2.many ≤ _; rw [hp.1]; omega, by simp only [List.length_append, hp.2.1, List.length_singleton]; omega⟩

theorem moreW_grow {g : Nat} {it : Bool → FS → I0 × FS} (h : GrowI bs g it) (most : Nat) : ∀ (n i : Nat) (out : List I0) (s : FS), (FOk bs s → FOk bs (moreW bs it most n i out s).2) ∧ ∀ c, Small c s → Small (c + n * g) (moreW bs it most n i out s).2
  | 0, i, out, s => ⟨id, fun c hs => by simpa [moreW] using hs⟩
  | n + 1, i, out, s => by
    simp only [moreW]
    split
    · have h1 := h (decide (i + 1 < most)) s
      have h2 := moreW_grow h most n (i + 1) (out ++ [(it (decide (i + 1 < most)) s).1]) (it (decide (i + 1 < most)) s).2
      refine ⟨fun ho => h2.1 (h1.1 ho), fun c hs => ?_⟩
      have h3 := h2.2 _ (h1.2 c hs)
      rw [Nat.add_mul]
      exact ⟨by have := h3.1; omega, by have := h3.2; omega⟩
    · refine ⟨id, fun c hs => ?_⟩
      rw [Nat.add_mul]
      exact ⟨by have := hs.1; show s.many ≤ _; omega, by have := hs.2; show s.vars.length ≤ _; omega⟩

theorem itemsW_grow {g g0 : Nat} {it it0 : Bool → FS → I0 × FS} (h : GrowI bs g it) (h0 : GrowI bs g0 it0) (most : Nat) : Grow (g + most * g + g0) (itemsW bs it it0 most) ∧ ∀ s, FOk bs s → FOk bs (itemsW bs it it0 most s).2 := by
  have key : ∀ s, (FOk bs s → FOk bs (itemsW bs it it0 most s).2) ∧ ∀ c, Small c s → Small (c + (g + most * g + g0)) (itemsW bs it it0 most s).2 := by
    intro s
    have h1 := h false s
    have h2 := moreW_grow h most most 1 [(it false s).1] (it false s).2
    simp only [itemsW]
    obtain ⟨r, hr⟩ : ∃ r, moreW bs it most most 1 [(it false s).1] (it false s).2 = r := ⟨_, rfl⟩
    rw [hr] at h2
    simp only [hr]
    have h3 := h0 false r.2
    split
    · refine ⟨fun ho => h3.1 (h2.1 (h1.1 ho)), fun c hs => ?_⟩
      have := h3.2 _ (h2.2 _ (h1.2 c hs))
      exact ⟨by have := this.1; show (it0 false r.2).2.many ≤ _; omega, by have := this.2; show (it0 false r.2).2.vars.length ≤ _; omega⟩
    · refine ⟨fun ho => h2.1 (h1.1 ho), fun c hs => ?_⟩
      have := h2.2 _ (h1.2 c hs)
      exact ⟨by have := this.1; omega, by have := this.2; omega⟩
  exact ⟨fun c s hs => (key s).2 c hs, fun s ho => (key s).1 ho⟩

theorem item0_grow : GrowI bs 1 (item0 bs) := itemW_grow none 0 (fun f h => by cases h)
theorem items0_grow : Grow 4 (items0 bs 2) ∧ ∀ s, FOk bs s → FOk bs (items0 bs 2 s).2 := itemsW_grow item0_grow item0_grow 2
theorem item1_grow : GrowI bs 9 (item1 bs) := itemW_grow (some (items0 bs 2)) 4 (fun f h => by cases h; exact items0_grow)

theorem item0_run (hB : Base T) (hb : BytesOk bs) : ItemRun T m bs 0 800 (item0 bs) := fun σ s pv po not hf ho hs => by
  have := item_run hB hb none 0 (by simp) (by omega) 900 (by omega) (by omega) (fun f h => by cases h) (fun f h => by cases h) not hf ho hs
  refine this.mono ?_
  rintro o σ' ⟨x, pv', po', h⟩
  exact ⟨x, pv', po', h⟩
theorem ItemRun.down {deep c c' : Nat} {it : Bool → FS → I0 × FS} (h : ItemRun T m bs deep c it) (hc : c' ≤ c) : ItemRun T m bs deep c' it :=
  fun σ s pv po not hf ho hs => h not hf ho ⟨Nat.le_trans hs.1 hc, Nat.le_trans hs.2 hc⟩
theorem items0_run (hB : Base T) (hb : BytesOk bs) : ItemsRun T m bs 0 700 2 (items0 bs 2) :=
  items_run hB hb 0 2 700 (by omega) (by omega) (by omega) (by omega) (item0 bs) (item0 bs) (item0_run hB hb) (item0_run hB hb) (item0_grow.mono (by omega)) (item0_grow.mono (by omega))
theorem item1_run (hB : Base T) (hb : BytesOk bs) : ItemRun T m bs 1 600 (item1 bs) := fun σ s pv po not hf ho hs => by
  have := item_run hB hb (some (items0 bs 2)) 1 (by simp) (by omega) 700 (by omega) (by omega) (fun f h => by cases h; exact items0_run hB hb)
    (fun f h => by cases h; exact ⟨fun c s hs => by have := (items0_grow (bs := bs)).1 c s hs; exact ⟨by have := this.1; omega, by have := this.2; omega⟩, items0_grow.2⟩) not hf ho hs
  refine this.mono ?_
  rintro o σ' ⟨x, pv', po', h⟩
  exact ⟨x, pv', po', h⟩
theorem items1_run (hB : Base T) (hb : BytesOk bs) : ItemsRun T m bs 1 500 3 (items1 bs 3) :=
  items_run hB hb 1 3 500 (by omega) (by omega) (by omega) (by omega) (item1 bs) (item0 bs) (item1_run hB hb) ((item0_run hB hb).down (by omega)) (item1_grow.mono (by omega)) (item0_grow.mono (by omega))

end Jet

/-
The makers of queries out of bytes: a query.
-/
namespace Jet
open Go

variable {m : Nat} {bs : List Nat} {σ σ' σ'' : St} {T : Tab}

def zeroQ : List AV := [.sl .full [], .int .i64 0, .str []]

theorem asked_run (hB : Base T) (hb : BytesOk bs) (σ : St) :
    Runs T f_jettisonlaw11_asked [bytesAV bs] σ (fun o σ' => ∃ q : Qry, o = .ret q.av ∧ q.e = askedM bs ∧ Grows σ σ') := by
  refine runs_fn (hB.hook _ (by decide)) (hB.fn _ q_jettisonlaw11_asked rfl) (by simp [q_jettisonlaw11_asked]) ?_
  obtain ⟨K, hK⟩ : ∃ K : Out → St → Prop, K = fun o σ' => ∃ q : Qry, o = .ret q.av ∧ q.e = askedM bs ∧ Grows σ σ' := ⟨_, rfl⟩
  rw [← hK]
  simp only [askedM] at hK
  obtain ⟨s0, hs0⟩ : ∃ s0 : FS, s0 = ⟨0, [], [], 0⟩ := ⟨_, rfl⟩
  rw [← hs0] at hK
  have hcb : (bytesAV bs).cells = [bytesAV bs] := rfl
  have hone : (bytesAV bs).one = true := rfl
  simp [q_jettisonlaw11_asked, hcb, hone]
  obtain ⟨σb, hσb⟩ : ∃ σb, σb = (σ.push (.cells zeroQ)).push (.cells [bytesAV bs, .int .i64 0, .sl .full [], .sl .full [], .int .i64 0]) := ⟨_, rfl⟩
  have hLb : σb.get σ.next = some (.cells zeroQ) := by rw [hσb]; simp
  have hmb : σb.get (σ.next + 1) = some (.cells [bytesAV bs, .int .i64 0, .sl .full [], .sl .full [], .int .i64 0]) := by rw [hσb]; simp
  have hnb : σb.next = σ.next + 2 := by rw [hσb]; simp
  have hgb : Grows σ σb := by rw [hσb]; exact ((Grows.refl σ).push' _).push' _
  simp only [zeroQ] at hσb
  rw [← hσb]
  have f0 : Feed (σ.next + 1) bs s0 .full .full σb := ⟨by rw [hmb, hs0]; rfl, by omega, .inl ⟨rfl, by rw [hs0]; rfl⟩, .inl ⟨rfl, by rw [hs0]; rfl⟩, fun t e => by cases e⟩
  have ho0 : FOk bs s0 := ⟨by rw [hs0]; exact Nat.zero_le _, by rw [hs0]⟩
  refine (next_run hB hb f0 ho0).mono ?_
  rintro o σ1 ⟨rfl, g1⟩
  have hn1 := nextM_le hb s0
  have ho1 := nextM_ok ho0
  have hsm1 := nextM_same (bs := bs) s0
  have hnL : σ.next ≠ σ.next + 1 := by omega
  have hL1 := g1.var f0 hnL (by omega) hLb
  have lt1 := g1.fr.1
  obtain ⟨w, hw⟩ : ∃ w, (nextM bs s0).1 = w := ⟨_, rfl⟩
  obtain ⟨s1, hs1⟩ : ∃ s1, (nextM bs s0).2 = s1 := ⟨_, rfl⟩
  rw [hs1] at g1 ho1 hsm1 hK
  rw [hw] at hn1 hK
  have d12 : Int.tmod (w : Int) 12 = ((w % 12 : Nat) : Int) := rm w 12
  obtain ⟨c12, hc12⟩ : ∃ c, w % 12 = c := ⟨_, rfl⟩
  rw [hc12] at d12 hK
  simp [hw, d12]
  obtain ⟨τ, hτ⟩ : ∃ τ, τ = (σ1.push (.cells zeroQ)).set σ1.next (.cells [.sl .full [], .int .i64 c12, .str []]) := ⟨_, rfl⟩
  have gτ : FStep (σ.next + 1) bs σb τ .full .full .full .full s1 := by
    rw [hτ]; exact (g1.push (.cells zeroQ)).set (cs := zeroQ) (by omega) lt1 (by simp) _
  have hXτ : τ.get σ1.next = some (.cells [.sl .full [], .int .i64 c12, .str []]) := by rw [hτ]; simp
  have hLτ : τ.get σ.next = some (.cells zeroQ) := by rw [hτ, St.get_set_ne _ _ (by omega), St.get_push, if_neg (by omega)]; exact hL1
  have hnτ : τ.next = σ1.next + 1 := by rw [hτ]; simp
  simp only [zeroQ] at hτ
  rw [← hτ]
  refine (next_run hB hb gτ.feed ho1).mono ?_
  rintro o σ2 ⟨rfl, g2⟩
  have hn2 := nextM_le hb s1
  have ho2 := nextM_ok ho1
  have hsm2 := nextM_same (bs := bs) s1
  have hL2 := g2.var gτ.feed hnL (by omega) hLτ
  have hX2 := g2.var gτ.feed (by omega) (by omega) hXτ
  have lt2 := g2.fr.1
  obtain ⟨b, hb'⟩ : ∃ w, (nextM bs s1).1 = w := ⟨_, rfl⟩
  obtain ⟨s2, hs2⟩ : ∃ s2, (nextM bs s1).2 = s2 := ⟨_, rfl⟩
  rw [hs2] at g2 ho2 hsm2 hK
  rw [hb'] at hn2 hK
  have d2 : Int.tmod (b : Int) 2 = ((b % 2 : Nat) : Int) := rm b 2
  obtain ⟨c2, hc2⟩ : ∃ c, b % 2 = c := ⟨_, rfl⟩
  rw [hc2] at d2 hK
  have g2' := gτ.trans g2
  have hsm : Small 500 s2 := by
    refine ⟨?_, ?_⟩
    · rw [hsm2.1, hsm1.1, hs0]; exact Nat.zero_le _
    · rw [hsm2.2.1, hsm1.2.1, hs0]; exact Nat.zero_le _
  have fin : ∀ (f : Fr) (ρ : St) (y : Str), f 2 = .ptr σ.next 0 → f 3 = .ptr (σ.next + 1) 0 → f 4 = .ptr σ1.next 0 → y = (if c2 = 0 then [107] else []) → FStep (σ.next + 1) bs σb ρ .full .full .full .full s2 → ρ.get σ.next = some (.cells zeroQ) → ρ.get σ1.next = some (.cells [.sl .full [], .int .i64 c12, .str y]) → σ1.next < ρ.next →
      WC (Runs T) 21 q_jettisonlaw11_asked_r0 f ρ (endF K [.c 2 3 true]) := by
    intro f ρ y e2 e3 e4 ey gρ hLρ hXρ hlt
    simp [q_jettisonlaw11_asked_r0, e2, e3, e4]
    have hit := items1_run hB hb gρ.feed ho2 hsm
    simp only [Int.natCast_one, show ((3 : Nat) : Int) = 3 from rfl] at hit
    refine hit.mono ?_
    rintro o σ3 ⟨p, l, pv', po', rfl, el, g3⟩
    have hL3 := g3.var gρ.feed hnL (by omega) hLρ
    have hX3 := g3.var gρ.feed (by omega) (by omega) hXρ
    have g4 := ((gρ.trans g3).set (by omega) lt1 hX3 (.cells [.sl p (l.map Itm.av), .int .i64 c12, .str y])).fr
    simp [e2, e4, hX3, hL3, zeroQ, show ¬ σ.next = σ1.next by omega]
    rw [hK]
    refine ⟨⟨p, l, c12, y⟩, rfl, ?_, ?_⟩
    · simp only [Qry.e, el, ey]
    · refine Grows.set ⟨Nat.le_trans hgb.1 g4.1, fun y hy => ?_⟩ (Nat.le_refl _) _
      rw [g4.2 y (by omega) (by rintro (e | e | e); omega; cases e; cases e)]
      exact hgb.2 y hy
  by_cases h0 : c2 = 0
  · have h0' : (c2 : Int) = 0 := by omega
    simp [hb', d2, h0', hX2]
    refine fin _ _ [107] (by simp) (by simp) (by simp) (by simp [h0]) (g2'.set (by omega) lt1 hX2 _) ?_ (St.get_set_eq _ _ _) ?_
    · rw [St.get_set_ne _ _ (by omega)]; exact hL2
    · simp; omega
  · have h0' : ¬ (c2 : Int) = 0 := by omega
    simp [hb', d2, h0, h0']
    refine fin _ _ [] ?_ ?_ ?_ (by simp [h0]) g2' hL2 hX2 (by omega) <;> simp

def shapeC (a : Value) (n : Int) (b : Str) (o : Bool) (l : AV) : List AV := [.raw a, .int .i64 n, .str b, .bool o, l]

/-- A query of one's own. -/
theorem shape_run (hB : Base T) (hb : BytesOk bs) (a : Value) (n : Int) (b : Str) (σ : St) :
    Runs T f_jettisonlaw11_Shape_shape [.agg (shapeC a n b true (bytesAV bs))] σ (fun o σ' => ∃ q : Qry, o = .ret q.av ∧ q.e = askedM bs ∧ Grows σ σ') := by
  refine runs_fn (hB.hook _ (by decide)) (hB.fn _ q_jettisonlaw11_Shape_shape rfl) (by simp [q_jettisonlaw11_Shape_shape]) ?_
  obtain ⟨K, hK⟩ : ∃ K : Out → St → Prop, K = fun o σ' => ∃ q : Qry, o = .ret q.av ∧ q.e = askedM bs ∧ Grows σ σ' := ⟨_, rfl⟩
  rw [← hK]
  have hone : (bytesAV bs).one = true := rfl
  have hraw : (AV.raw a).one = true := rfl
  simp [q_jettisonlaw11_Shape_shape, shapeC, hone, hraw]
  refine (asked_run hB hb _).mono ?_
  rintro o σ1 ⟨q, rfl, eq, g1⟩
  have hL : σ1.get (σ.next + 1) = some (.cells zeroQ) := by
    rw [g1.2 _ (by simp)]; simp [zeroQ]
  have hqc : q.av.cells = [.sl q.p (q.items.map Itm.av), .int .i64 q.within, .str q.by'] := rfl
  simp [hL, hqc, zeroQ]
  rw [hK]
  refine ⟨q, rfl, eq, ?_⟩
  exact Grows.set ((((Grows.refl σ).push' _).push' _).trans g1) (by omega) _

end Jet

/-
What is made out of bytes has few paths; its numbers are the machine's.
-/
namespace Jet
open Go

theorem cap20_mul (a b : Nat) : cap20 (cap20 a * b) = cap20 (a * b) := by
  unfold cap20
  by_cases h : a ≤ 1048576
  · have : min a 1048576 = a := by omega
    rw [this]
  · have : min a 1048576 = 1048576 := by omega
    rw [this]
    cases b with
    | zero => simp
    | succ b =>
      have h1 : 1048576 ≤ 1048576 * (b + 1) := Nat.le_mul_of_pos_right _ (Nat.succ_pos b)
      have h2 : a ≤ a * (b + 1) := Nat.le_mul_of_pos_right _ (Nat.succ_pos b)
      omega
theorem cap20_mul' (a b : Nat) : cap20 (a * cap20 b) = cap20 (a * b) := by rw [Nat.mul_comm, cap20_mul, Nat.mul_comm]
theorem cap20_of_le {a : Nat} (h : a ≤ 1048576) : cap20 a = a := Nat.min_eq_left h

mutual
/-- Paths, as many as there are. -/
def I0.pm : I0 → Nat
  | .mk k _ _ _ lo hi kids => if k = 1 then (if lo ≤ hi then (hi - lo).toNat + 1 else 0) else if k = 3 then I0.pk kids else 1
def I0.pk : List (List I0) → Nat
  | [] => 0
  | l :: ks => I0.pp l + I0.pk ks
def I0.pp : List I0 → Nat
  | [] => 1
  | x :: xs => x.pm * I0.pp xs
end

mutual
theorem I0.many_cap : ∀ x : I0, x.many = cap20 x.pm
  | .mk k n v p lo hi kids => by
    simp only [I0.many, I0.pm]
    split
    · unfold timesN cap20
      split
      · omega
      · rfl
    split
    · rw [I0.manyK_cap kids (by omega), Nat.zero_add]
    · rfl
theorem I0.manyK_cap : ∀ (ks : List (List I0)) {m : Nat}, m ≤ 1048576 → I0.manyK m ks = cap20 (m + I0.pk ks)
  | [], m, h => by simp only [I0.manyK, I0.pk]; exact (cap20_of_le h).symm
  | l :: ks, m, h => by
    simp only [I0.manyK, I0.pk]
    rw [I0.manyK_cap ks (cap20_le _), I0.paths_cap l (by omega), Nat.one_mul]
    unfold cap20
    omega
theorem I0.paths_cap : ∀ (l : List I0) {m : Nat}, m ≤ 1048576 → I0.paths m l = cap20 (m * I0.pp l)
  | [], m, h => by simp only [I0.paths, I0.pp, Nat.mul_one]; exact (cap20_of_le h).symm
  | x :: xs, m, h => by
    simp only [I0.paths, I0.pp]
    rw [I0.paths_cap xs (cap20_le _), cap20_mul, I0.many_cap x, Nat.mul_assoc, Nat.mul_left_comm, cap20_mul, Nat.mul_left_comm]
end

mutual
/-- Steps, as many as there may be. -/
def I0.sm : I0 → Nat
  | .mk k _ _ _ _ hi kids => if k = 1 then hi.toNat else if k = 2 then 0 else if k = 3 then I0.sk kids else 1
def I0.sk : List (List I0) → Nat
  | [] => 0
  | l :: ks => max (I0.sl l) (I0.sk ks)
def I0.sl : List I0 → Nat
  | [] => 0
  | x :: xs => x.sm + I0.sl xs
end

mutual
theorem I0.long_cap : ∀ x : I0, x.long = cap20 x.sm
  | .mk k n v p lo hi kids => by
    simp only [I0.long, I0.sm]
    split
    · unfold cap20; omega
    split
    · rfl
    split
    · rw [I0.longK_cap kids (by omega)]; unfold cap20; omega
    · rfl
theorem I0.longK_cap : ∀ (ks : List (List I0)) {m : Nat}, m ≤ 1048576 → I0.longK m ks = max m (cap20 (I0.sk ks))
  | [], m, h => by simp [I0.longK, I0.sk, cap20]
  | l :: ks, m, h => by
    simp only [I0.longK, I0.sk]
    rw [I0.longK_cap ks (Nat.max_le.2 ⟨h, I0.steps_le l (by omega)⟩), I0.steps_cap l (by omega), Nat.zero_add]
    unfold cap20
    omega
theorem I0.steps_cap : ∀ (l : List I0) {m : Nat}, m ≤ 1048576 → I0.steps m l = cap20 (m + I0.sl l)
  | [], m, h => by simp only [I0.steps, I0.sl, Nat.add_zero]; exact (cap20_of_le h).symm
  | x :: xs, m, h => by
    simp only [I0.steps, I0.sl]
    rw [I0.steps_cap xs (cap20_le _), I0.long_cap x]
    unfold cap20
    omega
end

theorem I0.pp_append : ∀ a b : List I0, I0.pp (a ++ b) = I0.pp a * I0.pp b
  | [], b => by simp [I0.pp]
  | x :: xs, b => by simp only [List.cons_append, I0.pp, I0.pp_append xs b, Nat.mul_assoc]
theorem I0.sl_append : ∀ a b : List I0, I0.sl (a ++ b) = I0.sl a + I0.sl b
  | [], b => by simp [I0.sl]
  | x :: xs, b => by simp only [List.cons_append, I0.sl, I0.sl_append xs b, Nat.add_assoc]
theorem I0.codes_append : ∀ a b : List I0, I0.codes (a ++ b) = I0.codes a + I0.codes b
  | [], b => by simp [I0.codes]
  | x :: xs, b => by simp only [List.cons_append, I0.codes, I0.codes_append xs b, Nat.add_assoc]

mutual
/-- How many items stand in one that are no Alts. -/
def I0.leaf : I0 → Nat
  | .mk k _ _ _ _ _ kids => if k = 3 then I0.leafK kids else 1
def I0.leafK : List (List I0) → Nat
  | [] => 0
  | l :: ks => I0.leafL l + I0.leafK ks
def I0.leafL : List I0 → Nat
  | [] => 0
  | x :: xs => x.leaf + I0.leafL xs
end
theorem I0.leafL_append : ∀ a b : List I0, I0.leafL (a ++ b) = I0.leafL a + I0.leafL b
  | [], b => by simp [I0.leafL]
  | x :: xs, b => by simp only [List.cons_append, I0.leafL, I0.leafL_append xs b, Nat.add_assoc]

/-- A small item, of the machine's numbers. -/
def GI (x : I0) : Prop := x.Ok ∧ x.pm ≤ 2 ^ x.leaf ∧ x.sm ≤ 3 * x.leaf ∧ 1 ≤ x.leaf
def GL (l : List I0) : Prop := (∀ x ∈ l, x.Ok) ∧ I0.pp l ≤ 2 ^ I0.leafL l ∧ I0.sl l ≤ 3 * I0.leafL l ∧ l.length ≤ I0.leafL l

theorem GL.nil : GL [] := ⟨by simp, by simp [I0.pp, I0.leafL], by simp [I0.sl], by simp⟩
theorem GL.append {a b : List I0} (h : GL a) (h' : GL b) : GL (a ++ b) := by
  refine ⟨?_, ?_, ?_, ?_⟩
  · intro x hx
    rcases List.mem_append.1 hx with hx | hx
    · exact h.1 x hx
    · exact h'.1 x hx
  · rw [I0.pp_append, I0.leafL_append, Nat.pow_add]; exact Nat.mul_le_mul h.2.1 h'.2.1
  · rw [I0.sl_append, I0.leafL_append]; have := h.2.2.1; have := h'.2.2.1; omega
  · rw [List.length_append, I0.leafL_append]; have := h.2.2.2; have := h'.2.2.2; omega
theorem GL.one {x : I0} (h : GI x) : GL [x] := ⟨by simpa using h.1, by simpa [I0.pp, I0.leafL] using h.2.1, by simpa [I0.sl, I0.leafL] using h.2.2.1, by simpa [I0.leafL] using h.2.2.2⟩

theorem two_pow_add {a b : Nat} (ha : 1 ≤ a) (hb : 1 ≤ b) : 2 ^ a + 2 ^ b ≤ 2 ^ (a + b) := by
  rw [Nat.pow_add]
  have h1 : 2 ≤ 2 ^ a := by calc 2 = 2 ^ 1 := rfl
    _ ≤ 2 ^ a := Nat.pow_le_pow_right (by omega) ha
  have h2 : 2 ≤ 2 ^ b := by calc 2 = 2 ^ 1 := rfl
    _ ≤ 2 ^ b := Nat.pow_le_pow_right (by omega) hb
  generalize 2 ^ a = x at *
  generalize 2 ^ b = y at *
  obtain ⟨u, rfl⟩ : ∃ u, x = u + 2 := ⟨x - 2, by omega⟩
  obtain ⟨v, rfl⟩ : ∃ v, y = v + 2 := ⟨y - 2, by omega⟩
  rw [Nat.add_mul, Nat.mul_add, Nat.mul_add]
  have : 0 ≤ u * v := Nat.zero_le _
  omega

theorem GI.alt {a b : List I0} (h : GL a) (h' : GL b) (ha : a ≠ []) (hb : b ≠ []) (la : I0.leafL a ≤ 1000) (lb : I0.leafL b ≤ 1000) : GI (.mk 3 [] [] [] 0 0 [a, b]) := by
  have l1 : 1 ≤ I0.leafL a := Nat.le_trans (List.length_pos_iff.2 ha) h.2.2.2
  have l2 : 1 ≤ I0.leafL b := Nat.le_trans (List.length_pos_iff.2 hb) h'.2.2.2
  refine ⟨?_, ?_, ?_, ?_⟩
  · refine .mk _ _ _ _ _ _ _ (by simp [inI64]) (by simp [inI64]) (by simp [inI64]) (by simp [okLen]) (by simp) (by simp [okLen]) ?_ ?_
    · intro l hl
      have := h.2.2.2; have := h'.2.2.2
      rcases List.mem_cons.1 hl with rfl | hl
      · unfold okLen; omega
      · rw [List.mem_singleton] at hl; subst hl; unfold okLen; omega
    · intro l hl x hx
      rcases List.mem_cons.1 hl with rfl | hl
      · exact h.1 x hx
      · rw [List.mem_singleton] at hl; subst hl; exact h'.1 x hx
  · simp only [I0.pm, I0.pk, I0.leaf, I0.leafK]
    simp only [Nat.add_zero]
    exact Nat.le_trans (Nat.add_le_add h.2.1 h'.2.1) (two_pow_add l1 l2)
  · simp only [I0.sm, I0.sk, I0.leaf, I0.leafK]
    have := h.2.2.1; have := h'.2.2.1
    simp
    omega
  · simp only [I0.leaf, I0.leafK]
    simp
    omega

end Jet
