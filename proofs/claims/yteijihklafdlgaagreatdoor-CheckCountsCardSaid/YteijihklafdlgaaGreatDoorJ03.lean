/-
A closed call, run from the empty store, holds at each store.
-/
import Derived.Test.YteijihklafdlgaaGreatDoorJ02
import Derived.ChangeSame
import Derived.ChangeStays
import Derived.Deep.Slices
import Derived.Laws.Externs
import Derived.Lib.LaidU8
import Derived.OpenShut
set_option linter.unusedSimpArgs false
set_option linter.unusedVariables false
set_option linter.constructorNameAsVariable false

namespace Jet
open Go

/-- What one ghost knows of closed values the other one knows. -/
def Carries (G G' : Gh) : Prop := ∀ b full, G.blk b = some (.imm full) → ∃ full', G'.blk b = some (.imm full') ∧
  ∀ o cs, (∀ x ∈ cs, x.closed = true) → cs <+: full.drop o → cs.map AV.strip <+: full'.drop o

theorem flat_closed {xs : List AV} (h : ∀ x ∈ xs, x.closed = true) : ∀ c ∈ Jet.flat xs, c.closed = true := by
  intro c hc
  simp only [Jet.flat, List.mem_flatMap] at hc
  obtain ⟨x, hx, hc⟩ := hc
  exact closed_cells (h x hx) c hc

mutual
theorem carry_rel {G G' : Gh} (H : Carries G G') : ∀ {x : AV} {v : Value}, x.closed = true → Rel G x v → Rel G' x.strip v
  | .bool _, _, _, r => by simpa [Rel, AV.strip] using r
  | .int _ _, _, _, r => by simpa [Rel, AV.strip] using r
  | .str _, _, _, r => by simpa [Rel, AV.strip] using r
  | .nilp, _, _, r => by simpa [Rel, AV.strip] using r
  | .nilm, _, _, r => by simpa [Rel, AV.strip] using r
  | .nilf, _, _, r => by simpa [Rel, AV.strip] using r
  | .nili, _, _, r => by simpa [Rel, AV.strip] using r
  | .raw _, _, _, r => by simpa [Rel, AV.strip] using r
  | .ept cs, v, h, r => by
    simp only [AV.closed] at h
    simp only [AV.strip, Rel] at r ⊢
    obtain ⟨b, o, full, h1, h2, h3⟩ := r
    obtain ⟨full', h4, h5⟩ := H b full h2
    exact ⟨b, o, full', h1, h4, by rw [strips_map]; exact h5 o cs ((closeds_all cs).1 h) h3⟩
  | .sl p xs, v, h, r => by
    simp only [AV.closed] at h
    have hcl := (closeds_all xs).1 h
    simp only [AV.strip, Rel] at r ⊢
    obtain ⟨a, cap, h1, h2, ⟨s, h3⟩, h4, h5⟩ := r
    have hlen : (AV.strips xs).length = xs.length := by rw [strips_map, List.length_map]
    refine ⟨a, cap, by rw [hlen]; exact h1, by rw [hlen]; exact h2, ⟨s, ?_⟩, ?_, ?_⟩
    · intro x hx
      rw [strips_map, List.mem_map] at hx
      obtain ⟨y, hy, rfl⟩ := hx
      rw [strip_cells, List.length_map]
      exact h3 y hy
    · cases a with
      | none =>
        obtain ⟨rfl, h7⟩ := h4
        exact ⟨rfl, h7⟩
      | some ad =>
        obtain ⟨h6, h7⟩ := h4
        refine ⟨h6, ?_⟩
        rcases h7 with rfl | ⟨full, h8, h9⟩
        · exact .inl rfl
        · obtain ⟨full', h10, h11⟩ := H _ full h8
          refine .inr ⟨full', h10, ?_⟩
          rw [flat_strips]
          exact h11 _ _ (flat_closed hcl) h9
    · cases p with
      | no => trivial
      | full => simp only [TokOk] at h5 ⊢; rw [hlen]; exact h5
      | tok t => trivial
  | .fn f a b, v, h, r => by
    simp only [AV.closed, Bool.and_eq_true] at h
    simp only [AV.strip, Rel] at r ⊢
    obtain ⟨xs', ys', h1, h2, h3⟩ := r
    exact ⟨xs', ys', h1, carry_rels H h.1 h2, carry_rels H h.2 h3⟩
  | .iface t x, v, h, r => by
    simp only [AV.closed] at h
    simp only [AV.strip, Rel] at r ⊢
    obtain ⟨y, h1, h2⟩ := r
    exact ⟨y, h1, carry_rel H h h2⟩
  | .agg cs, v, h, r => by
    simp only [AV.closed] at h
    simp only [AV.strip, Rel] at r ⊢
    obtain ⟨y, h1, h2, h3⟩ := r
    refine ⟨y, h1, carry_rels H h h2, ?_⟩
    intro x hx
    rw [strips_map, List.mem_map] at hx
    obtain ⟨z, hz, rfl⟩ := hx
    rw [strip_one]; exact h3 z hz
  | .tup vs, v, h, r => by
    simp only [AV.closed] at h
    simp only [AV.strip, Rel] at r ⊢
    obtain ⟨y, h1, h2⟩ := r
    exact ⟨y, h1, carry_rels H h h2⟩
  | .ptr _ _, _, h, _ => by simp [AV.closed] at h
  | .ms _ _ _ _ _, _, h, _ => by simp [AV.closed] at h
  | .map _, _, h, _ => by simp [AV.closed] at h
  | .iter _, _, h, _ => by simp [AV.closed] at h
theorem carry_rels {G G' : Gh} (H : Carries G G') : ∀ {xs : List AV} {vs : List Value}, AV.closeds xs = true → RelL G xs vs → RelL G' (AV.strips xs) vs
  | [], _, _, r => by simpa [RelL, AV.strips] using r
  | x :: xs, _, h, r => by
    simp only [RelL] at r
    simp only [AV.closeds, Bool.and_eq_true] at h
    simp only [AV.strips, RelL]
    obtain ⟨y, ys, h1, h2, h3⟩ := r
    exact ⟨y, ys, h1, carry_rel H h.1 h2, carry_rels H h.2 h3⟩
end

/-- A cell, as it stands, where its value is not closed. -/
def conv (x : AV) (v : Value) : AV := if x.closed then x.strip else .raw v

theorem conv_rel {G G' : Gh} (H : Carries G G') {x : AV} {v : Value} (h1 : x.one = true) (r : Rel G x v) : Rel G' (conv x v) v := by
  unfold conv
  split
  · rename_i h; exact carry_rel H h r
  · rename_i h
    simp only [Rel, true_and]
    cases x with
    | agg cs => simp [AV.one] at h1
    | tup vs => simp [AV.one] at h1
    | ptr m o => simp only [Rel] at r; obtain ⟨b, rfl, _⟩ := r; rfl
    | ms s m o len cap => simp only [Rel] at r; obtain ⟨b, rfl, _⟩ := r; rfl
    | map m => simp only [Rel] at r; obtain ⟨b, rfl, _⟩ := r; rfl
    | iter m => simp only [Rel] at r; obtain ⟨b, rfl, _⟩ := r; rfl
    | ept cs => simp only [Rel] at r; obtain ⟨b, o, full, rfl, _⟩ := r; rfl
    | sl p xs => simp only [Rel] at r; obtain ⟨b, o, rfl, _⟩ := r; rfl
    | fn f a b => simp only [Rel] at r; obtain ⟨b, o, rfl, _⟩ := r; rfl
    | iface t v => simp only [Rel] at r; obtain ⟨b, rfl, _⟩ := r; rfl
    | _ => all_goals exact absurd rfl h

theorem conv_one {x : AV} {v : Value} (h : x.one = true) : (conv x v).one = true := by
  unfold conv
  split
  · rw [strip_one]; exact h
  · rfl

def convs : List AV → List Value → List AV
  | x :: xs, v :: vs => conv x v :: convs xs vs
  | _, _ => []

theorem convs_length : ∀ {xs : List AV} {l1 l2 : List Value}, l1.length = xs.length → convs xs (l1 ++ l2) = convs xs l1 ∧ (convs xs l1).length = xs.length
  | [], [], l2, _ => by cases l2 <;> simp [convs]
  | x :: xs, v :: vs, l2, h => by
    obtain ⟨h1, h2⟩ := convs_length (xs := xs) (l1 := vs) (l2 := l2) (by simpa using h)
    simp [convs, h1, h2]
  | [], _ :: _, _, h => by simp at h
  | _ :: _, [], _, h => by simp at h

theorem convs_get : ∀ {xs : List AV} {vs : List Value} {i : Nat} {x : AV} {v : Value}, xs[i]? = some x → vs[i]? = some v → (convs xs vs)[i]? = some (conv x v)
  | x :: xs, v :: vs, 0, _, _, h1, h2 => by simp at h1 h2; subst h1; subst h2; rfl
  | x :: xs, v :: vs, i + 1, _, _, h1, h2 => by
    simp only [List.getElem?_cons_succ] at h1 h2
    simp only [convs, List.getElem?_cons_succ]
    exact convs_get h1 h2
  | [], _, _, _, _, h1, _ => by simp at h1
  | _ :: _, [], _, _, _, _, h2 => by simp at h2

theorem convs_rel {G G' : Gh} (H : Carries G G') : ∀ {xs : List AV} {vs : List Value}, RelH G xs vs → RelH G' (convs xs vs) vs
  | [], vs, r => by rw [r.nil_left]; simp [convs, RelH]
  | x :: xs, _, ⟨y, ys, e, h2, h3⟩ => by
    subst e
    refine ⟨y, ys, rfl, ?_, convs_rel H h3⟩
    rcases h2 with rfl | h2
    · exact .inl rfl
    · exact .inr ⟨conv_rel H h2.2 h2.1, conv_one h2.2⟩

/-- What is closed is carried. -/
theorem convs_prefix {full : List AV} {vs : List Value} (hl : vs.length = full.length) {o : Nat} {cs : List AV} (hc : ∀ x ∈ cs, x.closed = true) (h : cs <+: full.drop o) :
    cs.map AV.strip <+: (convs full vs).drop o := by
  obtain ⟨h1, h2⟩ := convs_length (xs := full) (l1 := vs) (l2 := []) hl
  rw [List.prefix_iff_eq_take]
  apply List.ext_getElem?
  intro i
  have hlen : cs.length ≤ full.length - o := by have := h.length_le; simpa using this
  by_cases hi : i < cs.length
  · rw [List.getElem?_map, List.getElem?_take, if_pos (by simpa using hi), List.getElem?_drop]
    obtain ⟨r, hr⟩ := h
    have hx : cs[i]? = some cs[i] := List.getElem?_eq_getElem hi
    have hf : full[o + i]? = some cs[i] := by
      rw [← List.getElem?_drop, ← hr, List.getElem?_append_left hi]; exact hx
    have hlt : o + i < vs.length := by rw [hl]; exact (List.getElem?_eq_some_iff.1 hf).1
    rw [convs_get hf (List.getElem?_eq_getElem hlt), hx]
    simp only [Option.map_some, conv]
    rw [if_pos (hc _ (List.getElem_mem hi))]
  · rw [List.getElem?_eq_none (by simpa using hi), List.getElem?_eq_none]
    simp only [List.length_take, List.length_map]; omega

end Jet

/-
A closed call, run from the empty store, holds at each store.
-/
namespace Jet
open Go

/-- The global tables hold nothing of memory. -/
def GlFlat (gl : Gl) : Prop := ∀ g cs, gl g = some cs → AV.flats cs = true

def G0 (gl : Gl) : Gh := { blk := fun b => (gl b).map .imm, tok := fun _ => none, nx := 0 }

theorem G0_blk {gl : Gl} {b : Nat} {k : BK} (h : (G0 gl).blk b = some k) : ∃ cs, gl b = some cs ∧ k = .imm cs := by
  simp only [G0, Option.map_eq_some_iff] at h
  obtain ⟨cs, h1, h2⟩ := h
  exact ⟨cs, h1, h2.symm⟩

theorem G0_inv {gl : Gl} (hf : GlFlat gl) {G : Gh} {σ : St} {w : World} (hi : Inv G σ w) (hg : GlOk gl G) : Inv (G0 gl) ⟨.nil, 0⟩ w where
  blk b k e := by
    obtain ⟨cs, h1, rfl⟩ := G0_blk e
    obtain ⟨c, e, fr, l1, l2, q1, q2, q3⟩ := hi.blk _ _ (hg b cs h1).1
    exact ⟨c, e, fr, l1, l2, q1, q2, avflats_relH (hf b cs h1) q3⟩
  inj b b' k k' m e _ hn _ := by obtain ⟨cs, _, rfl⟩ := G0_blk e; cases hn
  tok t k e := by cases e
  tinj t t' k k' e := by cases e
  ltb b k m e hn := by obtain ⟨cs, _, rfl⟩ := G0_blk e; cases hn
  ltt t k e := by cases e
  nx := Nat.le_refl _

theorem G0_ok (gl : Gl) : GlOk gl (G0 gl) := fun g cs h => ⟨by simp [G0, h], fun t k e => by cases e⟩

/-- The ghost behind such a call: what was there as it was; what is new, as far as it is closed. -/
def Gf (G G' : Gh) (n : Nat) (w' : World) : Gh where
  blk b := if b < n then G.blk b else match G'.blk b with
    | some (.imm cs) => match w'.heap[b]? with
      | some (.cells c _ _) => some (.imm (convs cs c.toList))
      | _ => none
    | _ => none
  tok := G.tok
  nx := G.nx

variable {P : Program} {gl : Gl}

theorem memo_ok (hf : GlFlat gl) {f : FuncId} {args : List AV} {v : AV} {σ' : St} (hargs : AV.flats args = true) (hv : v.closed = true)
    (h : CallOk P gl f args ⟨.nil, 0⟩ (.ret v) σ') (σ : St) : CallOk P gl f args σ (.ret v.strip) σ := by
  intro G w cargs hi hg ha o a next Q hn hp
  refine h (G0 gl) w cargs (G0_inv hf hi hg) (G0_ok gl) (avflats_rel hargs ha) o a next Q ?_ (fun _ _ _ _ e => by cases e)
  intro v' cv w' G' e hr hi' hex
  cases e
  -- the blocks that were there
  have hold : ∀ b k, b < w.heap.size → G'.blk b = some k → ∃ cs, gl b = some cs ∧ k = .imm cs := by
    intro b k hb e
    cases hg0 : gl b with
    | none =>
      have := (hex.frame b hb (by simp [G0, hg0])).2
      rw [this] at e; cases e
    | some cs =>
      have := hex.grow b cs (by simp [G0, hg0]) (fun t k e => by cases e)
      rw [this] at e; cases e
      exact ⟨cs, rfl, rfl⟩
  have hlow : ∀ b, b < w.heap.size → (Gf G G' w.heap.size w').blk b = G.blk b := fun b hb => by simp [Gf, hb]
  have hhigh : ∀ b k, ¬ b < w.heap.size → (Gf G G' w.heap.size w').blk b = some k → ∃ cs c e fr l1 l2, G'.blk b = some (.imm cs) ∧ w'.heap[b]? = some (.cells c e fr) ∧ c.toList = l1 ++ l2 ∧
      RelH G' cs l1 ∧ k = .imm (convs cs l1) := by
    intro b k hb e
    simp only [Gf, hb, if_false] at e
    split at e
    · rename_i cs hG
      obtain ⟨c, e', fr, l1, l2, q1, q2, q3⟩ := hi'.blk _ _ hG
      rw [q1] at e
      simp only [Option.some.injEq] at e
      refine ⟨cs, c, e', fr, l1, l2, hG, q1, q2, q3, ?_⟩
      rw [← e, q2, (convs_length q3.length).1]
    · cases e
  have H : Carries G' (Gf G G' w.heap.size w') := by
    intro b full e
    by_cases hb : b < w.heap.size
    · obtain ⟨cs, h1, h2⟩ := hold b _ hb e
      cases h2
      refine ⟨full, by rw [hlow b hb]; exact (hg b full h1).1, fun o cs hc hp => ?_⟩
      have : cs.map AV.strip = cs := by
        rw [← strips_map]
        refine flats_strips ((flats_all cs).2 fun x hx => (flats_all full).1 (hf b full h1) x ?_)
        exact List.mem_of_mem_drop (hp.subset hx)
      rw [this]; exact hp
    · obtain ⟨c, e', fr, l1, l2, q1, q2, q3⟩ := hi'.blk _ _ e
      refine ⟨convs full l1, ?_, fun o cs hc hp => convs_prefix q3.length hc hp⟩
      simp only [Gf, hb, if_false, e, q1, q2, (convs_length q3.length).1]
  have le : G.le (Gf G G' w.heap.size w') := by
    constructor
    · intro b m e; rw [hlow b (hi.dom e)]; exact e
    · intro b m e; rw [hlow b (hi.dom e)]; exact e
    · intro b cs e; exact ⟨[], by rw [hlow b (hi.dom e), List.append_nil]; exact e⟩
    · intro t k e; exact ⟨k, e, rfl, .inl rfl⟩
  -- the memory that was there
  have heap : ∀ b k, G.blk b = some k → w'.heap[b]? = w.heap[b]? ∨ ∃ cs, k = .imm cs ∧ gl b = some cs := by
    intro b k e
    cases hg0 : gl b with
    | none => exact .inl (hex.frame b (hi.dom e) (by simp [G0, hg0])).1
    | some cs =>
      have := (hg b cs hg0).1
      rw [e] at this
      exact .inr ⟨cs, by cases this; rfl, rfl⟩
  have himm : ∀ b cs, G.blk b = some (.imm cs) → ∀ c e fr, w.heap[b]? = some (.cells c e fr) → ∃ c', w'.heap[b]? = some (.cells c' e fr) ∧ c'.size = c.size ∧ ∀ i, i < cs.length → c'[i]? = c[i]? := by
    intro b cs e c ty fr hc
    rcases heap b _ e with h1 | ⟨cs', h1, h2⟩
    · exact ⟨c, by rw [h1]; exact hc, rfl, fun _ _ => rfl⟩
    · cases h1
      exact hex.imm b cs (by simp [G0, h2]) c ty fr hc
  have hinv : Inv (Gf G G' w.heap.size w') σ w' := by
    constructor
    · intro b k e
      by_cases hb : b < w.heap.size
      · rw [hlow b hb] at e
        have hk := hi.blk b k e
        cases k with
        | imm cs =>
          obtain ⟨c, ty, fr, l1, l2, q1, q2, q3⟩ := hk
          obtain ⟨c', r1, r2, r3⟩ := himm b cs e c ty fr q1
          refine ⟨c', ty, fr, l1, c'.toList.drop cs.length, r1, ?_, q3.mono le⟩
          have : c'.toList.take cs.length = l1 := by
            apply List.ext_getElem?
            intro i
            by_cases hlt : i < cs.length
            · rw [List.getElem?_take, if_pos hlt, Array.getElem?_toList, r3 i hlt, ← Array.getElem?_toList, q2, List.getElem?_append_left (by rw [q3.length]; exact hlt)]
            · rw [List.getElem?_take, if_neg hlt, List.getElem?_eq_none (by rw [q3.length]; omega)]
          rw [← this, List.take_append_drop]
        | var m =>
          rcases heap b _ e with h1 | ⟨cs', h1, _⟩
          · exact hk.mono le h1 (fun _ _ => rfl)
          · cases h1
        | obj m =>
          rcases heap b _ e with h1 | ⟨cs', h1, _⟩
          · exact hk.mono le h1 (fun _ _ => rfl)
          · cases h1
      · obtain ⟨cs, c, ty, fr, l1, l2, q0, q1, q2, q3, rfl⟩ := hhigh b k hb e
        exact ⟨c, ty, fr, l1, l2, q1, q2, convs_rel H q3⟩
    · intro b b' k k' m e e' hk hk'
      have conv : ∀ b k, (Gf G G' w.heap.size w').blk b = some k → k.name = some m → G.blk b = some k := by
        intro b k e hk
        by_cases hb : b < w.heap.size
        · rw [hlow b hb] at e; exact e
        · obtain ⟨_, _, _, _, _, _, _, _, _, _, rfl⟩ := hhigh b k hb e; cases hk
      exact hi.inj b b' k k' m (conv b k e hk) (conv b' k' e' hk') hk hk'
    · intro t k e
      obtain ⟨h1, cs, c, ty, fr, h2, h3, h4, h5, h6, h7⟩ := hi.tok t k e
      obtain ⟨c', r1, r2, r3⟩ := himm k.b cs h2 c ty fr h3
      exact ⟨h1, cs, c', ty, fr, by rw [hlow _ (hi.dom h2)]; exact h2, r1, h4, by rw [r2]; exact h5, h6, by rw [r2]; exact h7⟩
    · exact hi.tinj
    · intro b k m e hk
      by_cases hb : b < w.heap.size
      · rw [hlow b hb] at e; exact hi.ltb b k m e hk
      · obtain ⟨_, _, _, _, _, _, _, _, _, _, rfl⟩ := hhigh b k hb e; cases hk
    · exact hi.ltt
    · exact hi.nx
  refine hn _ cv w' _ rfl (carry_rel H hv hr) hinv ?_
  refine ⟨le, hex.os, hex.tape, hex.output, hex.size, ?_, himm, ?_, rfl, fun t k e => .inl ⟨t, k, e, rfl⟩, ?_⟩
  · intro b hb e
    refine ⟨?_, by rw [hlow b hb]; exact e⟩
    cases hg0 : gl b with
    | none => exact (hex.frame b hb (by simp [G0, hg0])).1
    | some cs => have := (hg b cs hg0).1; rw [e] at this; cases this
  · intro b k m e hk
    by_cases hb : b < w.heap.size
    · rw [hlow b hb] at e; exact .inl e
    · obtain ⟨_, _, _, _, _, _, _, _, _, _, rfl⟩ := hhigh b k hb e; cases hk
  · intro b cs e _
    rw [hlow b (hi.dom e)]; exact e

end Jet

/-
Tables of closed calls that have been run.
-/
namespace Jet
open Go

variable {P : Program} {gl : Gl} {T : Tab}

/-- Closed calls of a function, and what they return. -/
def memo : List (List AV × AV) → List AV → St → Option (Out × St)
  | [], _, _ => none
  | e :: es, args, σ => match AV.beqs args e.1 with
    | true => some (.ret e.2, σ)
    | false => memo es args σ

def Tab.memo (T : Tab) (f : FuncId) (es : List (List AV × AV)) : Tab := { T with hook := fun g => match Nat.beq g f with
  | true => some (Jet.memo es)
  | false => T.hook g }

/-- A closed call, at each store. -/
def Ret (P : Program) (gl : Gl) (f : FuncId) (args : List AV) (v : AV) : Prop := ∀ σ, CallOk P gl f args σ (.ret v) σ

theorem memo_some {f : FuncId} : ∀ {es : List (List AV × AV)}, (∀ e ∈ es, Ret P gl f e.1 e.2) → ∀ {args : List AV} {σ : St} {out : Out} {σ' : St},
    memo es args σ = some (out, σ') → CallOk P gl f args σ out σ'
  | [], _, args, σ, out, σ', h => by simp [memo] at h
  | e :: es, he, args, σ, out, σ', h => by
    simp only [memo] at h
    split at h
    · rename_i hb
      cases h
      rw [AV.eqs_of_beqs hb]
      exact he e (by simp) σ
    · exact memo_some (fun x hx => he x (by simp [hx])) h

theorem TabOk.memo (hT : TabOk P gl T) {f : FuncId} {es : List (List AV × AV)} (he : ∀ e ∈ es, Ret P gl f e.1 e.2) : TabOk P gl (T.memo f es) where
  fn := hT.fn
  hook g h hh := by
    simp only [Tab.memo] at hh
    split at hh
    · rename_i hb
      cases hh
      have hb := beq_iff.1 hb
      subst hb
      intro g' args σ out σ' hr
      simp only [] at hr
      split at hr
      · rename_i e
        subst e
        exact memo_some he hr
      · cases hr
    · exact hT.hook g h hh

/-- It returns just this, without a name. -/
def memoK (v : AV) : Out → St → Prop := fun o _ => match o with
  | .ret u => match u.closed && AV.beq u.strip v with
    | true => True
    | false => False
  | .pan _ => False

theorem ret_of_run (hT : TabOk P gl T) (hm : P.follows .mixedOrders = true) (hf : GlFlat gl) {f : FuncId} {args : List AV} (hargs : AV.flats args = true) {v : AV} (n : Nat)
    (h : fRun T n f args ⟨.nil, 0⟩ (memoK v) = True) : Ret P gl f args v := by
  intro σ
  obtain ⟨o, σ', h1, h2⟩ := fRun_ok T n f args ⟨.nil, 0⟩ _ (by rw [h]; trivial)
  cases o with
  | pan u => exact h2.elim
  | ret u =>
    simp only [memoK] at h2
    split at h2
    · rename_i hb
      simp only [Bool.and_eq_true] at hb
      have := memo_ok hf hargs hb.1 (evCall_ok hT hm n _ _ _ _ _ h1) σ
      rw [AV.eq_of_beq hb.2] at this
      exact this
    · exact h2.elim

end Jet

/-
Where a byte stands first in a text: the entry of the library that has no body.
-/
namespace Jet
open Go

def idxL (c : UInt8) : List UInt8 → Nat → Int
  | [], _ => -1
  | b :: bs, i => match Nat.beq b.toNat c.toNat with
    | true => i
    | false => idxL c bs (i + 1)

theorem idxL_find (c : UInt8) : ∀ (l : List UInt8) (k : Nat), idxL c l k = match (List.range l.length).find? (fun i => l.getD i 0 == c) with
    | some i => ((i + k : Nat) : Int)
    | none => -1
  | [], k => rfl
  | b :: bs, k => by
    simp only [idxL, List.length_cons, List.range_succ_eq_map, List.find?_cons, List.getD_cons_zero]
    cases hb : Nat.beq b.toNat c.toNat with
    | true =>
      have : b = c := UInt8.toNat_inj.1 (beq_iff.1 hb)
      simp [this]
    | false =>
      have hne : (b == c) = false := by
        rw [beq_eq_false_iff_ne]
        rintro rfl
        rw [beq_iff.2 rfl] at hb; cases hb
      simp only [hne, List.find?_map]
      have hf : ((fun i => (b :: bs).getD i 0 == c) ∘ Nat.succ) = fun i => bs.getD i 0 == c := by
        funext i; simp
      rw [hf, idxL_find c bs (k + 1)]
      cases (List.range bs.length).find? (fun i => bs.getD i 0 == c) with
      | none => rfl
      | some i =>
        simp only [Option.map_some]
        have : i + (k + 1) = i.succ + k := by omega
        rw [this]

theorem firstIdx_eq (s : ByteArray) (c : UInt8) : firstIdx s c = idxL c s.data.toList 0 := by
  rw [idxL_find]
  unfold firstIdx
  have h1 : s.size = s.data.toList.length := by simp
  have h2 : (fun i => s[i]! == c) = fun i => s.data.toList.getD i 0 == c := by
    funext i
    have : s[i]! = s.data.toList.getD i 0 := by
      by_cases hi : i < s.size
      · rw [getElem!_pos s i hi, List.getD_eq_getElem?_getD, Array.getElem?_toList]
        have : s.data[i]? = some s[i] := Array.getElem?_eq_getElem (xs := s.data) hi
        rw [this]; rfl
      · rw [getElem!_neg s i hi, List.getD_eq_getElem?_getD, Array.getElem?_toList]
        have : s.data[i]? = none := Array.getElem?_eq_none_iff.2 (Nat.le_of_not_lt hi)
        rw [this]; rfl
    rw [this]
  rw [h1, h2]
  cases (List.range s.data.toList.length).find? (fun i => s.data.toList.getD i 0 == c) <;> simp

def hIdx : List AV → St → Option (Out × St) := fun args σ => match args with
  | [.str l, .int .u8 c] => some (.ret (.int .i64 (idxL c.toNat.toUInt8 l 0)), σ)
  | _ => none

theorem hIdx_ok {P : Program} {gl : Gl} {f : FuncId} {fn : Func} (hf : P.funcs[f]? = some fn) (hname : (fn.name == "runtime.NumGoroutine") = false)
    (hb : fn.body.isNone = true) (hn : Extern.findNext fn = none) (he : Extern.find fn = some Extern.BytealgIndexByte.indexByte) : CallsOk P gl fun g args σ => if g = f then hIdx args σ else none := by
  intro g args σ out σ' h
  simp only [] at h
  split at h
  · rename_i e
    subst e
    unfold hIdx at h
    split at h
    · rename_i l c
      cases h
      intro G w cargs hi hg ha o a next Q hnx hp
      simp only [RelL] at ha
      obtain ⟨x, xs, hx, h1, y, ys, hy, h2, h3⟩ := ha
      subst h3
      subst hy
      obtain ⟨bs, rfl, rfl⟩ := h1.str_inv
      have h2 := h2.int_inv
      subst h2
      have hc : cargs = #[.string bs, .int .u8 c] := by rw [← Array.toArray_toList (xs := cargs), hx]
      subst hc
      rw [run_callFunc_extern hf hname hb hn he, run_indexByte_string]
      simp only [Result.andThen_ok, Oper.upon]
      rw [firstIdx_eq]
      exact hnx _ _ w G rfl (by simp [Rel]) hi (.refl G w)
    · cases h
  · cases h

end Jet

/-
What a call leaves behind may be forgotten: names from a number on, where nothing that is kept bears one.
-/
namespace Jet
open Go

mutual
/-- All names in it are below n. -/
def AV.under (n : Nat) : AV → Bool
  | .ptr m _ => Nat.blt m n
  | .ms _ m _ _ _ => Nat.blt m n
  | .map m => Nat.blt m n
  | .iter m => Nat.blt m n
  | .ept cs => AV.unders n cs
  | .sl _ xs => AV.unders n xs
  | .fn _ a b => AV.unders n a && AV.unders n b
  | .iface _ v => v.under n
  | .agg cs => AV.unders n cs
  | .tup vs => AV.unders n vs
  | _ => true
def AV.unders (n : Nat) : List AV → Bool
  | [] => true
  | x :: xs => x.under n && AV.unders n xs
end

def Perm.cut (n : Nat) : Perm → Perm
  | .tok t => match Nat.blt t n with
    | true => .tok t
    | false => .no
  | .no => .no
  | .full => .full

mutual
/-- Without the tokens from n on. -/
def AV.cut (n : Nat) : AV → AV
  | .ept cs => .ept (AV.cuts n cs)
  | .sl p xs => .sl (p.cut n) (AV.cuts n xs)
  | .fn f a b => .fn f (AV.cuts n a) (AV.cuts n b)
  | .iface t v => .iface t (v.cut n)
  | .agg cs => .agg (AV.cuts n cs)
  | .tup vs => .tup (AV.cuts n vs)
  | v => v
def AV.cuts (n : Nat) : List AV → List AV
  | [] => []
  | x :: xs => x.cut n :: AV.cuts n xs
end

def Out.under (n : Nat) : Out → Bool
  | .ret v => v.under n
  | .pan v => v.under n

def Out.cut (n : Nat) : Out → Out
  | .ret v => .ret (v.cut n)
  | .pan v => .pan (v.cut n)

def underE (n : Nat) : List (AV × AV) → Bool
  | [] => true
  | e :: es => e.1.under n && e.2.under n && underE n es

def cutE (n : Nat) : List (AV × AV) → List (AV × AV)
  | [] => []
  | e :: es => (e.1.cut n, e.2.cut n) :: cutE n es

def AObj.under (n : Nat) : AObj → Bool
  | .cells cs => AV.unders n cs
  | .map es => underE n es
  | _ => true

def AObj.cut (n : Nat) : AObj → AObj
  | .cells cs => .cells (AV.cuts n cs)
  | .map es => .map (cutE n es)
  | o => o

theorem cuts_map (n : Nat) : ∀ xs, AV.cuts n xs = xs.map (AV.cut n)
  | [] => rfl
  | x :: xs => by simp [AV.cuts, cuts_map n xs]

theorem unders_all (n : Nat) : ∀ xs, AV.unders n xs = true ↔ ∀ x ∈ xs, x.under n = true
  | [] => by simp [AV.unders]
  | x :: xs => by simp [AV.unders, unders_all n xs]

theorem cut_one (n : Nat) (x : AV) : (x.cut n).one = x.one := by cases x <;> rfl

theorem cut_cells (n : Nat) (x : AV) : (x.cut n).cells = x.cells.map (AV.cut n) := by
  cases x <;> simp [AV.cut, AV.cells, cuts_map]

theorem under_cells {n : Nat} {x : AV} (h : x.under n = true) : ∀ c ∈ x.cells, c.under n = true := by
  cases x with
  | agg cs => simp only [AV.under] at h; exact (unders_all n cs).1 h
  | _ => all_goals (intro c hc; simp only [AV.cells, List.mem_singleton] at hc; rw [hc]; exact h)

theorem flat_cuts (n : Nat) (xs : List AV) : Jet.flat (AV.cuts n xs) = (Jet.flat xs).map (AV.cut n) := by
  simp only [Jet.flat, cuts_map, List.flatMap_map, List.map_flatMap]
  congr 1
  funext x
  exact cut_cells n x

theorem RelH.mem {G : Gh} : ∀ {xs : List AV} {vs : List Value}, RelH G xs vs → ∀ x ∈ xs, x = .undef ∨ ∃ v, Rel G x v
  | [], _, _, x, hx => by cases hx
  | y :: xs, _, ⟨v, vs, e, h1, h2⟩, x, hx => by
    subst e
    rcases List.mem_cons.1 hx with rfl | hx
    · exact h1.imp id fun r => ⟨v, r.1⟩
    · exact h2.mem x hx

theorem RelL.mem {G : Gh} : ∀ {xs : List AV} {vs : List Value}, RelL G xs vs → ∀ x ∈ xs, ∃ v, Rel G x v
  | [], _, _, x, hx => by cases hx
  | y :: xs, _, r, x, hx => by
    simp only [RelL] at r
    obtain ⟨v, vs, rfl, h1, h2⟩ := r
    rcases List.mem_cons.1 hx with rfl | hx
    · exact ⟨v, h1⟩
    · exact h2.mem x hx

section
variable {G : Gh} {σ : St} {w : World} {n : Nat}

theorem imm_mem (hi : Inv G σ w) {b : Nat} {full : List AV} (e : G.blk b = some (.imm full)) : ∀ x ∈ full, x = .undef ∨ ∃ v, Rel G x v := by
  obtain ⟨c, ty, fr, l1, l2, q1, q2, q3⟩ := hi.blk _ _ e
  exact q3.mem

mutual
theorem rel_below (hi : Inv G σ w) (hn : σ.next ≤ n) : ∀ {x : AV} {v : Value}, Rel G x v → x.under n = true ∧ x.cut n = x
  | .bool _, _, _ => ⟨rfl, rfl⟩
  | .int _ _, _, _ => ⟨rfl, rfl⟩
  | .str _, _, _ => ⟨rfl, rfl⟩
  | .nilp, _, _ => ⟨rfl, rfl⟩
  | .nilm, _, _ => ⟨rfl, rfl⟩
  | .nilf, _, _ => ⟨rfl, rfl⟩
  | .nili, _, _ => ⟨rfl, rfl⟩
  | .raw _, _, _ => ⟨rfl, rfl⟩
  | .ptr m o, _, r => by
    simp only [Rel] at r
    obtain ⟨b, rfl, h⟩ := r
    exact ⟨by simp only [AV.under]; exact blt_iff.2 (Nat.lt_of_lt_of_le (hi.ltb b _ m h rfl) hn), rfl⟩
  | .ms s m o l c, _, r => by
    simp only [Rel] at r
    obtain ⟨b, rfl, h⟩ := r
    exact ⟨by simp only [AV.under]; exact blt_iff.2 (Nat.lt_of_lt_of_le (hi.ltb b _ m h rfl) hn), rfl⟩
  | .map m, _, r => by
    simp only [Rel] at r
    obtain ⟨b, rfl, h⟩ := r
    exact ⟨by simp only [AV.under]; exact blt_iff.2 (Nat.lt_of_lt_of_le (hi.ltb b _ m h rfl) hn), rfl⟩
  | .iter m, _, r => by
    simp only [Rel] at r
    obtain ⟨b, rfl, h⟩ := r
    exact ⟨by simp only [AV.under]; exact blt_iff.2 (Nat.lt_of_lt_of_le (hi.ltb b _ m h rfl) hn), rfl⟩
  | .ept cs, _, r => by
    simp only [Rel] at r
    obtain ⟨b, o, full, rfl, h1, h2⟩ := r
    have := cells_below hi hn (cs := cs) fun c hc => imm_mem hi h1 c (List.mem_of_mem_drop (h2.subset hc))
    exact ⟨by simpa only [AV.under] using this.1, by simp only [AV.cut, this.2]⟩
  | .sl p xs, _, r => by
    simp only [Rel] at r
    obtain ⟨a, cap, rfl, h2, _, h4, h5⟩ := r
    have hx : ∀ x ∈ xs, ∀ c ∈ x.cells, c = .undef ∨ ∃ v, Rel G c v := by
      intro x hx c hc
      cases a with
      | none => obtain ⟨rfl, _⟩ := h4; cases hx
      | some ad =>
        obtain ⟨_, h7⟩ := h4
        rcases h7 with rfl | ⟨full, h8, h9⟩
        · cases hx
        · exact imm_mem hi h8 c (List.mem_of_mem_drop (h9.subset (by simp only [Jet.flat, List.mem_flatMap]; exact ⟨x, hx, hc⟩)))
    have := elems_below hi hn hx
    refine ⟨by simpa only [AV.under] using this.1, ?_⟩
    have hp : p.cut n = p := by
      cases p with
      | no => rfl
      | full => rfl
      | tok t =>
        obtain ⟨k, e, _⟩ := h5
        simp only [Perm.cut, blt_iff.2 (Nat.lt_of_lt_of_le (hi.ltt t k e) hn)]
    simp only [AV.cut, this.2, hp]
  | .fn f a b, _, r => by
    simp only [Rel] at r
    obtain ⟨xs', ys', rfl, h2, h3⟩ := r
    have q1 := rels_below hi hn h2
    have q2 := rels_below hi hn h3
    exact ⟨by simp only [AV.under, q1.1, q2.1, Bool.and_self], by simp only [AV.cut, q1.2, q2.2]⟩
  | .iface t x, _, r => by
    simp only [Rel] at r
    obtain ⟨y, rfl, h2⟩ := r
    have q := rel_below hi hn h2
    exact ⟨by simp only [AV.under, q.1], by simp only [AV.cut, q.2]⟩
  | .agg cs, _, r => by
    simp only [Rel] at r
    obtain ⟨y, rfl, h2, h3⟩ := r
    have q := rels_below hi hn h2
    exact ⟨by simp only [AV.under, q.1], by simp only [AV.cut, q.2]⟩
  | .tup vs, _, r => by
    simp only [Rel] at r
    obtain ⟨y, rfl, h2⟩ := r
    have q := rels_below hi hn h2
    exact ⟨by simp only [AV.under, q.1], by simp only [AV.cut, q.2]⟩
theorem rels_below (hi : Inv G σ w) (hn : σ.next ≤ n) : ∀ {xs : List AV} {vs : List Value}, RelL G xs vs → AV.unders n xs = true ∧ AV.cuts n xs = xs
  | [], _, _ => ⟨rfl, rfl⟩
  | x :: xs, _, r => by
    simp only [RelL] at r
    obtain ⟨v, vs, rfl, h1, h2⟩ := r
    have q1 := rel_below hi hn h1
    have q2 := rels_below hi hn h2
    exact ⟨by simp only [AV.unders, q1.1, q2.1, Bool.and_self], by simp only [AV.cuts, q1.2, q2.2]⟩
theorem cells_below (hi : Inv G σ w) (hn : σ.next ≤ n) : ∀ {cs : List AV}, (∀ c ∈ cs, c = .undef ∨ ∃ v, Rel G c v) → AV.unders n cs = true ∧ AV.cuts n cs = cs
  | [], _ => ⟨rfl, rfl⟩
  | x :: xs, h => by
    have q1 : x.under n = true ∧ x.cut n = x := by
      rcases h x (by simp) with rfl | ⟨v, h1⟩
      · exact ⟨rfl, rfl⟩
      · exact rel_below hi hn h1
    have q2 := cells_below hi hn (cs := xs) fun c hc => h c (by simp [hc])
    exact ⟨by simp only [AV.unders, q1.1, q2.1, Bool.and_self], by simp only [AV.cuts, q1.2, q2.2]⟩
theorem elems_below (hi : Inv G σ w) (hn : σ.next ≤ n) : ∀ {xs : List AV}, (∀ x ∈ xs, ∀ c ∈ x.cells, c = .undef ∨ ∃ v, Rel G c v) → AV.unders n xs = true ∧ AV.cuts n xs = xs
  | [], _ => ⟨rfl, rfl⟩
  | .agg ds :: xs, h => by
    have q1 := cells_below hi hn (cs := ds) fun c hc => h (.agg ds) (by simp) c hc
    have q2 := elems_below hi hn (xs := xs) fun x hx => h x (by simp [hx])
    exact ⟨by simp only [AV.unders, AV.under, q1.1, q2.1, Bool.and_self], by simp only [AV.cuts, AV.cut, q1.2, q2.2]⟩
  | x :: xs, h => by
    have q2 := elems_below hi hn (xs := xs) fun x hx => h x (by simp [hx])
    have q1 : x.under n = true ∧ x.cut n = x := by
      by_cases ha : ∃ ds, x = .agg ds
      · obtain ⟨ds, rfl⟩ := ha
        have q1 := cells_below hi hn (cs := ds) fun c hc => h (.agg ds) (by simp) c hc
        exact ⟨by simp only [AV.under, q1.1], by simp only [AV.cut, q1.2]⟩
      · have hc : x.cells = [x] := by cases x <;> first | rfl | exact absurd ⟨_, rfl⟩ ha
        rcases h x (by simp) x (by rw [hc]; simp) with rfl | ⟨v, h1⟩
        · exact ⟨rfl, rfl⟩
        · exact rel_below hi hn h1
    exact ⟨by simp only [AV.unders, q1.1, q2.1, Bool.and_self], by simp only [AV.cuts, q1.2, q2.2]⟩
end

end

/-- What one ghost knows of values without names from n on the other one knows. -/
structure Keeps (n : Nat) (G G' : Gh) : Prop where
  imm : ∀ b full, G.blk b = some (.imm full) → ∃ full', G'.blk b = some (.imm full') ∧
    ∀ o cs, (∀ x ∈ cs, x.under n = true) → cs <+: full.drop o → cs.map (AV.cut n) <+: full'.drop o
  var : ∀ b m, m < n → G.blk b = some (.var m) → G'.blk b = some (.var m)
  obj : ∀ b m, m < n → G.blk b = some (.obj m) → G'.blk b = some (.obj m)
  tok : ∀ t k, t < n → G.tok t = some k → G'.tok t = some k

theorem flat_under {n : Nat} {xs : List AV} (h : ∀ x ∈ xs, x.under n = true) : ∀ c ∈ Jet.flat xs, c.under n = true := by
  intro c hc
  simp only [Jet.flat, List.mem_flatMap] at hc
  obtain ⟨x, hx, hc⟩ := hc
  exact under_cells (h x hx) c hc

mutual
theorem keep_rel {n : Nat} {G G' : Gh} (H : Keeps n G G') : ∀ {x : AV} {v : Value}, x.under n = true → Rel G x v → Rel G' (x.cut n) v
  | .bool _, _, _, r => by simpa [Rel, AV.cut] using r
  | .int _ _, _, _, r => by simpa [Rel, AV.cut] using r
  | .str _, _, _, r => by simpa [Rel, AV.cut] using r
  | .nilp, _, _, r => by simpa [Rel, AV.cut] using r
  | .nilm, _, _, r => by simpa [Rel, AV.cut] using r
  | .nilf, _, _, r => by simpa [Rel, AV.cut] using r
  | .nili, _, _, r => by simpa [Rel, AV.cut] using r
  | .raw _, _, _, r => by simpa [Rel, AV.cut] using r
  | .ept cs, v, h, r => by
    simp only [AV.under] at h
    simp only [AV.cut, Rel] at r ⊢
    obtain ⟨b, o, full, h1, h2, h3⟩ := r
    obtain ⟨full', h4, h5⟩ := H.imm b full h2
    exact ⟨b, o, full', h1, h4, by rw [cuts_map]; exact h5 o cs ((unders_all n cs).1 h) h3⟩
  | .sl p xs, v, h, r => by
    simp only [AV.under] at h
    have hcl := (unders_all n xs).1 h
    simp only [AV.cut, Rel] at r ⊢
    obtain ⟨a, cap, h1, h2, ⟨s, h3⟩, h4, h5⟩ := r
    have hlen : (AV.cuts n xs).length = xs.length := by rw [cuts_map, List.length_map]
    have hcs : ∀ s', (∀ x ∈ xs, x.cells.length = s') → ∀ x ∈ AV.cuts n xs, x.cells.length = s' := by
      intro s' h3 x hx
      rw [cuts_map, List.mem_map] at hx
      obtain ⟨y, hy, rfl⟩ := hx
      rw [cut_cells, List.length_map]
      exact h3 y hy
    refine ⟨a, cap, by rw [hlen]; exact h1, by rw [hlen]; exact h2, ⟨s, hcs s h3⟩, ?_, ?_⟩
    · cases a with
      | none =>
        obtain ⟨rfl, h7⟩ := h4
        exact ⟨rfl, h7⟩
      | some ad =>
        obtain ⟨h6, h7⟩ := h4
        refine ⟨h6, ?_⟩
        rcases h7 with rfl | ⟨full, h8, h9⟩
        · exact .inl rfl
        · obtain ⟨full', h10, h11⟩ := H.imm _ full h8
          refine .inr ⟨full', h10, ?_⟩
          rw [flat_cuts]
          exact h11 _ _ (flat_under hcl) h9
    · cases p with
      | no => trivial
      | full => simp only [Perm.cut, TokOk] at h5 ⊢; rw [hlen]; exact h5
      | tok t =>
        simp only [Perm.cut]
        split
        · rename_i hb
          obtain ⟨k, e, q1, q2, q3⟩ := h5
          exact ⟨k, H.tok t k (blt_iff.1 hb) e, hcs _ q1, by rw [hlen]; exact q2, by rw [hlen]; exact q3⟩
        · trivial
  | .fn f a b, v, h, r => by
    simp only [AV.under, Bool.and_eq_true] at h
    simp only [AV.cut, Rel] at r ⊢
    obtain ⟨xs', ys', h1, h2, h3⟩ := r
    exact ⟨xs', ys', h1, keep_rels H h.1 h2, keep_rels H h.2 h3⟩
  | .iface t x, v, h, r => by
    simp only [AV.under] at h
    simp only [AV.cut, Rel] at r ⊢
    obtain ⟨y, h1, h2⟩ := r
    exact ⟨y, h1, keep_rel H h h2⟩
  | .agg cs, v, h, r => by
    simp only [AV.under] at h
    simp only [AV.cut, Rel] at r ⊢
    obtain ⟨y, h1, h2, h3⟩ := r
    refine ⟨y, h1, keep_rels H h h2, ?_⟩
    intro x hx
    rw [cuts_map, List.mem_map] at hx
    obtain ⟨z, hz, rfl⟩ := hx
    rw [cut_one]; exact h3 z hz
  | .tup vs, v, h, r => by
    simp only [AV.under] at h
    simp only [AV.cut, Rel] at r ⊢
    obtain ⟨y, h1, h2⟩ := r
    exact ⟨y, h1, keep_rels H h h2⟩
  | .ptr m o, _, h, r => by
    simp only [AV.cut, Rel] at r ⊢
    obtain ⟨b, h1, h2⟩ := r
    exact ⟨b, h1, H.var b m (blt_iff.1 (by simpa only [AV.under] using h)) h2⟩
  | .ms _ m _ _ _, _, h, r => by
    simp only [AV.cut, Rel] at r ⊢
    obtain ⟨b, h1, h2⟩ := r
    exact ⟨b, h1, H.var b m (blt_iff.1 (by simpa only [AV.under] using h)) h2⟩
  | .map m, _, h, r => by
    simp only [AV.cut, Rel] at r ⊢
    obtain ⟨b, h1, h2⟩ := r
    exact ⟨b, h1, H.obj b m (blt_iff.1 (by simpa only [AV.under] using h)) h2⟩
  | .iter m, _, h, r => by
    simp only [AV.cut, Rel] at r ⊢
    obtain ⟨b, h1, h2⟩ := r
    exact ⟨b, h1, H.obj b m (blt_iff.1 (by simpa only [AV.under] using h)) h2⟩
theorem keep_rels {n : Nat} {G G' : Gh} (H : Keeps n G G') : ∀ {xs : List AV} {vs : List Value}, AV.unders n xs = true → RelL G xs vs → RelL G' (AV.cuts n xs) vs
  | [], _, _, r => by simpa [RelL, AV.cuts] using r
  | x :: xs, _, h, r => by
    simp only [RelL] at r
    simp only [AV.unders, Bool.and_eq_true] at h
    simp only [AV.cuts, RelL]
    obtain ⟨y, ys, h1, h2, h3⟩ := r
    exact ⟨y, ys, h1, keep_rel H h.1 h2, keep_rels H h.2 h3⟩
end

theorem keep_ent {n : Nat} {G G' : Gh} (H : Keeps n G G') : ∀ {es : List (AV × AV)} {l : List MapEntry}, underE n es = true → EntRel G es l → EntRel G' (cutE n es) l
  | [], _, _, r => r
  | (k, v) :: es, _, h, ⟨e, r, h0, h1, h2, h3⟩ => by
    simp only [underE, Bool.and_eq_true] at h
    exact ⟨e, r, h0, keep_rel H h.1.1 h1, keep_rel H h.1.2 h2, keep_ent H h.2 h3⟩

/-- A cell, as it stands, where its value bears a name that is forgotten. -/
def nonv (n : Nat) (x : AV) (v : Value) : AV := match x.under n with
  | true => x.cut n
  | false => .raw v

theorem nonv_rel {n : Nat} {G G' : Gh} (H : Keeps n G G') {x : AV} {v : Value} (h1 : x.one = true) (r : Rel G x v) : Rel G' (nonv n x v) v := by
  unfold nonv
  split
  · rename_i h; exact keep_rel H h r
  · rename_i h
    simp only [Rel, true_and]
    cases x with
    | agg cs => simp [AV.one] at h1
    | tup vs => simp [AV.one] at h1
    | ptr m o => simp only [Rel] at r; obtain ⟨b, rfl, _⟩ := r; rfl
    | ms s m o len cap => simp only [Rel] at r; obtain ⟨b, rfl, _⟩ := r; rfl
    | map m => simp only [Rel] at r; obtain ⟨b, rfl, _⟩ := r; rfl
    | iter m => simp only [Rel] at r; obtain ⟨b, rfl, _⟩ := r; rfl
    | ept cs => simp only [Rel] at r; obtain ⟨b, o, full, rfl, _⟩ := r; rfl
    | sl p xs => simp only [Rel] at r; obtain ⟨b, o, rfl, _⟩ := r; rfl
    | fn f a b => simp only [Rel] at r; obtain ⟨b, o, rfl, _⟩ := r; rfl
    | iface t v => simp only [Rel] at r; obtain ⟨b, rfl, _⟩ := r; rfl
    | _ => all_goals (simp only [AV.under] at h; cases h)

theorem nonv_one {n : Nat} {x : AV} {v : Value} (h : x.one = true) : (nonv n x v).one = true := by
  unfold nonv
  split
  · rw [cut_one]; exact h
  · rfl

def nonvs (n : Nat) : List AV → List Value → List AV
  | x :: xs, v :: vs => nonv n x v :: nonvs n xs vs
  | _, _ => []

theorem nonvs_length {n : Nat} : ∀ {xs : List AV} {l1 l2 : List Value}, l1.length = xs.length → nonvs n xs (l1 ++ l2) = nonvs n xs l1 ∧ (nonvs n xs l1).length = xs.length
  | [], [], l2, _ => by cases l2 <;> simp [nonvs]
  | x :: xs, v :: vs, l2, h => by
    obtain ⟨h1, h2⟩ := nonvs_length (n := n) (xs := xs) (l1 := vs) (l2 := l2) (by simpa using h)
    simp [nonvs, h1, h2]
  | [], _ :: _, _, h => by simp at h
  | _ :: _, [], _, h => by simp at h

theorem nonvs_get {n : Nat} : ∀ {xs : List AV} {vs : List Value} {i : Nat} {x : AV} {v : Value}, xs[i]? = some x → vs[i]? = some v → (nonvs n xs vs)[i]? = some (nonv n x v)
  | x :: xs, v :: vs, 0, _, _, h1, h2 => by simp at h1 h2; subst h1; subst h2; rfl
  | x :: xs, v :: vs, i + 1, _, _, h1, h2 => by
    simp only [List.getElem?_cons_succ] at h1 h2
    simp only [nonvs, List.getElem?_cons_succ]
    exact nonvs_get h1 h2
  | [], _, _, _, _, h1, _ => by simp at h1
  | _ :: _, [], _, _, _, _, h2 => by simp at h2

theorem nonvs_rel {n : Nat} {G G' : Gh} (H : Keeps n G G') : ∀ {xs : List AV} {vs : List Value}, RelH G xs vs → RelH G' (nonvs n xs vs) vs
  | [], vs, r => by rw [r.nil_left]; simp [nonvs, RelH]
  | x :: xs, _, ⟨y, ys, e, h2, h3⟩ => by
    subst e
    refine ⟨y, ys, rfl, ?_, nonvs_rel H h3⟩
    rcases h2 with rfl | h2
    · exact .inl rfl
    · exact .inr ⟨nonv_rel H h2.2 h2.1, nonv_one h2.2⟩

theorem nonvs_append {n : Nat} : ∀ {xs ys : List AV} {vs us : List Value}, vs.length = xs.length → nonvs n (xs ++ ys) (vs ++ us) = nonvs n xs vs ++ nonvs n ys us
  | [], ys, [], us, _ => rfl
  | x :: xs, ys, v :: vs, us, h => by
    simp only [List.cons_append, nonvs, nonvs_append (n := n) (xs := xs) (ys := ys) (vs := vs) (us := us) (by simpa using h)]
  | [], _, _ :: _, _, h => by simp at h
  | _ :: _, _, [], _, h => by simp at h

/-- What bears no forgotten name stands as it did. -/
theorem nonvs_id {n : Nat} : ∀ {xs : List AV} {vs : List Value}, vs.length = xs.length → AV.unders n xs = true ∧ AV.cuts n xs = xs → nonvs n xs vs = xs
  | [], vs, _, _ => by simp [nonvs]
  | x :: xs, v :: vs, h, ⟨h1, h2⟩ => by
    simp only [AV.unders, Bool.and_eq_true] at h1
    simp only [AV.cuts, List.cons.injEq] at h2
    simp only [nonvs, nonv, h1.1, h2.1, nonvs_id (xs := xs) (vs := vs) (by simpa using h) ⟨h1.2, h2.2⟩]
  | _ :: _, [], h, _ => by simp at h

theorem nonvs_prefix {n : Nat} {full : List AV} {vs : List Value} (hl : vs.length = full.length) {o : Nat} {cs : List AV} (hc : ∀ x ∈ cs, x.under n = true) (h : cs <+: full.drop o) :
    cs.map (AV.cut n) <+: (nonvs n full vs).drop o := by
  obtain ⟨h1, h2⟩ := nonvs_length (n := n) (xs := full) (l1 := vs) (l2 := []) hl
  rw [List.prefix_iff_eq_take]
  apply List.ext_getElem?
  intro i
  have hlen : cs.length ≤ full.length - o := by have := h.length_le; simpa using this
  by_cases hi : i < cs.length
  · rw [List.getElem?_map, List.getElem?_take, if_pos (by simpa using hi), List.getElem?_drop]
    obtain ⟨r, hr⟩ := h
    have hx : cs[i]? = some cs[i] := List.getElem?_eq_getElem hi
    have hf : full[o + i]? = some cs[i] := by
      rw [← List.getElem?_drop, ← hr, List.getElem?_append_left hi]; exact hx
    have hlt : o + i < vs.length := by rw [hl]; exact (List.getElem?_eq_some_iff.1 hf).1
    rw [nonvs_get hf (List.getElem?_eq_getElem hlt), hx]
    simp only [Option.map_some, nonv, hc _ (List.getElem_mem hi)]
  · rw [List.getElem?_eq_none (by simpa using hi), List.getElem?_eq_none]
    simp only [List.length_take, List.length_map]; omega

/-- The ghost without the names from n on. -/
def Gn (n nx : Nat) (G' : Gh) (w' : World) : Gh where
  blk b := match G'.blk b with
    | some (.imm cs) => match w'.heap[b]? with
      | some (.cells c _ _) => some (.imm (nonvs n cs c.toList))
      | _ => none
    | some (.var m) => match Nat.blt m n with
      | true => some (.var m)
      | false => none
    | some (.obj m) => match Nat.blt m n with
      | true => some (.obj m)
      | false => none
    | none => none
  tok t := match Nat.blt t n with
    | true => G'.tok t
    | false => none
  nx := nx

section
variable {n nx : Nat} {G' : Gh} {σ' : St} {w' : World}

theorem Gn_imm (hi : Inv G' σ' w') {b : Nat} {cs : List AV} (e : G'.blk b = some (.imm cs)) : ∃ c ty fr l1 l2, w'.heap[b]? = some (.cells c ty fr) ∧ c.toList = l1 ++ l2 ∧ RelH G' cs l1 ∧
    (Gn n nx G' w').blk b = some (.imm (nonvs n cs l1)) := by
  obtain ⟨c, ty, fr, l1, l2, q1, q2, q3⟩ := hi.blk _ _ e
  refine ⟨c, ty, fr, l1, l2, q1, q2, q3, ?_⟩
  simp only [Gn, e, q1, q2, (nonvs_length (n := n) q3.length).1]

theorem Gn_var {b m : Nat} (hm : m < n) (e : G'.blk b = some (.var m)) : (Gn n nx G' w').blk b = some (.var m) := by
  simp only [Gn, e, blt_iff.2 hm]

theorem Gn_obj {b m : Nat} (hm : m < n) (e : G'.blk b = some (.obj m)) : (Gn n nx G' w').blk b = some (.obj m) := by
  simp only [Gn, e, blt_iff.2 hm]

theorem Gn_tok {t : Nat} {k : TK} (ht : t < n) (e : G'.tok t = some k) : (Gn n nx G' w').tok t = some k := by
  simp only [Gn, e, blt_iff.2 ht]

theorem Gn_blk {b : Nat} {k : BK} (e : (Gn n nx G' w').blk b = some k) : (∃ cs, G'.blk b = some (.imm cs) ∧ ∃ l, k = .imm l) ∨ (∃ m, m < n ∧ k = .var m ∧ G'.blk b = some k) ∨ (∃ m, m < n ∧ k = .obj m ∧ G'.blk b = some k) := by
  simp only [Gn] at e
  split at e
  · rename_i cs h
    split at e
    · cases e; exact .inl ⟨cs, h, _, rfl⟩
    · cases e
  · rename_i m h
    split at e
    · rename_i hb; cases e; exact .inr (.inl ⟨m, blt_iff.1 hb, rfl, h⟩)
    · cases e
  · rename_i m h
    split at e
    · rename_i hb; cases e; exact .inr (.inr ⟨m, blt_iff.1 hb, rfl, h⟩)
    · cases e
  · cases e

theorem Gn_tok_inv {t : Nat} {k : TK} (e : (Gn n nx G' w').tok t = some k) : t < n ∧ G'.tok t = some k := by
  simp only [Gn] at e
  split at e
  · rename_i hb; exact ⟨blt_iff.1 hb, e⟩
  · cases e

theorem Gn_none {b : Nat} (e : G'.blk b = none) : (Gn n nx G' w').blk b = none := by simp only [Gn, e]

theorem Gn_keeps (hi : Inv G' σ' w') : Keeps n G' (Gn n nx G' w') where
  imm b full e := by
    obtain ⟨c, ty, fr, l1, l2, q1, q2, q3, q5⟩ := Gn_imm (n := n) (nx := nx) hi e
    exact ⟨_, q5, fun o cs hc hp => nonvs_prefix q3.length hc hp⟩
  var b m hm e := Gn_var hm e
  obj b m hm e := Gn_obj hm e
  tok t k ht e := Gn_tok ht e

end

variable {P : Program} {gl : Gl}

/-- What is kept of a store: an old name as it was; or what bears no forgotten name. -/
def Kept (n : Nat) (σ σ' σ'' : St) : Prop :=
  σ''.next = n ∧ ∀ m, m < n → (m < σ.next ∧ σ'.get m = σ.get m ∧ σ''.get m = σ.get m) ∨ (∀ o, σ'.get m = some o → o.under n = true ∧ σ''.get m = some (o.cut n))

theorem forget_ok {f : FuncId} {args : List AV} {σ σ' σ'' : St} {out : Out} {n : Nat} (h : CallOk P gl f args σ out σ') (hn : σ.next ≤ n) (hout : out.under n = true) (hk : Kept n σ σ' σ'') :
    CallOk P gl f args σ (out.cut n) σ'' := by
  intro G0 w cargs hi0 hg0 ha0 o a next Q hret hpan
  -- the ghost, with its bound raised
  let G : Gh := { G0 with nx := σ.next }
  have hGG : G0.le G := ⟨fun _ _ h => h, fun _ _ h => h, fun _ cs h => ⟨[], by simpa using h⟩, fun _ k h => ⟨k, h, rfl, .inl rfl⟩⟩
  have hGG' : G.le G0 := ⟨fun _ _ h => h, fun _ _ h => h, fun _ cs h => ⟨[], by simpa using h⟩, fun _ k h => ⟨k, h, rfl, .inl rfl⟩⟩
  have hi : Inv G σ w := by
    refine ⟨fun b k e => (hi0.blk b k e).mono hGG rfl (fun _ _ => rfl), hi0.inj, ?_, hi0.tinj, hi0.ltb, hi0.ltt, Nat.le_refl _⟩
    intro t k e
    exact hi0.tok t k e
  have hg : GlOk gl G := fun g cs h => hg0 g cs h
  have ha : RelL G args cargs.toList := RelL.mono hGG ha0
  have main : ∀ cv w' G', Inv G' σ' w' → Ex G G' w w' → Inv (Gn n G0.nx G' w') σ'' w' ∧ Ex G0 (Gn n G0.nx G' w') w w' ∧ (∀ v, v.under n = true → Rel G' v cv → Rel (Gn n G0.nx G' w') (v.cut n) cv) := by
    intro cv w' G' hi' hex
    have H : Keeps n G' (Gn n G0.nx G' w') := Gn_keeps hi'
    -- old cells are as they were
    have old : ∀ b cs more, G.blk b = some (.imm cs) → ∀ l1 l2 : List Value, l1.length = cs.length → nonvs n (cs ++ more) (l1 ++ l2) = cs ++ nonvs n more l2 := by
      intro b cs more e l1 l2 hl
      rw [nonvs_append hl, nonvs_id hl (cells_below hi hn (imm_mem hi e))]
    have le : G0.le (Gn n G0.nx G' w') := by
      constructor
      · intro b m e; exact Gn_var (Nat.lt_of_lt_of_le (hi.ltb b _ m e rfl) hn) (hex.le.var b m e)
      · intro b m e; exact Gn_obj (Nat.lt_of_lt_of_le (hi.ltb b _ m e rfl) hn) (hex.le.obj b m e)
      · intro b cs e
        obtain ⟨more, e'⟩ := hex.le.imm b cs e
        obtain ⟨c, ty, fr, l1, l2, q1, q2, q3, q5⟩ := Gn_imm (n := n) (nx := G0.nx) hi' e'
        obtain ⟨k1, k2, rfl, r1, r2⟩ := q3.split
        refine ⟨nonvs n more k2, ?_⟩
        rw [q5, old b cs more e k1 k2 r1.length]
      · intro t k e
        obtain ⟨k', e', r⟩ := hex.le.tok t k e
        exact ⟨k', Gn_tok (Nat.lt_of_lt_of_le (hi.ltt t k e) hn) e', r⟩
    -- what is kept of an object
    have obj : ∀ b k m o, G'.blk b = some k → k.name = some m → m < n → σ'.get m = some o → (m < σ.next ∧ G.blk b = some k ∧ σ'.get m = σ.get m ∧ σ''.get m = σ.get m) ∨ (o.under n = true ∧ σ''.get m = some (o.cut n)) := by
      intro b k m o e hkn hm ho
      rcases hk.2 m hm with ⟨h1, h2, h3⟩ | h1
      · refine .inl ⟨h1, ?_, h2, h3⟩
        rcases hex.names b k m e hkn with h4 | h4
        · exact h4
        · exact absurd h1 (Nat.not_lt.2 h4)
      · exact .inr (h1 o ho)
    refine ⟨?_, ?_, ?_⟩
    · constructor
      · intro b k e
        rcases Gn_blk e with ⟨cs, h1, l, rfl⟩ | ⟨m, hm, rfl, h1⟩ | ⟨m, hm, rfl, h1⟩
        · obtain ⟨c, ty, fr, l1, l2, q1, q2, q3, q5⟩ := Gn_imm (n := n) (nx := G0.nx) hi' h1
          rw [q5] at e
          cases e
          exact ⟨c, ty, fr, l1, l2, q1, q2, nonvs_rel H q3⟩
        · obtain ⟨cs, c, ty, q1, q2, q3, q4⟩ := hi'.blk _ _ h1
          rcases obj b _ m _ h1 rfl hm q1 with ⟨r1, r2, r3, r4⟩ | ⟨r1, r2⟩
          · have hb := hi.blk _ _ r2
            obtain ⟨cs', c', ty', s1, s2, s3, s4⟩ := hb
            rw [r3, s1] at q1
            cases q1
            have hc := rels_below hi hn s3
            refine ⟨cs, c, ty, by rw [r4]; exact s1, q2, ?_, q4⟩
            have := keep_rels H hc.1 q3
            rwa [hc.2] at this
          · refine ⟨AV.cuts n cs, c, ty, r2, q2, keep_rels H r1 q3, ?_⟩
            intro x hx
            rw [cuts_map, List.mem_map] at hx
            obtain ⟨z, hz, rfl⟩ := hx
            rw [cut_one]; exact q4 z hz
        · rcases hi'.blk _ _ h1 with ⟨es, c, cl, q1, q2, q3⟩ | ⟨s, pos, bs, q1, q2, q3⟩
          · rcases obj b _ m _ h1 rfl hm q1 with ⟨r1, r2, r3, r4⟩ | ⟨r1, r2⟩
            · rcases hi.blk _ _ r2 with ⟨es', c', cl', s1, s2, s3⟩ | ⟨s', pos', bs', s1, s2, s3⟩
              · rw [r3, s1] at q1
                cases q1
                refine .inl ⟨es, c, cl, by rw [r4]; exact s1, q2, ?_⟩
                have : underE n es = true ∧ cutE n es = es := by
                  clear q3 s1 r4 r3
                  generalize c'.toList = l at s3
                  clear s2
                  induction es generalizing l with
                  | nil => exact ⟨rfl, rfl⟩
                  | cons e es ih =>
                    obtain ⟨e', r, h0, h1, h2, h3⟩ := s3
                    have a1 := rel_below hi hn h1
                    have a2 := rel_below hi hn h2
                    have a3 := ih _ h3
                    exact ⟨by simp only [underE, a1.1, a2.1, a3.1, Bool.and_self], by simp only [cutE, a1.2, a2.2, a3.2]⟩
                have h4 := keep_ent H this.1 q3
                rwa [this.2] at h4
              · rw [r3, s1] at q1; cases q1
            · exact .inl ⟨cutE n es, c, cl, r2, q2, keep_ent H r1 q3⟩
          · rcases obj b _ m _ h1 rfl hm q1 with ⟨r1, r2, r3, r4⟩ | ⟨r1, r2⟩
            · exact .inr ⟨s, pos, bs, by rw [r4, ← r3]; exact q1, q2, q3⟩
            · exact .inr ⟨s, pos, bs, r2, q2, q3⟩
      · intro b b' k k' m e e' hk1 hk2
        have back : ∀ b k, (Gn n G0.nx G' w').blk b = some k → k.name = some m → G'.blk b = some k := by
          intro b k e hkn
          rcases Gn_blk e with ⟨cs, h1, l, rfl⟩ | ⟨m, hm, rfl, h1⟩ | ⟨m, hm, rfl, h1⟩
          · cases hkn
          · exact h1
          · exact h1
        exact hi'.inj b b' k k' m (back b k e hk1) (back b' k' e' hk2) hk1 hk2
      · intro t k e
        obtain ⟨ht, e'⟩ := Gn_tok_inv e
        obtain ⟨h1, cs, c, ty, fr, h2, h3, h4, h5, h6, h7⟩ := hi'.tok t k e'
        obtain ⟨c2, ty2, fr2, l1, l2, q1, q2, q3, q5⟩ := Gn_imm (n := n) (nx := G0.nx) hi' h2
        rw [h3] at q1
        cases q1
        have hlen := (nonvs_length (n := n) (xs := cs) (l1 := l1) (l2 := []) q3.length).2
        refine ⟨?_, _, c, ty, fr, q5, h3, by rw [hlen]; exact h4, h5, h6, by rw [hlen]; exact h7⟩
        rcases hk.2 t ht with ⟨r1, r2, r3⟩ | r1
        · rw [r3, ← r2]; exact h1
        · exact (r1 _ h1).2
      · intro t t' k k' e e' hb
        exact hi'.tinj t t' k k' (Gn_tok_inv e).2 (Gn_tok_inv e').2 hb
      · intro b k m e hkn
        rw [hk.1]
        rcases Gn_blk e with ⟨cs, h1, l, rfl⟩ | ⟨m', hm, rfl, h1⟩ | ⟨m', hm, rfl, h1⟩
        · cases hkn
        · cases hkn; exact hm
        · cases hkn; exact hm
      · intro t k e; rw [hk.1]; exact (Gn_tok_inv e).1
      · rw [hk.1]; exact Nat.le_trans hi0.nx hn
    · refine ⟨le, hex.os, hex.tape, hex.output, hex.size, ?_, hex.imm, ?_, rfl, ?_, ?_⟩
      · intro b hb e
        have := hex.frame b hb e
        exact ⟨this.1, Gn_none this.2⟩
      · intro b k m e hkn
        rcases Gn_blk e with ⟨cs, h1, l, rfl⟩ | ⟨m', hm, rfl, h1⟩ | ⟨m', hm, rfl, h1⟩
        · cases hkn
        · rcases hex.names b _ m h1 hkn with h4 | h4
          · exact .inl h4
          · exact .inr (Nat.le_trans hi0.nx h4)
        · rcases hex.names b _ m h1 hkn with h4 | h4
          · exact .inl h4
          · exact .inr (Nat.le_trans hi0.nx h4)
      · intro t k e
        exact hex.toks t k (Gn_tok_inv e).2
      · intro b cs e ht
        have e' := hex.grow b cs e ht
        obtain ⟨c, ty, fr, l1, l2, q1, q2, q3, q5⟩ := Gn_imm (n := n) (nx := G0.nx) hi' e'
        rw [q5, nonvs_id q3.length (cells_below hi hn (imm_mem hi e))]
    · intro v hv hr
      exact keep_rel H hv hr
  refine h G w cargs hi hg ha o a next Q ?_ ?_
  · intro v cv w' G' e hr hi' hex
    subst e
    obtain ⟨m1, m2, m3⟩ := main cv w' G' hi' hex
    exact hret _ cv w' _ rfl (m3 v hout hr) m1 m2
  · intro v cv w' G' e hr hi' hex
    subst e
    obtain ⟨m1, m2, m3⟩ := main cv w' G' hi' hex
    exact hpan _ cv w' _ rfl (m3 v hout hr) m1 m2

/-- Only new names were turned. -/
def Grows (σ σ' : St) : Prop := σ.next ≤ σ'.next ∧ ∀ m, m < σ.next → σ'.get m = σ.get m

theorem Grows.refl (σ : St) : Grows σ σ := ⟨Nat.le_refl _, fun _ _ => rfl⟩
theorem Grows.trans {σ σ' σ'' : St} (h : Grows σ σ') (h' : Grows σ' σ'') : Grows σ σ'' :=
  ⟨Nat.le_trans h.1 h'.1, fun m hm => (h'.2 m (Nat.lt_of_lt_of_le hm h.1)).trans (h.2 m hm)⟩
theorem Grows.push (σ : St) (o : AObj) : Grows σ (σ.push o) := ⟨by simp, fun m hm => by rw [St.get_push, if_neg (Nat.ne_of_lt hm)]⟩

/-- A call that turns new names alone, and returns none of them. -/
theorem pure_ok {f : FuncId} {args : List AV} {σ σ' : St} {out : Out} (h : CallOk P gl f args σ out σ') (hg : Grows σ σ') (hout : out.under σ.next = true) :
    CallOk P gl f args σ (out.cut σ.next) σ :=
  forget_ok h (Nat.le_refl _) hout ⟨rfl, fun m hm => .inl ⟨hm, hg.2 m hm, rfl⟩⟩

end Jet

/-
From a world's arguments to the interpreter's; from what it shows of a call to what a law's row asks.
-/
namespace Jet
open Go

/-- A cell of memory that nobody of ours has written. -/
def av0 : Value → AV
  | .bool b => .bool b
  | .int k n => .int k n
  | .string s => .str s.data.toList
  | .agg _ => .undef
  | .tuple _ => .undef
  | v => .raw v

theorem av0_rel (G : Gh) (v : Value) : av0 v = .undef ∨ (Rel G (av0 v) v ∧ (av0 v).one = true) := by
  cases v <;> first
    | exact .inl rfl
    | exact .inr ⟨⟨rfl, rfl⟩, rfl⟩
    | exact .inr ⟨by simp [av0, Rel], rfl⟩

theorem av0_all (G : Gh) : ∀ l : List Value, RelH G (l.map av0) l
  | [] => rfl
  | v :: l => ⟨v, l, rfl, av0_rel G v, av0_all G l⟩

/-- The ghost of a world in which nothing is ours. -/
def Gw (W : World) : Gh where
  blk b := match W.heap[b]? with
    | some (.cells c _ _) => some (.imm (c.toList.map av0))
    | _ => none
  tok _ := none
  nx := 0

theorem Gw_blk {W : World} {b : Nat} {k : BK} (h : (Gw W).blk b = some k) : ∃ c t fr, W.heap[b]? = some (.cells c t fr) ∧ k = .imm (c.toList.map av0) := by
  simp only [Gw] at h
  split at h
  · rename_i c t fr e; cases h; exact ⟨c, t, fr, e, rfl⟩
  · cases h

theorem Gw_cells {W : World} {b : Nat} {c : Array Value} {t : TypeId} {fr : Nat × Nat} (h : W.heap[b]? = some (.cells c t fr)) : (Gw W).blk b = some (.imm (c.toList.map av0)) := by
  simp only [Gw, h]

theorem Gw_inv (W : World) : Inv (Gw W) ⟨.nil, 0⟩ W where
  blk b k e := by
    obtain ⟨c, t, fr, h, rfl⟩ := Gw_blk e
    exact ⟨c, t, fr, c.toList, [], h, by simp, av0_all _ _⟩
  inj b b' k k' m e _ hn _ := by obtain ⟨c, t, fr, h, rfl⟩ := Gw_blk e; cases hn
  tok t k e := by cases e
  tinj t t' k k' e := by cases e
  ltb b k m e hn := by obtain ⟨c, t, fr, h, rfl⟩ := Gw_blk e; cases hn
  ltt t k e := by cases e
  nx := Nat.le_refl _

/-- The global tables stand in a world. -/
def GlIn (gl : Gl) (W : World) : Prop := ∀ g cs, gl g = some cs → ∃ c t fr, W.heap[g]? = some (.cells c t fr) ∧ c.toList.map av0 = cs

theorem Gw_ok {gl : Gl} {W : World} (h : GlIn gl W) : GlOk gl (Gw W) := by
  intro g cs e
  obtain ⟨c, t, fr, h1, rfl⟩ := h g cs e
  exact ⟨Gw_cells h1, fun t k e => by cases e⟩

theorem heap_kept {W W' : World} {G' : Gh} (hex : Ex (Gw W) G' W W') (i : Nat) (hi : i < W.heap.size) : W'.heap[i]? = W.heap[i]? := by
  cases hb : (Gw W).blk i with
  | none => exact (hex.frame i hi hb).1
  | some k =>
    obtain ⟨c, t, fr, h, rfl⟩ := Gw_blk hb
    obtain ⟨c', h1, h2, h3⟩ := hex.imm i _ hb c t fr h
    rw [h, h1]
    congr 2
    apply Array.ext_getElem?
    intro j
    by_cases hj : j < c.size
    · exact h3 j (by simpa using hj)
    · rw [Array.getElem?_eq_none (by omega), Array.getElem?_eq_none (by omega)]

/-! What the row asks behind the call. -/

section
variable {H : Type} {enc : TypeId × Value → H} {P : Program} {W W' : World}

theorem sameAt_of_heap (hh : ∀ i, i < W.heap.size → W'.heap[i]? = W.heap[i]?) (p : MemPlace) (hp : p.block < W.heap.size) : W.sameAt W' p := by
  cases p with
  | cell b off => simp only [World.sameAt, World.cell?, hh b hp]
  | map b => simp only [World.sameAt, hh b hp]

theorem trodAll_stays {T : TypeId → Prop} {sp' : Nat → Bool} (K : Kids P T) (hsz : ∀ {t e : TypeId}, T t → P.underlying t = some (.slice e) → 0 < P.cellsOf e) :
    ∀ {ts : List TypeId} {vs : List Value} {ds : List (DataW H)} {ps : List MemPlace}, (∀ t ∈ ts, T t) → DataW.TrodAll enc P W 0 (fun _ => true) true ts vs ds ps →
      (∀ p ∈ ps, W.sameAt W' p) → (∀ p ∈ ps, sp' p.block = true) → DataW.TrodAll enc P W' 0 sp' true ts vs ds ps
  | [], [], [], ps, _, h, _, _ => h
  | t :: ts, v :: vs, d :: ds, ps, hT, h, h1, h2 => by
    obtain ⟨p, q, ⟨n, hn⟩, hq, rfl⟩ := h
    refine ⟨p, q, ⟨n, DataW.trod_stays K hsz (fun e => by cases e) (hT t (by simp)) hn (fun x hx => h1 x (by simp [hx])) (fun x hx => h2 x (by simp [hx]))⟩, ?_, rfl⟩
    exact trodAll_stays K hsz (fun t ht => hT t (by simp [ht])) hq (fun x hx => h1 x (by simp [hx])) (fun x hx => h2 x (by simp [hx]))
  | [], _ :: _, _, _, _, h, _, _ => h.elim
  | _ :: _, [], _, _, _, h, _, _ => h.elim
  | [], [], _ :: _, _, _, h, _, _ => h.elim
  | _ :: _, _ :: _, [], _, _, h, _, _ => h.elim

theorem post_kept {F : Func} {s : ChangeSpec} {apart fresh handsOn : Bool} {args : Array Value} {ds gs : List (DataW H)} {before : List MemPlace} {T : TypeId → Prop} {tb : TypeId}
    (K : Kids P T) (hsz : ∀ {t e : TypeId}, T t → P.underlying t = some (.slice e) → 0 < P.cellsOf e) (hT : ∀ t ∈ F.params.toList, T t)
    (hW : DataW.Whole enc P F.params.toList s.vars apart W args.toList ds gs before) (hvars : s.vars = []) (hfn : s.fn H (ds ++ gs) = { results := [.lit (.bool true)], args := ds })
    (hres : F.resultTypes = #[tb]) (htb : P.underlying tb = some .bool) (hh : ∀ i, i < W.heap.size → W'.heap[i]? = W.heap[i]?) (hos : W'.os = W.os) (hout : W'.output = W.output) :
    s.post enc P F apart fresh handsOn false W args (.bool true) W' := by
  have hlt := hW.lt
  have hW' := hW
  obtain ⟨p, q, hA, hV, rfl, _, _⟩ := hW
  rw [hvars] at hV
  obtain ⟨rfl, rfl⟩ : gs = [] ∧ q = [] := by
    cases gs with
    | nil => exact ⟨rfl, hV⟩
    | cons _ _ => exact hV.elim
  refine ⟨ds, [], p ++ [], [], p, [], hW', ?_, ?_, ?_, ?_, fun h => by cases h⟩
  · rw [hfn, hres]
    exact ⟨[], [], ⟨1, by simp [DataW.trod, htb, Value.cells]⟩, rfl, rfl⟩
  · rw [hfn]
    refine trodAll_stays K hsz hT hA (fun x hx => sameAt_of_heap hh x (hlt x (by simp [hx]))) (fun x hx => ?_)
    simpa using hlt x (by simp [hx])
  · rw [hfn, hvars]; rfl
  · refine ⟨hos, hout, fun i hi => ?_⟩
    have := (World.keptBut_refl W (fun x => x ∈ p ++ [] ∧ (x ∈ ([] : List MemPlace) ∨ x ∈ p ∨ x ∈ ([] : List MemPlace)))).2.2 i hi
    rw [hh i hi]
    exact this

/-- From what the interpreter shows of the call. -/
theorem law_calls {gl : Gl} {F : Func} {c : Code} {f : FuncId} {s : ChangeSpec} {apart fresh handsOn : Bool} {args : Array Value} {ds gs : List (DataW H)} {before : List MemPlace} {T : TypeId → Prop} {tb : TypeId}
    (hF : P.funcs[f]? = some F) (hname : (F.name == "runtime.NumGoroutine") = false) (hb : F.body = some c)
    (K : Kids P T) (hsz : ∀ {t e : TypeId}, T t → P.underlying t = some (.slice e) → 0 < P.cellsOf e) (hT : ∀ t ∈ F.params.toList, T t)
    (hW : DataW.Whole enc P F.params.toList s.vars apart W args.toList ds gs before) (hvars : s.vars = []) (hfn : s.fn H (ds ++ gs) = { results := [.lit (.bool true)], args := ds })
    (hres : F.resultTypes = #[tb]) (htb : P.underlying tb = some .bool) (hgl : GlIn gl W) {avs : List AV} (ha : RelL (Gw W) avs args.toList) {σ' : St}
    (h : CallOk P gl f avs ⟨.nil, 0⟩ (.ret (.bool true)) σ') :
    Calls P f args W fun e W' => ∃ v, e = .returned v ∧ s.post enc P F apart fresh handsOn false W args v W' := by
  refine (calls_top hF hname hb h (Gw_inv W) (Gw_ok hgl) ha).mono fun e W' ⟨G', h1, h2, h3⟩ => ?_
  cases e with
  | returned cv =>
    simp only [OutRel, Rel] at h1
    subst h1
    exact ⟨_, rfl, post_kept K hsz hT hW hvars hfn hres htb (heap_kept h3) h3.os h3.output⟩
  | panicked ch => exact h1.elim
  | outgrown => exact h1.elim

end

/-! Arguments. -/

section
variable {H : Type} {enc : TypeId × Value → H} {P : Program} {W : World}

/-- A slice of bytes: what it holds. -/
theorem bytes_arg {t e : TypeId} {fuel : Nat} {v : Value} {x : DataW H × List MemPlace} (ht : P.underlying t = some (.slice e)) (he : P.underlying e = some (.int .u8)) (hc : P.cellsOf e = 1)
    (hval : Cell.okWide P W .any 0 t v) (h : DataW.trod enc P W 0 (fun _ => true) true fuel t [v] = some x) :
    ∃ ns : List Int, ((∀ n ∈ ns, 0 ≤ n ∧ n ≤ 255) ∧ ns.length ≤ 9223372036854775807) ∧ Rel (Gw W) (.sl .no (ns.map (AV.int .u8))) v := by
  rcases Deep.open_slice1 ht hc h with ⟨h0, _⟩ | ⟨a, len, cap, m, n, V, D, Pl, h0, _, hl, hm, hmm, _, hx⟩
  · simp only [List.cons.injEq, and_true] at h0
    subst h0
    exact ⟨[], ⟨by simp, by simp⟩, none, 0, rfl, Nat.le_refl _, ⟨1, by simp⟩, ⟨rfl, rfl⟩, trivial⟩
  · simp only [List.cons.injEq, and_true] at h0
    subst h0
    simp only [if_true] at hmm
    subst hmm
    have hcap : len ≤ 9223372036854775807 := by
      simp only [Cell.okWide, ht, Cell.ok] at hval
      have h1 := hval.1
      have h2 := hval.2.1
      have h3 : IntKind.i64.max = 9223372036854775807 := rfl
      rw [h3] at h2
      omega
    have hsp : a.spot = none := by
      simp only [Cell.okWide, ht, Cell.ok] at hval
      exact hval.2.2.2.1
    obtain ⟨b, o, sp⟩ := a
    simp only at hsp
    subst hsp
    -- the numbers
    have num : ∀ i, i < len → ∃ z : Int, V i = .int .u8 z ∧ 0 ≤ z ∧ z ≤ 255 := by
      intro i hi
      obtain ⟨_, h2⟩ := hx i (by omega)
      obtain ⟨z, hz, _, hw⟩ := DataW.trod_int he h2
      simp only [List.cons.injEq, and_true] at hz
      exact ⟨z, hz, bounds_u8 hw⟩
    let ns : List Int := (List.range len).map fun i => match V i with
      | .int _ z => z
      | _ => 0
    have hget : ∀ i, i < len → ns[i]? = some (match V i with | .int _ z => z | _ => 0) := by
      intro i hi
      simp only [ns, List.getElem?_map, List.getElem?_range hi, Option.map_some]
    have hlen : ns.length = len := by simp [ns]
    refine ⟨ns, ⟨?_, by rw [hlen]; exact hcap⟩, ?_⟩
    · intro n hn
      simp only [ns, List.mem_map, List.mem_range] at hn
      obtain ⟨i, hi, rfl⟩ := hn
      obtain ⟨z, hz, h1, h2⟩ := num i hi
      simp only [hz]; exact ⟨h1, h2⟩
    · simp only [Rel]
      refine ⟨some ⟨b, o, none⟩, m, by rw [List.length_map, hlen], by rw [List.length_map, hlen]; exact hl, ⟨1, ?_⟩, ⟨rfl, ?_⟩, trivial⟩
      · intro x hx'; rw [List.mem_map] at hx'; obtain ⟨z, _, rfl⟩ := hx'; rfl
      · have fl : flat (ns.map (AV.int .u8)) = ns.map (AV.int .u8) := by
          generalize ns = l
          induction l with
          | nil => rfl
          | cons z l ih => rw [List.map_cons, flat_cons, ih]; rfl
        by_cases h0 : len = 0
        · left; rw [h0] at hlen; rw [List.eq_nil_of_length_eq_zero hlen]; rfl
        right
        obtain ⟨h1, _⟩ := hx 0 (by omega)
        have hcells : ∃ c ty fr, W.heap[b]? = some (.cells c ty fr) := by
          simp only [World.cell?, Addr.add] at h1
          split at h1
          · rename_i c ty fr e; exact ⟨c, ty, fr, e⟩
          · cases h1
        obtain ⟨c, ty, fr, hb⟩ := hcells
        refine ⟨_, Gw_cells hb, ?_⟩
        rw [fl, List.prefix_iff_eq_take]
        apply List.ext_getElem?
        intro i
        rw [List.length_map, hlen, List.getElem?_take]
        by_cases hi : i < len
        · rw [if_pos hi, List.getElem?_map, hget i hi, List.getElem?_drop, List.getElem?_map]
          obtain ⟨h1, _⟩ := hx i (by omega)
          obtain ⟨z, hz, _, _⟩ := num i hi
          rw [addr_add] at h1
          have h1 : c[o + i]? = some (V i) := by simpa [World.cell?, hb] using h1
          rw [← Array.getElem?_toList] at h1
          rw [h1, hz]; rfl
        · rw [if_neg hi, List.getElem?_eq_none (by rw [List.length_map, hlen]; omega)]

end
end Jet
