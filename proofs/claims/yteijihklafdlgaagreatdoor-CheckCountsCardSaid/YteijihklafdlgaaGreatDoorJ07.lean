/-
What is made out of bytes is small.
-/
import Derived.Test.YteijihklafdlgaaGreatDoorJ06
set_option linter.unusedSimpArgs false
set_option linter.unusedVariables false
set_option linter.constructorNameAsVariable false

namespace Jet
open Go

variable {bs : List Nat}

theorem refM_okE (own kind : Str) (s : FS) : (refM bs own kind s).1.Ok := .mk _ _ _ _ _ _ (by simp [inI64]) (by simp [inI64]) (by simp [okLen]) (by simp)
theorem nums_in (k : Nat) : inI64 (nums.getD k 0) := by
  unfold inI64
  rcases k with _ | _ | _ | _ | _ | _ | k <;> simp [nums]
theorem num_okE (k : Nat) : (E0.mk 0 [] (nums.getD k 0) [] [] []).Ok := .mk _ _ _ _ _ _ (by simp [inI64]) (nums_in k) (by simp [okLen]) (by simp)
theorem un_okE (o : Str) {x : E0} (h : x.Ok) : (E0.mk 2 o 0 [] [] [x]).Ok := .mk _ _ _ _ _ _ (by simp [inI64]) (by simp [inI64]) (by simp [okLen]) (by simpa using h)
theorem bin_okE (o : Str) {x y : E0} (h : x.Ok) (h' : y.Ok) : (E0.mk 3 o 0 [] [] [x, y]).Ok := .mk _ _ _ _ _ _ (by simp [inI64]) (by simp [inI64]) (by simp [okLen]) (by simp [h, h'])
theorem numberM_okE (own kind : Str) : ∀ (d : Nat) (s : FS), (numberM bs own kind d s).1.Ok
  | 0, s => by
    simp only [numberM]
    split
    · exact num_okE _
    · exact refM_okE _ _ _
  | d + 1, s => by
    simp only [numberM]
    split
    · exact num_okE _
    split
    · exact refM_okE _ _ _
    split
    · exact un_okE _ (numberM_okE own kind d _)
    · exact bin_okE _ (numberM_okE own kind d _) (numberM_okE own kind d _)
theorem comparM_okE (own kind : Str) (b : Nat) (s : FS) : (comparM bs own kind b s).1.Ok := bin_okE _ (numberM_okE own kind 1 _) (numberM_okE own kind 1 _)
theorem truthM_okE (own kind : Str) : ∀ (d : Nat) (s : FS), (truthM bs own kind d s).1.Ok
  | 0, s => comparM_okE own kind _ _
  | d + 1, s => by
    simp only [truthM]
    split
    · exact un_okE _ (truthM_okE own kind d _)
    split
    · exact bin_okE _ (truthM_okE own kind d _) (truthM_okE own kind d _)
    · exact comparM_okE own kind _ _
theorem predM_okE (own kind : Str) (s : FS) : okLen (predM bs own kind s).1 ∧ ∀ x ∈ (predM bs own kind s).1, x.Ok := by
  simp only [predM]
  split
  · simp [okLen]
  · simp only [List.mem_singleton, forall_eq]; exact ⟨by simp [okLen], truthM_okE own kind 1 _⟩

/-- An item's maker makes small ones; 'c': it goes no further than that, if it begins within. -/
def ItG (c : Nat) (it : Bool → FS → I0 × FS) : Prop := ∀ not s, GI (it not s).1 ∧ s.many + (it not s).1.leaf ≤ (it not s).2.many ∧ (it not s).2.many ≤ max (s.many + 1) c
def LsG (c : Nat) (f : FS → List I0 × FS) : Prop := ∀ s, GL (f s).1 ∧ (f s).1 ≠ [] ∧ s.many + I0.leafL (f s).1 ≤ (f s).2.many ∧ (f s).2.many ≤ max (s.many + 2) c

theorem one_GI (k : Int) (hk : k = 0 ∨ k = 1 ∨ k = 2) (n v : Str) (p : List E0) (hp : okLen p ∧ ∀ x ∈ p, x.Ok) (lo hi : Int) (h1 : 0 ≤ lo) (h2 : lo ≤ hi) (h3 : hi ≤ lo + 1) (h4 : lo ≤ 2) :
    GI (.mk k n v p lo hi []) ∧ (I0.mk k n v p lo hi []).leaf = 1 := by
  have hl : (I0.mk k n v p lo hi []).leaf = 1 := by
    simp only [I0.leaf]
    rw [if_neg (by omega)]
  refine ⟨⟨?_, ?_, ?_, ?_⟩, hl⟩
  · exact .mk _ _ _ _ _ _ _ (by unfold inI64; omega) (by unfold inI64; omega) (by unfold inI64; omega) hp.1 hp.2 (by simp [okLen]) (by simp) (by simp)
  · rw [hl]; simp only [I0.pm, I0.pk, if_pos h2]
    split
    · omega
    split <;> omega
  · rw [hl]; simp only [I0.sm, I0.sk]
    split
    · omega
    split
    · omega
    split <;> omega
  · rw [hl]; omega

theorem itemW_good (alts : Option (FS → List I0 × FS)) (c : Nat) (h : ∀ f, alts = some f → LsG 7 f) (hc : alts.isSome = true → 9 ≤ c) : ItG c (itemW bs alts) := by
  intro not s
  have hsm := nextM_same (bs := bs) s
  obtain ⟨b, hbd⟩ : ∃ b, (nextM bs s).1 = b := ⟨_, rfl⟩
  obtain ⟨s1, hs1⟩ : ∃ s1, (nextM bs s).2 = s1 := ⟨_, rfl⟩
  rw [hs1] at hsm
  simp only [itemW, hbd, hs1]
  obtain ⟨s2, hs2⟩ : ∃ s2, s2 = { s1 with many := s1.many + 1 } := ⟨_, rfl⟩
  rw [← hs2]
  have hm2 : s2.many = s.many + 1 := by rw [hs2]; show s1.many + 1 = _; rw [hsm.1]
  have hm2' : s1.many + 1 = s.many + 1 := by rw [hsm.1]
  have hp := predM_same (bs := bs) (varsL.getD ((s1.many + 1) % 12) []) (kindsL.getD (b % 3) []) s2
  have hok := predM_okE (bs := bs) (varsL.getD ((s1.many + 1) % 12) []) (kindsL.getD (b % 3) []) s2
  split
  · have hg := one_GI 2 (by omega) (kindsL.getD (b % 3) []) (varsL.getD ((s1.many + 1) % 12) []) _ hok 0 0 (by omega) (by omega) (by omega) (by omega)
    refine ⟨hg.1, ?_, ?_⟩
    · rw [hg.2]; show _ ≤ (predM bs _ _ s2).2.many; rw [hp.1]; omega
    · show (predM bs _ _ s2).2.many ≤ _; rw [hp.1]; omega
  split
  · rename_i hcond
    have h5 : s1.many + 1 < 5 := by
      have := (Bool.and_eq_true _ _ ▸ hcond).2
      simpa using this
    cases alts with
    | none => simp at hcond
    | some f =>
      have c9 := hc rfl
      have h1 := h f rfl s2
      have h2 := h f rfl (f s2).2
      have l1 : I0.leafL (f s2).1 ≤ 1000 := by have := h1.2.2.1; have := h1.2.2.2; omega
      have l2 : I0.leafL (f (f s2).2).1 ≤ 1000 := by have := h2.2.2.1; have := h2.2.2.2; have := h1.2.2.2; omega
      refine ⟨GI.alt h1.1 h2.1 h1.2.1 h2.2.1 l1 l2, ?_, ?_⟩
      · have e : (I0.mk 3 [] [] [] 0 0 [(f s2).1, (f (f s2).2).1]).leaf = I0.leafL (f s2).1 + I0.leafL (f (f s2).2).1 := by simp [I0.leaf, I0.leafK]
        show s.many + (I0.mk 3 [] [] [] 0 0 [(f s2).1, (f (f s2).2).1]).leaf ≤ (f (f s2).2).2.many
        rw [e]
        have := h1.2.2.1; have := h2.2.2.1
        omega
      · show (f (f s2).2).2.many ≤ _
        have := h1.2.2.2; have := h2.2.2.2
        omega
  · have hg : ∀ (k lo hi : Int), (k = 0 ∨ k = 1) → 0 ≤ lo → lo ≤ hi → hi ≤ lo + 1 → lo ≤ 2 → _ := fun k lo hi hk a1 a2 a3 a4 =>
      one_GI k (by omega) (kindsL.getD (b % 3) []) (varsL.getD ((s1.many + 1) % 12) []) _ hok lo hi a1 a2 a3 a4
    have hk : (if b % 8 = 5 then (1 : Int) else 0) = 0 ∨ (if b % 8 = 5 then (1 : Int) else 0) = 1 := by split <;> omega
    have a1 : (0 : Int) ≤ (if b % 8 = 5 then ((1 + b / 8 % 2 : Nat) : Int) else 0) := by split <;> omega
    have a2 : (if b % 8 = 5 then ((1 + b / 8 % 2 : Nat) : Int) else 0) ≤ (if b % 8 = 5 then ((1 + b / 8 % 2 + b / 16 % 2 : Nat) : Int) else 0) := by split <;> omega
    have a3 : (if b % 8 = 5 then ((1 + b / 8 % 2 + b / 16 % 2 : Nat) : Int) else 0) ≤ (if b % 8 = 5 then ((1 + b / 8 % 2 : Nat) : Int) else 0) + 1 := by split <;> omega
    have a4 : (if b % 8 = 5 then ((1 + b / 8 % 2 : Nat) : Int) else 0) ≤ 2 := by split <;> omega
    have hg := hg _ _ _ hk a1 a2 a3 a4
    refine ⟨hg.1, ?_, ?_⟩
    · simp only [hg.2]; rw [hp.1]; omega
    · simp only []; rw [hp.1]; omega

theorem moreW_good {c : Nat} {it : Bool → FS → I0 × FS} (h : ItG c it) (hc : 6 ≤ c) (most : Nat) : ∀ (n i : Nat) (out : List I0) (s : FS), GL out → GL (moreW bs it most n i out s).1 ∧ (out ≠ [] → (moreW bs it most n i out s).1 ≠ []) ∧
    s.many + I0.leafL (moreW bs it most n i out s).1 ≤ (moreW bs it most n i out s).2.many + I0.leafL out ∧ (moreW bs it most n i out s).2.many ≤ max s.many c
  | 0, i, out, s, hg => ⟨hg, id, by simp only [moreW]; omega, by simp only [moreW]; omega⟩
  | n + 1, i, out, s, hg => by
    simp only [moreW]
    split
    · rename_i hi
      obtain ⟨h1, h2, h3⟩ := h (decide (i + 1 < most)) s
      have h4 := moreW_good h hc most n (i + 1) (out ++ [(it (decide (i + 1 < most)) s).1]) (it (decide (i + 1 < most)) s).2 (hg.append (.one h1))
      refine ⟨h4.1, fun _ => h4.2.1 (by simp), ?_, ?_⟩
      · have := h4.2.2.1
        rw [I0.leafL_append] at this
        simp only [I0.leafL, Nat.add_zero] at this
        omega
      · have := h4.2.2.2; omega
    · exact ⟨hg, id, by simp only []; omega, by simp only []; omega⟩

theorem itemsW_good {c c' : Nat} {it it0 : Bool → FS → I0 × FS} (h : ItG c it) (h0 : ItG 0 it0) (hc : 6 ≤ c) (hc' : c + 1 ≤ c') (most : Nat) : LsG c' (itemsW bs it it0 most) := by
  intro s
  obtain ⟨h1, h2, h3⟩ := h false s
  have h4 := moreW_good (bs := bs) h hc most most 1 [(it false s).1] (it false s).2 (.one h1)
  simp only [itemsW]
  obtain ⟨r, hr⟩ : ∃ r, moreW bs it most most 1 [(it false s).1] (it false s).2 = r := ⟨_, rfl⟩
  rw [hr] at h4
  simp only [hr]
  obtain ⟨g1, g2, g3, g4⟩ := h4
  simp only [I0.leafL, Nat.add_zero] at g3
  obtain ⟨h5, h6, h7⟩ := h0 false r.2
  split
  · refine ⟨g1.append (.one h5), by simp, ?_, ?_⟩
    · simp only [I0.leafL_append, I0.leafL, Nat.add_zero]
      omega
    · simp only []; omega
  · exact ⟨g1, g2 (by simp), by omega, by omega⟩

theorem item0_good0 : ItG 0 (item0 bs) := itemW_good none 0 (fun f h => by cases h) (by simp)
theorem ItG.mono {c c' : Nat} (h : c ≤ c') {it : Bool → FS → I0 × FS} (hi : ItG c it) : ItG c' it := fun not s => by
  obtain ⟨h1, h2, h3⟩ := hi not s
  exact ⟨h1, h2, by omega⟩
theorem items0_good : LsG 7 (items0 bs 2) := itemsW_good (item0_good0.mono (by omega)) item0_good0 (c := 6) (by omega) (by omega) 2
theorem item1_good : ItG 9 (item1 bs) := itemW_good (some (items0 bs 2)) 9 (fun f h => by cases h; exact items0_good) (by simp)
theorem items1_good : LsG 10 (items1 bs 3) := itemsW_good item1_good item0_good0 (by omega) (by omega) 3

/-- What a query out of bytes is. -/
theorem asked_good (bs : List Nat) : (askedM bs).items ≠ [] ∧ ItemsOk (askedM bs).items ∧ (askedM bs).items.length ≤ 10 ∧ I0.pp (askedM bs).items ≤ 1024 ∧ I0.sl (askedM bs).items ≤ 30 := by
  have hn : ∀ s : FS, s.many = 0 → (nextM bs s).2.many = 0 := fun s h => by rw [(nextM_same s).1, h]
  have h := items1_good (bs := bs) (nextM bs (nextM bs ⟨0, [], [], 0⟩).2).2
  have hz : (nextM bs (nextM bs ⟨0, [], [], 0⟩).2).2.many = 0 := hn _ (hn _ rfl)
  obtain ⟨h1, h2, h3, h4⟩ := h
  rw [hz] at h3 h4
  have hl : I0.leafL (askedM bs).items ≤ 10 := by show I0.leafL (items1 bs 3 _).1 ≤ 10; omega
  have hlen := h1.2.2.2
  refine ⟨h2, ⟨?_, h1.1⟩, Nat.le_trans hlen hl, Nat.le_trans h1.2.1 ?_, Nat.le_trans h1.2.2.1 (by omega)⟩
  · show (items1 bs 3 _).1.length ≤ _; omega
  · exact Nat.le_trans (Nat.pow_le_pow_right (by omega) hl) (by decide)

end Jet

/-
CheckCounts: what the interpreter shows.
-/
namespace Jet
open Go

variable {bs bs' : List Nat} {σ σ' σ'' : St} {T : Tab}

def lawQ (x : Qry) (bs : List Nat) : Prop := x.e = askedM bs

theorem evApp_items {p : Perm} {l : List Itm} {σ : St} (hl : l ≠ []) (h10 : l.length ≤ 10) : evApp 7 104 (.sl .full []) (l.map Itm.av) σ = some (.sl (.tok σ.next) (l.map Itm.av), σ.push (.tok l.length 7)) := by
  rw [evApp_full (by simpa using hl) (by simp; omega) (by simp; omega) (by simp only [List.all_map, List.all_eq_true]; intro x _; exact x.okElem) rfl (by decide)]
  simp
theorem evApp_items2 {t : Nat} {l l' : List Itm} {σ : St} (hl : l' ≠ []) (h10 : l.length ≤ 10) (h10' : l'.length ≤ 10) (ht : σ.get t = some (.tok l.length 7)) : evApp 7 104 (.sl (.tok t) (l.map Itm.av)) (l'.map Itm.av) σ = some (.sl (.tok t) ((l ++ l').map Itm.av), σ.set t (.tok (l.length + l'.length) 7)) := by
  rw [evApp_tok (by simpa using hl) (by simp; omega) (by simp; omega) (by simp only [List.all_map, List.all_eq_true]; intro x _; exact x.okElem) (Itm.firstOk l) (by decide) (by simpa using ht)]
  simp

set_option maxHeartbeats 4000000 in
theorem counts_run (hB : Base T) (hex : T.hook 10 = some (memo [([], .bool true)])) (hb : BytesOk bs) (hb' : BytesOk bs') (a a' : Value) (n n' : Int) (b b' : Str) (o o' : Bool) (σ : St) :
    Runs T f_jettisonlaw11_CheckCounts [.agg (shapeC a n b o (bytesAV bs)), .agg (shapeC a' n' b' o' (bytesAV bs'))] σ (fun o σ' => o = .ret (.bool true)) := by
  refine runs_fn (hB.hook _ (by decide)) (hB.fn _ q_jettisonlaw11_CheckCounts rfl) (by simp [q_jettisonlaw11_CheckCounts]) ?_
  obtain ⟨K, hK⟩ : ∃ K : Out → St → Prop, K = fun o σ' => o = .ret (.bool true) := ⟨_, rfl⟩
  rw [← hK]
  have hone : ∀ {bs}, (bytesAV bs).one = true := rfl
  have hraw : ∀ {a}, (AV.raw a).one = true := rfl
  simp [q_jettisonlaw11_CheckCounts, shapeC, hone, hraw]
  refine runs_hook hex (o := .ret (.bool true)) (σ' := _) rfl ?_
  simp [hone, hraw]
  obtain ⟨τ, hτ⟩ : ∃ τ, τ = (((σ.push (.cells [.raw a, .int .i64 n, .str b, .bool o, bytesAV bs])).push (.cells [.raw a', .int .i64 n', .str b', .bool o', bytesAV bs'])).set σ.next (.cells [.raw a, .int .i64 n, .str b, .bool true, bytesAV bs])).set (σ.next + 1) (.cells [.raw a', .int .i64 n', .str b', .bool true, bytesAV bs']) := ⟨_, rfl⟩
  have hτL : τ.get (σ.next + 1) = some (.cells [.raw a', .int .i64 n', .str b', .bool true, bytesAV bs']) := by rw [hτ]; simp
  have hτn : τ.next = σ.next + 2 := by rw [hτ]; simp
  rw [← hτ]
  refine (shape_run hB hb a n b τ).mono ?_
  rintro _ σ1 ⟨q, rfl, eq, g1⟩
  have hL1 : σ1.get (σ.next + 1) = some (.cells [.raw a', .int .i64 n', .str b', .bool true, bytesAV bs']) := by rw [g1.2 _ (by omega)]; exact hτL
  have hqa : q.av = .agg [.sl q.p (q.items.map Itm.av), .int .i64 q.within, .str q.by'] := rfl
  simp [hL1, hqa, hone, hraw]
  refine (shape_run hB hb' a' n' b' σ1).mono ?_
  rintro _ σ2 ⟨q', rfl, eq', g2⟩
  have hqa' : q'.av = .agg [.sl q'.p (q'.items.map Itm.av), .int .i64 q'.within, .str q'.by'] := rfl
  obtain ⟨gn, gok, glen, gpp, gsl⟩ := asked_good bs
  obtain ⟨gn', gok', glen', gpp', gsl'⟩ := asked_good bs'
  have e1 : q.items.map Itm.e = (askedM bs).items := by rw [← eq]; rfl
  have e2 : q'.items.map Itm.e = (askedM bs').items := by rw [← eq']; rfl
  obtain ⟨A, hA⟩ : ∃ A, (askedM bs).items = A := ⟨_, rfl⟩
  obtain ⟨B, hB'⟩ : ∃ B, (askedM bs').items = B := ⟨_, rfl⟩
  rw [hA] at gn gok glen gpp gsl e1
  rw [hB'] at gn' gok' glen' gpp' gsl' e2
  obtain ⟨l, hl⟩ : ∃ l, q.items = l := ⟨_, rfl⟩
  obtain ⟨l', hl'⟩ : ∃ l, q'.items = l := ⟨_, rfl⟩
  rw [hl] at e1 hqa
  rw [hl'] at e2 hqa'
  have nl : l ≠ [] := by rintro rfl; exact gn (by rw [← e1]; rfl)
  have nl' : l' ≠ [] := by rintro rfl; exact gn' (by rw [← e2]; rfl)
  have l10 : l.length ≤ 10 := by rw [← e1] at glen; simpa using glen
  have l10' : l'.length ≤ 10 := by rw [← e2] at glen'; simpa using glen'
  have ea := evApp_items (p := .full) (σ := σ2) nl l10
  obtain ⟨σ3, hσ3⟩ : ∃ σ3, σ2.push (.tok l.length 7) = σ3 := ⟨_, rfl⟩
  have ht3 : σ3.get σ2.next = some (.tok l.length 7) := by rw [← hσ3]; simp
  rw [hσ3] at ea
  have eb := evApp_items2 nl' l10 l10' ht3
  obtain ⟨σ4, hσ4⟩ : ∃ σ4, σ3.set σ2.next (.tok (l.length + l'.length) 7) = σ4 := ⟨_, rfl⟩
  rw [hσ4] at eb
  simp only [List.map_append] at eb
  simp [hqa', hl, hl', ea, eb]
  have okA : ItemsOk (l.map Itm.e) := by rw [e1]; exact gok
  have okB : ItemsOk (l'.map Itm.e) := by rw [e2]; exact gok'
  have okAB : ItemsOk ((l ++ l').map Itm.e) := by
    rw [List.map_append]
    refine ⟨by unfold okLen; simp; omega, fun x hx => ?_⟩
    rcases List.mem_append.1 hx with hx | hx
    · exact okA.2 x hx
    · exact okB.2 x hx
  obtain ⟨al, hal⟩ : ∃ al : Itm, al = .mk 3 [] [] .full [] 0 0 .full [.mk q.p l, .mk q'.p l'] := ⟨_, rfl⟩
  have ale : al.e = .mk 3 [] [] [] 0 0 [A, B] := by rw [hal]; simp only [Itm.e, Ks.es, Ks.e, Xp.es, Itm.es_map, e1, e2]
  have ala : al.av = .agg [.int .i64 3, .str [], .str [], .sl .full [], .int .i64 0, .int .i64 0, .sl .full [.sl q.p (l.map Itm.av), .sl q'.p (l'.map Itm.av)]] := by rw [hal]; simp only [Itm.av, Ks.avs, Ks.av, Xp.avs, Itm.avs_map]
  have okX : ItemsOk ([al].map Itm.e) := by
    refine ⟨by simp [okLen], ?_⟩
    simp only [List.map_cons, List.map_nil, List.mem_singleton, forall_eq, ale]
    refine .mk _ _ _ _ _ _ _ (by simp [inI64]) (by simp [inI64]) (by simp [inI64]) (by simp [okLen]) (by simp) (by simp [okLen]) ?_ ?_
    · intro x hx; rcases List.mem_cons.1 hx with rfl | hx
      · exact gok.1
      · rw [List.mem_singleton] at hx; subst hx; exact gok'.1
    · intro x hx; rcases List.mem_cons.1 hx with rfl | hx
      · exact gok.2
      · rw [List.mem_singleton] at hx; subst hx; exact gok'.2
  obtain ⟨pA, hpA⟩ : ∃ n, I0.paths 1 A = n := ⟨_, rfl⟩
  obtain ⟨pB, hpB⟩ : ∃ n, I0.paths 1 B = n := ⟨_, rfl⟩
  obtain ⟨pC, hpC⟩ : ∃ n, I0.paths 1 (A ++ B) = n := ⟨_, rfl⟩
  obtain ⟨pX, hpX⟩ : ∃ n, I0.paths 1 [al.e] = n := ⟨_, rfl⟩
  obtain ⟨sA, hsA⟩ : ∃ n, I0.steps 0 A = n := ⟨_, rfl⟩
  obtain ⟨sB, hsB⟩ : ∃ n, I0.steps 0 B = n := ⟨_, rfl⟩
  obtain ⟨sC, hsC⟩ : ∃ n, I0.steps 0 (A ++ B) = n := ⟨_, rfl⟩
  obtain ⟨sX, hsX⟩ : ∃ n, I0.steps 0 [al.e] = n := ⟨_, rfl⟩
  obtain ⟨cA, hcA⟩ : ∃ n, IntKind.i64.wrap (I0.codes A) = n := ⟨_, rfl⟩
  obtain ⟨cB, hcB⟩ : ∃ n, IntKind.i64.wrap (I0.codes B) = n := ⟨_, rfl⟩
  obtain ⟨cC, hcC⟩ : ∃ n, IntKind.i64.wrap (I0.codes (A ++ B)) = n := ⟨_, rfl⟩
  have rpA : ∀ σ, Runs T 12 [.sl q.p (l.map Itm.av)] σ (fun o σ' => o = .ret (.int .i64 (pA : Int))) := fun σ => (paths_run hB _ l (Nat.lt_succ_self _) okA q.p σ).mono (by rintro o σ' ⟨rfl, _⟩; rw [e1, hpA])
  have rpB : ∀ σ, Runs T 12 [.sl q'.p (l'.map Itm.av)] σ (fun o σ' => o = .ret (.int .i64 (pB : Int))) := fun σ => (paths_run hB _ l' (Nat.lt_succ_self _) okB q'.p σ).mono (by rintro o σ' ⟨rfl, _⟩; rw [e2, hpB])
  have rpC : ∀ σ, Runs T 12 [.sl (.tok σ2.next) (l.map Itm.av ++ l'.map Itm.av)] σ (fun o σ' => o = .ret (.int .i64 (pC : Int))) := fun σ => by
    rw [← List.map_append]
    exact (paths_run hB _ (l ++ l') (Nat.lt_succ_self _) okAB _ σ).mono (by rintro o σ' ⟨rfl, _⟩; rw [List.map_append, e1, e2, hpC])
  have rpX : ∀ σ, Runs T 12 [.sl .full [.agg [.int .i64 3, .str [], .str [], .sl .full [], .int .i64 0, .int .i64 0, .sl .full [.sl q.p (l.map Itm.av), .sl q'.p (l'.map Itm.av)]]]] σ (fun o σ' => o = .ret (.int .i64 (pX : Int))) := fun σ => by
    rw [← ala]
    exact (paths_run hB _ [al] (Nat.lt_succ_self _) okX _ σ).mono (by rintro o σ' ⟨rfl, _⟩; rw [List.map_cons, List.map_nil, hpX])
  have rpN : ∀ σ, Runs T 12 [.sl .full []] σ (fun o σ' => o = .ret (.int .i64 1)) := fun σ =>
    (paths_run hB _ [] (Nat.lt_succ_self _) ⟨by simp [okLen], by simp⟩ .full σ).mono (by rintro o σ' ⟨rfl, _⟩; rfl)
  have rsA : ∀ σ, Runs T 13 [.sl q.p (l.map Itm.av)] σ (fun o σ' => o = .ret (.int .i64 (sA : Int))) := fun σ => (steps_run hB _ l (Nat.lt_succ_self _) okA q.p σ).mono (by rintro o σ' ⟨rfl, _⟩; rw [e1, hsA])
  have rsB : ∀ σ, Runs T 13 [.sl q'.p (l'.map Itm.av)] σ (fun o σ' => o = .ret (.int .i64 (sB : Int))) := fun σ => (steps_run hB _ l' (Nat.lt_succ_self _) okB q'.p σ).mono (by rintro o σ' ⟨rfl, _⟩; rw [e2, hsB])
  have rsC : ∀ σ, Runs T 13 [.sl (.tok σ2.next) (l.map Itm.av ++ l'.map Itm.av)] σ (fun o σ' => o = .ret (.int .i64 (sC : Int))) := fun σ => by
    rw [← List.map_append]
    exact (steps_run hB _ (l ++ l') (Nat.lt_succ_self _) okAB _ σ).mono (by rintro o σ' ⟨rfl, _⟩; rw [List.map_append, e1, e2, hsC])
  have rsX : ∀ σ, Runs T 13 [.sl .full [.agg [.int .i64 3, .str [], .str [], .sl .full [], .int .i64 0, .int .i64 0, .sl .full [.sl q.p (l.map Itm.av), .sl q'.p (l'.map Itm.av)]]]] σ (fun o σ' => o = .ret (.int .i64 (sX : Int))) := fun σ => by
    rw [← ala]
    exact (steps_run hB _ [al] (Nat.lt_succ_self _) okX _ σ).mono (by rintro o σ' ⟨rfl, _⟩; rw [List.map_cons, List.map_nil, hsX])
  have rsN : ∀ σ, Runs T 13 [.sl .full []] σ (fun o σ' => o = .ret (.int .i64 0)) := fun σ =>
    (steps_run hB _ [] (Nat.lt_succ_self _) ⟨by simp [okLen], by simp⟩ .full σ).mono (by rintro o σ' ⟨rfl, _⟩; rfl)
  have rcA : ∀ σ, Runs T 14 [.sl q.p (l.map Itm.av)] σ (fun o σ' => o = .ret (.int .i64 cA)) := fun σ => (code_run hB _ l (Nat.lt_succ_self _) okA q.p σ).mono (by rintro o σ' ⟨rfl, _⟩; rw [e1, hcA])
  have rcB : ∀ σ, Runs T 14 [.sl q'.p (l'.map Itm.av)] σ (fun o σ' => o = .ret (.int .i64 cB)) := fun σ => (code_run hB _ l' (Nat.lt_succ_self _) okB q'.p σ).mono (by rintro o σ' ⟨rfl, _⟩; rw [e2, hcB])
  have rcC : ∀ σ, Runs T 14 [.sl (.tok σ2.next) (l.map Itm.av ++ l'.map Itm.av)] σ (fun o σ' => o = .ret (.int .i64 cC)) := fun σ => by
    rw [← List.map_append]
    exact (code_run hB _ (l ++ l') (Nat.lt_succ_self _) okAB _ σ).mono (by rintro o σ' ⟨rfl, _⟩; rw [List.map_append, e1, e2, hcC])
  have rcX : ∀ σ, Runs T 14 [.sl .full [.agg [.int .i64 3, .str [], .str [], .sl .full [], .int .i64 0, .int .i64 0, .sl .full [.sl q.p (l.map Itm.av), .sl q'.p (l'.map Itm.av)]]]] σ (fun o σ' => o = .ret (.int .i64 cC)) := fun σ => by
    rw [← ala]
    refine (code_run hB _ [al] (Nat.lt_succ_self _) okX _ σ).mono ?_
    rintro o σ' ⟨rfl, _⟩
    rw [List.map_cons, List.map_nil, ale, ← hcC, I0.codes_append]
    simp only [I0.codes, I0.code, I0.codeK, E0.sizes, Nat.zero_add, Nat.add_zero]
  have pm2 : ∀ l : List I0, I0.pp l ≤ 1024 → I0.paths 1 l = I0.pp l := fun l h => by rw [I0.paths_cap l (by omega), Nat.one_mul, cap20_of_le (by omega)]
  have hpp : I0.pp A * I0.pp B ≤ 1048576 := Nat.le_trans (Nat.mul_le_mul gpp gpp') (by decide)
  have kC : pC = pA * pB := by rw [← hpA, ← hpB, ← hpC, pm2 A gpp, pm2 B gpp', I0.paths_cap _ (by omega), Nat.one_mul, I0.pp_append, cap20_of_le hpp]
  have kAl : pA ≤ 1024 := by rw [← hpA, pm2 A gpp]; exact gpp
  have kBl : pB ≤ 1024 := by rw [← hpB, pm2 B gpp']; exact gpp'
  have kX : pX = pA + pB := by
    rw [← hpX, I0.paths_cap _ (by omega), Nat.one_mul, ale]
    simp only [I0.pp, I0.pm, I0.pk, Nat.mul_one, Nat.add_zero]
    rw [← hpA, ← hpB, pm2 A gpp, pm2 B gpp']
    simp
    rw [cap20_of_le (by omega)]
  have sm2 : ∀ l : List I0, I0.sl l ≤ 30 → I0.steps 0 l = I0.sl l := fun l h => by rw [I0.steps_cap l (by omega), Nat.zero_add, cap20_of_le (by omega)]
  have tA : sA = I0.sl A := by rw [← hsA, sm2 A gsl]
  have tB : sB = I0.sl B := by rw [← hsB, sm2 B gsl']
  have tC : sC = sA + sB := by rw [← hsC, I0.steps_cap _ (by omega), Nat.zero_add, I0.sl_append, tA, tB, cap20_of_le (by omega)]
  have tX : sX = max sA sB := by
    rw [← hsX, I0.steps_cap _ (by omega), Nat.zero_add, ale, tA, tB]
    simp only [I0.sl, I0.sm, I0.sk, Nat.add_zero]
    simp
    rw [cap20_of_le (by omega)]
  have wP : IntKind.i64.wrap ((pA : Int) * (pB : Int)) = (pC : Int) := by
    rw [← Int.natCast_mul, ← kC]; exact wnat (by rw [kC, ← hpA, ← hpB, pm2 A gpp, pm2 B gpp']; omega)
  have wS : IntKind.i64.wrap ((sA : Int) + (sB : Int)) = (sC : Int) := by rw [w64 (by omega) (by omega)]; omega
  have wC : IntKind.i64.wrap (cA + cB) = cC := by
    rw [← hcA, ← hcB, ← hcC, wrap_add, Int.add_comm, wrap_add, Int.add_comm, I0.codes_append]; simp
  have wX : IntKind.i64.wrap ((pA : Int) + (pB : Int)) = (pX : Int) := by rw [w64 (by omega) (by omega)]; omega
  have wM : max (sA : Int) (sB : Int) = (sX : Int) := by omega
  refine (rpC _).mono ?_
  rintro _ ρ1 rfl
  simp
  refine (rpA _).mono ?_
  rintro _ ρ2 rfl
  simp
  refine (rpB _).mono ?_
  rintro _ ρ3 rfl
  simp [wP]
  refine (rsC _).mono ?_
  rintro _ ρ4 rfl
  simp
  refine (rsA _).mono ?_
  rintro _ ρ5 rfl
  simp
  refine (rsB _).mono ?_
  rintro _ ρ6 rfl
  simp [wS]
  refine (rcC _).mono ?_
  rintro _ ρ7 rfl
  simp
  refine (rcA _).mono ?_
  rintro _ ρ8 rfl
  simp
  refine (rcB _).mono ?_
  rintro _ ρ9 rfl
  simp [wC]
  refine (rpX _).mono ?_
  rintro _ ρ10 rfl
  simp
  refine (rpA _).mono ?_
  rintro _ ρ11 rfl
  simp
  refine (rpB _).mono ?_
  rintro _ ρ12 rfl
  simp [wX]
  refine (rsX _).mono ?_
  rintro _ ρ13 rfl
  simp
  refine (rsA _).mono ?_
  rintro _ ρ14 rfl
  simp
  refine (rsB _).mono ?_
  rintro _ ρ15 rfl
  simp [wM]
  refine (rcX _).mono ?_
  rintro _ ρ16 rfl
  simp
  refine (rcC _).mono ?_
  rintro _ ρ17 rfl
  simp
  refine (rpN _).mono ?_
  rintro _ ρ18 rfl
  simp
  refine (rsN _).mono ?_
  rintro _ ρ19 rfl
  simp
  rw [hK]

end Jet

/-
The chapter's examples, run by the kernel (made by program).
-/
set_option maxRecDepth 10000000
namespace Jet
open Go

theorem jetx11s0 : fRun T 4000 167 [.str [59, 32, 33, 66, 32, 98, 91, 98, 46, 121, 32, 61, 61, 32, 97, 46, 120, 93, 32, 59, 32, 40, 65, 32, 99, 123, 49, 44, 50, 125, 32, 124, 32, 67, 32, 100, 41, 32, 87, 73, 84, 72, 73, 78, 32, 49, 48, 32, 66, 89, 32, 107]] ⟨.nil, 0⟩ (memoK (.tup [(.agg [(.int .i64 3), (.str [59]), (.int .i64 0), (.int .i64 0)]), (.bool true)])) = True := by kernel_rfl
theorem jetx11s1 : fRun T 4000 167 [.str [33, 66, 32, 98, 91, 98, 46, 121, 32, 61, 61, 32, 97, 46, 120, 93, 32, 59, 32, 40, 65, 32, 99, 123, 49, 44, 50, 125, 32, 124, 32, 67, 32, 100, 41, 32, 87, 73, 84, 72, 73, 78, 32, 49, 48, 32, 66, 89, 32, 107]] ⟨.nil, 0⟩ (memoK (.tup [(.agg [(.int .i64 3), (.str [33]), (.int .i64 0), (.int .i64 0)]), (.bool true)])) = True := by kernel_rfl
theorem jetx11s2 : fRun T 4000 167 [.str [91, 98, 46, 121, 32, 61, 61, 32, 97, 46, 120, 93, 32, 59, 32, 40, 65, 32, 99, 123, 49, 44, 50, 125, 32, 124, 32, 67, 32, 100, 41, 32, 87, 73, 84, 72, 73, 78, 32, 49, 48, 32, 66, 89, 32, 107]] ⟨.nil, 0⟩ (memoK (.tup [(.agg [(.int .i64 3), (.str [91]), (.int .i64 0), (.int .i64 0)]), (.bool true)])) = True := by kernel_rfl
theorem jetx11s3 : fRun T 4000 167 [.str [46, 121, 32, 61, 61, 32, 97, 46, 120, 93, 32, 59, 32, 40, 65, 32, 99, 123, 49, 44, 50, 125, 32, 124, 32, 67, 32, 100, 41, 32, 87, 73, 84, 72, 73, 78, 32, 49, 48, 32, 66, 89, 32, 107]] ⟨.nil, 0⟩ (memoK (.tup [(.agg [(.int .i64 3), (.str [46]), (.int .i64 0), (.int .i64 0)]), (.bool true)])) = True := by kernel_rfl
theorem jetx11s4 : fRun T 4000 167 [.str [61, 61, 32, 97, 46, 120, 93, 32, 59, 32, 40, 65, 32, 99, 123, 49, 44, 50, 125, 32, 124, 32, 67, 32, 100, 41, 32, 87, 73, 84, 72, 73, 78, 32, 49, 48, 32, 66, 89, 32, 107]] ⟨.nil, 0⟩ (memoK (.tup [(.agg [(.int .i64 3), (.str [61, 61]), (.int .i64 0), (.int .i64 0)]), (.bool true)])) = True := by kernel_rfl
theorem jetx11s5 : fRun T 4000 167 [.str [46, 120, 93, 32, 59, 32, 40, 65, 32, 99, 123, 49, 44, 50, 125, 32, 124, 32, 67, 32, 100, 41, 32, 87, 73, 84, 72, 73, 78, 32, 49, 48, 32, 66, 89, 32, 107]] ⟨.nil, 0⟩ (memoK (.tup [(.agg [(.int .i64 3), (.str [46]), (.int .i64 0), (.int .i64 0)]), (.bool true)])) = True := by kernel_rfl
theorem jetx11s6 : fRun T 4000 167 [.str [93, 32, 59, 32, 40, 65, 32, 99, 123, 49, 44, 50, 125, 32, 124, 32, 67, 32, 100, 41, 32, 87, 73, 84, 72, 73, 78, 32, 49, 48, 32, 66, 89, 32, 107]] ⟨.nil, 0⟩ (memoK (.tup [(.agg [(.int .i64 3), (.str [93]), (.int .i64 0), (.int .i64 0)]), (.bool true)])) = True := by kernel_rfl
theorem jetx11s7 : fRun T 4000 167 [.str [59, 32, 40, 65, 32, 99, 123, 49, 44, 50, 125, 32, 124, 32, 67, 32, 100, 41, 32, 87, 73, 84, 72, 73, 78, 32, 49, 48, 32, 66, 89, 32, 107]] ⟨.nil, 0⟩ (memoK (.tup [(.agg [(.int .i64 3), (.str [59]), (.int .i64 0), (.int .i64 0)]), (.bool true)])) = True := by kernel_rfl
theorem jetx11s8 : fRun T 4000 167 [.str [40, 65, 32, 99, 123, 49, 44, 50, 125, 32, 124, 32, 67, 32, 100, 41, 32, 87, 73, 84, 72, 73, 78, 32, 49, 48, 32, 66, 89, 32, 107]] ⟨.nil, 0⟩ (memoK (.tup [(.agg [(.int .i64 3), (.str [40]), (.int .i64 0), (.int .i64 0)]), (.bool true)])) = True := by kernel_rfl
theorem jetx11s9 : fRun T 4000 167 [.str [123, 49, 44, 50, 125, 32, 124, 32, 67, 32, 100, 41, 32, 87, 73, 84, 72, 73, 78, 32, 49, 48, 32, 66, 89, 32, 107]] ⟨.nil, 0⟩ (memoK (.tup [(.agg [(.int .i64 3), (.str [123]), (.int .i64 0), (.int .i64 0)]), (.bool true)])) = True := by kernel_rfl
theorem jetx11s10 : fRun T 4000 167 [.str [44, 50, 125, 32, 124, 32, 67, 32, 100, 41, 32, 87, 73, 84, 72, 73, 78, 32, 49, 48, 32, 66, 89, 32, 107]] ⟨.nil, 0⟩ (memoK (.tup [(.agg [(.int .i64 3), (.str [44]), (.int .i64 0), (.int .i64 0)]), (.bool true)])) = True := by kernel_rfl
theorem jetx11s11 : fRun T 4000 167 [.str [125, 32, 124, 32, 67, 32, 100, 41, 32, 87, 73, 84, 72, 73, 78, 32, 49, 48, 32, 66, 89, 32, 107]] ⟨.nil, 0⟩ (memoK (.tup [(.agg [(.int .i64 3), (.str [125]), (.int .i64 0), (.int .i64 0)]), (.bool true)])) = True := by kernel_rfl
theorem jetx11s12 : fRun T 4000 167 [.str [124, 32, 67, 32, 100, 41, 32, 87, 73, 84, 72, 73, 78, 32, 49, 48, 32, 66, 89, 32, 107]] ⟨.nil, 0⟩ (memoK (.tup [(.agg [(.int .i64 3), (.str [124]), (.int .i64 0), (.int .i64 0)]), (.bool true)])) = True := by kernel_rfl
theorem jetx11s13 : fRun T 4000 167 [.str [41, 32, 87, 73, 84, 72, 73, 78, 32, 49, 48, 32, 66, 89, 32, 107]] ⟨.nil, 0⟩ (memoK (.tup [(.agg [(.int .i64 3), (.str [41]), (.int .i64 0), (.int .i64 0)]), (.bool true)])) = True := by kernel_rfl

end Jet

/-
The chapter's examples, run by the kernel (made by program).
-/
set_option maxRecDepth 10000000
namespace Jet
open Go

theorem jetx11s14 : fRun T 4000 167 [.str [91, 98, 46, 120, 32, 61, 61, 32, 49, 93, 32, 87, 73, 84, 72, 73, 78, 32, 49]] ⟨.nil, 0⟩ (memoK (.tup [(.agg [(.int .i64 3), (.str [91]), (.int .i64 0), (.int .i64 0)]), (.bool true)])) = True := by kernel_rfl
theorem jetx11s15 : fRun T 4000 167 [.str [46, 120, 32, 61, 61, 32, 49, 93, 32, 87, 73, 84, 72, 73, 78, 32, 49]] ⟨.nil, 0⟩ (memoK (.tup [(.agg [(.int .i64 3), (.str [46]), (.int .i64 0), (.int .i64 0)]), (.bool true)])) = True := by kernel_rfl
theorem jetx11s16 : fRun T 4000 167 [.str [61, 61, 32, 49, 93, 32, 87, 73, 84, 72, 73, 78, 32, 49]] ⟨.nil, 0⟩ (memoK (.tup [(.agg [(.int .i64 3), (.str [61, 61]), (.int .i64 0), (.int .i64 0)]), (.bool true)])) = True := by kernel_rfl
theorem jetx11s17 : fRun T 4000 167 [.str [93, 32, 87, 73, 84, 72, 73, 78, 32, 49]] ⟨.nil, 0⟩ (memoK (.tup [(.agg [(.int .i64 3), (.str [93]), (.int .i64 0), (.int .i64 0)]), (.bool true)])) = True := by kernel_rfl
theorem jetx11s18 : fRun T 4000 167 [.str [91, 97, 46, 120, 93, 32, 87, 73, 84, 72, 73, 78, 32, 49]] ⟨.nil, 0⟩ (memoK (.tup [(.agg [(.int .i64 3), (.str [91]), (.int .i64 0), (.int .i64 0)]), (.bool true)])) = True := by kernel_rfl
theorem jetx11s19 : fRun T 4000 167 [.str [46, 120, 93, 32, 87, 73, 84, 72, 73, 78, 32, 49]] ⟨.nil, 0⟩ (memoK (.tup [(.agg [(.int .i64 3), (.str [46]), (.int .i64 0), (.int .i64 0)]), (.bool true)])) = True := by kernel_rfl
theorem jetx11s20 : fRun T 4000 167 [.str [33, 65, 32, 97, 32, 59, 32, 66, 32, 98, 32, 87, 73, 84, 72, 73, 78, 32, 49]] ⟨.nil, 0⟩ (memoK (.tup [(.agg [(.int .i64 3), (.str [33]), (.int .i64 0), (.int .i64 0)]), (.bool true)])) = True := by kernel_rfl
theorem jetx11s21 : fRun T 4000 167 [.str [59, 32, 66, 32, 98, 32, 87, 73, 84, 72, 73, 78, 32, 49]] ⟨.nil, 0⟩ (memoK (.tup [(.agg [(.int .i64 3), (.str [59]), (.int .i64 0), (.int .i64 0)]), (.bool true)])) = True := by kernel_rfl
theorem jetx11s22 : fRun T 4000 167 [.str [59, 32, 66, 32, 98, 91, 97, 46, 121, 32, 61, 61, 32, 49, 93, 32, 87, 73, 84, 72, 73, 78, 32, 49]] ⟨.nil, 0⟩ (memoK (.tup [(.agg [(.int .i64 3), (.str [59]), (.int .i64 0), (.int .i64 0)]), (.bool true)])) = True := by kernel_rfl
theorem jetx11s23 : fRun T 4000 167 [.str [91, 97, 46, 121, 32, 61, 61, 32, 49, 93, 32, 87, 73, 84, 72, 73, 78, 32, 49]] ⟨.nil, 0⟩ (memoK (.tup [(.agg [(.int .i64 3), (.str [91]), (.int .i64 0), (.int .i64 0)]), (.bool true)])) = True := by kernel_rfl
theorem jetx11s24 : fRun T 4000 167 [.str [46, 121, 32, 61, 61, 32, 49, 93, 32, 87, 73, 84, 72, 73, 78, 32, 49]] ⟨.nil, 0⟩ (memoK (.tup [(.agg [(.int .i64 3), (.str [46]), (.int .i64 0), (.int .i64 0)]), (.bool true)])) = True := by kernel_rfl
theorem jetx11s25 : fRun T 4000 167 [.str [123, 49, 44, 51, 125, 32, 59, 32, 40, 66, 32, 98, 32, 124, 32, 67, 32, 99, 123, 50, 44, 52, 125, 41, 32, 87, 73, 84, 72, 73, 78, 32, 49]] ⟨.nil, 0⟩ (memoK (.tup [(.agg [(.int .i64 3), (.str [123]), (.int .i64 0), (.int .i64 0)]), (.bool true)])) = True := by kernel_rfl
theorem jetx11s26 : fRun T 4000 167 [.str [44, 51, 125, 32, 59, 32, 40, 66, 32, 98, 32, 124, 32, 67, 32, 99, 123, 50, 44, 52, 125, 41, 32, 87, 73, 84, 72, 73, 78, 32, 49]] ⟨.nil, 0⟩ (memoK (.tup [(.agg [(.int .i64 3), (.str [44]), (.int .i64 0), (.int .i64 0)]), (.bool true)])) = True := by kernel_rfl
theorem jetx11s27 : fRun T 4000 167 [.str [125, 32, 59, 32, 40, 66, 32, 98, 32, 124, 32, 67, 32, 99, 123, 50, 44, 52, 125, 41, 32, 87, 73, 84, 72, 73, 78, 32, 49]] ⟨.nil, 0⟩ (memoK (.tup [(.agg [(.int .i64 3), (.str [125]), (.int .i64 0), (.int .i64 0)]), (.bool true)])) = True := by kernel_rfl

end Jet

/-
The chapter's examples, run by the kernel (made by program).
-/
set_option maxRecDepth 10000000
namespace Jet
open Go

theorem jetx11s28 : fRun T 4000 167 [.str [59, 32, 40, 66, 32, 98, 32, 124, 32, 67, 32, 99, 123, 50, 44, 52, 125, 41, 32, 87, 73, 84, 72, 73, 78, 32, 49]] ⟨.nil, 0⟩ (memoK (.tup [(.agg [(.int .i64 3), (.str [59]), (.int .i64 0), (.int .i64 0)]), (.bool true)])) = True := by kernel_rfl
theorem jetx11s29 : fRun T 4000 167 [.str [40, 66, 32, 98, 32, 124, 32, 67, 32, 99, 123, 50, 44, 52, 125, 41, 32, 87, 73, 84, 72, 73, 78, 32, 49]] ⟨.nil, 0⟩ (memoK (.tup [(.agg [(.int .i64 3), (.str [40]), (.int .i64 0), (.int .i64 0)]), (.bool true)])) = True := by kernel_rfl
theorem jetx11s30 : fRun T 4000 167 [.str [124, 32, 67, 32, 99, 123, 50, 44, 52, 125, 41, 32, 87, 73, 84, 72, 73, 78, 32, 49]] ⟨.nil, 0⟩ (memoK (.tup [(.agg [(.int .i64 3), (.str [124]), (.int .i64 0), (.int .i64 0)]), (.bool true)])) = True := by kernel_rfl
theorem jetx11s31 : fRun T 4000 167 [.str [123, 50, 44, 52, 125, 41, 32, 87, 73, 84, 72, 73, 78, 32, 49]] ⟨.nil, 0⟩ (memoK (.tup [(.agg [(.int .i64 3), (.str [123]), (.int .i64 0), (.int .i64 0)]), (.bool true)])) = True := by kernel_rfl
theorem jetx11s32 : fRun T 4000 167 [.str [44, 52, 125, 41, 32, 87, 73, 84, 72, 73, 78, 32, 49]] ⟨.nil, 0⟩ (memoK (.tup [(.agg [(.int .i64 3), (.str [44]), (.int .i64 0), (.int .i64 0)]), (.bool true)])) = True := by kernel_rfl
theorem jetx11s33 : fRun T 4000 167 [.str [125, 41, 32, 87, 73, 84, 72, 73, 78, 32, 49]] ⟨.nil, 0⟩ (memoK (.tup [(.agg [(.int .i64 3), (.str [125]), (.int .i64 0), (.int .i64 0)]), (.bool true)])) = True := by kernel_rfl
theorem jetx11s34 : fRun T 4000 167 [.str [41, 32, 87, 73, 84, 72, 73, 78, 32, 49]] ⟨.nil, 0⟩ (memoK (.tup [(.agg [(.int .i64 3), (.str [41]), (.int .i64 0), (.int .i64 0)]), (.bool true)])) = True := by kernel_rfl

end Jet

/-
The chapter's examples, run by the kernel (made by program).
-/
set_option maxRecDepth 10000000
namespace Jet
open Go Go.Proofs

def jetx11signs : List (List AV × AV) := [([.str [59, 32, 33, 66, 32, 98, 91, 98, 46, 121, 32, 61, 61, 32, 97, 46, 120, 93, 32, 59, 32, 40, 65, 32, 99, 123, 49, 44, 50, 125, 32, 124, 32, 67, 32, 100, 41, 32, 87, 73, 84, 72, 73, 78, 32, 49, 48, 32, 66, 89, 32, 107]], (.tup [(.agg [(.int .i64 3), (.str [59]), (.int .i64 0), (.int .i64 0)]), (.bool true)])), ([.str [33, 66, 32, 98, 91, 98, 46, 121, 32, 61, 61, 32, 97, 46, 120, 93, 32, 59, 32, 40, 65, 32, 99, 123, 49, 44, 50, 125, 32, 124, 32, 67, 32, 100, 41, 32, 87, 73, 84, 72, 73, 78, 32, 49, 48, 32, 66, 89, 32, 107]], (.tup [(.agg [(.int .i64 3), (.str [33]), (.int .i64 0), (.int .i64 0)]), (.bool true)])), ([.str [91, 98, 46, 121, 32, 61, 61, 32, 97, 46, 120, 93, 32, 59, 32, 40, 65, 32, 99, 123, 49, 44, 50, 125, 32, 124, 32, 67, 32, 100, 41, 32, 87, 73, 84, 72, 73, 78, 32, 49, 48, 32, 66, 89, 32, 107]], (.tup [(.agg [(.int .i64 3), (.str [91]), (.int .i64 0), (.int .i64 0)]), (.bool true)])), ([.str [46, 121, 32, 61, 61, 32, 97, 46, 120, 93, 32, 59, 32, 40, 65, 32, 99, 123, 49, 44, 50, 125, 32, 124, 32, 67, 32, 100, 41, 32, 87, 73, 84, 72, 73, 78, 32, 49, 48, 32, 66, 89, 32, 107]], (.tup [(.agg [(.int .i64 3), (.str [46]), (.int .i64 0), (.int .i64 0)]), (.bool true)])), ([.str [61, 61, 32, 97, 46, 120, 93, 32, 59, 32, 40, 65, 32, 99, 123, 49, 44, 50, 125, 32, 124, 32, 67, 32, 100, 41, 32, 87, 73, 84, 72, 73, 78, 32, 49, 48, 32, 66, 89, 32, 107]], (.tup [(.agg [(.int .i64 3), (.str [61, 61]), (.int .i64 0), (.int .i64 0)]), (.bool true)])), ([.str [46, 120, 93, 32, 59, 32, 40, 65, 32, 99, 123, 49, 44, 50, 125, 32, 124, 32, 67, 32, 100, 41, 32, 87, 73, 84, 72, 73, 78, 32, 49, 48, 32, 66, 89, 32, 107]], (.tup [(.agg [(.int .i64 3), (.str [46]), (.int .i64 0), (.int .i64 0)]), (.bool true)])), ([.str [93, 32, 59, 32, 40, 65, 32, 99, 123, 49, 44, 50, 125, 32, 124, 32, 67, 32, 100, 41, 32, 87, 73, 84, 72, 73, 78, 32, 49, 48, 32, 66, 89, 32, 107]], (.tup [(.agg [(.int .i64 3), (.str [93]), (.int .i64 0), (.int .i64 0)]), (.bool true)])), ([.str [59, 32, 40, 65, 32, 99, 123, 49, 44, 50, 125, 32, 124, 32, 67, 32, 100, 41, 32, 87, 73, 84, 72, 73, 78, 32, 49, 48, 32, 66, 89, 32, 107]], (.tup [(.agg [(.int .i64 3), (.str [59]), (.int .i64 0), (.int .i64 0)]), (.bool true)])), ([.str [40, 65, 32, 99, 123, 49, 44, 50, 125, 32, 124, 32, 67, 32, 100, 41, 32, 87, 73, 84, 72, 73, 78, 32, 49, 48, 32, 66, 89, 32, 107]], (.tup [(.agg [(.int .i64 3), (.str [40]), (.int .i64 0), (.int .i64 0)]), (.bool true)])), ([.str [123, 49, 44, 50, 125, 32, 124, 32, 67, 32, 100, 41, 32, 87, 73, 84, 72, 73, 78, 32, 49, 48, 32, 66, 89, 32, 107]], (.tup [(.agg [(.int .i64 3), (.str [123]), (.int .i64 0), (.int .i64 0)]), (.bool true)])), ([.str [44, 50, 125, 32, 124, 32, 67, 32, 100, 41, 32, 87, 73, 84, 72, 73, 78, 32, 49, 48, 32, 66, 89, 32, 107]], (.tup [(.agg [(.int .i64 3), (.str [44]), (.int .i64 0), (.int .i64 0)]), (.bool true)])), ([.str [125, 32, 124, 32, 67, 32, 100, 41, 32, 87, 73, 84, 72, 73, 78, 32, 49, 48, 32, 66, 89, 32, 107]], (.tup [(.agg [(.int .i64 3), (.str [125]), (.int .i64 0), (.int .i64 0)]), (.bool true)])), ([.str [124, 32, 67, 32, 100, 41, 32, 87, 73, 84, 72, 73, 78, 32, 49, 48, 32, 66, 89, 32, 107]], (.tup [(.agg [(.int .i64 3), (.str [124]), (.int .i64 0), (.int .i64 0)]), (.bool true)])), ([.str [41, 32, 87, 73, 84, 72, 73, 78, 32, 49, 48, 32, 66, 89, 32, 107]], (.tup [(.agg [(.int .i64 3), (.str [41]), (.int .i64 0), (.int .i64 0)]), (.bool true)])), ([.str [91, 98, 46, 120, 32, 61, 61, 32, 49, 93, 32, 87, 73, 84, 72, 73, 78, 32, 49]], (.tup [(.agg [(.int .i64 3), (.str [91]), (.int .i64 0), (.int .i64 0)]), (.bool true)])), ([.str [46, 120, 32, 61, 61, 32, 49, 93, 32, 87, 73, 84, 72, 73, 78, 32, 49]], (.tup [(.agg [(.int .i64 3), (.str [46]), (.int .i64 0), (.int .i64 0)]), (.bool true)])), ([.str [61, 61, 32, 49, 93, 32, 87, 73, 84, 72, 73, 78, 32, 49]], (.tup [(.agg [(.int .i64 3), (.str [61, 61]), (.int .i64 0), (.int .i64 0)]), (.bool true)])), ([.str [93, 32, 87, 73, 84, 72, 73, 78, 32, 49]], (.tup [(.agg [(.int .i64 3), (.str [93]), (.int .i64 0), (.int .i64 0)]), (.bool true)])), ([.str [91, 97, 46, 120, 93, 32, 87, 73, 84, 72, 73, 78, 32, 49]], (.tup [(.agg [(.int .i64 3), (.str [91]), (.int .i64 0), (.int .i64 0)]), (.bool true)])), ([.str [46, 120, 93, 32, 87, 73, 84, 72, 73, 78, 32, 49]], (.tup [(.agg [(.int .i64 3), (.str [46]), (.int .i64 0), (.int .i64 0)]), (.bool true)])), ([.str [33, 65, 32, 97, 32, 59, 32, 66, 32, 98, 32, 87, 73, 84, 72, 73, 78, 32, 49]], (.tup [(.agg [(.int .i64 3), (.str [33]), (.int .i64 0), (.int .i64 0)]), (.bool true)])), ([.str [59, 32, 66, 32, 98, 32, 87, 73, 84, 72, 73, 78, 32, 49]], (.tup [(.agg [(.int .i64 3), (.str [59]), (.int .i64 0), (.int .i64 0)]), (.bool true)])), ([.str [59, 32, 66, 32, 98, 91, 97, 46, 121, 32, 61, 61, 32, 49, 93, 32, 87, 73, 84, 72, 73, 78, 32, 49]], (.tup [(.agg [(.int .i64 3), (.str [59]), (.int .i64 0), (.int .i64 0)]), (.bool true)])), ([.str [91, 97, 46, 121, 32, 61, 61, 32, 49, 93, 32, 87, 73, 84, 72, 73, 78, 32, 49]], (.tup [(.agg [(.int .i64 3), (.str [91]), (.int .i64 0), (.int .i64 0)]), (.bool true)])), ([.str [46, 121, 32, 61, 61, 32, 49, 93, 32, 87, 73, 84, 72, 73, 78, 32, 49]], (.tup [(.agg [(.int .i64 3), (.str [46]), (.int .i64 0), (.int .i64 0)]), (.bool true)])), ([.str [123, 49, 44, 51, 125, 32, 59, 32, 40, 66, 32, 98, 32, 124, 32, 67, 32, 99, 123, 50, 44, 52, 125, 41, 32, 87, 73, 84, 72, 73, 78, 32, 49]], (.tup [(.agg [(.int .i64 3), (.str [123]), (.int .i64 0), (.int .i64 0)]), (.bool true)])), ([.str [44, 51, 125, 32, 59, 32, 40, 66, 32, 98, 32, 124, 32, 67, 32, 99, 123, 50, 44, 52, 125, 41, 32, 87, 73, 84, 72, 73, 78, 32, 49]], (.tup [(.agg [(.int .i64 3), (.str [44]), (.int .i64 0), (.int .i64 0)]), (.bool true)])), ([.str [125, 32, 59, 32, 40, 66, 32, 98, 32, 124, 32, 67, 32, 99, 123, 50, 44, 52, 125, 41, 32, 87, 73, 84, 72, 73, 78, 32, 49]], (.tup [(.agg [(.int .i64 3), (.str [125]), (.int .i64 0), (.int .i64 0)]), (.bool true)])), ([.str [59, 32, 40, 66, 32, 98, 32, 124, 32, 67, 32, 99, 123, 50, 44, 52, 125, 41, 32, 87, 73, 84, 72, 73, 78, 32, 49]], (.tup [(.agg [(.int .i64 3), (.str [59]), (.int .i64 0), (.int .i64 0)]), (.bool true)])), ([.str [40, 66, 32, 98, 32, 124, 32, 67, 32, 99, 123, 50, 44, 52, 125, 41, 32, 87, 73, 84, 72, 73, 78, 32, 49]], (.tup [(.agg [(.int .i64 3), (.str [40]), (.int .i64 0), (.int .i64 0)]), (.bool true)])), ([.str [124, 32, 67, 32, 99, 123, 50, 44, 52, 125, 41, 32, 87, 73, 84, 72, 73, 78, 32, 49]], (.tup [(.agg [(.int .i64 3), (.str [124]), (.int .i64 0), (.int .i64 0)]), (.bool true)])), ([.str [123, 50, 44, 52, 125, 41, 32, 87, 73, 84, 72, 73, 78, 32, 49]], (.tup [(.agg [(.int .i64 3), (.str [123]), (.int .i64 0), (.int .i64 0)]), (.bool true)])), ([.str [44, 52, 125, 41, 32, 87, 73, 84, 72, 73, 78, 32, 49]], (.tup [(.agg [(.int .i64 3), (.str [44]), (.int .i64 0), (.int .i64 0)]), (.bool true)])), ([.str [125, 41, 32, 87, 73, 84, 72, 73, 78, 32, 49]], (.tup [(.agg [(.int .i64 3), (.str [125]), (.int .i64 0), (.int .i64 0)]), (.bool true)])), ([.str [41, 32, 87, 73, 84, 72, 73, 78, 32, 49]], (.tup [(.agg [(.int .i64 3), (.str [41]), (.int .i64 0), (.int .i64 0)]), (.bool true)]))]
def jetx11T1 : Tab := T.memo 167 jetx11signs
theorem jetx11p0 : fRun jetx11T1 6000 17 [.str [65, 32, 97, 32, 59, 32, 33, 66, 32, 98, 91, 98, 46, 121, 32, 61, 61, 32, 97, 46, 120, 93, 32, 59, 32, 40, 65, 32, 99, 123, 49, 44, 50, 125, 32, 124, 32, 67, 32, 100, 41, 32, 87, 73, 84, 72, 73, 78, 32, 49, 48, 32, 66, 89, 32, 107]] ⟨.nil, 0⟩ (memoK (.tup [(.agg [(.sl .no [(.agg [(.int .i64 0), (.str [65]), (.str [97]), (.sl .full []), (.int .i64 0), (.int .i64 0), (.sl .full [])]), (.agg [(.int .i64 2), (.str [66]), (.str [98]), (.sl .full [(.agg [(.int .i64 3), (.str [61, 61]), (.int .i64 0), (.str []), (.str []), (.sl .full [(.agg [(.int .i64 1), (.str []), (.int .i64 0), (.str [98]), (.str [121]), (.sl .full [])]), (.agg [(.int .i64 1), (.str []), (.int .i64 0), (.str [97]), (.str [120]), (.sl .full [])])])])]), (.int .i64 0), (.int .i64 0), (.sl .full [])]), (.agg [(.int .i64 3), (.str []), (.str []), (.sl .full []), (.int .i64 0), (.int .i64 0), (.sl .no [(.sl .full [(.agg [(.int .i64 1), (.str [65]), (.str [99]), (.sl .full []), (.int .i64 1), (.int .i64 2), (.sl .full [])])]), (.sl .full [(.agg [(.int .i64 0), (.str [67]), (.str [100]), (.sl .full []), (.int .i64 0), (.int .i64 0), (.sl .full [])])])])])]), (.int .i64 10), (.str [107])]), (.int .i64 56), (.int .i64 0)])) = True := by kernel_rfl
theorem jetx11p1 : fRun jetx11T1 6000 17 [.str [68, 32, 97, 32, 87, 73, 84, 72, 73, 78, 32, 49]] ⟨.nil, 0⟩ (memoK (.tup [(.agg [(.sl .full [(.agg [(.int .i64 0), (.str [68]), (.str [97]), (.sl .full []), (.int .i64 0), (.int .i64 0), (.sl .full [])])]), (.int .i64 1), (.str [])]), (.int .i64 12), (.int .i64 0)])) = True := by kernel_rfl
theorem jetx11p2 : fRun jetx11T1 6000 17 [.str [65, 32, 97, 91, 98, 46, 120, 32, 61, 61, 32, 49, 93, 32, 87, 73, 84, 72, 73, 78, 32, 49]] ⟨.nil, 0⟩ (memoK (.tup [(.agg [(.sl .full [(.agg [(.int .i64 0), (.str [65]), (.str [97]), (.sl .full [(.agg [(.int .i64 3), (.str [61, 61]), (.int .i64 0), (.str []), (.str []), (.sl .full [(.agg [(.int .i64 1), (.str []), (.int .i64 0), (.str [98]), (.str [120]), (.sl .full [])]), (.agg [(.int .i64 0), (.str []), (.int .i64 1), (.str []), (.str []), (.sl .full [])])])])]), (.int .i64 0), (.int .i64 0), (.sl .full [])])]), (.int .i64 1), (.str [])]), (.int .i64 22), (.int .i64 0)])) = True := by kernel_rfl
theorem jetx11p3 : fRun jetx11T1 6000 17 [.str [65, 32, 97, 91, 97, 46, 120, 93, 32, 87, 73, 84, 72, 73, 78, 32, 49]] ⟨.nil, 0⟩ (memoK (.tup [(.agg [(.sl .full [(.agg [(.int .i64 0), (.str [65]), (.str [97]), (.sl .full [(.agg [(.int .i64 1), (.str []), (.int .i64 0), (.str [97]), (.str [120]), (.sl .full [])])]), (.int .i64 0), (.int .i64 0), (.sl .full [])])]), (.int .i64 1), (.str [])]), (.int .i64 17), (.int .i64 0)])) = True := by kernel_rfl
theorem jetx11p4 : fRun jetx11T1 6000 17 [.str [33, 65, 32, 97, 32, 59, 32, 66, 32, 98, 32, 87, 73, 84, 72, 73, 78, 32, 49]] ⟨.nil, 0⟩ (memoK (.tup [(.agg [(.sl .no [(.agg [(.int .i64 2), (.str [65]), (.str [97]), (.sl .full []), (.int .i64 0), (.int .i64 0), (.sl .full [])]), (.agg [(.int .i64 0), (.str [66]), (.str [98]), (.sl .full []), (.int .i64 0), (.int .i64 0), (.sl .full [])])]), (.int .i64 1), (.str [])]), (.int .i64 19), (.int .i64 0)])) = True := by kernel_rfl
theorem jetx11p5 : fRun jetx11T1 6000 17 [.str [65, 32, 97, 32, 59, 32, 66, 32, 98, 91, 97, 46, 121, 32, 61, 61, 32, 49, 93, 32, 87, 73, 84, 72, 73, 78, 32, 49]] ⟨.nil, 0⟩ (memoK (.tup [(.agg [(.sl .no [(.agg [(.int .i64 0), (.str [65]), (.str [97]), (.sl .full []), (.int .i64 0), (.int .i64 0), (.sl .full [])]), (.agg [(.int .i64 0), (.str [66]), (.str [98]), (.sl .full [(.agg [(.int .i64 3), (.str [61, 61]), (.int .i64 0), (.str []), (.str []), (.sl .full [(.agg [(.int .i64 1), (.str []), (.int .i64 0), (.str [97]), (.str [121]), (.sl .full [])]), (.agg [(.int .i64 0), (.str []), (.int .i64 1), (.str []), (.str []), (.sl .full [])])])])]), (.int .i64 0), (.int .i64 0), (.sl .full [])])]), (.int .i64 1), (.str [])]), (.int .i64 28), (.int .i64 0)])) = True := by kernel_rfl
theorem jetx11p6 : fRun jetx11T1 6000 17 [.str [65, 32, 97, 32, 87, 73, 84, 72, 73, 78, 32, 49, 32, 66, 89, 32, 120]] ⟨.nil, 0⟩ (memoK (.tup [(.agg [(.sl .full [(.agg [(.int .i64 0), (.str [65]), (.str [97]), (.sl .full []), (.int .i64 0), (.int .i64 0), (.sl .full [])])]), (.int .i64 1), (.str [120])]), (.int .i64 17), (.int .i64 0)])) = True := by kernel_rfl
theorem jetx11p7 : fRun jetx11T1 6000 17 [.str [65, 32, 97, 123, 49, 44, 51, 125, 32, 59, 32, 40, 66, 32, 98, 32, 124, 32, 67, 32, 99, 123, 50, 44, 52, 125, 41, 32, 87, 73, 84, 72, 73, 78, 32, 49]] ⟨.nil, 0⟩ (memoK (.tup [(.agg [(.sl .no [(.agg [(.int .i64 1), (.str [65]), (.str [97]), (.sl .full []), (.int .i64 1), (.int .i64 3), (.sl .full [])]), (.agg [(.int .i64 3), (.str []), (.str []), (.sl .full []), (.int .i64 0), (.int .i64 0), (.sl .no [(.sl .full [(.agg [(.int .i64 0), (.str [66]), (.str [98]), (.sl .full []), (.int .i64 0), (.int .i64 0), (.sl .full [])])]), (.sl .full [(.agg [(.int .i64 1), (.str [67]), (.str [99]), (.sl .full []), (.int .i64 2), (.int .i64 4), (.sl .full [])])])])])]), (.int .i64 1), (.str [])]), (.int .i64 36), (.int .i64 0)])) = True := by kernel_rfl

end Jet

/-
The chapter's examples, run by the kernel (made by program).
-/
set_option maxRecDepth 10000000
namespace Jet
open Go Go.Proofs

def jetx11texts : List (List AV × AV) := [([.str [65, 32, 97, 32, 59, 32, 33, 66, 32, 98, 91, 98, 46, 121, 32, 61, 61, 32, 97, 46, 120, 93, 32, 59, 32, 40, 65, 32, 99, 123, 49, 44, 50, 125, 32, 124, 32, 67, 32, 100, 41, 32, 87, 73, 84, 72, 73, 78, 32, 49, 48, 32, 66, 89, 32, 107]], (.tup [(.agg [(.sl .no [(.agg [(.int .i64 0), (.str [65]), (.str [97]), (.sl .full []), (.int .i64 0), (.int .i64 0), (.sl .full [])]), (.agg [(.int .i64 2), (.str [66]), (.str [98]), (.sl .full [(.agg [(.int .i64 3), (.str [61, 61]), (.int .i64 0), (.str []), (.str []), (.sl .full [(.agg [(.int .i64 1), (.str []), (.int .i64 0), (.str [98]), (.str [121]), (.sl .full [])]), (.agg [(.int .i64 1), (.str []), (.int .i64 0), (.str [97]), (.str [120]), (.sl .full [])])])])]), (.int .i64 0), (.int .i64 0), (.sl .full [])]), (.agg [(.int .i64 3), (.str []), (.str []), (.sl .full []), (.int .i64 0), (.int .i64 0), (.sl .no [(.sl .full [(.agg [(.int .i64 1), (.str [65]), (.str [99]), (.sl .full []), (.int .i64 1), (.int .i64 2), (.sl .full [])])]), (.sl .full [(.agg [(.int .i64 0), (.str [67]), (.str [100]), (.sl .full []), (.int .i64 0), (.int .i64 0), (.sl .full [])])])])])]), (.int .i64 10), (.str [107])]), (.int .i64 56), (.int .i64 0)])), ([.str [68, 32, 97, 32, 87, 73, 84, 72, 73, 78, 32, 49]], (.tup [(.agg [(.sl .full [(.agg [(.int .i64 0), (.str [68]), (.str [97]), (.sl .full []), (.int .i64 0), (.int .i64 0), (.sl .full [])])]), (.int .i64 1), (.str [])]), (.int .i64 12), (.int .i64 0)])), ([.str [65, 32, 97, 91, 98, 46, 120, 32, 61, 61, 32, 49, 93, 32, 87, 73, 84, 72, 73, 78, 32, 49]], (.tup [(.agg [(.sl .full [(.agg [(.int .i64 0), (.str [65]), (.str [97]), (.sl .full [(.agg [(.int .i64 3), (.str [61, 61]), (.int .i64 0), (.str []), (.str []), (.sl .full [(.agg [(.int .i64 1), (.str []), (.int .i64 0), (.str [98]), (.str [120]), (.sl .full [])]), (.agg [(.int .i64 0), (.str []), (.int .i64 1), (.str []), (.str []), (.sl .full [])])])])]), (.int .i64 0), (.int .i64 0), (.sl .full [])])]), (.int .i64 1), (.str [])]), (.int .i64 22), (.int .i64 0)])), ([.str [65, 32, 97, 91, 97, 46, 120, 93, 32, 87, 73, 84, 72, 73, 78, 32, 49]], (.tup [(.agg [(.sl .full [(.agg [(.int .i64 0), (.str [65]), (.str [97]), (.sl .full [(.agg [(.int .i64 1), (.str []), (.int .i64 0), (.str [97]), (.str [120]), (.sl .full [])])]), (.int .i64 0), (.int .i64 0), (.sl .full [])])]), (.int .i64 1), (.str [])]), (.int .i64 17), (.int .i64 0)])), ([.str [33, 65, 32, 97, 32, 59, 32, 66, 32, 98, 32, 87, 73, 84, 72, 73, 78, 32, 49]], (.tup [(.agg [(.sl .no [(.agg [(.int .i64 2), (.str [65]), (.str [97]), (.sl .full []), (.int .i64 0), (.int .i64 0), (.sl .full [])]), (.agg [(.int .i64 0), (.str [66]), (.str [98]), (.sl .full []), (.int .i64 0), (.int .i64 0), (.sl .full [])])]), (.int .i64 1), (.str [])]), (.int .i64 19), (.int .i64 0)])), ([.str [65, 32, 97, 32, 59, 32, 66, 32, 98, 91, 97, 46, 121, 32, 61, 61, 32, 49, 93, 32, 87, 73, 84, 72, 73, 78, 32, 49]], (.tup [(.agg [(.sl .no [(.agg [(.int .i64 0), (.str [65]), (.str [97]), (.sl .full []), (.int .i64 0), (.int .i64 0), (.sl .full [])]), (.agg [(.int .i64 0), (.str [66]), (.str [98]), (.sl .full [(.agg [(.int .i64 3), (.str [61, 61]), (.int .i64 0), (.str []), (.str []), (.sl .full [(.agg [(.int .i64 1), (.str []), (.int .i64 0), (.str [97]), (.str [121]), (.sl .full [])]), (.agg [(.int .i64 0), (.str []), (.int .i64 1), (.str []), (.str []), (.sl .full [])])])])]), (.int .i64 0), (.int .i64 0), (.sl .full [])])]), (.int .i64 1), (.str [])]), (.int .i64 28), (.int .i64 0)])), ([.str [65, 32, 97, 32, 87, 73, 84, 72, 73, 78, 32, 49, 32, 66, 89, 32, 120]], (.tup [(.agg [(.sl .full [(.agg [(.int .i64 0), (.str [65]), (.str [97]), (.sl .full []), (.int .i64 0), (.int .i64 0), (.sl .full [])])]), (.int .i64 1), (.str [120])]), (.int .i64 17), (.int .i64 0)])), ([.str [65, 32, 97, 123, 49, 44, 51, 125, 32, 59, 32, 40, 66, 32, 98, 32, 124, 32, 67, 32, 99, 123, 50, 44, 52, 125, 41, 32, 87, 73, 84, 72, 73, 78, 32, 49]], (.tup [(.agg [(.sl .no [(.agg [(.int .i64 1), (.str [65]), (.str [97]), (.sl .full []), (.int .i64 1), (.int .i64 3), (.sl .full [])]), (.agg [(.int .i64 3), (.str []), (.str []), (.sl .full []), (.int .i64 0), (.int .i64 0), (.sl .no [(.sl .full [(.agg [(.int .i64 0), (.str [66]), (.str [98]), (.sl .full []), (.int .i64 0), (.int .i64 0), (.sl .full [])])]), (.sl .full [(.agg [(.int .i64 1), (.str [67]), (.str [99]), (.sl .full []), (.int .i64 2), (.int .i64 4), (.sl .full [])])])])])]), (.int .i64 1), (.str [])]), (.int .i64 36), (.int .i64 0)]))]
def jetx11T2 : Tab := T.memo 17 jetx11texts
theorem jetx11run : fRun jetx11T2 6000 10 [] ⟨.nil, 0⟩ (memoK (.bool true)) = True := by kernel_rfl

theorem jetx11signs_ok : ∀ e ∈ jetx11signs, Ret Tryz.prog gl 167 e.1 e.2 := by
  intro e he
  simp only [jetx11signs, List.mem_cons, List.mem_nil_iff, or_false] at he
  rcases he with rfl | rfl | rfl | rfl | rfl | rfl | rfl | rfl | rfl | rfl | rfl | rfl | rfl | rfl | rfl | rfl | rfl | rfl | rfl | rfl | rfl | rfl | rfl | rfl | rfl | rfl | rfl | rfl | rfl | rfl | rfl | rfl | rfl | rfl | rfl
  · exact ret_of_run tabOk hm glFlat (by kernel_rfl) 4000 jetx11s0
  · exact ret_of_run tabOk hm glFlat (by kernel_rfl) 4000 jetx11s1
  · exact ret_of_run tabOk hm glFlat (by kernel_rfl) 4000 jetx11s2
  · exact ret_of_run tabOk hm glFlat (by kernel_rfl) 4000 jetx11s3
  · exact ret_of_run tabOk hm glFlat (by kernel_rfl) 4000 jetx11s4
  · exact ret_of_run tabOk hm glFlat (by kernel_rfl) 4000 jetx11s5
  · exact ret_of_run tabOk hm glFlat (by kernel_rfl) 4000 jetx11s6
  · exact ret_of_run tabOk hm glFlat (by kernel_rfl) 4000 jetx11s7
  · exact ret_of_run tabOk hm glFlat (by kernel_rfl) 4000 jetx11s8
  · exact ret_of_run tabOk hm glFlat (by kernel_rfl) 4000 jetx11s9
  · exact ret_of_run tabOk hm glFlat (by kernel_rfl) 4000 jetx11s10
  · exact ret_of_run tabOk hm glFlat (by kernel_rfl) 4000 jetx11s11
  · exact ret_of_run tabOk hm glFlat (by kernel_rfl) 4000 jetx11s12
  · exact ret_of_run tabOk hm glFlat (by kernel_rfl) 4000 jetx11s13
  · exact ret_of_run tabOk hm glFlat (by kernel_rfl) 4000 jetx11s14
  · exact ret_of_run tabOk hm glFlat (by kernel_rfl) 4000 jetx11s15
  · exact ret_of_run tabOk hm glFlat (by kernel_rfl) 4000 jetx11s16
  · exact ret_of_run tabOk hm glFlat (by kernel_rfl) 4000 jetx11s17
  · exact ret_of_run tabOk hm glFlat (by kernel_rfl) 4000 jetx11s18
  · exact ret_of_run tabOk hm glFlat (by kernel_rfl) 4000 jetx11s19
  · exact ret_of_run tabOk hm glFlat (by kernel_rfl) 4000 jetx11s20
  · exact ret_of_run tabOk hm glFlat (by kernel_rfl) 4000 jetx11s21
  · exact ret_of_run tabOk hm glFlat (by kernel_rfl) 4000 jetx11s22
  · exact ret_of_run tabOk hm glFlat (by kernel_rfl) 4000 jetx11s23
  · exact ret_of_run tabOk hm glFlat (by kernel_rfl) 4000 jetx11s24
  · exact ret_of_run tabOk hm glFlat (by kernel_rfl) 4000 jetx11s25
  · exact ret_of_run tabOk hm glFlat (by kernel_rfl) 4000 jetx11s26
  · exact ret_of_run tabOk hm glFlat (by kernel_rfl) 4000 jetx11s27
  · exact ret_of_run tabOk hm glFlat (by kernel_rfl) 4000 jetx11s28
  · exact ret_of_run tabOk hm glFlat (by kernel_rfl) 4000 jetx11s29
  · exact ret_of_run tabOk hm glFlat (by kernel_rfl) 4000 jetx11s30
  · exact ret_of_run tabOk hm glFlat (by kernel_rfl) 4000 jetx11s31
  · exact ret_of_run tabOk hm glFlat (by kernel_rfl) 4000 jetx11s32
  · exact ret_of_run tabOk hm glFlat (by kernel_rfl) 4000 jetx11s33
  · exact ret_of_run tabOk hm glFlat (by kernel_rfl) 4000 jetx11s34

theorem jetx11T1_ok : TabOk Tryz.prog gl jetx11T1 := tabOk.memo jetx11signs_ok

theorem jetx11texts_ok : ∀ e ∈ jetx11texts, Ret Tryz.prog gl 17 e.1 e.2 := by
  intro e he
  simp only [jetx11texts, List.mem_cons, List.mem_nil_iff, or_false] at he
  rcases he with rfl | rfl | rfl | rfl | rfl | rfl | rfl | rfl
  · exact ret_of_run jetx11T1_ok hm glFlat (by kernel_rfl) 6000 jetx11p0
  · exact ret_of_run jetx11T1_ok hm glFlat (by kernel_rfl) 6000 jetx11p1
  · exact ret_of_run jetx11T1_ok hm glFlat (by kernel_rfl) 6000 jetx11p2
  · exact ret_of_run jetx11T1_ok hm glFlat (by kernel_rfl) 6000 jetx11p3
  · exact ret_of_run jetx11T1_ok hm glFlat (by kernel_rfl) 6000 jetx11p4
  · exact ret_of_run jetx11T1_ok hm glFlat (by kernel_rfl) 6000 jetx11p5
  · exact ret_of_run jetx11T1_ok hm glFlat (by kernel_rfl) 6000 jetx11p6
  · exact ret_of_run jetx11T1_ok hm glFlat (by kernel_rfl) 6000 jetx11p7

theorem jetx11T2_ok : TabOk Tryz.prog gl jetx11T2 := tabOk.memo jetx11texts_ok

/-- The examples hold. -/
theorem jetx11ex : Ret Tryz.prog gl 10 [] (.bool true) := ret_of_run jetx11T2_ok hm glFlat (by kernel_rfl) 6000 jetx11run

end Jet

/-
CheckCounts answers true: the call.
-/
namespace Jet
open Go Go.Proofs

/-- The table that answers for the examples. -/
def tab11 : Tab := T.memo 10 [([], .bool true)]
set_option maxRecDepth 1000000 in
theorem tab11_ok : TabOk Tryz.prog gl tab11 := tabOk.memo (by
  intro e he
  simp only [List.mem_singleton] at he
  subst he
  exact jetx11ex)
theorem base11 : Base tab11 where
  fn f v h := h
  hook f h := by
    simp only [hooked, List.mem_cons, List.mem_nil_iff, or_false, not_or] at h
    have h1 : Nat.beq f 10 = false := Bool.eq_false_iff.2 fun e => h.1 (Nat.eq_of_beq_eq_true e)
    have h2 : Nat.beq f 255 = false := Bool.eq_false_iff.2 fun e => h.2.2 (Nat.eq_of_beq_eq_true e)
    simp only [tab11, Tab.memo, T, h1, h2]
theorem nats {ns : List Int} (h : (∀ n ∈ ns, 0 ≤ n ∧ n ≤ 255) ∧ ns.length ≤ 9223372036854775807) : BytesOk (ns.map Int.toNat) ∧ AV.sl .no (ns.map (AV.int .u8)) = bytesAV (ns.map Int.toNat) := by
  refine ⟨⟨?_, by simpa using h.2⟩, ?_⟩
  · intro b hb
    obtain ⟨n, hn, rfl⟩ := List.mem_map.1 hb
    have := h.1 n hn; omega
  · simp only [bytesAV, List.map_map]
    congr 1
    apply List.map_congr_left
    intro n hn
    have := h.1 n hn
    simp only [Function.comp]
    congr 1; omega

def sh (a : Value) (n : Int) (b : List UInt8) (o : Bool) (ns : List Int) : AV := .agg [.raw a, .int .i64 n, .str b, .bool o, .sl .no (ns.map (AV.int .u8))]

set_option maxRecDepth 1000000 in
theorem law3 (a a' : Value) (n n' : Int) (b b' : List UInt8) (o o' : Bool) (ns ns' : List Int) (h : (∀ n ∈ ns, 0 ≤ n ∧ n ≤ 255) ∧ ns.length ≤ 9223372036854775807) (h' : (∀ n ∈ ns', 0 ≤ n ∧ n ≤ 255) ∧ ns'.length ≤ 9223372036854775807) :
    ∃ σ', CallOk Tryz.prog gl 3 [sh a n b o ns, sh a' n' b' o' ns'] ⟨.nil, 0⟩ (.ret (.bool true)) σ' := by
  obtain ⟨hb, e⟩ := nats h
  obtain ⟨hb', e'⟩ := nats h'
  obtain ⟨_, σ', ⟨m, hm'⟩, rfl⟩ := counts_run base11 rfl hb hb' a a' n n' b b' o o' ⟨.nil, 0⟩
  refine ⟨σ', ?_⟩
  have := evCall_ok tab11_ok hm m _ _ _ _ _ (hm' m (Nat.le_refl _))
  rw [← e, ← e'] at this
  exact this

end Jet
